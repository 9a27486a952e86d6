/- A part of the proofs over layer 6 (give): the program and the specification; no condition. -/
import Derived.Test.YtnifdkjffcdhcaaGreatDoorHdG
set_option linter.all false
set_option linter.unusedSimpArgs false
set_option linter.unusedVariables false
namespace Go.Vc.Gd
open Go Go.Proofs Go.Vc
variable {Gl : World → Prop}
set_option maxRecDepth 100000
set_option maxHeartbeats 2000000
theorem read70V (S : Set Tryz.prog Y Gl) (hG : GlOK Gl) (s : List UInt8) {b : Book} {e : Int} (h1 : readBook s = b) (h2 : readErr s = e) : Computes Tryz.prog Gl 70 [str s] (.ret (.tup [.agg (cBook b), .c (Ci e)])) := by
 subst h1; subst h2; exact read70all S hG s
theorem read73V (S : Set Tryz.prog Y Gl) (s : List UInt8) (hs : s.length ≤ 290) {b : Book} (h : readS s = some b) : Computes Tryz.prog Gl 73 [str s] (.ret (.tup [.agg (cBook b), .c (Cb true)])) := by
 obtain ⟨ht, ha, rfl⟩ := readS_text h
 have hsp := split_pos 10 s
 have hml := mid_len (s := s)
 obtain ⟨s1, s2⟩ := bookTos_sm (mid s) (mid s).length fun i hi => List.all_eq_true.1 ha _ (nth_mem hi)
 exact read73 S s hs ha (s1.low (by omega)) ht
theorem read73N (S : Set Tryz.prog Y Gl) (s : List UInt8) (hs : s.length ≤ 290) (h : readS s = none) : Computes Tryz.prog Gl 73 [str s] (.ret (.tup [.agg [.v (.slice none 0 0), .v (.slice none 0 0), .v (.slice none 0 0)], .c (Cb false)])) := by
 have hsp := split_pos 10 s
 have hml := mid_len (s := s)
 refine read73r S s hs fun ha => ?_
 obtain ⟨s1, s2⟩ := bookTos_sm (mid s) (mid s).length fun i hi => List.all_eq_true.1 ha _ (nth_mem hi)
 refine ⟨s1.low (by omega), fun ht => ?_⟩
 unfold readS at h
 rw [ha, ht, beq_self_eq_true] at h
 cases h
theorem sameB_0 (S : Set Tryz.prog Y Gl) : Computes Tryz.prog Gl 72 [tBook ⟨[], [], []⟩, .d (.agg [.v (.slice none 0 0), .v (.slice none 0 0), .v (.slice none 0 0)])] (.ret (B true)) :=
 (sameB_T S ⟨[], [], []⟩).args (xs := [tBook ⟨[], [], []⟩, .d (.agg [.v (.slice none 0 0), .v (.slice none 0 0), .v (.slice none 0 0)])]) ⟨SEq_whole rfl, SEq_whole rfl, SEq_whole rfl, rfl, rfl, rfl⟩
theorem law19a (S : Set Tryz.prog Y Gl) (s : List UInt8) (hG : GlOK Gl) (h : decide (270 < ((bs s).size : Int)) = true) : Computes Tryz.prog Gl 19 [str s] (.ret (B true)) := by
 refine fn_is S (.val 12 true (.tt (.r (.ret (B true)) .nil))) Tryz.func19 (by kernel_rfl) (decide (270<(↑(ByteArray.size (bs s)):Int))=true∧true=true∧Computes Tryz.prog Gl 22 [] (.ret (B true))∧true=true) (by kernel_rfl) ?_
 simp only [stdS, imp_self, implies_true, and_true, Bool.false_and, Bool.true_and, Bool.and_true, Bool.and_false, Bool.false_or, Bool.true_or, Bool.or_false, Bool.or_true, Bool.false_eq_true, false_implies, true_implies, h]
 repeat' first | with_reducible apply And.intro | with_reducible intro _
 all_goals first
  | contradiction
  | with_reducible exact known22 S hG
  | exact known22 S hG
  | exact trivial
  | rfl
  | omega
theorem law19b (S : Set Tryz.prog Y Gl) (s : List UInt8) (hG : GlOK Gl) (h : decide (270 < ((bs s).size : Int)) = false) (h2 : decide (170 < ((bs s).size : Int)) = true) (h1 : Computes Tryz.prog Gl 70 [str s] (.ret (.tup [.agg (cBook ⟨[], [], []⟩), .c (Ci 3)]))) (b : List C) (x : Bool) (h3 : Computes Tryz.prog Gl 73 [str s] (.ret (.tup [.agg [.v (.slice none 0 0), .v (.slice none 0 0), .v (.slice none 0 0)], .c (Cb x)]))) : Computes Tryz.prog Gl 19 [str s] (.ret (B true)) := by
 refine fn_is S (.val 12 false (.ff (.r (.ret (.tup [D.agg (cBook (Book.mk [] [] [])),D.c (Ci 3)])) (.r (.ret (.tup [D.agg [C.v (Value.slice none 0 0),C.v (Value.slice none 0 0),C.v (Value.slice none 0 0)],D.c (Cb x)])) (.val 26 true (.tt (.tt (.sure 38 (.sure 39 (.sure 40 (.r (.ret (B true)) (.sure 43 (.r (.ret (B true)) .nil))))))))))))) Tryz.func19 (by kernel_rfl) (decide (270<(↑(ByteArray.size (bs s)):Int))=false∧false=false∧Computes Tryz.prog Gl 70 [str s] (.ret (.tup [D.agg (cBook (Book.mk [] [] [])),D.c (Ci 3)]))∧Computes Tryz.prog Gl 73 [str s] (.ret (.tup [D.agg [C.v (Value.slice none 0 0),C.v (Value.slice none 0 0),C.v (Value.slice none 0 0)],D.c (Cb x)]))∧decide (170<(↑(ByteArray.size (bs s)):Int))=true∧true=true∧true=true∧true=true∧true=true∧true=true∧Computes Tryz.prog Gl 72 [tBook (Book.mk [] [] []),T.d (D.agg [C.v (Value.slice none 0 0),C.v (Value.slice none 0 0),C.v (Value.slice none 0 0)])] (.ret (B true))∧true=true∧Computes Tryz.prog Gl 22 [] (.ret (B true))∧true=true) (by kernel_rfl) ?_
 simp only [stdS, imp_self, implies_true, and_true, Bool.false_and, Bool.true_and, Bool.and_true, Bool.and_false, Bool.false_or, Bool.true_or, Bool.or_false, Bool.or_true, Bool.false_eq_true, false_implies, true_implies, h, h2]
 repeat' first | with_reducible apply And.intro | with_reducible intro _
 all_goals first
  | contradiction
  | with_reducible exact known22 S hG
  | with_reducible exact h1
  | with_reducible exact h3
  | with_reducible exact sameB_0 S
  | exact known22 S hG
  | exact h1
  | exact h3
  | exact sameB_0 S
  | exact trivial
  | rfl
  | omega
theorem law19b2 (S : Set Tryz.prog Y Gl) (s : List UInt8) (b : Book) (x : Bool) (hG : GlOK Gl) (h : decide (270 < ((bs s).size : Int)) = false) (h2 : decide (170 < ((bs s).size : Int)) = true) (h1 : Computes Tryz.prog Gl 70 [str s] (.ret (.tup [.agg (cBook ⟨[], [], []⟩), .c (Ci 3)]))) (h3 : Computes Tryz.prog Gl 73 [str s] (.ret (.tup [.agg (cBook b), .c (Cb x)]))) : Computes Tryz.prog Gl 19 [str s] (.ret (B true)) := by
 refine fn_is S (.val 12 false (.ff (.r (.ret (.tup [D.agg (cBook (Book.mk [] [] [])),D.c (Ci 3)])) (.r (.ret (.tup [D.agg (cBook b),D.c (Cb x)])) (.val 26 true (.tt (.tt (.sure 38 (.sure 39 (.sure 40 (.r (.ret (B true)) (.sure 43 (.r (.ret (B true)) .nil))))))))))))) Tryz.func19 (by kernel_rfl) (decide (270<(↑(ByteArray.size (bs s)):Int))=false∧false=false∧Computes Tryz.prog Gl 70 [str s] (.ret (.tup [D.agg (cBook (Book.mk [] [] [])),D.c (Ci 3)]))∧Computes Tryz.prog Gl 73 [str s] (.ret (.tup [D.agg (cBook b),D.c (Cb x)]))∧decide (170<(↑(ByteArray.size (bs s)):Int))=true∧true=true∧true=true∧true=true∧true=true∧true=true∧Computes Tryz.prog Gl 72 [tBook (Book.mk [] [] []),T.d (D.agg [C.v (Value.slice none 0 0),C.v (Value.slice none 0 0),C.v (Value.slice none 0 0)])] (.ret (B true))∧true=true∧Computes Tryz.prog Gl 22 [] (.ret (B true))∧true=true) (by kernel_rfl) ?_
 simp only [stdS, imp_self, implies_true, and_true, Bool.false_and, Bool.true_and, Bool.and_true, Bool.and_false, Bool.false_or, Bool.true_or, Bool.or_false, Bool.or_true, Bool.false_eq_true, false_implies, true_implies, h, h2]
 repeat' first | with_reducible apply And.intro | with_reducible intro _
 all_goals first
  | contradiction
  | with_reducible exact known22 S hG
  | with_reducible exact h1
  | with_reducible exact h3
  | with_reducible exact sameB_0 S
  | exact known22 S hG
  | exact h1
  | exact h3
  | exact sameB_0 S
  | exact trivial
  | rfl
  | omega
theorem law19c (S : Set Tryz.prog Y Gl) (s : List UInt8) (hG : GlOK Gl) (h : decide (270 < ((bs s).size : Int)) = false) (h2 : decide (170 < ((bs s).size : Int)) = false) (h1 : Computes Tryz.prog Gl 70 [str s] (.ret (.tup [.agg (cBook ⟨[], [], []⟩), .c (Ci 4)]))) (h3 : Computes Tryz.prog Gl 73 [str s] (.ret (.tup [.agg [.v (.slice none 0 0), .v (.slice none 0 0), .v (.slice none 0 0)], .c (Cb false)]))) : Computes Tryz.prog Gl 19 [str s] (.ret (B true)) := by
 refine fn_is S (.val 12 false (.ff (.r (.ret (.tup [D.agg (cBook (Book.mk [] [] [])),D.c (Ci 4)])) (.r (.ret (.tup [D.agg [C.v (Value.slice none 0 0),C.v (Value.slice none 0 0),C.v (Value.slice none 0 0)],D.c (Cb false)])) (.val 26 false (.ff (.tt (.tt (.sure 38 (.sure 39 (.sure 40 (.r (.ret (B true)) (.sure 43 (.r (.ret (B true)) .nil)))))))))))))) Tryz.func19 (by kernel_rfl) (decide (270<(↑(ByteArray.size (bs s)):Int))=false∧false=false∧Computes Tryz.prog Gl 70 [str s] (.ret (.tup [D.agg (cBook (Book.mk [] [] [])),D.c (Ci 4)]))∧Computes Tryz.prog Gl 73 [str s] (.ret (.tup [D.agg [C.v (Value.slice none 0 0),C.v (Value.slice none 0 0),C.v (Value.slice none 0 0)],D.c (Cb false)]))∧decide (170<(↑(ByteArray.size (bs s)):Int))=false∧false=false∧true=true∧true=true∧true=true∧true=true∧true=true∧Computes Tryz.prog Gl 72 [tBook (Book.mk [] [] []),T.d (D.agg [C.v (Value.slice none 0 0),C.v (Value.slice none 0 0),C.v (Value.slice none 0 0)])] (.ret (B true))∧true=true∧Computes Tryz.prog Gl 22 [] (.ret (B true))∧true=true) (by kernel_rfl) ?_
 simp only [stdS, imp_self, implies_true, and_true, Bool.false_and, Bool.true_and, Bool.and_true, Bool.and_false, Bool.false_or, Bool.true_or, Bool.or_false, Bool.or_true, Bool.false_eq_true, false_implies, true_implies, h, h2]
 repeat' first | with_reducible apply And.intro | with_reducible intro _
 all_goals first
  | contradiction
  | with_reducible exact known22 S hG
  | with_reducible exact h1
  | with_reducible exact h3
  | with_reducible exact sameB_0 S
  | exact known22 S hG
  | exact h1
  | exact h3
  | exact sameB_0 S
  | exact trivial
  | rfl
  | omega
theorem law19d (S : Set Tryz.prog Y Gl) (s : List UInt8) (b : Book) (hG : GlOK Gl) (hb : b.ok = false) (h : decide (270 < ((bs s).size : Int)) = false) (h2 : decide (170 < ((bs s).size : Int)) = false) (h1 : Computes Tryz.prog Gl 70 [str s] (.ret (.tup [.agg (cBook ⟨[], [], []⟩), .c (Ci 2)]))) (h3 : Computes Tryz.prog Gl 73 [str s] (.ret (.tup [.agg (cBook b), .c (Cb true)]))) : Computes Tryz.prog Gl 19 [str s] (.ret (B true)) := by
 refine fn_is S (.val 12 false (.ff (.r (.ret (.tup [D.agg (cBook (Book.mk [] [] [])),D.c (Ci 2)])) (.r (.ret (.tup [D.agg (cBook b),D.c (Cb true)])) (.val 26 false (.ff (.ff (.r (.ret (B false)) (.tt (.tt (.sure 38 (.sure 39 (.sure 40 (.r (.ret (B true)) (.sure 43 (.r (.ret (B true)) .nil)))))))))))))))) Tryz.func19 (by kernel_rfl) (decide (270<(↑(ByteArray.size (bs s)):Int))=false∧false=false∧Computes Tryz.prog Gl 70 [str s] (.ret (.tup [D.agg (cBook (Book.mk [] [] [])),D.c (Ci 2)]))∧Computes Tryz.prog Gl 73 [str s] (.ret (.tup [D.agg (cBook b),D.c (Cb true)]))∧decide (170<(↑(ByteArray.size (bs s)):Int))=false∧false=false∧false=false∧Computes Tryz.prog Gl 52 [tBook b] (.ret (B false))∧true=true∧true=true∧true=true∧true=true∧true=true∧Computes Tryz.prog Gl 72 [tBook (Book.mk [] [] []),T.d (D.agg [C.v (Value.slice none 0 0),C.v (Value.slice none 0 0),C.v (Value.slice none 0 0)])] (.ret (B true))∧true=true∧Computes Tryz.prog Gl 22 [] (.ret (B true))∧true=true) (by kernel_rfl) ?_
 simp only [stdS, imp_self, implies_true, and_true, Bool.false_and, Bool.true_and, Bool.and_true, Bool.and_false, Bool.false_or, Bool.true_or, Bool.or_false, Bool.or_true, Bool.false_eq_true, false_implies, true_implies, h, h2]
 repeat' first | with_reducible apply And.intro | with_reducible intro _
 all_goals first
  | contradiction
  | with_reducible exact known22 S hG
  | with_reducible exact h1
  | with_reducible exact h3
  | with_reducible exact sameB_0 S
  | with_reducible exact bookV S b hb
  | exact known22 S hG
  | exact h1
  | exact h3
  | exact sameB_0 S
  | exact bookV S b hb
  | exact trivial
  | rfl
  | omega
theorem law19e (S : Set Tryz.prog Y Gl) (s : List UInt8) (b : Book) (hG : GlOK Gl) (hb : b.ok = true) (ht : ((bs b.text).toList == (bs s).toList) = true) (h : decide (270 < ((bs s).size : Int)) = false) (h2 : decide (170 < ((bs s).size : Int)) = false) (h1 : Computes Tryz.prog Gl 70 [str s] (.ret (.tup [.agg (cBook b), .c (Ci 0)]))) (h3 : Computes Tryz.prog Gl 73 [str s] (.ret (.tup [.agg (cBook b), .c (Cb true)]))) : Computes Tryz.prog Gl 19 [str s] (.ret (B true)) := by
 refine fn_is S (.val 12 false (.ff (.r (.ret (.tup [D.agg (cBook b),D.c (Ci 0)])) (.r (.ret (.tup [D.agg (cBook b),D.c (Cb true)])) (.val 26 false (.ff (.ff (.r (.ret (B true)) (.ff (.ff (.r (.ret (.tup [D.c (C.v (Value.string (bs (Book.text b)))),D.c (Ci 0)])) (.sure 53 (.sure 54 (.sure 55 (.r (.ret (B true)) (.sure 58 (.sure 59 (.sure 62 (.sure 63 (.val 64 true (.sure 64 (.sure 67 (.r (.ret (B true)) .nil))))))))))))))))))))))) Tryz.func19 (by kernel_rfl) (decide (270<(↑(ByteArray.size (bs s)):Int))=false∧false=false∧Computes Tryz.prog Gl 70 [str s] (.ret (.tup [D.agg (cBook b),D.c (Ci 0)]))∧Computes Tryz.prog Gl 73 [str s] (.ret (.tup [D.agg (cBook b),D.c (Cb true)]))∧decide (170<(↑(ByteArray.size (bs s)):Int))=false∧false=false∧false=false∧Computes Tryz.prog Gl 52 [tBook b] (.ret (B true))∧false=false∧false=false∧Computes Tryz.prog Gl 69 [tBook b] (.ret (.tup [D.c (C.v (Value.string (bs (Book.text b)))),D.c (Ci 0)]))∧true=true∧true=true∧true=true∧Computes Tryz.prog Gl 72 [tBook b,tBook b] (.ret (B true))∧true=true∧true=true∧true=true∧true=true∧(ByteArray.toList (bs (Book.text b))==ByteArray.toList (bs s))=true∧true=true∧true=true∧Computes Tryz.prog Gl 22 [] (.ret (B true))∧true=true) (by kernel_rfl) ?_
 simp only [stdS, imp_self, implies_true, and_true, Bool.false_and, Bool.true_and, Bool.and_true, Bool.and_false, Bool.false_or, Bool.true_or, Bool.or_false, Bool.or_true, Bool.false_eq_true, false_implies, true_implies, h, h2, ht]
 repeat' first | with_reducible apply And.intro | with_reducible intro _
 all_goals first
  | contradiction
  | with_reducible exact known22 S hG
  | with_reducible exact h1
  | with_reducible exact h3
  | with_reducible exact bookV S b hb
  | with_reducible exact print69 S b hb (ok_low hb)
  | with_reducible exact sameB_T S b
  | with_reducible exact ht
  | exact known22 S hG
  | exact h1
  | exact h3
  | exact bookV S b hb
  | exact print69 S b hb (ok_low hb)
  | exact sameB_T S b
  | exact ht
  | exact trivial
  | rfl
  | omega
theorem law19 (S : Set Tryz.prog Y Gl) (s : List UInt8) (hG : GlOK Gl) : Computes Tryz.prog Gl 19 [str s] (.ret (B true)) := by
 have hsz : ((bs s).size : Int) = (s.length : Int) := by rw [bs_size]
 cases h : decide (270 < ((bs s).size : Int)) with
 | true => exact law19a S s hG h
 | false =>
 have hl : s.length ≤ 290 := by have := of_decide_eq_false h; omega
 have hpr := parse_eq_readS hl
 cases h2 : decide (170 < ((bs s).size : Int)) with
 | true =>
  have hlong : decide (170 < s.length) = true := decide_eq_true (by have := of_decide_eq_true h2; omega)
  have h1 := read70V S hG s (b := ⟨[], [], []⟩) (e := 3) (by unfold readBook; rw [hlong]; rfl) (by unfold readErr; rw [hlong]; rfl)
  cases hr : readS s with
  | none => exact law19b S s hG h h2 h1 [] false (read73N S s hl hr)
  | some b => exact law19b2 S s b true hG h h2 h1 (read73V S s hl hr)
 | false =>
  have hlong : decide (170 < s.length) = false := decide_eq_false (by have := of_decide_eq_false h2; omega)
  cases hr : readS s with
  | none =>
   rw [hr] at hpr
   exact law19c S s hG h h2 (read70V S hG s (by unfold readBook; rw [hlong, hpr]; rfl) (by unfold readErr; rw [hlong, hpr]; rfl)) (read73N S s hl hr)
  | some b =>
   rw [hr] at hpr
   cases hb : b.ok with
   | false => exact law19d S s b hG hb h h2 (read70V S hG s (by unfold readBook; rw [hlong, hpr]; simp only [cond_false]; rw [hb]; rfl) (by unfold readErr; rw [hlong, hpr]; simp only [cond_false]; rw [hb]; rfl)) (read73V S s hl hr)
   | true => exact law19e S s b hG hb (by rw [bs_tl, bs_tl, (readS_text hr).1]; exact beq_self_eq_true s) h h2 (read70V S hG s (by unfold readBook; rw [hlong, hpr]; simp only [cond_false]; rw [hb]; rfl) (by unfold readErr; rw [hlong, hpr]; simp only [cond_false]; rw [hb]; rfl)) (read73V S s hl hr)
theorem law19B (S : Set Tryz.prog Y Gl) (s : ByteArray) (hG : GlOK Gl) : Computes Tryz.prog Gl 19 [.d (.c (.v (.string s)))] (.ret (B true)) := law19 S s.data.toList hG
end Go.Vc.Gd
