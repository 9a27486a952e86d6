/- A part of the proofs over layer 6 (give): the program and the specification; no condition. -/
import Derived.Test.YtnifdkjffcdhcaaGreatDoorHtF
set_option linter.all false
set_option linter.unusedSimpArgs false
set_option linter.unusedVariables false
namespace Go.Vc.Gd
open Go Go.Proofs Go.Vc
variable {Gl : World → Prop}
set_option maxRecDepth 100000
set_option maxHeartbeats 2000000
theorem read70W (S : Set Tryz.prog Y Gl) (hG : GlOK Gl) (s : List UInt8) {b : Book} {e : Int} (h1 : readBook s = b) (h2 : readErr s = e) : Computes Tryz.prog Gl 70 [str s] (.ret (.tup [.agg (cBook b), .c (Ci e)])) := by
 subst h1; subst h2; exact read70all S hG s
theorem sameB_W (S : Set Tryz.prog Y Gl) : Computes Tryz.prog Gl 72 [tBook ⟨[], [], []⟩, .d (.agg [.v (.slice none 0 0), .v (.slice none 0 0), .v (.slice none 0 0)])] (.ret (B true)) :=
 (sameB_T S ⟨[], [], []⟩).args (xs := [tBook ⟨[], [], []⟩, .d (.agg [.v (.slice none 0 0), .v (.slice none 0 0), .v (.slice none 0 0)])]) ⟨SEq_whole rfl, SEq_whole rfl, SEq_whole rfl, rfl, rfl, rfl⟩
theorem law20a (S : Set Tryz.prog Y Gl) (b : Book) (at' digit : Int) (hG : GlOK Gl) (h : b.ok = false) : Computes Tryz.prog Gl 20 [tBook b, I at', I digit] (.ret (B true)) := by
 refine fn_is S (.r (.ret (B false)) (.tt (.r (.ret (B true)) .nil))) Tryz.func20 (by kernel_rfl) (Computes Tryz.prog Gl 21 [tBook b] (.ret (B false))∧(false=true→false=true)∧(true=false→false=true)∧(false=true→false=true)∧(true=false→false=true)∧true=true∧Computes Tryz.prog Gl 22 [] (.ret (B true))∧true=true) (by kernel_rfl) ?_
 simp only [stdS, imp_self, implies_true, and_true, Bool.false_and, Bool.true_and, Bool.and_true, Bool.and_false, Bool.false_or, Bool.true_or, Bool.or_false, Bool.or_true, Bool.false_eq_true, false_implies, true_implies]
 repeat' first | with_reducible apply And.intro | with_reducible intro _
 all_goals first
  | contradiction
  | with_reducible exact known22 S hG
  | with_reducible exact rightV S b h
  | exact known22 S hG
  | exact rightV S b h
  | exact trivial
  | rfl
  | omega
theorem law20b (S : Set Tryz.prog Y Gl) (b : Book) (at' digit : Int) (hG : GlOK Gl) (h : b.ok = true) (e1 : decide (digit < 0) = true) : Computes Tryz.prog Gl 20 [tBook b, I at', I digit] (.ret (B true)) := by
 refine fn_is S (.r (.ret (B true)) (.sure 16 (.val 17 true (.sure 17 (.tt (.r (.ret (B true)) .nil)))))) Tryz.func20 (by kernel_rfl) (Computes Tryz.prog Gl 21 [tBook b] (.ret (B true))∧true=true∧decide (digit<(0:Int))=true∧true=true∧(false=true→false=true)∧(true=false→false=true)∧true=true∧Computes Tryz.prog Gl 22 [] (.ret (B true))∧true=true) (by kernel_rfl) ?_
 simp only [stdS, imp_self, implies_true, and_true, Bool.false_and, Bool.true_and, Bool.and_true, Bool.and_false, Bool.false_or, Bool.true_or, Bool.or_false, Bool.or_true, Bool.false_eq_true, false_implies, true_implies, e1]
 repeat' first | with_reducible apply And.intro | with_reducible intro _
 all_goals first
  | contradiction
  | with_reducible exact known22 S hG
  | with_reducible exact rightV S b h
  | exact known22 S hG
  | exact rightV S b h
  | exact trivial
  | rfl
  | omega
theorem law20c (S : Set Tryz.prog Y Gl) (b : Book) (at' digit : Int) (hG : GlOK Gl) (h : b.ok = true) (e1 : decide (digit < 0) = false) (e2 : decide (9 < digit) = true) : Computes Tryz.prog Gl 20 [tBook b, I at', I digit] (.ret (B true)) := by
 refine fn_is S (.r (.ret (B true)) (.sure 16 (.val 17 false (.sure 17 (.sure 20 (.val 21 true (.sure 21 (.tt (.r (.ret (B true)) .nil))))))))) Tryz.func20 (by kernel_rfl) (Computes Tryz.prog Gl 21 [tBook b] (.ret (B true))∧true=true∧decide (digit<(0:Int))=false∧true=true∧true=true∧decide ((9:Int)<digit)=true∧true=true∧true=true∧Computes Tryz.prog Gl 22 [] (.ret (B true))∧true=true) (by kernel_rfl) ?_
 simp only [stdS, imp_self, implies_true, and_true, Bool.false_and, Bool.true_and, Bool.and_true, Bool.and_false, Bool.false_or, Bool.true_or, Bool.or_false, Bool.or_true, Bool.false_eq_true, false_implies, true_implies, e1, e2]
 repeat' first | with_reducible apply And.intro | with_reducible intro _
 all_goals first
  | contradiction
  | with_reducible exact known22 S hG
  | with_reducible exact rightV S b h
  | exact known22 S hG
  | exact rightV S b h
  | exact trivial
  | rfl
  | omega
theorem law20d (S : Set Tryz.prog Y Gl) (b : Book) (at' digit : Int) (hG : GlOK Gl) (h : b.ok = true) (e1 : decide (digit < 0) = false) (e2 : decide (9 < digit) = false) (e3 : decide (at' < 0) = true) : Computes Tryz.prog Gl 20 [tBook b, I at', I digit] (.ret (B true)) := by
 refine fn_is S (.r (.ret (B true)) (.sure 16 (.val 17 false (.sure 17 (.sure 20 (.val 21 false (.sure 21 (.ff (.r (.ret (.tup [D.c (C.v (Value.string (bs (Book.text b)))),D.c (Ci 0)])) (.ff (.val 32 true (.tt (.r (.ret (B true)) .nil))))))))))))) Tryz.func20 (by kernel_rfl) (Computes Tryz.prog Gl 21 [tBook b] (.ret (B true))∧true=true∧decide (digit<(0:Int))=false∧true=true∧true=true∧decide ((9:Int)<digit)=false∧true=true∧false=false∧Computes Tryz.prog Gl 69 [tBook b] (.ret (.tup [D.c (C.v (Value.string (bs (Book.text b)))),D.c (Ci 0)]))∧false=false∧decide (at'<(0:Int))=true∧(false=true→false=true)∧(false=true→false=true)∧(false=true→false=true)∧(true=false→false=true)∧(false=true→false=true)∧(false=true→false=true)∧(false=true→(0:Int)≤at'∧at'<(↑(ByteArray.size (bs (Book.text b))):Int))∧(false=true→false=true)∧(true=false→false=true)∧(false=true→false=true)∧(false=true→false=true)∧(false=true→(0:Int)≤at'∧at'<(↑(ByteArray.size (bs (Book.text b))):Int))∧(false=true→false=true)∧(true=false→false=true)∧(false=true→false=true)∧(false=true→false=true)∧(false=true→(0:Int)≤at'∧at'<(↑(ByteArray.size (bs (Book.text b))):Int))∧(false=true→false=true)∧(false=true→inRange IntKind.u8 (byteAt (bs (Book.text b)) (Int.toNat at')-(48:Int)))∧(false=true→false=true)∧(false=true→inRange IntKind.i64 (byteAt (bs (Book.text b)) (Int.toNat at')-(48:Int)))∧(false=true→false=true)∧(false=true→false=true)∧(true=false→false=true)∧true=true∧Computes Tryz.prog Gl 22 [] (.ret (B true))∧true=true) (by kernel_rfl) ?_
 simp only [stdS, imp_self, implies_true, and_true, Bool.false_and, Bool.true_and, Bool.and_true, Bool.and_false, Bool.false_or, Bool.true_or, Bool.or_false, Bool.or_true, Bool.false_eq_true, false_implies, true_implies, e1, e2, e3]
 repeat' first | with_reducible apply And.intro | with_reducible intro _
 all_goals first
  | contradiction
  | with_reducible exact known22 S hG
  | with_reducible exact rightV S b h
  | with_reducible exact print69 S b h (ok_low h)
  | exact known22 S hG
  | exact rightV S b h
  | exact print69 S b h (ok_low h)
  | exact trivial
  | rfl
  | omega
theorem law20e (S : Set Tryz.prog Y Gl) (b : Book) (at' digit : Int) (hG : GlOK Gl) (h : b.ok = true) (e1 : decide (digit < 0) = false) (e2 : decide (9 < digit) = false) (e3 : decide (at' < 0) = false) (e4 : decide (((bs b.text).size : Int) ≤ at') = true) : Computes Tryz.prog Gl 20 [tBook b, I at', I digit] (.ret (B true)) := by
 refine fn_is S (.r (.ret (B true)) (.sure 16 (.val 17 false (.sure 17 (.sure 20 (.val 21 false (.sure 21 (.ff (.r (.ret (.tup [D.c (C.v (Value.string (bs (Book.text b)))),D.c (Ci 0)])) (.ff (.val 32 false (.sure 34 (.sure 35 (.sure 36 (.val 37 true (.sure 37 (.tt (.r (.ret (B true)) .nil)))))))))))))))))) Tryz.func20 (by kernel_rfl) (Computes Tryz.prog Gl 21 [tBook b] (.ret (B true))∧true=true∧decide (digit<(0:Int))=false∧true=true∧true=true∧decide ((9:Int)<digit)=false∧true=true∧false=false∧Computes Tryz.prog Gl 69 [tBook b] (.ret (.tup [D.c (C.v (Value.string (bs (Book.text b)))),D.c (Ci 0)]))∧false=false∧decide (at'<(0:Int))=false∧true=true∧true=true∧true=true∧decide ((↑(ByteArray.size (bs (Book.text b))):Int)≤at')=true∧true=true∧(false=true→false=true)∧(false=true→false=true)∧(false=true→(0:Int)≤at'∧at'<(↑(ByteArray.size (bs (Book.text b))):Int))∧(false=true→false=true)∧(true=false→false=true)∧(false=true→false=true)∧(false=true→false=true)∧(false=true→(0:Int)≤at'∧at'<(↑(ByteArray.size (bs (Book.text b))):Int))∧(false=true→false=true)∧(true=false→false=true)∧(false=true→false=true)∧(false=true→false=true)∧(false=true→(0:Int)≤at'∧at'<(↑(ByteArray.size (bs (Book.text b))):Int))∧(false=true→false=true)∧(false=true→inRange IntKind.u8 (byteAt (bs (Book.text b)) (Int.toNat at')-(48:Int)))∧(false=true→false=true)∧(false=true→inRange IntKind.i64 (byteAt (bs (Book.text b)) (Int.toNat at')-(48:Int)))∧(false=true→false=true)∧(false=true→false=true)∧(true=false→false=true)∧true=true∧Computes Tryz.prog Gl 22 [] (.ret (B true))∧true=true) (by kernel_rfl) ?_
 simp only [stdS, imp_self, implies_true, and_true, Bool.false_and, Bool.true_and, Bool.and_true, Bool.and_false, Bool.false_or, Bool.true_or, Bool.or_false, Bool.or_true, Bool.false_eq_true, false_implies, true_implies, e1, e2, e3, e4]
 repeat' first | with_reducible apply And.intro | with_reducible intro _
 all_goals first
  | contradiction
  | with_reducible exact known22 S hG
  | with_reducible exact rightV S b h
  | with_reducible exact print69 S b h (ok_low h)
  | exact known22 S hG
  | exact rightV S b h
  | exact print69 S b h (ok_low h)
  | exact trivial
  | rfl
  | omega
theorem law20f (S : Set Tryz.prog Y Gl) (b : Book) (at' digit : Int) (hG : GlOK Gl) (h : b.ok = true) (e1 : decide (digit < 0) = false) (e2 : decide (9 < digit) = false) (e3 : decide (at' < 0) = false) (e4 : decide (((bs b.text).size : Int) ≤ at') = false) (e5 : decide (byteAt (bs b.text) at'.toNat < 48) = true) : Computes Tryz.prog Gl 20 [tBook b, I at', I digit] (.ret (B true)) := by
 refine fn_is S (.r (.ret (B true)) (.sure 16 (.val 17 false (.sure 17 (.sure 20 (.val 21 false (.sure 21 (.ff (.r (.ret (.tup [D.c (C.v (Value.string (bs (Book.text b)))),D.c (Ci 0)])) (.ff (.val 32 false (.sure 34 (.sure 35 (.sure 36 (.val 37 false (.sure 37 (.sure 40 (.sure 41 (.sure 42 (.val 43 true (.sure 43 (.tt (.r (.ret (B true)) .nil))))))))))))))))))))))) Tryz.func20 (by kernel_rfl) (Computes Tryz.prog Gl 21 [tBook b] (.ret (B true))∧true=true∧decide (digit<(0:Int))=false∧true=true∧true=true∧decide ((9:Int)<digit)=false∧true=true∧false=false∧Computes Tryz.prog Gl 69 [tBook b] (.ret (.tup [D.c (C.v (Value.string (bs (Book.text b)))),D.c (Ci 0)]))∧false=false∧decide (at'<(0:Int))=false∧true=true∧true=true∧true=true∧decide ((↑(ByteArray.size (bs (Book.text b))):Int)≤at')=false∧true=true∧true=true∧true=true∧true=true∧((0:Int)≤at'∧at'<(↑(ByteArray.size (bs (Book.text b))):Int))∧decide (byteAt (bs (Book.text b)) (Int.toNat at')<(48:Int))=true∧true=true∧(false=true→false=true)∧(false=true→false=true)∧(false=true→(0:Int)≤at'∧at'<(↑(ByteArray.size (bs (Book.text b))):Int))∧(false=true→false=true)∧(true=false→false=true)∧(false=true→false=true)∧(false=true→false=true)∧(false=true→(0:Int)≤at'∧at'<(↑(ByteArray.size (bs (Book.text b))):Int))∧(false=true→false=true)∧(false=true→inRange IntKind.u8 (byteAt (bs (Book.text b)) (Int.toNat at')-(48:Int)))∧(false=true→false=true)∧(false=true→inRange IntKind.i64 (byteAt (bs (Book.text b)) (Int.toNat at')-(48:Int)))∧(false=true→false=true)∧(false=true→false=true)∧(true=false→false=true)∧true=true∧Computes Tryz.prog Gl 22 [] (.ret (B true))∧true=true) (by kernel_rfl) ?_
 have f1 := of_decide_eq_false e1
 have f2 := of_decide_eq_false e2
 have f3 := of_decide_eq_false e3
 have f4 := of_decide_eq_false e4
 simp only [stdS, imp_self, implies_true, and_true, Bool.false_and, Bool.true_and, Bool.and_true, Bool.and_false, Bool.false_or, Bool.true_or, Bool.or_false, Bool.or_true, Bool.false_eq_true, false_implies, true_implies, e1, e2, e3, e4, e5, rng_iff, u8_iff]
 repeat' first | with_reducible apply And.intro | with_reducible intro _
 all_goals first
  | contradiction
  | with_reducible exact known22 S hG
  | with_reducible exact rightV S b h
  | with_reducible exact print69 S b h (ok_low h)
  | exact known22 S hG
  | exact rightV S b h
  | exact print69 S b h (ok_low h)
  | exact trivial
  | rfl
  | omega
theorem law20g (S : Set Tryz.prog Y Gl) (b : Book) (at' digit : Int) (hG : GlOK Gl) (h : b.ok = true) (e1 : decide (digit < 0) = false) (e2 : decide (9 < digit) = false) (e3 : decide (at' < 0) = false) (e4 : decide (((bs b.text).size : Int) ≤ at') = false) (e5 : decide (byteAt (bs b.text) at'.toNat < 48) = false) (e6 : decide (57 < byteAt (bs b.text) at'.toNat) = true) : Computes Tryz.prog Gl 20 [tBook b, I at', I digit] (.ret (B true)) := by
 refine fn_is S (.r (.ret (B true)) (.sure 16 (.val 17 false (.sure 17 (.sure 20 (.val 21 false (.sure 21 (.ff (.r (.ret (.tup [D.c (C.v (Value.string (bs (Book.text b)))),D.c (Ci 0)])) (.ff (.val 32 false (.sure 34 (.sure 35 (.sure 36 (.val 37 false (.sure 37 (.sure 40 (.sure 41 (.sure 42 (.val 43 false (.sure 43 (.sure 46 (.sure 47 (.sure 48 (.val 49 true (.sure 49 (.tt (.r (.ret (B true)) .nil)))))))))))))))))))))))))))) Tryz.func20 (by kernel_rfl) (Computes Tryz.prog Gl 21 [tBook b] (.ret (B true))∧true=true∧decide (digit<(0:Int))=false∧true=true∧true=true∧decide ((9:Int)<digit)=false∧true=true∧false=false∧Computes Tryz.prog Gl 69 [tBook b] (.ret (.tup [D.c (C.v (Value.string (bs (Book.text b)))),D.c (Ci 0)]))∧false=false∧decide (at'<(0:Int))=false∧true=true∧true=true∧true=true∧decide ((↑(ByteArray.size (bs (Book.text b))):Int)≤at')=false∧true=true∧true=true∧true=true∧true=true∧((0:Int)≤at'∧at'<(↑(ByteArray.size (bs (Book.text b))):Int))∧decide (byteAt (bs (Book.text b)) (Int.toNat at')<(48:Int))=false∧true=true∧true=true∧true=true∧true=true∧((0:Int)≤at'∧at'<(↑(ByteArray.size (bs (Book.text b))):Int))∧decide ((57:Int)<byteAt (bs (Book.text b)) (Int.toNat at'))=true∧true=true∧(false=true→false=true)∧(false=true→false=true)∧(false=true→(0:Int)≤at'∧at'<(↑(ByteArray.size (bs (Book.text b))):Int))∧(false=true→false=true)∧(false=true→inRange IntKind.u8 (byteAt (bs (Book.text b)) (Int.toNat at')-(48:Int)))∧(false=true→false=true)∧(false=true→inRange IntKind.i64 (byteAt (bs (Book.text b)) (Int.toNat at')-(48:Int)))∧(false=true→false=true)∧(false=true→false=true)∧(true=false→false=true)∧true=true∧Computes Tryz.prog Gl 22 [] (.ret (B true))∧true=true) (by kernel_rfl) ?_
 have f1 := of_decide_eq_false e1
 have f2 := of_decide_eq_false e2
 have f3 := of_decide_eq_false e3
 have f4 := of_decide_eq_false e4
 have f5 := of_decide_eq_false e5
 simp only [stdS, imp_self, implies_true, and_true, Bool.false_and, Bool.true_and, Bool.and_true, Bool.and_false, Bool.false_or, Bool.true_or, Bool.or_false, Bool.or_true, Bool.false_eq_true, false_implies, true_implies, e1, e2, e3, e4, e5, e6, rng_iff, u8_iff]
 repeat' first | with_reducible apply And.intro | with_reducible intro _
 all_goals first
  | contradiction
  | with_reducible exact known22 S hG
  | with_reducible exact rightV S b h
  | with_reducible exact print69 S b h (ok_low h)
  | exact known22 S hG
  | exact rightV S b h
  | exact print69 S b h (ok_low h)
  | exact trivial
  | rfl
  | omega
theorem law20i (S : Set Tryz.prog Y Gl) (b : Book) (at' digit : Int) (hG : GlOK Gl) (h : b.ok = true) (e1 : decide (digit < 0) = false) (e2 : decide (9 < digit) = false) (e3 : decide (at' < 0) = false) (e4 : decide (((bs b.text).size : Int) ≤ at') = false) (e5 : decide (byteAt (bs b.text) at'.toNat < 48) = false) (e6 : decide (57 < byteAt (bs b.text) at'.toNat) = false) (e7 : (byteAt (bs b.text) at'.toNat - 48 == digit) = true) : Computes Tryz.prog Gl 20 [tBook b, I at', I digit] (.ret (B true)) := by
 refine fn_is S (.r (.ret (B true)) (.sure 16 (.val 17 false (.sure 17 (.sure 20 (.val 21 false (.sure 21 (.ff (.r (.ret (.tup [D.c (C.v (Value.string (bs (Book.text b)))),D.c (Ci 0)])) (.ff (.val 32 false (.sure 34 (.sure 35 (.sure 36 (.val 37 false (.sure 37 (.sure 40 (.sure 41 (.sure 42 (.val 43 false (.sure 43 (.sure 46 (.sure 47 (.sure 48 (.val 49 false (.sure 49 (.sure 52 (.sure 53 (.sure 54 (.sure 55 (.sure 56 (.sure 57 (.val 58 true (.sure 58 (.tt (.r (.ret (B true)) .nil)))))))))))))))))))))))))))))))))))) Tryz.func20 (by kernel_rfl) (Computes Tryz.prog Gl 21 [tBook b] (.ret (B true))∧true=true∧decide (digit<(0:Int))=false∧true=true∧true=true∧decide ((9:Int)<digit)=false∧true=true∧false=false∧Computes Tryz.prog Gl 69 [tBook b] (.ret (.tup [D.c (C.v (Value.string (bs (Book.text b)))),D.c (Ci 0)]))∧false=false∧decide (at'<(0:Int))=false∧true=true∧true=true∧true=true∧decide ((↑(ByteArray.size (bs (Book.text b))):Int)≤at')=false∧true=true∧true=true∧true=true∧true=true∧((0:Int)≤at'∧at'<(↑(ByteArray.size (bs (Book.text b))):Int))∧decide (byteAt (bs (Book.text b)) (Int.toNat at')<(48:Int))=false∧true=true∧true=true∧true=true∧true=true∧((0:Int)≤at'∧at'<(↑(ByteArray.size (bs (Book.text b))):Int))∧decide ((57:Int)<byteAt (bs (Book.text b)) (Int.toNat at'))=false∧true=true∧true=true∧true=true∧true=true∧((0:Int)≤at'∧at'<(↑(ByteArray.size (bs (Book.text b))):Int))∧true=true∧inRange IntKind.u8 (byteAt (bs (Book.text b)) (Int.toNat at')-(48:Int))∧true=true∧inRange IntKind.i64 (byteAt (bs (Book.text b)) (Int.toNat at')-(48:Int))∧true=true∧(byteAt (bs (Book.text b)) (Int.toNat at')-(48:Int)==digit)=true∧true=true∧true=true∧Computes Tryz.prog Gl 22 [] (.ret (B true))∧true=true) (by kernel_rfl) ?_
 have f1 := of_decide_eq_false e1
 have f2 := of_decide_eq_false e2
 have f3 := of_decide_eq_false e3
 have f4 := of_decide_eq_false e4
 have f5 := of_decide_eq_false e5
 have f6 := of_decide_eq_false e6
 simp only [stdS, imp_self, implies_true, and_true, Bool.false_and, Bool.true_and, Bool.and_true, Bool.and_false, Bool.false_or, Bool.true_or, Bool.or_false, Bool.or_true, Bool.false_eq_true, false_implies, true_implies, e1, e2, e3, e4, e5, e6, e7, rng_iff, u8_iff]
 repeat' first | with_reducible apply And.intro | with_reducible intro _
 all_goals first
  | contradiction
  | with_reducible exact known22 S hG
  | with_reducible exact rightV S b h
  | with_reducible exact print69 S b h (ok_low h)
  | exact known22 S hG
  | exact rightV S b h
  | exact print69 S b h (ok_low h)
  | exact trivial
  | rfl
  | omega
def spX (b : Book) (at' digit : Int) : ByteArray :=
 strOf (bs b.text).size (updF (fun i => [C.v (Value.int IntKind.u8 ((b.text.toArray.getD i 0).toNat : Int))]) at'.toNat [C.v (Value.int IntKind.u8 (48 + digit))])
theorem law20h (S : Set Tryz.prog Y Gl) (b : Book) (at' digit : Int) (hG : GlOK Gl) (h : b.ok = true) (e1 : decide (digit < 0) = false) (e2 : decide (9 < digit) = false) (e3 : decide (at' < 0) = false) (e4 : decide (((bs b.text).size : Int) ≤ at') = false) (e5 : decide (byteAt (bs b.text) at'.toNat < 48) = false) (e6 : decide (57 < byteAt (bs b.text) at'.toNat) = false) (e7 : (byteAt (bs b.text) at'.toNat - 48 == digit) = false) (hlen : (bs b.text).size ≤ 170) (h70 : Computes Tryz.prog Gl 70 [.d (.c (.v (.string (spX b at' digit))))] (.ret (.tup [.agg (cBook ⟨[], [], []⟩), .c (Ci 4)]))) : Computes Tryz.prog Gl 20 [tBook b, I at', I digit] (.ret (B true)) := by
 refine fn_is S (.r (.ret (B true)) (.sure 16 (.val 17 false (.sure 17 (.sure 20 (.val 21 false (.sure 21 (.ff (.r (.ret (.tup [D.c (C.v (Value.string (bs (Book.text b)))),D.c (Ci 0)])) (.ff (.val 32 false (.sure 34 (.sure 35 (.sure 36 (.val 37 false (.sure 37 (.sure 40 (.sure 41 (.sure 42 (.val 43 false (.sure 43 (.sure 46 (.sure 47 (.sure 48 (.val 49 false (.sure 49 (.sure 52 (.sure 53 (.sure 54 (.sure 55 (.sure 56 (.sure 57 (.val 58 false (.sure 58 (.ff (.arrA (nat_lit 62) (.r (.ret (.tup [D.agg (cBook (Book.mk [] [] [])),D.c (Ci 4)])) (.sure 78 (.sure 79 (.sure 80 (.r (.ret (B true)) (.sure 83 (.r (.ret (B true)) .nil))))))))))))))))))))))))))))))))))))))))))) Tryz.func20 (by kernel_rfl) (Computes Tryz.prog Gl 21 [tBook b] (.ret (B true))∧true=true∧decide (digit<(0:Int))=false∧true=true∧true=true∧decide ((9:Int)<digit)=false∧true=true∧false=false∧Computes Tryz.prog Gl 69 [tBook b] (.ret (.tup [D.c (C.v (Value.string (bs (Book.text b)))),D.c (Ci 0)]))∧false=false∧decide (at'<(0:Int))=false∧true=true∧true=true∧true=true∧decide ((↑(ByteArray.size (bs (Book.text b))):Int)≤at')=false∧true=true∧true=true∧true=true∧true=true∧((0:Int)≤at'∧at'<(↑(ByteArray.size (bs (Book.text b))):Int))∧decide (byteAt (bs (Book.text b)) (Int.toNat at')<(48:Int))=false∧true=true∧true=true∧true=true∧true=true∧((0:Int)≤at'∧at'<(↑(ByteArray.size (bs (Book.text b))):Int))∧decide ((57:Int)<byteAt (bs (Book.text b)) (Int.toNat at'))=false∧true=true∧true=true∧true=true∧true=true∧((0:Int)≤at'∧at'<(↑(ByteArray.size (bs (Book.text b))):Int))∧true=true∧inRange IntKind.u8 (byteAt (bs (Book.text b)) (Int.toNat at')-(48:Int))∧true=true∧inRange IntKind.i64 (byteAt (bs (Book.text b)) (Int.toNat at')-(48:Int))∧true=true∧(byteAt (bs (Book.text b)) (Int.toNat at')-(48:Int)==digit)=false∧true=true∧false=false∧ByteArray.size (bs (Book.text b))≤(140737488355328:Nat)∧inRange IntKind.i64 ((48:Int)+digit)∧inRange IntKind.u8 ((48:Int)+digit)∧((0:Int)≤at'∧at'<(↑(ByteArray.size (bs (Book.text b))):Int))∧Int.toNat at'<ByteArray.size (bs (Book.text b))∧ByteArray.size (bs (Book.text b))=ByteArray.size (bs (Book.text b))∧(∀ (i:Nat),i<ByteArray.size (bs (Book.text b))→updF (fun i=>[C.v (Value.int IntKind.u8 (↑(UInt8.toNat (Array.getD (List.toArray (Book.text b)) i (0:UInt8))):Int))]) (Int.toNat at') (List.map C.dem [C.v (Value.int IntKind.u8 ((48:Int)+digit))]) i=[C.v (Value.int IntKind.u8 (u8Of (updF (fun i=>[C.v (Value.int IntKind.u8 (↑(UInt8.toNat (Array.getD (List.toArray (Book.text b)) i (0:UInt8))):Int))]) (Int.toNat at') (List.map C.dem [C.v (Value.int IntKind.u8 ((48:Int)+digit))]) i)))])∧Computes Tryz.prog Gl 70 [T.d (D.c (C.v (Value.string (spX b at' digit))))] (.ret (.tup [D.agg (cBook (Book.mk [] [] [])),D.c (Ci 4)]))∧true=true∧true=true∧true=true∧Computes Tryz.prog Gl 72 [tBook (Book.mk [] [] []),T.d (D.agg [C.v (Value.slice none 0 0),C.v (Value.slice none 0 0),C.v (Value.slice none 0 0)])] (.ret (B true))∧true=true∧Computes Tryz.prog Gl 22 [] (.ret (B true))∧true=true) (by kernel_rfl) ?_
 have f1 := of_decide_eq_false e1
 have f2 := of_decide_eq_false e2
 have f3 := of_decide_eq_false e3
 have f4 := of_decide_eq_false e4
 have f5 := of_decide_eq_false e5
 have f6 := of_decide_eq_false e6
 simp only [stdS, imp_self, implies_true, and_true, Bool.false_and, Bool.true_and, Bool.and_true, Bool.and_false, Bool.false_or, Bool.true_or, Bool.or_false, Bool.or_true, Bool.false_eq_true, false_implies, true_implies, e1, e2, e3, e4, e5, e6, e7, rng_iff, u8_iff]
 refine ⟨rightV S b h, print69 S b h (ok_low h), by omega, by omega, by omega, by omega, by omega, by omega, by omega, by omega, by omega, by omega, fun i _ => ?_, h70, ?_⟩
 ·unfold updF
  cases Nat.beq i at'.toNat <;> rfl
 all_goals
  repeat' first | with_reducible apply And.intro | with_reducible intro _
  all_goals first | exact sameB_W S | exact known22 S hG | trivial | rfl
theorem spX_eq {b : Book} {at' digit : Int} (h1 : at'.toNat < b.text.length) : spX b at' digit = bs (b.text.set at'.toNat (UInt8.ofNat (48 + digit).toNat)) := by
 have hl : (List.range (bs b.text).size).map (fun i => UInt8.ofNat (u8Of (updF (fun i => [C.v (Value.int IntKind.u8 ((b.text.toArray.getD i 0).toNat : Int))]) at'.toNat [C.v (Value.int IntKind.u8 (48 + digit))] i)).toNat) = b.text.set at'.toNat (UInt8.ofNat (48 + digit).toNat) := by
  refine List.ext_getElem (by rw [List.length_map, List.length_range, List.length_set, bs_size]) fun i hi1 hi2 => ?_
  rw [List.length_set] at hi2
  rw [List.getElem_map, List.getElem_range, List.getElem_set]
  unfold updF
  by_cases hk : at'.toNat = i
  ·rw [if_pos hk, hk, show Nat.beq i i = true from Nat.beq_refl i]
   rfl
  ·rw [if_neg hk, show Nat.beq i at'.toNat = false from (by
    cases hh : Nat.beq i at'.toNat with
    | false => rfl
    | true => exact absurd (Nat.eq_of_beq_eq_true hh).symm hk)]
   have e : b.text.toArray.getD i 0 = b.text[i] := by
    rw [Array.getD_eq_getD_getElem?, List.getElem?_toArray, List.getElem?_eq_getElem hi2]
    rfl
   show UInt8.ofNat ((b.text.toArray.getD i 0).toNat : Int).toNat = b.text[i]
   rw [e, Int.toNat_natCast, UInt8.ofNat_toNat]
 show ByteArray.mk _ = ByteArray.mk _
 rw [hl]
theorem law20 (S : Set Tryz.prog Y Gl) (b : Book) (at' digit : Int) (hG : GlOK Gl) : Computes Tryz.prog Gl 20 [tBook b, I at', I digit] (.ret (B true)) := by
 cases h : b.ok with
 | false => exact law20a S b at' digit hG h
 | true =>
 cases e1 : decide (digit < 0) with
 | true => exact law20b S b at' digit hG h e1
 | false =>
 cases e2 : decide (9 < digit) with
 | true => exact law20c S b at' digit hG h e1 e2
 | false =>
 cases e3 : decide (at' < 0) with
 | true => exact law20d S b at' digit hG h e1 e2 e3
 | false =>
 cases e4 : decide (((bs b.text).size : Int) ≤ at') with
 | true => exact law20e S b at' digit hG h e1 e2 e3 e4
 | false =>
 cases e5 : decide (byteAt (bs b.text) at'.toNat < 48) with
 | true => exact law20f S b at' digit hG h e1 e2 e3 e4 e5
 | false =>
 cases e6 : decide (57 < byteAt (bs b.text) at'.toNat) with
 | true => exact law20g S b at' digit hG h e1 e2 e3 e4 e5 e6
 | false =>
 cases e7 : (byteAt (bs b.text) at'.toNat - 48 == digit) with
 | true => exact law20i S b at' digit hG h e1 e2 e3 e4 e5 e6 e7
 | false =>
  have f1 := of_decide_eq_false e1
  have f2 := of_decide_eq_false e2
  have f3 := of_decide_eq_false e3
  have f4 := of_decide_eq_false e4
  have f5 := of_decide_eq_false e5
  have f6 := of_decide_eq_false e6
  have hlen := text_len h
  rw [bs_size] at f4
  have hp : at'.toNat < b.text.length := by omega
  have hx := byteAt_bs hp
  have hy : (UInt8.ofNat (48 + digit).toNat).toNat = (48 + digit).toNat := by
   rw [UInt8.toNat_ofNat']
   omega
  have hd : isDig (nth b.text at'.toNat) = true := by
   unfold isDig
   rw [Bool.and_eq_true, decide_eq_true_eq, decide_eq_true_eq]
   omega
  have hyd : isDig (UInt8.ofNat (48 + digit).toNat) = true := by
   unfold isDig
   rw [Bool.and_eq_true, decide_eq_true_eq, decide_eq_true_eq, hy]
   omega
  have hne : UInt8.ofNat (48 + digit).toNat ≠ nth b.text at'.toNat := fun hh => by
   have h2 := beq_eq_false_iff_ne.1 e7
   have h3 := congrArg UInt8.toNat hh
   rw [hy] at h3
   omega
  have hs := spoilt h hp hd hyd hne
  have hl : (b.text.set at'.toNat (UInt8.ofNat (48 + digit).toNat)).length = b.text.length := List.length_set
  have hlong : decide (170 < (b.text.set at'.toNat (UInt8.ofNat (48 + digit).toNat)).length) = false := decide_eq_false (by omega)
  refine law20h S b at' digit hG h e1 e2 e3 e4 e5 e6 e7 (by rw [bs_size]; exact hlen) ?_
  rw [spX_eq hp]
  exact read70W S hG _ (by unfold readBook; rw [hlong, hs]; rfl) (by unfold readErr; rw [hlong, hs]; rfl)
end Go.Vc.Gd
