/- A part of the proofs over layer 6 (give): the program and the specification; no condition. -/
import Derived.Test.YtnifdkjffcdhcaaGreatDoorGmG
set_option linter.all false
set_option linter.unusedSimpArgs false
set_option linter.unusedVariables false
namespace Go.Vc.Gd
open Go Go.Proofs Go.Vc
variable {Gl : World → Prop}
set_option maxRecDepth 100000
theorem law14a (S : Set Tryz.prog Y Gl) (b : Book) (like : Int) (hG : GlOK Gl) (hb : b.ok = false) (he : (b.ok && b.isComp like) = false) : Computes Tryz.prog Gl 14 [tBook b, I like] (.ret (B true)) := by
  refine fn_is S (Orc.r (Res.ret (B (decide (List.length (Book.comps b)≤(6:Nat))&&(decide (List.length (Book.dues b)≤(4:Nat))&&decide (List.length (Book.sheets b)≤(5:Nat)))))) (Orc.br (Orc.r (Res.ret (B true)) Orc.nil) (Orc.r (Res.ret (T.tup [D.c (Ci 0),D.c (Ci 2)])) (Orc.r (Res.ret (B false)) (Orc.r (Res.ret (B (Book.isComp b like))) (Orc.tt (Orc.r (Res.ret (B true)) Orc.nil))))))) Tryz.func14 (by kernel_rfl) (Computes Tryz.prog Gl 26 [tBook b] (Res.ret (B (decide (List.length (Book.comps b)≤(6:Nat))&&(decide (List.length (Book.dues b)≤(4:Nat))&&decide (List.length (Book.sheets b)≤(5:Nat))))))∧((!(decide (b.1.length≤(6:Nat))&&(decide (b.2.length≤(4:Nat))&&decide (b.3.length≤(5:Nat)))))=true→Computes Tryz.prog Gl 22 [] (Res.ret (B true))∧true=true)∧((!(decide (b.1.length≤(6:Nat))&&(decide (b.2.length≤(4:Nat))&&decide (b.3.length≤(5:Nat)))))=false→Computes Tryz.prog Gl 64 [tBook b,I like] (Res.ret (T.tup [D.c (Ci 0),D.c (Ci 2)]))∧Computes Tryz.prog Gl 52 [tBook b] (Res.ret (B false))∧(false=true→false=true)∧(false=true→false=true)∧(false=true→Computes Tryz.prog Gl 25 [tBook b,I like] (Res.ret (B (Book.isComp b like))))∧(false=true→false=true)∧(true=false→false=true)∧true=true∧(true=true→true=true)∧(true=true→true=true)∧(true=true→Computes Tryz.prog Gl 22 [] (Res.ret (B true)))∧(true=true→true=true)∧true=true)) (by kernel_rfl) ?_
  simp only [stdS, imp_self, implies_true, and_true]
  repeat' first | with_reducible apply And.intro | with_reducible intro _
  all_goals first
    | contradiction
    | exact known22 S hG
    | exact short26 S b
    | exact more64e S b like he
    | exact bookV S b hb
    | exact comp25 S b like
    | exact trivial
    | rfl
theorem law14b (S : Set Tryz.prog Y Gl) (b : Book) (like : Int) (hG : GlOK Gl) (hb : b.ok = true) (hc : b.isComp like = false) (he : (b.ok && b.isComp like) = false) : Computes Tryz.prog Gl 14 [tBook b, I like] (.ret (B true)) := by
  refine fn_is S (Orc.r (Res.ret (B (decide (List.length (Book.comps b)≤(6:Nat))&&(decide (List.length (Book.dues b)≤(4:Nat))&&decide (List.length (Book.sheets b)≤(5:Nat)))))) (Orc.br (Orc.r (Res.ret (B true)) Orc.nil) (Orc.r (Res.ret (T.tup [D.c (Ci 0),D.c (Ci 2)])) (Orc.r (Res.ret (B true)) (Orc.r (Res.ret (B false)) (Orc.tt (Orc.r (Res.ret (B true)) Orc.nil))))))) Tryz.func14 (by kernel_rfl) (Computes Tryz.prog Gl 26 [tBook b] (Res.ret (B (decide (List.length (Book.comps b)≤(6:Nat))&&(decide (List.length (Book.dues b)≤(4:Nat))&&decide (List.length (Book.sheets b)≤(5:Nat))))))∧((!(decide (b.1.length≤(6:Nat))&&(decide (b.2.length≤(4:Nat))&&decide (b.3.length≤(5:Nat)))))=true→Computes Tryz.prog Gl 22 [] (Res.ret (B true))∧true=true)∧((!(decide (b.1.length≤(6:Nat))&&(decide (b.2.length≤(4:Nat))&&decide (b.3.length≤(5:Nat)))))=false→Computes Tryz.prog Gl 64 [tBook b,I like] (Res.ret (T.tup [D.c (Ci 0),D.c (Ci 2)]))∧Computes Tryz.prog Gl 52 [tBook b] (Res.ret (B true))∧(true=true→true=true)∧(true=true→true=true)∧(true=true→Computes Tryz.prog Gl 25 [tBook b,I like] (Res.ret (B false)))∧(true=true→true=true)∧(false=false→true=true)∧true=true∧(true=true→true=true)∧(true=true→true=true)∧(true=true→Computes Tryz.prog Gl 22 [] (Res.ret (B true)))∧(true=true→true=true)∧true=true)) (by kernel_rfl) ?_
  simp only [stdS, imp_self, implies_true, and_true]
  repeat' first | with_reducible apply And.intro | with_reducible intro _
  all_goals first
    | contradiction
    | exact known22 S hG
    | exact short26 S b
    | exact more64e S b like he
    | exact bookV S b hb
    | exact compV S b like hc
    | exact trivial
    | rfl
theorem law14c (S : Set Tryz.prog Y Gl) (b : Book) (like : Int) (hG : GlOK Gl) (hb : b.ok = true) (hc : b.isComp like = true) (h4 : b.comps.length = 4) : Computes Tryz.prog Gl 14 [tBook b, I like] (.ret (B true)) := by
  refine fn_is S (Orc.r (Res.ret (B (decide (List.length (Book.comps b)≤(6:Nat))&&(decide (List.length (Book.dues b)≤(4:Nat))&&decide (List.length (Book.sheets b)≤(5:Nat)))))) (Orc.br (Orc.r (Res.ret (B true)) Orc.nil) (Orc.r (Res.ret (T.tup [D.c (Ci 0),D.c (Ci 3)])) (Orc.r (Res.ret (B true)) (Orc.r (Res.ret (B true)) (Orc.ff (Orc.br (Orc.r (Res.ret (B true)) Orc.nil) (Orc.r (Res.ret (tBook (Book.withOne b like))) (Orc.r (Res.ret (T.tup [D.c (C.l eTask (Book.best (Book.withOne b like))),D.c (Cb !List.length (Book.plans (Book.withOne b like))==(0:Nat))])) (Orc.br (Orc.r (Res.ret (B true)) Orc.nil) (Orc.r (Res.ret (I (lastOf (Book.withOne b like) (Book.best (Book.withOne b like))))) (Orc.r (Res.ret (B true)) Orc.nil)))))))))))) Tryz.func14 (by kernel_rfl) (Computes Tryz.prog Gl 26 [tBook b] (Res.ret (B (decide (List.length (Book.comps b)≤(6:Nat))&&(decide (List.length (Book.dues b)≤(4:Nat))&&decide (List.length (Book.sheets b)≤(5:Nat))))))∧((!(decide (b.1.length≤(6:Nat))&&(decide (b.2.length≤(4:Nat))&&decide (b.3.length≤(5:Nat)))))=true→Computes Tryz.prog Gl 22 [] (Res.ret (B true))∧true=true)∧((!(decide (b.1.length≤(6:Nat))&&(decide (b.2.length≤(4:Nat))&&decide (b.3.length≤(5:Nat)))))=false→Computes Tryz.prog Gl 64 [tBook b,I like] (Res.ret (T.tup [D.c (Ci 0),D.c (Ci 3)]))∧Computes Tryz.prog Gl 52 [tBook b] (Res.ret (B true))∧(true=true→true=true)∧(true=true→true=true)∧(true=true→Computes Tryz.prog Gl 25 [tBook b,I like] (Res.ret (B true)))∧(true=true→true=true)∧(false=false→true=true)∧false=false∧(b.1.length≤maxLen→(decide ((4:Int)≤(↑b.1.length:Int))=true→(true=true→true=true)∧(true=true→true=true)∧(true=true→Computes Tryz.prog Gl 22 [] (Res.ret (B true)))∧(true=true→true=true)∧true=true)∧(decide ((4:Int)≤(↑b.1.length:Int))=false→Computes Tryz.prog Gl 65 [tBook b,I like] (Res.ret (tBook (Book.withOne b like)))∧Computes Tryz.prog Gl 55 [tBook (Book.withOne b like)] (Res.ret (T.tup [D.c (C.l eTask (Book.best (Book.withOne b like))),D.c (Cb !List.length (Book.plans (Book.withOne b like))==(0:Nat))]))∧((!!List.length (Book.plans (Book.withOne b like))==(0:Nat))=true→(false=true→false=true)∧(false=true→false=true)∧(false=true→Computes Tryz.prog Gl 22 [] (Res.ret (B true)))∧(false=true→false=true)∧false=true)∧((!!List.length (Book.plans (Book.withOne b like))==(0:Nat))=false→(false=true→false=true)∧(false=true→false=true)∧(false=true→Computes Tryz.prog Gl 56 [tBook (Book.withOne b like),L eTask (Book.best (Book.withOne b like))] (Res.ret (I (lastOf (Book.withOne b like) (Book.best (Book.withOne b like))))))∧(false=true→false=true)∧(false=true→false=true)∧(false=true→false=true)∧(false=true→Computes Tryz.prog Gl 22 [] (Res.ret (B true)))∧(false=true→false=true)∧false=true))))) (by kernel_rfl) ?_
  have e : decide (4 ≤ (b.comps.length : Int)) = true := by rw [h4]; rfl
  simp only [stdS, imp_self, implies_true, and_true, e]
  repeat' first | with_reducible apply And.intro | with_reducible intro _
  all_goals first
    | contradiction
    | exact known22 S hG
    | exact short26 S b
    | exact more64l S b like hb hc h4
    | exact bookV S b hb
    | exact compV S b like hc
    | exact trivial
    | rfl
theorem law14d (S : Set Tryz.prog Y Gl) (b : Book) (like : Int) (hG : GlOK Gl) (hb : b.ok = true) (hc : b.isComp like = true) (hl : b.comps.length ≤ 3) (hx : (b.withOne like).ok = true) (hn : (b.withOne like).plans.length = 0) : Computes Tryz.prog Gl 14 [tBook b, I like] (.ret (B true)) := by
  refine fn_is S (Orc.r (Res.ret (B (decide (List.length (Book.comps b)≤(6:Nat))&&(decide (List.length (Book.dues b)≤(4:Nat))&&decide (List.length (Book.sheets b)≤(5:Nat)))))) (Orc.br (Orc.r (Res.ret (B true)) Orc.nil) (Orc.r (Res.ret (T.tup [D.c (Ci 0),D.c (Ci 5)])) (Orc.r (Res.ret (B true)) (Orc.r (Res.ret (B true)) (Orc.ff (Orc.br (Orc.r (Res.ret (B true)) Orc.nil) (Orc.r (Res.ret (tBook (Book.withOne b like))) (Orc.r (Res.ret (T.tup [D.c (C.l eTask (Book.best (Book.withOne b like))),D.c (Cb false)])) (Orc.tt (Orc.r (Res.ret (B true)) Orc.nil))))))))))) Tryz.func14 (by kernel_rfl) (Computes Tryz.prog Gl 26 [tBook b] (Res.ret (B (decide (List.length (Book.comps b)≤(6:Nat))&&(decide (List.length (Book.dues b)≤(4:Nat))&&decide (List.length (Book.sheets b)≤(5:Nat))))))∧((!(decide (b.1.length≤(6:Nat))&&(decide (b.2.length≤(4:Nat))&&decide (b.3.length≤(5:Nat)))))=true→Computes Tryz.prog Gl 22 [] (Res.ret (B true))∧true=true)∧((!(decide (b.1.length≤(6:Nat))&&(decide (b.2.length≤(4:Nat))&&decide (b.3.length≤(5:Nat)))))=false→Computes Tryz.prog Gl 64 [tBook b,I like] (Res.ret (T.tup [D.c (Ci 0),D.c (Ci 5)]))∧Computes Tryz.prog Gl 52 [tBook b] (Res.ret (B true))∧(true=true→true=true)∧(true=true→true=true)∧(true=true→Computes Tryz.prog Gl 25 [tBook b,I like] (Res.ret (B true)))∧(true=true→true=true)∧(false=false→true=true)∧false=false∧(b.1.length≤maxLen→(decide ((4:Int)≤(↑b.1.length:Int))=true→(false=true→false=true)∧(false=true→false=true)∧(false=true→Computes Tryz.prog Gl 22 [] (Res.ret (B true)))∧(false=true→false=true)∧false=true)∧(decide ((4:Int)≤(↑b.1.length:Int))=false→Computes Tryz.prog Gl 65 [tBook b,I like] (Res.ret (tBook (Book.withOne b like)))∧Computes Tryz.prog Gl 55 [tBook (Book.withOne b like)] (Res.ret (T.tup [D.c (C.l eTask (Book.best (Book.withOne b like))),D.c (Cb false)]))∧true=true∧(true=true→true=true)∧(true=true→true=true)∧(true=true→Computes Tryz.prog Gl 22 [] (Res.ret (B true)))∧(true=true→true=true)∧true=true)))) (by kernel_rfl) ?_
  have e : decide (4 ≤ (b.comps.length : Int)) = false := by simp; omega
  simp only [stdS, imp_self, implies_true, and_true, e]
  repeat' first | with_reducible apply And.intro | with_reducible intro _
  all_goals first
    | contradiction
    | exact known22 S hG
    | exact short26 S b
    | exact moreN S b like hb hc hl hn
    | exact bookV S b hb
    | exact compV S b like hc
    | exact with65S S b like hb hc
    | exact best55F S (b.withOne like) hx hn
    | exact trivial
    | rfl
theorem law14e (S : Set Tryz.prog Y Gl) (b : Book) (like : Int) (hG : GlOK Gl) (hb : b.ok = true) (hc : b.isComp like = true) (hl : b.comps.length ≤ 3) (hx : (b.withOne like).ok = true) (hn : (b.withOne like).plans.length ≠ 0) (hg : (b.withOne like).good (b.withOne like).best = true) : Computes Tryz.prog Gl 14 [tBook b, I like] (.ret (B true)) := by
  refine fn_is S (Orc.r (Res.ret (B (decide (List.length (Book.comps b)≤(6:Nat))&&(decide (List.length (Book.dues b)≤(4:Nat))&&decide (List.length (Book.sheets b)≤(5:Nat)))))) (Orc.br (Orc.r (Res.ret (B true)) Orc.nil) (Orc.r (Res.ret (T.tup [D.c (Ci (lastOf (Book.withOne b like) (Book.best (Book.withOne b like)))),D.c (Ci 0)])) (Orc.r (Res.ret (B true)) (Orc.r (Res.ret (B true)) (Orc.ff (Orc.br (Orc.r (Res.ret (B true)) Orc.nil) (Orc.r (Res.ret (tBook (Book.withOne b like))) (Orc.r (Res.ret (T.tup [D.c (C.l eTask (Book.best (Book.withOne b like))),D.c (Cb true)])) (Orc.ff (Orc.r (Res.ret (I (lastOf (Book.withOne b like) (Book.best (Book.withOne b like))))) (Orc.r (Res.ret (B true)) Orc.nil)))))))))))) Tryz.func14 (by kernel_rfl) (Computes Tryz.prog Gl 26 [tBook b] (Res.ret (B (decide (List.length (Book.comps b)≤(6:Nat))&&(decide (List.length (Book.dues b)≤(4:Nat))&&decide (List.length (Book.sheets b)≤(5:Nat))))))∧((!(decide (b.1.length≤(6:Nat))&&(decide (b.2.length≤(4:Nat))&&decide (b.3.length≤(5:Nat)))))=true→Computes Tryz.prog Gl 22 [] (Res.ret (B true))∧true=true)∧((!(decide (b.1.length≤(6:Nat))&&(decide (b.2.length≤(4:Nat))&&decide (b.3.length≤(5:Nat)))))=false→Computes Tryz.prog Gl 64 [tBook b,I like] (Res.ret (T.tup [D.c (Ci (lastOf (Book.withOne b like) (Book.best (Book.withOne b like)))),D.c (Ci 0)]))∧Computes Tryz.prog Gl 52 [tBook b] (Res.ret (B true))∧(true=true→true=true)∧(true=true→true=true)∧(true=true→Computes Tryz.prog Gl 25 [tBook b,I like] (Res.ret (B true)))∧(true=true→true=true)∧(false=false→true=true)∧false=false∧(b.1.length≤maxLen→(decide ((4:Int)≤(↑b.1.length:Int))=true→(false=true→false=true)∧(false=true→false=true)∧(false=true→Computes Tryz.prog Gl 22 [] (Res.ret (B true)))∧(false=true→false=true)∧false=true)∧(decide ((4:Int)≤(↑b.1.length:Int))=false→Computes Tryz.prog Gl 65 [tBook b,I like] (Res.ret (tBook (Book.withOne b like)))∧Computes Tryz.prog Gl 55 [tBook (Book.withOne b like)] (Res.ret (T.tup [D.c (C.l eTask (Book.best (Book.withOne b like))),D.c (Cb true)]))∧false=false∧(true=true→true=true)∧(true=true→true=true)∧(true=true→Computes Tryz.prog Gl 56 [tBook (Book.withOne b like),L eTask (Book.best (Book.withOne b like))] (Res.ret (I (lastOf (Book.withOne b like) (Book.best (Book.withOne b like))))))∧(true=true→true=true)∧(true=true→true=true)∧(true=true→true=true)∧(eqB (bif true then lastOf (Book.withOne b like) (Book.best (Book.withOne b like))==lastOf (Book.withOne b like) (Book.best (Book.withOne b like)) else false) true=true→Computes Tryz.prog Gl 22 [] (Res.ret (B true)))∧((bif true then lastOf (Book.withOne b like) (Book.best (Book.withOne b like))==lastOf (Book.withOne b like) (Book.best (Book.withOne b like)) else false)=true→eqB (bif true then lastOf (Book.withOne b like) (Book.best (Book.withOne b like))==lastOf (Book.withOne b like) (Book.best (Book.withOne b like)) else false) true=true)∧(bif bif true then lastOf (Book.withOne b like) (Book.best (Book.withOne b like))==lastOf (Book.withOne b like) (Book.best (Book.withOne b like)) else false then true else false)=true)))) (by kernel_rfl) ?_
  have e : decide (4 ≤ (b.comps.length : Int)) = false := by simp; omega
  simp only [stdS, imp_self, implies_true, and_true, e]
  repeat' first | with_reducible apply And.intro | with_reducible intro _
  all_goals first
    | contradiction
    | exact known22 S hG
    | exact short26 S b
    | exact moreT S b like hb hc hl hn
    | exact bookV S b hb
    | exact compV S b like hc
    | exact with65S S b like hb hc
    | exact best55T S (b.withOne like) hx hn
    | exact last56 S (b.withOne like) (b.withOne like).best hx hg
    | exact trivial
    | rfl
    | simp
theorem law14 (S : Set Tryz.prog Y Gl) (b : Book) (like : Int) (hG : GlOK Gl) : Computes Tryz.prog Gl 14 [tBook b, I like] (.ret (B true)) := by
  cases hb : b.ok with
  | false => exact law14a S b like hG hb (by rw [hb]; rfl)
  | true =>
    cases hc : b.isComp like with
    | false => exact law14b S b like hG hb hc (by rw [hc, Bool.and_false])
    | true =>
      obtain ⟨o1, _⟩ := ok_spec hb
      by_cases h4 : b.comps.length = 4
      · exact law14c S b like hG hb hc h4
      · have hl : b.comps.length ≤ 3 := by omega
        have hx := with_ok hb hc hl
        by_cases hn : (b.withOne like).plans.length = 0
        · exact law14d S b like hG hb hc hl hx hn
        · exact law14e S b like hG hb hc hl hx hn (best_spec hx hn).1
end Go.Vc.Gd
