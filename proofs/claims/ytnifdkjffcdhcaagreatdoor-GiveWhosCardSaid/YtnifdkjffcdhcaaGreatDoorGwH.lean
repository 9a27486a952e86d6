/- A part of the proofs over layer 6 (give): the program and the specification; no condition. -/
import Derived.Test.YtnifdkjffcdhcaaGreatDoorGwG
set_option linter.all false
set_option linter.unusedSimpArgs false
set_option linter.unusedVariables false
namespace Go.Vc.Gd
open Go Go.Proofs Go.Vc
variable {Gl : World → Prop}
set_option maxRecDepth 100000
theorem law12a (S : Set Tryz.prog Y Gl) (b : Book) (sheet : Int) (hG : GlOK Gl) (hb : b.ok = false) : Computes Tryz.prog Gl 12 [tBook b, I sheet] (.ret (B true)) := by
  refine fn_is S (Orc.r (Res.ret (B (decide (List.length (Book.comps b)≤(6:Nat))&&(decide (List.length (Book.dues b)≤(4:Nat))&&decide (List.length (Book.sheets b)≤(5:Nat)))))) (Orc.br (Orc.r (Res.ret (B true)) Orc.nil) (Orc.r (Res.ret (T.tup [D.c (C.l eI []),D.c (Ci 2)])) (Orc.r (Res.ret (B false)) (Orc.r (Res.ret (B (Book.isSheet b sheet))) (Orc.tt (Orc.r (Res.ret (B true)) Orc.nil))))))) Tryz.func12 (by kernel_rfl) (Computes Tryz.prog Gl 26 [tBook b] (Res.ret (B (decide (List.length (Book.comps b)≤(6:Nat))&&(decide (List.length (Book.dues b)≤(4:Nat))&&decide (List.length (Book.sheets b)≤(5:Nat))))))∧((!(decide (b.1.length≤(6:Nat))&&(decide (b.2.length≤(4:Nat))&&decide (b.3.length≤(5:Nat)))))=true→Computes Tryz.prog Gl 22 [] (Res.ret (B true))∧true=true)∧((!(decide (b.1.length≤(6:Nat))&&(decide (b.2.length≤(4:Nat))&&decide (b.3.length≤(5:Nat)))))=false→Computes Tryz.prog Gl 57 [tBook b,I sheet] (Res.ret (T.tup [D.c (C.l eI []),D.c (Ci 2)]))∧Computes Tryz.prog Gl 52 [tBook b] (Res.ret (B false))∧(false=true→false=true)∧(false=true→false=true)∧(false=true→Computes Tryz.prog Gl 24 [tBook b,I sheet] (Res.ret (B (Book.isSheet b sheet))))∧(false=true→false=true)∧(true=false→false=true)∧true=true∧(true=true→true=true)∧((true=true→(0:Nat)≤maxLen)→(true=true→true=true)∧(true=true→true=true)∧(true=true→Computes Tryz.prog Gl 22 [] (Res.ret (B true)))∧(true=true→true=true)∧true=true))) (by kernel_rfl) ?_
  simp only [stdS, imp_self, implies_true, and_true]
  repeat' first | with_reducible apply And.intro | with_reducible intro _
  all_goals first
    | contradiction
    | exact known22 S hG
    | exact short26 S b
    | exact whoErr S b sheet (.inl hb)
    | exact bookV S b hb
    | exact sheet24 S b sheet
    | exact trivial
    | rfl
theorem law12b (S : Set Tryz.prog Y Gl) (b : Book) (sheet : Int) (hG : GlOK Gl) (hb : b.ok = true) (hs : b.isSheet sheet = false) : Computes Tryz.prog Gl 12 [tBook b, I sheet] (.ret (B true)) := by
  refine fn_is S (Orc.r (Res.ret (B (decide (List.length (Book.comps b)≤(6:Nat))&&(decide (List.length (Book.dues b)≤(4:Nat))&&decide (List.length (Book.sheets b)≤(5:Nat)))))) (Orc.br (Orc.r (Res.ret (B true)) Orc.nil) (Orc.r (Res.ret (T.tup [D.c (C.l eI []),D.c (Ci 2)])) (Orc.r (Res.ret (B true)) (Orc.r (Res.ret (B false)) (Orc.tt (Orc.r (Res.ret (B true)) Orc.nil))))))) Tryz.func12 (by kernel_rfl) (Computes Tryz.prog Gl 26 [tBook b] (Res.ret (B (decide (List.length (Book.comps b)≤(6:Nat))&&(decide (List.length (Book.dues b)≤(4:Nat))&&decide (List.length (Book.sheets b)≤(5:Nat))))))∧((!(decide (b.1.length≤(6:Nat))&&(decide (b.2.length≤(4:Nat))&&decide (b.3.length≤(5:Nat)))))=true→Computes Tryz.prog Gl 22 [] (Res.ret (B true))∧true=true)∧((!(decide (b.1.length≤(6:Nat))&&(decide (b.2.length≤(4:Nat))&&decide (b.3.length≤(5:Nat)))))=false→Computes Tryz.prog Gl 57 [tBook b,I sheet] (Res.ret (T.tup [D.c (C.l eI []),D.c (Ci 2)]))∧Computes Tryz.prog Gl 52 [tBook b] (Res.ret (B true))∧(true=true→true=true)∧(true=true→true=true)∧(true=true→Computes Tryz.prog Gl 24 [tBook b,I sheet] (Res.ret (B false)))∧(true=true→true=true)∧(false=false→true=true)∧true=true∧(true=true→true=true)∧((true=true→(0:Nat)≤maxLen)→(true=true→true=true)∧(true=true→true=true)∧(true=true→Computes Tryz.prog Gl 22 [] (Res.ret (B true)))∧(true=true→true=true)∧true=true))) (by kernel_rfl) ?_
  simp only [stdS, imp_self, implies_true, and_true]
  repeat' first | with_reducible apply And.intro | with_reducible intro _
  all_goals first
    | contradiction
    | exact known22 S hG
    | exact short26 S b
    | exact whoErr S b sheet (.inr hs)
    | exact bookV S b hb
    | exact sheetV S b sheet hs
    | exact trivial
    | rfl
theorem law12c (S : Set Tryz.prog Y Gl) (b : Book) (sheet : Int) (hG : GlOK Gl) (hb : b.ok = true) (hs : b.isSheet sheet = true) : Computes Tryz.prog Gl 12 [tBook b, I sheet] (.ret (B true)) := by
  refine fn_is S (Orc.r (Res.ret (B (decide (List.length (Book.comps b)≤(6:Nat))&&(decide (List.length (Book.dues b)≤(4:Nat))&&decide (List.length (Book.sheets b)≤(5:Nat)))))) (Orc.br (Orc.r (Res.ret (B true)) Orc.nil) (Orc.r (Res.ret (T.tup [D.c (C.l eI (whoTo (Book.all b) sheet (List.length (Book.comps b)))),D.c (Ci 0)])) (Orc.r (Res.ret (B true)) (Orc.r (Res.ret (B true)) (Orc.ff (Orc.r (Res.ret (L ePlan (Book.all b))) (Orc.r (Res.ret (L eI (whoTo (Book.all b) sheet (List.length (Book.comps b))))) (Orc.r (Res.ret (B true)) (Orc.r (Res.ret (B true)) Orc.nil)))))))))) Tryz.func12 (by kernel_rfl) (Computes Tryz.prog Gl 26 [tBook b] (Res.ret (B (decide (List.length (Book.comps b)≤(6:Nat))&&(decide (List.length (Book.dues b)≤(4:Nat))&&decide (List.length (Book.sheets b)≤(5:Nat))))))∧((!(decide (b.1.length≤(6:Nat))&&(decide (b.2.length≤(4:Nat))&&decide (b.3.length≤(5:Nat)))))=true→Computes Tryz.prog Gl 22 [] (Res.ret (B true))∧true=true)∧((!(decide (b.1.length≤(6:Nat))&&(decide (b.2.length≤(4:Nat))&&decide (b.3.length≤(5:Nat)))))=false→Computes Tryz.prog Gl 57 [tBook b,I sheet] (Res.ret (T.tup [D.c (C.l eI (whoTo (Book.all b) sheet (List.length (Book.comps b)))),D.c (Ci 0)]))∧Computes Tryz.prog Gl 52 [tBook b] (Res.ret (B true))∧(true=true→true=true)∧(true=true→true=true)∧(true=true→Computes Tryz.prog Gl 24 [tBook b,I sheet] (Res.ret (B true)))∧(true=true→true=true)∧(false=false→true=true)∧false=false∧(true=true→true=true)∧(true=true→Computes Tryz.prog Gl 53 [tBook b] (Res.ret (L ePlan (Book.all b))))∧(true=true→true=true)∧(true=true→true=true)∧(true=true→true=true)∧(true=true→Computes Tryz.prog Gl 62 [tBook b,L ePlan (Book.all b),I sheet] (Res.ret (L eI (whoTo (Book.all b) sheet (List.length (Book.comps b))))))∧(true=true→true=true)∧(true=true→true=true)∧(true=true→Computes Tryz.prog Gl 34 [L eI (whoTo (Book.all b) sheet (List.length (Book.comps b))),L eI (whoTo (Book.all b) sheet (List.length (Book.comps b)))] (Res.ret (B true)))∧(true=true→true=true)∧(true=true→Computes Tryz.prog Gl 22 [] (Res.ret (B true)))∧(true=true→true=true)∧true=true)) (by kernel_rfl) ?_
  simp only [stdS, imp_self, implies_true, and_true]
  repeat' first | with_reducible apply And.intro | with_reducible intro _
  all_goals first
    | contradiction
    | exact known22 S hG
    | exact short26 S b
    | exact whoT S b sheet hb hs
    | exact bookV S b hb
    | exact sheetV S b sheet hs
    | exact all53 S b hb
    | exact who62S S b sheet hb hs
    | exact sameI_T S _
    | exact trivial
    | rfl
theorem law12 (S : Set Tryz.prog Y Gl) (b : Book) (sheet : Int) (hG : GlOK Gl) : Computes Tryz.prog Gl 12 [tBook b, I sheet] (.ret (B true)) := by
  cases hb : b.ok with
  | false => exact law12a S b sheet hG hb
  | true =>
    cases hs : b.isSheet sheet with
    | false => exact law12b S b sheet hG hb hs
    | true => exact law12c S b sheet hG hb hs
end Go.Vc.Gd
