/- A part of the proofs over layer 6 (give): the program and the specification; no condition. -/
import Derived.Test.YtnifdkjffcdhcaaGreatDoorHfG
set_option linter.all false
set_option linter.unusedSimpArgs false
set_option linter.unusedVariables false
namespace Go.Vc.Gd
open Go Go.Proofs Go.Vc
variable {Gl : World → Prop}
set_option maxRecDepth 100000
theorem all53N (S : Set Tryz.prog Y Gl) (b : Book) (hb : b.ok = true) (ha : b.all.length = 0) : Computes Tryz.prog Gl 53 [tBook b] (.ret (L ePlan [])) := by
  have h := all53 S b hb
  rw [List.length_eq_zero_iff.1 ha] at h
  exact h
theorem countN (S : Set Tryz.prog Y Gl) (b : Book) (hb : b.ok = true) (ha : b.all.length = 0) : Computes Tryz.prog Gl 50 [tBook b] (.ret (.tup [.c (Ci 0), .c (Ci 0)])) := by
  have h := countT S b hb
  rw [ha] at h
  exact h
theorem law10a (S : Set Tryz.prog Y Gl) (b : Book) (hG : GlOK Gl) (hb : b.ok = false) : Computes Tryz.prog Gl 10 [tBook b] (.ret (B true)) := by
  refine fn_is S (.r (.ret (B (decide (List.length (Book.comps b)≤(6:Nat))&&(decide (List.length (Book.dues b)≤(4:Nat))&&decide (List.length (Book.sheets b)≤(5:Nat)))))) (.br (.r (.ret (B true)) .nil) (.r (.ret (.tup [D.c (C.l eTask []),D.c (Ci 2)])) (.r (.ret (.tup [D.c (Ci 0),D.c (Ci 2)])) (.r (.ret (.tup [D.c (C.l eTask []),D.c (Ci 0),D.c (Ci 2)])) (.r (.ret (B false)) (.tt (.sure 39 (.sure 40 (.sure 41 (.sure 44 (.sure 45 (.sure 48 (.sure 49 (.sure 52 (.sure 53 (.sure 56 (.sure 57 (.sure 58 (.sure 61 (.sure 62 (.sure 65 (.r (.ret (B true)) .nil))))))))))))))))))))))) Tryz.func10 (by kernel_rfl) (Computes Tryz.prog Gl 26 [tBook b] (.ret (B (decide (List.length (Book.comps b)≤(6:Nat))&&(decide (List.length (Book.dues b)≤(4:Nat))&&decide (List.length (Book.sheets b)≤(5:Nat))))))∧((!(decide (b.1.length≤(6:Nat))&&(decide (b.2.length≤(4:Nat))&&decide (b.3.length≤(5:Nat)))))=true→Computes Tryz.prog Gl 22 [] (.ret (B true))∧true=true)∧((!(decide (b.1.length≤(6:Nat))&&(decide (b.2.length≤(4:Nat))&&decide (b.3.length≤(5:Nat)))))=false→Computes Tryz.prog Gl 49 [tBook b] (.ret (.tup [D.c (C.l eTask []),D.c (Ci 2)]))∧Computes Tryz.prog Gl 50 [tBook b] (.ret (.tup [D.c (Ci 0),D.c (Ci 2)]))∧Computes Tryz.prog Gl 51 [tBook b] (.ret (.tup [D.c (C.l eTask []),D.c (Ci 0),D.c (Ci 2)]))∧Computes Tryz.prog Gl 52 [tBook b] (.ret (B false))∧true=true∧true=true∧true=true∧((0:Nat)≤maxLen→true=true∧true=true∧true=true∧true=true∧true=true∧true=true∧true=true∧true=true∧true=true∧((0:Nat)≤maxLen→true=true∧true=true∧true=true∧true=true∧Computes Tryz.prog Gl 22 [] (.ret (B true))∧true=true)))) (by kernel_rfl) ?_
  simp only [stdS, imp_self, implies_true, and_true]
  repeat' first | with_reducible apply And.intro | with_reducible intro _
  all_goals first
    | contradiction
    | exact known22 S hG
    | exact short26 S b
    | exact firstF S b hb
    | exact count50e S b hb
    | exact bestF S b hb
    | exact bookV S b hb
    | exact trivial
    | rfl
    | omega
theorem law10b (S : Set Tryz.prog Y Gl) (b : Book) (hG : GlOK Gl) (hb : b.ok = true) (ha : b.all.length = 0) (hn : b.plans.length = 0) : Computes Tryz.prog Gl 10 [tBook b] (.ret (B true)) := by
  refine fn_is S (.r (.ret (B (decide (List.length (Book.comps b)≤(6:Nat))&&(decide (List.length (Book.dues b)≤(4:Nat))&&decide (List.length (Book.sheets b)≤(5:Nat)))))) (.br (.r (.ret (B true)) .nil) (.r (.ret (.tup [D.c (C.l eTask []),D.c (Ci 5)])) (.r (.ret (.tup [D.c (Ci 0),D.c (Ci 0)])) (.r (.ret (.tup [D.c (C.l eTask []),D.c (Ci 0),D.c (Ci 5)])) (.r (.ret (B true)) (.ff (.r (.ret (L ePlan [])) (.sure 72 (.sure 73 (.sure 74 (.sure 75 (.sure 78 (.sure 79 (.sure 80 (.sure 81 (.sure 82 (.sure 83 (.sure 84 (.sure 85 (.sure 86 (.sure 87 (.sure 88 (.sure 89 (.sure 92 (.sure 93 (.sure 94 (.sure 95 (.r (.ret (B (sameL sameTask [] []))) (.sure 106 (.ff (.r (.ret (.tup [D.c (C.l eTask (Book.best b)),D.c (Cb false)])) (.tt (.sure 118 (.sure 119 (.sure 120 (.sure 123 (.sure 124 (.sure 127 (.r (.ret (B true)) .nil)))))))))))))))))))))))))))))))))))))))) Tryz.func10 (by kernel_rfl) (Computes Tryz.prog Gl 26 [tBook b] (.ret (B (decide (List.length (Book.comps b)≤(6:Nat))&&(decide (List.length (Book.dues b)≤(4:Nat))&&decide (List.length (Book.sheets b)≤(5:Nat))))))∧((!(decide (b.1.length≤(6:Nat))&&(decide (b.2.length≤(4:Nat))&&decide (b.3.length≤(5:Nat)))))=true→Computes Tryz.prog Gl 22 [] (.ret (B true))∧true=true)∧((!(decide (b.1.length≤(6:Nat))&&(decide (b.2.length≤(4:Nat))&&decide (b.3.length≤(5:Nat)))))=false→Computes Tryz.prog Gl 49 [tBook b] (.ret (.tup [D.c (C.l eTask []),D.c (Ci 5)]))∧Computes Tryz.prog Gl 50 [tBook b] (.ret (.tup [D.c (Ci 0),D.c (Ci 0)]))∧Computes Tryz.prog Gl 51 [tBook b] (.ret (.tup [D.c (C.l eTask []),D.c (Ci 0),D.c (Ci 5)]))∧Computes Tryz.prog Gl 52 [tBook b] (.ret (B true))∧false=false∧Computes Tryz.prog Gl 53 [tBook b] (.ret (L ePlan []))∧true=true∧true=true∧true=true∧((0:Nat)≤maxLen→true=true∧true=true∧true=true∧((0:Nat)≤maxLen→true=true∧true=true∧true=true∧true=true∧true=true∧true=true∧true=true∧((0:Nat)≤maxLen→true=true∧true=true∧true=true∧true=true∧true=true∧((0:Nat)≤maxLen→true=true∧true=true∧(false=true→false=true)∧(false=true→false=true)∧(false=true→false=true)∧(false=true→(0:Int)≤(0:Int)∧(0:Int)<(↑(0:Nat):Int))∧(false=true→false=true)∧(false=true→false=true)∧(false=true→false=true)∧(false=true→Computes Tryz.prog Gl 54 [L eTask [],L eTask []] (.ret (B (sameL sameTask [] []))))∧(false=true→false=true)∧(false=true→false=true)∧(false=true→true=false→false=true)∧true=true∧(false=true→false=true)∧false=false∧Computes Tryz.prog Gl 55 [tBook b] (.ret (.tup [D.c (C.l eTask (Book.best b)),D.c (Cb false)]))∧true=true∧true=true∧true=true∧((0:Nat)≤maxLen→true=true∧true=true∧true=true∧true=true∧Computes Tryz.prog Gl 22 [] (.ret (B true))∧true=true))))))) (by kernel_rfl) ?_
  simp only [stdS, imp_self, implies_true, and_true]
  repeat' first | with_reducible apply And.intro | with_reducible intro _
  all_goals first
    | contradiction
    | exact known22 S hG
    | exact short26 S b
    | exact firstN' S b hb ha
    | exact countN S b hb ha
    | exact bestN S b hb hn
    | exact bookV S b hb
    | exact all53N S b hb ha
    | exact best55F S b hb hn
    | exact trivial
    | rfl
    | omega
    | simp
theorem law10c (S : Set Tryz.prog Y Gl) (b : Book) (hG : GlOK Gl) (hb : b.ok = true) (ha : b.all.length = 0) (hn : b.plans.length ≠ 0) (hg : b.good b.best = true) : Computes Tryz.prog Gl 10 [tBook b] (.ret (B true)) := by
  refine fn_is S (.r (.ret (B (decide (List.length (Book.comps b)≤(6:Nat))&&(decide (List.length (Book.dues b)≤(4:Nat))&&decide (List.length (Book.sheets b)≤(5:Nat)))))) (.br (.r (.ret (B true)) .nil) (.r (.ret (.tup [D.c (C.l eTask []),D.c (Ci 5)])) (.r (.ret (.tup [D.c (Ci 0),D.c (Ci 0)])) (.r (.ret (.tup [D.c (C.l eTask (Book.best b)),D.c (Ci (lastOf b (Book.best b))),D.c (Ci 0)])) (.r (.ret (B true)) (.ff (.r (.ret (L ePlan [])) (.sure 72 (.sure 73 (.sure 74 (.sure 75 (.sure 78 (.sure 79 (.sure 80 (.sure 81 (.sure 82 (.sure 83 (.sure 84 (.sure 85 (.sure 86 (.sure 87 (.sure 88 (.sure 89 (.sure 92 (.sure 93 (.sure 94 (.sure 95 (.r (.ret (B (sameL sameTask [] []))) (.sure 106 (.ff (.r (.ret (.tup [D.c (C.l eTask (Book.best b)),D.c (Cb true)])) (.ff (.sure 132 (.sure 133 (.sure 134 (.r (.ret (B true)) (.sure 137 (.sure 138 (.sure 139 (.sure 140 (.r (.ret (I (lastOf b (Book.best b)))) (.sure 141 (.r (.ret (B true)) .nil)))))))))))))))))))))))))))))))))))))))))))) Tryz.func10 (by kernel_rfl) (Computes Tryz.prog Gl 26 [tBook b] (.ret (B (decide (List.length (Book.comps b)≤(6:Nat))&&(decide (List.length (Book.dues b)≤(4:Nat))&&decide (List.length (Book.sheets b)≤(5:Nat))))))∧((!(decide (b.1.length≤(6:Nat))&&(decide (b.2.length≤(4:Nat))&&decide (b.3.length≤(5:Nat)))))=true→Computes Tryz.prog Gl 22 [] (.ret (B true))∧true=true)∧((!(decide (b.1.length≤(6:Nat))&&(decide (b.2.length≤(4:Nat))&&decide (b.3.length≤(5:Nat)))))=false→Computes Tryz.prog Gl 49 [tBook b] (.ret (.tup [D.c (C.l eTask []),D.c (Ci 5)]))∧Computes Tryz.prog Gl 50 [tBook b] (.ret (.tup [D.c (Ci 0),D.c (Ci 0)]))∧Computes Tryz.prog Gl 51 [tBook b] (.ret (.tup [D.c (C.l eTask (Book.best b)),D.c (Ci (lastOf b (Book.best b))),D.c (Ci 0)]))∧Computes Tryz.prog Gl 52 [tBook b] (.ret (B true))∧false=false∧Computes Tryz.prog Gl 53 [tBook b] (.ret (L ePlan []))∧true=true∧true=true∧true=true∧((0:Nat)≤maxLen→true=true∧true=true∧true=true∧((0:Nat)≤maxLen→true=true∧true=true∧true=true∧true=true∧true=true∧true=true∧true=true∧((0:Nat)≤maxLen→true=true∧true=true∧true=true∧true=true∧true=true∧((0:Nat)≤maxLen→true=true∧true=true∧(false=true→false=true)∧(false=true→false=true)∧(false=true→false=true)∧(false=true→(0:Int)≤(0:Int)∧(0:Int)<(↑(0:Nat):Int))∧(false=true→false=true)∧(false=true→false=true)∧(false=true→false=true)∧(false=true→Computes Tryz.prog Gl 54 [L eTask [],L eTask []] (.ret (B (sameL sameTask [] []))))∧(false=true→false=true)∧(false=true→false=true)∧(false=true→true=false→false=true)∧true=true∧(false=true→false=true)∧false=false∧Computes Tryz.prog Gl 55 [tBook b] (.ret (.tup [D.c (C.l eTask (Book.best b)),D.c (Cb true)]))∧false=false∧true=true∧true=true∧true=true∧Computes Tryz.prog Gl 54 [L eTask (Book.best b),L eTask (Book.best b)] (.ret (B true))∧true=true∧true=true∧true=true∧true=true∧Computes Tryz.prog Gl 56 [tBook b,L eTask (Book.best b)] (.ret (I (lastOf b (Book.best b))))∧true=true∧(eqB (bif true then lastOf b (Book.best b)==lastOf b (Book.best b) else false) true=true→Computes Tryz.prog Gl 22 [] (.ret (B true)))∧((bif true then lastOf b (Book.best b)==lastOf b (Book.best b) else false)=true→eqB (bif true then lastOf b (Book.best b)==lastOf b (Book.best b) else false) true=true)∧(bif bif true then lastOf b (Book.best b)==lastOf b (Book.best b) else false then true else false)=true)))))) (by kernel_rfl) ?_
  simp only [stdS, imp_self, implies_true, and_true]
  repeat' first | with_reducible apply And.intro | with_reducible intro _
  all_goals first
    | contradiction
    | exact known22 S hG
    | exact short26 S b
    | exact firstN' S b hb ha
    | exact countN S b hb ha
    | exact bestT S b hb hn
    | exact bookV S b hb
    | exact all53N S b hb ha
    | exact best55T S b hb hn
    | exact sameP_T S _
    | exact last56 S b b.best hb hg
    | exact trivial
    | rfl
    | omega
    | simp
theorem law10d (S : Set Tryz.prog Y Gl) (b : Book) (hG : GlOK Gl) (hb : b.ok = true) (ha : b.all.length ≠ 0) (hn : b.plans.length ≠ 0) (hg : b.good b.best = true) (e1 : ((b.all.length : Int) != (b.all.length : Int)) = false) (e2 : ((b.all.length : Int) == 0) = false) (e3 : decide (0 < (b.all.length : Int)) = true) (e4 : (lastOf b b.best == lastOf b b.best) = true) : Computes Tryz.prog Gl 10 [tBook b] (.ret (B true)) := by
  refine fn_is S (.r (.ret (B (decide (List.length (Book.comps b)≤(6:Nat))&&(decide (List.length (Book.dues b)≤(4:Nat))&&decide (List.length (Book.sheets b)≤(5:Nat)))))) (.br (.r (.ret (B true)) .nil) (.r (.ret (.tup [D.c (C.l eTask (nth (Book.all b) (0:Nat))),D.c (Ci 0)])) (.r (.ret (.tup [D.c (Ci (↑(List.length (Book.all b)):Int)),D.c (Ci 0)])) (.r (.ret (.tup [D.c (C.l eTask (Book.best b)),D.c (Ci (lastOf b (Book.best b))),D.c (Ci 0)])) (.r (.ret (B true)) (.ff (.r (.ret (L ePlan (Book.all b))) (.sure 72 (.sure 73 (.sure 74 (.val 75 false (.sure 75 (.sure 78 (.sure 79 (.val 80 false (.sure 80 (.sure 81 (.sure 89 (.sure 92 (.sure 93 (.val 94 true (.sure 94 (.sure 95 (.sure 96 (.sure 97 (.sure 98 (.sure 99 (.sure 100 (.sure 101 (.sure 102 (.sure 103 (.r (.ret (B true)) (.sure 104 (.sure 105 (.sure 106 (.ff (.r (.ret (.tup [D.c (C.l eTask (Book.best b)),D.c (Cb true)])) (.ff (.sure 132 (.sure 133 (.sure 134 (.r (.ret (B true)) (.sure 137 (.sure 138 (.sure 139 (.sure 140 (.r (.ret (I (lastOf b (Book.best b)))) (.val 141 true (.sure 141 (.sure 144 (.r (.ret (B true)) .nil)))))))))))))))))))))))))))))))))))))))))))))))))))) Tryz.func10 (by kernel_rfl) (Computes Tryz.prog Gl 26 [tBook b] (.ret (B (decide (List.length (Book.comps b)≤(6:Nat))&&(decide (List.length (Book.dues b)≤(4:Nat))&&decide (List.length (Book.sheets b)≤(5:Nat))))))∧((!(decide (b.1.length≤(6:Nat))&&(decide (b.2.length≤(4:Nat))&&decide (b.3.length≤(5:Nat)))))=true→Computes Tryz.prog Gl 22 [] (.ret (B true))∧true=true)∧((!(decide (b.1.length≤(6:Nat))&&(decide (b.2.length≤(4:Nat))&&decide (b.3.length≤(5:Nat)))))=false→Computes Tryz.prog Gl 49 [tBook b] (.ret (.tup [D.c (C.l eTask (nth (Book.all b) (0:Nat))),D.c (Ci 0)]))∧Computes Tryz.prog Gl 50 [tBook b] (.ret (.tup [D.c (Ci (↑(List.length (Book.all b)):Int)),D.c (Ci 0)]))∧Computes Tryz.prog Gl 51 [tBook b] (.ret (.tup [D.c (C.l eTask (Book.best b)),D.c (Ci (lastOf b (Book.best b))),D.c (Ci 0)]))∧Computes Tryz.prog Gl 52 [tBook b] (.ret (B true))∧false=false∧Computes Tryz.prog Gl 53 [tBook b] (.ret (L ePlan (Book.all b)))∧true=true∧true=true∧true=true∧(List.length (Book.all b)≤maxLen→((↑(List.length (Book.all b)):Int) != (↑(List.length (Book.all b)):Int))=false∧true=true∧true=true∧true=true∧(List.length (Book.all b)≤maxLen→((↑(List.length (Book.all b)):Int)==(0:Int))=false∧true=true∧true=true∧(false=true→false=true)∧(false=true→false=true)∧(false=true→false=true)∧((false=true→List.length (nth (Book.all b) (0:Nat))≤maxLen)→(false=true→false=true)∧(false=true→false=true)∧(false=true→true=false→false=true)∧true=true∧(false=true→false=true)∧true=true∧true=true∧(List.length (Book.all b)≤maxLen→decide ((0:Int)<(↑(List.length (Book.all b)):Int))=true∧true=true∧true=true∧true=true∧true=true∧true=true∧true=true∧true=true∧true=true∧((0:Int)≤(0:Int)∧(0:Int)<(↑(List.length (Book.all b)):Int))∧true=true∧true=true∧Computes Tryz.prog Gl 54 [L eTask (nth (Book.all b) (0:Nat)),L eTask (nth (Book.all b) (0:Nat))] (.ret (B true))∧true=true∧true=true∧true=true∧false=false∧Computes Tryz.prog Gl 55 [tBook b] (.ret (.tup [D.c (C.l eTask (Book.best b)),D.c (Cb true)]))∧false=false∧true=true∧true=true∧true=true∧Computes Tryz.prog Gl 54 [L eTask (Book.best b),L eTask (Book.best b)] (.ret (B true))∧true=true∧true=true∧true=true∧true=true∧Computes Tryz.prog Gl 56 [tBook b,L eTask (Book.best b)] (.ret (I (lastOf b (Book.best b))))∧(lastOf b (Book.best b)==lastOf b (Book.best b))=true∧true=true∧true=true∧Computes Tryz.prog Gl 22 [] (.ret (B true))∧true=true)))))) (by kernel_rfl) ?_
  simp only [stdS, imp_self, implies_true, and_true, Bool.false_and, Bool.true_and, Bool.and_true, Bool.and_false, Bool.false_or, Bool.true_or, Bool.or_false, Bool.or_true, Bool.false_eq_true, false_implies, true_implies, e1, e2, e3, e4]
  repeat' first | with_reducible apply And.intro | with_reducible intro _
  all_goals first
    | contradiction
    | exact known22 S hG
    | exact short26 S b
    | exact firstT S b hb ha
    | exact countT S b hb
    | exact bestT S b hb hn
    | exact bookV S b hb
    | exact all53 S b hb
    | exact best55T S b hb hn
    | exact sameP_T S _
    | exact last56 S b b.best hb hg
    | exact ⟨by decide, by omega⟩
    | exact by omega
    | exact trivial
    | rfl
    | omega
    | simp
theorem law10 (S : Set Tryz.prog Y Gl) (b : Book) (hG : GlOK Gl) : Computes Tryz.prog Gl 10 [tBook b] (.ret (B true)) := by
  cases hb : b.ok with
  | false => exact law10a S b hG hb
  | true =>
    by_cases hn : b.plans.length = 0
    · have ha : b.all.length = 0 := by
        rw [all_eq, List.length_eq_zero_iff.1 hn]
        rfl
      exact law10b S b hG hb ha hn
    · have hg := (best_spec hb hn).1
      by_cases ha : b.all.length = 0
      · exact law10c S b hG hb ha hn hg
      · exact law10d S b hG hb ha hn hg (by simp) (by rw [beq_eq_false_iff_ne]; omega) (by rw [decide_eq_true_eq]; omega) (by simp)
end Go.Vc.Gd
