/- A part of the proofs over layer 6 (give): the program and the specification; no condition. -/
import Derived.Test.YtnifdkjffcdhcaaGreatDoorHrG
set_option linter.all false
set_option linter.unusedSimpArgs false
set_option linter.unusedVariables false
namespace Go.Vc.Gd
open Go Go.Proofs Go.Vc
variable {Gl : World → Prop}
set_option maxRecDepth 100000
theorem law11a (S : Set Tryz.prog Y Gl) (b : Book) (plan : List Task) (sheet : Int) (hG : GlOK Gl) (h : okP b plan = false) : Computes Tryz.prog Gl 11 [tBook b, L eTask plan, I sheet] (.ret (B true)) := by
  refine fn_is S (.r (.ret (B false)) (.r (.ret (B (Book.isSheet b sheet))) (.tt (.r (.ret (B true)) .nil)))) Tryz.func11 (by kernel_rfl) (Computes Tryz.prog Gl 36 [tBook b,L eTask plan] (.ret (B false))∧(false=true→false=true)∧(false=true→false=true)∧(false=true→Computes Tryz.prog Gl 24 [tBook b,I sheet] (.ret (B (Book.isSheet b sheet))))∧(false=true→false=true)∧(true=false→false=true)∧true=true∧Computes Tryz.prog Gl 22 [] (.ret (B true))∧true=true) (by kernel_rfl) ?_
  simp only [stdS, imp_self, implies_true, and_true, Bool.false_and, Bool.true_and, Bool.and_true, Bool.and_false, Bool.false_or, Bool.true_or, Bool.or_false, Bool.or_true, Bool.false_eq_true, false_implies, true_implies]
  repeat' first | with_reducible apply And.intro | with_reducible intro _
  all_goals first
    | contradiction
    | exact known22 S hG
    | exact goodV S b plan h
    | exact trivial
    | rfl
    | omega
theorem law11b (S : Set Tryz.prog Y Gl) (b : Book) (plan : List Task) (sheet : Int) (hG : GlOK Gl) (h : okP b plan = true) (hs : b.isSheet sheet = false) : Computes Tryz.prog Gl 11 [tBook b, L eTask plan, I sheet] (.ret (B true)) := by
  refine fn_is S (.r (.ret (B true)) (.sure 22 (.sure 23 (.sure 24 (.r (.ret (B false)) (.sure 25 (.tt (.r (.ret (B true)) .nil)))))))) Tryz.func11 (by kernel_rfl) (Computes Tryz.prog Gl 36 [tBook b,L eTask plan] (.ret (B true))∧true=true∧true=true∧true=true∧Computes Tryz.prog Gl 24 [tBook b,I sheet] (.ret (B false))∧true=true∧true=true∧Computes Tryz.prog Gl 22 [] (.ret (B true))∧true=true) (by kernel_rfl) ?_
  simp only [stdS, imp_self, implies_true, and_true, Bool.false_and, Bool.true_and, Bool.and_true, Bool.and_false, Bool.false_or, Bool.true_or, Bool.or_false, Bool.or_true, Bool.false_eq_true, false_implies, true_implies]
  repeat' first | with_reducible apply And.intro | with_reducible intro _
  all_goals first
    | contradiction
    | exact known22 S hG
    | exact goodV S b plan h
    | exact sheetV S b sheet hs
    | exact trivial
    | rfl
    | omega
theorem law11c (S : Set Tryz.prog Y Gl) (b : Book) (plan : List Task) (sheet : Int) (hG : GlOK Gl) (h : okP b plan = true) (hb : b.ok = true) (hg : b.good plan = true) (hs : b.isSheet sheet = true) (ha : b.all.length = 0) (hw : whoTo b.all sheet b.comps.length = []) (hp : isProof b plan = true) (hc : Computes Tryz.prog Gl 50 [tBook b] (.ret (.tup [.c (Ci 0), .c (Ci 0)]))) (hwc : Computes Tryz.prog Gl 57 [tBook b, I sheet] (.ret (.tup [.c (.l eI []), .c (Ci 0)]))) (e1 : decide ((b.comps.length : Int) < 0) = false) : Computes Tryz.prog Gl 11 [tBook b, L eTask plan, I sheet] (.ret (B true)) := by
  refine fn_is S (.r (.ret (B true)) (.sure 22 (.sure 23 (.sure 24 (.r (.ret (B true)) (.sure 25 (.ff (.r (.ret (.tup [D.c (C.l eTask []),D.c (Ci 5)])) (.r (.ret (.tup [D.c (Ci 0),D.c (Ci 0)])) (.r (.ret (.tup [D.c (C.l eI []),D.c (Ci 0)])) (.r (.ret (.tup [D.c (Cb false),D.c (Cb true)])) (.sure 53 (.sure 54 (.sure 55 (.sure 56 (.sure 57 (.sure 58 (.sure 61 (.sure 62 (.sure 65 (.sure 66 (.sure 69 (.sure 70 (.sure 73 (.sure 74 (.sure 77 (.sure 78 (.sure 79 (.sure 80 (.sure 81 (.sure 84 (.sure 85 (.sure 86 (.sure 87 (.sure 88 (.sure 89 (.sure 92 (.sure 93 (.sure 94 (.sure 95 (.sure 96 (.sure 97 (.sure 100 (.sure 101 (.sure 104 (.ff (.tt (.r (.ret (B true)) .nil)))))))))))))))))))))))))))))))))))))))))))))))) Tryz.func11 (by kernel_rfl) (Computes Tryz.prog Gl 36 [tBook b,L eTask plan] (.ret (B true))∧true=true∧true=true∧true=true∧Computes Tryz.prog Gl 24 [tBook b,I sheet] (.ret (B true))∧true=true∧false=false∧Computes Tryz.prog Gl 49 [tBook b] (.ret (.tup [D.c (C.l eTask []),D.c (Ci 5)]))∧Computes Tryz.prog Gl 50 [tBook b] (.ret (.tup [D.c (Ci 0),D.c (Ci 0)]))∧Computes Tryz.prog Gl 57 [tBook b,I sheet] (.ret (.tup [D.c (C.l eI []),D.c (Ci 0)]))∧Computes Tryz.prog Gl 58 [tBook b,L eTask plan] (.ret (.tup [D.c (Cb false),D.c (Cb true)]))∧true=true∧true=true∧true=true∧true=true∧true=true∧true=true∧true=true∧true=true∧true=true∧true=true∧true=true∧true=true∧true=true∧true=true∧true=true∧true=true∧true=true∧true=true∧true=true∧true=true∧true=true∧((0:Nat)≤maxLen→true=true∧true=true∧true=true∧(b.1.length≤maxLen→true=true∧true=true∧true=true∧((0:Nat)≤maxLen→true=true∧true=true∧true=true∧true=true∧true=true∧true=true∧(false=true→false=true)∧true=true∧(false=true→false=true)∧false=false∧true=true∧Computes Tryz.prog Gl 22 [] (.ret (B true))∧true=true)))) (by kernel_rfl) ?_
  simp only [stdS, imp_self, implies_true, and_true, Bool.false_and, Bool.true_and, Bool.and_true, Bool.and_false, Bool.false_or, Bool.true_or, Bool.or_false, Bool.or_true, Bool.false_eq_true, false_implies, true_implies, e1]
  repeat' first | with_reducible apply And.intro | with_reducible intro _
  all_goals first
    | contradiction
    | exact known22 S hG
    | exact goodV S b plan h
    | exact sheetV S b sheet hs
    | exact firstN' S b hb ha
    | exact hc
    | exact hwc
    | exact surelyF S b plan hb hg hp
    | exact trivial
    | rfl
    | omega
theorem law11d (S : Set Tryz.prog Y Gl) (b : Book) (plan : List Task) (sheet : Int) (hG : GlOK Gl) (h : okP b plan = true) (hb : b.ok = true) (hg : b.good plan = true) (hs : b.isSheet sheet = true) (ha : b.all.length ≠ 0) (hgl : b.good (nth b.all 0) = true) (hpl : isProof b (nth b.all 0) = false) (e1 : decide ((b.all.length : Int) < 0) = false) (e2 : decide (1728 < (b.all.length : Int)) = false) (e3 : decide (0 < (b.all.length : Int)) = true) (e4 : decide ((b.comps.length : Int) < (whoTo b.all sheet b.comps.length).length) = false) (e5 : decide (0 < ((whoTo b.all sheet b.comps.length).length : Int)) = true) (m1 : (nth (nth b.all 0) sheet.toNat).one ∈ whoTo b.all sheet b.comps.length) (m2 : (nth (nth b.all 0) sheet.toNat).other ∈ whoTo b.all sheet b.comps.length) (r1 : 0 ≤ sheet ∧ sheet < (nth b.all 0).length) (r2 : 0 ≤ sheet ∧ sheet < plan.length) (hp : isProof b plan = true) : Computes Tryz.prog Gl 11 [tBook b, L eTask plan, I sheet] (.ret (B true)) := by
  refine fn_is S (.r (.ret (B true)) (.sure 22 (.sure 23 (.sure 24 (.r (.ret (B true)) (.sure 25 (.ff (.r (.ret (.tup [D.c (C.l eTask (nth (Book.all b) (0:Nat))),D.c (Ci 0)])) (.r (.ret (.tup [D.c (Ci (↑(List.length (Book.all b)):Int)),D.c (Ci 0)])) (.r (.ret (.tup [D.c (C.l eI (whoTo (Book.all b) sheet (List.length (Book.comps b)))),D.c (Ci 0)])) (.r (.ret (.tup [D.c (Cb false),D.c (Cb true)])) (.sure 53 (.sure 54 (.sure 55 (.sure 58 (.sure 61 (.sure 62 (.sure 65 (.sure 66 (.sure 69 (.sure 70 (.sure 73 (.val 74 false (.sure 74 (.sure 77 (.val 78 true (.sure 78 (.sure 79 (.sure 80 (.sure 81 (.sure 84 (.sure 85 (.sure 86 (.sure 87 (.sure 88 (.val 89 false (.sure 89 (.sure 92 (.sure 93 (.val 94 true (.sure 94 (.sure 95 (.sure 96 (.sure 97 (.sure 100 (.sure 101 (.sure 104 (.ff (.ff (.r (.ret (B true)) (.ff (.r (.ret (.tup [D.c (Cb true),D.c (Cb true)])) (.sure 122 (.sure 123 (.sure 126 (.sure 127 (.sure 128 (.sure 129 (.sure 130 (.sure 131 (.sure 132 (.r (.ret (B true)) (.sure 133 (.sure 136 (.sure 137 (.sure 138 (.sure 139 (.sure 140 (.sure 141 (.sure 142 (.r (.ret (B true)) (.sure 143 (.ff (.tt (.r (.ret (B true)) .nil))))))))))))))))))))))))))))))))))))))))))))))))))))))))))))))))))))))))))) Tryz.func11 (by kernel_rfl) (Computes Tryz.prog Gl 36 [tBook b,L eTask plan] (.ret (B true))∧true=true∧true=true∧true=true∧Computes Tryz.prog Gl 24 [tBook b,I sheet] (.ret (B true))∧true=true∧false=false∧Computes Tryz.prog Gl 49 [tBook b] (.ret (.tup [D.c (C.l eTask (nth (Book.all b) (0:Nat))),D.c (Ci 0)]))∧Computes Tryz.prog Gl 50 [tBook b] (.ret (.tup [D.c (Ci (↑(List.length (Book.all b)):Int)),D.c (Ci 0)]))∧Computes Tryz.prog Gl 57 [tBook b,I sheet] (.ret (.tup [D.c (C.l eI (whoTo (Book.all b) sheet (List.length (Book.comps b)))),D.c (Ci 0)]))∧Computes Tryz.prog Gl 58 [tBook b,L eTask plan] (.ret (.tup [D.c (Cb false),D.c (Cb true)]))∧true=true∧true=true∧true=true∧(false=true→false=true)∧true=true∧(false=true→false=true)∧true=true∧true=true∧true=true∧true=true∧true=true∧true=true∧true=true∧decide ((1728:Int)<(↑(List.length (Book.all b)):Int))=false∧true=true∧true=true∧decide ((0:Int)<(↑(List.length (Book.all b)):Int))=true∧true=true∧true=true∧true=true∧true=true∧true=true∧true=true∧(List.length (whoTo (Book.all b) sheet b.1.length)≤maxLen→true=true∧true=true∧true=true∧(b.1.length≤maxLen→decide ((↑b.1.length:Int)<(↑(List.length (whoTo (Book.all b) sheet b.1.length)):Int))=false∧true=true∧true=true∧true=true∧(List.length (whoTo (Book.all b) sheet b.1.length)≤maxLen→decide ((0:Int)<(↑(List.length (whoTo (Book.all b) sheet b.1.length)):Int))=true∧true=true∧true=true∧true=true∧true=true∧true=true∧true=true∧(false=true→false=true)∧true=true∧(false=true→false=true)∧false=false∧false=false∧Computes Tryz.prog Gl 59 [tBook b,L eTask (nth (Book.all b) (0:Nat))] (.ret (B true))∧false=false∧Computes Tryz.prog Gl 58 [tBook b,L eTask (nth (Book.all b) (0:Nat))] (.ret (.tup [D.c (Cb true),D.c (Cb true)]))∧true=true∧true=true∧true=true∧true=true∧true=true∧true=true∧((0:Int)≤sheet∧sheet<(↑(List.length (nth (Book.all b) (0:Nat))):Int))∧true=true∧true=true∧true=true∧Computes Tryz.prog Gl 60 [L eI (whoTo (Book.all b) sheet (List.length (Book.comps b))),I (Task.one (nth (nth (Book.all b) (0:Nat)) (Int.toNat sheet)))] (.ret (B true))∧true=true∧true=true∧true=true∧true=true∧true=true∧((0:Int)≤sheet∧sheet<(↑(List.length (nth (Book.all b) (0:Nat))):Int))∧true=true∧true=true∧true=true∧Computes Tryz.prog Gl 60 [L eI (whoTo (Book.all b) sheet (List.length (Book.comps b))),I (Task.other (nth (nth (Book.all b) (0:Nat)) (Int.toNat sheet)))] (.ret (B true))∧true=true∧false=false∧true=true∧Computes Tryz.prog Gl 22 [] (.ret (B true))∧true=true)))) (by kernel_rfl) ?_
  simp only [stdS, imp_self, implies_true, and_true, Bool.false_and, Bool.true_and, Bool.and_true, Bool.and_false, Bool.false_or, Bool.true_or, Bool.or_false, Bool.or_true, Bool.false_eq_true, false_implies, true_implies, e1, e2, e3, e4, e5]
  repeat' first | with_reducible apply And.intro | with_reducible intro _
  all_goals first
    | contradiction
    | exact known22 S hG
    | exact goodV S b plan h
    | exact sheetV S b sheet hs
    | exact firstT S b hb ha
    | exact countT S b hb
    | exact whoT S b sheet hb hs
    | exact goodRefV S b (nth b.all 0) hgl
    | exact surelyT S b (nth b.all 0) hb hgl hpl
    | exact listedV S _ _ m1
    | exact listedV S _ _ m2
    | exact surelyF S b plan hb hg hp
    | exact trivial
    | rfl
    | omega
theorem law11e (S : Set Tryz.prog Y Gl) (b : Book) (plan : List Task) (sheet : Int) (hG : GlOK Gl) (h : okP b plan = true) (hb : b.ok = true) (hg : b.good plan = true) (hs : b.isSheet sheet = true) (ha : b.all.length ≠ 0) (hgl : b.good (nth b.all 0) = true) (hpl : isProof b (nth b.all 0) = false) (e1 : decide ((b.all.length : Int) < 0) = false) (e2 : decide (1728 < (b.all.length : Int)) = false) (e3 : decide (0 < (b.all.length : Int)) = true) (e4 : decide ((b.comps.length : Int) < (whoTo b.all sheet b.comps.length).length) = false) (e5 : decide (0 < ((whoTo b.all sheet b.comps.length).length : Int)) = true) (m1 : (nth (nth b.all 0) sheet.toNat).one ∈ whoTo b.all sheet b.comps.length) (m2 : (nth (nth b.all 0) sheet.toNat).other ∈ whoTo b.all sheet b.comps.length) (r1 : 0 ≤ sheet ∧ sheet < (nth b.all 0).length) (r2 : 0 ≤ sheet ∧ sheet < plan.length) (hp : isProof b plan = false) (m3 : (nth plan sheet.toNat).one ∈ whoTo b.all sheet b.comps.length) (m4 : (nth plan sheet.toNat).other ∈ whoTo b.all sheet b.comps.length) (hbf : Computes Tryz.prog Gl 61 [L eTask plan, L eTask (nth b.all 0)] (.ret (B false))) (hsm : Computes Tryz.prog Gl 54 [L eTask plan, L eTask (nth b.all 0)] (.ret (B true))) : Computes Tryz.prog Gl 11 [tBook b, L eTask plan, I sheet] (.ret (B true)) := by
  refine fn_is S (.r (.ret (B true)) (.sure 22 (.sure 23 (.sure 24 (.r (.ret (B true)) (.sure 25 (.ff (.r (.ret (.tup [D.c (C.l eTask (nth (Book.all b) (0:Nat))),D.c (Ci 0)])) (.r (.ret (.tup [D.c (Ci (↑(List.length (Book.all b)):Int)),D.c (Ci 0)])) (.r (.ret (.tup [D.c (C.l eI (whoTo (Book.all b) sheet (List.length (Book.comps b)))),D.c (Ci 0)])) (.r (.ret (.tup [D.c (Cb true),D.c (Cb true)])) (.sure 53 (.sure 54 (.sure 55 (.sure 58 (.sure 61 (.sure 62 (.sure 65 (.sure 66 (.sure 69 (.sure 70 (.sure 73 (.val 74 false (.sure 74 (.sure 77 (.val 78 true (.sure 78 (.sure 79 (.sure 80 (.sure 81 (.sure 84 (.sure 85 (.sure 86 (.sure 87 (.sure 88 (.val 89 false (.sure 89 (.sure 92 (.sure 93 (.val 94 true (.sure 94 (.sure 95 (.sure 96 (.sure 97 (.sure 100 (.sure 101 (.sure 102 (.sure 103 (.sure 104 (.ff (.ff (.r (.ret (B true)) (.ff (.r (.ret (.tup [D.c (Cb true),D.c (Cb true)])) (.sure 122 (.sure 123 (.sure 126 (.sure 127 (.sure 128 (.sure 129 (.sure 130 (.sure 131 (.sure 132 (.r (.ret (B true)) (.sure 133 (.sure 136 (.sure 137 (.sure 138 (.sure 139 (.sure 140 (.sure 141 (.sure 142 (.r (.ret (B true)) (.sure 143 (.ff (.ff (.r (.ret (B false)) (.sure 153 (.sure 154 (.sure 155 (.r (.ret (B true)) (.sure 156 (.sure 159 (.sure 162 (.sure 163 (.sure 164 (.sure 165 (.sure 166 (.sure 167 (.sure 168 (.r (.ret (B true)) (.sure 171 (.sure 172 (.sure 173 (.sure 174 (.sure 175 (.sure 176 (.sure 177 (.r (.ret (B true)) (.sure 180 (.r (.ret (B true)) .nil))))))))))))))))))))))))))))))))))))))))))))))))))))))))))))))))))))))))))))))))))))))))))))))))))))) Tryz.func11 (by kernel_rfl) (Computes Tryz.prog Gl 36 [tBook b,L eTask plan] (.ret (B true))∧true=true∧true=true∧true=true∧Computes Tryz.prog Gl 24 [tBook b,I sheet] (.ret (B true))∧true=true∧false=false∧Computes Tryz.prog Gl 49 [tBook b] (.ret (.tup [D.c (C.l eTask (nth (Book.all b) (0:Nat))),D.c (Ci 0)]))∧Computes Tryz.prog Gl 50 [tBook b] (.ret (.tup [D.c (Ci (↑(List.length (Book.all b)):Int)),D.c (Ci 0)]))∧Computes Tryz.prog Gl 57 [tBook b,I sheet] (.ret (.tup [D.c (C.l eI (whoTo (Book.all b) sheet (List.length (Book.comps b)))),D.c (Ci 0)]))∧Computes Tryz.prog Gl 58 [tBook b,L eTask plan] (.ret (.tup [D.c (Cb true),D.c (Cb true)]))∧true=true∧true=true∧true=true∧(false=true→false=true)∧true=true∧(false=true→false=true)∧true=true∧true=true∧true=true∧true=true∧true=true∧true=true∧true=true∧decide ((1728:Int)<(↑(List.length (Book.all b)):Int))=false∧true=true∧true=true∧decide ((0:Int)<(↑(List.length (Book.all b)):Int))=true∧true=true∧true=true∧true=true∧true=true∧true=true∧true=true∧(List.length (whoTo (Book.all b) sheet b.1.length)≤maxLen→true=true∧true=true∧true=true∧(b.1.length≤maxLen→decide ((↑b.1.length:Int)<(↑(List.length (whoTo (Book.all b) sheet b.1.length)):Int))=false∧true=true∧true=true∧true=true∧(List.length (whoTo (Book.all b) sheet b.1.length)≤maxLen→decide ((0:Int)<(↑(List.length (whoTo (Book.all b) sheet b.1.length)):Int))=true∧true=true∧true=true∧true=true∧true=true∧true=true∧true=true∧true=true∧true=true∧true=true∧false=false∧false=false∧Computes Tryz.prog Gl 59 [tBook b,L eTask (nth (Book.all b) (0:Nat))] (.ret (B true))∧false=false∧Computes Tryz.prog Gl 58 [tBook b,L eTask (nth (Book.all b) (0:Nat))] (.ret (.tup [D.c (Cb true),D.c (Cb true)]))∧true=true∧true=true∧true=true∧true=true∧true=true∧true=true∧((0:Int)≤sheet∧sheet<(↑(List.length (nth (Book.all b) (0:Nat))):Int))∧true=true∧true=true∧true=true∧Computes Tryz.prog Gl 60 [L eI (whoTo (Book.all b) sheet (List.length (Book.comps b))),I (Task.one (nth (nth (Book.all b) (0:Nat)) (Int.toNat sheet)))] (.ret (B true))∧true=true∧true=true∧true=true∧true=true∧true=true∧((0:Int)≤sheet∧sheet<(↑(List.length (nth (Book.all b) (0:Nat))):Int))∧true=true∧true=true∧true=true∧Computes Tryz.prog Gl 60 [L eI (whoTo (Book.all b) sheet (List.length (Book.comps b))),I (Task.other (nth (nth (Book.all b) (0:Nat)) (Int.toNat sheet)))] (.ret (B true))∧true=true∧false=false∧false=false∧Computes Tryz.prog Gl 61 [L eTask plan,L eTask (nth (Book.all b) (0:Nat))] (.ret (B false))∧true=true∧true=true∧true=true∧Computes Tryz.prog Gl 54 [L eTask plan,L eTask (nth (Book.all b) (0:Nat))] (.ret (B true))∧true=true∧(false=true→false=true)∧true=true∧(true=false→false=true)∧true=true∧true=true∧true=true∧true=true∧((0:Int)≤sheet∧sheet<(↑plan.length:Int))∧true=true∧true=true∧true=true∧Computes Tryz.prog Gl 60 [L eI (whoTo (Book.all b) sheet (List.length (Book.comps b))),I (Task.one (nth plan (Int.toNat sheet)))] (.ret (B true))∧true=true∧true=true∧true=true∧true=true∧((0:Int)≤sheet∧sheet<(↑plan.length:Int))∧true=true∧true=true∧true=true∧Computes Tryz.prog Gl 60 [L eI (whoTo (Book.all b) sheet (List.length (Book.comps b))),I (Task.other (nth plan (Int.toNat sheet)))] (.ret (B true))∧true=true∧Computes Tryz.prog Gl 22 [] (.ret (B true))∧true=true)))) (by kernel_rfl) ?_
  simp only [stdS, imp_self, implies_true, and_true, Bool.false_and, Bool.true_and, Bool.and_true, Bool.and_false, Bool.false_or, Bool.true_or, Bool.or_false, Bool.or_true, Bool.false_eq_true, false_implies, true_implies, e1, e2, e3, e4, e5]
  repeat' first | with_reducible apply And.intro | with_reducible intro _
  all_goals first
    | contradiction
    | exact known22 S hG
    | exact goodV S b plan h
    | exact sheetV S b sheet hs
    | exact firstT S b hb ha
    | exact countT S b hb
    | exact whoT S b sheet hb hs
    | exact goodRefV S b (nth b.all 0) hgl
    | exact surelyT S b (nth b.all 0) hb hgl hpl
    | exact listedV S _ _ m1
    | exact listedV S _ _ m2
    | exact surelyT S b plan hb hg hp
    | exact listedV S _ _ m3
    | exact listedV S _ _ m4
    | exact hbf
    | exact hsm
    | exact trivial
    | rfl
    | omega
theorem law11f (S : Set Tryz.prog Y Gl) (b : Book) (plan : List Task) (sheet : Int) (hG : GlOK Gl) (h : okP b plan = true) (hb : b.ok = true) (hg : b.good plan = true) (hs : b.isSheet sheet = true) (ha : b.all.length ≠ 0) (hgl : b.good (nth b.all 0) = true) (hpl : isProof b (nth b.all 0) = false) (e1 : decide ((b.all.length : Int) < 0) = false) (e2 : decide (1728 < (b.all.length : Int)) = false) (e3 : decide (0 < (b.all.length : Int)) = true) (e4 : decide ((b.comps.length : Int) < (whoTo b.all sheet b.comps.length).length) = false) (e5 : decide (0 < ((whoTo b.all sheet b.comps.length).length : Int)) = true) (m1 : (nth (nth b.all 0) sheet.toNat).one ∈ whoTo b.all sheet b.comps.length) (m2 : (nth (nth b.all 0) sheet.toNat).other ∈ whoTo b.all sheet b.comps.length) (r1 : 0 ≤ sheet ∧ sheet < (nth b.all 0).length) (r2 : 0 ≤ sheet ∧ sheet < plan.length) (hp : isProof b plan = false) (m3 : (nth plan sheet.toNat).one ∈ whoTo b.all sheet b.comps.length) (m4 : (nth plan sheet.toNat).other ∈ whoTo b.all sheet b.comps.length) (hbf : Computes Tryz.prog Gl 61 [L eTask plan, L eTask (nth b.all 0)] (.ret (B false))) (hsm : Computes Tryz.prog Gl 54 [L eTask plan, L eTask (nth b.all 0)] (.ret (B false))) (e6 : decide (1 < (b.all.length : Int)) = true) : Computes Tryz.prog Gl 11 [tBook b, L eTask plan, I sheet] (.ret (B true)) := by
  refine fn_is S (.r (.ret (B true)) (.sure 22 (.sure 23 (.sure 24 (.r (.ret (B true)) (.sure 25 (.ff (.r (.ret (.tup [D.c (C.l eTask (nth (Book.all b) (0:Nat))),D.c (Ci 0)])) (.r (.ret (.tup [D.c (Ci (↑(List.length (Book.all b)):Int)),D.c (Ci 0)])) (.r (.ret (.tup [D.c (C.l eI (whoTo (Book.all b) sheet (List.length (Book.comps b)))),D.c (Ci 0)])) (.r (.ret (.tup [D.c (Cb true),D.c (Cb true)])) (.sure 53 (.sure 54 (.sure 55 (.sure 58 (.sure 61 (.sure 62 (.sure 65 (.sure 66 (.sure 69 (.sure 70 (.sure 73 (.val 74 false (.sure 74 (.sure 77 (.val 78 true (.sure 78 (.sure 79 (.sure 80 (.sure 81 (.sure 84 (.sure 85 (.sure 86 (.sure 87 (.sure 88 (.val 89 false (.sure 89 (.sure 92 (.sure 93 (.val 94 true (.sure 94 (.sure 95 (.sure 96 (.sure 97 (.sure 100 (.sure 101 (.sure 102 (.sure 103 (.sure 104 (.ff (.ff (.r (.ret (B true)) (.ff (.r (.ret (.tup [D.c (Cb true),D.c (Cb true)])) (.sure 122 (.sure 123 (.sure 126 (.sure 127 (.sure 128 (.sure 129 (.sure 130 (.sure 131 (.sure 132 (.r (.ret (B true)) (.sure 133 (.sure 136 (.sure 137 (.sure 138 (.sure 139 (.sure 140 (.sure 141 (.sure 142 (.r (.ret (B true)) (.sure 143 (.ff (.ff (.r (.ret (B false)) (.sure 153 (.sure 154 (.sure 155 (.r (.ret (B false)) (.sure 156 (.sure 157 (.val 158 true (.sure 158 (.sure 159 (.sure 162 (.sure 163 (.sure 164 (.sure 165 (.sure 166 (.sure 167 (.sure 168 (.r (.ret (B true)) (.sure 171 (.sure 172 (.sure 173 (.sure 174 (.sure 175 (.sure 176 (.sure 177 (.r (.ret (B true)) (.sure 180 (.r (.ret (B true)) .nil)))))))))))))))))))))))))))))))))))))))))))))))))))))))))))))))))))))))))))))))))))))))))))))))))))))))) Tryz.func11 (by kernel_rfl) (Computes Tryz.prog Gl 36 [tBook b,L eTask plan] (.ret (B true))∧true=true∧true=true∧true=true∧Computes Tryz.prog Gl 24 [tBook b,I sheet] (.ret (B true))∧true=true∧false=false∧Computes Tryz.prog Gl 49 [tBook b] (.ret (.tup [D.c (C.l eTask (nth (Book.all b) (0:Nat))),D.c (Ci 0)]))∧Computes Tryz.prog Gl 50 [tBook b] (.ret (.tup [D.c (Ci (↑(List.length (Book.all b)):Int)),D.c (Ci 0)]))∧Computes Tryz.prog Gl 57 [tBook b,I sheet] (.ret (.tup [D.c (C.l eI (whoTo (Book.all b) sheet (List.length (Book.comps b)))),D.c (Ci 0)]))∧Computes Tryz.prog Gl 58 [tBook b,L eTask plan] (.ret (.tup [D.c (Cb true),D.c (Cb true)]))∧true=true∧true=true∧true=true∧(false=true→false=true)∧true=true∧(false=true→false=true)∧true=true∧true=true∧true=true∧true=true∧true=true∧true=true∧true=true∧decide ((1728:Int)<(↑(List.length (Book.all b)):Int))=false∧true=true∧true=true∧decide ((0:Int)<(↑(List.length (Book.all b)):Int))=true∧true=true∧true=true∧true=true∧true=true∧true=true∧true=true∧(List.length (whoTo (Book.all b) sheet b.1.length)≤maxLen→true=true∧true=true∧true=true∧(b.1.length≤maxLen→decide ((↑b.1.length:Int)<(↑(List.length (whoTo (Book.all b) sheet b.1.length)):Int))=false∧true=true∧true=true∧true=true∧(List.length (whoTo (Book.all b) sheet b.1.length)≤maxLen→decide ((0:Int)<(↑(List.length (whoTo (Book.all b) sheet b.1.length)):Int))=true∧true=true∧true=true∧true=true∧true=true∧true=true∧true=true∧true=true∧true=true∧true=true∧false=false∧false=false∧Computes Tryz.prog Gl 59 [tBook b,L eTask (nth (Book.all b) (0:Nat))] (.ret (B true))∧false=false∧Computes Tryz.prog Gl 58 [tBook b,L eTask (nth (Book.all b) (0:Nat))] (.ret (.tup [D.c (Cb true),D.c (Cb true)]))∧true=true∧true=true∧true=true∧true=true∧true=true∧true=true∧((0:Int)≤sheet∧sheet<(↑(List.length (nth (Book.all b) (0:Nat))):Int))∧true=true∧true=true∧true=true∧Computes Tryz.prog Gl 60 [L eI (whoTo (Book.all b) sheet (List.length (Book.comps b))),I (Task.one (nth (nth (Book.all b) (0:Nat)) (Int.toNat sheet)))] (.ret (B true))∧true=true∧true=true∧true=true∧true=true∧true=true∧((0:Int)≤sheet∧sheet<(↑(List.length (nth (Book.all b) (0:Nat))):Int))∧true=true∧true=true∧true=true∧Computes Tryz.prog Gl 60 [L eI (whoTo (Book.all b) sheet (List.length (Book.comps b))),I (Task.other (nth (nth (Book.all b) (0:Nat)) (Int.toNat sheet)))] (.ret (B true))∧true=true∧false=false∧false=false∧Computes Tryz.prog Gl 61 [L eTask plan,L eTask (nth (Book.all b) (0:Nat))] (.ret (B false))∧true=true∧true=true∧true=true∧Computes Tryz.prog Gl 54 [L eTask plan,L eTask (nth (Book.all b) (0:Nat))] (.ret (B false))∧true=true∧true=true∧decide ((1:Int)<(↑(List.length (Book.all b)):Int))=true∧true=true∧true=true∧true=true∧true=true∧true=true∧true=true∧((0:Int)≤sheet∧sheet<(↑plan.length:Int))∧true=true∧true=true∧true=true∧Computes Tryz.prog Gl 60 [L eI (whoTo (Book.all b) sheet (List.length (Book.comps b))),I (Task.one (nth plan (Int.toNat sheet)))] (.ret (B true))∧true=true∧true=true∧true=true∧true=true∧((0:Int)≤sheet∧sheet<(↑plan.length:Int))∧true=true∧true=true∧true=true∧Computes Tryz.prog Gl 60 [L eI (whoTo (Book.all b) sheet (List.length (Book.comps b))),I (Task.other (nth plan (Int.toNat sheet)))] (.ret (B true))∧true=true∧Computes Tryz.prog Gl 22 [] (.ret (B true))∧true=true)))) (by kernel_rfl) ?_
  simp only [stdS, imp_self, implies_true, and_true, Bool.false_and, Bool.true_and, Bool.and_true, Bool.and_false, Bool.false_or, Bool.true_or, Bool.or_false, Bool.or_true, Bool.false_eq_true, false_implies, true_implies, e1, e2, e3, e4, e5, e6]
  repeat' first | with_reducible apply And.intro | with_reducible intro _
  all_goals first
    | contradiction
    | exact known22 S hG
    | exact goodV S b plan h
    | exact sheetV S b sheet hs
    | exact firstT S b hb ha
    | exact countT S b hb
    | exact whoT S b sheet hb hs
    | exact goodRefV S b (nth b.all 0) hgl
    | exact surelyT S b (nth b.all 0) hb hgl hpl
    | exact listedV S _ _ m1
    | exact listedV S _ _ m2
    | exact surelyT S b plan hb hg hp
    | exact listedV S _ _ m3
    | exact listedV S _ _ m4
    | exact hbf
    | exact hsm
    | exact trivial
    | rfl
    | omega
theorem beforeV (S : Set Tryz.prog Y Gl) (a c : List Task) (ha : a.length ≤ 3) (hc : c.length ≤ 3) (h : ltL (flatP a) (flatP c) = false) : Computes Tryz.prog Gl 61 [L eTask a, L eTask c] (.ret (B false)) := by
  have h1 := before61 S a c (by omega) (by omega)
  rw [flatTo_all, flatTo_all, h] at h1
  exact h1
theorem law11 (S : Set Tryz.prog Y Gl) (b : Book) (plan : List Task) (sheet : Int) (hG : GlOK Gl) : Computes Tryz.prog Gl 11 [tBook b, L eTask plan, I sheet] (.ret (B true)) := by
  cases h : okP b plan with
  | false => exact law11a S b plan sheet hG h
  | true =>
    obtain ⟨hb, hg⟩ := okP_iff.1 h
    cases hs : b.isSheet sheet with
    | false => exact law11b S b plan sheet hG h hs
    | true =>
      have hs' := isSheet_iff.1 hs
      have hlp := (good_spec hg).1
      have r2 : 0 ≤ sheet ∧ sheet < plan.length := by omega
      by_cases ha : b.all.length = 0
      · have hw := who_none b sheet ha
        have hp : isProof b plan = true := by
          cases hp : isProof b plan with
          | true => rfl
          | false =>
            have := mem_all.2 ⟨hg, hp⟩
            rw [List.length_eq_zero_iff.1 ha] at this
            cases this
        have hc := countT S b hb
        rw [ha] at hc
        have hwc := whoT S b sheet hb hs
        rw [hw] at hwc
        exact law11c S b plan sheet hG h hb hg hs ha hw hp hc hwc (decide_eq_false (by omega))
      · have hm : nth b.all 0 ∈ b.all := nth_mem (by omega)
        obtain ⟨hgl, hpl⟩ := mem_all.1 hm
        have hll := (good_spec hgl).1
        have hle := all_le hb
        have m1 := who_mem hs hm (hand_one _)
        have m2 := who_mem hs hm (hand_other _)
        have hwl := whoTo_len b.all sheet b.comps.length
        have hwp := List.length_pos_of_mem m1
        have e1 : decide ((b.all.length : Int) < 0) = false := decide_eq_false (by omega)
        have e2 : decide (1728 < (b.all.length : Int)) = false := decide_eq_false (by omega)
        have e3 : decide (0 < (b.all.length : Int)) = true := decide_eq_true (by omega)
        have e4 : decide ((b.comps.length : Int) < (whoTo b.all sheet b.comps.length).length) = false := decide_eq_false (by omega)
        have e5 : decide (0 < ((whoTo b.all sheet b.comps.length).length : Int)) = true := decide_eq_true (by omega)
        have r1 : 0 ≤ sheet ∧ sheet < (nth b.all 0).length := by omega
        cases hp : isProof b plan with
        | true => exact law11d S b plan sheet hG h hb hg hs ha hgl hpl e1 e2 e3 e4 e5 m1 m2 r1 r2 hp
        | false =>
          have hmp := mem_all.2 ⟨hg, hp⟩
          obtain ⟨hlt, hor⟩ := all_first hb hmp
          have m3 := who_mem hs hmp (hand_one _)
          have m4 := who_mem hs hmp (hand_other _)
          have hbf := beforeV S plan (nth b.all 0) (good_len hb hg).2 (good_len hb hgl).2 hlt
          have hsm := samePlans54 S plan (nth b.all 0)
          cases hx : sameL sameTask plan (nth b.all 0) with
          | true => rw [hx] at hsm; exact law11e S b plan sheet hG h hb hg hs ha hgl hpl e1 e2 e3 e4 e5 m1 m2 r1 r2 hp m3 m4 hbf hsm
          | false =>
            rw [hx] at hsm
            have := hor.resolve_left (sameTask_ne hx)
            exact law11f S b plan sheet hG h hb hg hs ha hgl hpl e1 e2 e3 e4 e5 m1 m2 r1 r2 hp m3 m4 hbf hsm (decide_eq_true (by omega))
end Go.Vc.Gd
