/- A part of the proofs over layer 6 (give): the program and the specification; no condition. -/
import Derived.Test.YtnifdkjffcdhcaaGreatDoorHoG
set_option linter.all false
set_option linter.unusedSimpArgs false
set_option linter.unusedVariables false
namespace Go.Vc.Gd
open Go Go.Proofs Go.Vc
variable {Gl : World → Prop}
set_option maxRecDepth 100000
set_option maxHeartbeats 2000000
theorem law15a (S : Set Tryz.prog Y Gl) (b : Book) (like : Int) (plan : List Task) (hG : GlOK Gl) (hb : b.ok = false) : Computes Tryz.prog Gl 15 [tBook b, I like, L eTask plan] (.ret (B true)) := by
  refine fn_is S (.r (.ret (B false)) (.r (.ret (B (Book.isComp b like))) (.tt (.r (.ret (B true)) .nil)))) Tryz.func15 (by kernel_rfl) (Computes Tryz.prog Gl 21 [tBook b] (.ret (B false))∧(false=true→false=true)∧(false=true→false=true)∧(false=true→Computes Tryz.prog Gl 25 [tBook b,I like] (.ret (B (Book.isComp b like))))∧(false=true→false=true)∧(true=false→false=true)∧(false=true→false=true)∧(false=true→false=true)∧((false=true→b.1.length≤maxLen)→(false=true→false=true)∧(true=false→false=true)∧(false=true→false=true)∧((false=true→plan.length≤maxLen)→(false=true→false=true)∧(true=false→false=true)∧true=true∧Computes Tryz.prog Gl 22 [] (.ret (B true))∧true=true))) (by kernel_rfl) ?_
  simp only [stdS, imp_self, implies_true, and_true, Bool.false_and, Bool.true_and, Bool.and_true, Bool.and_false, Bool.false_or, Bool.true_or, Bool.or_false, Bool.or_true, Bool.false_eq_true, false_implies, true_implies]
  repeat' first | with_reducible apply And.intro | with_reducible intro _
  all_goals first
    | contradiction
    | with_reducible exact known22 S hG
    | with_reducible exact rightV S b hb
    | exact known22 S hG
    | exact rightV S b hb
    | exact trivial
    | rfl
    | omega
theorem law15b (S : Set Tryz.prog Y Gl) (b : Book) (like : Int) (plan : List Task) (hG : GlOK Gl) (hb : b.ok = true) (hc : b.isComp like = false) : Computes Tryz.prog Gl 15 [tBook b, I like, L eTask plan] (.ret (B true)) := by
  refine fn_is S (.r (.ret (B true)) (.sure 24 (.sure 25 (.sure 26 (.r (.ret (B false)) (.sure 27 (.tt (.r (.ret (B true)) .nil)))))))) Tryz.func15 (by kernel_rfl) (Computes Tryz.prog Gl 21 [tBook b] (.ret (B true))∧true=true∧true=true∧true=true∧Computes Tryz.prog Gl 25 [tBook b,I like] (.ret (B false))∧true=true∧(false=true→false=true)∧(false=true→false=true)∧((false=true→b.1.length≤maxLen)→(false=true→false=true)∧(true=false→false=true)∧(false=true→false=true)∧((false=true→plan.length≤maxLen)→(false=true→false=true)∧(true=false→false=true)∧true=true∧Computes Tryz.prog Gl 22 [] (.ret (B true))∧true=true))) (by kernel_rfl) ?_
  simp only [stdS, imp_self, implies_true, and_true, Bool.false_and, Bool.true_and, Bool.and_true, Bool.and_false, Bool.false_or, Bool.true_or, Bool.or_false, Bool.or_true, Bool.false_eq_true, false_implies, true_implies]
  repeat' first | with_reducible apply And.intro | with_reducible intro _
  all_goals first
    | contradiction
    | with_reducible exact known22 S hG
    | with_reducible exact rightV S b hb
    | with_reducible exact compV S b like hc
    | exact known22 S hG
    | exact rightV S b hb
    | exact compV S b like hc
    | exact trivial
    | rfl
    | omega
theorem law15c (S : Set Tryz.prog Y Gl) (b : Book) (like : Int) (plan : List Task) (hG : GlOK Gl) (hb : b.ok = true) (hc : b.isComp like = true) (e1 : decide (4 ≤ (b.comps.length : Int)) = true) : Computes Tryz.prog Gl 15 [tBook b, I like, L eTask plan] (.ret (B true)) := by
  refine fn_is S (.r (.ret (B true)) (.sure 24 (.sure 25 (.sure 26 (.r (.ret (B true)) (.sure 27 (.sure 30 (.sure 31 (.sure 32 (.val 33 true (.sure 33 (.tt (.r (.ret (B true)) .nil))))))))))))) Tryz.func15 (by kernel_rfl) (Computes Tryz.prog Gl 21 [tBook b] (.ret (B true))∧true=true∧true=true∧true=true∧Computes Tryz.prog Gl 25 [tBook b,I like] (.ret (B true))∧true=true∧true=true∧true=true∧true=true∧(b.1.length≤maxLen→decide ((4:Int)≤(↑b.1.length:Int))=true∧true=true∧(false=true→false=true)∧((false=true→plan.length≤maxLen)→(false=true→false=true)∧(true=false→false=true)∧true=true∧Computes Tryz.prog Gl 22 [] (.ret (B true))∧true=true))) (by kernel_rfl) ?_
  simp only [stdS, imp_self, implies_true, and_true, Bool.false_and, Bool.true_and, Bool.and_true, Bool.and_false, Bool.false_or, Bool.true_or, Bool.or_false, Bool.or_true, Bool.false_eq_true, false_implies, true_implies, e1]
  repeat' first | with_reducible apply And.intro | with_reducible intro _
  all_goals first
    | contradiction
    | with_reducible exact known22 S hG
    | with_reducible exact rightV S b hb
    | with_reducible exact compV S b like hc
    | exact known22 S hG
    | exact rightV S b hb
    | exact compV S b like hc
    | exact trivial
    | rfl
    | omega
theorem law15d (S : Set Tryz.prog Y Gl) (b : Book) (like : Int) (plan : List Task) (hG : GlOK Gl) (hb : b.ok = true) (hc : b.isComp like = true) (e1 : decide (4 ≤ (b.comps.length : Int)) = false) (e2 : decide (5 < (plan.length : Int)) = true) : Computes Tryz.prog Gl 15 [tBook b, I like, L eTask plan] (.ret (B true)) := by
  refine fn_is S (.r (.ret (B true)) (.sure 24 (.sure 25 (.sure 26 (.r (.ret (B true)) (.sure 27 (.sure 30 (.sure 31 (.sure 32 (.val 33 false (.sure 33 (.sure 36 (.sure 37 (.val 38 true (.sure 38 (.tt (.r (.ret (B true)) .nil))))))))))))))))) Tryz.func15 (by kernel_rfl) (Computes Tryz.prog Gl 21 [tBook b] (.ret (B true))∧true=true∧true=true∧true=true∧Computes Tryz.prog Gl 25 [tBook b,I like] (.ret (B true))∧true=true∧true=true∧true=true∧true=true∧(b.1.length≤maxLen→decide ((4:Int)≤(↑b.1.length:Int))=false∧true=true∧true=true∧true=true∧(plan.length≤maxLen→decide ((5:Int)<(↑plan.length:Int))=true∧true=true∧true=true∧Computes Tryz.prog Gl 22 [] (.ret (B true))∧true=true))) (by kernel_rfl) ?_
  simp only [stdS, imp_self, implies_true, and_true, Bool.false_and, Bool.true_and, Bool.and_true, Bool.and_false, Bool.false_or, Bool.true_or, Bool.or_false, Bool.or_true, Bool.false_eq_true, false_implies, true_implies, e1, e2]
  repeat' first | with_reducible apply And.intro | with_reducible intro _
  all_goals first
    | contradiction
    | with_reducible exact known22 S hG
    | with_reducible exact rightV S b hb
    | with_reducible exact compV S b like hc
    | exact known22 S hG
    | exact rightV S b hb
    | exact compV S b like hc
    | exact trivial
    | rfl
    | omega
theorem law15e (S : Set Tryz.prog Y Gl) (b : Book) (like : Int) (plan : List Task) (hG : GlOK Gl) (hb : b.ok = true) (hc : b.isComp like = true) (hl : b.comps.length ≤ 3) (hx : (b.withOne like).ok = true) (e1 : decide (4 ≤ (b.comps.length : Int)) = false) (e2 : decide (5 < (plan.length : Int)) = false) (e3 : decide (((b.withOne like).all.length : Int) < (b.all.length : Int)) = false) (hn : (b.withOne like).plans.length = 0) (hn0 : b.plans.length = 0) (hg : (b.withOne like).good plan = false) : Computes Tryz.prog Gl 15 [tBook b, I like, L eTask plan] (.ret (B true)) := by
  refine fn_is S (.r (.ret (B true)) (.sure 24 (.sure 25 (.sure 26 (.r (.ret (B true)) (.sure 27 (.sure 30 (.sure 31 (.sure 32 (.val 33 false (.sure 33 (.sure 36 (.sure 37 (.val 38 false (.sure 38 (.ff (.r (.ret (tBook (Book.withOne b like))) (.r (.ret (.tup [D.c (Ci 0),D.c (Ci 5)])) (.r (.ret (.tup [D.c (C.l eTask []),D.c (Ci 0),D.c (Ci 5)])) (.r (.ret (.tup [D.c (C.l eTask []),D.c (Ci 0),D.c (Ci 5)])) (.r (.ret (.tup [D.c (Ci (↑(List.length (Book.all b)):Int)),D.c (Ci 0)])) (.r (.ret (.tup [D.c (Ci (↑(List.length (Book.all (Book.withOne b like))):Int)),D.c (Ci 0)])) (.sure 75 (.sure 76 (.sure 79 (.sure 80 (.sure 81 (.sure 84 (.sure 85 (.sure 86 (.sure 89 (.sure 90 (.sure 91 (.sure 92 (.sure 93 (.sure 94 (.sure 97 (.sure 98 (.sure 99 (.sure 107 (.sure 110 (.sure 111 (.sure 114 (.sure 115 (.sure 118 (.sure 119 (.val 120 false (.sure 120 (.ff (.r (.ret (B false)) (.tt (.r (.ret (B true)) .nil)))))))))))))))))))))))))))))))))))))))))))))))))))) Tryz.func15 (by kernel_rfl) (Computes Tryz.prog Gl 21 [tBook b] (.ret (B true))∧true=true∧true=true∧true=true∧Computes Tryz.prog Gl 25 [tBook b,I like] (.ret (B true))∧true=true∧true=true∧true=true∧true=true∧(b.1.length≤maxLen→decide ((4:Int)≤(↑b.1.length:Int))=false∧true=true∧true=true∧true=true∧(plan.length≤maxLen→decide ((5:Int)<(↑plan.length:Int))=false∧true=true∧false=false∧Computes Tryz.prog Gl 65 [tBook b,I like] (.ret (tBook (Book.withOne b like)))∧Computes Tryz.prog Gl 64 [tBook b,I like] (.ret (.tup [D.c (Ci 0),D.c (Ci 5)]))∧Computes Tryz.prog Gl 51 [tBook b] (.ret (.tup [D.c (C.l eTask []),D.c (Ci 0),D.c (Ci 5)]))∧Computes Tryz.prog Gl 51 [tBook (Book.withOne b like)] (.ret (.tup [D.c (C.l eTask []),D.c (Ci 0),D.c (Ci 5)]))∧Computes Tryz.prog Gl 50 [tBook b] (.ret (.tup [D.c (Ci (↑(List.length (Book.all b)):Int)),D.c (Ci 0)]))∧Computes Tryz.prog Gl 50 [tBook (Book.withOne b like)] (.ret (.tup [D.c (Ci (↑(List.length (Book.all (Book.withOne b like))):Int)),D.c (Ci 0)]))∧true=true∧true=true∧true=true∧true=true∧true=true∧true=true∧true=true∧true=true∧true=true∧true=true∧true=true∧true=true∧true=true∧true=true∧true=true∧true=true∧true=true∧(false=true→false=true)∧(false=true→false=true)∧(false=true→false=true)∧(false=true→false=true)∧(false=true→false=true)∧(false=true→true=false→false=true)∧true=true∧(false=true→false=true)∧true=true∧true=true∧true=true∧true=true∧true=true∧true=true∧decide ((↑(List.length (Book.all (Book.withOne b like))):Int)<(↑(List.length (Book.all b)):Int))=false∧true=true∧false=false∧Computes Tryz.prog Gl 59 [tBook (Book.withOne b like),L eTask plan] (.ret (B false))∧true=true∧Computes Tryz.prog Gl 22 [] (.ret (B true))∧true=true))) (by kernel_rfl) ?_
  simp only [stdS, imp_self, implies_true, and_true, Bool.false_and, Bool.true_and, Bool.and_true, Bool.and_false, Bool.false_or, Bool.true_or, Bool.or_false, Bool.or_true, Bool.false_eq_true, false_implies, true_implies, e1, e2, e3]
  repeat' first | with_reducible apply And.intro | with_reducible intro _
  all_goals first
    | contradiction
    | with_reducible exact known22 S hG
    | with_reducible exact rightV S b hb
    | with_reducible exact compV S b like hc
    | with_reducible exact with65S S b like hb hc
    | with_reducible exact countT S b hb
    | with_reducible exact countT S (b.withOne like) hx
    | with_reducible exact moreN S b like hb hc hl hn
    | with_reducible exact bestN S b hb hn0
    | with_reducible exact bestN S (b.withOne like) hx hn
    | with_reducible exact goodRefV S (b.withOne like) plan hg
    | exact known22 S hG
    | exact rightV S b hb
    | exact compV S b like hc
    | exact with65S S b like hb hc
    | exact countT S b hb
    | exact countT S (b.withOne like) hx
    | exact moreN S b like hb hc hl hn
    | exact bestN S b hb hn0
    | exact bestN S (b.withOne like) hx hn
    | exact goodRefV S (b.withOne like) plan hg
    | exact trivial
    | rfl
    | omega
theorem law15f (S : Set Tryz.prog Y Gl) (b : Book) (like : Int) (plan : List Task) (hG : GlOK Gl) (hb : b.ok = true) (hc : b.isComp like = true) (hl : b.comps.length ≤ 3) (hx : (b.withOne like).ok = true) (e1 : decide (4 ≤ (b.comps.length : Int)) = false) (e2 : decide (5 < (plan.length : Int)) = false) (e3 : decide (((b.withOne like).all.length : Int) < (b.all.length : Int)) = false) (hn : (b.withOne like).plans.length ≠ 0) (e4 : (lastOf (b.withOne like) (b.withOne like).best != lastOf (b.withOne like) (b.withOne like).best) = false) (hn0 : b.plans.length = 0) (hg : (b.withOne like).good plan = false) : Computes Tryz.prog Gl 15 [tBook b, I like, L eTask plan] (.ret (B true)) := by
  refine fn_is S (.r (.ret (B true)) (.sure 24 (.sure 25 (.sure 26 (.r (.ret (B true)) (.sure 27 (.sure 30 (.sure 31 (.sure 32 (.val 33 false (.sure 33 (.sure 36 (.sure 37 (.val 38 false (.sure 38 (.ff (.r (.ret (tBook (Book.withOne b like))) (.r (.ret (.tup [D.c (Ci (lastOf (Book.withOne b like) (Book.best (Book.withOne b like)))),D.c (Ci 0)])) (.r (.ret (.tup [D.c (C.l eTask []),D.c (Ci 0),D.c (Ci 5)])) (.r (.ret (.tup [D.c (C.l eTask (Book.best (Book.withOne b like))),D.c (Ci (lastOf (Book.withOne b like) (Book.best (Book.withOne b like)))),D.c (Ci 0)])) (.r (.ret (.tup [D.c (Ci (↑(List.length (Book.all b)):Int)),D.c (Ci 0)])) (.r (.ret (.tup [D.c (Ci (↑(List.length (Book.all (Book.withOne b like))):Int)),D.c (Ci 0)])) (.sure 79 (.sure 80 (.sure 81 (.sure 84 (.sure 85 (.val 86 false (.sure 86 (.sure 89 (.sure 90 (.sure 91 (.sure 92 (.sure 93 (.sure 94 (.sure 97 (.sure 98 (.sure 99 (.sure 107 (.sure 110 (.sure 111 (.sure 114 (.sure 115 (.sure 118 (.sure 119 (.val 120 false (.sure 120 (.ff (.r (.ret (B false)) (.tt (.r (.ret (B true)) .nil))))))))))))))))))))))))))))))))))))))))))))))))))) Tryz.func15 (by kernel_rfl) (Computes Tryz.prog Gl 21 [tBook b] (.ret (B true))∧true=true∧true=true∧true=true∧Computes Tryz.prog Gl 25 [tBook b,I like] (.ret (B true))∧true=true∧true=true∧true=true∧true=true∧(b.1.length≤maxLen→decide ((4:Int)≤(↑b.1.length:Int))=false∧true=true∧true=true∧true=true∧(plan.length≤maxLen→decide ((5:Int)<(↑plan.length:Int))=false∧true=true∧false=false∧Computes Tryz.prog Gl 65 [tBook b,I like] (.ret (tBook (Book.withOne b like)))∧Computes Tryz.prog Gl 64 [tBook b,I like] (.ret (.tup [D.c (Ci (lastOf (Book.withOne b like) (Book.best (Book.withOne b like)))),D.c (Ci 0)]))∧Computes Tryz.prog Gl 51 [tBook b] (.ret (.tup [D.c (C.l eTask []),D.c (Ci 0),D.c (Ci 5)]))∧Computes Tryz.prog Gl 51 [tBook (Book.withOne b like)] (.ret (.tup [D.c (C.l eTask (Book.best (Book.withOne b like))),D.c (Ci (lastOf (Book.withOne b like) (Book.best (Book.withOne b like)))),D.c (Ci 0)]))∧Computes Tryz.prog Gl 50 [tBook b] (.ret (.tup [D.c (Ci (↑(List.length (Book.all b)):Int)),D.c (Ci 0)]))∧Computes Tryz.prog Gl 50 [tBook (Book.withOne b like)] (.ret (.tup [D.c (Ci (↑(List.length (Book.all (Book.withOne b like))):Int)),D.c (Ci 0)]))∧(false=true→false=true)∧(false=true→false=true)∧true=true∧true=true∧true=true∧true=true∧true=true∧(lastOf (Book.withOne b like) (Book.best (Book.withOne b like)) != lastOf (Book.withOne b like) (Book.best (Book.withOne b like)))=false∧true=true∧true=true∧true=true∧true=true∧true=true∧true=true∧true=true∧true=true∧true=true∧true=true∧(false=true→false=true)∧(false=true→false=true)∧(false=true→false=true)∧(false=true→false=true)∧(false=true→false=true)∧(false=true→false=false→false=true)∧true=true∧(false=true→false=true)∧true=true∧true=true∧true=true∧true=true∧true=true∧true=true∧decide ((↑(List.length (Book.all (Book.withOne b like))):Int)<(↑(List.length (Book.all b)):Int))=false∧true=true∧false=false∧Computes Tryz.prog Gl 59 [tBook (Book.withOne b like),L eTask plan] (.ret (B false))∧true=true∧Computes Tryz.prog Gl 22 [] (.ret (B true))∧true=true))) (by kernel_rfl) ?_
  simp only [stdS, imp_self, implies_true, and_true, Bool.false_and, Bool.true_and, Bool.and_true, Bool.and_false, Bool.false_or, Bool.true_or, Bool.or_false, Bool.or_true, Bool.false_eq_true, false_implies, true_implies, e1, e2, e3, e4]
  repeat' first | with_reducible apply And.intro | with_reducible intro _
  all_goals first
    | contradiction
    | with_reducible exact known22 S hG
    | with_reducible exact rightV S b hb
    | with_reducible exact compV S b like hc
    | with_reducible exact with65S S b like hb hc
    | with_reducible exact countT S b hb
    | with_reducible exact countT S (b.withOne like) hx
    | with_reducible exact moreT S b like hb hc hl hn
    | with_reducible exact bestT S (b.withOne like) hx hn
    | with_reducible exact bestN S b hb hn0
    | with_reducible exact goodRefV S (b.withOne like) plan hg
    | exact known22 S hG
    | exact rightV S b hb
    | exact compV S b like hc
    | exact with65S S b like hb hc
    | exact countT S b hb
    | exact countT S (b.withOne like) hx
    | exact moreT S b like hb hc hl hn
    | exact bestT S (b.withOne like) hx hn
    | exact bestN S b hb hn0
    | exact goodRefV S (b.withOne like) plan hg
    | exact trivial
    | rfl
    | omega
theorem law15h (S : Set Tryz.prog Y Gl) (b : Book) (like : Int) (plan : List Task) (hG : GlOK Gl) (hb : b.ok = true) (hc : b.isComp like = true) (hl : b.comps.length ≤ 3) (hx : (b.withOne like).ok = true) (e1 : decide (4 ≤ (b.comps.length : Int)) = false) (e2 : decide (5 < (plan.length : Int)) = false) (e3 : decide (((b.withOne like).all.length : Int) < (b.all.length : Int)) = false) (hn : (b.withOne like).plans.length ≠ 0) (e4 : (lastOf (b.withOne like) (b.withOne like).best != lastOf (b.withOne like) (b.withOne like).best) = false) (hn0 : b.plans.length ≠ 0) (e5 : decide (lastOf b b.best < lastOf (b.withOne like) (b.withOne like).best) = false) (hg : (b.withOne like).good plan = false) : Computes Tryz.prog Gl 15 [tBook b, I like, L eTask plan] (.ret (B true)) := by
  refine fn_is S (.r (.ret (B true)) (.sure 24 (.sure 25 (.sure 26 (.r (.ret (B true)) (.sure 27 (.sure 30 (.sure 31 (.sure 32 (.val 33 false (.sure 33 (.sure 36 (.sure 37 (.val 38 false (.sure 38 (.ff (.r (.ret (tBook (Book.withOne b like))) (.r (.ret (.tup [D.c (Ci (lastOf (Book.withOne b like) (Book.best (Book.withOne b like)))),D.c (Ci 0)])) (.r (.ret (.tup [D.c (C.l eTask (Book.best b)),D.c (Ci (lastOf b (Book.best b))),D.c (Ci 0)])) (.r (.ret (.tup [D.c (C.l eTask (Book.best (Book.withOne b like))),D.c (Ci (lastOf (Book.withOne b like) (Book.best (Book.withOne b like)))),D.c (Ci 0)])) (.r (.ret (.tup [D.c (Ci (↑(List.length (Book.all b)):Int)),D.c (Ci 0)])) (.r (.ret (.tup [D.c (Ci (↑(List.length (Book.all (Book.withOne b like))):Int)),D.c (Ci 0)])) (.sure 79 (.sure 80 (.sure 81 (.sure 84 (.sure 85 (.val 86 false (.sure 86 (.sure 89 (.sure 90 (.sure 91 (.sure 94 (.sure 97 (.sure 98 (.sure 99 (.sure 100 (.sure 101 (.sure 102 (.sure 103 (.sure 104 (.val 105 false (.sure 105 (.sure 106 (.sure 107 (.sure 110 (.sure 111 (.sure 114 (.sure 115 (.sure 118 (.sure 119 (.val 120 false (.sure 120 (.ff (.r (.ret (B false)) (.tt (.r (.ret (B true)) .nil))))))))))))))))))))))))))))))))))))))))))))))))))))))))) Tryz.func15 (by kernel_rfl) (Computes Tryz.prog Gl 21 [tBook b] (.ret (B true))∧true=true∧true=true∧true=true∧Computes Tryz.prog Gl 25 [tBook b,I like] (.ret (B true))∧true=true∧true=true∧true=true∧true=true∧(b.1.length≤maxLen→decide ((4:Int)≤(↑b.1.length:Int))=false∧true=true∧true=true∧true=true∧(plan.length≤maxLen→decide ((5:Int)<(↑plan.length:Int))=false∧true=true∧false=false∧Computes Tryz.prog Gl 65 [tBook b,I like] (.ret (tBook (Book.withOne b like)))∧Computes Tryz.prog Gl 64 [tBook b,I like] (.ret (.tup [D.c (Ci (lastOf (Book.withOne b like) (Book.best (Book.withOne b like)))),D.c (Ci 0)]))∧Computes Tryz.prog Gl 51 [tBook b] (.ret (.tup [D.c (C.l eTask (Book.best b)),D.c (Ci (lastOf b (Book.best b))),D.c (Ci 0)]))∧Computes Tryz.prog Gl 51 [tBook (Book.withOne b like)] (.ret (.tup [D.c (C.l eTask (Book.best (Book.withOne b like))),D.c (Ci (lastOf (Book.withOne b like) (Book.best (Book.withOne b like)))),D.c (Ci 0)]))∧Computes Tryz.prog Gl 50 [tBook b] (.ret (.tup [D.c (Ci (↑(List.length (Book.all b)):Int)),D.c (Ci 0)]))∧Computes Tryz.prog Gl 50 [tBook (Book.withOne b like)] (.ret (.tup [D.c (Ci (↑(List.length (Book.all (Book.withOne b like))):Int)),D.c (Ci 0)]))∧(false=true→false=true)∧(false=true→false=true)∧true=true∧true=true∧true=true∧true=true∧true=true∧(lastOf (Book.withOne b like) (Book.best (Book.withOne b like)) != lastOf (Book.withOne b like) (Book.best (Book.withOne b like)))=false∧true=true∧true=true∧true=true∧true=true∧(false=true→false=true)∧true=true∧(false=true→false=true)∧true=true∧true=true∧true=true∧true=true∧true=true∧true=true∧true=true∧true=true∧decide (lastOf b (Book.best b)<lastOf (Book.withOne b like) (Book.best (Book.withOne b like)))=false∧true=true∧true=true∧true=true∧true=true∧true=true∧true=true∧true=true∧true=true∧true=true∧decide ((↑(List.length (Book.all (Book.withOne b like))):Int)<(↑(List.length (Book.all b)):Int))=false∧true=true∧false=false∧Computes Tryz.prog Gl 59 [tBook (Book.withOne b like),L eTask plan] (.ret (B false))∧true=true∧Computes Tryz.prog Gl 22 [] (.ret (B true))∧true=true))) (by kernel_rfl) ?_
  simp only [stdS, imp_self, implies_true, and_true, Bool.false_and, Bool.true_and, Bool.and_true, Bool.and_false, Bool.false_or, Bool.true_or, Bool.or_false, Bool.or_true, Bool.false_eq_true, false_implies, true_implies, e1, e2, e3, e4, e5]
  repeat' first | with_reducible apply And.intro | with_reducible intro _
  all_goals first
    | contradiction
    | with_reducible exact known22 S hG
    | with_reducible exact rightV S b hb
    | with_reducible exact compV S b like hc
    | with_reducible exact with65S S b like hb hc
    | with_reducible exact countT S b hb
    | with_reducible exact countT S (b.withOne like) hx
    | with_reducible exact moreT S b like hb hc hl hn
    | with_reducible exact bestT S (b.withOne like) hx hn
    | with_reducible exact bestT S b hb hn0
    | with_reducible exact goodRefV S (b.withOne like) plan hg
    | exact known22 S hG
    | exact rightV S b hb
    | exact compV S b like hc
    | exact with65S S b like hb hc
    | exact countT S b hb
    | exact countT S (b.withOne like) hx
    | exact moreT S b like hb hc hl hn
    | exact bestT S (b.withOne like) hx hn
    | exact bestT S b hb hn0
    | exact goodRefV S (b.withOne like) plan hg
    | exact trivial
    | rfl
    | omega
theorem law15g (S : Set Tryz.prog Y Gl) (b : Book) (like : Int) (plan : List Task) (hG : GlOK Gl) (hb : b.ok = true) (hc : b.isComp like = true) (hl : b.comps.length ≤ 3) (hx : (b.withOne like).ok = true) (e1 : decide (4 ≤ (b.comps.length : Int)) = false) (e2 : decide (5 < (plan.length : Int)) = false) (e3 : decide (((b.withOne like).all.length : Int) < (b.all.length : Int)) = false) (hn : (b.withOne like).plans.length ≠ 0) (e4 : (lastOf (b.withOne like) (b.withOne like).best != lastOf (b.withOne like) (b.withOne like).best) = false) (hn0 : b.plans.length = 0) (hg : (b.withOne like).good plan = true) (e6 : decide (lastOf (b.withOne like) (b.withOne like).best ≤ lastOf (b.withOne like) plan) = true) : Computes Tryz.prog Gl 15 [tBook b, I like, L eTask plan] (.ret (B true)) := by
  refine fn_is S (.r (.ret (B true)) (.sure 24 (.sure 25 (.sure 26 (.r (.ret (B true)) (.sure 27 (.sure 30 (.sure 31 (.sure 32 (.val 33 false (.sure 33 (.sure 36 (.sure 37 (.val 38 false (.sure 38 (.ff (.r (.ret (tBook (Book.withOne b like))) (.r (.ret (.tup [D.c (Ci (lastOf (Book.withOne b like) (Book.best (Book.withOne b like)))),D.c (Ci 0)])) (.r (.ret (.tup [D.c (C.l eTask []),D.c (Ci 0),D.c (Ci 5)])) (.r (.ret (.tup [D.c (C.l eTask (Book.best (Book.withOne b like))),D.c (Ci (lastOf (Book.withOne b like) (Book.best (Book.withOne b like)))),D.c (Ci 0)])) (.r (.ret (.tup [D.c (Ci (↑(List.length (Book.all b)):Int)),D.c (Ci 0)])) (.r (.ret (.tup [D.c (Ci (↑(List.length (Book.all (Book.withOne b like))):Int)),D.c (Ci 0)])) (.sure 79 (.sure 80 (.sure 81 (.sure 84 (.sure 85 (.val 86 false (.sure 86 (.sure 89 (.sure 90 (.sure 91 (.sure 92 (.sure 93 (.sure 94 (.sure 97 (.sure 98 (.sure 99 (.sure 107 (.sure 110 (.sure 111 (.sure 114 (.sure 115 (.sure 118 (.sure 119 (.val 120 false (.sure 120 (.ff (.r (.ret (B true)) (.ff (.sure 130 (.sure 131 (.sure 132 (.r (.ret (I (lastOf (Book.withOne b like) plan))) (.sure 133 (.val 134 true (.sure 134 (.sure 137 (.r (.ret (B true)) .nil))))))))))))))))))))))))))))))))))))))))))))))))))))))))))) Tryz.func15 (by kernel_rfl) (Computes Tryz.prog Gl 21 [tBook b] (.ret (B true))∧true=true∧true=true∧true=true∧Computes Tryz.prog Gl 25 [tBook b,I like] (.ret (B true))∧true=true∧true=true∧true=true∧true=true∧(b.1.length≤maxLen→decide ((4:Int)≤(↑b.1.length:Int))=false∧true=true∧true=true∧true=true∧(plan.length≤maxLen→decide ((5:Int)<(↑plan.length:Int))=false∧true=true∧false=false∧Computes Tryz.prog Gl 65 [tBook b,I like] (.ret (tBook (Book.withOne b like)))∧Computes Tryz.prog Gl 64 [tBook b,I like] (.ret (.tup [D.c (Ci (lastOf (Book.withOne b like) (Book.best (Book.withOne b like)))),D.c (Ci 0)]))∧Computes Tryz.prog Gl 51 [tBook b] (.ret (.tup [D.c (C.l eTask []),D.c (Ci 0),D.c (Ci 5)]))∧Computes Tryz.prog Gl 51 [tBook (Book.withOne b like)] (.ret (.tup [D.c (C.l eTask (Book.best (Book.withOne b like))),D.c (Ci (lastOf (Book.withOne b like) (Book.best (Book.withOne b like)))),D.c (Ci 0)]))∧Computes Tryz.prog Gl 50 [tBook b] (.ret (.tup [D.c (Ci (↑(List.length (Book.all b)):Int)),D.c (Ci 0)]))∧Computes Tryz.prog Gl 50 [tBook (Book.withOne b like)] (.ret (.tup [D.c (Ci (↑(List.length (Book.all (Book.withOne b like))):Int)),D.c (Ci 0)]))∧(false=true→false=true)∧(false=true→false=true)∧true=true∧true=true∧true=true∧true=true∧true=true∧(lastOf (Book.withOne b like) (Book.best (Book.withOne b like)) != lastOf (Book.withOne b like) (Book.best (Book.withOne b like)))=false∧true=true∧true=true∧true=true∧true=true∧true=true∧true=true∧true=true∧true=true∧true=true∧true=true∧(false=true→false=true)∧(false=true→false=true)∧(false=true→false=true)∧(false=true→false=true)∧(false=true→false=true)∧(false=true→false=false→false=true)∧true=true∧(false=true→false=true)∧true=true∧true=true∧true=true∧true=true∧true=true∧true=true∧decide ((↑(List.length (Book.all (Book.withOne b like))):Int)<(↑(List.length (Book.all b)):Int))=false∧true=true∧false=false∧Computes Tryz.prog Gl 59 [tBook (Book.withOne b like),L eTask plan] (.ret (B true))∧false=false∧true=true∧true=true∧true=true∧Computes Tryz.prog Gl 63 [tBook (Book.withOne b like),L eTask plan] (.ret (I (lastOf (Book.withOne b like) plan)))∧true=true∧decide (lastOf (Book.withOne b like) (Book.best (Book.withOne b like))≤lastOf (Book.withOne b like) plan)=true∧true=true∧true=true∧Computes Tryz.prog Gl 22 [] (.ret (B true))∧true=true))) (by kernel_rfl) ?_
  simp only [stdS, imp_self, implies_true, and_true, Bool.false_and, Bool.true_and, Bool.and_true, Bool.and_false, Bool.false_or, Bool.true_or, Bool.or_false, Bool.or_true, Bool.false_eq_true, false_implies, true_implies, e1, e2, e3, e4, e6]
  repeat' first | with_reducible apply And.intro | with_reducible intro _
  all_goals first
    | contradiction
    | with_reducible exact known22 S hG
    | with_reducible exact rightV S b hb
    | with_reducible exact compV S b like hc
    | with_reducible exact with65S S b like hb hc
    | with_reducible exact countT S b hb
    | with_reducible exact countT S (b.withOne like) hx
    | with_reducible exact moreT S b like hb hc hl hn
    | with_reducible exact bestT S (b.withOne like) hx hn
    | with_reducible exact bestN S b hb hn0
    | with_reducible exact goodRefV S (b.withOne like) plan hg
    | with_reducible exact lastT S (b.withOne like) plan hx hg
    | exact known22 S hG
    | exact rightV S b hb
    | exact compV S b like hc
    | exact with65S S b like hb hc
    | exact countT S b hb
    | exact countT S (b.withOne like) hx
    | exact moreT S b like hb hc hl hn
    | exact bestT S (b.withOne like) hx hn
    | exact bestN S b hb hn0
    | exact goodRefV S (b.withOne like) plan hg
    | exact lastT S (b.withOne like) plan hx hg
    | exact trivial
    | rfl
    | omega
theorem law15i (S : Set Tryz.prog Y Gl) (b : Book) (like : Int) (plan : List Task) (hG : GlOK Gl) (hb : b.ok = true) (hc : b.isComp like = true) (hl : b.comps.length ≤ 3) (hx : (b.withOne like).ok = true) (e1 : decide (4 ≤ (b.comps.length : Int)) = false) (e2 : decide (5 < (plan.length : Int)) = false) (e3 : decide (((b.withOne like).all.length : Int) < (b.all.length : Int)) = false) (hn : (b.withOne like).plans.length ≠ 0) (e4 : (lastOf (b.withOne like) (b.withOne like).best != lastOf (b.withOne like) (b.withOne like).best) = false) (hn0 : b.plans.length ≠ 0) (e5 : decide (lastOf b b.best < lastOf (b.withOne like) (b.withOne like).best) = false) (hg : (b.withOne like).good plan = true) (e6 : decide (lastOf (b.withOne like) (b.withOne like).best ≤ lastOf (b.withOne like) plan) = true) : Computes Tryz.prog Gl 15 [tBook b, I like, L eTask plan] (.ret (B true)) := by
  refine fn_is S (.r (.ret (B true)) (.sure 24 (.sure 25 (.sure 26 (.r (.ret (B true)) (.sure 27 (.sure 30 (.sure 31 (.sure 32 (.val 33 false (.sure 33 (.sure 36 (.sure 37 (.val 38 false (.sure 38 (.ff (.r (.ret (tBook (Book.withOne b like))) (.r (.ret (.tup [D.c (Ci (lastOf (Book.withOne b like) (Book.best (Book.withOne b like)))),D.c (Ci 0)])) (.r (.ret (.tup [D.c (C.l eTask (Book.best b)),D.c (Ci (lastOf b (Book.best b))),D.c (Ci 0)])) (.r (.ret (.tup [D.c (C.l eTask (Book.best (Book.withOne b like))),D.c (Ci (lastOf (Book.withOne b like) (Book.best (Book.withOne b like)))),D.c (Ci 0)])) (.r (.ret (.tup [D.c (Ci (↑(List.length (Book.all b)):Int)),D.c (Ci 0)])) (.r (.ret (.tup [D.c (Ci (↑(List.length (Book.all (Book.withOne b like))):Int)),D.c (Ci 0)])) (.sure 79 (.sure 80 (.sure 81 (.sure 84 (.sure 85 (.val 86 false (.sure 86 (.sure 89 (.sure 90 (.sure 91 (.sure 94 (.sure 97 (.sure 98 (.sure 99 (.sure 100 (.sure 101 (.sure 102 (.sure 103 (.sure 104 (.val 105 false (.sure 105 (.sure 106 (.sure 107 (.sure 110 (.sure 111 (.sure 114 (.sure 115 (.sure 118 (.sure 119 (.val 120 false (.sure 120 (.ff (.r (.ret (B true)) (.ff (.sure 130 (.sure 131 (.sure 132 (.r (.ret (I (lastOf (Book.withOne b like) plan))) (.sure 133 (.val 134 true (.sure 134 (.sure 137 (.r (.ret (B true)) .nil))))))))))))))))))))))))))))))))))))))))))))))))))))))))))))))))) Tryz.func15 (by kernel_rfl) (Computes Tryz.prog Gl 21 [tBook b] (.ret (B true))∧true=true∧true=true∧true=true∧Computes Tryz.prog Gl 25 [tBook b,I like] (.ret (B true))∧true=true∧true=true∧true=true∧true=true∧(b.1.length≤maxLen→decide ((4:Int)≤(↑b.1.length:Int))=false∧true=true∧true=true∧true=true∧(plan.length≤maxLen→decide ((5:Int)<(↑plan.length:Int))=false∧true=true∧false=false∧Computes Tryz.prog Gl 65 [tBook b,I like] (.ret (tBook (Book.withOne b like)))∧Computes Tryz.prog Gl 64 [tBook b,I like] (.ret (.tup [D.c (Ci (lastOf (Book.withOne b like) (Book.best (Book.withOne b like)))),D.c (Ci 0)]))∧Computes Tryz.prog Gl 51 [tBook b] (.ret (.tup [D.c (C.l eTask (Book.best b)),D.c (Ci (lastOf b (Book.best b))),D.c (Ci 0)]))∧Computes Tryz.prog Gl 51 [tBook (Book.withOne b like)] (.ret (.tup [D.c (C.l eTask (Book.best (Book.withOne b like))),D.c (Ci (lastOf (Book.withOne b like) (Book.best (Book.withOne b like)))),D.c (Ci 0)]))∧Computes Tryz.prog Gl 50 [tBook b] (.ret (.tup [D.c (Ci (↑(List.length (Book.all b)):Int)),D.c (Ci 0)]))∧Computes Tryz.prog Gl 50 [tBook (Book.withOne b like)] (.ret (.tup [D.c (Ci (↑(List.length (Book.all (Book.withOne b like))):Int)),D.c (Ci 0)]))∧(false=true→false=true)∧(false=true→false=true)∧true=true∧true=true∧true=true∧true=true∧true=true∧(lastOf (Book.withOne b like) (Book.best (Book.withOne b like)) != lastOf (Book.withOne b like) (Book.best (Book.withOne b like)))=false∧true=true∧true=true∧true=true∧true=true∧(false=true→false=true)∧true=true∧(false=true→false=true)∧true=true∧true=true∧true=true∧true=true∧true=true∧true=true∧true=true∧true=true∧decide (lastOf b (Book.best b)<lastOf (Book.withOne b like) (Book.best (Book.withOne b like)))=false∧true=true∧true=true∧true=true∧true=true∧true=true∧true=true∧true=true∧true=true∧true=true∧decide ((↑(List.length (Book.all (Book.withOne b like))):Int)<(↑(List.length (Book.all b)):Int))=false∧true=true∧false=false∧Computes Tryz.prog Gl 59 [tBook (Book.withOne b like),L eTask plan] (.ret (B true))∧false=false∧true=true∧true=true∧true=true∧Computes Tryz.prog Gl 63 [tBook (Book.withOne b like),L eTask plan] (.ret (I (lastOf (Book.withOne b like) plan)))∧true=true∧decide (lastOf (Book.withOne b like) (Book.best (Book.withOne b like))≤lastOf (Book.withOne b like) plan)=true∧true=true∧true=true∧Computes Tryz.prog Gl 22 [] (.ret (B true))∧true=true))) (by kernel_rfl) ?_
  simp only [stdS, imp_self, implies_true, and_true, Bool.false_and, Bool.true_and, Bool.and_true, Bool.and_false, Bool.false_or, Bool.true_or, Bool.or_false, Bool.or_true, Bool.false_eq_true, false_implies, true_implies, e1, e2, e3, e4, e6, e5]
  repeat' first | with_reducible apply And.intro | with_reducible intro _
  all_goals first
    | contradiction
    | with_reducible exact known22 S hG
    | with_reducible exact rightV S b hb
    | with_reducible exact compV S b like hc
    | with_reducible exact with65S S b like hb hc
    | with_reducible exact countT S b hb
    | with_reducible exact countT S (b.withOne like) hx
    | with_reducible exact moreT S b like hb hc hl hn
    | with_reducible exact bestT S (b.withOne like) hx hn
    | with_reducible exact bestT S b hb hn0
    | with_reducible exact goodRefV S (b.withOne like) plan hg
    | with_reducible exact lastT S (b.withOne like) plan hx hg
    | exact known22 S hG
    | exact rightV S b hb
    | exact compV S b like hc
    | exact with65S S b like hb hc
    | exact countT S b hb
    | exact countT S (b.withOne like) hx
    | exact moreT S b like hb hc hl hn
    | exact bestT S (b.withOne like) hx hn
    | exact bestT S b hb hn0
    | exact goodRefV S (b.withOne like) plan hg
    | exact lastT S (b.withOne like) plan hx hg
    | exact trivial
    | rfl
    | omega
theorem law15 (S : Set Tryz.prog Y Gl) (b : Book) (like : Int) (plan : List Task) (hG : GlOK Gl) : Computes Tryz.prog Gl 15 [tBook b, I like, L eTask plan] (.ret (B true)) := by
  cases hb : b.ok with
  | false => exact law15a S b like plan hG hb
  | true =>
    cases hc : b.isComp like with
    | false => exact law15b S b like plan hG hb hc
    | true =>
      cases e1 : decide (4 ≤ (b.comps.length : Int)) with
      | true => exact law15c S b like plan hG hb hc e1
      | false =>
        cases e2 : decide (5 < (plan.length : Int)) with
        | true => exact law15d S b like plan hG hb hc e1 e2
        | false =>
          have hl : b.comps.length ≤ 3 := by
            have := of_decide_eq_false e1
            omega
          have hx := with_ok hb hc hl
          have e3 : decide (((b.withOne like).all.length : Int) < (b.all.length : Int)) = false := by
            have := with_count hb hx
            exact decide_eq_false (by omega)
          by_cases hn : (b.withOne like).plans.length = 0
          · have hn0 : b.plans.length = 0 := by
              rcases Nat.eq_zero_or_pos b.plans.length with h | h
              · exact h
              · exact absurd hn (with_best hb hx (by omega)).1
            have hg : (b.withOne like).good plan = false := by
              cases hg : (b.withOne like).good plan with
              | false => rfl
              | true => exact absurd hn (plans_ne hg)
            exact law15e S b like plan hG hb hc hl hx e1 e2 e3 hn hn0 hg
          · have e4 : (lastOf (b.withOne like) (b.withOne like).best != lastOf (b.withOne like) (b.withOne like).best) = false := by simp
            have e6 : (b.withOne like).good plan = true → decide (lastOf (b.withOne like) (b.withOne like).best ≤ lastOf (b.withOne like) plan) = true := fun hg => decide_eq_true ((best_spec hx hn).2 _ hg).1
            by_cases hn0 : b.plans.length = 0
            · cases hg : (b.withOne like).good plan with
              | false => exact law15f S b like plan hG hb hc hl hx e1 e2 e3 hn e4 hn0 hg
              | true => exact law15g S b like plan hG hb hc hl hx e1 e2 e3 hn e4 hn0 hg (e6 hg)
            · have e5 : decide (lastOf b b.best < lastOf (b.withOne like) (b.withOne like).best) = false := by
                have := (with_best hb hx hn0).2
                exact decide_eq_false (by omega)
              cases hg : (b.withOne like).good plan with
              | false => exact law15h S b like plan hG hb hc hl hx e1 e2 e3 hn e4 hn0 e5 hg
              | true => exact law15i S b like plan hG hb hc hl hx e1 e2 e3 hn e4 hn0 e5 hg (e6 hg)
end Go.Vc.Gd
