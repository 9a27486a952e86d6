/- A part of the proofs over layer 6 (give): the program and the specification; no condition. -/
import Derived.Test.YtnifdkjffcdhcaaGreatDoorHmG
set_option linter.all false
set_option linter.unusedSimpArgs false
set_option linter.unusedVariables false
namespace Go.Vc.Gd
open Go Go.Proofs Go.Vc
variable {Gl : World → Prop}
set_option maxRecDepth 100000
set_option maxHeartbeats 2000000
theorem law16a (S : Set Tryz.prog Y Gl) (b : Book) (plan : List Task) (computer n table later sheet : Int) (hG : GlOK Gl)  (h : okP b plan = false) : Computes Tryz.prog Gl 16 [tBook b, L eTask plan, I computer, I n, I table, I later, I sheet] (.ret (B true)) := by
  refine fn_is S (.r (.ret (B false)) (.r (.ret (B (Book.isComp b computer))) (.r (.ret (B (Book.isTable b table))) (.r (.ret (B (Book.isSheet b sheet))) (.tt (.r (.ret (B true)) .nil)))))) Tryz.func16 (by kernel_rfl) (Computes Tryz.prog Gl 36 [tBook b,L eTask plan] (.ret (B false))∧(false=true→false=true)∧(false=true→false=true)∧(false=true→Computes Tryz.prog Gl 25 [tBook b,I computer] (.ret (B (Book.isComp b computer))))∧(false=true→false=true)∧(true=false→false=true)∧(false=true→false=true)∧(true=false→false=true)∧(false=true→false=true)∧(true=false→false=true)∧(false=true→false=true)∧(false=true→false=true)∧(false=true→Computes Tryz.prog Gl 44 [tBook b,I table] (.ret (B (Book.isTable b table))))∧(false=true→false=true)∧(true=false→false=true)∧(false=true→false=true)∧(true=false→false=true)∧(false=true→false=true)∧(true=false→false=true)∧(false=true→false=true)∧(false=true→false=true)∧(false=true→Computes Tryz.prog Gl 24 [tBook b,I sheet] (.ret (B (Book.isSheet b sheet))))∧(false=true→false=true)∧(true=false→false=true)∧true=true∧Computes Tryz.prog Gl 22 [] (.ret (B true))∧true=true) (by kernel_rfl) ?_
  simp only [stdS, imp_self, implies_true, and_true, Bool.false_and, Bool.true_and, Bool.and_true, Bool.and_false, Bool.false_or, Bool.true_or, Bool.or_false, Bool.or_true, Bool.false_eq_true, false_implies, true_implies]
  repeat' first | with_reducible apply And.intro | with_reducible intro _
  all_goals first
    | contradiction
    | with_reducible exact known22 S hG
    | with_reducible exact goodV S b plan h
    | exact known22 S hG
    | exact goodV S b plan h
    | exact trivial
    | rfl
    | omega
theorem law16b (S : Set Tryz.prog Y Gl) (b : Book) (plan : List Task) (computer n table later sheet : Int) (hG : GlOK Gl) (h : okP b plan = true) (hc : b.isComp computer = false) : Computes Tryz.prog Gl 16 [tBook b, L eTask plan, I computer, I n, I table, I later, I sheet] (.ret (B true)) := by
  refine fn_is S (.r (.ret (B true)) (.sure 33 (.sure 34 (.sure 35 (.r (.ret (B false)) (.sure 36 (.r (.ret (B (Book.isTable b table))) (.r (.ret (B (Book.isSheet b sheet))) (.tt (.r (.ret (B true)) .nil)))))))))) Tryz.func16 (by kernel_rfl) (Computes Tryz.prog Gl 36 [tBook b,L eTask plan] (.ret (B true))∧true=true∧true=true∧true=true∧Computes Tryz.prog Gl 25 [tBook b,I computer] (.ret (B false))∧true=true∧(false=true→false=true)∧(true=false→false=true)∧(false=true→false=true)∧(true=false→false=true)∧(false=true→false=true)∧(false=true→false=true)∧(false=true→Computes Tryz.prog Gl 44 [tBook b,I table] (.ret (B (Book.isTable b table))))∧(false=true→false=true)∧(true=false→false=true)∧(false=true→false=true)∧(true=false→false=true)∧(false=true→false=true)∧(true=false→false=true)∧(false=true→false=true)∧(false=true→false=true)∧(false=true→Computes Tryz.prog Gl 24 [tBook b,I sheet] (.ret (B (Book.isSheet b sheet))))∧(false=true→false=true)∧(true=false→false=true)∧true=true∧Computes Tryz.prog Gl 22 [] (.ret (B true))∧true=true) (by kernel_rfl) ?_
  simp only [stdS, imp_self, implies_true, and_true, Bool.false_and, Bool.true_and, Bool.and_true, Bool.and_false, Bool.false_or, Bool.true_or, Bool.or_false, Bool.or_true, Bool.false_eq_true, false_implies, true_implies]
  repeat' first | with_reducible apply And.intro | with_reducible intro _
  all_goals first
    | contradiction
    | with_reducible exact known22 S hG
    | with_reducible exact goodV S b plan h
    | with_reducible exact compV S b computer hc
    | exact known22 S hG
    | exact goodV S b plan h
    | exact compV S b computer hc
    | exact trivial
    | rfl
    | omega
theorem law16c (S : Set Tryz.prog Y Gl) (b : Book) (plan : List Task) (computer n table later sheet : Int) (hG : GlOK Gl) (h : okP b plan = true) (hc : b.isComp computer = true) (en : decide (n < 0) = true) : Computes Tryz.prog Gl 16 [tBook b, L eTask plan, I computer, I n, I table, I later, I sheet] (.ret (B true)) := by
  refine fn_is S (.r (.ret (B true)) (.sure 33 (.sure 34 (.sure 35 (.r (.ret (B true)) (.sure 36 (.sure 39 (.val 40 true (.sure 40 (.r (.ret (B (Book.isTable b table))) (.r (.ret (B (Book.isSheet b sheet))) (.tt (.r (.ret (B true)) .nil))))))))))))) Tryz.func16 (by kernel_rfl) (Computes Tryz.prog Gl 36 [tBook b,L eTask plan] (.ret (B true))∧true=true∧true=true∧true=true∧Computes Tryz.prog Gl 25 [tBook b,I computer] (.ret (B true))∧true=true∧true=true∧decide (n<(0:Int))=true∧true=true∧(false=true→false=true)∧(true=false→false=true)∧(false=true→false=true)∧(false=true→false=true)∧(false=true→Computes Tryz.prog Gl 44 [tBook b,I table] (.ret (B (Book.isTable b table))))∧(false=true→false=true)∧(true=false→false=true)∧(false=true→false=true)∧(true=false→false=true)∧(false=true→false=true)∧(true=false→false=true)∧(false=true→false=true)∧(false=true→false=true)∧(false=true→Computes Tryz.prog Gl 24 [tBook b,I sheet] (.ret (B (Book.isSheet b sheet))))∧(false=true→false=true)∧(true=false→false=true)∧true=true∧Computes Tryz.prog Gl 22 [] (.ret (B true))∧true=true) (by kernel_rfl) ?_
  simp only [stdS, imp_self, implies_true, and_true, Bool.false_and, Bool.true_and, Bool.and_true, Bool.and_false, Bool.false_or, Bool.true_or, Bool.or_false, Bool.or_true, Bool.false_eq_true, false_implies, true_implies, en]
  repeat' first | with_reducible apply And.intro | with_reducible intro _
  all_goals first
    | contradiction
    | with_reducible exact known22 S hG
    | with_reducible exact goodV S b plan h
    | with_reducible exact compV S b computer hc
    | exact known22 S hG
    | exact goodV S b plan h
    | exact compV S b computer hc
    | exact trivial
    | rfl
    | omega
theorem law16d (S : Set Tryz.prog Y Gl) (b : Book) (plan : List Task) (computer n table later sheet : Int) (hG : GlOK Gl) (h : okP b plan = true) (hc : b.isComp computer = true) (en : decide (n < 0) = false) (en2 : decide (5 < n) = true) : Computes Tryz.prog Gl 16 [tBook b, L eTask plan, I computer, I n, I table, I later, I sheet] (.ret (B true)) := by
  refine fn_is S (.r (.ret (B true)) (.sure 33 (.sure 34 (.sure 35 (.r (.ret (B true)) (.sure 36 (.sure 39 (.val 40 false (.sure 40 (.sure 43 (.val 44 true (.sure 44 (.r (.ret (B (Book.isTable b table))) (.r (.ret (B (Book.isSheet b sheet))) (.tt (.r (.ret (B true)) .nil)))))))))))))))) Tryz.func16 (by kernel_rfl) (Computes Tryz.prog Gl 36 [tBook b,L eTask plan] (.ret (B true))∧true=true∧true=true∧true=true∧Computes Tryz.prog Gl 25 [tBook b,I computer] (.ret (B true))∧true=true∧true=true∧decide (n<(0:Int))=false∧true=true∧true=true∧decide ((5:Int)<n)=true∧true=true∧(false=true→false=true)∧(false=true→false=true)∧(false=true→Computes Tryz.prog Gl 44 [tBook b,I table] (.ret (B (Book.isTable b table))))∧(false=true→false=true)∧(true=false→false=true)∧(false=true→false=true)∧(true=false→false=true)∧(false=true→false=true)∧(true=false→false=true)∧(false=true→false=true)∧(false=true→false=true)∧(false=true→Computes Tryz.prog Gl 24 [tBook b,I sheet] (.ret (B (Book.isSheet b sheet))))∧(false=true→false=true)∧(true=false→false=true)∧true=true∧Computes Tryz.prog Gl 22 [] (.ret (B true))∧true=true) (by kernel_rfl) ?_
  simp only [stdS, imp_self, implies_true, and_true, Bool.false_and, Bool.true_and, Bool.and_true, Bool.and_false, Bool.false_or, Bool.true_or, Bool.or_false, Bool.or_true, Bool.false_eq_true, false_implies, true_implies, en, en2]
  repeat' first | with_reducible apply And.intro | with_reducible intro _
  all_goals first
    | contradiction
    | with_reducible exact known22 S hG
    | with_reducible exact goodV S b plan h
    | with_reducible exact compV S b computer hc
    | exact known22 S hG
    | exact goodV S b plan h
    | exact compV S b computer hc
    | exact trivial
    | rfl
    | omega
theorem law16e (S : Set Tryz.prog Y Gl) (b : Book) (plan : List Task) (computer n table later sheet : Int) (hG : GlOK Gl) (h : okP b plan = true) (hc : b.isComp computer = true) (en : decide (n < 0) = false) (en2 : decide (5 < n) = false) (ht : b.isTable table = false) : Computes Tryz.prog Gl 16 [tBook b, L eTask plan, I computer, I n, I table, I later, I sheet] (.ret (B true)) := by
  refine fn_is S (.r (.ret (B true)) (.sure 33 (.sure 34 (.sure 35 (.r (.ret (B true)) (.sure 36 (.sure 39 (.val 40 false (.sure 40 (.sure 43 (.val 44 false (.sure 44 (.sure 47 (.sure 48 (.sure 49 (.r (.ret (B false)) (.sure 50 (.r (.ret (B (Book.isSheet b sheet))) (.tt (.r (.ret (B true)) .nil)))))))))))))))))))) Tryz.func16 (by kernel_rfl) (Computes Tryz.prog Gl 36 [tBook b,L eTask plan] (.ret (B true))∧true=true∧true=true∧true=true∧Computes Tryz.prog Gl 25 [tBook b,I computer] (.ret (B true))∧true=true∧true=true∧decide (n<(0:Int))=false∧true=true∧true=true∧decide ((5:Int)<n)=false∧true=true∧true=true∧true=true∧true=true∧Computes Tryz.prog Gl 44 [tBook b,I table] (.ret (B false))∧true=true∧(false=true→false=true)∧(true=false→false=true)∧(false=true→false=true)∧(true=false→false=true)∧(false=true→false=true)∧(false=true→false=true)∧(false=true→Computes Tryz.prog Gl 24 [tBook b,I sheet] (.ret (B (Book.isSheet b sheet))))∧(false=true→false=true)∧(true=false→false=true)∧true=true∧Computes Tryz.prog Gl 22 [] (.ret (B true))∧true=true) (by kernel_rfl) ?_
  simp only [stdS, imp_self, implies_true, and_true, Bool.false_and, Bool.true_and, Bool.and_true, Bool.and_false, Bool.false_or, Bool.true_or, Bool.or_false, Bool.or_true, Bool.false_eq_true, false_implies, true_implies, en, en2]
  repeat' first | with_reducible apply And.intro | with_reducible intro _
  all_goals first
    | contradiction
    | with_reducible exact known22 S hG
    | with_reducible exact goodV S b plan h
    | with_reducible exact compV S b computer hc
    | with_reducible exact tableV S b table ht
    | exact known22 S hG
    | exact goodV S b plan h
    | exact compV S b computer hc
    | exact tableV S b table ht
    | exact trivial
    | rfl
    | omega
theorem law16f (S : Set Tryz.prog Y Gl) (b : Book) (plan : List Task) (computer n table later sheet : Int) (hG : GlOK Gl) (h : okP b plan = true) (hc : b.isComp computer = true) (en : decide (n < 0) = false) (en2 : decide (5 < n) = false) (ht : b.isTable table = true) (el : decide (later < 0) = true) : Computes Tryz.prog Gl 16 [tBook b, L eTask plan, I computer, I n, I table, I later, I sheet] (.ret (B true)) := by
  refine fn_is S (.r (.ret (B true)) (.sure 33 (.sure 34 (.sure 35 (.r (.ret (B true)) (.sure 36 (.sure 39 (.val 40 false (.sure 40 (.sure 43 (.val 44 false (.sure 44 (.sure 47 (.sure 48 (.sure 49 (.r (.ret (B true)) (.sure 50 (.sure 53 (.val 54 true (.sure 54 (.r (.ret (B (Book.isSheet b sheet))) (.tt (.r (.ret (B true)) .nil))))))))))))))))))))))) Tryz.func16 (by kernel_rfl) (Computes Tryz.prog Gl 36 [tBook b,L eTask plan] (.ret (B true))∧true=true∧true=true∧true=true∧Computes Tryz.prog Gl 25 [tBook b,I computer] (.ret (B true))∧true=true∧true=true∧decide (n<(0:Int))=false∧true=true∧true=true∧decide ((5:Int)<n)=false∧true=true∧true=true∧true=true∧true=true∧Computes Tryz.prog Gl 44 [tBook b,I table] (.ret (B true))∧true=true∧true=true∧decide (later<(0:Int))=true∧true=true∧(false=true→false=true)∧(true=false→false=true)∧(false=true→false=true)∧(false=true→false=true)∧(false=true→Computes Tryz.prog Gl 24 [tBook b,I sheet] (.ret (B (Book.isSheet b sheet))))∧(false=true→false=true)∧(true=false→false=true)∧true=true∧Computes Tryz.prog Gl 22 [] (.ret (B true))∧true=true) (by kernel_rfl) ?_
  simp only [stdS, imp_self, implies_true, and_true, Bool.false_and, Bool.true_and, Bool.and_true, Bool.and_false, Bool.false_or, Bool.true_or, Bool.or_false, Bool.or_true, Bool.false_eq_true, false_implies, true_implies, en, en2, el]
  repeat' first | with_reducible apply And.intro | with_reducible intro _
  all_goals first
    | contradiction
    | with_reducible exact known22 S hG
    | with_reducible exact goodV S b plan h
    | with_reducible exact compV S b computer hc
    | with_reducible exact tableV S b table ht
    | exact known22 S hG
    | exact goodV S b plan h
    | exact compV S b computer hc
    | exact tableV S b table ht
    | exact trivial
    | rfl
    | omega
theorem law16g (S : Set Tryz.prog Y Gl) (b : Book) (plan : List Task) (computer n table later sheet : Int) (hG : GlOK Gl) (h : okP b plan = true) (hc : b.isComp computer = true) (en : decide (n < 0) = false) (en2 : decide (5 < n) = false) (ht : b.isTable table = true) (el : decide (later < 0) = false) (el2 : decide (99 < later) = true) : Computes Tryz.prog Gl 16 [tBook b, L eTask plan, I computer, I n, I table, I later, I sheet] (.ret (B true)) := by
  refine fn_is S (.r (.ret (B true)) (.sure 33 (.sure 34 (.sure 35 (.r (.ret (B true)) (.sure 36 (.sure 39 (.val 40 false (.sure 40 (.sure 43 (.val 44 false (.sure 44 (.sure 47 (.sure 48 (.sure 49 (.r (.ret (B true)) (.sure 50 (.sure 53 (.val 54 false (.sure 54 (.sure 57 (.val 58 true (.sure 58 (.r (.ret (B (Book.isSheet b sheet))) (.tt (.r (.ret (B true)) .nil)))))))))))))))))))))))))) Tryz.func16 (by kernel_rfl) (Computes Tryz.prog Gl 36 [tBook b,L eTask plan] (.ret (B true))∧true=true∧true=true∧true=true∧Computes Tryz.prog Gl 25 [tBook b,I computer] (.ret (B true))∧true=true∧true=true∧decide (n<(0:Int))=false∧true=true∧true=true∧decide ((5:Int)<n)=false∧true=true∧true=true∧true=true∧true=true∧Computes Tryz.prog Gl 44 [tBook b,I table] (.ret (B true))∧true=true∧true=true∧decide (later<(0:Int))=false∧true=true∧true=true∧decide ((99:Int)<later)=true∧true=true∧(false=true→false=true)∧(false=true→false=true)∧(false=true→Computes Tryz.prog Gl 24 [tBook b,I sheet] (.ret (B (Book.isSheet b sheet))))∧(false=true→false=true)∧(true=false→false=true)∧true=true∧Computes Tryz.prog Gl 22 [] (.ret (B true))∧true=true) (by kernel_rfl) ?_
  simp only [stdS, imp_self, implies_true, and_true, Bool.false_and, Bool.true_and, Bool.and_true, Bool.and_false, Bool.false_or, Bool.true_or, Bool.or_false, Bool.or_true, Bool.false_eq_true, false_implies, true_implies, en, en2, el, el2]
  repeat' first | with_reducible apply And.intro | with_reducible intro _
  all_goals first
    | contradiction
    | with_reducible exact known22 S hG
    | with_reducible exact goodV S b plan h
    | with_reducible exact compV S b computer hc
    | with_reducible exact tableV S b table ht
    | exact known22 S hG
    | exact goodV S b plan h
    | exact compV S b computer hc
    | exact tableV S b table ht
    | exact trivial
    | rfl
    | omega
theorem law16h (S : Set Tryz.prog Y Gl) (b : Book) (plan : List Task) (computer n table later sheet : Int) (hG : GlOK Gl) (h : okP b plan = true) (hc : b.isComp computer = true) (en : decide (n < 0) = false) (en2 : decide (5 < n) = false) (ht : b.isTable table = true) (el : decide (later < 0) = false) (el2 : decide (99 < later) = false) (hs : b.isSheet sheet = false) : Computes Tryz.prog Gl 16 [tBook b, L eTask plan, I computer, I n, I table, I later, I sheet] (.ret (B true)) := by
  refine fn_is S (.r (.ret (B true)) (.sure 33 (.sure 34 (.sure 35 (.r (.ret (B true)) (.sure 36 (.sure 39 (.val 40 false (.sure 40 (.sure 43 (.val 44 false (.sure 44 (.sure 47 (.sure 48 (.sure 49 (.r (.ret (B true)) (.sure 50 (.sure 53 (.val 54 false (.sure 54 (.sure 57 (.val 58 false (.sure 58 (.sure 61 (.sure 62 (.sure 63 (.r (.ret (B false)) (.sure 64 (.tt (.r (.ret (B true)) .nil)))))))))))))))))))))))))))))) Tryz.func16 (by kernel_rfl) (Computes Tryz.prog Gl 36 [tBook b,L eTask plan] (.ret (B true))∧true=true∧true=true∧true=true∧Computes Tryz.prog Gl 25 [tBook b,I computer] (.ret (B true))∧true=true∧true=true∧decide (n<(0:Int))=false∧true=true∧true=true∧decide ((5:Int)<n)=false∧true=true∧true=true∧true=true∧true=true∧Computes Tryz.prog Gl 44 [tBook b,I table] (.ret (B true))∧true=true∧true=true∧decide (later<(0:Int))=false∧true=true∧true=true∧decide ((99:Int)<later)=false∧true=true∧true=true∧true=true∧true=true∧Computes Tryz.prog Gl 24 [tBook b,I sheet] (.ret (B false))∧true=true∧true=true∧Computes Tryz.prog Gl 22 [] (.ret (B true))∧true=true) (by kernel_rfl) ?_
  simp only [stdS, imp_self, implies_true, and_true, Bool.false_and, Bool.true_and, Bool.and_true, Bool.and_false, Bool.false_or, Bool.true_or, Bool.or_false, Bool.or_true, Bool.false_eq_true, false_implies, true_implies, en, en2, el, el2]
  repeat' first | with_reducible apply And.intro | with_reducible intro _
  all_goals first
    | contradiction
    | with_reducible exact known22 S hG
    | with_reducible exact goodV S b plan h
    | with_reducible exact compV S b computer hc
    | with_reducible exact tableV S b table ht
    | with_reducible exact sheetV S b sheet hs
    | exact known22 S hG
    | exact goodV S b plan h
    | exact compV S b computer hc
    | exact tableV S b table ht
    | exact sheetV S b sheet hs
    | exact trivial
    | rfl
    | omega
def xB (b : Book) (c n table later : Int) : T :=
  .d (.agg [.s .n b.comps.length (updF (fun i => eComp (nth b.comps i)) c.toNat (((eComp ((nth b.comps c.toNat).quick n)).map C.dem).map C.dem)), .s .n b.dues.length (updF (fun i => eI (nth b.dues i)) table.toNat ([Ci (min 99 (nth b.dues table.toNat + later))].map C.dem)), .l eI b.sheets])
theorem law16m (S : Set Tryz.prog Y Gl) (b : Book) (plan : List Task) (computer n table later sheet : Int) (hG : GlOK Gl) (h : okP b plan = true) (hc : b.isComp computer = true) (en : decide (n < 0) = false) (en2 : decide (5 < n) = false) (ht : b.isTable table = true) (el : decide (later < 0) = false) (el2 : decide (99 < later) = false) (hs : b.isSheet sheet = true) (hb : b.ok = true) (hg : b.good plan = true) (hq : Computes Tryz.prog Gl 66 [tComp (nth b.comps computer.toNat), I n] (.ret (tComp ((nth b.comps computer.toNat).quick n)))) (x1 : Computes Tryz.prog Gl 28 [xB b computer n table later, L eTask plan] (.ret (.tup [.c (.l eSpan (backs (b.quick computer n table later) plan)), .c (Ci 0)]))) (x2 : Computes Tryz.prog Gl 38 [xB b computer n table later, L eTask plan] (.ret (.tup [.c (.l eI (tables (b.quick computer n table later) plan)), .c (Ci 0)]))) (x3 : Computes Tryz.prog Gl 50 [xB b computer n table later] (.ret (.tup [.c (Ci (b.quick computer n table later).all.length), .c (Ci 0)]))) (e1 : (((backs b plan).length : Int) != (plan.length : Int)) = false) (e2 : (((backs (b.quick computer n table later) plan).length : Int) != (plan.length : Int)) = false) (e3 : (((tables b plan).length : Int) != (b.dues.length : Int)) = false) (e4 : (((tables (b.quick computer n table later) plan).length : Int) != ((tables b plan).length : Int)) = false) (e5 : decide ((nth (backs (b.quick computer n table later) plan) sheet.toNat).low ≤ (nth (backs b plan) sheet.toNat).low) = true) (e6 : decide ((nth (backs (b.quick computer n table later) plan) sheet.toNat).high ≤ (nth (backs b plan) sheet.toNat).high) = true) (e7 : decide (nth (tables b plan) table.toNat ≤ nth (tables (b.quick computer n table later) plan) table.toNat) = true) (e8 : decide ((b.all.length : Int) ≤ ((b.quick computer n table later).all.length : Int)) = true) (r1 : (backs b plan).length = plan.length) (r2 : (backs (b.quick computer n table later) plan).length = plan.length) (r3 : (tables b plan).length = b.dues.length) (r4 : (tables (b.quick computer n table later) plan).length = b.dues.length) (r5 : 0 ≤ sheet ∧ sheet < plan.length) (r6 : 0 ≤ table ∧ table < b.dues.length) (r7 : 0 ≤ computer ∧ computer < b.comps.length) (r8 : 1 ≤ b.comps.length ∧ b.comps.length ≤ 4) (r9 : 1 ≤ b.dues.length ∧ b.dues.length ≤ 2) (q1 : 0 ≤ nth b.dues table.toNat ∧ nth b.dues table.toNat ≤ 99) (q2 : 0 ≤ later ∧ later ≤ 99) : Computes Tryz.prog Gl 16 [tBook b, L eTask plan, I computer, I n, I table, I later, I sheet] (.ret (B true)) := by
  refine fn_is S (.r (.ret (B true)) (.sure 33 (.sure 34 (.sure 35 (.r (.ret (B true)) (.sure 36 (.sure 39 (.val 40 false (.sure 40 (.sure 43 (.val 44 false (.sure 44 (.sure 47 (.sure 48 (.sure 49 (.r (.ret (B true)) (.sure 50 (.sure 53 (.val 54 false (.sure 54 (.sure 57 (.val 58 false (.sure 58 (.sure 61 (.sure 62 (.sure 63 (.r (.ret (B true)) (.sure 64 (.ff (.arrA (nat_lit 70) (.r (.ret (tComp (Comp.quick (nth (Book.comps b) (Int.toNat computer)) n))) (.arrA (nat_lit 85) (.r (.ret (.tup [D.c (C.l eSpan (backs b plan)),D.c (Ci 0)])) (.r (.ret (.tup [D.c (C.l eSpan (backs (Book.quick b computer n table later) plan)),D.c (Ci 0)])) (.r (.ret (.tup [D.c (C.l eI (tables b plan)),D.c (Ci 0)])) (.r (.ret (.tup [D.c (C.l eI (tables (Book.quick b computer n table later) plan)),D.c (Ci 0)])) (.r (.ret (.tup [D.c (Ci (↑(List.length (Book.all b)):Int)),D.c (Ci 0)])) (.r (.ret (.tup [D.c (Ci (↑(List.length (Book.all (Book.quick b computer n table later))):Int)),D.c (Ci 0)])) (.sure 136 (.sure 137 (.sure 140 (.sure 141 (.sure 144 (.sure 145 (.sure 148 (.sure 149 (.sure 152 (.sure 153 (.sure 156 (.sure 157 (.sure 158 (.sure 159 (.val 160 false (.sure 160 (.sure 163 (.sure 164 (.sure 165 (.sure 166 (.val 167 false (.sure 167 (.sure 170 (.sure 171 (.sure 172 (.sure 173 (.sure 174 (.val 175 false (.sure 175 (.sure 178 (.sure 179 (.sure 180 (.sure 181 (.val 182 false (.sure 182 (.ff (.val 194 true (.sure 196 (.sure 197 (.sure 198 (.sure 199 (.sure 200 (.sure 201 (.sure 202 (.sure 203 (.sure 204 (.sure 205 (.val 206 true (.sure 206 (.sure 209 (.sure 210 (.sure 211 (.sure 212 (.sure 213 (.sure 214 (.sure 215 (.sure 216 (.val 217 true (.sure 217 (.sure 220 (.sure 221 (.val 222 true (.sure 222 (.sure 225 (.r (.ret (B true)) .nil))))))))))))))))))))))))))))))))))))))))))))))))))))))))))))))))))))))))))))))))))))))))))))))))))))))) Tryz.func16 (by kernel_rfl) (Computes Tryz.prog Gl 36 [tBook b,L eTask plan] (.ret (B true))∧true=true∧true=true∧true=true∧Computes Tryz.prog Gl 25 [tBook b,I computer] (.ret (B true))∧true=true∧true=true∧decide (n<(0:Int))=false∧true=true∧true=true∧decide ((5:Int)<n)=false∧true=true∧true=true∧true=true∧true=true∧Computes Tryz.prog Gl 44 [tBook b,I table] (.ret (B true))∧true=true∧true=true∧decide (later<(0:Int))=false∧true=true∧true=true∧decide ((99:Int)<later)=false∧true=true∧true=true∧true=true∧true=true∧Computes Tryz.prog Gl 24 [tBook b,I sheet] (.ret (B true))∧true=true∧false=false∧(0:Nat)<b.1.length∧b.1.length*(56:Nat)≤(140737488355328:Nat)∧b.1.length≤(140737488355328:Nat)∧((0:Int)≤computer∧computer<(↑b.1.length:Int))∧Computes Tryz.prog Gl 66 [tComp (nth (Book.comps b) (Int.toNat computer)),I n] (.ret (tComp (Comp.quick (nth (Book.comps b) (Int.toNat computer)) n)))∧((0:Int)≤computer∧computer<(↑b.1.length:Int))∧Int.toNat computer<b.1.length∧(0:Nat)<b.2.length∧b.2.length*(8:Nat)≤(140737488355328:Nat)∧b.2.length≤(140737488355328:Nat)∧((0:Int)≤table∧table<(↑b.2.length:Int))∧inRange IntKind.i64 (nth b.2 (Int.toNat table)+later)∧((0:Int)≤table∧table<(↑b.2.length:Int))∧Int.toNat table<b.2.length∧Computes Tryz.prog Gl 28 [tBook b,L eTask plan] (.ret (.tup [D.c (C.l eSpan (backs b plan)),D.c (Ci 0)]))∧b.1.length=b.1.length∧b.2.length=b.2.length∧Computes Tryz.prog Gl 28 [xB b computer n table later,L eTask plan] (.ret (.tup [D.c (C.l eSpan (backs (Book.quick b computer n table later) plan)),D.c (Ci 0)]))∧Computes Tryz.prog Gl 38 [tBook b,L eTask plan] (.ret (.tup [D.c (C.l eI (tables b plan)),D.c (Ci 0)]))∧b.1.length=b.1.length∧b.2.length=b.2.length∧Computes Tryz.prog Gl 38 [xB b computer n table later,L eTask plan] (.ret (.tup [D.c (C.l eI (tables (Book.quick b computer n table later) plan)),D.c (Ci 0)]))∧Computes Tryz.prog Gl 50 [tBook b] (.ret (.tup [D.c (Ci (↑(List.length (Book.all b)):Int)),D.c (Ci 0)]))∧b.1.length=b.1.length∧b.2.length=b.2.length∧Computes Tryz.prog Gl 50 [xB b computer n table later] (.ret (.tup [D.c (Ci (↑(List.length (Book.all (Book.quick b computer n table later))):Int)),D.c (Ci 0)]))∧true=true∧true=true∧true=true∧true=true∧true=true∧true=true∧true=true∧true=true∧true=true∧true=true∧true=true∧true=true∧(List.length (backs b plan)≤maxLen→true=true∧true=true∧(plan.length≤maxLen→((↑(List.length (backs b plan)):Int) != (↑plan.length:Int))=false∧true=true∧true=true∧true=true∧(List.length (backs (Book.quick b computer n table later) plan)≤maxLen→true=true∧true=true∧(plan.length≤maxLen→((↑(List.length (backs (Book.quick b computer n table later) plan)):Int) != (↑plan.length:Int))=false∧true=true∧true=true∧true=true∧(List.length (tables b plan)≤maxLen→true=true∧true=true∧true=true∧(b.2.length≤maxLen→((↑(List.length (tables b plan)):Int) != (↑b.2.length:Int))=false∧true=true∧true=true∧true=true∧(List.length (tables (Book.quick b computer n table later) plan)≤maxLen→true=true∧true=true∧(List.length (tables b plan)≤maxLen→((↑(List.length (tables (Book.quick b computer n table later) plan)):Int) != (↑(List.length (tables b plan)):Int))=false∧true=true∧false=false∧((0:Int)≤sheet∧sheet<(↑(List.length (backs (Book.quick b computer n table later) plan)):Int))∧((0:Int)≤sheet∧sheet<(↑(List.length (backs b plan)):Int))∧decide ((nth (backs (Book.quick b computer n table later) plan) (Int.toNat sheet)).1≤(nth (backs b plan) (Int.toNat sheet)).1)=true∧true=true∧true=true∧true=true∧((0:Int)≤sheet∧sheet<(↑(List.length (backs (Book.quick b computer n table later) plan)):Int))∧true=true∧true=true∧true=true∧true=true∧true=true∧((0:Int)≤sheet∧sheet<(↑(List.length (backs b plan)):Int))∧true=true∧true=true∧decide ((nth (backs (Book.quick b computer n table later) plan) (Int.toNat sheet)).2≤(nth (backs b plan) (Int.toNat sheet)).2)=true∧true=true∧true=true∧true=true∧true=true∧((0:Int)≤table∧table<(↑(List.length (tables (Book.quick b computer n table later) plan)):Int))∧true=true∧true=true∧true=true∧true=true∧((0:Int)≤table∧table<(↑(List.length (tables b plan)):Int))∧true=true∧decide (nth (tables b plan) (Int.toNat table)≤nth (tables (Book.quick b computer n table later) plan) (Int.toNat table))=true∧true=true∧true=true∧true=true∧decide ((↑(List.length (Book.all b)):Int)≤(↑(List.length (Book.all (Book.quick b computer n table later))):Int))=true∧true=true∧true=true∧Computes Tryz.prog Gl 22 [] (.ret (B true))∧true=true))))))))) (by kernel_rfl) ?_
  simp only [stdS, imp_self, implies_true, and_true, Bool.false_and, Bool.true_and, Bool.and_true, Bool.and_false, Bool.false_or, Bool.true_or, Bool.or_false, Bool.or_true, Bool.false_eq_true, false_implies, true_implies, en, en2, el, el2, e1, e2, e3, e4, e5, e6, e7, e8, maxLen_eq, rng_iff]
  repeat' first | with_reducible apply And.intro | with_reducible intro _
  all_goals first
    | contradiction
    | with_reducible exact known22 S hG
    | with_reducible exact goodV S b plan h
    | with_reducible exact compV S b computer hc
    | with_reducible exact tableV S b table ht
    | with_reducible exact sheetV S b sheet hs
    | with_reducible exact hq
    | with_reducible exact back28 S b plan hb hg
    | with_reducible exact tables38 S b plan hb hg
    | with_reducible exact countT S b hb
    | with_reducible exact x1
    | with_reducible exact x2
    | with_reducible exact x3
    | exact known22 S hG
    | exact goodV S b plan h
    | exact compV S b computer hc
    | exact tableV S b table ht
    | exact sheetV S b sheet hs
    | exact hq
    | exact back28 S b plan hb hg
    | exact tables38 S b plan hb hg
    | exact countT S b hb
    | exact x1
    | exact x2
    | exact x3
    | exact trivial
    | rfl
    | omega
theorem SEq_updL {α : Type} [Inhabited α] {f : α → List C} {l : List α} {c : Nat} {x : α} {cs : List C} (h : cs = f x) (hc : c < l.length) : SEq l.length (updF (fun i => f (nth l i)) c cs) (l.set c x).length (fun i => f (nth (l.set c x) i)) := by
  refine .of ⟨by rw [List.length_set], fun i hi => ?_⟩
  unfold updF
  dsimp only
  rw [nth_set]
  by_cases hi2 : i = c
  · subst hi2
    rw [if_pos ⟨rfl, hc⟩, show Nat.beq i i = true from Nat.beq_refl i, h]
    rfl
  · rw [if_neg (fun hh => hi2 hh.1.symm), show Nat.beq i c = false from (by
      cases h : Nat.beq i c with
      | false => rfl
      | true => exact absurd (Nat.eq_of_beq_eq_true h) hi2)]
    rfl
theorem law16 (S : Set Tryz.prog Y Gl) (b : Book) (plan : List Task) (computer n table later sheet : Int) (hG : GlOK Gl) : Computes Tryz.prog Gl 16 [tBook b, L eTask plan, I computer, I n, I table, I later, I sheet] (.ret (B true)) := by
  cases h : okP b plan with
  | false => exact law16a S b plan computer n table later sheet hG h
  | true =>
  cases hc : b.isComp computer with
  | false => exact law16b S b plan computer n table later sheet hG h hc
  | true =>
  cases en : decide (n < 0) with
  | true => exact law16c S b plan computer n table later sheet hG h hc en
  | false =>
  cases en2 : decide (5 < n) with
  | true => exact law16d S b plan computer n table later sheet hG h hc en en2
  | false =>
  cases ht : b.isTable table with
  | false => exact law16e S b plan computer n table later sheet hG h hc en en2 ht
  | true =>
  cases el : decide (later < 0) with
  | true => exact law16f S b plan computer n table later sheet hG h hc en en2 ht el
  | false =>
  cases el2 : decide (99 < later) with
  | true => exact law16g S b plan computer n table later sheet hG h hc en en2 ht el el2
  | false =>
  cases hs : b.isSheet sheet with
  | false => exact law16h S b plan computer n table later sheet hG h hc en en2 ht el el2 hs
  | true =>
    obtain ⟨hb, hg⟩ := okP_iff.1 h
    obtain ⟨o1, o2, o3, o4, o5, o6⟩ := ok_spec hb
    have n0 := of_decide_eq_false en
    have n1 := of_decide_eq_false en2
    have l0 := of_decide_eq_false el
    have l1 := of_decide_eq_false el2
    have hs' := isSheet_iff.1 hs
    have hc' := hc
    unfold Book.isComp at hc'
    rw [inR_iff] at hc'
    have ht' := ht
    unfold Book.isTable at ht'
    rw [inR_iff] at ht'
    have g1 := (good_spec hg).1
    have hx := quick_ok (c := computer) (n := n) (table := table) (later := later) hb (by omega) (by omega)
    have hgx := quick_good (c := computer) (n := n) (table := table) (later := later) hg
    have hi : sheet.toNat < plan.length := by omega
    have hm : table.toNat < b.dues.length := by omega
    have hk := quick_backs (c := computer) (n := n) (table := table) (later := later) (p := plan) hb (by omega) hi
    have hw := quick_word (c := computer) (n := n) (table := table) (later := later) (p := plan) hb (by omega) (by omega) hm
    have hcn := quick_count (c := computer) (n := n) (table := table) (later := later) hb (by omega) (by omega)
    have d1 : (b.quick computer n table later).dues.length = b.dues.length := by unfold Book.quick; simp
    have t1 := tables_len b plan
    have t2 := tables_len (b.quick computer n table later) plan
    rw [d1] at t2
    have s1 : SEq b.comps.length _ (b.quick computer n table later).comps.length _ := SEq_updL (f := eComp) (l := b.comps) (c := computer.toNat) (x := (nth b.comps computer.toNat).quick n) rfl (by omega)
    have s2 : SEq b.dues.length _ (b.quick computer n table later).dues.length _ := SEq_updL (f := eI) (l := b.dues) (c := table.toNat) (x := min 99 (nth b.dues table.toNat + later)) rfl hm
    have x1 := (back28 S (b.quick computer n table later) plan hx hgx).args (xs := [xB b computer n table later, L eTask plan]) ⟨s1, s2, SEq_whole rfl, SEq_whole rfl⟩
    have x2 := (tables38 S (b.quick computer n table later) plan hx hgx).args (xs := [xB b computer n table later, L eTask plan]) ⟨s1, s2, SEq_whole rfl, SEq_whole rfl⟩
    have x3 := (countT S (b.quick computer n table later) hx).args (xs := [xB b computer n table later]) ⟨s1, s2, SEq_whole rfl⟩
    have b1 := backs_len b plan
    have b2 := backs_len (b.quick computer n table later) plan
    exact law16m S b plan computer n table later sheet hG h hc en en2 ht el el2 hs hb hg (quick66 S _ n (o4 computer.toNat (by omega)) (by omega) (by omega)) x1 x2 x3
      (by rw [b1]; simp) (by rw [b2]; simp) (by rw [t1]; simp) (by rw [t1, t2]; simp)
      (decide_eq_true hk.1) (decide_eq_true hk.2) (decide_eq_true (by rw [tables_nth hm, tables_nth (by rw [d1]; exact hm)]; exact hw)) (decide_eq_true (by omega))
      b1 b2 t1 t2 (by omega) (by omega) (by omega) (by omega) (by omega) (o5 table.toNat hm) (by omega)
end Go.Vc.Gd
