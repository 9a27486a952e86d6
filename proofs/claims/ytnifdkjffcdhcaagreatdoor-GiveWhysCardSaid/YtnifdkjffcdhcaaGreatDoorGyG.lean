/- A part of the proofs over layer 6 (give): the program and the specification; no condition. -/
import Derived.Test.YtnifdkjffcdhcaaGreatDoorGyF
set_option linter.all false
set_option linter.unusedSimpArgs false
set_option linter.unusedVariables false
namespace Go.Vc.Gd
open Go Go.Proofs Go.Vc
variable {Gl : World → Prop}
set_option maxRecDepth 100000
theorem law17a (S : Set Tryz.prog Y Gl) (b : Book) (plan : List Task) (hG : GlOK Gl) (hb : b.ok = false) (he : openErr b plan = 2) : Computes Tryz.prog Gl 17 [tBook b, L eTask plan] (.ret (B true)) := by
  refine fn_is S (Orc.r (Res.ret (B (decide (List.length (Book.comps b)≤(6:Nat))&&(decide (List.length (Book.dues b)≤(4:Nat))&&decide (List.length (Book.sheets b)≤(5:Nat)))))) (Orc.br (Orc.r (Res.ret (B true)) Orc.nil) (Orc.r (Res.ret (I 2)) (Orc.r (Res.ret (T.tup [D.c (Ci 0),D.c (Ci 0),D.c (Ci 2)])) (Orc.r (Res.ret (B false)) (Orc.tt (Orc.r (Res.ret (B true)) Orc.nil))))))) Tryz.func17 (by kernel_rfl) (Computes Tryz.prog Gl 26 [tBook b] (Res.ret (B (decide (List.length (Book.comps b)≤(6:Nat))&&(decide (List.length (Book.dues b)≤(4:Nat))&&decide (List.length (Book.sheets b)≤(5:Nat))))))∧(eqB (!(decide (b.1.length≤(6:Nat))&&(decide (b.2.length≤(4:Nat))&&decide (b.3.length≤(5:Nat))))) false=true→eqB (!(decide (b.1.length≤(6:Nat))&&(decide (b.2.length≤(4:Nat))&&decide (b.3.length≤(5:Nat))))) false=true)∧((eqB (!(decide (b.1.length≤(6:Nat))&&(decide (b.2.length≤(4:Nat))&&decide (b.3.length≤(5:Nat))))) false=true→plan.length≤maxLen)→(eqB (!(decide (b.1.length≤(6:Nat))&&(decide (b.2.length≤(4:Nat))&&decide (b.3.length≤(5:Nat))))) false=true→eqB (!(decide (b.1.length≤(6:Nat))&&(decide (b.2.length≤(4:Nat))&&decide (b.3.length≤(5:Nat))))) false=true)∧((!(decide (b.1.length≤(6:Nat))&&(decide (b.2.length≤(4:Nat))&&decide (b.3.length≤(5:Nat)))))=false→eqB (!(decide (b.1.length≤(6:Nat))&&(decide (b.2.length≤(4:Nat))&&decide (b.3.length≤(5:Nat))))) false=true)∧((bif !(decide (b.1.length≤(6:Nat))&&(decide (b.2.length≤(4:Nat))&&decide (b.3.length≤(5:Nat)))) then true else decide ((5:Int)<(↑plan.length:Int)))=true→Computes Tryz.prog Gl 22 [] (Res.ret (B true))∧true=true)∧((bif !(decide (b.1.length≤(6:Nat))&&(decide (b.2.length≤(4:Nat))&&decide (b.3.length≤(5:Nat)))) then true else decide ((5:Int)<(↑plan.length:Int)))=false→Computes Tryz.prog Gl 67 [tBook b] (Res.ret (I 2))∧Computes Tryz.prog Gl 23 [tBook b,L eTask plan] (Res.ret (T.tup [D.c (Ci 0),D.c (Ci 0),D.c (Ci 2)]))∧Computes Tryz.prog Gl 52 [tBook b] (Res.ret (B false))∧true=true∧(true=true→true=true)∧(true=true→true=true)∧(true=true→true=true)∧(true=true→true=true)∧(true=true→true=true)∧(true=true→true=true)∧(true=true→Computes Tryz.prog Gl 22 [] (Res.ret (B true)))∧(true=true→true=true)∧true=true))) (by kernel_rfl) ?_
  simp only [stdS, imp_self, implies_true, and_true]
  repeat' first | with_reducible apply And.intro | with_reducible intro _
  all_goals first
    | contradiction
    | exact known22 S hG
    | exact short26 S b
    | exact checkF S b hb
    | exact whyArg S b plan he
    | exact bookV S b hb
    | exact trivial
    | rfl
theorem law17b (S : Set Tryz.prog Y Gl) (b : Book) (plan : List Task) (hG : GlOK Gl) (hb : b.ok = true) (hl : (plan.length == b.sheets.length) = false) (he : openErr b plan = 2) : Computes Tryz.prog Gl 17 [tBook b, L eTask plan] (.ret (B true)) := by
  refine fn_is S (Orc.r (Res.ret (B (decide (List.length (Book.comps b)≤(6:Nat))&&(decide (List.length (Book.dues b)≤(4:Nat))&&decide (List.length (Book.sheets b)≤(5:Nat)))))) (Orc.br (Orc.r (Res.ret (B true)) Orc.nil) (Orc.r (Res.ret (I 0)) (Orc.r (Res.ret (T.tup [D.c (Ci 0),D.c (Ci 0),D.c (Ci 2)])) (Orc.r (Res.ret (B true)) (Orc.ff (Orc.br (Orc.r (Res.ret (B true)) Orc.nil) (Orc.r (Res.ret (T.tup [D.c (Ci (Book.why1 b plan)),D.c (Ci (Book.why2 b plan)),D.c (Cb (Book.isWhy b plan))])) (Orc.br (Orc.r (Res.ret (B true)) Orc.nil) (Orc.r (Res.ret (B true)) Orc.nil)))))))))) Tryz.func17 (by kernel_rfl) (Computes Tryz.prog Gl 26 [tBook b] (Res.ret (B (decide (List.length (Book.comps b)≤(6:Nat))&&(decide (List.length (Book.dues b)≤(4:Nat))&&decide (List.length (Book.sheets b)≤(5:Nat))))))∧(eqB (!(decide (b.1.length≤(6:Nat))&&(decide (b.2.length≤(4:Nat))&&decide (b.3.length≤(5:Nat))))) false=true→eqB (!(decide (b.1.length≤(6:Nat))&&(decide (b.2.length≤(4:Nat))&&decide (b.3.length≤(5:Nat))))) false=true)∧((eqB (!(decide (b.1.length≤(6:Nat))&&(decide (b.2.length≤(4:Nat))&&decide (b.3.length≤(5:Nat))))) false=true→plan.length≤maxLen)→(eqB (!(decide (b.1.length≤(6:Nat))&&(decide (b.2.length≤(4:Nat))&&decide (b.3.length≤(5:Nat))))) false=true→eqB (!(decide (b.1.length≤(6:Nat))&&(decide (b.2.length≤(4:Nat))&&decide (b.3.length≤(5:Nat))))) false=true)∧((!(decide (b.1.length≤(6:Nat))&&(decide (b.2.length≤(4:Nat))&&decide (b.3.length≤(5:Nat)))))=false→eqB (!(decide (b.1.length≤(6:Nat))&&(decide (b.2.length≤(4:Nat))&&decide (b.3.length≤(5:Nat))))) false=true)∧((bif !(decide (b.1.length≤(6:Nat))&&(decide (b.2.length≤(4:Nat))&&decide (b.3.length≤(5:Nat)))) then true else decide ((5:Int)<(↑plan.length:Int)))=true→Computes Tryz.prog Gl 22 [] (Res.ret (B true))∧true=true)∧((bif !(decide (b.1.length≤(6:Nat))&&(decide (b.2.length≤(4:Nat))&&decide (b.3.length≤(5:Nat)))) then true else decide ((5:Int)<(↑plan.length:Int)))=false→Computes Tryz.prog Gl 67 [tBook b] (Res.ret (I 0))∧Computes Tryz.prog Gl 23 [tBook b,L eTask plan] (Res.ret (T.tup [D.c (Ci 0),D.c (Ci 0),D.c (Ci 2)]))∧Computes Tryz.prog Gl 52 [tBook b] (Res.ret (B true))∧false=false∧(plan.length≤maxLen→b.3.length≤maxLen→(((↑plan.length:Int) != (↑b.3.length:Int))=true→(true=true→true=true)∧(true=true→true=true)∧(true=true→true=true)∧(true=true→true=true)∧(true=true→true=true)∧(true=true→true=true)∧(true=true→Computes Tryz.prog Gl 22 [] (Res.ret (B true)))∧(true=true→true=true)∧true=true)∧(((↑plan.length:Int) != (↑b.3.length:Int))=false→Computes Tryz.prog Gl 68 [tBook b,L eTask plan] (Res.ret (T.tup [D.c (Ci (Book.why1 b plan)),D.c (Ci (Book.why2 b plan)),D.c (Cb (Book.isWhy b plan))]))∧((!Book.isWhy b plan)=true→(true=true→true=true)∧(true=true→true=true)∧(false=true→false=true)∧(false=true→false=true)∧(false=true→false=true)∧(false=true→false=true)∧(false=true→Computes Tryz.prog Gl 22 [] (Res.ret (B true)))∧(false=true→false=true)∧false=true)∧((!Book.isWhy b plan)=false→(true=true→true=true)∧(true=true→true=true)∧(false=true→false=true)∧(false=true→false=true)∧(false=true→false=true)∧(false=true→false=true)∧(false=true→false=true)∧(false=true→false=true)∧(false=true→Computes Tryz.prog Gl 22 [] (Res.ret (B true)))∧(false=true→false=true)∧false=true)))))) (by kernel_rfl) ?_
  have e : ((plan.length : Int) != (b.sheets.length : Int)) = true := by
    rw [bne_iff_ne]
    intro h
    have := beq_eq_false_iff_ne.1 hl
    omega
  simp only [stdS, imp_self, implies_true, and_true, e]
  repeat' first | with_reducible apply And.intro | with_reducible intro _
  all_goals first
    | contradiction
    | exact known22 S hG
    | exact short26 S b
    | exact checkV S b hb
    | exact whyArg S b plan he
    | exact bookV S b hb
    | exact trivial
    | rfl
theorem law17c (S : Set Tryz.prog Y Gl) (b : Book) (plan : List Task) (hG : GlOK Gl) (hb : b.ok = true) (hl : (plan.length == b.sheets.length) = true) (he : openErr b plan = 0) (h : b.isWhy plan = false) : Computes Tryz.prog Gl 17 [tBook b, L eTask plan] (.ret (B true)) := by
  refine fn_is S (Orc.r (Res.ret (B (decide (List.length (Book.comps b)≤(6:Nat))&&(decide (List.length (Book.dues b)≤(4:Nat))&&decide (List.length (Book.sheets b)≤(5:Nat)))))) (Orc.br (Orc.r (Res.ret (B true)) Orc.nil) (Orc.r (Res.ret (I 0)) (Orc.r (Res.ret (T.tup [D.c (Ci 0),D.c (Ci 0),D.c (Ci 5)])) (Orc.r (Res.ret (B true)) (Orc.ff (Orc.br (Orc.r (Res.ret (B true)) Orc.nil) (Orc.r (Res.ret (T.tup [D.c (Ci 0),D.c (Ci 0),D.c (Cb false)])) (Orc.tt (Orc.r (Res.ret (B true)) Orc.nil)))))))))) Tryz.func17 (by kernel_rfl) (Computes Tryz.prog Gl 26 [tBook b] (Res.ret (B (decide (List.length (Book.comps b)≤(6:Nat))&&(decide (List.length (Book.dues b)≤(4:Nat))&&decide (List.length (Book.sheets b)≤(5:Nat))))))∧(eqB (!(decide (b.1.length≤(6:Nat))&&(decide (b.2.length≤(4:Nat))&&decide (b.3.length≤(5:Nat))))) false=true→eqB (!(decide (b.1.length≤(6:Nat))&&(decide (b.2.length≤(4:Nat))&&decide (b.3.length≤(5:Nat))))) false=true)∧((eqB (!(decide (b.1.length≤(6:Nat))&&(decide (b.2.length≤(4:Nat))&&decide (b.3.length≤(5:Nat))))) false=true→plan.length≤maxLen)→(eqB (!(decide (b.1.length≤(6:Nat))&&(decide (b.2.length≤(4:Nat))&&decide (b.3.length≤(5:Nat))))) false=true→eqB (!(decide (b.1.length≤(6:Nat))&&(decide (b.2.length≤(4:Nat))&&decide (b.3.length≤(5:Nat))))) false=true)∧((!(decide (b.1.length≤(6:Nat))&&(decide (b.2.length≤(4:Nat))&&decide (b.3.length≤(5:Nat)))))=false→eqB (!(decide (b.1.length≤(6:Nat))&&(decide (b.2.length≤(4:Nat))&&decide (b.3.length≤(5:Nat))))) false=true)∧((bif !(decide (b.1.length≤(6:Nat))&&(decide (b.2.length≤(4:Nat))&&decide (b.3.length≤(5:Nat)))) then true else decide ((5:Int)<(↑plan.length:Int)))=true→Computes Tryz.prog Gl 22 [] (Res.ret (B true))∧true=true)∧((bif !(decide (b.1.length≤(6:Nat))&&(decide (b.2.length≤(4:Nat))&&decide (b.3.length≤(5:Nat)))) then true else decide ((5:Int)<(↑plan.length:Int)))=false→Computes Tryz.prog Gl 67 [tBook b] (Res.ret (I 0))∧Computes Tryz.prog Gl 23 [tBook b,L eTask plan] (Res.ret (T.tup [D.c (Ci 0),D.c (Ci 0),D.c (Ci 5)]))∧Computes Tryz.prog Gl 52 [tBook b] (Res.ret (B true))∧false=false∧(plan.length≤maxLen→b.3.length≤maxLen→(((↑plan.length:Int) != (↑b.3.length:Int))=true→(true=true→true=true)∧(true=true→true=true)∧(false=true→false=true)∧(false=true→false=true)∧(false=true→false=true)∧(false=true→false=true)∧(false=true→Computes Tryz.prog Gl 22 [] (Res.ret (B true)))∧(false=true→false=true)∧false=true)∧(((↑plan.length:Int) != (↑b.3.length:Int))=false→Computes Tryz.prog Gl 68 [tBook b,L eTask plan] (Res.ret (T.tup [D.c (Ci 0),D.c (Ci 0),D.c (Cb false)]))∧true=true∧(true=true→true=true)∧(true=true→true=true)∧(true=true→true=true)∧(true=true→true=true)∧(true=true→true=true)∧(true=true→true=true)∧(true=true→Computes Tryz.prog Gl 22 [] (Res.ret (B true)))∧(true=true→true=true)∧true=true))))) (by kernel_rfl) ?_
  have e : ((plan.length : Int) != (b.sheets.length : Int)) = false := by
    have := beq_iff_eq.1 hl
    rw [this]
    simp
  simp only [stdS, imp_self, implies_true, and_true, e]
  repeat' first | with_reducible apply And.intro | with_reducible intro _
  all_goals first
    | contradiction
    | exact known22 S hG
    | exact short26 S b
    | exact checkV S b hb
    | exact whyOK S b plan he
    | exact bookV S b hb
    | exact why68F S b plan h
    | exact trivial
    | rfl
theorem law17d (S : Set Tryz.prog Y Gl) (b : Book) (plan : List Task) (hG : GlOK Gl) (hb : b.ok = true) (hl : (plan.length == b.sheets.length) = true) (he : openErr b plan = 7) (h : b.isWhy plan = true) : Computes Tryz.prog Gl 17 [tBook b, L eTask plan] (.ret (B true)) := by
  refine fn_is S (Orc.r (Res.ret (B (decide (List.length (Book.comps b)≤(6:Nat))&&(decide (List.length (Book.dues b)≤(4:Nat))&&decide (List.length (Book.sheets b)≤(5:Nat)))))) (Orc.br (Orc.r (Res.ret (B true)) Orc.nil) (Orc.r (Res.ret (I 0)) (Orc.r (Res.ret (T.tup [D.c (Ci (Book.why1 b plan)),D.c (Ci (Book.why2 b plan)),D.c (Ci 0)])) (Orc.r (Res.ret (B true)) (Orc.ff (Orc.br (Orc.r (Res.ret (B true)) Orc.nil) (Orc.r (Res.ret (T.tup [D.c (Ci (Book.why1 b plan)),D.c (Ci (Book.why2 b plan)),D.c (Cb true)])) (Orc.ff (Orc.r (Res.ret (B true)) Orc.nil)))))))))) Tryz.func17 (by kernel_rfl) (Computes Tryz.prog Gl 26 [tBook b] (Res.ret (B (decide (List.length (Book.comps b)≤(6:Nat))&&(decide (List.length (Book.dues b)≤(4:Nat))&&decide (List.length (Book.sheets b)≤(5:Nat))))))∧(eqB (!(decide (b.1.length≤(6:Nat))&&(decide (b.2.length≤(4:Nat))&&decide (b.3.length≤(5:Nat))))) false=true→eqB (!(decide (b.1.length≤(6:Nat))&&(decide (b.2.length≤(4:Nat))&&decide (b.3.length≤(5:Nat))))) false=true)∧((eqB (!(decide (b.1.length≤(6:Nat))&&(decide (b.2.length≤(4:Nat))&&decide (b.3.length≤(5:Nat))))) false=true→plan.length≤maxLen)→(eqB (!(decide (b.1.length≤(6:Nat))&&(decide (b.2.length≤(4:Nat))&&decide (b.3.length≤(5:Nat))))) false=true→eqB (!(decide (b.1.length≤(6:Nat))&&(decide (b.2.length≤(4:Nat))&&decide (b.3.length≤(5:Nat))))) false=true)∧((!(decide (b.1.length≤(6:Nat))&&(decide (b.2.length≤(4:Nat))&&decide (b.3.length≤(5:Nat)))))=false→eqB (!(decide (b.1.length≤(6:Nat))&&(decide (b.2.length≤(4:Nat))&&decide (b.3.length≤(5:Nat))))) false=true)∧((bif !(decide (b.1.length≤(6:Nat))&&(decide (b.2.length≤(4:Nat))&&decide (b.3.length≤(5:Nat)))) then true else decide ((5:Int)<(↑plan.length:Int)))=true→Computes Tryz.prog Gl 22 [] (Res.ret (B true))∧true=true)∧((bif !(decide (b.1.length≤(6:Nat))&&(decide (b.2.length≤(4:Nat))&&decide (b.3.length≤(5:Nat)))) then true else decide ((5:Int)<(↑plan.length:Int)))=false→Computes Tryz.prog Gl 67 [tBook b] (Res.ret (I 0))∧Computes Tryz.prog Gl 23 [tBook b,L eTask plan] (Res.ret (T.tup [D.c (Ci (Book.why1 b plan)),D.c (Ci (Book.why2 b plan)),D.c (Ci 0)]))∧Computes Tryz.prog Gl 52 [tBook b] (Res.ret (B true))∧false=false∧(plan.length≤maxLen→b.3.length≤maxLen→(((↑plan.length:Int) != (↑b.3.length:Int))=true→(true=true→true=true)∧(true=true→true=true)∧(false=true→false=true)∧(false=true→false=true)∧(false=true→false=true)∧(false=true→false=true)∧(false=true→Computes Tryz.prog Gl 22 [] (Res.ret (B true)))∧(false=true→false=true)∧false=true)∧(((↑plan.length:Int) != (↑b.3.length:Int))=false→Computes Tryz.prog Gl 68 [tBook b,L eTask plan] (Res.ret (T.tup [D.c (Ci (Book.why1 b plan)),D.c (Ci (Book.why2 b plan)),D.c (Cb true)]))∧false=false∧(true=true→true=true)∧(true=true→true=true)∧(true=true→true=true)∧(true=true→true=true)∧(true=true→true=true)∧(eqB (bif true then Book.why1 b plan==Book.why1 b plan else false) true=true→eqB (bif true then Book.why1 b plan==Book.why1 b plan else false) true=true)∧(eqB (bif true then Book.why1 b plan==Book.why1 b plan else false) true=true→eqB (bif true then Book.why1 b plan==Book.why1 b plan else false) true=true)∧((bif true then Book.why1 b plan==Book.why1 b plan else false)=true→eqB (bif true then Book.why1 b plan==Book.why1 b plan else false) true=true)∧(eqB (bif bif true then Book.why1 b plan==Book.why1 b plan else false then Book.why2 b plan==Book.why2 b plan else false) true=true→Computes Tryz.prog Gl 22 [] (Res.ret (B true)))∧((bif bif true then Book.why1 b plan==Book.why1 b plan else false then Book.why2 b plan==Book.why2 b plan else false)=true→eqB (bif bif true then Book.why1 b plan==Book.why1 b plan else false then Book.why2 b plan==Book.why2 b plan else false) true=true)∧(bif bif bif true then Book.why1 b plan==Book.why1 b plan else false then Book.why2 b plan==Book.why2 b plan else false then true else false)=true))))) (by kernel_rfl) ?_
  have e : ((plan.length : Int) != (b.sheets.length : Int)) = false := by
    have := beq_iff_eq.1 hl
    rw [this]
    simp
  simp only [stdS, imp_self, implies_true, and_true, e]
  repeat' first | with_reducible apply And.intro | with_reducible intro _
  all_goals first
    | contradiction
    | exact known22 S hG
    | exact short26 S b
    | exact checkV S b hb
    | exact whyBad S b plan he
    | exact bookV S b hb
    | exact why68T S b plan h
    | exact trivial
    | rfl
    | simp
theorem law17 (S : Set Tryz.prog Y Gl) (b : Book) (plan : List Task) (hG : GlOK Gl) : Computes Tryz.prog Gl 17 [tBook b, L eTask plan] (.ret (B true)) := by
  cases hb : b.ok with
  | false => exact law17a S b plan hG hb (by unfold openErr; rw [hb]; rfl)
  | true =>
    cases hl : plan.length == b.sheets.length with
    | false => exact law17b S b plan hG hb hl (by unfold openErr; rw [hb, hl]; rfl)
    | true =>
      cases h : b.isWhy plan with
      | false => exact law17c S b plan hG hb hl (by unfold openErr; rw [hb, hl, h]; rfl) h
      | true => exact law17d S b plan hG hb hl (by unfold openErr; rw [hb, hl, h]; rfl) h
end Go.Vc.Gd
