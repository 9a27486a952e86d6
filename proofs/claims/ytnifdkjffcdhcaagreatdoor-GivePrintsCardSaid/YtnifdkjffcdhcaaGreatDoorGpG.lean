/- A part of the proofs over layer 6 (give): the program and the specification; no condition. -/
import Derived.Test.YtnifdkjffcdhcaaGreatDoorGpF
set_option linter.all false
set_option linter.unusedSimpArgs false
set_option linter.unusedVariables false
namespace Go.Vc.Gd
open Go Go.Proofs Go.Vc
variable {Gl : World → Prop}
set_option maxRecDepth 100000
theorem readT (S : Set Tryz.prog Y Gl) (hG : GlOK Gl) (b : Book) (hb : b.ok = true) : Computes Tryz.prog Gl 70 [str b.text] (.ret (.tup [.agg (cBook b), .c (Ci 0)])) :=
  read70 S b.text b (text_len hb) (parsed109some S hG b.text (text_len hb) (parse_of_text (ok_low hb))) hb
theorem law18a (S : Set Tryz.prog Y Gl) (b : Book) (hG : GlOK Gl) (hb : b.ok = false) : Computes Tryz.prog Gl 18 [tBook b] (.ret (B true)) := by
  refine fn_is S (Orc.r (Res.ret (B (decide (List.length (Book.comps b)≤(6:Nat))&&(decide (List.length (Book.dues b)≤(4:Nat))&&decide (List.length (Book.sheets b)≤(5:Nat)))))) (Orc.br (Orc.r (Res.ret (B true)) Orc.nil) (Orc.r (Res.ret (T.tup [D.c (C.v (Value.string (bs []))),D.c (Ci 2)])) (Orc.r (Res.ret (B false)) (Orc.tt (Orc.r (Res.ret (B true)) Orc.nil)))))) Tryz.func18 (by kernel_rfl) (Computes Tryz.prog Gl 26 [tBook b] (Res.ret (B (decide (List.length (Book.comps b)≤(6:Nat))&&(decide (List.length (Book.dues b)≤(4:Nat))&&decide (List.length (Book.sheets b)≤(5:Nat))))))∧((!(decide (b.1.length≤(6:Nat))&&(decide (b.2.length≤(4:Nat))&&decide (b.3.length≤(5:Nat)))))=true→Computes Tryz.prog Gl 22 [] (Res.ret (B true))∧true=true)∧((!(decide (b.1.length≤(6:Nat))&&(decide (b.2.length≤(4:Nat))&&decide (b.3.length≤(5:Nat)))))=false→Computes Tryz.prog Gl 69 [tBook b] (Res.ret (T.tup [D.c (C.v (Value.string (bs []))),D.c (Ci 2)]))∧Computes Tryz.prog Gl 52 [tBook b] (Res.ret (B false))∧true=true∧(true=true→true=true)∧(true=true→true=true)∧(true=true→Computes Tryz.prog Gl 22 [] (Res.ret (B true)))∧(true=true→true=true)∧true=true)) (by kernel_rfl) ?_
  simp only [stdS, imp_self, implies_true, and_true]
  repeat' first | with_reducible apply And.intro | with_reducible intro _
  all_goals first
    | contradiction
    | exact known22 S hG
    | exact short26 S b
    | exact print69e S b hb
    | exact bookV S b hb
    | exact trivial
    | rfl
theorem law18b (S : Set Tryz.prog Y Gl) (b : Book) (hG : GlOK Gl) (hb : b.ok = true) : Computes Tryz.prog Gl 18 [tBook b] (.ret (B true)) := by
  refine fn_is S (Orc.r (Res.ret (B (decide (List.length (Book.comps b)≤(6:Nat))&&(decide (List.length (Book.dues b)≤(4:Nat))&&decide (List.length (Book.sheets b)≤(5:Nat)))))) (Orc.br (Orc.r (Res.ret (B true)) Orc.nil) (Orc.r (Res.ret (T.tup [D.c (C.v (Value.string (bs (Book.text b)))),D.c (Ci 0)])) (Orc.r (Res.ret (B true)) (Orc.ff (Orc.r (Res.ret (T.tup [D.agg (cBook b),D.c (Ci 0)])) (Orc.r (Res.ret (str (Book.text b))) (Orc.r (Res.ret (B true)) (Orc.r (Res.ret (B true)) Orc.nil))))))))) Tryz.func18 (by kernel_rfl) (Computes Tryz.prog Gl 26 [tBook b] (Res.ret (B (decide (List.length (Book.comps b)≤(6:Nat))&&(decide (List.length (Book.dues b)≤(4:Nat))&&decide (List.length (Book.sheets b)≤(5:Nat))))))∧((!(decide (b.1.length≤(6:Nat))&&(decide (b.2.length≤(4:Nat))&&decide (b.3.length≤(5:Nat)))))=true→Computes Tryz.prog Gl 22 [] (Res.ret (B true))∧true=true)∧((!(decide (b.1.length≤(6:Nat))&&(decide (b.2.length≤(4:Nat))&&decide (b.3.length≤(5:Nat)))))=false→Computes Tryz.prog Gl 69 [tBook b] (Res.ret (T.tup [D.c (C.v (Value.string (bs (Book.text b)))),D.c (Ci 0)]))∧Computes Tryz.prog Gl 52 [tBook b] (Res.ret (B true))∧false=false∧Computes Tryz.prog Gl 70 [str (Book.text b)] (Res.ret (T.tup [D.agg (cBook b),D.c (Ci 0)]))∧(true=true→true=true)∧(true=true→Computes Tryz.prog Gl 71 [tBook b] (Res.ret (str (Book.text b))))∧(true=true→true=true)∧(true=true→true=true)∧(true=true→true=true)∧(eqB (bif true then ByteArray.toList (bs (Book.text b))==ByteArray.toList (bs (Book.text b)) else false) true=true→eqB (bif true then ByteArray.toList (bs (Book.text b))==ByteArray.toList (bs (Book.text b)) else false) true=true)∧((bif true then ByteArray.toList (bs (Book.text b))==ByteArray.toList (bs (Book.text b)) else false)=true→eqB (bif true then ByteArray.toList (bs (Book.text b))==ByteArray.toList (bs (Book.text b)) else false) true=true)∧(eqB (bif bif true then ByteArray.toList (bs (Book.text b))==ByteArray.toList (bs (Book.text b)) else false then true else false) true=true→eqB (bif bif true then ByteArray.toList (bs (Book.text b))==ByteArray.toList (bs (Book.text b)) else false then true else false) true=true)∧(eqB (bif bif true then ByteArray.toList (bs (Book.text b))==ByteArray.toList (bs (Book.text b)) else false then true else false) true=true→eqB (bif bif true then ByteArray.toList (bs (Book.text b))==ByteArray.toList (bs (Book.text b)) else false then true else false) true=true)∧(eqB (bif bif true then ByteArray.toList (bs (Book.text b))==ByteArray.toList (bs (Book.text b)) else false then true else false) true=true→Computes Tryz.prog Gl 72 [tBook b,tBook b] (Res.ret (B true)))∧((bif bif true then ByteArray.toList (bs (Book.text b))==ByteArray.toList (bs (Book.text b)) else false then true else false)=true→eqB (bif bif true then ByteArray.toList (bs (Book.text b))==ByteArray.toList (bs (Book.text b)) else false then true else false) true=true)∧(eqB (bif bif bif true then ByteArray.toList (bs (Book.text b))==ByteArray.toList (bs (Book.text b)) else false then true else false then true else false) true=true→Computes Tryz.prog Gl 22 [] (Res.ret (B true)))∧((bif bif bif true then ByteArray.toList (bs (Book.text b))==ByteArray.toList (bs (Book.text b)) else false then true else false then true else false)=true→eqB (bif bif bif true then ByteArray.toList (bs (Book.text b))==ByteArray.toList (bs (Book.text b)) else false then true else false then true else false) true=true)∧(bif bif bif bif true then ByteArray.toList (bs (Book.text b))==ByteArray.toList (bs (Book.text b)) else false then true else false then true else false then true else false)=true)) (by kernel_rfl) ?_
  simp only [stdS, imp_self, implies_true, and_true, beq_self_eq_true]
  repeat' first | with_reducible apply And.intro | with_reducible intro _
  all_goals first
    | contradiction
    | exact known22 S hG
    | exact short26 S b
    | exact print69 S b hb (ok_low hb)
    | exact bookV S b hb
    | exact readT S hG b hb
    | exact print71 S b (ok_low hb)
    | exact sameB_T S b
    | exact trivial
    | rfl
    | simp
theorem law18 (S : Set Tryz.prog Y Gl) (b : Book) (hG : GlOK Gl) : Computes Tryz.prog Gl 18 [tBook b] (.ret (B true)) := by
  cases hb : b.ok with
  | false => exact law18a S b hG hb
  | true => exact law18b S b hG hb
end Go.Vc.Gd
