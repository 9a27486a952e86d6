/- GiveReads: for every input the law returns true, and each argument reads afterwards as it read before; given that the five listed tables of the library hold what the program lays (the card ties them to its text). -/
import Derived.Test.YtnifdkjffcdhcaaGreatDoorHdH
set_option linter.all false
set_option linter.unusedSimpArgs false
set_option linter.unusedVariables false
set_option maxRecDepth 100000
namespace Go.Proofs.YtnifdkjffcdhcaaGreatDoor.giveReads
open Go Go.Proofs Go.Vc Go.Vc.Gd Go.Proofs.YtnifdkjffcdhcaaGreatDoor Go.ChangeShapes Go.WideShapes Go.ChangeAt Go.RowKit Go.Deep
theorem laid_met (os : Os) : laidMet Tryz.prog Rows.giveReadsRow.laid ((laidWorld os).forCall (fun _ _ => 0) ⟨#[], #[.string ⟨#[]⟩], []⟩).memory :=
 laidMet_of_run' 8 (by kernel_rfl) (by kernel_rfl)
theorem reads (os : Os) {H : Type} (enc : TypeId × Value → H) : ∃ places, DataW.whole enc Tryz.prog ((laidWorld os).forCall (fun _ _ => 0) ⟨#[], #[.string ⟨#[]⟩], []⟩).memory Tryz.f19.params.toList Rows.giveReadsSpec.vars false (#[.string ⟨#[]⟩] : Array Value).toList 8 = some ([.lit (.string [])], [], places) :=
 ⟨[], by kernel_rfl⟩
theorem lifted (os : Os) (started : os.Started) (H : Type) (enc : TypeId × Value → H) (F : Stop.Interp) :
  ReturnsInHanded {} Tryz.checked os 19 .any ((OpenSpec.ofChange Rows.giveReadsSpec).preRow enc Tryz.prog Tryz.f19 Rows.giveReadsRow.domain false Rows.giveReadsRow.laid) (((OpenSpec.ofChange Rows.giveReadsSpec).at F).post enc Tryz.prog Tryz.f19 false true false false) := by
 obtain ⟨places, hx⟩ := reads os enc
 refine returnsInHanded_of_row (C := Tryz.checked) (s := OpenSpec.ofChange Rows.giveReadsSpec) own started (by kernel_rfl) Tryz.func19
  (witness_row_at (enc := enc) (C := Tryz.checked) false (laidWorld os) #[.string ⟨#[]⟩] rfl (by kernel_rfl) (by kernel_rfl) (by kernel_rfl)
   (OpenSpec.preRow_of_cond 8 hx (by kernel_rfl) (fun k hk => by cases hk) (by kernel_rfl) (laid_met os))) ?_
 intro W base args ds gs before hval hW _ _ _ _ hsh _
 have hW' := hW
 obtain ⟨p, q, hA0, _, _, _, _⟩ := hW'
 have hA : DataW.TrodAll enc Tryz.prog W 0 (fun _ => true) true Tryz.f19.params.toList args.toList ds p := hA0
 rw [Tryz.params19] at hA
 obtain ⟨v0, vs0, _, _, _, _, hargs, _, _, _, r0⟩ := trodAll_cons hA
 obtain ⟨rfl, _, _⟩ := trodAll_nil r0
 obtain rfl : args = #[v0] := by cases args; simp_all
 refine contract (tb := 4) Tryz.underlying4 (by kernel_rfl) rfl (fun ds h => ?_) hW (by rw [Tryz.params19]) (.cons (argStr (hval 0 9 v0 rfl rfl)) .nil) ?_ (glW hsh)
 ·rw [Tryz.params19] at h
  match ds, h with
  | [d0], _ => rfl
 ·rintro xs ⟨_, _, ⟨x0, rfl⟩, rfl, rfl⟩
  exact law19B setW x0 (fun _ h => h)
theorem k10 : (Rows.giveReadsRow.inPlace == Tryz.prog.inPlace 19) = true := by kernel_rfl
theorem k11 : (Rows.giveReadsRow.unfollowed == Tryz.prog.unfollowed 19) = true := by kernel_rfl
theorem k12 : (Rows.giveReadsRow.recurses == Tryz.prog.recurses 19) = true := by kernel_rfl
theorem k13 : (Rows.giveReadsRow.named == Tryz.prog.varsNamed 19) = true := by kernel_rfl
theorem closed : joinedFacts Tryz.pinned.checked.prog 19 Tryz.f19 (OpenSpec.ofChange Rows.giveReadsSpec).bare Rows.giveReadsRow = true := by
 show joinedFacts Tryz.prog 19 Tryz.f19 Rows.giveReadsSpec Rows.giveReadsRow = true
 unfold joinedFacts
 simp only [Bool.and_eq_true]
 refine ⟨⟨⟨⟨⟨⟨⟨⟨⟨⟨⟨⟨⟨⟨⟨⟨⟨⟨⟨⟨⟨⟨⟨⟨⟨⟨⟨⟨⟨⟨⟨?_, ?_⟩, ?_⟩, ?_⟩, ?_⟩, ?_⟩, ?_⟩, ?_⟩, ?_⟩, ?_⟩, ?_⟩, ?_⟩, ?_⟩, ?_⟩, ?_⟩, ?_⟩, ?_⟩, ?_⟩, ?_⟩, ?_⟩, ?_⟩, ?_⟩, ?_⟩, ?_⟩, ?_⟩, ?_⟩, ?_⟩, ?_⟩, ?_⟩, ?_⟩, ?_⟩, ?_⟩
 ·kernel_rfl
 ·exact laidOut
 ·kernel_rfl
 ·kernel_rfl
 ·kernel_rfl
 ·kernel_rfl
 ·kernel_rfl
 ·kernel_rfl
 ·kernel_rfl
 ·exact k10
 ·exact k11
 ·exact k12
 ·exact k13
 ·kernel_rfl
 ·kernel_rfl
 ·kernel_rfl
 ·kernel_rfl
 ·kernel_rfl
 ·kernel_rfl
 ·kernel_rfl
 ·kernel_rfl
 ·kernel_rfl
 ·kernel_rfl
 ·kernel_rfl
 ·kernel_rfl
 ·exact enters
 ·rw [final]; rfl
 ·rw [makes]; rfl
 ·kernel_rfl
 ·kernel_rfl
 ·kernel_rfl
 ·kernel_rfl
theorem said : Rows.GiveReadsSaid :=
 OpenClaim.holds_of_cond 19 Tryz.f19 rfl rfl rfl rfl rfl rfl rfl ⟨rfl, rfl, rfl, rfl, rfl⟩ rfl rfl rfl rfl rfl (by kernel_rfl) Tryz.func19 closed
  (of_decide_eq_true (by kernel_rfl)) (by unfold Func.isWrapper; first | (rw [if_pos (by decide +kernel)]; kernel_rfl) | (rw [if_neg (by decide +kernel)]; exact ⟨rfl, rfl⟩))
  (fun os started H enc _ F => by rw [OpenClaim.pre_eq_preRow]; exact lifted os started H enc F)
theorem plain (f : FuncId) (fn : Func) (hf : Tryz.pinned.checked.prog.funcNamed Rows.giveReadsRow.func = some f) (hfn : Tryz.pinned.checked.prog.funcs[f]? = some fn) :
  true = Tryz.pinned.checked.prog.looks [] ∧ ∀ (j : Nat) t, fn.params[j]? = some t → Tryz.pinned.checked.prog.wantsStandIn t = false := by
 obtain rfl : f = 19 := Option.some.inj ((show Tryz.prog.funcNamed Rows.giveReadsRow.func = some 19 by kernel_rfl).symm.trans hf) |>.symm
 obtain rfl : fn = Tryz.f19 := (Option.some.inj (Tryz.func19.symm.trans hfn)).symm
 refine ⟨looks.symm, fun j t ht => ?_⟩
 rw [Tryz.params19] at ht
 have hm := Array.mem_of_getElem? ht
 simp only [List.mem_toArray, List.mem_cons, List.not_mem_nil, or_false] at hm
 rcases hm with rfl
 ·exact (show Tryz.prog.wantsStandIn 9 = false by kernel_rfl)
theorem card : Rows.GiveReadsCardSaid :=
 Claim7.holds_tied_plain_at .later [] _ _ _ _ said (fun _ h => by cases h) (by kernel_rfl) (fun _ h => by cases h) giveReads_row_tie rfl ⟨rfl, rfl⟩ mainIs rfl plain (by kernel_rfl)
end Go.Proofs.YtnifdkjffcdhcaaGreatDoor.giveReads
#print axioms Go.Proofs.YtnifdkjffcdhcaaGreatDoor.giveReads.card
