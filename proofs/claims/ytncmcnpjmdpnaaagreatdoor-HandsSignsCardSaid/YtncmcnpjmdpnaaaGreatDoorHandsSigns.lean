/- HandsSigns: for every input the law returns true, and each argument reads afterwards as it read before; given that the listed tables of the library hold what the program lays (the card ties them to its text). -/
import Derived.Test.YtncmcnpjmdpnaaaGreatDoorOF
set_option linter.all false
set_option linter.unusedSimpArgs false
set_option linter.unusedVariables false
set_option maxRecDepth 100000
namespace Go.Proofs.YtncmcnpjmdpnaaaGreatDoor.handsSigns
open Go Go.Proofs Go.Vc Go.Vc.Hn Go.Proofs.YtncmcnpjmdpnaaaGreatDoor Go.ChangeShapes Go.WideShapes Go.ChangeAt Go.RowKit Go.Deep
theorem laid_met (os:Os):laidMet Tryz.prog Rows.handsSignsRow.laid ((laidWorld os).forCall (fun _ _=>0) ⟨#[],#[argS,.slice none 0 0,.int .i64 0],[]⟩).memory:=
 laidMet_of_run' 8 (by kernel_rfl) (by kernel_rfl)
theorem reads (os:Os) {H:Type} (enc:TypeId×Value->H):∃ places,DataW.whole enc Tryz.prog ((laidWorld os).forCall (fun _ _=>0) ⟨#[],#[argS,.slice none 0 0,.int .i64 0],[]⟩).memory Tryz.f15.params.toList Rows.handsSignsSpec.vars false (#[argS,.slice none 0 0,.int .i64 0]:Array Value).toList 8=some ([.agg [.nil,.nil],.nil,.lit (.int .i64 0)],[],places):=
 ⟨[],by kernel_rfl⟩
theorem lifted (os:Os) (started:os.Started) (H:Type) (enc:TypeId×Value->H) (F:Stop.Interp):
  ReturnsInHanded {} Tryz.checked os 15 .any ((OpenSpec.ofChange Rows.handsSignsSpec).preRow enc Tryz.prog Tryz.f15 Rows.handsSignsRow.domain false Rows.handsSignsRow.laid) (((OpenSpec.ofChange Rows.handsSignsSpec).at F).post enc Tryz.prog Tryz.f15 false true false false):=by
 obtain ⟨places,hx⟩:=reads os enc
 refine returnsInHanded_of_row (C:=Tryz.checked) (s:=OpenSpec.ofChange Rows.handsSignsSpec) own started (by kernel_rfl) Tryz.func15
  (witness_row_at (enc:=enc) (C:=Tryz.checked) false (laidWorld os) #[argS,.slice none 0 0,.int .i64 0] rfl (by kernel_rfl) (by kernel_rfl) (by kernel_rfl)
   (OpenSpec.preRow_of_cond 8 hx (by kernel_rfl) (fun k hk=>by cases hk) (by kernel_rfl) (laid_met os))) ?_
 intro W base args ds gs before hval hW _ _ _ hlaid hsh _
 have hW':=hW
 obtain ⟨p,q,hA0,_,_,_,_⟩:=hW'
 have hA:DataW.TrodAll enc Tryz.prog W 0 (fun _=>true) true Tryz.f15.params.toList args.toList ds p:=hA0
 rw [Tryz.params15] at hA
 obtain ⟨v0,vs0,_,_,_,_,hargs,_,_,_,r0⟩:=trodAll_cons hA
 obtain ⟨v1,vs1,_,_,_,_,rfl,_,_,_,r1⟩:=trodAll_cons r0
 obtain ⟨v2,vs2,_,_,_,_,rfl,_,_,_,r2⟩:=trodAll_cons r1
 obtain ⟨rfl,_,_⟩:=trodAll_nil r2
 obtain rfl:args=#[v0,v1,v2]:=by cases args;simp_all
 refine contract (tb:=4) Tryz.underlying4 (by kernel_rfl) rfl (fun ds h=>?_) hW (by rw [Tryz.params15]) (.cons (argSheet (hval 0 42 v0 rfl rfl)) (.cons (argL (hval 1 22 v1 rfl rfl)) (.cons (argInt (hval 2 3 v2 rfl rfl)) .nil))) ?_ (glW hsh hlaid)
 ·rw [Tryz.params15] at h
  match ds,h with
  | [d0,d1,d2],_=>rfl
 ·rintro xs ⟨_,_,⟨x0,rfl⟩,⟨_,_,⟨x1,rfl⟩,⟨_,_,⟨x2,_,rfl⟩,rfl,rfl⟩,rfl⟩,rfl⟩
  exact law15 setW glOK x0 x1 x2
theorem k10:(Rows.handsSignsRow.inPlace==Tryz.prog.inPlace 15)=true:=by kernel_rfl
theorem k11:(Rows.handsSignsRow.unfollowed==Tryz.prog.unfollowed 15)=true:=by kernel_rfl
theorem k12:(Rows.handsSignsRow.recurses==Tryz.prog.recurses 15)=true:=by kernel_rfl
theorem k13:(Rows.handsSignsRow.named==Tryz.prog.varsNamed 15)=true:=by kernel_rfl
theorem closed:joinedFacts Tryz.pinned.checked.prog 15 Tryz.f15 (OpenSpec.ofChange Rows.handsSignsSpec).bare Rows.handsSignsRow=true:=by
 show joinedFacts Tryz.prog 15 Tryz.f15 Rows.handsSignsSpec Rows.handsSignsRow=true
 unfold joinedFacts
 simp only [Bool.and_eq_true]
 refine ⟨⟨⟨⟨⟨⟨⟨⟨⟨⟨⟨⟨⟨⟨⟨⟨⟨⟨⟨⟨⟨⟨⟨⟨⟨⟨⟨⟨⟨⟨⟨?_,?_⟩,?_⟩,?_⟩,?_⟩,?_⟩,?_⟩,?_⟩,?_⟩,?_⟩,?_⟩,?_⟩,?_⟩,?_⟩,?_⟩,?_⟩,?_⟩,?_⟩,?_⟩,?_⟩,?_⟩,?_⟩,?_⟩,?_⟩,?_⟩,?_⟩,?_⟩,?_⟩,?_⟩,?_⟩,?_⟩,?_⟩
 ·kernel_rfl
 ·exact laidOut
 ·kernel_rfl
 ·kernel_rfl
 ·kernel_rfl
 ·kernel_rfl
 ·kernel_rfl
 ·kernel_rfl
 ·kernel_rfl
 ·exact k10
 ·exact k11
 ·exact k12
 ·exact k13
 ·kernel_rfl
 ·kernel_rfl
 ·kernel_rfl
 ·kernel_rfl
 ·kernel_rfl
 ·kernel_rfl
 ·kernel_rfl
 ·kernel_rfl
 ·kernel_rfl
 ·kernel_rfl
 ·kernel_rfl
 ·kernel_rfl
 ·exact enters
 ·rw [final];rfl
 ·rw [makes];rfl
 ·kernel_rfl
 ·kernel_rfl
 ·kernel_rfl
 ·kernel_rfl
theorem said:Rows.HandsSignsSaid:=
 OpenClaim.holds_of_cond 15 Tryz.f15 rfl rfl rfl rfl rfl rfl rfl ⟨rfl,rfl,rfl,rfl,rfl⟩ rfl rfl rfl rfl rfl (by kernel_rfl) Tryz.func15 closed
  (of_decide_eq_true (by kernel_rfl)) (by unfold Func.isWrapper;first|(rw [if_pos (by decide +kernel)];kernel_rfl)|(rw [if_neg (by decide +kernel)];exact ⟨rfl,rfl⟩))
  (fun os started H enc _ F=>by rw [OpenClaim.pre_eq_preRow];exact lifted os started H enc F)
theorem plain (f:FuncId) (fn:Func) (hf:Tryz.pinned.checked.prog.funcNamed Rows.handsSignsRow.func=some f) (hfn:Tryz.pinned.checked.prog.funcs[f]?=some fn):
  true=Tryz.pinned.checked.prog.looks []/\∀ (j:Nat) t,fn.params[j]?=some t->Tryz.pinned.checked.prog.wantsStandIn t=false:=by
 obtain rfl:f=15:=Option.some.inj ((show Tryz.prog.funcNamed Rows.handsSignsRow.func=some 15 by kernel_rfl).symm.trans hf) |>.symm
 obtain rfl:fn=Tryz.f15:=(Option.some.inj (Tryz.func15.symm.trans hfn)).symm
 refine ⟨looks.symm,fun j t ht=>?_⟩
 rw [Tryz.params15] at ht
 have hm:=Array.mem_of_getElem? ht
 simp only [List.mem_toArray,List.mem_cons,List.not_mem_nil,or_false] at hm
 rcases hm with rfl|rfl|rfl
 ·exact (show Tryz.prog.wantsStandIn 42=false by kernel_rfl)
 ·exact (show Tryz.prog.wantsStandIn 22=false by kernel_rfl)
 ·exact (show Tryz.prog.wantsStandIn 3=false by kernel_rfl)
theorem card:Rows.HandsSignsCardSaid:=
 Claim7.holds_tied_plain_at .later [] _ _ _ _ said (fun _ h=>by cases h) (by kernel_rfl) (fun _ h=>by cases h) handsSigns_row_tie rfl ⟨rfl,rfl⟩ mainIs rfl plain (by kernel_rfl)
end Go.Proofs.YtncmcnpjmdpnaaaGreatDoor.handsSigns
#print axioms Go.Proofs.YtncmcnpjmdpnaaaGreatDoor.handsSigns.card
