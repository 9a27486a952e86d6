/- HandsMade: for every input the law returns true, and each argument reads afterwards as it read before; given that the listed tables of the library hold what the program lays (the card ties them to its text). -/
import Derived.Test.YtncmcnpjmdpnaaaGreatDoorQF
set_option linter.all false
set_option linter.unusedSimpArgs false
set_option linter.unusedVariables false
set_option maxRecDepth 100000
namespace Go.Proofs.YtncmcnpjmdpnaaaGreatDoor.handsMade
open Go Go.Proofs Go.Vc Go.Vc.Hn Go.Proofs.YtncmcnpjmdpnaaaGreatDoor Go.ChangeShapes Go.WideShapes Go.ChangeAt Go.RowKit Go.Deep
theorem laid_met (os:Os):laidMet Tryz.prog Rows.handsMadeRow.laid ((laidWorld os).forCall (fun _ _=>0) ⟨#[],#[.slice none 0 0,.slice none 0 0,.slice none 0 0],[]⟩).memory:=
 laidMet_of_run' 8 (by kernel_rfl) (by kernel_rfl)
theorem reads (os:Os) {H:Type} (enc:TypeId×Value->H):∃ places,DataW.whole enc Tryz.prog ((laidWorld os).forCall (fun _ _=>0) ⟨#[],#[.slice none 0 0,.slice none 0 0,.slice none 0 0],[]⟩).memory Tryz.f4.params.toList Rows.handsMadeSpec.vars false (#[.slice none 0 0,.slice none 0 0,.slice none 0 0]:Array Value).toList 8=some ([.nil,.nil,.nil],[],places):=
 ⟨[],by kernel_rfl⟩
theorem lifted (os:Os) (started:os.Started) (H:Type) (enc:TypeId×Value->H) (F:Stop.Interp):
  ReturnsInHanded {} Tryz.checked os 4 .any ((OpenSpec.ofChange Rows.handsMadeSpec).preRow enc Tryz.prog Tryz.f4 Rows.handsMadeRow.domain false Rows.handsMadeRow.laid) (((OpenSpec.ofChange Rows.handsMadeSpec).at F).post enc Tryz.prog Tryz.f4 false true false false):=by
 obtain ⟨places,hx⟩:=reads os enc
 refine returnsInHanded_of_row (C:=Tryz.checked) (s:=OpenSpec.ofChange Rows.handsMadeSpec) own started (by kernel_rfl) Tryz.func4
  (witness_row_at (enc:=enc) (C:=Tryz.checked) false (laidWorld os) #[.slice none 0 0,.slice none 0 0,.slice none 0 0] rfl (by kernel_rfl) (by kernel_rfl) (by kernel_rfl)
   (OpenSpec.preRow_of_cond 8 hx (by kernel_rfl) (fun k hk=>by cases hk) (by kernel_rfl) (laid_met os))) ?_
 intro W base args ds gs before hval hW _ _ _ hlaid hsh _
 have hW':=hW
 obtain ⟨p,q,hA0,_,_,_,_⟩:=hW'
 have hA:DataW.TrodAll enc Tryz.prog W 0 (fun _=>true) true Tryz.f4.params.toList args.toList ds p:=hA0
 rw [Tryz.params4] at hA
 obtain ⟨v0,vs0,_,_,_,_,hargs,_,_,_,r0⟩:=trodAll_cons hA
 obtain ⟨v1,vs1,_,_,_,_,rfl,_,_,_,r1⟩:=trodAll_cons r0
 obtain ⟨v2,vs2,_,_,_,_,rfl,_,_,_,r2⟩:=trodAll_cons r1
 obtain ⟨rfl,_,_⟩:=trodAll_nil r2
 obtain rfl:args=#[v0,v1,v2]:=by cases args;simp_all
 refine contract (tb:=4) Tryz.underlying4 (by kernel_rfl) rfl (fun ds h=>?_) hW (by rw [Tryz.params4]) (.cons (argL (hval 0 22 v0 rfl rfl)) (.cons (argL (hval 1 22 v1 rfl rfl)) (.cons (argBools (hval 2 33 v2 rfl rfl)) .nil))) ?_ (glW hsh hlaid)
 ·rw [Tryz.params4] at h
  match ds,h with
  | [d0,d1,d2],_=>rfl
 ·rintro xs ⟨_,_,⟨x0,rfl⟩,⟨_,_,⟨x1,rfl⟩,⟨_,_,⟨x2,rfl⟩,rfl,rfl⟩,rfl⟩,rfl⟩
  exact law4 setW glOK x0 x1 x2
theorem k10:(Rows.handsMadeRow.inPlace==Tryz.prog.inPlace 4)=true:=by kernel_rfl
theorem k11:(Rows.handsMadeRow.unfollowed==Tryz.prog.unfollowed 4)=true:=by kernel_rfl
theorem k12:(Rows.handsMadeRow.recurses==Tryz.prog.recurses 4)=true:=by kernel_rfl
theorem k13:(Rows.handsMadeRow.named==Tryz.prog.varsNamed 4)=true:=by kernel_rfl
theorem closed:joinedFacts Tryz.pinned.checked.prog 4 Tryz.f4 (OpenSpec.ofChange Rows.handsMadeSpec).bare Rows.handsMadeRow=true:=by
 show joinedFacts Tryz.prog 4 Tryz.f4 Rows.handsMadeSpec Rows.handsMadeRow=true
 unfold joinedFacts
 simp only [Bool.and_eq_true]
 refine ⟨⟨⟨⟨⟨⟨⟨⟨⟨⟨⟨⟨⟨⟨⟨⟨⟨⟨⟨⟨⟨⟨⟨⟨⟨⟨⟨⟨⟨⟨⟨?_,?_⟩,?_⟩,?_⟩,?_⟩,?_⟩,?_⟩,?_⟩,?_⟩,?_⟩,?_⟩,?_⟩,?_⟩,?_⟩,?_⟩,?_⟩,?_⟩,?_⟩,?_⟩,?_⟩,?_⟩,?_⟩,?_⟩,?_⟩,?_⟩,?_⟩,?_⟩,?_⟩,?_⟩,?_⟩,?_⟩,?_⟩
 ·kernel_rfl
 ·exact laidOut
 ·kernel_rfl
 ·kernel_rfl
 ·kernel_rfl
 ·kernel_rfl
 ·kernel_rfl
 ·kernel_rfl
 ·kernel_rfl
 ·exact k10
 ·exact k11
 ·exact k12
 ·exact k13
 ·kernel_rfl
 ·kernel_rfl
 ·kernel_rfl
 ·kernel_rfl
 ·kernel_rfl
 ·kernel_rfl
 ·kernel_rfl
 ·kernel_rfl
 ·kernel_rfl
 ·kernel_rfl
 ·kernel_rfl
 ·kernel_rfl
 ·exact enters
 ·rw [final];rfl
 ·rw [makes];rfl
 ·kernel_rfl
 ·kernel_rfl
 ·kernel_rfl
 ·kernel_rfl
theorem said:Rows.HandsMadeSaid:=
 OpenClaim.holds_of_cond 4 Tryz.f4 rfl rfl rfl rfl rfl rfl rfl ⟨rfl,rfl,rfl,rfl,rfl⟩ rfl rfl rfl rfl rfl (by kernel_rfl) Tryz.func4 closed
  (of_decide_eq_true (by kernel_rfl)) (by unfold Func.isWrapper;first|(rw [if_pos (by decide +kernel)];kernel_rfl)|(rw [if_neg (by decide +kernel)];exact ⟨rfl,rfl⟩))
  (fun os started H enc _ F=>by rw [OpenClaim.pre_eq_preRow];exact lifted os started H enc F)
theorem plain (f:FuncId) (fn:Func) (hf:Tryz.pinned.checked.prog.funcNamed Rows.handsMadeRow.func=some f) (hfn:Tryz.pinned.checked.prog.funcs[f]?=some fn):
  true=Tryz.pinned.checked.prog.looks []/\∀ (j:Nat) t,fn.params[j]?=some t->Tryz.pinned.checked.prog.wantsStandIn t=false:=by
 obtain rfl:f=4:=Option.some.inj ((show Tryz.prog.funcNamed Rows.handsMadeRow.func=some 4 by kernel_rfl).symm.trans hf) |>.symm
 obtain rfl:fn=Tryz.f4:=(Option.some.inj (Tryz.func4.symm.trans hfn)).symm
 refine ⟨looks.symm,fun j t ht=>?_⟩
 rw [Tryz.params4] at ht
 have hm:=Array.mem_of_getElem? ht
 simp only [List.mem_toArray,List.mem_cons,List.not_mem_nil,or_false] at hm
 rcases hm with rfl|rfl|rfl
 ·exact (show Tryz.prog.wantsStandIn 22=false by kernel_rfl)
 ·exact (show Tryz.prog.wantsStandIn 22=false by kernel_rfl)
 ·exact (show Tryz.prog.wantsStandIn 33=false by kernel_rfl)
theorem card:Rows.HandsMadeCardSaid:=
 Claim7.holds_tied_plain_at .later [] _ _ _ _ said (fun _ h=>by cases h) (by kernel_rfl) (fun _ h=>by cases h) handsMade_row_tie rfl ⟨rfl,rfl⟩ mainIs rfl plain (by kernel_rfl)
end Go.Proofs.YtncmcnpjmdpnaaaGreatDoor.handsMade
#print axioms Go.Proofs.YtncmcnpjmdpnaaaGreatDoor.handsMade.card
