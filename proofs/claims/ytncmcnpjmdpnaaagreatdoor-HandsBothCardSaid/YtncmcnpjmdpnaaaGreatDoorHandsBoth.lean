/- HandsBoth: for every input the law returns true, and each argument reads afterwards as it read before; given that the listed tables of the library hold what the program lays (the card ties them to its text). -/
import Derived.Test.YtncmcnpjmdpnaaaGreatDoorEF
set_option linter.all false
set_option linter.unusedSimpArgs false
set_option linter.unusedVariables false
set_option maxRecDepth 100000
namespace Go.Proofs.YtncmcnpjmdpnaaaGreatDoor.handsBoth
open Go Go.Proofs Go.Vc Go.Vc.Hn Go.Proofs.YtncmcnpjmdpnaaaGreatDoor Go.ChangeShapes Go.WideShapes Go.ChangeAt Go.RowKit Go.Deep
theorem laid_met (os:Os):laidMet Tryz.prog Rows.handsBothRow.laid ((laidWorld os).forCall (fun _ _=>0) ⟨#[],#[argS,.int .i64 0,.int .i64 0],[]⟩).memory:=
 laidMet_of_run' 8 (by kernel_rfl) (by kernel_rfl)
theorem reads (os:Os) {H:Type} (enc:TypeId×Value->H):∃ places,DataW.whole enc Tryz.prog ((laidWorld os).forCall (fun _ _=>0) ⟨#[],#[argS,.int .i64 0,.int .i64 0],[]⟩).memory Tryz.f11.params.toList Rows.handsBothSpec.vars false (#[argS,.int .i64 0,.int .i64 0]:Array Value).toList 8=some ([.agg [.nil,.nil],.lit (.int .i64 0),.lit (.int .i64 0)],[],places):=
 ⟨[],by kernel_rfl⟩
theorem lifted (os:Os) (started:os.Started) (H:Type) (enc:TypeId×Value->H) (F:Stop.Interp):
  ReturnsInHanded {} Tryz.checked os 11 .any ((OpenSpec.ofChange Rows.handsBothSpec).preRow enc Tryz.prog Tryz.f11 Rows.handsBothRow.domain false Rows.handsBothRow.laid) (((OpenSpec.ofChange Rows.handsBothSpec).at F).post enc Tryz.prog Tryz.f11 false true false false):=by
 obtain ⟨places,hx⟩:=reads os enc
 refine returnsInHanded_of_row (C:=Tryz.checked) (s:=OpenSpec.ofChange Rows.handsBothSpec) own started (by kernel_rfl) Tryz.func11
  (witness_row_at (enc:=enc) (C:=Tryz.checked) false (laidWorld os) #[argS,.int .i64 0,.int .i64 0] rfl (by kernel_rfl) (by kernel_rfl) (by kernel_rfl)
   (OpenSpec.preRow_of_cond 8 hx (by kernel_rfl) (fun k hk=>by cases hk) (by kernel_rfl) (laid_met os))) ?_
 intro W base args ds gs before hval hW _ _ _ hlaid hsh _
 have hW':=hW
 obtain ⟨p,q,hA0,_,_,_,_⟩:=hW'
 have hA:DataW.TrodAll enc Tryz.prog W 0 (fun _=>true) true Tryz.f11.params.toList args.toList ds p:=hA0
 rw [Tryz.params11] at hA
 obtain ⟨v0,vs0,_,_,_,_,hargs,_,_,_,r0⟩:=trodAll_cons hA
 obtain ⟨v1,vs1,_,_,_,_,rfl,_,_,_,r1⟩:=trodAll_cons r0
 obtain ⟨v2,vs2,_,_,_,_,rfl,_,_,_,r2⟩:=trodAll_cons r1
 obtain ⟨rfl,_,_⟩:=trodAll_nil r2
 obtain rfl:args=#[v0,v1,v2]:=by cases args;simp_all
 refine contract (tb:=4) Tryz.underlying4 (by kernel_rfl) rfl (fun ds h=>?_) hW (by rw [Tryz.params11]) (.cons (argSheet (hval 0 42 v0 rfl rfl)) (.cons (argInt (hval 1 3 v1 rfl rfl)) (.cons (argInt (hval 2 3 v2 rfl rfl)) .nil))) ?_ (glW hsh hlaid)
 ·rw [Tryz.params11] at h
  match ds,h with
  | [d0,d1,d2],_=>rfl
 ·rintro xs ⟨_,_,⟨x0,rfl⟩,⟨_,_,⟨x1,_,rfl⟩,⟨_,_,⟨x2,_,rfl⟩,rfl,rfl⟩,rfl⟩,rfl⟩
  exact law11 setW glOK x0 x1 x2
theorem k10:(Rows.handsBothRow.inPlace==Tryz.prog.inPlace 11)=true:=by kernel_rfl
theorem k11:(Rows.handsBothRow.unfollowed==Tryz.prog.unfollowed 11)=true:=by kernel_rfl
theorem k12:(Rows.handsBothRow.recurses==Tryz.prog.recurses 11)=true:=by kernel_rfl
theorem k13:(Rows.handsBothRow.named==Tryz.prog.varsNamed 11)=true:=by kernel_rfl
theorem closed:joinedFacts Tryz.pinned.checked.prog 11 Tryz.f11 (OpenSpec.ofChange Rows.handsBothSpec).bare Rows.handsBothRow=true:=by
 show joinedFacts Tryz.prog 11 Tryz.f11 Rows.handsBothSpec Rows.handsBothRow=true
 unfold joinedFacts
 simp only [Bool.and_eq_true]
 refine ⟨⟨⟨⟨⟨⟨⟨⟨⟨⟨⟨⟨⟨⟨⟨⟨⟨⟨⟨⟨⟨⟨⟨⟨⟨⟨⟨⟨⟨⟨⟨?_,?_⟩,?_⟩,?_⟩,?_⟩,?_⟩,?_⟩,?_⟩,?_⟩,?_⟩,?_⟩,?_⟩,?_⟩,?_⟩,?_⟩,?_⟩,?_⟩,?_⟩,?_⟩,?_⟩,?_⟩,?_⟩,?_⟩,?_⟩,?_⟩,?_⟩,?_⟩,?_⟩,?_⟩,?_⟩,?_⟩,?_⟩
 ·kernel_rfl
 ·exact laidOut
 ·kernel_rfl
 ·kernel_rfl
 ·kernel_rfl
 ·kernel_rfl
 ·kernel_rfl
 ·kernel_rfl
 ·kernel_rfl
 ·exact k10
 ·exact k11
 ·exact k12
 ·exact k13
 ·kernel_rfl
 ·kernel_rfl
 ·kernel_rfl
 ·kernel_rfl
 ·kernel_rfl
 ·kernel_rfl
 ·kernel_rfl
 ·kernel_rfl
 ·kernel_rfl
 ·kernel_rfl
 ·kernel_rfl
 ·kernel_rfl
 ·exact enters
 ·rw [final];rfl
 ·rw [makes];rfl
 ·kernel_rfl
 ·kernel_rfl
 ·kernel_rfl
 ·kernel_rfl
theorem said:Rows.HandsBothSaid:=
 OpenClaim.holds_of_cond 11 Tryz.f11 rfl rfl rfl rfl rfl rfl rfl ⟨rfl,rfl,rfl,rfl,rfl⟩ rfl rfl rfl rfl rfl (by kernel_rfl) Tryz.func11 closed
  (of_decide_eq_true (by kernel_rfl)) (by unfold Func.isWrapper;first|(rw [if_pos (by decide +kernel)];kernel_rfl)|(rw [if_neg (by decide +kernel)];exact ⟨rfl,rfl⟩))
  (fun os started H enc _ F=>by rw [OpenClaim.pre_eq_preRow];exact lifted os started H enc F)
theorem plain (f:FuncId) (fn:Func) (hf:Tryz.pinned.checked.prog.funcNamed Rows.handsBothRow.func=some f) (hfn:Tryz.pinned.checked.prog.funcs[f]?=some fn):
  true=Tryz.pinned.checked.prog.looks []/\∀ (j:Nat) t,fn.params[j]?=some t->Tryz.pinned.checked.prog.wantsStandIn t=false:=by
 obtain rfl:f=11:=Option.some.inj ((show Tryz.prog.funcNamed Rows.handsBothRow.func=some 11 by kernel_rfl).symm.trans hf) |>.symm
 obtain rfl:fn=Tryz.f11:=(Option.some.inj (Tryz.func11.symm.trans hfn)).symm
 refine ⟨looks.symm,fun j t ht=>?_⟩
 rw [Tryz.params11] at ht
 have hm:=Array.mem_of_getElem? ht
 simp only [List.mem_toArray,List.mem_cons,List.not_mem_nil,or_false] at hm
 rcases hm with rfl|rfl|rfl
 ·exact (show Tryz.prog.wantsStandIn 42=false by kernel_rfl)
 ·exact (show Tryz.prog.wantsStandIn 3=false by kernel_rfl)
 ·exact (show Tryz.prog.wantsStandIn 3=false by kernel_rfl)
theorem card:Rows.HandsBothCardSaid:=
 Claim7.holds_tied_plain_at .later [] _ _ _ _ said (fun _ h=>by cases h) (by kernel_rfl) (fun _ h=>by cases h) handsBoth_row_tie rfl ⟨rfl,rfl⟩ mainIs rfl plain (by kernel_rfl)
end Go.Proofs.YtncmcnpjmdpnaaaGreatDoor.handsBoth
#print axioms Go.Proofs.YtncmcnpjmdpnaaaGreatDoor.handsBoth.card
