/- HandsSpoilt: for every input the law returns true, and each argument reads afterwards as it read before; given that the listed tables of the library hold what the program lays (the card ties them to its text). -/
import Derived.Test.YtncmcnpjmdpnaaaGreatDoorPF
set_option linter.all false
set_option linter.unusedSimpArgs false
set_option linter.unusedVariables false
set_option maxRecDepth 100000
namespace Go.Proofs.YtncmcnpjmdpnaaaGreatDoor.handsSpoilt
open Go Go.Proofs Go.Vc Go.Vc.Hn Go.Proofs.YtncmcnpjmdpnaaaGreatDoor Go.ChangeShapes Go.WideShapes Go.ChangeAt Go.RowKit Go.Deep
theorem Dh7 (os:Os):laidMet Tryz.prog Rows.handsSpoiltRow.laid ((Bo os).forCall (fun _ _=>0) ⟨#[],#[argS,.int .i64 0,.int .i64 0],[]⟩).memory:=
 laidMet_of_run' 8 (by kernel_rfl) (by kernel_rfl)
theorem reads (os:Os) {H:Type} (enc:TypeId×Value->H):∃ places,DataW.whole enc Tryz.prog ((Bo os).forCall (fun _ _=>0) ⟨#[],#[argS,.int .i64 0,.int .i64 0],[]⟩).memory Tryz.f19.params.toList Rows.handsSpoiltSpec.vars false (#[argS,.int .i64 0,.int .i64 0]:Array Value).toList 8=some ([.agg [.nil,.nil],.lit (.int .i64 0),.lit (.int .i64 0)],[],places):=
 ⟨[],by kernel_rfl⟩
theorem lifted (os:Os) (started:os.Started) (H:Type) (enc:TypeId×Value->H) (F:Stop.Interp):
  ReturnsInHanded {} Tryz.checked os 19 .any ((OpenSpec.ofChange Rows.handsSpoiltSpec).preRow enc Tryz.prog Tryz.f19 Rows.handsSpoiltRow.domain false Rows.handsSpoiltRow.laid) (((OpenSpec.ofChange Rows.handsSpoiltSpec).at F).post enc Tryz.prog Tryz.f19 false true false false):=by
 obtain ⟨places,hx⟩:=reads os enc
 refine returnsInHanded_of_row (C:=Tryz.checked) (s:=OpenSpec.ofChange Rows.handsSpoiltSpec) own started (by kernel_rfl) Tryz.func19
  (witness_row_at (enc:=enc) (C:=Tryz.checked) false (Bo os) #[argS,.int .i64 0,.int .i64 0] rfl (by kernel_rfl) (by kernel_rfl) (by kernel_rfl)
   (OpenSpec.preRow_of_cond 8 hx (by kernel_rfl) (fun k hk=>by cases hk) (by kernel_rfl) (Dh7 os))) ?_
 intro W base args ds gs before hval hW _ _ _ hlaid hsh _
 have hW':=hW
 obtain ⟨p,q,hA0,_,_,_,_⟩:=hW'
 have hA:DataW.TrodAll enc Tryz.prog W 0 (fun _=>true) true Tryz.f19.params.toList args.toList ds p:=hA0
 rw [Tryz.params19] at hA
 obtain ⟨v0,vs0,_,_,_,_,hargs,_,_,_,r0⟩:=trodAll_cons hA
 obtain ⟨v1,vs1,_,_,_,_,rfl,_,_,_,r1⟩:=trodAll_cons r0
 obtain ⟨v2,vs2,_,_,_,_,rfl,_,_,_,r2⟩:=trodAll_cons r1
 obtain ⟨rfl,_,_⟩:=trodAll_nil r2
 obtain rfl:args=#[v0,v1,v2]:=by cases args;simp_all
 refine Dj4 (tb:=4) Tryz.underlying4 (by kernel_rfl) rfl (fun ds h=>?_) hW (by rw [Tryz.params19]) (.cons (Dl5 (hval 0 42 v0 rfl rfl)) (.cons (Dp8 (hval 1 3 v1 rfl rfl)) (.cons (Dp8 (hval 2 3 v2 rfl rfl)) .nil))) ?_ (glW hsh hlaid)
 ·rw [Tryz.params19] at h
  match ds,h with
  | [d0,d1,d2],_=>rfl
 ·rintro xs ⟨_,_,⟨x0,rfl⟩,⟨_,_,⟨x1,_,rfl⟩,⟨_,_,⟨x2,_,rfl⟩,rfl,rfl⟩,rfl⟩,rfl⟩
  exact law19 setW glOK x0 x1 x2
theorem k10:(Rows.handsSpoiltRow.inPlace==Tryz.prog.inPlace 19)=true:=by kernel_rfl
theorem k11:(Rows.handsSpoiltRow.unfollowed==Tryz.prog.unfollowed 19)=true:=by kernel_rfl
theorem k12:(Rows.handsSpoiltRow.recurses==Tryz.prog.recurses 19)=true:=by kernel_rfl
theorem k13:(Rows.handsSpoiltRow.named==Tryz.prog.varsNamed 19)=true:=by kernel_rfl
theorem closed:joinedFacts Tryz.pinned.checked.prog 19 Tryz.f19 (OpenSpec.ofChange Rows.handsSpoiltSpec).bare Rows.handsSpoiltRow=true:=by
 show joinedFacts Tryz.prog 19 Tryz.f19 Rows.handsSpoiltSpec Rows.handsSpoiltRow=true
 unfold joinedFacts
 simp only [Bool.and_eq_true]
 refine ⟨⟨⟨⟨⟨⟨⟨⟨⟨⟨⟨⟨⟨⟨⟨⟨⟨⟨⟨⟨⟨⟨⟨⟨⟨⟨⟨⟨⟨⟨⟨?_,?_⟩,?_⟩,?_⟩,?_⟩,?_⟩,?_⟩,?_⟩,?_⟩,?_⟩,?_⟩,?_⟩,?_⟩,?_⟩,?_⟩,?_⟩,?_⟩,?_⟩,?_⟩,?_⟩,?_⟩,?_⟩,?_⟩,?_⟩,?_⟩,?_⟩,?_⟩,?_⟩,?_⟩,?_⟩,?_⟩,?_⟩
 ·kernel_rfl
 ·exact C47
 ·kernel_rfl
 ·kernel_rfl
 ·kernel_rfl
 ·kernel_rfl
 ·kernel_rfl
 ·kernel_rfl
 ·kernel_rfl
 ·exact k10
 ·exact k11
 ·exact k12
 ·exact k13
 ·kernel_rfl
 ·kernel_rfl
 ·kernel_rfl
 ·kernel_rfl
 ·kernel_rfl
 ·kernel_rfl
 ·kernel_rfl
 ·kernel_rfl
 ·kernel_rfl
 ·kernel_rfl
 ·kernel_rfl
 ·kernel_rfl
 ·exact enters
 ·rw [final];rfl
 ·rw [makes];rfl
 ·kernel_rfl
 ·kernel_rfl
 ·kernel_rfl
 ·kernel_rfl
theorem said:Rows.HandsSpoiltSaid:=
 OpenClaim.holds_of_cond 19 Tryz.f19 rfl rfl rfl rfl rfl rfl rfl ⟨rfl,rfl,rfl,rfl,rfl⟩ rfl rfl rfl rfl rfl (by kernel_rfl) Tryz.func19 closed
  (of_decide_eq_true (by kernel_rfl)) (by unfold Func.isWrapper;first|(rw [if_pos (by decide +kernel)];kernel_rfl)|(rw [if_neg (by decide +kernel)];exact ⟨rfl,rfl⟩))
  (fun os started H enc _ F=>by rw [OpenClaim.pre_eq_preRow];exact lifted os started H enc F)
theorem plain (f:FuncId) (fn:Func) (hf:Tryz.pinned.checked.prog.funcNamed Rows.handsSpoiltRow.func=some f) (hfn:Tryz.pinned.checked.prog.funcs[f]?=some fn):
  true=Tryz.pinned.checked.prog.looks []/\∀ (j:Nat) t,fn.params[j]?=some t->Tryz.pinned.checked.prog.wantsStandIn t=false:=by
 obtain rfl:f=19:=Option.some.inj ((show Tryz.prog.funcNamed Rows.handsSpoiltRow.func=some 19 by kernel_rfl).symm.trans hf) |>.symm
 obtain rfl:fn=Tryz.f19:=(Option.some.inj (Tryz.func19.symm.trans hfn)).symm
 refine ⟨looks.symm,fun j t ht=>?_⟩
 rw [Tryz.params19] at ht
 have hm:=Array.mem_of_getElem? ht
 simp only [List.mem_toArray,List.mem_cons,List.not_mem_nil,or_false] at hm
 rcases hm with rfl|rfl|rfl
 ·exact (show Tryz.prog.wantsStandIn 42=false by kernel_rfl)
 ·exact (show Tryz.prog.wantsStandIn 3=false by kernel_rfl)
 ·exact (show Tryz.prog.wantsStandIn 3=false by kernel_rfl)
theorem card:Rows.HandsSpoiltCardSaid:=
 Claim7.holds_tied_plain_at .later [] _ _ _ _ said (fun _ h=>by cases h) (by kernel_rfl) (fun _ h=>by cases h) handsSpoilt_row_tie rfl ⟨rfl,rfl⟩ mainIs rfl plain (by kernel_rfl)
end Go.Proofs.YtncmcnpjmdpnaaaGreatDoor.handsSpoilt
#print axioms Go.Proofs.YtncmcnpjmdpnaaaGreatDoor.handsSpoilt.card
