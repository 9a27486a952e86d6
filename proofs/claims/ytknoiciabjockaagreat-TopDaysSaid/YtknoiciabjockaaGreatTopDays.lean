/- TopDays: for every input the law returns true, and each argument reads afterwards as it read before. No condition but that. -/
import Derived.Test.YtknoiciabjockaaGreatCF
set_option linter.all false
set_option linter.unusedSimpArgs false
set_option linter.unusedVariables false
set_option maxRecDepth 100000
namespace Go.Proofs.YtknoiciabjockaaGreat.topDays
open Go Go.Proofs Go.Vc Go.Vc.Zn Go.Vc.Zn.Rm Go.Proofs.YtknoiciabjockaaGreat Go.ChangeShapes Go.WideShapes Go.ChangeAt Go.RowKit Go.Deep
theorem Ax4 (os:Os):laidMet Tryz.prog Rows.topDaysRow.laid ((Ad3 os).forCall (fun _ _=>0) ⟨#[],#[.agg #[.int .i64 0,.int .i64 0],.agg #[.int .i64 0,.int .i64 0],.int .i64 0],[]⟩).memory:=
 laidMet_of_run' 8 (by kernel_rfl) (by kernel_rfl)
theorem reads (os:Os) {H:Type} (enc:TypeId×Value->H):∃ places,DataW.whole enc Tryz.prog ((Ad3 os).forCall (fun _ _=>0) ⟨#[],#[.agg #[.int .i64 0,.int .i64 0],.agg #[.int .i64 0,.int .i64 0],.int .i64 0],[]⟩).memory Tryz.f5.params.toList Rows.topDaysSpec.vars false (#[.agg #[.int .i64 0,.int .i64 0],.agg #[.int .i64 0,.int .i64 0],.int .i64 0]:Array Value).toList 8=some ([.agg [.lit (.int .i64 0),.lit (.int .i64 0)],.agg [.lit (.int .i64 0),.lit (.int .i64 0)],.lit (.int .i64 0)],[],places):=
 ⟨[],by kernel_rfl⟩
theorem lifted (os:Os) (started:os.Started) (H:Type) (enc:TypeId×Value->H) (F:Stop.Interp):
  ReturnsInHanded {} Tryz.checked os 5 .any ((OpenSpec.ofChange Rows.topDaysSpec).preRow enc Tryz.prog Tryz.f5 Rows.topDaysRow.domain false Rows.topDaysRow.laid) (((OpenSpec.ofChange Rows.topDaysSpec).at F).post enc Tryz.prog Tryz.f5 false true false false):=by
 obtain ⟨places,hx⟩:=reads os enc
 refine returnsInHanded_of_row (C:=Tryz.checked) (s:=OpenSpec.ofChange Rows.topDaysSpec) own started (by kernel_rfl) Tryz.func5
  (witness_row_at (enc:=enc) (C:=Tryz.checked) false (Ad3 os) #[.agg #[.int .i64 0,.int .i64 0],.agg #[.int .i64 0,.int .i64 0],.int .i64 0] rfl (by kernel_rfl) (by kernel_rfl) (by kernel_rfl)
   (OpenSpec.preRow_of_cond 8 hx (by kernel_rfl) (fun k hk=>by cases hk) (by kernel_rfl) (Ax4 os))) ?_
 intro W base args ds gs before hval hW _ _ _ hlaid hsh _
 have hW':=hW
 obtain ⟨p,q,hA0,_,_,_,_⟩:=hW'
 have hA:DataW.TrodAll enc Tryz.prog W 0 (fun _=>true) true Tryz.f5.params.toList args.toList ds p:=hA0
 rw [Tryz.params5] at hA
 obtain ⟨v0,vs0,_,_,_,_,hargs,_,_,_,r0⟩:=trodAll_cons hA
 obtain ⟨v1,vs1,_,_,_,_,rfl,_,_,_,r1⟩:=trodAll_cons r0
 obtain ⟨v2,vs2,_,_,_,_,rfl,_,_,_,r2⟩:=trodAll_cons r1
 obtain ⟨rfl,_,_⟩:=trodAll_nil r2
 obtain rfl:args=#[v0,v1,v2]:=by cases args;simp_all
 refine Aq9 (tb:=4) Tryz.underlying4 (by kernel_rfl) rfl (fun ds h=>?_) hW (by rw [Tryz.params5]) (.cons (Alh (hval 0 28 v0 rfl rfl)) (.cons (Alh (hval 1 28 v1 rfl rfl)) (.cons (Aqc (hval 2 3 v2 rfl rfl)) .nil))) ?_ (show GlW W from trivial)
 ·rw [Tryz.params5] at h
  match ds,h with
  | [d0,d1,d2],_=>rfl
 ·rintro xs ⟨_,_,⟨x0,rfl⟩,⟨_,_,⟨x1,rfl⟩,⟨_,_,⟨x2,_,rfl⟩,rfl,rfl⟩,rfl⟩,rfl⟩
  exact law5 setW x0 x1 x2
theorem k10:(Rows.topDaysRow.inPlace==Tryz.prog.inPlace 5)=true:=by kernel_rfl
theorem k11:(Rows.topDaysRow.unfollowed==Tryz.prog.unfollowed 5)=true:=by kernel_rfl
theorem k12:(Rows.topDaysRow.recurses==Tryz.prog.recurses 5)=true:=by kernel_rfl
theorem k13:(Rows.topDaysRow.named==Tryz.prog.varsNamed 5)=true:=by kernel_rfl
theorem closed:joinedFacts Tryz.pinned.checked.prog 5 Tryz.f5 (OpenSpec.ofChange Rows.topDaysSpec).bare Rows.topDaysRow=true:=by
 show joinedFacts Tryz.prog 5 Tryz.f5 Rows.topDaysSpec Rows.topDaysRow=true
 unfold joinedFacts
 simp only [Bool.and_eq_true]
 refine ⟨⟨⟨⟨⟨⟨⟨⟨⟨⟨⟨⟨⟨⟨⟨⟨⟨⟨⟨⟨⟨⟨⟨⟨⟨⟨⟨⟨⟨⟨⟨?_,?_⟩,?_⟩,?_⟩,?_⟩,?_⟩,?_⟩,?_⟩,?_⟩,?_⟩,?_⟩,?_⟩,?_⟩,?_⟩,?_⟩,?_⟩,?_⟩,?_⟩,?_⟩,?_⟩,?_⟩,?_⟩,?_⟩,?_⟩,?_⟩,?_⟩,?_⟩,?_⟩,?_⟩,?_⟩,?_⟩,?_⟩
 ·kernel_rfl
 ·exact Aqa
 ·kernel_rfl
 ·kernel_rfl
 ·kernel_rfl
 ·kernel_rfl
 ·kernel_rfl
 ·kernel_rfl
 ·kernel_rfl
 ·exact k10
 ·exact k11
 ·exact k12
 ·exact k13
 ·kernel_rfl
 ·kernel_rfl
 ·kernel_rfl
 ·kernel_rfl
 ·kernel_rfl
 ·kernel_rfl
 ·kernel_rfl
 ·kernel_rfl
 ·kernel_rfl
 ·kernel_rfl
 ·kernel_rfl
 ·kernel_rfl
 ·exact Aqf
 ·rw [final];rfl
 ·rw [makes];rfl
 ·kernel_rfl
 ·kernel_rfl
 ·kernel_rfl
 ·kernel_rfl
theorem said:Rows.TopDaysSaid:=
 OpenClaim.holds_of_cond 5 Tryz.f5 rfl rfl rfl rfl rfl rfl rfl ⟨rfl,rfl,rfl,rfl,rfl⟩ rfl rfl rfl rfl rfl (by kernel_rfl) Tryz.func5 closed
  (of_decide_eq_true (by kernel_rfl)) (by unfold Func.isWrapper;first|(rw [if_pos (by decide +kernel)];kernel_rfl)|(rw [if_neg (by decide +kernel)];exact ⟨rfl,rfl⟩))
  (fun os started H enc _ F=>by rw [OpenClaim.pre_eq_preRow];exact lifted os started H enc F)
end Go.Proofs.YtknoiciabjockaaGreat.topDays
#print axioms Go.Proofs.YtknoiciabjockaaGreat.topDays.said
