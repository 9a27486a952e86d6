/- TopMonth: for every input the law returns true, and each argument reads afterwards as it read cc. No condition but that. -/
import Derived.Test.YtknoiciabjockaaGreatMF
set_option linter.all false
set_option maxRecDepth 100000
namespace Go.Proofs.YtknoiciabjockaaGreat.topMonth
open Go Go.Proofs Go.Vc Go.Vc.Zn Go.Vc.Zn.Rm Go.Proofs.YtknoiciabjockaaGreat Go.ChangeShapes Go.WideShapes Go.ChangeAt Go.RowKit Go.Deep
def Bhg (os:Os):laidMet Tryz.prog Rows.topMonthRow.laid ((Ahc os).forCall (λ_ _=>0) ⟨#[],#[.slice none 0 0,.slice none 0 0,.slice none 0 0],[]⟩).memory:=
 laidMet_of_run' 8 (by kernel_rfl) (by kernel_rfl)
def reads (os:Os) {H:Type} (enc:TypeId×Value->H):∃oy,DataW.whole enc Tryz.prog ((Ahc os).forCall (λ_ _=>0) ⟨#[],#[.slice none 0 0,.slice none 0 0,.slice none 0 0],[]⟩).memory Tryz.f6.params.toList Rows.topMonthSpec.vars false (#[.slice none 0 0,.slice none 0 0,.slice none 0 0]:Array Value).toList 8=some ([.nil,.nil,.nil],[],oy):=
 ⟨[],by kernel_rfl⟩
def lifted (os:Os) (ia:os.Started) (H:Type) (enc:TypeId×Value->H) (F:Stop.Interp):
  ReturnsInHanded {} Tryz.checked os 6 .any ((OpenSpec.ofChange Rows.topMonthSpec).preRow enc Tryz.prog Tryz.f6 Rows.topMonthRow.domain false Rows.topMonthRow.laid) (((OpenSpec.ofChange Rows.topMonthSpec).at F).post enc Tryz.prog Tryz.f6 false true false false):=by
 obtain⟨oy,hx⟩:=reads os enc;refine returnsInHanded_of_row (C:=Tryz.checked) (s:=OpenSpec.ofChange Rows.topMonthSpec) own ia (by kernel_rfl) Tryz.func6
  (witness_row_at (enc:=enc) (C:=Tryz.checked) false (Ahc os) #[.slice none 0 0,.slice none 0 0,.slice none 0 0] rfl (by kernel_rfl) (by kernel_rfl) (by kernel_rfl)
   (OpenSpec.preRow_of_cond 8 hx (by kernel_rfl) (λk hk=>by cases hk) (by kernel_rfl) (Bhg os))) ?_
 intro W base args ds gs cc kz hW _ _ _ hlaid hsh _;have hW':=hW;obtain⟨p,q,hA0,_,_,_,_⟩:=hW';have hA:DataW.TrodAll enc Tryz.prog W 0 (λ_=>true) true Tryz.f6.params.toList args.toList ds p:=hA0;rw[Tryz.params6]at hA;obtain⟨v0,vs0,_,_,_,_,f7,_,_,_,r0⟩:=iL hA;obtain⟨v1,vs1,_,_,_,_,rfl,_,_,_,r1⟩:=iL r0;obtain⟨v2,vs2,_,_,_,_,rfl,_,_,_,r2⟩:=iL r1;obtain⟨rfl,_,_⟩:=trodAll_nil r2;obtain rfl:args=#[v0,v1,v2]:=by cases args;simp_all
 refine Axa (tb:=4) Tryz.underlying4 (by kernel_rfl) rfl (λds h=>?_) hW (by rw[Tryz.params6]) (.cons (argL (kz 0 22 v0 rfl rfl)) (.cons (argL (kz 1 22 v1 rfl rfl)) (.cons (Bhf (kz 2 89 v2 rfl rfl)) .nil))) ?_ (show GlW W from trivial)
 ·rw[Tryz.params6]at h
  match ds,h with
  | [d0,d1,d2],_=>rfl
 ·rintro xs ⟨_,_,⟨x0,rfl⟩,⟨_,_,⟨x1,rfl⟩,⟨_,_,⟨x2,rfl⟩,rfl,rfl⟩,rfl⟩,rfl⟩;exact law6 setW x0 x1 x2
def k10:(Rows.topMonthRow.inPlace==Tryz.prog.inPlace 6)=true:=by kernel_rfl
def k11:(Rows.topMonthRow.unfollowed==Tryz.prog.unfollowed 6)=true:=by kernel_rfl
def k12:(Rows.topMonthRow.recurses==Tryz.prog.recurses 6)=true:=by kernel_rfl
def k13:(Rows.topMonthRow.named==Tryz.prog.varsNamed 6)=true:=by kernel_rfl
def closed:joinedFacts Tryz.pinned.checked.prog 6 Tryz.f6 (OpenSpec.ofChange Rows.topMonthSpec).bare Rows.topMonthRow=true:=by
 show joinedFacts Tryz.prog 6 Tryz.f6 Rows.topMonthSpec Rows.topMonthRow=true
 unfold joinedFacts;simp only[aE];refine⟨⟨⟨⟨⟨⟨⟨⟨⟨⟨⟨⟨⟨⟨⟨⟨⟨⟨⟨⟨⟨⟨⟨⟨⟨⟨⟨⟨⟨⟨⟨?_,?_⟩,?_⟩,?_⟩,?_⟩,?_⟩,?_⟩,?_⟩,?_⟩,?_⟩,?_⟩,?_⟩,?_⟩,?_⟩,?_⟩,?_⟩,?_⟩,?_⟩,?_⟩,?_⟩,?_⟩,?_⟩,?_⟩,?_⟩,?_⟩,?_⟩,?_⟩,?_⟩,?_⟩,?_⟩,?_⟩,?_⟩
 ·kernel_rfl
 ·exact Ahb
 ·kernel_rfl
 ·kernel_rfl
 ·kernel_rfl
 ·kernel_rfl
 ·kernel_rfl
 ·kernel_rfl
 ·kernel_rfl
 ·exact k10
 ·exact k11
 ·exact k12
 ·exact k13
 ·kernel_rfl
 ·kernel_rfl
 ·kernel_rfl
 ·kernel_rfl
 ·kernel_rfl
 ·kernel_rfl
 ·kernel_rfl
 ·kernel_rfl
 ·kernel_rfl
 ·kernel_rfl
 ·kernel_rfl
 ·kernel_rfl
 ·exact Axh
 ·rw[final];rfl
 ·rw[makes];rfl
 ·kernel_rfl
 ·kernel_rfl
 ·kernel_rfl
 ·kernel_rfl
theorem said:Rows.TopMonthSaid:=
 OpenClaim.holds_of_cond 6 Tryz.f6 rfl rfl rfl rfl rfl rfl rfl ⟨rfl,rfl,rfl,rfl,rfl⟩ rfl rfl rfl rfl rfl (by kernel_rfl) Tryz.func6 closed
  (bY (by kernel_rfl)) (by unfold Func.isWrapper;first|(rw[bG (by decide +kernel)];kernel_rfl)|(rw[bI (by decide +kernel)];exact⟨rfl,rfl⟩))
  (λos ia H enc _ F=>by rw[OpenClaim.pre_eq_preRow];exact lifted os ia H enc F)
end Go.Proofs.YtknoiciabjockaaGreat.topMonth
#print axioms Go.Proofs.YtknoiciabjockaaGreat.topMonth.said
