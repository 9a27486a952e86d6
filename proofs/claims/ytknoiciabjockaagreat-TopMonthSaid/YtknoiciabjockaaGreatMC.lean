/- A part of the proofs over the layers: the program and the specification; no condition. -/
import Derived.Test.YtknoiciabjockaaGreatMB
import Derived.Scope
import Derived.RangeFuncIn
import Derived.RangeFuncRecord
import Derived.Tactics
import Derived.Defers
import Derived.Recover
import Derived.Sort.Grow
import Derived.KernelRfl
import Derived.Laws.StructEq
set_option linter.all false
namespace Go
abbrev bB:=@List.mem_range
abbrev cT:=@Array.mapM_eq_mapM_toList
abbrev cX:=@List.filter_cons_of_pos
abbrev dB:=@Go.callsIn_of_wp_marks
abbrev dE:=@Go.wpIn_mono
abbrev dP:=@List.drop_eq_getElem_cons
abbrev dY:=@List.filter_cons_of_neg
abbrev eK:=@Nat.sub_self
abbrev eP:=@List.not_mem_nil
abbrev eQ:=@Nat.lt_succ_self
abbrev eY:=@Go.Sem.run_pure
abbrev eZ:=@Go.wpIn_seq
abbrev fF:=@Nat.ble_eq_true_of_le
abbrev fQ:=@List.take_length
abbrev fR:=@Array.getElem?_replicate
abbrev fS:=@Go.wpIn_loop_ghost
abbrev gE:=@Nat.lt_trichotomy
abbrev gO:=@List.map_take
abbrev gP:=@List.map_drop
abbrev gQ:=@Go.Sem.run_map
abbrev gS:=@List.nodup_cons
abbrev iB:=@Go.wpIn_region
abbrev iG:=@Bool.false_or
end Go
namespace Go.Vc
open Go Go.RowKit
theorem Aly {t k:Nat}:∀{l:List (Nat×Nat)},Bz t k l=true↔(t,k)∈l
 | []=>by simp[Bz]
 |(a,b)::r=>by
  simp only[Bz,bW,aE,eL,aD,Aly (l:=r)];grind[Nat.eq_of_beq_eq_true,Nat.beq_refl]
theorem Abc:∀{l m:List (Nat×Nat)},Tf l m=false->∀p∈l,p ∉ m
 | [],_,_,_,h=>(by cases h)
 |(t,k)::r,m,h,p,hp=>by
  simp only[Tf,dW]at h;cases hp with
  |head=>grind[Aly]
  |tail _ hp=>exact Abc h.2 p hp
inductive Chain (ops:List Oper):Nat->Nat->Prop
 |one {j:Nat} {o:Oper} {e:Edge}:ops[j]?=some o->e∈o.after.toList->Region.binds .any e=true->Chain ops j e.on
 |more {j i:Nat} {o:Oper} {e:Edge}:ops[j]?=some o->e∈o.after.toList->Region.binds .any e=true->Chain ops e.on i->Chain ops j i
theorem Agj {i:Nat}:∀{l:List Nat},Ia i l=true↔i∈l
 | []=>by simp[Ia]
 |j::r=>by
  simp only[Ia,bW,eL,Agj (l:=r)];grind[Nat.eq_of_beq_eq_true,Nat.beq_refl]
def mem_addN {i j:Nat} {l:List Nat} (h:i∈addN j l):i=j∨i∈l:=by
 grind[addN]
theorem mem_addAll {i:Nat}:∀{a l:List Nat},i∈Af9 a l->i∈a∨i∈l
 | [],_,h=>.inr h
 |j::r,l,h=>by
  rcases mem_addN h with rfl|h
  ·grind
  ·exact (mem_addAll h).imp (aU _) id
theorem Agk {i:Nat} {acc:List (List Nat)}:∀{l:List Edge},i∈Tg acc l->∃e∈l,Region.binds .any e=true/\(i=e.on∨i∈acc.getD e.on [])
 | [],h=>by cases h
 |e::r,h=>by
  unfold Tg at h;cases hb:Region.binds .any e with
  |false=>
   rw[hb]at h;obtain⟨e',h1,h2⟩:=Agk (l:=r) h;grind
  |true=>
   rw[hb]at h;simp only[bA]at h;rcases mem_addN h with rfl|h
   ·grind
   ·rcases mem_addAll h with h|h
    ·grind
    ·obtain⟨e',h1,h2⟩:=Agk (l:=r) h;grind
theorem ancs_spec {ops:List Oper}:∀{os:List Oper} {acc:List (List Nat)},(∀j,os[j]?=ops[acc.length+j]?)->(∀m l,acc[m]?=some l->∀i∈l,Chain ops m i)->∀m l,(Id os acc)[m]?=some l->∀i∈l,Chain ops m i
 | [],_,_,h=>h
 |o::os,acc,hos,h=>by
  refine ancs_spec (os:=os) (acc:=acc++[Tg acc o.after.toList]) (λj=>?_) λm l hm i hi=>?_
  ·have:=hos (j+1);grind
  ·rw[fK]at hm;split at hm
   ·grind
   ·rename_i hlt;have ni:m - acc.length=0:=by grind
    have lm:m=acc.length:=by omega
    subst lm;simp only[eK,bR,aA]at hm;subst hm;have ho:ops[acc.length]?=some o:=by
     have:=hos 0;simpa using this.symm
    obtain⟨e,h1,h2,h3⟩:=Agk hi;rcases h3 with rfl|h3
    ·exact .one ho h1 h2
    ·rw[bU]at h3;cases hg:acc[e.on]? with
     |none=>grind
     |some l'=>
      rw[hg]at h3;exact .more ho h1 h2 (h e.on l' hg i h3)
theorem Agl:∀{os:List Oper} {acc:List (List Nat)},(Id os acc).length=acc.length+os.length
 | [],_=>rfl
 |o::os,acc=>by
  unfold Id;rw[Agl];grind
def Agm (x y:Ic):Prop:=(∀p∈x.2,p ∉ y.1)/\(∀p∈x.2,p ∉ y.2)/\(∀p∈y.2,p ∉ x.1)
theorem Alz {i:Nat} {x:Ic}:∀{os:List (List Nat)} {ys:List Ic},Aa5 i x os ys=true->∀(j:Nat) a y,os[j]?=some a->ys[j]?=some y->i∈a∨Agm x y
 | [],_,_,j,o,y,h,_=>by simp at h
 |_::_,[],_,j,o,y,_,h=>by simp at h
 |o'::os,y'::ys,h,j,o,y,ho,hy=>by
  simp only[Aa5,aE,bW,cL]at h;cases j with
  |zero=>
   simp only[bR,aA]at ho hy;subst ho;subst hy;exact h.1.imp Agj.1 λ⟨⟨h1,h2⟩,h3⟩=>⟨Abc h1,Abc h2,Abc h3⟩
  |succ j=>exact Alz h.2 j o y (by trivial) (by trivial)
theorem Am0:∀{os:List (List Nat)} {xs:List Ic} {n:Nat},Np n os xs=true->∀(i j:Nat) x a y,i<j->xs[i]?=some x->os[j]?=some a->xs[j]?=some y->n+i∈a∨Agm x y
 | [],_,_,_,i,j,x,o,y,_,_,h,_=>by simp at h
 |_::_,[],_,_,i,j,x,o,y,_,h,_,_=>by simp at h
 |o'::os,x'::xs,n,h,i,j,x,o,y,sn,hx,ho,hy=>by
  simp only[Np,aE]at h;cases j with
  |zero=>omega
  |succ j=>
   cases i with
   |zero=>
    grind[Alz]
   |succ i=>
    have:=Am0 h.2 i j x o y (by omega) (by trivial) (by trivial) (by trivial);grind
theorem Am1:∀{os:List Oper} {n:Nat},Nn n os=true->∀(i:Nat) o,os[i]?=some o->∀e∈o.after.toList,Region.binds .any e=true->e.on<n+i
 | [],_,_,i,o,h=>by simp at h
 |o'::os,n,h,i,o,ho=>by
  simp only[Nn,aE]at h;cases i with
  |zero=>
   simp only[bR,aA]at ho;subst ho;intro e he hb;have:=aS.1 h.1 e he;rw[hb]at this;simpa using this
  |succ i=>
   intro e he hb;have:=Am1 h.2 i o (by trivial) e he hb;omega
theorem Am2 {e:Env} {t k:Nat} (h:(t,k) ∉ Bf e) (e':Env):Env.get (e++e') t k=e'.get t k:=by
 induction e with
 |nil=>rfl
 |cons p e ih=>
  grind[Bf,Bb]
theorem Am3 {e:Env} {t k:Nat} (h:(t,k)∈Bf e) (e1 e2:Env):Env.get (e++e1) t k=Env.get (e++e2) t k:=by
 induction e with
 |nil=>cases h
 |cons p e ih=>
  grind[Am,Bf]
def sel (s:Nat->Bool):Nat->List Env->Env->Env
 |_,[],E=>E
 |i,wr::r,E=>sel s (i+1) r (bif s i then wr++E else E)
theorem Abd {s s':Nat->Bool} {t k:Nat}:∀(ew:List Env) (i:Nat) (E E':Env),(∀(j:Nat) wr,ew[j]?=some wr->(t,k)∈Bf wr->s (i+j)=s' (i+j))->E.get t k=E'.get t k->
  (sel s i ew E).get t k=(sel s' i ew E').get t k
 | [],_,_,_,_,h=>h
 |wr::r,i,E,E',l8,h=>by
  refine Abd r (i+1) _ _ (λj w hj hk=>?_) ?_
  ·have:=l8 (j+1) w (by trivial) hk;grind
  ·by_cases hk:(t,k)∈Bf wr
   ·have:=l8 0 wr rfl hk;grind[Am3]
   grind[Am2]
theorem Am4 {s:Nat->Bool} {t k:Nat}:∀(ew:List Env) (i j:Nat) (wr E E0:Env),ew[j]?=some wr->(t,k)∈Bf wr->s (i+j)=true->(∀m w,j<m->ew[m]?=some w->(t,k)∈Bf w->s (i+m)=false)->
  (sel s i ew E).get t k=Env.get (wr++E0) t k
 | [],_,_,_,_,_,h,_,_,_=>by simp at h
 |wr'::r,i,j,wr,E,E0,hj,hk,hs,dy=>by
  cases j with
  |zero=>
   simp only[bR,aA]at hj;subst hj;rw[eB]at hs;simp only[sel,hs,bA];have:=Abd (s:=s) (s':=λ_=>false) (t:=t) (k:=k) r (i+1) (wr'++E) (wr'++E) (λm w hm vh=>by
    have:=dy (m+1) w (by omega) (by trivial) vh;grind) rfl
   rw[this];have hf:∀(l:List Env) (q:Nat) (F:Env),sel (λ_=>false) q l F=F:=by
    intro l
    induction l with
    |nil=>intro q F;rfl
    |cons x l ih=>intro q F;exact ih _ _
   grind[Am3]
  |succ j=>
   refine Am4 r (i+1) j wr _ E0 (by trivial) hk (by grind) λm w hm hw vh=>?_;have:=dy (m+1) w (by omega) (by trivial) vh;grind
theorem Abe:∀(ew:List Env) (s s':Nat->Bool) (i:Nat) (E:Env),(∀j,j<ew.length->s (i+j)=s' (i+j))->sel s i ew E=sel s' i ew E
 | [],_,_,_,_,_=>rfl
 |wr::r,s,s',i,E,h=>by
  simp only[sel];have h0:=h 0 (by simp);rw[eB]at h0;rw[h0];refine Abe r s s' (i+1) _ λj hj=>?_;have:=h (j+1) (by simp;omega);grind
section
variable {P:Program} {Y:TypeId->Ty} {Gl:World->Prop} {X:Cx} {nt:Nat} {ds:List Deferred} {e e':Env} {a:Act} {w:World} {G:Gh} {Q:Exit->Act->World->Prop} {rd:Option Nat} {fu:Nat} {yd:Yd}
def Avw {Z:Prop} {ops:Array Oper} {i:Nat} (h:wpOpIn (Fr rd) fu P ops (λ_ _ _=>Z) i (λ_ _=>Z) a w):Z:=by
 have ac:∀n,(Fr rd).room n:=λn d hd=>by cases hd
 unfold wpOpIn at h;split at h
 ·exact h
 ·rename_i o ho;split at h
  ·obtain⟨_,h⟩:=h;unfold Oper.uponIn at h;split at h
   ·exact h
   ·exact h
   ·exact h
   ·obtain⟨en,w',fr,hR,_⟩:=h.2.2 [] (ac _);cases en with
    |returned v=>exact hR
    |panicked c=>exact hR
    |outgrown=>obtain⟨_,_,hx⟩:=hR;exact hx
   ·obtain⟨v,w',hR,_⟩:=h.2 default [] (ac _);exact hR
   ·obtain⟨en,w',hR,_⟩:=h.2.2 default [] (ac _);cases en with
    |returned v=>exact hR
    |panicked c=>exact hR
    |outgrown=>obtain⟨_,_,hx⟩:=hR;exact hx
   ·exact h
   trivial
  ·exact h.2
inductive Tr (P:Program) (Y:TypeId->Ty) (Gl:World->Prop) (nt:Nat) (yd:Yd) (ops:Array Oper):Env->Orc->List Oper->List (Env×Orc×(Option Bool×Done)×Ic×Env)->Env->Orc->Prop
 |nil (e:Env) (o:Orc):Tr P Y Gl nt yd ops e o [] [] e o
 |cons {e:Env} {d9:Orc} {o:Oper} {l:List Oper} {x:Option Bool×Done} {rd:List (Nat×Nat)} {vc hyp:List Prop} {wr:Env} {o':Orc} {aa:List (Env×Orc×(Option Bool×Done)×Ic×Env)} {eN:Env} {oN:Orc}
   (h1:(Oz (Computes P Gl) (Does P Y Gl) Y yd ops o d9).run e.get []=some (x,rd)) (h2:Eg nt o.dst x=.go vc hyp wr o') (h3:∀p∈vc,p) (h4:Tr P Y Gl nt yd ops (wr++e) o' l aa eN oN):
   Tr P Y Gl nt yd ops e d9 (o::l) ((e,d9,x,(rd,Bf wr),wr)::aa) eN oN
theorem Am5:∀{n:Nat} {l:List Nat},Th n l=true->∀i,i<n->i∈l
 |0,_,_,_,h=>absurd h (aV _)
 |n+1,l,h,i,hi=>by
  simp only[Th,aE]at h
  by_cases he:i=n
  ·grind[Agj]
  ·exact Am5 h.2 i (by omega)
def PanL (P:Program) (Y:TypeId->Ty) (Gl:World->Prop) (nt:Nat) (yd:Yd) (ops:Array Oper) (kp:Value->Orc->Env->Prop) (n:Nat) (o:Oper) (oN:Orc) (eN:Env):Prop:=
 ∃x rd vc v wr o',(Oz (Computes P Gl) (Does P Y Gl) Y yd ops o oN).run eN.get []=some (x,rd)/\Eg nt o.dst x=.pan vc v wr o'/\(∀p∈vc,p)/\kp v o' (wr++eN)/\Th n ((Id ops.toList []).getD n [])=true
def Avx (S:Set P Y Gl) (U:Sur P Gl X yd) {ops:Array Oper} {k:Orc->Env->Prop} {kp:Value->Orc->Env->Prop}:∀(l:List Oper) (i:Nat) (tr:List Ic) (d9:Orc) (e:Env) (a:Act) (w:World),(∀j,l[j]?=ops[i+j]?)->tr.length=i->
  Ti (Computes P Gl) (Does P Y Gl) Y nt yd ops l tr k kp d9 e->Cq Y X nt ds e a w->
  ∃l0 aa eN oN,Tr P Y Gl nt yd ops e d9 l0 aa eN oN/\Nn 0 ops.toList=true/\Np 0 (Id ops.toList []) (tr.reverse++aa.map λx=>x.2.2.2.1)=true/\((l0=l/\k oN eN)∨∃o,l=l0++[o]/\PanL P Y Gl nt yd ops kp (i+aa.length) o oN eN):=by
 intro l
 induction l with
 |nil=>
  intro i tr d9 e a w _ _ h R;simp only[Ti]at h;cases hb:(Nn 0 ops.toList&&Np 0 (Id ops.toList []) tr.reverse) with
  |false=>rw[hb]at h;exact h.elim
  |true=>
   rw[hb]at h;obtain⟨h1,h2⟩:=and_true hb;exact⟨[],[],e,d9,.nil e d9,h1,by grind,.inl ⟨rfl,h⟩⟩
 |cons o l ih=>
  intro i tr d9 e a w hl hti h R;obtain⟨G,R⟩:=R;have hi:ops[i]?=some o:=by simpa using (hl 0).symm
  have ua:∀j,l[j]?=ops[i+1+j]?:=λj=>by
   have:=hl (j+1);grind
  simp only[Ti]at h;split at h
  ·rename_i x rd d7;unfold Ajv at h;split at h
   ·rename_i vc hyp wr o' hd;obtain⟨r9,h⟩:=Xn h;obtain⟨s1,_⟩:=Abb (Q:=λ_ _ _=>∃l0 aa eN oN,Tr P Y Gl nt yd ops e d9 l0 aa eN oN/\Nn 0 ops.toList=true/\Np 0 (Id ops.toList []) (tr.reverse++aa.map λx=>x.2.2.2.1)=true/\((l0=o::l/\k oN eN)∨∃o1,o::l=l0++[o1]/\PanL P Y Gl nt yd ops kp (i+aa.length) o1 oN eN)) (rd:=none) (fu:=0) S U R hi d7;refine Avw (rd:=none) (fu:=0) (s1 vc hyp wr o' hd r9 _ λa' w' hh R'=>?_);obtain⟨l0,aa,eN,oN,t1,t2,t3,t4⟩:=ih (i+1) _ o' _ a' w' ua (by simp[hti]) (Agg h hh) R';refine⟨o::l0,_,eN,oN,.cons d7 hd r9 t1,t2,by grind,?_⟩;grind
   ·rename_i vc v wr o' hd;unfold Aju at h;split at h
    ·cases hb:(Nn 0 ops.toList&&Np 0 (Id ops.toList []) tr.reverse&&Th tr.length ((Id ops.toList []).getD tr.length [])) with
     |false=>rw[hb]at h;exact h.elim
     |true=>
      rw[hb]at h;obtain⟨r9,h⟩:=Xn (h:Nh vc _);obtain⟨hb,h3⟩:=and_true hb;obtain⟨h1,h2⟩:=and_true hb;rw[hti]at h3;exact⟨[],[],e,d9,.nil e d9,h1,by grind,.inr ⟨o,rfl,x,rd,vc,v,wr,o',d7,hd,r9,h,by trivial⟩⟩
    trivial
   trivial
  trivial
def Tr.len {ops:Array Oper} {e:Env} {d9:Orc} {l:List Oper} {aa:List (Env×Orc×(Option Bool×Done)×Ic×Env)} {eN:Env} {oN:Orc} (h:Tr P Y Gl nt yd ops e d9 l aa eN oN):aa.length=l.length:=by
 induction h with
 |nil=>rfl
 |cons _ _ _ _ ih=>simp[ih]
def Tr.at {ops:Array Oper} {e:Env} {d9:Orc} {l:List Oper} {aa:List (Env×Orc×(Option Bool×Done)×Ic×Env)} {eN:Env} {oN:Orc} (h:Tr P Y Gl nt yd ops e d9 l aa eN oN):
  ∀(i j:Nat) o y,l[j]?=some o->aa[j]?=some y->y.1=sel (λm=>Nat.blt m (i+j)) i (aa.map λx=>x.2.2.2.2) e/\y.2.2.2.1.2=Bf y.2.2.2.2/\
   (Oz (Computes P Gl) (Does P Y Gl) Y yd ops o y.2.1).run y.1.get []=some (y.2.2.1,y.2.2.2.1.1)/\∃vc hyp o',Eg nt o.dst y.2.2.1=.go vc hyp y.2.2.2.2 o'/\∀p∈vc,p:=by
 induction h with
 |nil=>grind
 | @cons e d9 o l x rd vc hyp wr o' aa eN oN h1 h2 h3 h4 ih=>
  intro i j oj y hj hy;cases j with
  |zero=>
   simp only[bR,aA]at hj hy;subst hj;subst hy;refine⟨?_,rfl,h1,vc,hyp,o',h2,h3⟩;dsimp only;have:sel (λm=>Nat.blt m (i+0)) i (((e,d9,x,(rd,Bf wr),wr)::aa).map λx=>x.2.2.2.2) e=sel (λ_=>false) i (((e,d9,x,(rd,Bf wr),wr)::aa).map λx=>x.2.2.2.2) e:=by
    refine Abe _ _ _ i e λm _=>?_;cases hb:Nat.blt (i+m) (i+0) with
    |false=>rfl
    |true=>have:=aH hb;omega
   rw[this];have hf:∀(l:List Env) (q:Nat) (F:Env),sel (λ_=>false) q l F=F:=by
    intro l
    induction l with
    |nil=>intro q F;rfl
    |cons x l ih=>intro q F;exact ih _ _
   rw[hf]
  |succ j=>
   obtain⟨g1,g2,g3⟩:=ih (i+1) j oj y (by trivial) (by trivial);refine⟨?_,g2,g3⟩;rw[g1];simp only[List.map_cons,sel];have:Nat.blt i (i+(j+1))=true:=fF (by omega);rw[this,bA,show i+1+j=i+(j+1) by omega]
theorem Tr.end {ops:Array Oper} {e:Env} {d9:Orc} {l:List Oper} {aa:List (Env×Orc×(Option Bool×Done)×Ic×Env)} {eN:Env} {oN:Orc} (h:Tr P Y Gl nt yd ops e d9 l aa eN oN):
  ∀i,eN=sel (λ_=>true) i (aa.map λx=>x.2.2.2.2) e:=by
 induction h with
 |nil=>intro i;rfl
 |cons _ _ _ _ ih=>intro i;exact ih (i+1)
theorem Am6 {p q:Nat->Bool} (hpq:∀i,q i=true->p i=true):∀(l:List Nat),(l.filter q).length<=(l.filter p).length
 | []=>aI _
 |x::l=>by
  have ih:=Am6 hpq l;cases hq:q x with
  |true=>rw[cX hq,cX (hpq x hq)];simp;omega
  |false=>
   rw[dY (by rw[hq];decide)];cases hp:p x with
   |true=>rw[cX hp];simp;omega
   |false=>rw[dY (by rw[hp];decide)];exact ih
theorem Am7 {p q:Nat->Bool} (hpq:∀i,q i=true->p i=true) {j:Nat}:∀{l:List Nat},j∈l->p j=true->q j=false->(l.filter q).length<(l.filter p).length
 | [],h,_,_=>(by cases h)
 |x::l,h,hp,hq=>by
  cases h with
  |head=>
   rw[dY (by rw[hq];decide),cX hp];have:=Am6 hpq l;simp;omega
  |tail _ h=>
   have ih:=Am7 hpq h hp hq;cases hqx:q x with
   |true=>rw[cX hqx,cX (hpq x hqx)];simp;omega
   |false=>
    rw[dY (by rw[hqx];decide)];cases iy:p x with
    |true=>rw[cX iy];simp;omega
    |false=>rw[dY (by rw[iy];decide)];exact ih
theorem Avy (S:Set P Y Gl) (U:Sur P Gl X yd) {rid:Nat} {ops:Array Oper} {k:Orc->Env->Prop} {kp:Value->Orc->Env->Prop} (hk:∀d9 e a w,k d9 e->Cq Y X nt ds e a w->Q .normal a w)
  (mf:∀v d9 e a w,kp v d9 e->Cq Y X nt ds e a w->Q (.panic [{ v,recovered:=false }]) a w)
  {d9:Orc} (h:Ti (Computes P Gl) (Does P Y Gl) Y nt yd ops ops.toList [] k kp d9 e) (R:Cq Y X nt ds e a w):(Code.region rid ops true).wpIn (Fr rd) fu P Q a w:=by
 obtain⟨l0,aa,eN,oN,ht,hed,hft,hkN⟩:=Avx S U ops.toList 0 [] d9 e a w (λj=>by simp) rfl h R;simp only[List.reverse_nil,cH]at hft;have i9:=ht.len;have hN:(aa.length=ops.size/\k oN eN)∨∃o,aa.length+1=ops.size/\ops[aa.length]?=some o/\PanL P Y Gl nt yd ops kp aa.length o oN eN:=by
  rcases hkN with ⟨rfl,h1⟩|⟨o,h1,h2⟩
  ·exact .inl ⟨by rw[i9];simp,h1⟩
  ·refine .inr ⟨o,?_,?_,by rw[bH]at h2;exact h2⟩
   ·have:=cD List.length h1;simp only[eM,cU,cQ,dA]at this;omega
   ·rw[<-bD,h1,i9];simp
 have hlen':aa.length<=ops.size:=by rcases hN with ⟨h,_⟩|⟨o,h,_⟩<;>omega
 have mu:∀j,j<aa.length->l0[j]?=ops[j]?:=λj hj=>by
  rcases hkN with ⟨rfl,h1⟩|⟨o,h1,h2⟩
  ·simp
  ·rw[<-bD,h1,List.getElem?_append_left (by omega)]
 generalize lc:(aa.map λx=>x.2.2.2.2)=ew at *
 have hat:=λj o y h1 h2=>ht.at 0 j o y h1 h2;have db:=ht.end 0;rw[lc]at db;simp only[lc,bH]at hat
 have hwj:∀(j:Nat) y,aa[j]?=some y->ew[j]?=some y.2.2.2.2:=λj y hy=>by rw[<-lc,bQ,hy];rfl
 have ca:∀(j:Nat) o,j<aa.length->ops[j]?=some o->l0[j]?=some o:=λj o hj h=>by rw[mu j hj];exact h
 have hopT:∀(j:Nat) o,ops[j]?=some o->ops.toList[j]?=some o:=λj o h=>by rw[bD];exact h
 -- whoever ij what j reads or ij and comes cc it is waited for by j
 have cc:∀(i j:Nat) x y,i<j->j<ops.size->aa[i]?=some x->aa[j]?=some y->Chain ops.toList j i∨Agm x.2.2.2.1 y.2.2.2.1:=by
  intro i j x y sn hj hx hy;have uf:j<(Id ops.toList []).length:=by rw[Agl];simpa using hj
  have:=Am0 hft i j x.2.2.2.1 _ y.2.2.2.1 sn (by rw[bQ,hx];rfl) (aQ uf) (by rw[bQ,hy];rfl);rw[bH]at this;exact this.imp (λh=>ancs_spec (ops:=ops.toList) (λj=>by simp) (λm l hm=>by simp at hm) j _ (aQ uf) i h) id
 -- all that a listed one Af8 for is listed
 have pu:∀(listed:Array Bool),(∀(i:Nat) o,ops[i]?=some o->listed.getD i false=true->∀ed∈o.after,Region.binds .any ed=true->listed.getD ed.on false=true)->
   ∀{j i:Nat},Chain ops.toList j i->listed.getD j false=true->listed.getD i false=true:=by
  intro listed dj j i hc
  induction hc with
  |one h1 h2 h3=>exact λhl=>dj _ _ (by rwa [bD]at h1) hl _ (by simpa using h2) h3
  |more h1 h2 h3 _ ih=>exact λhl=>ih (dj _ _ (by rwa [bD]at h1) hl _ (by simpa using h2) h3)
 have key:∀(cr:Nat) (listed:Array Bool) (a:Act) (w:World),listed.size=ops.size->(∀(i:Nat) o,ops[i]?=some o->listed.getD i false=true->∀ed∈o.after,Region.binds .any ed=true->listed.getD ed.on false=true)->
   ((List.range ops.size).filter λi=>!listed.getD i false).length<=cr->(aa.length<ops.size->listed.getD aa.length false=false)->Cq Y X nt ds (sel (λi=>listed.getD i false) 0 ew e) a w->wpAnyIn (Fr rd) fu P .any ops Q cr listed a w:=by
  intro cr;have bi:∀(listed:Array Bool) (a:Act) (w:World),(∀i,i<ops.size->listed.getD i false=true)->(aa.length<ops.size->listed.getD aa.length false=false)->Cq Y X nt ds (sel (λi=>listed.getD i false) 0 ew e) a w->Q .normal a w:=by
   intro listed a w o6 hP R;rcases hN with ⟨h1,hkN⟩|⟨o,h1,_⟩
   ·refine hk oN eN a w hkN ?_;have:sel (λi=>listed.getD i false) 0 ew e=eN:=by
     rw[db];refine Abe ew _ _ 0 e λj hj=>?_;rw[bH];exact o6 j (by rw[<-h1,<-lc]at *;simpa using hj)
    rw[this]at R;exact R
   ·have:=o6 aa.length (by omega);rw[hP (by omega)]at this;cases this
  induction cr with
  |zero=>
   intro listed a w j9 dj wi hP R;have o6:∀i,i<ops.size->listed.getD i false=true:=by
    intro i hi;cases hl:listed.getD i false with
    |true=>rfl
    |false=>
     have:i∈(List.range ops.size).filter λi=>!listed.getD i false:=List.mem_filter.2 ⟨bB.2 hi,by rw[hl];rfl⟩;have:=List.length_pos_of_mem this;omega
   have wt:Region.ready .any ops listed=[]:=by
    cases hr:Region.ready .any ops listed with
    |nil=>rfl
    |cons j l=>
     have hj:j∈Region.ready .any ops listed:=by rw[hr];exact aC
     obtain⟨h1,o,h2,_⟩:=mem_ready.1 hj;have hlt:=(aP.1 h2).1;have:=o6 j hlt;simp only[aW]at h1 this;rw[cK (by omega)]at h1 this;simp only[Option.getD_some]at h1 this;rw[h1]at this;cases this
   exact⟨wt,bi listed a w o6 hP R⟩
  |succ cr ih=>
   intro listed a w j9 dj wi hP R;refine⟨λhr=>?_,λj hj=>?_⟩
   ·-- nothing is ready: all are listed
    have o6:∀i,i<ops.size->listed.getD i false=true:=by
     intro i
     induction i using Nat.strongRecOn with
     |_ i ihi=>
      intro hi;cases hl:listed.getD i false with
      |true=>rfl
      |false=>
       have ho:ops[i]?=some ops[i]:=cK hi;have:i∈Region.ready .any ops listed:=mem_ready.2 ⟨by
        simp only[aW]at hl ⊢;rw[cK (by omega)]at hl ⊢;exact hl,_,ho,λed sk hb=>by
        have:=Am1 hed i _ (hopT i _ ho) ed (by simpa using sk) hb;rw[bH]at this;exact ihi ed.on this (by omega)⟩
       rw[hr]at this;cases this
    exact bi listed a w o6 hP R
   ·obtain⟨vy,o,ho,hjw⟩:=mem_ready.1 hj;have wu:=(aP.1 ho).1;have hjf:listed.getD j false=false:=by
     simp only[aW]at vy ⊢;rw[cK (by omega)]at vy ⊢;exact vy
    by_cases hjm:j=aa.length
    ·-- the last one,which Af8 for all others
     rcases hN with ⟨h1,_⟩|⟨o1,h1,h2,x,rk,vc,v,wr,o',h3,h4,h5,h6,h7⟩
     ·omega
     ·have ho1:o=o1:=by rw[<-hjm,ho]at h2;exact bS h2
      subst ho1;have o6:∀i,i<aa.length->listed.getD i false=true:=λi hi=>by
       have v6:=Am5 h7 i hi;rw[<-hjm]at v6;have uf:j<(Id ops.toList []).length:=by rw[Agl];simpa using wu
       rw[bU,aQ uf]at v6;cases ancs_spec (ops:=ops.toList) (λj=>by simp) (λm l hm=>by simp at hm) j _ (aQ uf) i v6 with
       |one c1 c2 c3=>
        rw[bD,ho]at c1;obtain rfl:=bS c1;exact hjw _ (by simpa using c2) c3
       |more c1 c2 c3 c4=>
        rw[bD,ho]at c1;obtain rfl:=bS c1;exact pu listed dj c4 (hjw _ (by simpa using c2) c3)
      have he:sel (λi=>listed.getD i false) 0 ew e=eN:=by
       rw[db];refine Abe ew _ _ 0 e λi hi=>?_;rw[bH];exact o6 i (by rw[<-lc]at hi;simpa using hi)
      rw[he]at R;obtain⟨G,R⟩:=R;obtain⟨_,s2⟩:=Abb (Q:=Q) (rd:=rd) (fu:=fu) S U R ho h3;exact s2 vc v wr o' h4 h5 (λa' w' R'=>mf v o' _ a' w' h6 R') _
    have hjm':j<aa.length:=by rcases hN with ⟨h1,_⟩|⟨_,h1,_⟩<;>omega
    have hy:aa[j]?=some aa[j]:=aQ hjm';generalize aa[j]=y at hy;obtain⟨g1,g2,g3,vc,hyp,o',g4,g5⟩:=hat j o y (ca j o hjm' ho) hy
    -- who ij what j reads
    have reads:∀(i:Nat) x,aa[i]?=some x->∀p∈Bf x.2.2.2.2,p∈y.2.2.2.1.1->listed.getD i false=Nat.blt i j:=by
     intro i x hx p sq oh;have gx2:x.2.2.2.1.2=Bf x.2.2.2.2:=by
      have wv:=(cA.1 hx).1;have hlt:i<ops.size:=by omega
      exact (hat i _ x (ca i _ wv (cK hlt)) hx).2.1
     rcases gE i j with h|h|h
     ·have hb:Nat.blt i j=true:=fF h;rw[hb];rcases cc i j x y h wu hx hy with hc|hap
      ·cases hc with
       |one c1 c2 c3=>
        rw[bD,ho]at c1;obtain rfl:=bS c1;exact hjw _ (by simpa using c2) c3
       |more c1 c2 c3 c4=>
        rw[bD,ho]at c1;obtain rfl:=bS c1;exact pu listed dj c4 (hjw _ (by simpa using c2) c3)
      ·exact absurd oh (hap.1 p (by rw[gx2];exact sq))
     ·subst h;have hb:Nat.blt i i=false:=by
       cases hb:Nat.blt i i with
       |false=>rfl
       |true=>have:=aH hb;omega
      rw[hb,hjf]
     ·have hb:Nat.blt i j=false:=by
       cases hb:Nat.blt i j with
       |false=>rfl
       |true=>have:=aH hb;omega
      rw[hb];have hlt:i<ops.size:=by have:=(cA.1 hx).1;omega
      rcases cc j i y x h hlt hy hx with hc|hap
      ·cases hl:listed.getD i false with
       |false=>rfl
       |true=>
        have:=pu listed dj hc hl;rw[hjf]at this;cases this
      ·exact absurd oh (hap.2.2 p (by rw[gx2];exact sq))
    have ij:∀(i:Nat) x,j<i->aa[i]?=some x->∀p∈Bf x.2.2.2.2,p∈Bf y.2.2.2.2->listed.getD i false=false:=by
     intro i x h hx p sq oh;have wv:=(cA.1 hx).1;have hlt:i<ops.size:=by omega
     have gx2:x.2.2.2.1.2=Bf x.2.2.2.2:=(hat i _ x (ca i _ wv (cK hlt)) hx).2.1;rcases cc j i y x h hlt hy hx with hc|hap
     ·cases hl:listed.getD i false with
      |false=>rfl
      |true=>
       have:=pu listed dj hc hl;rw[hjf]at this;cases this
     ·exact absurd (by rw[gx2];exact sq) (hap.2.1 p (by rw[g2];exact oh))
    -- j goes here as it went there
    have d7:(Oz (Computes P Gl) (Does P Y Gl) Y yd ops o y.2.1).run (sel (λi=>listed.getD i false) 0 ew e).get []=some (y.2.2.1,y.2.2.2.1.1):=by
     refine (Asq _ [] _ _ g3).2 λp hp=>?_;obtain⟨t,kk⟩:=p;dsimp only;rw[g1];refine Abd ew 0 e e (λi wr hi cw=>?_) rfl;rw[bH];rw[<-lc,bQ]at hi;cases hx:aa[i]? with
     |none=>rw[hx]at hi;cases hi
     |some x=>
      rw[hx]at hi;simp only[bO,aA]at hi;subst hi;exact reads i x hx _ cw hp
    obtain⟨G,R⟩:=R;obtain⟨s1,_⟩:=Abb (Q:=Q) (rd:=rd) (fu:=fu) S U R ho d7;refine s1 vc hyp _ o' g4 g5 _ λa' w' _ R'=>?_;have dv:∀i,(listed.setIfInBounds j true).getD i false=if i=j then true else listed.getD i false:=by
     intro i
     by_cases h:i=j
     ·subst h;rw[bG rfl];simp only[aW,Array.getElem?_setIfInBounds];simp only[eV];rw[bG (by omega)]
      rfl
     ·rw[bI h];exact getD_set_ne false (Ne.symm h)
    refine ih _ a' w' (by simpa using j9) (λi oi hoi hl ed sk hb=>?_) ?_ ?_ ?_
    ·rw[dv]at hl ⊢
     by_cases h:ed.on=j
     ·rw[bG h]
     ·rw[bI h]
      by_cases hi:i=j
      ·subst hi;rw[ho]at hoi;simp only[aA]at hoi;subst hoi;exact hjw ed sk hb
      ·rw[bI hi]at hl;exact dj i oi hoi hl ed sk hb
    ·-- one fewer is left
     have:((List.range ops.size).filter λi=>!(listed.setIfInBounds j true).getD i false).length<((List.range ops.size).filter λi=>!listed.getD i false).length:=by
      refine Am7 (λi hi=>?_) (bB.2 wu) (by rw[hjf];rfl) (by rw[dv,bG rfl];rfl);rw[dv]at hi;split at hi
      ·cases hi
      ·exact hi
     omega
    ·intro hlt;rw[dv,bI (λh=>hjm h.symm)];exact hP hlt
    ·obtain⟨G',R'⟩:=R';refine⟨G',R'.congr λt kk=>?_⟩
     by_cases cw:(t,kk)∈Bf y.2.2.2.2
     ·refine Am4 ew 0 j _ e _ (hwj j y hy) cw (by rw[bH,dv,bG rfl]) λi wr sl hi vh=>?_;rw[bH,dv,bI (by omega)];rw[<-lc,bQ]at hi;cases hx:aa[i]? with
      |none=>rw[hx]at hi;cases hi
      |some x=>
       rw[hx]at hi;simp only[bO,aA]at hi;subst hi;exact ij i x sl hx _ vh cw
     ·rw[Am2 cw];refine Abd ew 0 e e (λi wr hi vh=>?_) rfl;rw[bH,dv]
      by_cases h:i=j
      ·subst h;rw[hwj i y hy]at hi;simp only[aA]at hi;subst hi;exact absurd vh cw
      ·rw[bI h]
 refine wpIn_region_any S.mixed (key ops.size _ a _ (by simp) (λi o ho hl=>?_) ?_ (λ_=>?_) ?_)
 ·simp[aW,fR]at hl;split at hl<;>simp at hl
 ·exact bJ (List.length_filter_le _ _) (by simp)
 ·simp[aW,fR];split<;>rfl
 ·obtain⟨G,R⟩:=R;have:sel (λi=>(Array.replicate ops.size false).getD i false) 0 ew e=e:=by
   have h0:∀i,(Array.replicate ops.size false).getD i false=false:=λi=>by
    simp[aW,fR];split<;>rfl
   have hf:∀(l:List Env) (q:Nat) (F:Env),sel (λi=>(Array.replicate ops.size false).getD i false) q l F=F:=by
    intro l
    induction l with
    |nil=>intro q F;rfl
    |cons x l ih=>
     intro q F;have:=ih (q+1) F;simp only[sel,h0,cC]at this ⊢;exact this
   exact hf _ _ _
  rw[this];exact⟨G,(R.grow (w':={ w with drawn:=w.drawn+1 }) (G':=G) (e':=e) none (λ_ _ _=>rfl) ⟨rfl,rfl,rfl,aI _⟩ (λ_ _ _=>rfl) (λb hb=>(by cases hb)) (λ_=>aI _) ⟨λ_ _ _=>rfl,λ_ _ _ _ h=>h,λ_ cs t z h=>⟨cs,t,z,h,aI _⟩⟩ rfl rfl rfl (λ_ _=>rfl)
   (λk b h=>by obtain⟨h1,h2,h3,h4,h5⟩:=R.tks k b h;exact⟨h1,h2,h3,h4,h5,R.tlive k b h⟩) R.tinj (λ_ h=>⟨h,λ_ h=>h⟩) (λ_ _ _ h _=>⟨h,rfl,rfl⟩) R.fresh (λ_ _=>rfl) (λ_ _=>rfl)).1⟩
end
theorem Tz {e:Env}:∀{e0:Env},(∀p∈Sz e e0,p)->∀{t k x},(t,k,x)∈e0->t≠1->∀p∈leT (e.get t k) x,p
 | [],_,_,_,_,h,_=>(by cases h)
 |(a,b,y)::e0,hp,t,k,x,h,ht=>by
  by_cases ha:a=1
  ·subst ha;cases h with
   |head=>trivial
   |tail _ h=>exact Tz (e0:=e0) hp h ht
  ·have hq:∀p∈leT (e.get a b) y++Sz e e0,p:=by grind[Sz]
   cases h with
   |head=>exact λp h=>hq p (aJ _ h)
   |tail _ h=>exact Tz (λp gg=>hq p (aM _ gg)) h ht
def Am8 {x y:T} (h:Zt x y=true):∃el,x=As el/\y=As el:=by
 unfold Zt at h;split at h
 ·exact⟨_,rfl,by rw[aG h];rfl⟩
 ·cases h
def Am9 {x y:T} {a b:Nat} (h:Qq x y a b=true):∃el,x=As el/\y=As el/\(FAR<=a->FAR<=b):=by
 unfold Qq at h;rw[aE,bW]at h;obtain⟨el,h1,h2⟩:=Am8 h.1;refine⟨el,h1,h2,λha=>h.2.elim (λh=>?_) aH⟩;have:a<FAR:=aH h;omega
theorem tokPairs_mem {e e0:Env}:∀{es:Env} {l:List (Nat×Nat)},Iz e e0 es=some l->∀{t k b n f},(t,k,T.d (.c (.s (.t b) n f)))∈es->
  (∃a n' f',e.get t k=.d (.c (.s (.t a) n' f'))/\Qq (e.get 1 a) (e0.get 1 b) a b=true/\(a,b)∈l)∨∃v,e.get t k=.d (.c (.v v))
 | [],_,_,_,_,_,_,_,h=>(by cases h)
 |p::r,l,hl,t,k,b,n,f,h=>by
  unfold Iz at hl;split at hl
  ·trivial
  ·rename_i t' k' b' n' f' r' hh;simp only[cI]at hh;obtain⟨rfl,rfl⟩:=hh;split at hl
   ·rename_i a n2 f2 hg;cases hs:Qq (e.get 1 a) (e0.get 1 b') a b' with
    |false=>grind
    |true=>
     rw[hs,bA]at hl;cases hr:Iz e e0 r with
     |none=>grind
     |some l'=>
      rw[hr]at hl;simp only[bO,aA]at hl;subst hl;cases h with
      |head=>grind
      |tail _ h=>exact (tokPairs_mem hr h).imp (λ⟨a,n,f,h1,h2,h3⟩=>⟨a,n,f,h1,h2,aU _ h3⟩) id
   ·rename_i v hg;cases h with
    |head=>grind
    |tail _ h=>exact tokPairs_mem hl h
   ·cases hl
  ·rename_i hh;simp only[cI]at hh;obtain⟨rfl,rfl⟩:=hh;cases h with
   |tail _ h=>exact tokPairs_mem hl h
  ·cases hl
  ·rename_i dy _ _ hh;simp only[cI]at hh;obtain⟨rfl,rfl⟩:=hh;cases h with
   |head=>grind
   |tail _ h=>exact tokPairs_mem hl h
theorem Xo {e e0:Env}:∀{es:Env} {l:List (Nat×Nat)},Iz e e0 es=some l->∀{a b},(a,b)∈l->Qq (e.get 1 a) (e0.get 1 b) a b=true
 | [],l,hl,a,b,h=>by
  grind[Iz]
 |p::r,l,hl,a,b,h=>by
  unfold Iz at hl;split at hl
  ·trivial
  ·rename_i t' k' b' n' f' r' hh;simp only[cI]at hh;obtain⟨rfl,rfl⟩:=hh;split at hl
   ·rename_i a' n2 f2 hg;cases hs:Qq (e.get 1 a') (e0.get 1 b') a' b' with
    |false=>grind
    |true=>
     rw[hs,bA]at hl;cases hr:Iz e e0 r with
     |none=>grind
     |some l'=>
      rw[hr]at hl;simp only[bO,aA]at hl;subst hl;cases h with
      |head=>exact hs
      |tail _ h=>exact Xo hr h
   ·exact Xo hl h
   ·cases hl
  ·rename_i hh;simp only[cI]at hh;obtain⟨rfl,rfl⟩:=hh;exact Xo hl h
  ·cases hl
  ·rename_i hh;simp only[cI]at hh;obtain⟨rfl,rfl⟩:=hh;exact Xo hl h
theorem Ago {a b:Nat}:∀{l:List (Nat×Nat)},Zu a b l=true->∀{a' b'},(a',b')∈l->(a=a'↔b=b')
 | [],_,_,_,h=>(by cases h)
 |(a1,b1)::r,hl,a',b',h=>by
  simp only[Zu,aE]at hl;cases h with
  |head=>
   have:=hl.1;constructor
   ·rintro rfl;rw[fP]at this;simpa using this
   ·rintro rfl;rw[fP]at this;simpa using this
  |tail _ h=>exact Ago hl.2 h
theorem Ama:∀{l:List (Nat×Nat)},Zv l=true->∀{a b a' b'},(a,b)∈l->(a',b')∈l->(a=a'↔b=b')
 | [],_,_,_,_,_,h,_=>(by cases h)
 |(a1,b1)::r,hl,a,b,a',b',h,h'=>by
  simp only[Zv,aE]at hl;cases h with
  |head=>
   grind[Ago]
  |tail _ h=>
   cases h' with
   |head=>have:=Ago hl.1 h;omega
   |tail _ h'=>exact Ama hl.2 h h'
theorem Amb {e0:Env}:∀{es:Env},Wg e0 es=true->∀{t k x},(t,k,x)∈es->∀b∈Ck x,e0.get 1 b≠.any
 | [],_,_,_,_,h=>(by cases h)
 |(a,b,y)::es,hp,t,k,x,h=>by
  simp only[Wg,aE]at hp;cases h with
  |head=>
   have o6:∀(l:List Nat),Zw e0 l=true->∀b∈l,e0.get 1 b≠.any:=by
    intro l
    induction l with
    |nil=>grind
    |cons i l ih=>
     intro h id d6;simp only[Zw,aE]at h;cases d6 with
     |head=>
      obtain⟨el,h1,_⟩:=Am8 h.1;rw[h1];intro hh;cases hh
     |tail _ d6=>exact ih h.2 id d6
   grind
  |tail _ h=>exact Amb hp.2 h
theorem Agp:∀{es:Env},Wh es=true->∀{t k x},(t,k,x)∈es->(∀b y,x≠.may b y)/\(3<=t->x.one=true)
 | [],_,_,_,_,h=>(by cases h)
 |(a,b,y)::es,hp,t,k,x,h=>by
  simp only[Wh,aE]at hp;cases h with
  |head=>
   refine⟨λb' z hh=>?_,λht=>?_⟩
   ·grind
   ·obtain⟨m,rfl⟩:∃m,a=m+3:=⟨a - 3,by omega⟩
    exact hp.1.2
  |tail _ h=>exact Agp hp.2 h
theorem Xp {e0:Env}:∀{es:Env},Qr e0 es=true->(∀{t k x},(t+3,k,x)∈es->FAR<=t->e0.get 2 t≠.any->e0.get (t+3) k≠.any)/\∀{k p},(0,k,T.tr p)∈es->e0.get 0 k≠.any
 | [],_=>⟨λh=>(by cases h),λh=>(by cases h)⟩
 |q::es,hp=>by
  have hu:∀{x:T},Iy x=true->x≠.any:=λh hh=>by rw[hh]at h;cases h
  unfold Qr at hp;split at hp
  ·trivial
  ·rename_i k x r hh;simp only[cI]at hh;obtain⟨rfl,rfl⟩:=hh;simp only[aE]at hp;obtain⟨h1,h2⟩:=Xp hp.2;grind
  ·rename_i t k x r hh;simp only[cI]at hh;obtain⟨rfl,rfl⟩:=hh;simp only[aE,bW,cL]at hp;obtain⟨h1,h2⟩:=Xp hp.2;refine⟨λh hf s7=>?_,λh=>?_⟩
   ·cases h with
    |head=>
     rcases hp.1 with (h|h)|h
     ·have:=Bh h;omega
     ·grind[Iy]
     grind
    |tail _ h=>exact h1 h hf s7
   grind
  ·rename_i hno1 hno2 hh;simp only[cI]at hh;obtain⟨rfl,rfl⟩:=hh;obtain⟨h1,h2⟩:=Xp hp;refine⟨λh=>?_,λh=>?_⟩
   ·cases h with
    |head=>grind
    |tail _ h=>exact h1 h
   ·cases h with
    |head=>grind
    |tail _ h=>exact h2 h
def Avz {x:Value} {g:Tag} {n:Nat} {f:Nat->List C} (h:∀p∈leC (.v x) (.s g n f),p):x=.slice none 0 0:=by
 unfold leC at h;grind[List.mem_cons_self]
def Rep.eqv {vis:Nat->Nat} {w:World} {t:Tag} {m:Nat} {g g':Nat->List C} {u:Value} (h:∀i,i<m->g i=g' i) (hr:Rep vis w (.s t m g) u):Rep vis w (.s t m g') u:=by
 cases hr with
 |nil=>exact .nil _ _
 |e=>exact .e _ _ _
 |s _ _ _ b off cap sz u a1 a2 a3 a4 a5 a6=>
  exact .s _ _ _ b off cap sz u a1 a2 (λi hi=>by grind) a4 (λi j c hi hj=>a5 i j c hi (by grind)) (λi j c hi hj=>a6 i j c hi (by grind))
def Lc.eqv {G:Gh} {w:World} {el sz b j m:Nat} {g g':Nat->List C} {u:Value} (h:∀i,i<m->g i=g' i) (hs:Lc G w el sz b j m g u):Lc G w el sz b j m g' u:=
 ⟨hs.1.eqv h,λi hi=>by rw[<-h i hi];exact hs.2.1 i hi,hs.2.2⟩
theorem Agq {G:Gh} {w:World} {o o':T} {b:Nat} (i7:∀p∈leT o o',p) (s7:o'≠.any) (h:Bk G w o b):Bk G w o' b:=by
 by_cases ho:Cv o'=true
 ·have:=Alp (rho:=[]) (H:=G.H) i7 ho h;generalize hren:Jf [] G G.H=G' at this;have hv:G'.vis=G.vis:=by rw[<-hren];rfl
  unfold Bk at this ⊢;split at this<;>first|(rw[<-hv];exact this)|exact this.elim|cases ho
 ·unfold leT at i7;split at i7
  ·trivial
  ·exact h.elim
  ·exact h.elim
  ·trivial
  ·exact h.elim
  ·exact h.elim
  ·exact h.elim
  ·exact h.elim
  ·exact h.elim
  ·exact h.elim
  ·trivial
  ·trivial
  ·grind[List.mem_cons_self]
  ·replace i7:=Rc i7;obtain⟨hb,i7⟩:=i7;obtain⟨hb,hcn⟩:=and_true hb;obtain⟨h1,h2⟩:=and_true hb;have h1:=aG h1;have h2:=iO h2;subst h1;subst h2;have hm:MEq _ _ _ _:=i7 _ aC;have hh:=i7 _ (.tail _ (.head _));subst hh;obtain⟨q0,mb,es,cl,seen,c0,q1,q2,q3,q4,q5,q6,q7,q8,q9⟩:=h;exact⟨q0,mb,es,cl,seen,c0,q1,q2,q3,q4,Ag1 hm q5,λx hx=>by rw[<-(hm x).1];grind,q7,q8,λk hk=>(by rw[hk]at hcn;cases hcn)⟩
  ·replace i7:=Rc i7;obtain⟨hb,i7⟩:=i7;obtain⟨h1,h2⟩:=and_true hb;have h1:=aG h1;have h2:=aG h2;subst h1;subst h2;obtain⟨e1,e2⟩:OEq _ _ _ _:=i7 _ aC;subst e1;obtain⟨q0,qs,cs,t,q1,q2,q3⟩:=h;refine⟨q0,qs,cs,t,q1,q2,λj hj=>?_⟩;obtain⟨u,q4,q5⟩:=q3 j hj;obtain⟨e3,e4⟩:=e2 j hj;refine⟨u,q4,λhf=>?_⟩;rw[<-e3];exact (q5 hf).eqv e4
  ·exact h.elim
  grind[List.mem_cons_self]
section
variable {P:Program} {Y:TypeId->Ty} {Gl:World->Prop} {X:Cx} {nt:Nat} {ds:List Deferred} {e e0:Env} {a:Act} {w:World} {G:Gh} {Q:Exit->Act->World->Prop}
open Classical in
noncomputable def leTk (e0:Env) (G:Gh) (l:List (Nat×Nat)):Tk->Option Nat
 | .o b=>(l.find? λp=>p.2.beq b).bind λp=>G.tk (.o p.1)
 | .s b j=>if (∃id,e0.get 2 id≠.any/\G.bk id=b) then G.tk (.s b j) else none
open Classical in
theorem Pk (h:le e e0) (R:Rel Y X nt ds e a w G):∃G',Rel Y X nt ds e0 a w G'/\G'.vis=G.vis/\G'.bk=G.bk/\G'.H=G.H/\G'.dm=G.dm/\(∀k b,G'.tk k=some b->∃k',G.tk k'=some b)/\∀id,e0.get 2 id≠.any->e.get 2 id≠.any:=by
 unfold le at h;cases hb:(Ajp (Iz e e0 e0)&&Gb e0 e0&&Wg e0 e0&&Wh e0&&Qr e0 e) with
 |false=>rw[hb]at h;exact h.elim
 |true=>
  rw[hb]at h;have o6:=Gd h;obtain⟨hb,ge⟩:=and_true hb;obtain⟨hb,kw⟩:=and_true hb;obtain⟨hb,du⟩:=and_true hb;obtain⟨hb,v8⟩:=and_true hb;cases htp:Iz e e0 e0 with
  |none=>rw[htp]at hb;cases hb
  |some l=>
   rw[htp]at hb;have hpairs:=@Ama l hb
   -- the new tokens' blocks
   have cm:∀a b,(a,b)∈l->((l.find? λp=>p.2.beq b).bind λp=>G.tk (.o p.1))=G.tk (.o a):=by
    intro a b hab;cases hf:l.find? λp=>p.2.beq b with
    |none=>grind[Nat.beq_refl]
    |some p=>
     grind[Nat.eq_of_beq_eq_true]
   have ig:∀b blk,((l.find? λp=>p.2.beq b).bind λp=>G.tk (.o p.1))=some blk->∃a,(a,b)∈l/\G.tk (.o a)=some blk:=by
    intro b blk hh;cases hf:l.find? λp=>p.2.beq b with
    |none=>grind
    |some p=>
     grind[Nat.eq_of_beq_eq_true]
   obtain⟨G',hG⟩:∃G',(⟨G.vis,G.bk,leTk e0 G l,G.H,G.dm⟩:Gh)=G':=⟨_,rfl⟩
   have d8:G'.vis=G.vis:=by grind
   have y9:G'.bk=G.bk:=by grind
   have hH:G'.H=G.H:=by grind
   have ec:G'.dm=G.dm:=by grind
   have hgtk:∀b:Nat,G'.tk (.o b)=(l.find? λp=>p.2.beq b).bind λp=>G.tk (.o p.1):=λb=>by subst hG;rfl
   have hgts:∀b j,(∃id,e0.get 2 id≠.any/\G.bk id=b)->G'.tk (.s b j)=G.tk (.s b j):=λb j h=>by subst hG;exact bG h
   have hgts':∀b j blk,G'.tk (.s b j)=some blk->(∃id,e0.get 2 id≠.any/\G.bk id=b)/\G.tk (.s b j)=some blk:=λb j blk h=>by
    subst hG;have h:(if (∃id,e0.get 2 id≠.any/\G.bk id=b) then G.tk (.s b j) else none)=some blk:=h;grind
   have hgt:∀k blk,G'.tk k=some blk->(∃a b,k=.o b/\(a,b)∈l/\G.tk (.o a)=some blk)∨∃b j,k=.s b j/\(∃id,e0.get 2 id≠.any/\G.bk id=b)/\G.tk (.s b j)=some blk:=λk blk h=>by
    cases k with
    |o b=>
     rw[hgtk]at h;obtain⟨a',h1,h2⟩:=ig b blk h;grind
    |s b j=>grind
   have da:∀{x:T} {v:Value},(∀b y,x=.may b y->False)->Aa G w X.fz x v->Aa G' w X.fz x v:=λ{x v} hm h=>Aa.mono ⟨λb=>by grind,.refl _ _,λ_ _=>rfl⟩ (by
    cases x with
    |may b x=>grind
    |_=>exact λ_ _=>by rw[y9]) h
   have hobjv:∀{o:T} {b:Nat},(∃id,e0.get 2 id≠.any/\G.bk id=b)->Bk G w o b->Bk G' w o b:=λ{o b} hb h=>
    h.stay (λb=>by grind) (.refl _ _) rfl (by rw[d8]) λj bb hj=>⟨by grind,rfl,by rw[d8]⟩
   have o8:∀{id:Nat},e0.get 2 id≠.any->e.get 2 id≠.any/\∀p∈leT (e.get 2 id) (e0.get 2 id),p:=λ{id} d6=>by
    have hm:=(get_mem (rfl:e0.get 2 id=e0.get 2 id)).resolve_left d6;have:=Tz o6 hm (by decide);exact⟨Ab6 this d6,this⟩
   -- an entry that is kept
   have keep:∀{t k:Nat} {x:T} {v:Value},(t,k,x)∈e0->t≠1->VOK G w X.fz Y e (e.get t k) v->VOK G' w X.fz Y e0 x v:=by
    intro t k x v hm ht hv;have i7:=Tz o6 hm ht;have hids':∀id∈Aj x,e0.get 2 id≠.any:=λid d6=>Pj v8 hm id (by unfold Ma;grind);have ww:=Amb du hm;have ug:∀(p:T->Prop),p x->(∀b y,x=.may b y->False)->Ey p x:=λp hp dy=>by
     cases x with
     |may b y=>grind
     |_=>exact hp
    have ld:∀b y,x=.may b y->False:=(Agp kw hm).1;refine⟨da ld (Ab0 i7 hv.rel),?_,ug _ hids' ld,ug _ ww ld⟩;cases x with
    |d x=>
     cases x with
     |c x=>
      cases x with
      |v x=>trivial
      |m _ _ _ _=>trivial
      |p _=>trivial
      |i _ _ _=>trivial
      |u=>trivial
      |s g n f=>
       cases g with
       |n=>trivial
       |t b=>
        intro el w9;rcases tokPairs_mem htp hm with ⟨a',n',f',h1,h2,h3⟩|⟨v',h1⟩
        ·obtain⟨bz,h4,h5,h6⟩:=Am9 h2;rw[h5]at w9;have mt:bz=el:=T.tok.inj (show T.tok bz=T.tok el from w9);subst mt;rw[h1]at hv i7;obtain⟨o1,o2⟩:=hv.own _ h4;obtain⟨e1,e2⟩:SEq n' f' n f:=i7 _ aC;subst e1;refine⟨λi hi=>by grind[Oa],?_⟩;grind
        ·rw[h1]at hv i7;have ak:=Cl hv;have e1:v'=.slice none 0 0:=Avz i7;subst e1;have e2:n=0:=i7 _ aC;subst e2;exact⟨λi hi=>absurd hi (aV i),.inl ak⟩
     |agg xs=>trivial
     |rd xs=>trivial
    |may b x=>grind
    |_=>trivial
   have fp:∀{id:Nat},e.get 2 id=live->e0.get 2 id≠.any->e0.get 2 id=live:=λ{id} h1 h2=>by
    obtain⟨_,h3⟩:=o8 h2;rw[h1]at h3
    by_cases ho:Cv (e0.get 2 id)=true
    ·exact Agc h3 ho
    ·have s7:e0.get 2 id≠.any:=h2;generalize e0.get 2 id=x at h3 ho s7;cases x with
     |any=>trivial
     |tup xs=>cases xs with
      |nil=>rfl
      |cons _ _=>
       have h9:live=_:=h3 _ aC;grind
     |arro el sz n f out=>cases out<;>exact (h3 (live=_) aC).symm
     |_=>
      have h9:live=_:=h3 _ aC;trivial
   refine⟨G',⟨⟨λid k hk=>?_,λid d6=>?_,λid i5 h1 h2=>?_⟩,R.size,by rw[ec];exact R.defers,λD hD=>?_,λt=>?_,λb blk hh=>?_,λb b' blk h1 h2=>?_,λb blk hh=>?_,λb hb=>by rw[d8];exact R.fresh b hb,λb hb=>by rw[d8];exact R.old b hb,
    R.base,λid d6=>by rw[y9];exact R.ownb id (o8 d6).1,λb hb=>by rw[hH]at hb;exact R.hlt b hb,λb hb=>by rw[hH];exact R.fzh b hb,?_,λid k hf h1 h2=>?_⟩,d8,y9,hH,ec,λk b hh=>?_,λid d6=>(o8 d6).1⟩
   ·have hm:=(get_mem (rfl:e0.get (id+3) k=e0.get (id+3) k)).resolve_left hk;have aj:=(Agp kw hm).2 (by omega);have i7:=Tz o6 hm (by omega);obtain⟨h1,h2,u,h3,h4⟩:=R.mem.cells id k (Ab6 i7 hk);grind[Pj,Ma]
   ·obtain⟨h1,h2⟩:=o8 d6;obtain⟨h3,h4,h5⟩:=R.mem.box id h1;grind[Agq]
   ·rw[y9];exact R.mem.inj id i5 (o8 h1).1 (o8 h2).1
   ·rw[ec]at hD;rw[hH];exact R.marks D hD
   ·rcases get_mem (rfl:e0.get 0 t=e0.get 0 t) with hh|hm
    ·rw[hh];exact VOK.any _
    ·exact keep hm (by decide) (R.slots t)
   ·have cw:∃a',G.tk a'=some blk:=by grind
    obtain⟨a',h2⟩:=cw;obtain⟨h3,h4,h5,h6,h7⟩:=R.tks a' blk h2;grind
   ·rcases hgt b blk h1 with ⟨a1,b1,rfl,h3,h4⟩|⟨c1,j1,rfl,_,h4⟩<;>rcases hgt b' blk h2 with ⟨a2,b2,rfl,h5,h6⟩|⟨c2,j2,rfl,_,h6⟩
    ·have:=R.tinj _ _ blk h4 h6;grind
    ·exact absurd (R.tinj _ _ blk h4 h6) (by simp)
    ·exact absurd (R.tinj _ _ blk h4 h6) (by simp)
    ·exact R.tinj _ _ blk h4 h6
   ·rcases hgt b blk hh with ⟨a1,b1,rfl,h3,h4⟩|⟨c1,j1,rfl,⟨id,h3,h4⟩,_⟩
    ·obtain⟨el,h5,h6,_⟩:=Am9 (Xo htp h3)
     show e0.get 1 b1≠.any
     rw[h6];intro hx;cases hx
    ·exact⟨id,h3,by grind⟩
   ·rw[d8,hH];have:trN (e0.get 0 BIG)=trN (e.get 0 BIG):=by
     by_cases h0:e0.get 0 BIG=.any
     ·rw[h0];cases hx:e.get 0 BIG with
      |tr p=>
       grind[get_mem,Xp]
      |_=>rfl
     ·have hm:=(get_mem (rfl:e0.get 0 BIG=e0.get 0 BIG)).resolve_left h0;have i7:=Tz o6 hm (by decide);generalize e.get 0 BIG=x at i7;generalize e0.get 0 BIG=y at i7 h0;unfold leT at i7;grind[List.mem_cons_self,trN]
    rw[this];exact R.jj
   ·rw[y9];have d6:e0.get 2 id≠.any:=by rw[h1];exact Bc
    have w9:e.get 2 id=live:=by
     obtain⟨_,h3⟩:=o8 d6;rw[h1]at h3;generalize e.get 2 id=x at h3;cases x with
     |tup xs=>cases xs with
      |nil=>rfl
      |cons _ _=>
       have h9:_=live:=h3 _ aC;exact h9
     |_=>
      have h9:_=live:=h3 _ aC;exact h9
    have vw:e.get (id+3) k=.any:=by
     by_cases hh:e.get (id+3) k=.any
     ·exact hh
     ·have hm:=(get_mem (rfl:e.get (id+3) k=e.get (id+3) k)).resolve_left hh;grind[Xp]
    exact R.far id k hf w9 vw
   grind
def Pm (h:le e e0) (R:Rel Y X nt ds e a w G):Cq Y X nt ds e0 a w:=by
 grind[Pk]
end
section
variable {P:Program} {Y:TypeId->Ty} {Gl:World->Prop} {X:Cx} {nt:Nat} {ds:List Deferred} {e e0:Env} {a:Act} {w:World} {G:Gh} {rd:Option Nat} {fu:Nat} {yd:Yd}
def Mj (Y:TypeId->Ty) (X:Cx) (nt:Nat) (ds:List Deferred) (Q:Dp):Exit->Act->World->Prop
 | .normal,a,w=>∃o e,Q .normal o e/\Cq Y X nt ds e a w
 | .exit id,a,w=>∃o e,Q (.exit id) o e/\Cq Y X nt ds e a w
 | .ret,a,w=>∃o e,Q .ret o e/\Cq Y X nt ds e a w
 | .panic chain,a,w=>∃v o e,chain=[{ v,recovered:=false }]/\Q (.panic v) o e/\Cq Y X nt ds e a w
 | .goto _,_,_=>False
 | .outgrown,_,_=>False
def Agr (R:Rel Y X nt ds e a w G) {c:Operand} {x:T} (h:evX e c=x) (hx:x≠.any) (hc:∀v,c=.const v->v.oneCell'=true):VOK G w X.fz Y e x (a.eval c):=by
 cases c with
 |tmp t=>
  simp only[evX]at h;cases hf:Nat.blt t FAR with
  |false=>grind
  |true=>
   rw[hf,bA]at h;have:=R.slots t;unfold De at this;rw[bG (Bh hf),h]at this;exact this
 |const v=>simp only[evX]at h;subst h;exact VOK.v v (hc v rfl)
 |func f=>grind[evX]
 |global g=>grind[evX]
def Ags (R:Rel Y X nt ds e a w G) {c:Operand} {b:Bool} (h:evX e c=.d (.c (.v (.bool b)))):a.eval c=.bool b:=by
 cases c with
 |const v=>
  simp only[evX,T.d.injEq,D.c.injEq,C.v.injEq]at h;exact h
 |_=>exact Cl (Agr R h (by simp) (λv hv=>by cases hv))
def Ub {b:Frame} {c:Code} {k:List Item} {cs:List Frame}:step P (lone (b.atR a (.code (.scope c)::k)) cs w)=.next (lone (b.atR a (.code c::.inScope c::k)) cs w):=
 by trivial
def Aw0 {b:Frame} {c:Code} {k:List Item} {cs:List Frame}:step P (lone (b.atR a (.inScope c::k)) cs w)=.next (lone (b.atR a k) cs w):=
 by trivial
def Aw1 {F:Fence} {n:Nat} {c:Code} {Q:Exit->Act->World->Prop} (h:c.wpIn F n P (Exit.noGoto Q) a w):(Code.scope c).wpIn F n P Q a w:=by
 intro b k cs hro hb hr;have h0:(lone (b.atR a (.code (.scope c)::k)) cs w).fenced P F:=fenced_calm hb hr rfl;obtain⟨e,a₁,w₁,hq,jo⟩:=h b (.inScope c::k) cs hro hb hr;cases e with
 |normal=>exact⟨.normal,a₁,w₁,hq,.head h0 Ub (StepsIn.trans jo (.one (fenced_calm hb hr rfl) Aw0))⟩
 |exit id=>
  have hx:exitTo id (.inScope c::k)=exitTo id k:=by trivial
  exact⟨.exit id,a₁,w₁,hq,λk' hk=>.head h0 Ub (jo.1 k' (by trivial)),
   λhr' hk=>let ⟨k₁,h1,h2⟩:=jo.2 hr' (by trivial);⟨k₁,h1,.head h0 Ub h2⟩⟩
 |goto l=>trivial
 |ret=>exact⟨_,a₁,w₁,hq,.of_steps (.one h0 Ub) jo⟩
 |panic ch=>exact⟨_,a₁,w₁,hq,.of_steps (.one h0 Ub) jo⟩
 |outgrown=>exact⟨_,a₁,w₁,hq,.of_steps (.one h0 Ub) jo⟩
def Rg (P:Program) (Y:TypeId->Ty) (Gl:World->Prop) (nt:Nat) (b:Bool) (c:Code):Prop:=
 ∀{X:Cx} {yd:Yd} {ds:List Deferred} {rd:Option Nat} {fu:Nat} (_:Sur P Gl X yd) (_:b=false->rd=none) (Q:Dp) (d9:Orc) (e:Env) (a:Act) (w:World),
  wp (Computes P Gl) (Does P Y Gl) Y nt yd b c Q d9 e->Cq Y X nt ds e a w->c.wpIn (Fr rd) fu P (Mj Y X nt ds Q) a w
theorem Xq {vis:Nat->Nat} {l:Nat} {r r':Loop} (h:w.heap[l]?=some (.loop r)):KeepV vis w (w.putObj l (.loop r')):=by
 refine⟨λb i _=>?_,λb _ es c hb=>?_,λb cs t z hb=>?_⟩
 ·grind[World.putObj_heap_same,World.cell?,World.putObj_heap_other]
 ·grind[World.putObj_heap_other]
 grind[World.putObj_heap_other]
theorem Uc {l:Nat} {o:Obj}:Same w (w.putObj l o):=⟨rfl,rfl,rfl,by simp⟩
end
def Im {b:Bool} {p:Prop} (h:ifB b p):b=true/\p:=by
 cases b with
 |true=>trivial
 |false=>exact h.elim
theorem Ud:∀{e:Env},Js e=true->∀(t k:Nat),Env.get (Em e) t k=if t=0 then (if k<FAR then e.get 0 k else if k<FAR+FAR then e.get 0 (k - FAR) else .any) else e.get t k
 | [],_,t,k=>by simp[Em,Env.get]
 |(0,k',x)::e,h,t,k=>by
  simp only[Js,aE]at h;have hk:=Bh h.1;have ih:=Ud h.2;grind[Em,Am]
 |(n+1,k',x)::e,h,t,k=>by
  have ih:=Ud (e:=e) h;have he:Em ((n+1,k',x)::e)=(n+1,k',x)::Em e:=rfl;grind[Am]
theorem Xr:∀(e:Env) (t k:Nat),Env.get (back e) t k=if t=0 then (if k<FAR then e.get 0 (k+FAR) else .any) else e.get t k
 | [],t,k=>by simp[back,Env.get]
 |(0,k',x)::e,t,k=>by
  have ih:=Xr e
  by_cases ht:t=0
  ·subst ht;simp only[back,eV];cases h1:Nat.blt k' FAR with
   |true=>
    have:=Bh h1;grind[Am]
   |false=>
    have vu:¬k'<FAR:=λhh=>by
     grind[Nat.blt,Nat.ble_eq_true_of_le]
    rw[cC];cases h2:Nat.blt k' (FAR+FAR) with
    |true=>
     have:=Bh h2;rw[bA,Am,ih,bG rfl,Am]
     repeat' split
     all_goals first|rfl|omega
    |false=>
     grind[Nat.blt,Nat.ble_eq_true_of_le,Am]
  grind[Bb,back]
 |(n+1,k',x)::e,t,k=>by
  have ih:=Xr e;have he:back ((n+1,k',x)::e)=(n+1,k',x)::back e:=rfl;grind[Am]
section
variable {P:Program} {Y:TypeId->Ty} {Gl:World->Prop} {X:Cx} {nt:Nat} {ds:List Deferred} {e e0:Env} {a:Act} {w:World} {G:Gh} {rd:Option Nat} {fu:Nat} {yd:Yd}
theorem Aw2 {O:Nat->Prop} {x:T} {v:Value} (hx:Ja x=true) (h:Aa (Gh0 G.vis) w (λ_=>False) x v):VOK G w O Y e x.dem v:=by
 have h:=Aa.pure (G:=Gh0 G.vis) (G':=G) (O':=O) rfl hx h;cases x with
 |d x=>simp only[Aa]at h;exact VOK.dem h
 |fn f a b=>exact .plain h (Afx hx) rfl trivial
 |_=>trivial
theorem Agt {O:Nat->Prop} {E E0:Env}:∀{ps:List Tmp} {xs:List T} {vs:List Value} {acc r:Env} {A:Array Value},params nt ps xs acc=some r->Ac (Gh0 G.vis) w (λ_=>False) xs vs->Du xs=true->A.size=nt->
  (∀t,t<FAR->VOK G w O Y E (Env.get (acc++E0) 0 t) (A.getD t undef))->
  ((ps.zip vs).foldl (λt (p,v)=>t.setIfInBounds p v) A).size=nt/\(∀t,t<FAR->VOK G w O Y E (Env.get (r++E0) 0 t) (((ps.zip vs).foldl (λt (p,v)=>t.setIfInBounds p v) A).getD t undef))/\
   (∀t k,t≠0∨FAR<=k->Env.get (r++E0) t k=Env.get (acc++E0) t k)/\ps.length=vs.length
 | [],[],vs,acc,r,A,h,hr,_,hA,ha=>by
  simp only[params,aA]at h;subst h;simp only[Ac]at hr;subst hr;exact⟨hA,ha,λ_ _ _=>rfl,rfl⟩
 |t::ps,x::xs,vs,acc,r,A,h,hr,hp,hA,ha=>by
  simp only[params]at h;simp only[Ac]at hr;obtain⟨v,us,rfl,h1,h2⟩:=hr;simp only[Du,aE]at hp;cases hb:(Nat.blt t nt&&Nat.blt t FAR) with
  |false=>grind
  |true=>
   rw[hb,bA]at h;simp only[aE]at hb;have ht1:=Bh hb.1;have qj:=Bh hb.2;obtain⟨q1,q2,q3,q4⟩:=Agt (O:=O) (E:=E) (E0:=E0) (A:=A.setIfInBounds t v) h h2 hp.2 (by grind) (λt' ht'=>by
    rw[bZ,Am]
    by_cases htt:t=t'
    ·subst htt;rw[bG ⟨rfl,rfl⟩];have:(A.setIfInBounds t v).getD t undef=v:=by simp[aW,hA,ht1]
     grind[Aw2]
    ·rw[bI (λhh=>htt hh.2)];have:(A.setIfInBounds t v).getD t' undef=A.getD t' undef:=by simp[aW,Array.getElem?_setIfInBounds_ne htt]
     grind)
   refine⟨q1,q2,λt' k hk=>?_,by simp[q4]⟩;grind[Bb]
 | [],_::_,_,_,_,_,h,_,_,_,_|_::_,[],_,_,_,_,h,_,_,_,_=>by trivial
def JB (X:Cx) (Ho Z:Nat->Prop) (vi v2:Nat->Nat) (W2:World):Oth:=λp H' jy w'=>
 p=0/\X.J 0 Ho jy w'/\(∀b,Ho b->H' b)/\(∀b,Z b->H' b/\jy b=v2 b/\w'.heap[b]?=W2.heap[b]?)/\(∀b,vi b<=jy b)/\KeepV vi W2 w'/\Same W2 w'
def Amc {X:Cx} {Ho Z:Nat->Prop} {vi v2:Nat->Nat} {W2:World}:(JB X Ho Z vi v2 W2).Stable:=by
 refine⟨λp H' jy w w' ⟨h0,h1,h2,h3,h4,h5,h6⟩ hb hk hs=>⟨h0,X.st.1 _ _ _ _ _ h1 (λb fj=>hb b (h2 b fj)) hk hs,h2,λb hz=>⟨(h3 b hz).1,(h3 b hz).2.1,(hb b (h3 b hz).1).trans (h3 b hz).2.2⟩,h4,h5.trans (hk.le h4),h6.trans hs⟩,
  λp H' jy vi'' w ⟨h0,h1,h2,h3,h4,h5,h6⟩ hl he=>⟨h0,X.st.2 _ _ _ _ _ h1 hl (λb fj=>he b (h2 b fj)),h2,λb hz=>⟨(h3 b hz).1,(he b (h3 b hz).1).trans (h3 b hz).2.1,(h3 b hz).2.2⟩,λb=>bJ (h4 b) (hl b),h5,h6⟩⟩
def Ph (s:Nat) (st:Nat->Env) (Q:Dp) (p:Nat) (ep:Env) (state:LoopState) (af:Option Code):Prop:=
 (p<=s/\ep=st p/\state=.ready/\af=none)∨(p=s+1/\state=.done/\∃o,(∃i,af=some (.exit i)/\Q (.exit i) o ep)∨(af=some .ret/\Q .ret o ep))
def JI (Y:TypeId->Ty) (X:Cx) (nt:Nat) (ds:List Deferred) (a:Act) (G:Gh) (D l n1 s:Nat) (st:Nat->Env) (rec:LoopState->Option Code->Loop) (Q:Dp):Oth:=λp H vi W=>
 (∀b,b<n1->H b)/\∃Gp ep state af,Rel Y X nt ds ep a W Gp/\Gp.H=G.H/\Gp.dm=G.dm/\(∀b,Lj ep Gp b->H b/\b≠D/\b≠l/\b ∉ G.dm)/\W.heap[D]?=some (.deferred (some []))/\W.heap[l]?=some (.loop (rec state af))/\
  (∀b,H b->vi b<=Gp.vis b)/\(∀b,¬H b->Gp.vis b<=vi b)/\Ph s st Q p ep state af
def Amd {D l n1 s:Nat} {st:Nat->Env} {rec:LoopState->Option Code->Loop} {Q:Dp} (hD:D<n1) (hl:l<n1) (hG:∀b,G.H b->b<n1) (ec:∀b,b∈G.dm->b<n1):(JI Y X nt ds a G D l n1 s st rec Q).Stable:=by
 refine⟨λp H vi w w' ⟨h0,Gp,ep,state,af,R,h1,h2,h3,h4,h5,h6,h7,h8⟩ hb hk hs=>⟨h0,Gp,ep,state,af,?_,h1,h2,h3,by grind,by grind,h6,h7,h8⟩,
  λp H vi jy w ⟨h0,Gp,ep,state,af,R,h1,h2,h3,h4,h5,h6,h7,h8⟩ i7 he=>⟨h0,Gp,ep,state,af,R,h1,h2,h3,h4,h5,λb hb=>by grind,λb hb=>bJ (h7 b hb) (i7 b),h8⟩⟩
 have s4:∀b,Lj ep Gp b∨Gp.H b∨b∈Gp.dm->w'.heap[b]?=w.heap[b]?:=λb hh=>by
  grind
 refine R.stay hs ⟨λb i hi=>?_,λb hv es c he=>?_,hk.rows⟩ s4
 ·by_cases hH:H b
  ·grind[World.cell?_of_block]
  ·exact hk.cell b i (aX hi (h7 b hH))
 ·by_cases hH:H b
  ·grind
  ·exact hk.map b (aX hv (h7 b hH)) es c he
theorem Ame (S:Set P Y Gl) (U:Sur P Gl X yd) (jh:yd.m=0) {ps:Array Tmp} {iq c:Code} (va:Rg P Y Gl nt true iq) (hc:Rg P Y Gl nt true c) {Q:Dp} {fn:FuncId} {D l n1 m s:Nat} {ys:Nat->List T} {st:Nat->Env} {ob:Nat->Orc} {rec:LoopState->Option Code->Loop}
  (fe:rec=λst pe=>{ state:=st,pending:=pe,fn,tmps:=a.tmps,params:=ps,assign:=iq,body:=c,defers:=D }) (hDl:D<n1) (hll:l<n1) (hlD:l≠D) (hbn:X.base<=n1) (hG:∀b,G.H b->b<n1/\b≠D/\b≠l) (ec:∀b,b∈G.dm->b<n1/\b≠D/\b≠l)
  (hb:∀p,p<m->p<=s->Wn nt ps.toList (ys p) λpe=>ifB (Js (st p)) (wp (Computes P Gl) (Does P Y Gl) Y nt yd true iq (Vc.X.only λo e=>wp (Computes P Gl) (Does P Y Gl) Y nt yd true c (Vc.X.round (λe'=>p<s/\le (back e') (st (p+1))) (p=s) Q) o e) (ob p) (pe++Em (st p)))):
  Pf P (JI Y X nt ds a G D l n1 s st rec Q) ⟨l,m,s,ys⟩:=by
 classical
 intro p H vi W vs hpm de hJ jd ae nr da;obtain⟨o6,Gp,ep,state,af,Rp,hH,ov,l7,hD,hl,bq,cj,ow⟩:=hJ;rcases ow with ⟨_,rfl,rfl,rfl⟩|⟨qe,_⟩
 case inr=>grind
 have vz:=hb p hpm de;unfold Wn at vz;split at vz
 case h_2=>trivial
 rename_i pe wj;obtain⟨_,vz⟩:=Im vz;obtain⟨hnf,vz⟩:=Im vz;have hlt:l<W.heap.size:=(aP.1 hl).1;have hDW:D<W.heap.size:=(aP.1 hD).1
 -- the world in which the body begins
 obtain⟨W2,hW2⟩:∃W2,W.putObj l (.loop { rec .ready none with state:=.busy })=W2:=⟨_,rfl⟩
 have hsz2:W2.heap.size=W.heap.size:=by rw[<-hW2];simp
 have kr:W2.heap[l]?=some (.loop { rec .ready none with state:=.busy }):=by grind[World.putObj_heap_same]
 have hoth2:∀b,b≠l->W2.heap[b]?=W.heap[b]?:=λb hb=>by grind[World.putObj_heap_other]
 have sv:∀vis,KeepV vis W W2:=λvis=>by grind[Xq]
 have mo:Same W W2:=by grind[Uc]
 -- what is visible to the body
 obtain⟨v2,hv2d⟩:∃v2:Nat->Nat,v2=λb=>if H b then Gp.vis b else vi b:=⟨_,rfl⟩
 have hv2H:∀b,H b->v2 b=Gp.vis b:=λb h=>by grind
 have hv2N:∀b,¬H b->v2 b=vi b:=λb h=>by grind
 have hGv2:∀b,Gp.vis b<=v2 b:=λb=>by
  grind
 have hiv2:∀b,vi b<=v2 b:=λb=>by
  grind
 have hGH:∀b,G.H b->H b:=λb h=>o6 b (hG b h).1
 -- the blocks that are not the body's
 let Z:Nat->Prop:=λb=>b<W.heap.size/\(¬H b∨b=D∨b=l∨b∈G.dm)
 have hZ:∀b,Z b↔b<W.heap.size/\(¬H b∨b=D∨b=l∨b∈G.dm):=λb=>gU
 clear_value Z
 let X2:Cx:={ X with sh:=a.tmps,J:=JB X G.H Z vi v2 W2,st:=Amc }
 have wx:X2.J=JB X G.H Z vi v2 W2:=rfl;have tc:X2.fz=X.fz:=rfl;have hX2b:X2.base=X.base:=rfl;have hX2c:X2.c0=X.c0:=rfl;have hX2v:X2.vis=X.vis:=rfl;have hX2k:X2.bk0=X.bk0:=rfl;have hX2s:X2.sh=a.tmps:=rfl
 clear_value X2
 let X1:Cx:={ X with sh:=a.tmps,J:=JB X G.H Z vi v2 W,st:=Amc }
 have wy:X1.J=JB X G.H Z vi v2 W:=rfl;have wz:X1.fz=X.fz:=rfl;have hX1b:X1.base=X.base:=rfl;have hX1c:X1.c0=X.c0:=rfl;have hX1v:X1.vis=X.vis:=rfl;have hX1k:X1.bk0=X.bk0:=rfl;have hX1s:X1.sh=a.tmps:=rfl;have hX12s:X1.sh=X2.sh:=by grind
 clear_value X1
 have hU1:Sur P Gl X1 yd:=⟨λp H vi w h=>by rw[wy]at h;exact U.gl _ _ _ _ h.2.1,λp H vi w vs hp=>by omega,.inl jh⟩
 have hU2:Sur P Gl X2 yd:=⟨λp H vi w h=>by rw[wx]at h;exact U.gl _ _ _ _ h.2.1,λp H vi w vs hp=>by omega,.inl jh⟩
 obtain⟨G2,hG2⟩:∃G2:Gh,({ vis:=v2,bk:=Gp.bk,tk:=Gp.tk,H:=λb=>b<W.heap.size/\(Z b∨G.H b),dm:=⟨[],.nil⟩ }:Gh)=G2:=⟨_,rfl⟩
 have xa:G2.vis=v2:=by grind
 have hG2H:∀b,G2.H b↔b<W.heap.size/\(Z b∨G.H b):=λb=>by subst hG2;trivial
 have uh:Ac (Gh0 G2.vis) W (λ_=>False) (ys p) vs.toList:=by
  refine Ac.mono (O:=λ_=>False) (G:=Gh0 vi) (G':=Gh0 G2.vis) (w:=W) (w':=W) ⟨λb=>?_,.refl _ _,λb hb=>hb.elim⟩ (λ_ _=>rfl) da
  show vi b<=G2.vis b
  rw[xa];exact hiv2 b
 have m7:Ext X.fz Gp G2 W W:=⟨λb=>by grind,.refl _ _,λb hb=>rfl⟩
 have hown2:∀b,Lj (st p) Gp b->b<W.heap.size:=λb hb=>by
  grind
 have hownH:∀b,Lj (st p) Gp b->¬G.H b:=λb hb=>by
  rw[<-hH];rcases hb with ⟨id,h1,rfl⟩|⟨k,h1⟩
  ·exact (Rp.mem.box id h1).1
  ·exact (Rp.tks k b h1).2.2.1
 have bj:Env.get (st p) 0 BIG=.any:=by
  have:∀{e:Env},Js e=true->Env.get e 0 BIG=.any:=by
   intro e
   induction e with
   |nil=>intro _;rfl
   |cons q e ih=>
    obtain⟨t,k,x⟩:=q;intro h;cases t with
    |zero=>
     simp only[Js,aE]at h;have:=Bh h.1;grind[Bb]
    |succ n=>rw[Bb (by omega)];exact ih h
  exact this hnf
 have hFB:FAR+FAR<=BIG:=by decide
 -- the frame of the round
 obtain⟨A,hA⟩:∃A,(ps.toList.zip vs.toList).foldl (λt (p,v)=>t.setIfInBounds p v) a.tmps=A:=⟨_,rfl⟩
 have hpar:=λlift:(∀x v,VOK Gp W X.fz Y (st p) x v->VOK G2 W X.fz Y (pe++Em (st p)) x v)=>Agt (Y:=Y) (G:=G2) (w:=W) (O:=X.fz) (E:=pe++Em (st p)) (E0:=Em (st p)) (A:=a.tmps) wj uh nr Rp.size (λt ht=>by
  rw[cH,Ud hnf,bG rfl,bG ht];have:=lift _ _ (Rp.slots t);unfold De at this;rw[bG ht]at this;exact this)
 have hpar0:=Agt (Y:=Y) (G:=G2) (w:=W) (O:=X.fz) (E:=pe++Em (st p)) (E0:=[]) (A:=Array.replicate nt undef) wj uh nr (by simp) (λt ht=>VOK.any _);have i9:vs.size=ps.size:=by grind
 have dk:∀t k,t≠0∨FAR<=k->Env.get (pe++Em (st p)) t k=Env.get (Em (st p)) t k:=by
  have hgen:∀{ps:List Tmp} {xs:List T} {acc r:Env},params nt ps xs acc=some r->∀t k,t≠0∨FAR<=k->Env.get (r++Em (st p)) t k=Env.get (acc++Em (st p)) t k:=by
   intro ps
   induction ps with
   |nil=>grind[params]
   |cons q ps ih=>
    intro xs acc r h t k hk;cases xs with
    |nil=>trivial
    |cons x xs=>
     simp only[params]at h;cases hb:(Nat.blt q nt&&Nat.blt q FAR) with
     |false=>grind
     |true=>
      rw[hb,bA]at h;simp only[aE]at hb;have:=Bh hb.2;grind[Bb]
  exact λt k hk=>hgen wj t k hk
 have hjj0:=Rp.jj;rw[bj,hH]at hjj0;have R2:Rel Y X1 nt [] (pe++Em (st p)) { tmps:=A,defers:=[] } W G2:=by
  have tj:∀t k,t≠0->Env.get (pe++Em (st p)) t k=Env.get (st p) t k:=λt k ht=>by grind[Ud]
  refine Rp.re m7 wz (by grind) (by grind) hX1b hX1c hX1k (λb hb=>?_) (by omega) tj ?_ (by grind) (by subst hG2;intro D hD;exact (eP hD).elim) (λlift t=>?_) (λb hb=>?_) (λb hb=>?_) (λb hb=>?_) (λb hb=>?_) ?_
  ·grind
  ·have lift:∀x v,VOK Gp W X.fz Y (st p) x v->VOK G2 W X.fz Y (pe++Em (st p)) x v:=λx v h=>
    VOK.mono m7 (λid _=>by subst hG2;rfl) (λid h=>by grind) (λk h=>by grind)
     (λk b _ hb _=>by obtain⟨q1,q2,q3,q4⟩:=l7 b (.inr ⟨k,hb⟩);exact⟨by subst hG2;exact hb,rfl,by grind⟩) h
   grind
  ·by_cases ht:t<FAR
   ·have:=(hpar lift).2.1 t ht;rw[hA]at this;unfold De;rw[bG ht];exact this
   ·rw[dk 0 t (.inr (by omega)),Ud hnf,bG rfl,bI ht];split
    ·rename_i h2;have:=lift _ _ (Rp.slots (t - FAR));unfold De at this ⊢;rw[bG (by omega)]at this;rw[bI ht,hX1s];exact this
    ·exact VOK.any _
  ·grind
  ·rw[hX1b]at hb;rw[hX1v,xa]
   by_cases h:H b
   ·rw[hv2H b h];exact Rp.old b hb
   grind
  ·grind
  ·rw[wz]at hb;have:=Rp.fzh b hb;grind
  ·rw[wy,dk 0 BIG (.inr (by omega)),Ud hnf,bG rfl,bI (by omega),bI (by omega),xa];refine⟨rfl,?_,λb hb=>(hG2H b).2 ⟨jd b (hGH b hb),.inr hb⟩,λb hb=>⟨(hG2H b).2 ⟨((hZ b).1 hb).1,.inl hb⟩,rfl,rfl⟩,hiv2,.refl _ _,.refl _⟩;exact X.st.2 _ _ _ _ _ hjj0 hGv2 (λb hb=>hv2H b (hGH b hb))
 have hwa:=va (fu:=0) (rd:=some l) hU1 (by grind) _ (ob p) _ _ W vz ⟨G2,R2⟩;have hy:=run_yield (P:=P) (args:=vs) hl (by grind);rw[fe]at hy;refine⟨fn,_,iq,c,hy,roundIn_of_wpIn trivial ?_⟩;have hAA:(ps.zip vs).foldl (λtmps (t,a)=>tmps.setIfInBounds t a) a.tmps=A:=by
  rw[<-hA,<-Array.foldl_toList];simp
 rw[hAA];refine dE hwa λex1 a1 Wa ve=>?_;cases ex1 with
 |exit i=>obtain⟨o,e',h1,_⟩:=ve;trivial
 |ret=>obtain⟨o,e',h1,_⟩:=ve;trivial
 |panic ch=>obtain⟨v,o,e',_,h1,_⟩:=ve;trivial
 |goto t=>trivial
 |outgrown=>exact ve.elim
 |normal=>
 obtain⟨oa,ea,hbp1,⟨Ga,Ra⟩⟩:=ve;have uf:=Ra.jj;rw[wy]at uf;obtain⟨ja0,ja1,ja2,ja3,ja4,ja5,ja6⟩:=uf;have hZl:Z l:=(hZ l).2 ⟨hlt,.inr (.inr (.inl rfl))⟩;have hla:Wa.heap[l]?=some (.loop (rec .ready none)):=by grind
 have hlta:l<Wa.heap.size:=(aP.1 hla).1;obtain⟨Wb,hWb⟩:∃Wb,Wa.putObj l (.loop { rec .ready none with state:=.busy })=Wb:=⟨_,rfl⟩
 have hszb:Wb.heap.size=Wa.heap.size:=by rw[<-hWb];simp
 have jr:∀b,b≠l->Wb.heap[b]?=Wa.heap[b]?:=λb hb=>by grind[World.putObj_heap_other]
 have hlb:Wb.heap[l]?=some (.loop { rec .ready none with state:=.busy }):=by grind[World.putObj_heap_same]
 have xc:∀vis,KeepV vis Wa Wb:=λvis=>by grind[Xq]
 have td:Same Wa Wb:=by grind[Uc]
 refine⟨Wb,by grind[run_beginRound],?_⟩;have ui:∀b,Lj ea Ga b->b≠l/\¬Ga.H b:=λb hb=>by
  have:¬Ga.H b:=by
   rcases hb with ⟨id,h1,rfl⟩|⟨k,h1⟩
   ·exact (Ra.mem.box id h1).1
   ·exact (Ra.tks k b h1).2.2.1
  grind
 have R2b:Rel Y X2 nt [] ea a1 Wb Ga:=by
  refine Ra.re ⟨λb=>aI _,xc _,λb hb=>jr b λhh=>?_⟩ (by grind) rfl rfl (by omega) (by grind) (by grind) (λb hb=>⟨jr b (ui b hb).1,rfl,(ui b hb).2⟩) (by omega) (λ_ _ _=>rfl) Ra.size Ra.defers (λD' hD'=>?_)
   (λlift t=>by have:=lift _ _ (Ra.slots t);grind) (λb hb=>Ra.fresh b (by omega)) (λb hb=>by rw[Ra.old b (by omega),hX1v,hX2v]) (λb hb=>by have:=Ra.hlt b hb;omega) (λb hb=>Ra.fzh b (by grind)) ?_
  ·subst hh;rw[wz]at hb;have:=Rp.fzh b hb;grind
  ·obtain⟨q1,q2,q3⟩:=Ra.marks D' hD';grind
  ·rw[wx,ja0];refine⟨rfl,X.st.1 _ _ _ _ _ ja1 (λb hb=>jr b (hG b hb).2.2) (xc _) td,ja2,λb hb=>⟨(ja3 b hb).1,(ja3 b hb).2.1,?_⟩,ja4,⟨λb i hi=>?_,λb hv es cl he=>?_,λb cs t z he=>?_⟩,?_⟩
   ·grind
   ·rw[(xc vi).cell b i hi,ja5.cell b i hi,<-(sv vi).cell b i hi]
   ·have hbl:b≠l:=λhh=>by grind
    rw[jr b hbl];exact ja5.map b hv es cl (by grind)
   ·have hbl:b≠l:=λhh=>by grind
    rw[jr b hbl];exact ja5.rows b cs t z (by grind)
   ·exact⟨td.os.trans (ja6.os.trans mo.os.symm),td.tape.trans (ja6.tape.trans mo.tape.symm),td.output.trans (ja6.output.trans mo.output.symm),by have:=ja6.size;omega⟩
 have hw:=hc (fu:=0) (rd:=some l) hU2 (by grind) _ oa _ _ Wb hbp1 ⟨Ga,R2b⟩;refine dE hw λex a3 W3 hq=>?_
 -- what is there behind the body
 have bi:∀(dq:Option Code) (e':Env),Cq Y X2 nt [] e' a3 W3->(∀ep,le (back e') ep∨ep=back e'->Ph s st Q (p+1) ep (if dq.isNone then .ready else .done) dq->(∃v w',(Instr.endRound l dq).run P W3=.ok v w'/\
   (Ending.returned v=.returned (.bool dq.isNone)/\JI Y X nt ds a G D l n1 s st rec Q (p+1) (Tt H W w') vi w'/\(∀b,b<W.heap.size->¬H b->w'.heap[b]?=W.heap[b]?)/\KeepV vi W w'/\Same W w'))):=by
  intro dq e' ⟨G3,R3⟩ ep i7 ow;have hj3:=R3.jj;rw[wx]at hj3;obtain⟨_,dg,hHo,hZ3,cd,n8,lv⟩:=hj3;have hsz3:W.heap.size<=W3.heap.size:=by have:=lv.size;omega
  have hl3:W3.heap[l]?=some (.loop { rec .ready none with state:=.busy }):=by grind
  have hZk:∀b,Z b->b≠l->W3.heap[b]?=W.heap[b]?:=λb hb hbl=>(hZ3 b hb).2.2.trans (hoth2 b hbl);have db:=run_endRound (P:=P) dq hl3;obtain⟨W4,hW4⟩:∃W4,W3.putObj l (.loop (rec (if dq.isNone then .ready else .done) dq))=W4:=⟨_,rfl⟩
  have hend':(Instr.endRound l dq).run P W3=.ok (.bool dq.isNone) W4:=by grind
  have hsz4:W4.heap.size=W3.heap.size:=by rw[<-hW4];simp
  have tn:W4.heap[l]?=some (.loop (rec (if dq.isNone then .ready else .done) dq)):=by grind[World.putObj_heap_same]
  have pw:∀b,b≠l->W4.heap[b]?=W3.heap[b]?:=λb hb=>by grind[World.putObj_heap_other]
  have xd:∀vis,KeepV vis W3 W4:=λvis=>by grind[Xq]
  have hsm4:Same W3 W4:=by grind[Uc]
  have uj:∀b,Lj e' G3 b->¬G3.H b/\b<W3.heap.size:=λb hb=>by
   rcases hb with ⟨id,h1,rfl⟩|⟨k,h1⟩
   ·exact⟨(R3.mem.box id h1).1,(R3.mem.box id h1).2.1⟩
   ·exact⟨(R3.tks k b h1).2.2.1,(R3.tks k b h1).2.1⟩
  have hownl:∀b,Lj e' G3 b->b≠l:=λb hb hh=>(uj b hb).1 (hZ3 b ((hZ b).2 (by omega))).1
  -- the outer frame tw
  obtain⟨Go,hGo⟩:∃Go:Gh,({ G3 with H:=G.H,dm:=G.dm }:Gh)=Go:=⟨_,rfl⟩
  have tj:∀t k,t≠0->Env.get (back e') t k=Env.get e' t k:=λt k ht=>by rw[Xr,bI ht]
  have Ro:Rel Y X nt ds (back e') a W4 Go:=by
   refine R3.re (X':=X) ⟨λb=>by subst hGo;grind,xd _,λb hb=>?_⟩ tc.symm (by grind) (by grind) hX2b.symm hX2c.symm hX2k.symm (λb hb=>⟨pw b (hownl b hb),by subst hGo;rfl,λhh=>?_⟩) (by omega) tj Rp.size
    (by subst hGo;rw[<-ov];exact Rp.defers) (λD' hD'=>?_) (λlift t=>?_) (λb hb=>?_) (λb hb=>?_) (λb hb=>?_) (λb hb=>?_) ?_
   ·rw[tc]at hb;exact pw b (hG b (by rw[<-hH];exact Rp.fzh b hb)).2.2
   ·subst hGo;grind
   ·subst hGo;obtain⟨q1,q2,q3⟩:=Rp.marks D' (by grind);grind
   ·rw[tc]at lift;rw[Xr,bG rfl];split
    ·rename_i ht;have h1:=R3.slots (t+FAR);rw[tc]at h1 ⊢;have h1:=lift _ _ h1;unfold De at h1 ⊢;rw[bI (by omega),Nat.add_sub_cancel,hX2s]at h1;rw[bG ht];exact h1
    ·exact VOK.any _
   ·subst hGo;exact R3.fresh b (by omega)
   ·subst hGo;have:=R3.old b (by omega);grind
   ·subst hGo;grind
   ·subst hGo;rw[<-hH];exact Rp.fzh b hb
   ·subst hGo;rw[Xr,bG rfl,bI (by omega)];exact X.st.1 _ _ _ _ _ dg (λb hb=>pw b (hG b hb).2.2) (xd _) hsm4
  obtain⟨Gq,Rq,hqv,hqH,hqd,hqo⟩:∃Gq,Rel Y X nt ds ep a W4 Gq/\Gq.vis=G3.vis/\Gq.H=G.H/\Gq.dm=G.dm/\∀b,Lj ep Gq b->Lj e' G3 b:=by
   rcases i7 with i7|rfl
   ·obtain⟨Gq,Rq,q1,q2,q3,q4,q5,q6⟩:=Pk i7 Ro;refine⟨Gq,Rq,by grind,by grind,by grind,λb hb=>?_⟩;rcases hb with ⟨id,h1,h2⟩|⟨k,h1⟩
    ·have:=q6 id h1;rw[tj 2 id (by decide)]at this;exact .inl ⟨id,this,by grind⟩
    ·obtain⟨k',h2⟩:=q5 k b h1;exact .inr ⟨k',by subst hGo;exact h2⟩
   ·refine⟨Go,Ro,by grind,by grind,by grind,λb hb=>?_⟩;rcases hb with ⟨id,h1,h2⟩|⟨k,h1⟩
    ·rw[tj 2 id (by decide)]at h1;exact .inl ⟨id,h1,by rw[<-h2];subst hGo;rfl⟩
    ·exact .inr ⟨k,by subst hGo;exact h1⟩
  have hnotH:∀b,b<W.heap.size->¬H b->W4.heap[b]?=W.heap[b]?:=λb hb hh=>by
   grind
  refine⟨_,W4,hend',rfl,⟨λb hb=>.inl (o6 b hb),Gq,ep,_,dq,Rq,hqH,hqd,λb hb=>?_,?_,tn,λb hb=>?_,λb hb=>?_,ow⟩,hnotH,((sv vi).trans n8).trans (xd vi),(mo.trans lv).trans hsm4⟩
  ·have hb:=hqo b hb;obtain⟨q1,q2⟩:=uj b hb
   by_cases hbW:b<W.heap.size
   ·have hnZ:¬Z b:=λhz=>q1 (hZ3 b hz).1;refine⟨.inl (Classical.byContradiction λhh=>hnZ ((hZ b).2 ⟨hbW,.inl hh⟩)),λhh=>hnZ ((hZ b).2 ⟨hbW,.inr (.inl hh)⟩),λhh=>hnZ ((hZ b).2 ⟨hbW,.inr (.inr (.inl hh))⟩),λhh=>hnZ ((hZ b).2 ⟨hbW,.inr (.inr (.inr hh))⟩)⟩
   ·exact⟨.inr ⟨by omega,by omega⟩,λhh=>by omega,λhh=>by omega,λhh=>by
     grind⟩
  ·grind
  ·rw[hqv];exact cd b
  ·rw[hqv]
   by_cases hbW:b<W.heap.size
   ·have hh:¬H b:=λhh=>hb (.inl hh);grind
   ·rw[R3.fresh b (fV.1 λhh=>hb (.inr ⟨by omega,by omega⟩))];exact bV _
 cases ex with
 |normal=>
  obtain⟨o,e',⟨h1,h2⟩,h3⟩:=hq;obtain⟨v,w',q1,q2,q3⟩:=bi none e' h3 (st (p+1)) (.inl h2) (.inl ⟨h1,rfl,rfl,rfl⟩);refine⟨v,w',q1,?_,q3⟩;rw[q2];have:(p != s)=true:=by simp;omega
  simp[this]
 |ret=>
  obtain⟨o,e',⟨h1,h2⟩,h3⟩:=hq;obtain⟨v,w',q1,q2,q3⟩:=bi (some .ret) e' h3 (back e') (.inr rfl) (.inr ⟨by rw[h1],rfl,o,.inr ⟨rfl,h2⟩⟩);refine⟨v,w',q1,?_,q3⟩;rw[q2];simp[h1]
 |exit i=>
  obtain⟨o,e',⟨h1,h2⟩,h3⟩:=hq;obtain⟨v,w',q1,q2,q3⟩:=bi (some (.exit i)) e' h3 (back e') (.inr rfl) (.inr ⟨by rw[h1],rfl,o,.inl ⟨i,rfl,h2⟩⟩);refine⟨v,w',q1,?_,q3⟩;rw[q2];simp[h1]
 |panic ch=>obtain⟨v,o,e',_,h1,_⟩:=hq;exact h1.elim
 |goto t=>exact hq.elim
 |outgrown=>exact hq.elim
theorem Amf:∀{rho:List (Nat×Nat)} {F:Nat},Wo rho=true->inL F rho=true->FAR<=rn rho F
 | [],F,_,h=>by trivial
 |(i,k)::r,F,hf,h=>by
  simp only[Wo,aE]at hf;simp only[inL,bW]at h;unfold rn;cases hi:i.beq F with
  |true=>exact aH hf.1
  |false=>exact Amf hf.2 (h.resolve_left (by grind))
theorem Aw3 (S:Set P Y Gl) (U:Sur P Gl X yd) {g:Operand} {ps:Array Tmp} {iq c:Code} (va:Rg P Y Gl nt true iq) (hc:Rg P Y Gl nt true c) {Q:Dp} {rho:List (Nat×Nat)} {xs:List T} {c9:Env} {m s:Nat} {ys:Nat->List T} {st:Nat->Env} {ob:Nat->Orc} {o':Orc} {f:FuncId} {fst f8:List T}
  (hx:evX e g=.fn f fst f8) (h:yd.m=0/\
    ifB (Gc rho&&Ce rho c9&&Fm rho xs&&Gb c9 c9&&Wo rho) (Mb (Cj (fst++f8) (Ea rho xs))/\m<=s/\(∀l,Does P Y Gl ⟨l,m,s,ys⟩ f (xs.take fst.length++.yl l::xs.drop fst.length) c9 (.new (.yl l) []) [])/\∀p,p<=m->Afa rho c9 (st p))/\
     ifB (Js (st 0)) (le e (st 0))/\
     (∀p,p<m->p<=s->Wn nt ps.toList (ys p) λpe=>ifB (Js (st p)) (wp (Computes P Gl) (Does P Y Gl) Y nt yd true iq (Vc.X.only λo e=>wp (Computes P Gl) (Does P Y Gl) Y nt yd true c (Vc.X.round (λe'=>p<s/\le (back e') (st (p+1))) (p=s) Q) o e) (ob p) (pe++Em (st p))))/\
     Q .normal o' (st m)) (R:Rel Y X nt ds e a w G):(Code.rangeFunc g ps iq c).wpIn (Fr none) fu P (Mj Y X nt ds Q) a w:=by
 obtain⟨jh,h1,h2,h3,h4⟩:=h;obtain⟨hb,kq,hms,hsh,m8⟩:=Im h1;obtain⟨hb,ge⟩:=and_true hb;obtain⟨hb,v8⟩:=and_true hb;obtain⟨hb,ee⟩:=and_true hb;obtain⟨hrr,htp⟩:=and_true hb;obtain⟨_,h2⟩:=Im h2;have hg:=Agr R hx (by simp) (λv hv=>by grind[evX]);have rz:=hg.rel;simp only[Aa]at rz;obtain⟨us,cvs,dr,r1,r2⟩:=rz;obtain⟨G0,R0,bn,hb0,hH0,hd0,ht0,hu0⟩:=Pk h2 R;refine wpIn_rangeFunc λfn lj=>?_;obtain⟨rec,fe⟩:∃rec:LoopState->Option Code->Loop,rec=λst pe=>{ state:=st,pending:=pe,fn,tmps:=a.tmps,params:=ps,assign:=iq,body:=c,defers:=w.heap.size }:=⟨_,rfl⟩
 obtain⟨W1,uc⟩:∃W1,(w.alloc (.deferred (some []))).alloc (.loop (rec .ready none))=W1:=⟨_,rfl⟩
 have hL1:W1.heap[w.heap.size+1]?=some (.loop (rec .ready none)):=by grind[World.alloc_heap_new,World.size_alloc]
 have hK1:W1.heap[w.heap.size]?=some (.deferred (some [])):=by grind[Below.heap_alloc,World.alloc_heap_new]
 have te:Below w.heap.size w W1:=by
  rw[<-uc];exact ((Below.refl _ w).alloc (aI _) _).alloc (by simp) _
 have kx:W1.heap.size=w.heap.size+2:=by rw[<-uc];simp
 obtain⟨R1,_⟩:=R0.after te (vis':=G0.vis) (λ_ _=>rfl) (λb hb=>R0.fresh b (by omega));obtain⟨wa,di⟩:=hsh (w.heap.size+1);have uk:∀{p:Nat} {w':World} {Gp:Gh},p<=m->Rel Y X nt ds (st p) a w' Gp->(∀F,c9.get 2 F≠.any->Gp.bk (rn rho F)=X.bk0 (rn rho F))/\Mem Y (λ_=>False) c9 w' (Jf rho Gp λb=>b<w'.heap.size/\∀F,c9.get 2 F≠.any->Gp.bk (rn rho F)≠b):=λ{p w' Gp} hp Rp=>by
  have hl:=m8 p hp;unfold Afa at hl;split at hl
  ·rename_i ps' _ d7;obtain⟨hn,mn⟩:=Ab8 Rp hrr htp v8 (Ab2 d7 (Gd hl));exact⟨λF hF=>(Rp.ownb _ (hn F hF).2.1).2 (Amf ge (hn F hF).1),mn⟩
  trivial
 obtain⟨ff,f1,f2,f3⟩:=wa;have f2':ff.name≠ "runtime.NumGoroutine":=by grind
 have f3':ff.body≠none:=by grind
 have hD0:∀b,G.H b->b<W1.heap.size/\b≠w.heap.size/\b≠w.heap.size+1:=λb hb=>by have:=R.hlt b hb;omega
 have px:∀b,b∈G.dm->b<W1.heap.size/\b≠w.heap.size/\b≠w.heap.size+1:=λb hb=>by
  have:=(aP.1 (R.marks b hb).2.1).1;omega
 have hbig0:Env.get (st 0) 0 BIG=.any∨True:=.inr trivial;refine⟨w.heap.size+1,[Ld w.heap.size],W1,{ target:=.fn (.func f) cvs,args:=us++#[Value.func (.yield (w.heap.size+1)) #[] #[]] },W1,f,us++#[Value.func (.yield (w.heap.size+1)) #[] #[]]++cvs,W1,?_,?_,λ_ _=>trivial,?_,λh=>by trivial,?_⟩
 ·rw[<-uc,fe];exact run_enterLoop_outer _ _ _ _ _
 ·simp only[resolve,dr,Deferred.ofValue];simp[Act.eval]
 ·simp[invoke,callFunc,f1,f2',f3']
 ·obtain⟨Gi,hGi⟩:∃Gi:Gh,(⟨G0.vis,λF=>G0.bk (rn rho F),λ_=>none,λb=>b<W1.heap.size,⟨[],.nil⟩⟩:Gh)=Gi:=⟨_,rfl⟩
  have i9:fst.length=us.toList.length:=r1.len;have py:Ext (λ_=>False) (Jf rho G λ_=>False) Gi w W1:=by
   have z8:∀b,0<G.vis b->b<w.heap.size:=λb h=>by
    rcases bL b w.heap.size with h'|h'
    ·exact h'
    ·rw[R.fresh b h']at h;omega
   refine⟨λb=>by subst hGi;show G.vis b<=G0.vis b;grind,⟨λb i hi=>bF (te.block _ (z8 b (Nat.lt_of_le_of_lt (bV _) hi))),λb h es c he=>by rw[te.block _ (z8 b h)];exact he,Me λb h=>te.block b h⟩,λb hb=>hb.elim⟩
  have f7:Ac Gi W1 (λ_=>False) (xs.take fst.length++.yl (w.heap.size+1)::xs.drop fst.length) (us++#[Value.func (.yield (w.heap.size+1)) #[] #[]]++cvs).toList:=by
   have hx0:Ac (Jf rho G λ_=>False) w (λ_=>False) xs (us.toList++cvs.toList):=Pg ee (Il (Gd kq) (r1.app r2));have gq:Ac Gi W1 (λ_=>False) xs (us.toList++cvs.toList):=Ac.mono py (λid d6=>by subst hGi;show G0.bk (rn rho id)=G.bk (rn rho id);rw[hb0]) hx0;have t1:=gq.take fst.length;have t2:=gq.drop fst.length;rw[i9,List.take_left]at t1;rw[i9,List.drop_left]at t2;rw[<-i9]at t1 t2;have h3:(us++#[Value.func (.yield (w.heap.size+1)) #[] #[]]++cvs).toList=us.toList++(Value.func (.yield (w.heap.size+1)) #[] #[]::cvs.toList):=by simp
   rw[h3];refine t1.app ?_;simp only[Ac,Aa];exact⟨_,_,rfl,rfl,t2⟩
  have ao:=Ame (a:=a) (G:=G) (ds:=ds) (Q:=Q) S U jh va hc (fn:=fn) (D:=w.heap.size) (l:=w.heap.size+1) (n1:=W1.heap.size) fe (by omega) (by omega) (by omega) (by have:=R.base;omega) hD0 px h3;have hJ0:JI Y X nt ds a G w.heap.size (w.heap.size+1) W1.heap.size s st rec Q 0 Gi.H Gi.vis W1:=by
   refine⟨λb hb=>by subst hGi;exact hb,G0,st 0,.ready,none,R1,hH0,hd0,λb hb=>?_,hK1,hL1,λb _=>by subst hGi;grind,λb _=>by subst hGi;grind,.inl ⟨bV _,rfl,rfl,rfl⟩⟩;have hbw:b<w.heap.size/\b ∉ G.dm:=by
    have i8:∀D,D∈G.dm->w.heap[D]?=some (.deferred (some [])):=λD hD=>(R.marks D hD).2.1;rcases hb with ⟨id,q1,rfl⟩|⟨k,q1⟩
    ·refine⟨(R0.mem.box id q1).2.1,λhh=>?_⟩;have q2:=(R0.mem.box id q1).2.2;exact q2.nodef (i8 _ hh)
    ·obtain⟨_,q2,_,⟨cs,t,q4⟩,_⟩:=R0.tks k b q1;grind
   exact⟨by subst hGi;omega,by omega,by omega,hbw.2⟩
  have m6:=di (JI Y X nt ds a G w.heap.size (w.heap.size+1) W1.heap.size s st rec Q) Gi W1 (us++#[Value.func (.yield (w.heap.size+1)) #[] #[]]++cvs)
   (Amd (by omega) (by omega) (λb hb=>(hD0 b hb).1) (λb hb=>(px b hb).1)) (λp H vi w ⟨_,Gp,ep,_,_,Rp,_⟩=>U.gl _ _ _ _ Rp.jj)
   (λp H vi w' hp hj=>by
    have hp:p<=m:=hp;obtain⟨_,Gp,ep,state,af,Rp,_,_,_,_,_,_,_,ow⟩:=hj;rcases ow with ⟨q1,rfl,rfl,rfl⟩|⟨q1,_⟩
    ·obtain⟨z1,z2⟩:=uk hp Rp;obtain⟨z3,_⟩:=uk (bV _) R0;exact⟨_,λF hF=>by subst hGi;show Gp.bk (rn rho F)=G0.bk (rn rho F);grind,z2⟩
    ·omega) ao
   (λb hb=>by subst hGi;exact R0.fresh b (by omega)) (λb hb=>by grind) (λb hb=>by grind) hJ0 f7
  refine (Afz (n:=fu - 1) m6).mono ?_;rintro en w' ⟨lv,n8,H',vis',v,hj,rfl⟩;change JI Y X nt ds a G w.heap.size (w.heap.size+1) W1.heap.size s st rec Q m H' vis' w' at hj;obtain⟨o6,Gp,ep,state,af,Rp,hH,ov,l7,hD,hl,_,_,ow⟩:=hj;have hlt:w.heap.size+1<w'.heap.size:=(aP.1 hl).1;have hnb:(rec state af).state≠.busy:=by
   rw[fe];rcases ow with ⟨_,_,rfl,_⟩|⟨_,rfl,_⟩<;>simp
  have db:=run_endLoop (P:=P) hl hnb;obtain⟨W4,hW4⟩:∃W4,w'.putObj (w.heap.size+1) (.loop { rec state af with state:=.exhausted })=W4:=⟨_,rfl⟩
  rw[hW4]at db;have wj:(rec state af).pending=af:=by rw[fe]
  rw[wj]at db;have y8:∀b,b≠w.heap.size+1->W4.heap[b]?=w'.heap[b]?:=λb hb=>by grind[World.putObj_heap_other]
  have R4:Rel Y X nt ds ep a W4 Gp:=by
   refine Rp.stay (by grind[Uc]) (by grind[Xq]) (λb hb=>y8 b ?_);rcases hb with hb|hb|hb
   ·grind
   ·grind
   ·grind
  have hD4:W4.heap[w.heap.size]?=some (.deferred (some [])):=(y8 _ (by omega)).trans hD;have ip:(w.heap.size::Gp.dm.l).Nodup:=gS.2 ⟨λhh=>by have h:w.heap.size∈G.dm:=ov▸hh;grind,Gp.dm.nd⟩;obtain⟨Gq,hGq⟩:∃Gq:Gh,({ Gp with dm:=⟨w.heap.size::Gp.dm.l,ip⟩ }:Gh)=Gq:=⟨_,rfl⟩
  have R5:Rel Y X nt ds ep { a with defers:=[Ld w.heap.size]++a.defers } W4 Gq:=by
   refine R4.re (X':=X) ⟨λb=>by subst hGq;grind,.refl _ _,λ_ _=>rfl⟩ rfl (by grind) (by grind) rfl rfl rfl (λb hb=>⟨rfl,by subst hGq;rfl,?_⟩) (aI _) (λ_ _ _=>rfl) R4.size ?_ (λD hD=>?_) (λlift t=>lift _ _ (R4.slots t))
    (λb hb=>by subst hGq;exact R4.fresh b hb) (λb hb=>by subst hGq;exact R4.old b hb) (λb hb=>by subst hGq;exact R4.hlt b hb) (λb hb=>by subst hGq;exact R4.fzh b hb) (by subst hGq;exact R4.jj)
   ·subst hGq;rcases hb with ⟨id,q1,rfl⟩|⟨k,q1⟩
    ·exact (R4.mem.box id q1).1
    ·exact (R4.tks k b q1).2.2.1
   ·subst hGq
    show [Ld w.heap.size]++a.defers=List.map Ld (w.heap.size::Gp.dm.l)++ds
    rw[R4.defers];rfl
   ·subst hGq;have hD:D∈w.heap.size::Gp.dm.l:=hD;cases hD with
    |head=>exact⟨λhh=>by grind,hD4,R.base⟩
    |tail _ hD=>exact R4.marks D hD
  refine⟨af,W4,db,?_⟩;rcases ow with ⟨q1,rfl,rfl,rfl⟩|⟨q1,rfl,o,q2⟩
  ·exact⟨o',st m,h4,_,R5⟩
  ·omega
theorem rf_ok (S:Set P Y Gl) (U:Sur P Gl X yd) {g:Operand} {ps:Array Tmp} {iq c:Code} (va:Rg P Y Gl nt true iq) (hc:Rg P Y Gl nt true c) {Q:Dp} {d9:Orc}
  (h:wp (Computes P Gl) (Does P Y Gl) Y nt yd false (.rangeFunc g ps iq c) Q d9 e) (R:Rel Y X nt ds e a w G):(Code.rangeFunc g ps iq c).wpIn (Fr none) fu P (Mj Y X nt ds Q) a w:=by
 simp only[wp]at h;split at h
 case h_3=>exact h.elim
 case h_2=>exact Aw3 S U va hc (by assumption) h R
 rename_i m s ys st ob o' f fst f8 hx;split at h
 case h_2=>exact h.elim
 rename_i xs rr sa;obtain⟨jh,h1,h2,h3,h4⟩:=h;obtain⟨iy,h1⟩:=Im h1;obtain⟨_,h2⟩:=Im h2;have hg:=Agr R hx (by simp) (λv hv=>by grind[evX]);have rz:=hg.rel;simp only[Aa]at rz;obtain⟨us,cvs,dr,r1,r2⟩:=rz;obtain⟨hW,jn⟩:=Pe (Y:=Y) (X:=X) (nt:=nt) (ds:=ds) (a:=a) (w:=w) sa;have v8:∀id,id∈Bo (fst++f8)->Env.get e 2 id≠.any:=λid d6=>by
  have:=hg.ids;grind[Ey,Ag0,Aj]
 have hxr:=jn (W':=[]) hW (λ_ h=>h) (λ_ h=>nomatch h) R (Ac.app r1 r2) v8;obtain⟨G0,R0,bn,hb0,hH0,hd0,ht0,hu0⟩:=Pk h2 R;refine wpIn_rangeFunc λfn lj=>?_;obtain⟨rec,fe⟩:∃rec:LoopState->Option Code->Loop,rec=λst pe=>{ state:=st,pending:=pe,fn,tmps:=a.tmps,params:=ps,assign:=iq,body:=c,defers:=w.heap.size }:=⟨_,rfl⟩
 obtain⟨W1,uc⟩:∃W1,(w.alloc (.deferred (some []))).alloc (.loop (rec .ready none))=W1:=⟨_,rfl⟩
 have hL1:W1.heap[w.heap.size+1]?=some (.loop (rec .ready none)):=by grind[World.alloc_heap_new,World.size_alloc]
 have hK1:W1.heap[w.heap.size]?=some (.deferred (some [])):=by grind[Below.heap_alloc,World.alloc_heap_new]
 have te:Below w.heap.size w W1:=by
  rw[<-uc];exact ((Below.refl _ w).alloc (aI _) _).alloc (by simp) _
 have kx:W1.heap.size=w.heap.size+2:=by rw[<-uc];simp
 obtain⟨R1,_⟩:=R0.after te (vis':=G0.vis) (λ_ _=>rfl) (λb hb=>R0.fresh b (by omega));obtain⟨wa,di⟩:=h1 (w.heap.size+1);obtain⟨ff,f1,f2,f3⟩:=wa;have f2':ff.name≠ "runtime.NumGoroutine":=by grind
 have f3':ff.body≠none:=by grind
 have hD0:∀b,G.H b->b<W1.heap.size/\b≠w.heap.size/\b≠w.heap.size+1:=λb hb=>by have:=R.hlt b hb;omega
 have px:∀b,b∈G.dm->b<W1.heap.size/\b≠w.heap.size/\b≠w.heap.size+1:=λb hb=>by
  have:=(aP.1 (R.marks b hb).2.1).1;omega
 have hbig0:Env.get (st 0) 0 BIG=.any∨True:=.inr trivial;refine⟨w.heap.size+1,[Ld w.heap.size],W1,{ target:=.fn (.func f) cvs,args:=us++#[Value.func (.yield (w.heap.size+1)) #[] #[]] },W1,f,us++#[Value.func (.yield (w.heap.size+1)) #[] #[]]++cvs,W1,?_,?_,λ_ _=>trivial,?_,λh=>by trivial,?_⟩
 ·rw[<-uc,fe];exact run_enterLoop_outer _ _ _ _ _
 ·simp only[resolve,dr,Deferred.ofValue];simp[Act.eval]
 ·simp[invoke,callFunc,f1,f2',f3']
 ·obtain⟨Gi,hGi⟩:∃Gi:Gh,(⟨G0.vis,λ_=>0,λ_=>none,λb=>b<W1.heap.size,⟨[],.nil⟩⟩:Gh)=Gi:=⟨_,rfl⟩
  have i9:fst.length=us.toList.length:=r1.len;have py:Ext (λ_=>False) (Gh0 G.vis) Gi w W1:=by
   have z8:∀b,0<G.vis b->b<w.heap.size:=λb h=>by
    rcases bL b w.heap.size with h'|h'
    ·exact h'
    ·rw[R.fresh b h']at h;omega
   refine⟨λb=>by subst hGi;show G.vis b<=G0.vis b;grind,⟨λb i hi=>bF (te.block _ (z8 b (Nat.lt_of_le_of_lt (bV _) hi))),λb h es c he=>by rw[te.block _ (z8 b h)];exact he,Me λb h=>te.block b h⟩,λb hb=>hb.elim⟩
  have f7:Ac Gi W1 (λ_=>False) (xs.take fst.length++.yl (w.heap.size+1)::xs.drop fst.length) (us++#[Value.func (.yield (w.heap.size+1)) #[] #[]]++cvs).toList:=by
   have hx1:=Ac.pure (G:=Gh0 G.vis) (G':=Gh0 G.vis) (O':=λ_=>False) rfl iy hxr;have gq:Ac Gi W1 (λ_=>False) xs (us.toList++cvs.toList):=Ac.mono py (λid d6=>by grind[Xd]) hx1;have t1:=gq.take fst.length;have t2:=gq.drop fst.length;rw[i9,List.take_left]at t1;rw[i9,List.drop_left]at t2;rw[<-i9]at t1 t2;have h3:(us++#[Value.func (.yield (w.heap.size+1)) #[] #[]]++cvs).toList=us.toList++(Value.func (.yield (w.heap.size+1)) #[] #[]::cvs.toList):=by simp
   rw[h3];refine t1.app ?_;simp only[Ac,Aa];exact⟨_,_,rfl,rfl,t2⟩
  have ao:=Ame (a:=a) (G:=G) (ds:=ds) (Q:=Q) S U jh va hc (fn:=fn) (D:=w.heap.size) (l:=w.heap.size+1) (n1:=W1.heap.size) fe (by omega) (by omega) (by omega) (by have:=R.base;omega) hD0 px h3;have hJ0:JI Y X nt ds a G w.heap.size (w.heap.size+1) W1.heap.size s st rec Q 0 Gi.H Gi.vis W1:=by
   refine⟨λb hb=>by subst hGi;exact hb,G0,st 0,.ready,none,R1,hH0,hd0,λb hb=>?_,hK1,hL1,λb _=>by subst hGi;grind,λb _=>by subst hGi;grind,.inl ⟨bV _,rfl,rfl,rfl⟩⟩;have hbw:b<w.heap.size/\b ∉ G.dm:=by
    have i8:∀D,D∈G.dm->w.heap[D]?=some (.deferred (some [])):=λD hD=>(R.marks D hD).2.1;rcases hb with ⟨id,q1,rfl⟩|⟨k,q1⟩
    ·refine⟨(R0.mem.box id q1).2.1,λhh=>?_⟩;have q2:=(R0.mem.box id q1).2.2;exact q2.nodef (i8 _ hh)
    ·obtain⟨_,q2,_,⟨cs,t,q4⟩,_⟩:=R0.tks k b q1;grind
   exact⟨by subst hGi;omega,by omega,by omega,hbw.2⟩
  have m6:=di (JI Y X nt ds a G w.heap.size (w.heap.size+1) W1.heap.size s st rec Q) Gi W1 (us++#[Value.func (.yield (w.heap.size+1)) #[] #[]]++cvs)
   (Amd (by omega) (by omega) (λb hb=>(hD0 b hb).1) (λb hb=>(px b hb).1)) (λp H vi w ⟨_,Gp,ep,_,_,Rp,_⟩=>U.gl _ _ _ _ Rp.jj) ao
   (λb hb=>by subst hGi;exact R0.fresh b (by omega)) (λb hb=>by grind) hJ0
   ⟨λid k hk=>absurd rfl hk,λid d6=>absurd rfl d6,λid i5 d6 _=>absurd rfl d6⟩ f7
  refine (Afz (n:=fu - 1) m6).mono ?_;rintro en w' ⟨lv,n8,_,_,G',_,_,_,_,_,hj,_,v,rfl,_⟩;have htr:trN (Env.get (Af [(0,BIG,T.tr (min m (s+1)))] [(0,BIG,T.tr 0)]) 0 BIG)=min m (s+1):=by trivial
  rw[htr]at hj;obtain⟨o6,Gp,ep,state,af,Rp,hH,ov,l7,hD,hl,_,_,ow⟩:=hj;have hlt:w.heap.size+1<w'.heap.size:=(aP.1 hl).1;have hnb:(rec state af).state≠.busy:=by
   rw[fe];rcases ow with ⟨_,_,rfl,_⟩|⟨_,rfl,_⟩<;>simp
  have db:=run_endLoop (P:=P) hl hnb;obtain⟨W4,hW4⟩:∃W4,w'.putObj (w.heap.size+1) (.loop { rec state af with state:=.exhausted })=W4:=⟨_,rfl⟩
  rw[hW4]at db;have wj:(rec state af).pending=af:=by rw[fe]
  rw[wj]at db;have y8:∀b,b≠w.heap.size+1->W4.heap[b]?=w'.heap[b]?:=λb hb=>by grind[World.putObj_heap_other]
  have R4:Rel Y X nt ds ep a W4 Gp:=by
   refine Rp.stay (by grind[Uc]) (by grind[Xq]) (λb hb=>y8 b ?_);rcases hb with hb|hb|hb
   ·grind
   ·grind
   ·grind
  have hD4:W4.heap[w.heap.size]?=some (.deferred (some [])):=(y8 _ (by omega)).trans hD;have ip:(w.heap.size::Gp.dm.l).Nodup:=gS.2 ⟨λhh=>by have h:w.heap.size∈G.dm:=ov▸hh;grind,Gp.dm.nd⟩;obtain⟨Gq,hGq⟩:∃Gq:Gh,({ Gp with dm:=⟨w.heap.size::Gp.dm.l,ip⟩ }:Gh)=Gq:=⟨_,rfl⟩
  have R5:Rel Y X nt ds ep { a with defers:=[Ld w.heap.size]++a.defers } W4 Gq:=by
   refine R4.re (X':=X) ⟨λb=>by subst hGq;grind,.refl _ _,λ_ _=>rfl⟩ rfl (by grind) (by grind) rfl rfl rfl (λb hb=>⟨rfl,by subst hGq;rfl,?_⟩) (aI _) (λ_ _ _=>rfl) R4.size ?_ (λD hD=>?_) (λlift t=>lift _ _ (R4.slots t))
    (λb hb=>by subst hGq;exact R4.fresh b hb) (λb hb=>by subst hGq;exact R4.old b hb) (λb hb=>by subst hGq;exact R4.hlt b hb) (λb hb=>by subst hGq;exact R4.fzh b hb) (by subst hGq;exact R4.jj)
   ·subst hGq;rcases hb with ⟨id,q1,rfl⟩|⟨k,q1⟩
    ·exact (R4.mem.box id q1).1
    ·exact (R4.tks k b q1).2.2.1
   ·subst hGq
    show [Ld w.heap.size]++a.defers=List.map Ld (w.heap.size::Gp.dm.l)++ds
    rw[R4.defers];rfl
   ·subst hGq;have hD:D∈w.heap.size::Gp.dm.l:=hD;cases hD with
    |head=>exact⟨λhh=>by grind,hD4,R.base⟩
    |tail _ hD=>exact R4.marks D hD
  refine⟨af,W4,db,?_⟩;rcases ow with ⟨q1,rfl,rfl,rfl⟩|⟨q1,rfl,o,q2⟩
  ·have hms:m<=s:=by omega
   have:min m (s+1)=m:=by omega
   rw[this]at R5;exact⟨o',st m,h4 hms,_,R5⟩
  ·rcases q2 with ⟨i,rfl,q2⟩|⟨rfl,q2⟩
   ·exact wpIn_exit ⟨o,ep,q2,_,R5⟩
   ·exact wpIn_ret ⟨o,ep,q2,_,R5⟩
end
section
variable {P:Program} {Y:TypeId->Ty} {Gl:World->Prop} {nt:Nat}
def Amg {l m:List (List Int)} (h:l.Nodup) (hs:∀x∈l,x∈m):l.length<=m.length:=by
 induction l generalizing m with
 |nil=>grind
 |cons x l ih=>
  have hx:=hs x aC;have hn:=gS.1 h;have h2:=ih (m:=m.erase x) hn.2 λy hy=>by
   grind
  grind
def Aw4 {X:Cx} {ds:List Deferred} {rd:Option Nat} {fu:Nat} {c:Code} {Q:Dp} {body:Dp->Orc->Env->Prop}
  (hb:∀Q o e a w,body Q o e->Cq Y X nt ds e a w->c.wpIn (Fr rd) fu P (Mj Y X nt ds Q) a w):
  ∀(n:Nat) (o:Orc) (e:Env) (a:Act) (w:World),Qw body Q n o e->Cq Y X nt ds e a w->(Code.loop c).wpIn (Fr rd) fu P (Mj Y X nt ds Q) a w:=by
 intro n o e a w h R;refine fS (λm a w=>∃o e,Qw body Q m o e/\Cq Y X nt ds e a w) n ⟨o,e,h,R⟩ ?_;rintro m a w ⟨o,e,h,R⟩;cases m with
 |zero=>exact h.elim
 |succ m=>
  obtain⟨o,e,h,R⟩:∃o e,body (Go.Vc.X.seq (λo' e'=>Qw body Q m o' e') Q) o e/\Cq Y X nt ds e a w:=by
   unfold Qw at h;split at h
   ·obtain⟨G,R⟩:=R;exact⟨_,_,h.2,Pm h.1 R⟩
   grind
  refine dE (hb _ o e a w h R) λex a' w' hq=>?_;cases ex with
  |normal=>obtain⟨o',e',h1,h2⟩:=hq;exact⟨m,eQ m,o',e',h1,h2⟩
  |exit id=>exact hq
  |ret=>exact hq
  |panic ch=>exact hq
  |goto l=>exact hq
  |outgrown=>exact hq
theorem Od (S:Set P Y Gl):∀(c:Code) (b:Bool),Rg P Y Gl nt b c:=by
 intro c
 induction c with
 |skip=>intro b X yd ds rd fu U eg Q d9 e a w h R;exact wpIn_skip ⟨d9,e,by trivial,R⟩
 |label l=>intro b X yd ds rd fu U eg Q d9 e a w h R;exact wpIn_label ⟨d9,e,by trivial,R⟩
 |region id ops xl=>
  intro b X yd ds rd fu U eg Q d9 e a w h R;simp only[wp]at h;cases xl with
  |false=>
   refine iB ?_;have:=Avv (rd:=rd) (fu:=fu) (Q:=Mj Y X nt ds Q) S U (λd9 e a w h R=>⟨d9,e,h,R⟩) (λv d9 e a w h R=>⟨v,d9,e,rfl,h,R⟩) ops.toList 0 d9 e a w (λj=>by simp) h R;grind[List.range_eq_range']
  |true=>exact Avy S U (λd9 e a w h R=>⟨d9,e,h,R⟩) (λv d9 e a w h R=>⟨v,d9,e,rfl,h,R⟩) h R
 |seq x y ihx ihy=>
  intro b X yd ds rd fu U eg Q d9 e a w h R;simp only[wp]at h;refine eZ (dE (ihx b U eg _ d9 e a w h R) λex a' w' hq=>?_);cases ex with
  |normal=>obtain⟨o,e',h1,h2⟩:=hq;exact ihy b U eg Q o e' a' w' h1 h2
  |exit id=>exact hq
  |ret=>exact hq
  |panic ch=>exact hq
  |goto l=>exact hq
  |outgrown=>exact hq
 |cond c x y ihx ihy=>
  intro b X yd ds rd fu U eg Q d9 e a w h R;simp only[wp]at h;obtain⟨G,R'⟩:=id R;unfold Ajw at h;split at h
  ·rename_i b' o o' hx;exact wpIn_cond_split (Ags R' hx) (λhb=>ihx b U eg Q o e a w (h.1 hb) R) (λhb=>ihy b U eg Q o' e a w (h.2 hb) R)
  ·rename_i b' o hx;obtain⟨rfl,h⟩:=h;exact wpIn_cond_split (Ags R' hx) (λ_=>ihx b U eg Q o e a w h R) (λhb=>(by cases hb))
  ·rename_i b' o hx;obtain⟨rfl,h⟩:=h;exact wpIn_cond_split (Ags R' hx) (λhb=>(by cases hb)) (λ_=>ihy b U eg Q o e a w h R)
  trivial
 |block id c ih=>
  intro b X yd ds rd fu U eg Q d9 e a w h R;simp only[wp]at h;refine wpIn_block (dE (ih b U eg _ d9 e a w h R) λex a' w' hq=>?_);cases ex with
  |normal=>exact hq
  |exit i=>
   obtain⟨o,e',h1,h2⟩:=hq;simp only[Vc.X.blk]at h1;simp only[Exit.inBlock];cases hb:i.beq id with
   |true=>rw[hb]at h1;rw[bG (aG hb)];exact⟨o,e',h1,h2⟩
   |false=>rw[hb]at h1;rw[bI (gC hb)];exact⟨o,e',h1,h2⟩
  |ret=>exact hq
  |panic ch=>exact hq
  |goto l=>exact hq
  |outgrown=>exact hq
 |scope c ih=>
  intro b X yd ds rd fu U eg Q d9 e a w h R;simp only[wp]at h;refine Aw1 (dE (ih b U eg Q d9 e a w h R) λex a' w' hq=>?_);cases ex with
  |goto l=>trivial
  |_=>exact hq
 |exit id=>intro b X yd ds rd fu U eg Q d9 e a w h R;exact wpIn_exit ⟨d9,e,by trivial,R⟩
 |ret=>intro b X yd ds rd fu U eg Q d9 e a w h R;exact wpIn_ret ⟨d9,e,by trivial,R⟩
 |loop c ih=>
  intro b X yd ds rd fu U eg Q d9 e a w h R;simp only[wp]at h;split at h
  ·rename_i n st ob;obtain⟨h1,h2⟩:=h;obtain⟨G,R⟩:=R;refine fS (λm a w=>∃k,k<=n/\m=n - k/\Cq Y X nt ds (st k) a w) n ⟨0,bV _,rfl,Pm h1 R⟩ ?_;rintro m a w ⟨k,hk,rfl,R⟩;obtain⟨o2,h2⟩:=Ajx (h2 k hk);refine dE (ih b U eg _ o2 (st k) a w h2 R) λex a' w' hq=>?_;cases ex with
   |normal=>
    obtain⟨o,e',⟨h3,h4⟩,⟨G',R'⟩⟩:=hq;exact⟨n - (k+1),by omega,k+1,by omega,rfl,Pm h4 R'⟩
   |exit id=>exact hq
   |ret=>exact hq
   |panic ch=>exact hq
   |goto l=>exact hq
   |outgrown=>exact hq
  ·exact Aw4 (λQ' o e a w h R=>ih b U eg Q' o e a w h R) _ _ _ _ _ h R
  ·rename_i ks id st ob;obtain⟨h1,h2⟩:=h;obtain⟨G,R⟩:=R;refine fS (λm a w=>∃h,h.Nodup/\(∀x∈h,x∈ks)/\m=ks.length - h.length/\Cq Y X nt ds (st h) a w) ks.length ⟨[],List.nodup_nil,λ_ h=>(by cases h),rfl,Pm h1 R⟩ ?_;rintro m a w ⟨hs,hn,n5,rfl,R⟩;refine dE (ih b U eg _ _ (st hs) a w (h2 hs hn n5) R) λex a' w' hq=>?_;cases ex with
   |normal=>
    obtain⟨o,e',h3,⟨G',R'⟩⟩:=hq;have h3:Af7 ks id hs st e':=h3;unfold Af7 at h3;split at h3
    ·rename_i h' _ _;obtain⟨⟨m1,m2,m3⟩,h4⟩:=h3;exact⟨ks.length - h'.length,by have:=Amg m2 m3;omega,h',m2,m3,rfl,Pm h4 R'⟩
    trivial
   |exit id=>exact hq
   |ret=>exact hq
   |panic ch=>exact hq
   |goto l=>exact hq
   |outgrown=>exact hq
  ·rename_i o0 n st ob;refine fS (λm a w=>(m=n+1/\Cq Y X nt ds e a w)∨(∃k,k<=n/\m=n - k/\Cq Y X nt ds (st k) a w/\∀k,k<=n->Wp (ob k) λo=>wp (Computes P Gl) (Does P Y Gl) Y nt yd b c (Vc.X.seq (λ_ e'=>k<n/\le e' (st (k+1))) Q) o (st k))) (n+1) (.inl ⟨rfl,R⟩) ?_;rintro m a w (⟨rfl,R⟩|⟨k,hk,rfl,R,h2⟩)
   ·refine dE (ih b U eg _ o0 e a w h R) λex a' w' hq=>?_;cases ex with
    |normal=>
     obtain⟨o,e',⟨h3,h4⟩,⟨G',R'⟩⟩:=hq;exact⟨n - 0,by omega,.inr ⟨0,bV _,rfl,Pm h3 R',h4⟩⟩
    |exit id=>exact hq
    |ret=>exact hq
    |panic ch=>exact hq
    |goto l=>exact hq
    |outgrown=>exact hq
   ·obtain⟨o2,h3⟩:=Ajx (h2 k hk);refine dE (ih b U eg _ o2 (st k) a w h3 R) λex a' w' hq=>?_;cases ex with
    |normal=>
     obtain⟨o,e',⟨h4,h5⟩,⟨G',R'⟩⟩:=hq;exact⟨n - (k+1),by omega,.inr ⟨k+1,by omega,rfl,Pm h5 R',h2⟩⟩
    |exit id=>exact hq
    |ret=>exact hq
    |panic ch=>exact hq
    |goto l=>exact hq
    |outgrown=>exact hq
  trivial
 |goto l=>intro b X yd ds rd fu U eg Q d9 e a w h R;trivial
 |rangeFunc f ps iq c iha ih=>
  intro b X yd ds rd fu U eg Q d9 e a w h R;cases b with
  |true=>trivial
  |false=>
   grind[rf_ok]
 |refuse s=>intro b X yd ds rd fu U eg Q d9 e a w h R;trivial
end
section
variable {P:Program} {Y:TypeId->Ty} {Gl:World->Prop} {X:Cx} {nt:Nat} {ds:List Deferred} {e e0:Env} {a:Act} {w:World} {G:Gh} {fu:Nat} {yd:Yd}
def Bd (tmps:Array Value):ResultVar->Sem Value
 | .tmp t=>pure (tmps.getD t undef)
 | .cell a t=>do loadVar t (<-asAddr (tmps.getD a undef))
theorem Oe {α β:Type} (f:α->Sem β) (x:α) (xs:List α) (w:World):((x::xs).mapM f).run P w=((f x).run P w).andThen λy w'=>((xs.mapM f).run P w').andThen λys gr=>.ok (y::ys) gr:=by
 rw[List.mapM_cons];simp[cF]
theorem Amh {vis:Nat->Nat} {O:Nat->Prop} {y:D} {v:Value} (h1:Av vis w O y v) (h2:∀cs,y≠.rd cs):Av vis w (λ_=>False) y.dem v:=by
 cases y with
 |c y=>exact Av.dem (x:=.c y) h1
 |agg ys=>exact Av.dem (x:=.agg ys) h1
 |rd cs=>grind
theorem Aw5 (hY:YOK P Y) (R:Rel Y X nt ds e a w G):∀{rs:List ResultVar} {r r':List (Nat×Nat)} {xs:List D} {ps:List Prop} {W:Env},(Mc Y rs).run e.get r=some ((xs,ps,W),r')->(∀p∈ps,p)->Cf e W/\
  ∃vs,(rs.mapM (Bd a.tmps)).run P w=.ok vs w/\∀{W':Env} {G':Gh},Cf e W'->(∀p∈W,p∈W')->Rel Y X nt ds (W'++e) a w G'->(∀x v,VOK G w X.fz Y e x v->VOK G' w X.fz Y (W'++e) x v)->(∀b,G.vis b<=G'.vis b)->
   Jt G'.vis w (λ_=>False) xs vs:=by
 intro rs
 induction rs with
 |nil=>
  intro r r' xs ps W h _;simp only[Mc,M.run,aA,aD]at h;obtain⟨⟨rfl,rfl,rfl⟩,_⟩:=h;exact⟨.nil,[],by simp,λ_ _ _ _ _=>⟨rfl,λj x v hj=>(by simp at hj)⟩⟩
 |cons x rs ih=>
  intro r r' xs ps W h de;have bi:∀{v:Value} {y:D} {W1:Env} {ys:List D} {na:List Prop} {W2:Env} {r1 r2:List (Nat×Nat)},(Bd a.tmps x).run P w=.ok v w->Cf e W1->
    (∀{W':Env} {G':Gh},Cf e W'->(∀p∈W1,p∈W')->Rel Y X nt ds (W'++e) a w G'->(∀x v,VOK G w X.fz Y e x v->VOK G' w X.fz Y (W'++e) x v)->(∀b,G.vis b<=G'.vis b)->Av G'.vis w (λ_=>False) y v)->
    (Mc Y rs).run e.get r1=some ((ys,na,W2),r2)->(∀p∈na,p)->Cf e (W1++W2)/\
    ∃vs,((x::rs).mapM (Bd a.tmps)).run P w=.ok vs w/\∀{W':Env} {G':Gh},Cf e W'->(∀p∈W1++W2,p∈W')->Rel Y X nt ds (W'++e) a w G'->(∀x v,VOK G w X.fz Y e x v->VOK G' w X.fz Y (W'++e) x v)->(∀b,G.vis b<=G'.vis b)->
     Jt G'.vis w (λ_=>False) (y::ys) vs:=by
   intro v y W1 ys na W2 r1 r2 h1 hf1 h2 h3 oh;obtain⟨hf2,vs,h4,h5⟩:=ih h3 oh;refine⟨hf1.app hf2,v::vs,by grind[Oe,Result.andThen_ok],λhf hs R' lift hv=>?_⟩;have q1:=h2 hf (λp hp=>hs p (aJ _ hp)) R' lift hv;have q2:=h5 hf (λp hp=>hs p (aM _ hp)) R' lift hv;refine⟨by simp[q2.1],λj z u hj hu=>?_⟩;cases j with
   |zero=>grind
   |succ j=>exact q2.2 j z u (by trivial) (by trivial)
  cases x with
  |tmp t=>
   simp only[Mc]at h;obtain⟨y,r1,h1,h2⟩:=Ah h;have hs:=Ju R h1;split at h2
   ·trivial
   ·rename_i d dy;obtain⟨⟨ys,na,W2⟩,r2,h3,h4⟩:=Ah h2;simp only[M.run,aA,aD]at h4;obtain⟨⟨rfl,rfl,rfl⟩,_⟩:=h4;exact bi (v:=a.tmps.getD t undef) (W1:=[]) rfl .nil (λ_ _ _ lift _=>by
     have:=(lift _ _ hs).rel;simp only[Aa]at this;exact Amh this λcs hh=>dy cs (by rw[hh])) h3 de
   ·rename_i id n;obtain⟨⟨c,qu,W1⟩,r2,h3,h4⟩:=Ah h2;obtain⟨⟨ys,na,W2⟩,r3,h5,h6⟩:=Ah h4;simp only[M.run,aA,aD,Gv.add]at h6;obtain⟨⟨rfl,rfl,rfl⟩,_⟩:=h6;obtain⟨c1,c2⟩:=Jw (Y:=Y) (X:=X) (nt:=nt) (ds:=ds) (a:=a) (w:=w) (O:=X.fz) h3;exact bi (v:=a.tmps.getD t undef) rfl c1 (λhf n5 R' lift _=>c2 hf n5 (λp hp=>de p (aJ _ hp)) R' (lift _ _ hs)) h5 (λp hp=>de p (aM _ hp))
   ·rename_i id;obtain⟨⟨c,qu,W1⟩,r2,h3,h4⟩:=Ah h2;obtain⟨⟨ys,na,W2⟩,r3,h5,h6⟩:=Ah h4;simp only[M.run,aA,aD,Gv.add]at h6;obtain⟨⟨rfl,rfl,rfl⟩,_⟩:=h6;obtain⟨c1,c2⟩:=Jw (Y:=Y) (X:=X) (nt:=nt) (ds:=ds) (a:=a) (w:=w) (O:=X.fz) h3;exact bi (v:=a.tmps.getD t undef) rfl c1 (λhf n5 R' lift _=>c2 hf n5 (λp hp=>de p (aJ _ hp)) R' (lift _ _ hs)) h5 (λp hp=>de p (aM _ hp))
   trivial
  |cell ad ty=>
   simp only[Mc]at h;obtain⟨y,r0,h0,h⟩:=Ah h;have hs:=Ju R h0;obtain⟨o,r1,h1,h2⟩:=Ah h;split at h2
   ·rename_i d hhyp hd;obtain⟨⟨ys,na,W2⟩,r2,h3,h4⟩:=Ah h2;simp only[M.run,aA,aD,Gv.add]at h4;obtain⟨⟨rfl,rfl,rfl⟩,_⟩:=h4;obtain⟨v,adr,l1,l2,l3,l4,_,l5⟩:=Ak9 hY R hs h1 (λp hp=>de p (aJ _ hp));have l1':a.tmps.getD ad undef=.pointer (some adr):=l1;refine bi (v:=v) (by grind[Bd,asAddr]) l4 (λhf n5 R' lift hv=>?_) h3 (λp hp=>de p (aM _ hp));have:=(l5 hf n5 R' lift hv).rel;grind[Aa,Amh]
   trivial
theorem Aw6 (hY:YOK P Y) (R:Rel Y X nt ds e a w G) {own:Bool} {rs:List ResultVar} {r r':List (Nat×Nat)} {x:T} {ps:List Prop} {W:Env} (h:(outR Y own rs).run e.get r=some ((x,ps,W),r')) (de:∀p∈ps,p):Cf e W/\
  ∃vs,(rs.mapM (Bd a.tmps)).run P w=.ok vs w/\∀{G':Gh},Rel Y X nt ds (W++e) a w G'->(∀x v,VOK G w X.fz Y e x v->VOK G' w X.fz Y (W++e) x v)->(∀b,G.vis b<=G'.vis b)->
   Kj X.base G'.vis w x (if h:vs.toArray.size=1 then vs.toArray[0] else .tuple vs.toArray):=by
 unfold outR at h;split at h
 ·rename_i t;obtain⟨y,r1,h1,h2⟩:=Ah h;have hs:=Ju R h1;have d7:([ResultVar.tmp t].mapM (Bd a.tmps)).run P w=.ok [a.tmps.getD t undef] w:=by trivial
  split at h2
  ·rename_i f as bs;obtain⟨⟨xs,qu,W1⟩,r2,h3,h4⟩:=Ah h2;obtain⟨⟨ys,na,W2⟩,r3,h5,h6⟩:=Ah h4;dsimp only at h6;cases qq:(Du xs&&Du ys) with
   |false=>grind[Jc]
   |true=>
    rw[qq,bA]at h6;simp only[aE]at qq;simp only[M.run,aA,aD,Gv.add]at h6;obtain⟨⟨rfl,rfl,rfl⟩,_⟩:=h6;obtain⟨c1,c2⟩:=Pe (Y:=Y) (X:=X) (nt:=nt) (ds:=ds) (a:=a) (w:=w) h3;obtain⟨d1,d2⟩:=Pe (Y:=Y) (X:=X) (nt:=nt) (ds:=ds) (a:=a) (w:=w) h5;refine⟨c1.app d1,_,d7,λ{G'} R' lift _=>?_⟩;have hl:=lift _ _ hs;have hr:=hl.rel;have hi:=hl.ids;simp only[Aa]at hr;simp only[Ey,Aj]at hi;obtain⟨us,vs,hv,q1,q2⟩:=hr;have e1:=c2 (c1.app d1) (λp hp=>aJ _ hp) (λp hp=>de p (aJ _ hp)) R' q1 (λid d6=>hi id (aJ _ d6));have e2:=d2 (c1.app d1) (λp hp=>aM _ hp) (λp hp=>de p (aM _ hp)) R' q2 (λid d6=>hi id (aM _ d6));have ak:a.tmps.getD t undef=.func (.func f) us vs:=hv;simp only[cW,cQ,dA,bH,dif_pos];refine⟨by simp[Ja,qq],?_⟩;simp only[Aa];exact⟨us,vs,by simpa using ak,Ac.pure rfl qq.1 e1,Ac.pure rfl qq.2 e2⟩
  ·rename_i id n;cases hb:Nat.blt id FAR with
   |false=>grind[Jc]
   |true=>
    rw[hb,bA]at h2;simp only[M.run]at h2;split at h2
    ·rename_i sz m f qk;simp only[M.run,aA,aD]at h2;obtain⟨⟨rfl,rfl,rfl⟩,_⟩:=h2;obtain rfl:n=m:=de _ aC;refine⟨.nil,_,d7,λ{G'} R' lift _=>?_⟩;have hl:=(lift _ _ hs).rel;simp only[Aa]at hl;have hu:Env.get ([]++e) 2 id≠.any:=by grind
     obtain⟨q1,q2,q3⟩:=R'.mem.box id hu;rw[cH,qk]at q3;obtain⟨⟨cs,t',z,q4,qz,q5⟩,q6,_,q7⟩:=q3;have ak:∀z,a.eval (.tmp t)=z->a.tmps.getD t undef=z:=λz hz=>hz;simp only[cW,cQ,dA,bH,dif_pos];refine⟨G'.bk id,cs,t',z,?_,(R'.ownb id hu).1 (Bh hb),q2,q7 rfl,q6,q4,qz,q5⟩;have pd:a.eval (.tmp t)=a.tmps.getD t undef:=rfl;rw[pd]at hl;have ua:=hl.imp (λhh=>hh) λ⟨cap,d1,d2,d3,az,t2,z2,d4,d5⟩=>(show ∃cap,a.tmps.getD t undef=Value.slice (some ⟨G'.bk id,0,none⟩) n cap/\n<=cap/\cap<=maxLen/\cap<=cs.size from ⟨cap,d1,d2,d3,by
      grind⟩)
     simpa using ua
    trivial
  ·rename_i k n f;simp only[M.run]at h2;split at h2
   ·rename_i el du;simp only[M.run,aA,aD]at h2;obtain⟨⟨rfl,rfl,rfl⟩,_⟩:=h2;refine⟨.nil,_,d7,λ{G'} R' lift _=>?_⟩;have hl:=lift _ _ hs;have hr:=hl.rel;simp only[Aa]at hr;have ho:=hl.own;simp only[Kh]at ho;obtain⟨o1,o2⟩:=ho el (by trivial);simp only[cW,cQ,dA,bH,dif_pos];refine⟨?_,o1,?_⟩
    ·have hr:Rep G'.vis w (.s (.t k) n f) (a.eval (.tmp t)):=hr
     show Rep G'.vis w (.s .n n f) _
     have pd:a.eval (.tmp t)=a.tmps.getD t undef:=rfl;rw[pd]at hr;have hq:Rep G'.vis w (.s .n n f) (a.tmps.getD t undef):=Rep.dem hr;simpa using hq
    ·have pd:a.eval (.tmp t)=a.tmps.getD t undef:=rfl;rw[pd]at o2;rcases o2 with h|h|⟨b,xs,g1,g2,g3,g4⟩
     ·grind
     ·grind
     ·obtain⟨q1,q2,_,q4,_⟩:=R'.tks k b g1;grind
   trivial
  trivial
 ·rename_i ad ty;obtain⟨y,r1,h1,h2⟩:=Ah h;have hs:=Ju R h1;split at h2
  ·rename_i id k l8;obtain⟨xs,r2,h3,h4⟩:=Ah h2;cases qq:Du xs with
   |false=>grind[Jc]
   |true=>
    rw[qq,bA]at h4;simp only[M.run,aA,aD]at h4;obtain⟨⟨rfl,rfl,rfl⟩,_⟩:=h4;obtain⟨us,g1,g2,g3,g4⟩:=Aan R _ h3;have hp:=hs.rel;simp only[Aa]at hp;have gg:a.tmps.getD ad undef=.pointer (some ⟨G.bk id,k,none⟩):=hp;have hl:=Jv hY l8 g1 g3;have d7:([ResultVar.cell ad ty].mapM (Bd a.tmps)).run P w=.ok [.agg us.toArray] w:=by
     rw[Oe];simp[Bd,gg,asAddr,hl,Result.andThen]
    refine⟨.nil,_,d7,λ{G'} R' lift _=>?_⟩;simp only[cW,cQ,dA,bH,dif_pos];refine⟨qq,?_⟩;obtain⟨k1,_⟩:=(VOKs.lift g4 lift).relTs g2;grind[Aa,Ac.pure,Gh0]
  trivial
 ·rename_i s7;obtain⟨⟨xs,qu,W1⟩,r1,h1,h2⟩:=Ah h;simp only[M.run,aA,aD]at h2;obtain⟨⟨rfl,rfl,rfl⟩,_⟩:=h2;obtain⟨c1,vs,c2,c3⟩:=Aw5 hY R h1 de;refine⟨c1,vs,c2,λ{G'} R' lift hv=>?_⟩;have h2:=c3 c1 (λ_ h=>h) R' lift hv;unfold outT;split
  ·rename_i d;have hl:vs.length=1:=by rw[<-h2.1];rfl
   have hu0:vs[0]?=some vs[0]:=aQ (by omega);have:=h2.2 0 d vs[0] rfl hu0;grind[Kj]
  ·rename_i s7;have hl:¬vs.toArray.size=1:=by
    intro hh;have:xs.length=1:=by rw[h2.1];simpa using hh
    match xs,this with
    | [d],_=>exact s7 d rfl
   rw[dif_neg hl];exact⟨_,rfl,by trivial⟩
def Ami {F:Fence} {n:Nat} {fn:Func} {tmps:Array Value} {K:Ending->World->Prop} {ds:List Deferred} {u:FrameMode} (hu:u≠.run):∀(L:List Nat) (w:World),L.Nodup->(∀D,D∈L->w.heap[D]?=some (.deferred (some [])))->
  (∀w2,Same w w2->(∀vis,KeepV vis w w2)->(∀b,b ∉ L->w2.heap[b]?=w.heap[b]?)->LeavesInM F n P fn tmps K ds u w2)->LeavesInM F n P fn tmps K (L.map Ld++ds) u w:=by
 intro L
 induction L with
 |nil=>intro w _ _ h;exact h w (.refl _) (λ_=>.refl _ _) (λ_ _=>rfl)
 |cons D L ih=>
  intro w ip hD h;obtain⟨vf,hn2⟩:=gS.1 ip;have hd:=hD D aC;have n8:∀vis,KeepV vis w (w.putObj D (.deferred none)):=λvis=>by
   refine⟨λb i _=>?_,λb _ es c hb=>?_,λb cs t z hb=>?_⟩
   ·grind[World.putObj_heap_same,World.cell?,World.putObj_heap_other]
   ·grind[World.putObj_heap_other]
   grind[World.putObj_heap_other]
  refine⟨hu,.inl ⟨D,w.putObj D (.deferred none),rfl,run_takeDeferred hd,?_⟩⟩;refine ih _ hn2 (λD' hD'=>?_) λw2 h1 h2 h3=>?_
  ·grind[World.putObj_heap_other]
  ·refine h w2 (Uc.trans h1) (λvis=>(n8 vis).trans (h2 vis)) λb hb=>?_;grind[World.putObj_heap_other]
def Xs (R:Rel Y X nt [] e a w G) {F:Fence} {n:Nat} {fn:Func} {K:Ending->World->Prop} {u:FrameMode} (hu:u≠.run)
  (h:∀w2 G2,Same w w2->G2.bk=G.bk->G2.vis=G.vis->Rel Y X nt a.defers e a w2 G2->LeavesInM F n P fn a.tmps K [] u w2):LeavesInM F n P fn a.tmps K a.defers u w:=by
 have hd:=R.defers;rw[hd];refine Ami hu _ _ G.dm.nd (λD hD=>(R.marks D hD).2.1) λw2 h1 h2 h3=>?_;have R2:Rel Y X nt a.defers e a w { G with dm:=⟨[],.nil⟩ }:=by
  refine R.re (X':=X) ⟨λb=>aI _,.refl _ _,λ_ _=>rfl⟩ rfl rfl rfl rfl rfl rfl (λb hb=>⟨rfl,rfl,?_⟩) (aI _) (λ_ _ _=>rfl) R.size rfl (λD hD=>(eP hD).elim) (λlift t=>lift _ _ (R.slots t))
   R.fresh R.old R.hlt R.fzh R.jj
  rcases hb with ⟨id,q1,rfl⟩|⟨k,q1⟩
  ·exact (R.mem.box id q1).1
  ·exact (R.tks k b q1).2.2.1
 refine h w2 { G with dm:=⟨[],.nil⟩ } h1 rfl rfl (R2.stay h1 (h2 _) λb hb=>h3 b λhD=>?_);have hm:=R.marks b hD;rcases hb with (⟨id,q1,rfl⟩|⟨k,q1⟩)|hb|hb
 ·have q2:=(R.mem.box id q1).2.2;exact q2.nodef hm.2.1
 ·obtain⟨_,_,_,⟨cs,t,q4⟩,_⟩:=R.tks k b q1;grind
 ·grind
 trivial
def Xt (S:Set P Y Gl) {fn:Func} {own:Bool} {Rp:Res->Env->Prop} {K:Ending->World->Prop}
  (hK:∀e2 a2 w2 kj G2,Rel Y X nt kj e2 a2 w2 G2->(∀x v,Rp (.ret x) e2->Kj X.base G2.vis w2 x v->K (.returned v) w2)/\(∀v,Rp (.pan v) e2->K (.panicked [{ v,recovered:=false }]) w2)):
  ∀ex a w,Mj Y X nt [] (Md Y fn own Rp) ex a w->bodyPostM (Fr none) fu P fn K ex a w:=by
 have bi:∀{a:Act} {w:World} {G:Gh} (e:Env),(match (outR Y own fn.results.toList).run e.get [] with|some ((x,g),_)=>Nh g.1 (Rp (.ret x) (g.2++e))|none=>False)->Rel Y X nt [] e a w G->LeavesInM (Fr none) fu P fn a.tmps K a.defers .returning w:=by
  intro a w G e hp R;refine Xs R (by simp) λw2 G2 _ _ _ R2=>?_;split at hp
  ·rename_i x g rr d7;obtain⟨ps,W⟩:=g;obtain⟨h1,h2⟩:=Xn hp;obtain⟨hf,vs,h3,h4⟩:=Aw6 S.y R2 d7 h1;obtain⟨G3,R3,lift,hv,_⟩:=Lg R2 hf;have fh:(results fn a.tmps).run P w2=.ok (if h:vs.toArray.size=1 then vs.toArray[0] else .tuple vs.toArray) w2:=by
    have he:fn.results.mapM (Bd a.tmps)=List.toArray <$> fn.results.toList.mapM (Bd a.tmps):=cT ..;have iw:results fn a.tmps=(fn.results.mapM (Bd a.tmps) >>= λvs=>pure (if h:vs.size=1 then vs[0] else .tuple vs)):=rfl;rw[iw,he];simp only[cF,gQ,h3,bK,eY]
   exact⟨_,fh,(hK _ _ _ _ _ R3).1 x _ h2 (h4 R3 lift hv)⟩
  ·trivial
 intro ex a w hq;cases ex with
 |normal=>obtain⟨o,e,h1,⟨G,R⟩⟩:=hq;exact bi e h1 R
 |ret=>obtain⟨o,e,h1,⟨G,R⟩⟩:=hq;exact bi e h1 R
 |panic chain=>
  obtain⟨v,o,e,rfl,h1,⟨G,R⟩⟩:=hq;exact Xs R (by simp) λw2 G2 _ _ _ R2=>(hK _ _ _ _ _ R2).2 v h1
 |exit id=>obtain⟨o,e,h1,_⟩:=hq;trivial
 |goto l=>trivial
 |outgrown=>trivial
end
section
variable {P:Program} {Y:TypeId->Ty} {Gl:World->Prop} {X:Cx} {nt:Nat} {ds:List Deferred} {e e0:Env} {a:Act} {w:World} {G:Gh} {fu:Nat} {yd:Yd}
theorem Abf:∀(xs:List T) (i t:Nat) (E:Env),Env.get (entry i xs++E) 0 t=if i<=t then (match xs[t - i]? with|some x=>x.dem|none=>E.get 0 t) else E.get 0 t
 | [],i,t,E=>by simp[entry]
 |x::xs,i,t,E=>by
  simp only[entry,bZ];rw[Am]
  by_cases h:i=t
  ·grind
  ·rw[bI (λhh=>h hh.2),Abf xs (i+1) t E];grind
theorem Rh:∀(xs:List T) (i:Nat) {t:Nat} (k:Nat) (E:Env),t≠0->Env.get (entry i xs++E) t k=E.get t k
 | [],_,_,_,_,_=>rfl
 |x::xs,i,t,k,E,h=>by
  simp only[entry,bZ];rw[Bb (λhh=>h hh.1.symm)];exact Rh xs (i+1) k E h
theorem Xu {x:T} (h:Iy x=true):x≠.any:=λhh=>by rw[hh]at h;cases h
theorem Agu {E:Env}:∀{l:List Nat},Jr E l=true->∀id∈l,E.get 2 id≠.any
 | [],_,_,h=>(by cases h)
 |i::r,h,id,d6=>by
  simp only[Jr,aE]at h;cases d6 with
  |head=>exact Xu h.1
  |tail _ d6=>exact Agu h.2 id d6
theorem Mk:∀{c9:Env},En c9=true->(∀t,c9.get 0 t=.any∨(t=BIG/\∃p,c9.get 0 t=.tr p))/\(∀k,c9.get 1 k=.any)/\∀id,c9.get 2 id≠.any->FAR<=id
 | [],_=>⟨λ_=>.inl rfl,λ_=>rfl,λ_ h=>absurd rfl h⟩
 |(0,k,x)::r,h=>by
  simp only[En,aE]at h;obtain⟨h1,h2,h3⟩:=Mk h.2;have hk:=aG h.1.1;refine⟨λt=>?_,λk'=>by grind[Bb],λid d6=>h3 id (by trivial)⟩;rw[Am];split
  ·rename_i hh;refine .inr ⟨by omega,?_⟩;have:=h.1.2;unfold La at this;grind
  grind
 |(1,k,x)::r,h=>by trivial
 |(2,k,x)::r,h=>by
  simp only[En,aE]at h;obtain⟨h1,h2,h3⟩:=Mk h.2;grind[Am,Nat.le_of_ble_eq_true]
 |(t+3,k,x)::r,h=>by
  simp only[En]at h;obtain⟨h1,h2,h3⟩:=Mk h;trivial
theorem Kl:∀{c9:Env},En c9=true->∀id,c9.get 2 id≠.any->Cv (c9.get 2 id)=true
 | [],_,_,h=>absurd rfl h
 |(0,k,x)::r,h,id,d6=>by
  simp only[En,aE]at h;rw[Bb (by omega)]at d6 ⊢;exact Kl h.2 id d6
 |(1,k,x)::r,h,_,_=>by trivial
 |(2,k,x)::r,h,id,d6=>by
  simp only[En,aE]at h;rw[Am]at d6 ⊢;split at d6
  ·grind
  ·rename_i hh;rw[bI hh];exact Kl h.2 id d6
 |(t+3,k,x)::r,h,id,d6=>by
  simp only[En]at h;rw[Bb (by omega)]at d6 ⊢;exact Kl h id d6
theorem Bk.tame {G G':Gh} {w:World} {o:T} {b:Nat} (ho:Cv o=true) (hv:G'.vis=G.vis) (h:Bk G w o b):Bk G' w o b:=by
 unfold Bk at h ⊢;split at h<;>first|(rw[hv];exact h)|exact h.elim|cases ho
theorem Ri {c9:Env}:∀{post:Env},Ie c9 post=true->(∀k,Bz 1 k (Bf post)=false)/\(∀id,Bz 2 id (Bf post)=true->Ib (post.get 2 id) (c9.get 2 id)=true)/\∀t k,Bz (t+3) k (Bf post)=true->c9.get (t+3) k≠.any
 | [],_=>⟨λ_=>rfl,λ_ h=>by trivial,λ_ _ h=>by trivial⟩
 |(0,k,x)::r,h=>by
  simp only[Ie,aE]at h;obtain⟨h1,h2,h3⟩:=Ri h.2;trivial
 |(1,k,x)::r,h=>by trivial
 |(2,k,x)::r,h=>by
  simp only[Ie,aE]at h;obtain⟨h1,h2,h3⟩:=Ri h.2;grind[Bf,Bz,Nat.eq_of_beq_eq_true,Am]
 |(t+3,k,x)::r,h=>by
  simp only[Ie,aE]at h;obtain⟨h1,h2,h3⟩:=Ri h.2;grind[Nat.eq_of_beq_eq_true,Bf,Bz,Bb,Xu]
def Aw7 {O:Nat->Prop} {c9 E:Env} (hE:∀id,E.get 2 id=c9.get 2 id) {x:T} {v:Value} (hx:Afb c9 x=true) (h:Aa G w O x v):VOK G w O Y E x.dem v:=by
 cases x with
 |d x=>simp only[Aa]at h;exact VOK.dem h
 |yl l=>exact .plain h rfl rfl trivial
 |fn f as bs=>
  refine⟨h,trivial,λid d6=>?_,λk hk=>(by cases hk)⟩;rw[hE];exact Agu (l:=Bo as++Bo bs) hx id d6
 |addr id k=>exact⟨h,trivial,λi hi=>by simp only[T.dem,Aj,aZ]at hi;subst hi;rw[hE];exact Xu hx,λk hk=>(by cases hk)⟩
 |arr id k=>exact⟨h,trivial,λi hi=>by simp only[T.dem,Aj,aZ]at hi;subst hi;rw[hE];exact Xu hx,λk hk=>(by cases hk)⟩
 |mp id=>exact⟨h,trivial,λi hi=>by simp only[T.dem,Aj,aZ]at hi;subst hi;rw[hE];exact Xu hx,λk hk=>(by cases hk)⟩
 |ag xs=>exact⟨h,trivial,λid d6=>by rw[hE];exact Agu (l:=Bo xs) hx id d6,λk hk=>(by cases hk)⟩
 |_=>trivial
theorem Amj {c9:Env}:∀{xs:List T},Hk c9 xs=true->∀(i:Nat) x,xs[i]?=some x->Afb c9 x=true
 | [],_,i,x,h=>by simp at h
 |y::r,hx,i,x,h=>by
  simp only[Hk,aE]at hx;cases i with
  |zero=>grind
  |succ i=>exact Amj hx.2 i x (by trivial)
def start {args:List T} {c9:Env} {vs:Array Value} (bd:En c9=true) (ha:Hk c9 args=true) (i9:args.length<=nt) (sd:nt<=FAR) (hm:Mem Y X.fz c9 w G) (hr:Ac G w X.fz args vs.toList) (cm:∀k,G.tk k=none) (ec:G.dm=⟨[],.nil⟩)
  (p9:∀b,w.heap.size<=b->G.vis b=0) (x9:∀b,b<X.base->G.vis b=X.vis b) (nu:X.base<=w.heap.size) (l7:∀id,c9.get 2 id≠.any->Own1 X id (G.bk id)) (hlt:∀b,G.H b->b<w.heap.size) (uz:∀b,X.fz b->G.H b)
  (hjj:X.J (trN (c9.get 0 BIG)) G.H G.vis w) (ge:∀id k,FAR<=id->c9.get 2 id=live->c9.get (id+3) k=.any->w.cell? ⟨G.bk id,k,none⟩=X.c0 (G.bk id) k):
  Rel Y X nt [] (entry 0 args++c9) { tmps:=vs++Array.replicate (nt - vs.size) undef,defers:=[] } w G:=by
 obtain⟨p0,p1,p2⟩:=Mk bd;have j9:args.length=vs.size:=by simpa using hr.len
 have ho:∀t k,t≠0->Env.get (entry 0 args++c9) t k=c9.get t k:=λt k ht=>Rh args 0 k c9 ht;have lift:∀{x:T} {v:Value},VOK G w X.fz Y c9 x v->VOK G w X.fz Y (entry 0 args++c9) x v:=λ{x v} h=>h.env (λid=>ho 2 id (by decide)) (λk=>ho 1 k (by decide));have hFB:FAR<BIG:=by decide
 refine⟨⟨λid k hk=>?_,λid h=>?_,λid i5 h1 h2=>?_⟩,by simp;omega,by grind,λD hD=>by rw[ec]at hD;trivial,λt=>?_,λk b hb=>(by grind),λk k' b hb=>(by grind),λk b hb=>(by grind),
  p9,x9,nu,λid h=>?_,hlt,uz,?_,λid k hf h1 h2=>?_⟩
 ·rw[ho _ k (by omega)]at hk ⊢;rw[ho 2 id (by decide)];obtain⟨h1,h2,u,h3,h4⟩:=hm.cells id k hk;grind
 ·rw[ho 2 id (by decide)]at h ⊢;exact hm.box id h
 ·rw[ho 2 _ (by decide)]at h1 h2;exact hm.inj id i5 h1 h2
 ·rw[Abf,bG (bV _),iK];cases ht:args[t]? with
  |none=>
   dsimp only;rcases p0 t with h|⟨_,p,h⟩
   ·rw[h];exact VOK.any _
   ·rw[h];exact .plain (by trivial) rfl rfl trivial
  |some x=>
   have hlt:t<vs.size:=by grind
   have hvt:vs.toList[t]?=some vs[t]:=by grind
   have:=hr.get t x _ ht hvt;have hgd:(vs++Array.replicate (nt - vs.size) undef).getD t undef=vs[t]:=by
    simp[aW,Array.getElem?_append,hlt]
   unfold De;rw[bG (by omega),hgd];exact Aw7 (λid=>ho 2 id (by decide)) (Amj ha t x ht) this
 ·grind
 ·grind[Abf]
 grind
def Xv {base:Nat} {vis:Nat->Nat} {x:T} {o9:Res} {v:Value} (h:∀p∈Ta (.ret x) o9,p) (hr:Kj base vis w x v):∃y,o9=.ret y/\Kj base vis w y v:=by
 unfold Ta at h;split at h
 ·rename_i d y hx;obtain rfl:=Res.ret.inj hx;exact⟨_,rfl,Ag2 h hr⟩
 ·rename_i xs ys hx;obtain rfl:=Res.ret.inj hx;obtain⟨vs,hv,hr⟩:=hr;exact⟨_,rfl,vs,hv,Alg h hr⟩
 ·rename_i sz n f cn n' f' hx;obtain rfl:=Res.ret.inj hx;cases hs:sz.beq cn with
  |false=>grind[List.mem_cons_self]
  |true=>
   rw[hs]at h;obtain rfl:=aG hs;obtain⟨rfl,hf⟩:=h _ aC;obtain⟨b,cs,t,z,c1,c2,c3,c4,c5,c6,cz,c7,c8⟩:=hr;refine⟨_,rfl,b,cs,t,z,c1,c2,c3,c4,c5,c6,cz,c7,λi hi=>?_⟩;grind[Oa,Aay]
 ·rename_i el sz n f bz cn n' f' hx;obtain rfl:=Res.ret.inj hx;cases hs:(el.beq bz&&sz.beq cn) with
  |false=>grind[List.mem_cons_self]
  |true=>
   rw[hs]at h;simp only[aE]at hs;obtain rfl:=aG hs.1;obtain rfl:=aG hs.2;have hq:SEq n f n' f':=h _ aC;obtain⟨rfl,hf⟩:=hq;obtain⟨c1,c2,c3⟩:=hr;refine⟨_,rfl,Aaz (x:=.s .n n f) (y:=.s .n n f') (λp hp=>?_) c1,λi hi=>by grind[Oa],c3⟩;have hp:p∈[SEq n f n f']:=hp;grind
 ·rename_i xs ys hx;obtain rfl:=Res.ret.inj hx;cases hs:Du ys with
  |false=>grind[List.mem_cons_self]
  |true=>
   rw[hs]at h;obtain⟨q1,q2⟩:=hr;refine⟨_,rfl,hs,?_⟩;grind[Aa,Il]
 ·rename_i f a b f' a' b' hx;obtain rfl:=Res.ret.inj hx;cases hs:(f.beq f'&&Ja (.fn f' a' b')) with
  |false=>grind[List.mem_cons_self]
  |true=>
   rw[hs]at h;simp only[aE]at hs;obtain rfl:=aG hs.1;obtain⟨q1,q2⟩:=hr;refine⟨_,rfl,hs.2,?_⟩;simp only[Aa]at q2 ⊢;obtain⟨us,vs,hv,h1,h2⟩:=q2;exact⟨us,vs,hv,Il (λp hp=>h p (aJ _ hp)) h1,Il (λp hp=>h p (aM _ hp)) h2⟩
 ·trivial
 grind[List.mem_cons_self]
def resLs_pan {v:Value} {o9:Res} (h:∀p∈Ta (.pan v) o9,p):o9=.pan v:=by
 unfold Ta at h;grind[List.mem_cons_self]
def Computes.args {f:FuncId} {xs ys:List T} {r:Res} (h:Computes P Gl f ys r) (hl:Mb (Cj xs ys)):Computes P Gl f xs r:=
 ⟨h.1,λvis w vs hv hg ha=>h.2 vis w vs hv hg (Il (Gd hl) ha)⟩
theorem Does.any {f:FuncId} {xs:List T} {c9 post:Env} {r:Res} {yd':Yd} (h:Does P Y Gl yd f xs c9 r post) (hm:yd.m=0) (hn:Jy r=true:=by rfl):Does P Y Gl yd' f xs c9 r post:=
 ⟨h.1,by rw[hn];exact λJ G w vs h1 h2 _=>h.run hn J G w vs h1 h2 (λp H vi w vs hp=>by omega)⟩
def J0 (w:World):Oth:=λ_ H _ w'=>(∀b,b<w.heap.size->H b)/\Below w.heap.size w w'
def Aw8:(J0 w).Stable:=
 ⟨λp H vi w1 w2 ⟨h1,h2⟩ hb _ hs=>⟨h1,h2.trans ⟨hs.os,hs.tape,hs.output,hs.size,λk hk=>hb k (h1 k hk)⟩⟩,λp H vi jy w1 h _ _=>h⟩
abbrev yd0:Yd:=⟨0,0,0,λ_=>[]⟩
def Rj (S:Set P Y Gl) {fn:Func} {args:List T} {vis:Nat->Nat} {w:World} {vs:Array Value} (cb:Gl w) (d8:∀b,w.heap.size<=b->vis b=0) (f7:Ac (Gh0 vis) w (Lo w.heap.size) args vs.toList) (ar:Nat.ble args.length fn.ntmps=true) (w6:Nat.ble fn.ntmps FAR=true) (cu:Hk [] args=true):
  ∃X:Cx,X.J=J0 w/\X.base=w.heap.size/\X.vis=vis/\X.fz=Lo w.heap.size/\Sur P Gl X yd0/\Rel Y X fn.ntmps [] (entry 0 args) { tmps:=vs++Array.replicate (fn.ntmps - vs.size) undef,defers:=[] } w ⟨vis,λ_=>0,λ_=>none,Lo w.heap.size,⟨[],.nil⟩⟩:=by
 obtain⟨X,hX⟩:∃X:Cx,({ base:=w.heap.size,vis:=vis,fz:=Lo w.heap.size,J:=J0 w,st:=Aw8,sh:=#[],c0:=λ_ _=>none,bk0:=λ_=>0 }:Cx)=X:=⟨_,rfl⟩
 have dg:X.J=J0 w:=by grind
 have gy:X.base=w.heap.size:=by grind
 have ga:X.vis=vis:=by grind
 have jz:X.fz=Lo w.heap.size:=by grind
 have U:Sur P Gl X yd0:=⟨λp H vi w' hj=>by rw[dg]at hj;exact S.gl _ _ cb hj.2,λp H vi w vs hp=>absurd hp (aV _),.inl rfl⟩
 have R:Rel Y X fn.ntmps [] (entry 0 args++[]) { tmps:=vs++Array.replicate (fn.ntmps - vs.size) undef,defers:=[] } w ⟨vis,λ_=>0,λ_=>none,Lo w.heap.size,⟨[],.nil⟩⟩:=by
  refine start (X:=X) rfl cu (aH ar) (aH w6) ⟨λid k hk=>absurd rfl hk,λid d6=>absurd rfl d6,λid i5 d6=>absurd rfl d6⟩ ?_ (λ_=>rfl) rfl d8 (λb _=>by rw[ga]) (by omega)
   (λid d6=>absurd rfl d6) (λb hb=>hb) (λb hb=>by rw[jz]at hb;exact hb) (by rw[dg];exact⟨λb hb=>hb,.refl _ _⟩) (λid k _ hl=>by cases hl)
  rw[jz];exact Ac.mono (G:=Gh0 vis) (G':=⟨vis,λ_=>0,λ_=>none,Lo w.heap.size,⟨[],.nil⟩⟩) (O:=Lo w.heap.size) ⟨λ_=>aI _,.refl _ _,λ_ _=>rfl⟩ (λ_ _=>rfl) f7
 grind
theorem fn_ok (S:Set P Y Gl) {f:FuncId} {fn:Func} {args:List T} {o9:Res} (d9:Orc) (hf:P.funcs[f]?=some fn) (m5:(fn.name== "runtime.NumGoroutine")=false)
  (h:Wq (Computes P Gl) (Does P Y Gl) Y yd0 fn args d9 (Aa7 o9) λr=>Hj r o9):Computes P Gl f args o9:=by
 unfold Wq at h;split at h
 case h_2=>exact h.elim
 rename_i c hc;obtain⟨hb,h⟩:=Im h;simp only[aE]at hb;obtain⟨⟨ar,w6⟩,cu⟩:=hb;refine⟨⟨fn,hf,m5,by rw[hc];rfl⟩,λvis w vs d8 cb f7=>?_⟩;obtain⟨X,dg,gy,ga,jz,U,R⟩:=Rj S cb d8 f7 ar w6 cu;have kc:=Od (fu:=0) S c false U (λ_=>rfl) _ d9 _ _ w h ⟨_,R⟩;refine Nz (n:=0) (dB hf hc trivial (dE kc (Xt S λe2 a2 w2 kj G2 R2=>⟨λx v hx hr=>?_,λv hx=>?_⟩)))
 ·have hj:=R2.jj;rw[dg]at hj;rw[gy]at hr;obtain⟨y,rfl,hr⟩:=Xv (Gd hx) hr;exact⟨hj.2,v,G2.vis,rfl,λb hb=>by rw[R2.old b (by omega),ga],R2.fresh,hr⟩
 ·have hj:=R2.jj;rw[dg]at hj;obtain rfl:=resLs_pan (Gd hx);exact⟨hj.2,rfl⟩
def J4 (Xa:Cx) (G:Gh) (w:World) (N:Nat->Prop):Oth:=λp H vi w'=>J2 Xa G w N p H vi w'/\(∀b,G.vis b<=vi b)/\KeepV G.vis w w'
def Agv {N:Nat->Prop}:(J4 X G w N).Stable:=
 ⟨λp H vi w1 w2 ⟨h1,h2,h3⟩ hb hk hs=>⟨Ab7.1 _ _ _ _ _ h1 hb hk hs,h2,h3.trans (hk.le h2)⟩,λp H vi jy w1 ⟨h1,h2,h3⟩ hl he=>⟨Ab7.2 _ _ _ _ _ h1 hl he,λb=>bJ (h2 b) (hl b),h3⟩⟩
theorem Amk {N:Nat->Prop} (U:Sur P Gl X yd):Pf P (J4 X G w N) yd:=by
 rintro p H vis w1 vs hm hs ⟨h1,h2,h3⟩ hlt ae hpu hr;obtain⟨fn,tmps,assign,body,d7,ao⟩:=Agd U p H vis w1 vs hm hs h1 hlt ae hpu hr;exact⟨fn,tmps,assign,body,d7,ao.mono λen w2 ⟨g1,g2,g3,g4,g5⟩=>⟨g1,⟨g2,h2,h3.trans (g4.le h2)⟩,g3,g4,g5⟩⟩
theorem Aml (S:Set P Y Gl) {f:FuncId} {fn:Func} {args:List T} {c9 post:Env} {o9:Res} {c:Code} (hf:P.funcs[f]?=some fn) (m5:(fn.name== "runtime.NumGoroutine")=false) (hc:fn.body=some c)
  (ar:Nat.ble args.length fn.ntmps=true) (w6:Nat.ble fn.ntmps FAR=true) (cu:Hk c9 args=true) (qo:En c9=true) (ti:Ie c9 post=true) (hn:Jy o9=true)
  (hbody:∀(X:Cx) (G G1:Gh) (w:World) (vs:Array Value),Gl w->X.base=w.heap.size->X.vis=G.vis->G1.vis=G.vis->G1.bk=G.bk->(X.fz=λ_=>False)->(∀b k,X.c0 b k=w.cell? ⟨b,k,none⟩)->Sur P Gl X yd->Ac G w (λ_=>False) args vs.toList->(∀b,w.heap.size<=b->G.vis b=0)->
   Rel Y X fn.ntmps [] (entry 0 args++c9) { tmps:=vs++Array.replicate (fn.ntmps - vs.size) undef,defers:=[] } w G1->
   c.wpIn (Fr none) 0 P (Mj Y X fn.ntmps [] (Md Y fn false λr e=>Hj r o9/\le e (Af post c9))) { tmps:=vs++Array.replicate (fn.ntmps - vs.size) undef,defers:=[] } w):Does P Y Gl yd f args c9 o9 post:=by
 obtain⟨p0,p1,p2⟩:=Mk qo;obtain⟨o1,o2,o3⟩:=Ri ti;refine⟨⟨fn,hf,m5,by rw[hc];rfl⟩,?_⟩;rw[hn];refine (λJ G w vs m8 cb vj p9 jd hJ v6 f7=>?_:Aaw P Y Gl yd f args c9 o9 post);obtain⟨Xa,hXa⟩:∃X:Cx,({ base:=w.heap.size,vis:=G.vis,fz:=λ_=>False,J:=J,st:=m8,sh:=#[],c0:=λb k=>w.cell? ⟨b,k,none⟩,bk0:=G.bk }:Cx)=X:=⟨_,rfl⟩
 have pz:Xa.J=J:=by grind
 have qa:∀b,¬Xa.fz b:=by subst hXa;exact λb h=>h
 have Ua:Sur P Gl Xa yd:=⟨λp H vi w' hj=>by rw[pz]at hj;grind,by grind,.inr qa⟩
 obtain⟨N,hN⟩:∃N:Nat->Prop,N=λb=>b<w.heap.size/\¬G.H b/\∀id,c9.get 2 id≠.any->G.bk id≠b:=⟨_,rfl⟩
 obtain⟨X,hX⟩:∃X:Cx,({ Xa with J:=J4 Xa G w N,st:=Agv }:Cx)=X:=⟨_,rfl⟩
 have dg:X.J=J4 Xa G w N:=by grind
 have gy:X.base=w.heap.size:=by grind
 have ga:X.vis=G.vis:=by grind
 have jz:X.fz=λ_=>False:=by grind
 have vk:X.c0=λb k=>w.cell? ⟨b,k,none⟩:=by grind
 have hXk:X.bk0=G.bk:=by grind
 have U:Sur P Gl X yd:=⟨λp H vi w' hj=>by
  rw[dg]at hj;obtain⟨⟨H',_,_,h3,_⟩,_⟩:=hj;rw[pz]at h3;grind,by grind[Amk],.inr (by grind)⟩
 obtain⟨G1,hG1⟩:∃G1:Gh,(⟨G.vis,G.bk,λ_=>none,λb=>G.H b∨N b,⟨[],.nil⟩⟩:Gh)=G1:=⟨_,rfl⟩
 have od:G1.vis=G.vis:=by grind
 have ib:G1.bk=G.bk:=by grind
 have m7:Ext (λ_=>False) G G1 w w:=⟨λb=>by grind,.refl _ _,λ_ _=>rfl⟩
 have lift:∀{x:T} {v:Value},VOK G w (λ_=>False) Y c9 x v->VOK G1 w (λ_=>False) Y c9 x v:=λ{x v} h=>
  VOK.mono m7 (λ_ _=>by rw[ib]) (λ_ h=>h) (λk hk=>absurd (p1 k) hk) (λk b hk=>absurd (p1 k) hk) h
 have hNb:∀id,c9.get 2 id≠.any->¬N (G.bk id):=λid d6 hh=>by grind
 have js:Mem Y (λ_=>False) c9 w G1:=by
  refine⟨λid k hk=>?_,λid d6=>?_,λid i5 h1 h2=>by rw[ib];exact v6.inj id i5 h1 h2⟩
  ·obtain⟨q1,q2,u,q3,q4⟩:=v6.cells id k hk;grind
  ·obtain⟨q1,q2,q3⟩:=v6.box id d6;rw[ib];refine⟨λhh=>?_,q2,?_⟩
   ·subst hG1;grind
   ·exact q3.tame (Kl qo id d6) od
 have R:Rel Y X fn.ntmps [] (entry 0 args++c9) { tmps:=vs++Array.replicate (fn.ntmps - vs.size) undef,defers:=[] } w G1:=by
  refine start (X:=X) qo cu (aH ar) (aH w6) (by grind) ?_ (by subst hG1;grind) (by grind) (by grind) (λb _=>by grind) (by omega)
   (λid d6=>⟨λhf=>by grind,λ_=>by grind⟩) (λb hb=>?_) (λb hb=>by grind) ?_ (λid k _ _ _=>by rw[vk])
  ·grind[Ac.mono]
  ·subst hG1;grind
  ·rw[dg];subst hG1;refine⟨⟨G.H,λb=>gU,λb hb=>?_,by grind,λ_ _=>rfl,λb hb=>absurd hb (qa b),λ_ _=>gU,jd,.refl _⟩,λ_=>aI _,.refl _ _⟩;grind
 have kc:=hbody X G G1 w vs (cb _ _ _ _ hJ) gy ga od ib jz (λb k=>by rw[vk]) U f7 p9 R;have key:∀{e2:Env} {a2:Act} {w2:World} {kj:List Deferred} {G2:Gh} {r:Res} {en:Ending},Rel Y X fn.ntmps kj e2 a2 w2 G2->le e2 (Af post c9)->
   (match r with
    | .ret x=>∃v,en=.returned v/\Kj w.heap.size G2.vis w2 x v
    | .pan v=>en=.panicked [{ v,recovered:=false }]
    | .new _ _=>False)->
   Same w w2/\KeepV G.vis w w2/\(∀b,b<w.heap.size->¬G.H b->(∀id,c9.get 2 id≠.any->G.bk id≠b)->w2.heap[b]?=w.heap[b]?)/\
   (∀id k,c9.get 2 id=live->c9.get (id+3) k=.any->w2.cell? ⟨G.bk id,k,none⟩=w.cell? ⟨G.bk id,k,none⟩)/\Al7 Y J G (Af post c9) w en w2 r:=by
  intro e2 a2 w2 kj G2 r en R2 i7 hr;obtain⟨G3,R3,q1,q2,q3,q4,q5,q6⟩:=Pk i7 R2;have hj:=R3.jj;rw[dg]at hj;obtain⟨⟨H',h1,h2,h3,h4,h5,h6,qx,h7⟩,hv,n8⟩:=hj;have o8:∀id,Env.get (Af post c9) 2 id≠.any->c9.get 2 id≠.any:=λid d6=>by
   grind[Fo,Ib]
  have y9:∀id,Env.get (Af post c9) 2 id≠.any->G3.bk id=G.bk id:=λid d6=>by
   have:=(R3.ownb id d6).2 (p2 id (o8 id d6));grind
  have du:∀k,Env.get (Af post c9) 1 k=.any:=λk=>by
   grind[Fo]
  refine⟨h7,n8,λb hb hH hn=>h4 b (by grind),λid k hl hk=>?_,?_⟩
  ·have d6:c9.get 2 id≠.any:=by rw[hl];exact Bc
   have ua:Env.get (Af post c9) 2 id=live:=by
    rw[Fo];split
    ·rename_i cw;have:=o2 id cw;rw[hl]at this;unfold Ib at this;split at this
     ·trivial
     ·trivial
     ·trivial
     trivial
    ·exact hl
   have t8:Env.get (Af post c9) (id+3) k=.any:=by grind[Fo]
   have:=R3.far id k (p2 id d6) ua t8;grind
  ·obtain⟨G',tp⟩:∃G':Gh,(⟨G3.vis,G.bk,λ_=>none,H',⟨[],.nil⟩⟩:Gh)=G':=⟨_,rfl⟩
   have lf:G'.vis=G3.vis:=by grind
   have lh:G'.bk=G.bk:=by grind
   have qb:G'.H=H':=by grind
   refine⟨G',lh,λb hb=>?_,by rw[lf];exact R3.fresh,by grind,by rw[qb];exact qx,by grind,?_,?_⟩
   ·rw[lf,R3.old b (by omega),ga]
   ·have nc:=R3.mem;rw[jz]at nc;refine⟨λid k hk=>?_,λid d6=>?_,λid i5 h1 h2=>?_⟩
    ·obtain⟨g1,g2,u,g3,g4⟩:=nc.cells id k hk;have d6:Env.get (Af post c9) 2 id≠.any:=by rw[g1];exact Bc
     refine⟨g1,g2,u,by grind,?_⟩;exact VOK.mono ⟨λb=>by grind,.refl _ _,λ_ _=>rfl⟩ (λid d6=>by grind) (λ_ h=>h) (λk hk=>absurd (du k) hk) (λk b hk=>absurd (du k) hk) g4
    ·obtain⟨g1,g2,g3⟩:=nc.box id d6;rw[lh,<-y9 id d6,qb];refine⟨λhh=>g1 ((h1 _).2 (.inl hh)),g2,?_⟩;refine g3.tame ?_ lf;rw[Fo]at d6 ⊢;split at d6
     ·rename_i hk;rw[bG hk];have:=o2 id hk;unfold Ib at this;split at this<;>first|(cases this;done)|(rename_i q1 q2;rw[q1];rfl)
     grind[Kl]
    ·rw[lh,<-y9 id h1,<-y9 i5 h2];exact nc.inj id i5 h1 h2
   grind
 refine Nz (n:=0) (dB hf hc trivial (dE kc (Xt S λe2 a2 w2 kj G2 R2=>⟨λx v hx hr=>?_,λv hx=>?_⟩)))
 ·rw[gy]at hr;obtain⟨y,rfl,hr⟩:=Xv (Gd hx.1) hr;exact key R2 hx.2 ⟨v,rfl,hr⟩
 ·obtain rfl:=resLs_pan (Gd hx.1);exact key R2 hx.2 rfl
theorem Aw9 (S:Set P Y Gl) {f:FuncId} {fn:Func} {args:List T} {c9 post:Env} {o9:Res} (d9:Orc) (hf:P.funcs[f]?=some fn) (m5:(fn.name== "runtime.NumGoroutine")=false)
  (h:Wr (Computes P Gl) (Does P Y Gl) Y yd fn args c9 post d9 λr=>Hj r o9) (hn:Jy o9=true):Does P Y Gl yd f args c9 o9 post:=by
 unfold Wr at h;split at h
 case h_2=>exact h.elim
 rename_i c hc;obtain⟨hb,h⟩:=Im h;simp only[aE]at hb;obtain⟨⟨⟨⟨ar,w6⟩,cu⟩,qo⟩,ti⟩:=hb;exact Aml S hf m5 hc ar w6 cu qo ti hn λX G G1 w vs _ _ _ _ _ _ _ U _ _ R=>Od (fu:=0) S c false U (λ_=>rfl) _ d9 _ _ w h ⟨_,R⟩
def Amm (S:Set P Y Gl) {f:FuncId} {fn:Func} {args:List T} {o9:Res} (d9:Orc) (hf:P.funcs[f]?=some fn) (m5:(fn.name== "runtime.NumGoroutine")=false) (q:Prop)
  (hq:q=Wq (Computes P Gl) (Does P Y Gl) Y yd0 fn args d9 (Aa7 o9) λr=>Hj r o9) (h:q):Computes P Gl f args o9:=by grind[fn_ok]
def Amn (S:Set P Y Gl) {f:FuncId} {fn:Func} {args:List T} {c9 post:Env} {o9:Res} (d9:Orc) (hf:P.funcs[f]?=some fn) (m5:(fn.name== "runtime.NumGoroutine")=false) (q:Prop)
  (hq:q=Wr (Computes P Gl) (Does P Y Gl) Y yd fn args c9 post d9 λr=>Hj r o9) (h:q) (hn:Jy o9=true:=by rfl):Does P Y Gl yd f args c9 o9 post:=by grind[Aw9]
def Ag (S:Set P Y Gl) {f:FuncId} {fn:Func} {args:List T} {o9:Res} (oq:Orc×Prop) (hf:P.funcs[f]?=some fn) (h:oq.2) (m5:(fn.name== "runtime.NumGoroutine")=false:=by kernel_rfl)
  (hq:oq.2=Wq (Computes P Gl) (Does P Y Gl) Y yd0 fn args oq.1 (Aa7 o9) λr=>Hj r o9:=by kernel_rfl):Computes P Gl f args o9:=Amm S oq.1 hf m5 oq.2 hq h
def Bs (S:Set P Y Gl) {f:FuncId} {fn:Func} {args:List T} {c9 post:Env} {o9:Res} (oq:Orc×Prop) (hf:P.funcs[f]?=some fn) (h:oq.2) (m5:(fn.name== "runtime.NumGoroutine")=false:=by kernel_rfl)
  (hq:oq.2=Wr (Computes P Gl) (Does P Y Gl) Y yd fn args c9 post oq.1 λr=>Hj r o9:=by kernel_rfl) (hn:Jy o9=true:=by rfl):Does P Y Gl yd f args c9 o9 post:=Amn S oq.1 hf m5 oq.2 hq h hn
def Ao (S:Set P Y Gl) {f:FuncId} {fn:Func} {args:List T} {o9:Res} (o:Orc) (q:Prop) (hf:P.funcs[f]?=some fn) (h:q) (m5:(fn.name== "runtime.NumGoroutine")=false:=by kernel_rfl)
  (hq:q=Wq (Computes P Gl) (Does P Y Gl) Y yd0 fn args o (Aa7 o9) λr=>Hj r o9:=by kernel_rfl):Computes P Gl f args o9:=Amm S o hf m5 q hq h
def Fp (S:Set P Y Gl) {f:FuncId} {fn:Func} {args:List T} {c9 post:Env} {o9:Res} (o:Orc) (q:Prop) (hf:P.funcs[f]?=some fn) (h:q) (m5:(fn.name== "runtime.NumGoroutine")=false:=by kernel_rfl)
  (hq:q=Wr (Computes P Gl) (Does P Y Gl) Y yd fn args c9 post o λr=>Hj r o9:=by kernel_rfl) (hn:Jy o9=true:=by rfl):Does P Y Gl yd f args c9 o9 post:=Amn S o hf m5 q hq h hn
end
section
variable {P:Program} {Y:TypeId->Ty} {Gl:World->Prop}
def Hl (e:Env) (id:Nat):Nat->List C->Prop
 |_,[]=>True
 |k,c::r=>e.get (id+3) k=.d (.c c)/\Hl e id (k+1) r
theorem Abg {e:Env} {id:Nat}:∀{cs:List C} {k:Nat},Hl e id k cs->∀(j:Nat) c,cs[j]?=some c->e.get (id+3) (k+j)=.d (.c c)
 | [],_,_,j,c,h=>by simp at h
 |x::r,k,h,j,c,hj=>by
  cases j with
  |zero=>simp only[bR,aA]at hj;subst hj;exact h.1
  |succ j=>
   have:=Abg h.2 j c (by trivial);grind
def Awa (t:Nat) (g:FuncId) (id:Nat) (cs:List C):Dp
 | .normal,_,e=>e.get 0 t=.fn g [] [.addr id 0]/\e.get 2 id=live/\Hl e id 0 cs
 | .ret,_,e=>e.get 0 t=.fn g [] [.addr id 0]/\e.get 2 id=live/\Hl e id 0 cs
 |_,_,_=>False
def Amo (Comp:FuncId->List T->Res->Prop) (Comp2:Yd->FuncId->List T->Env->Res->Env->Prop) (Y:TypeId->Ty) (fn:Func) (args:List T) (d9:Orc) (t:Nat) (g:FuncId) (id:Nat) (cs:List C):Prop:=
 match fn.body with
 |some c=>ifB (Nat.ble args.length fn.ntmps&&Nat.ble fn.ntmps FAR&&Hk [] args) (wp Comp Comp2 Y fn.ntmps yd0 false c (Awa t g id cs) d9 (entry 0 args))
 |none=>False
theorem Xw (S:Set P Y Gl) {f:FuncId} {fn:Func} {args:List T} {t:Nat} {g:FuncId} {id:Nat} {cs:List C} (d9:Orc) (hf:P.funcs[f]?=some fn) (m5:(fn.name== "runtime.NumGoroutine")=false) (ht:fn.results=#[.tmp t]) (htf:t<FAR) (vb:id<FAR)
  (q:Prop) (hq:q=Amo (Computes P Gl) (Does P Y Gl) Y fn args d9 t g id cs) (h:q):Computes P Gl f args (.ret (.fn g [] [.d (.c (.p cs))])):=by
 subst hq;unfold Amo at h;split at h
 case h_2=>exact h.elim
 rename_i c hc;obtain⟨hb,h⟩:=Im h;simp only[aE]at hb;obtain⟨⟨ar,w6⟩,cu⟩:=hb;refine⟨⟨fn,hf,m5,by rw[hc];rfl⟩,λvis w vs d8 cb f7=>?_⟩;obtain⟨X,dg,gy,ga,jz,U,R⟩:=Rj S cb d8 f7 ar w6 cu;have kc:=Od (fu:=0) S c false U (λ_=>rfl) _ d9 _ _ w h ⟨_,R⟩;refine Nz (n:=0) (dB hf hc trivial (dE kc ?_));have bi:∀{a:Act} {w2:World} {G:Gh} {e:Env},(e.get 0 t=.fn g [] [.addr id 0]/\e.get 2 id=live/\Hl e id 0 cs)->Rel Y X fn.ntmps [] e a w2 G->
   LeavesInM (Fr none) 0 P fn a.tmps (λen w'=>Below w.heap.size w w'/\Ik vis w en w' (.ret (.fn g [] [.d (.c (.p cs))]))) a.defers .returning w2:=by
  intro a w2 G e ⟨h1,h2,h3⟩ R;refine Xs R (by simp) λw3 G3 _ _ _ R3=>?_;have fh:(results fn a.tmps).run P w3=.ok (a.tmps.getD t undef) w3:=by
   have he:fn.results.mapM (Bd a.tmps)=List.toArray <$> fn.results.toList.mapM (Bd a.tmps):=cT ..;have iw:results fn a.tmps=(fn.results.mapM (Bd a.tmps) >>= λvs=>pure (if h:vs.size=1 then vs[0] else .tuple vs)):=rfl;have d7:([ResultVar.tmp t].mapM (Bd a.tmps)).run P w3=.ok [a.tmps.getD t undef] w3:=by trivial
   rw[iw,he,ht];simp only[cF,gQ,d7,bK,eY]
   rfl
  refine⟨_,fh,?_⟩;have hj:=R3.jj;rw[dg]at hj;have d6:e.get 2 id≠.any:=by rw[h2];exact Bc
  obtain⟨q1,q2,q3⟩:=R3.mem.box id d6;rw[h2]at q3;obtain⟨q3,q4⟩:=q3;have l7:=(R3.ownb id d6).1 vb;have gx:=(R3.slots t).rel;rw[h1]at gx;unfold De at gx;rw[bG htf]at gx;simp only[Aa,Ac]at gx;obtain⟨us,vt,hv,vq,v1,us1,ai,bq,hus1⟩:=gx;obtain⟨vis',hvis'⟩:∃vis':Nat->Nat,vis'=λb=>if b=G3.bk id then cs.length else G3.vis b:=⟨_,rfl⟩
  have hvb:vis' (G3.bk id)=cs.length:=by grind
  have i7:∀b,G3.vis b<=vis' b:=λb=>by
   grind
  refine⟨hj.2,_,vis',rfl,λb hb=>?_,λb hb=>?_,rfl,?_⟩
  ·rw[hvis'];dsimp only;rw[bI (λhh=>by omega),R3.old b (by omega),ga]
  ·rw[hvis'];dsimp only;rw[bI (λhh=>by omega)];exact R3.fresh b hb
  ·simp only[Aa,Ac];refine⟨us,vt,hv,vq,v1,us1,ai,?_,hus1⟩;simp only[Av];subst bq;have hc:∀(j:Nat) c,cs[j]?=some c->∃u,w3.cell? ⟨G3.bk id,j,none⟩=some u/\Rep vis' w3 c u:=λj c hj=>by
    have hg:=Abg h3 j c hj;rw[bH]at hg;obtain⟨_,_,u,hu,hr⟩:=R3.mem.cells id j (by grind);rw[hg]at hr;have hr:=hr.rel;simp only[Aa,Av]at hr;exact⟨u,hu,hr.mono' i7 (.refl _ _)⟩
   refine .p cs (G3.bk id) 0 (λj=>(w3.cell? ⟨G3.bk id,j,none⟩).getD undef) (by show 0+cs.length<=vis' (G3.bk id);omega) (λj c hj=>?_) (λj c hj=>?_)
   ·grind
   ·obtain⟨u,hu,hr⟩:=hc j c hj;rw[hu];exact hr
 intro ex a w2 hq;cases ex with
 |normal=>obtain⟨o,e,h1,⟨G,R⟩⟩:=hq;exact bi h1 R
 |ret=>obtain⟨o,e,h1,⟨G,R⟩⟩:=hq;exact bi h1 R
 |panic chain=>obtain⟨v,o,e,_,h1,_⟩:=hq;trivial
 |exit id=>obtain⟨o,e,h1,_⟩:=hq;trivial
 |goto l=>trivial
 |outgrown=>trivial
def Does.args {f:FuncId} {xs ys:List T} {c9 post:Env} {r:Res} {yd:Yd} (h:Does P Y Gl yd f ys c9 r post) (hl:Mb (Cj xs ys)):Does P Y Gl yd f xs c9 r post:=
 ⟨h.1,by
  have h0:=h.2;cases hb:Jy r with
  |true=>rw[hb]at h0;exact λJ G w vs h1 h2 h3 h4 h5 h6 h7 ha=>h0 J G w vs h1 h2 h3 h4 h5 h6 h7 (Il (Gd hl) ha)
  |false=>
   rw[hb]at h0;simp only[cC]at h0 ⊢;unfold Al9 at h0 ⊢;split
   ·exact λJ G w vs u z h1 h2 h3 h4 h5 h6 h7 ha=>h0 J G w vs u z h1 h2 h3 h4 h5 h6 h7 (Il (Gd hl) ha)
   ·rename_i s7;split at h0
    ·grind
    ·exact λJ G w vs h1 h2 h3 h4 h5 h6 h7 h8 ha=>h0 J G w vs h1 h2 h3 h4 h5 h6 h7 h8 (Il (Gd hl) ha)⟩
end
def upd (f:Nat->Value) (d:Nat) (v:Value) (t:Nat):Value:=if t=d then v else f t
structure SL (a:Act) (n:Nat) (f:Nat->Value) (ds:List Deferred):Prop where
 size:a.tmps.size=n
 defers:a.defers=ds
 get:∀t,t<n->a.tmps.getD t undef=f t
section
variable {P:Program} {Y:TypeId->Ty} {a:Act} {n:Nat} {f:Nat->Value} {ds:List Deferred} {w w':World}
def SL.eval (S:SL a n f ds) {t:Nat} (h:t<n):a.eval (.tmp t)=f t:=S.get t h
theorem SL.put (S:SL a n f ds) {d:Nat} (hd:d<n) (v:Value):SL (a.put (some d) v) n (upd f d v) ds:=by
 refine⟨by simpa[Act.put]using S.size,S.defers,λt ht=>?_⟩;unfold upd
 by_cases h:t=d
 ·subst h;rw[bG rfl];simp[Act.put,Array.getD,S.size,hd]
 ·rw[bI h,<-S.get t ht];simp only[Act.put,aW];grind
def SL.start (vs:Array Value) (n:Nat) (h:vs.size<=n):SL { tmps:=vs++Array.replicate (n - vs.size) undef,defers:=[] } n (λt=>vs.getD t undef) []:=by
 refine⟨by simp;omega,rfl,λt ht=>?_⟩;simp only[aW,Array.getElem?_append];grind
variable {ops:Array Oper} {Q:Exit->Act->World->Prop} {rest:List Oper} {o:Oper}
def Ak (S:SL a n f ds) {d:Nat} {v:Value} (hd:o.dst=some d) (nv:d<n) (hg:o.guard=none) (hr:(execOp a.eval o).run P w=.ok (.value v) w') (h:∀a',SL a' n (upd f d v) ds->wpList P ops Q rest a' w'):
  wpList P ops Q (o::rest) a w:=by
 unfold wpList;rw[bG (by simp[Region.wanted,hg])];left;unfold Oper.wp;rw[hr,Oper.upon_value,hd];exact h _ (S.put nv v)
def Eu (S:SL a n f ds) (hd:o.dst=none) (hg:o.guard=none) (hr:(execOp a.eval o).run P w=.ok .skip w') (h:∀a',SL a' n f ds->wpList P ops Q rest a' w'):
  wpList P ops Q (o::rest) a w:=by
 unfold wpList;rw[bG (by simp[Region.wanted,hg])];left;unfold Oper.wp;rw[hr,Oper.upon_skip,hd];exact h _ ⟨S.size,S.defers,S.get⟩
def Abh (S:SL a n f ds) {d:Deferred} (hd:o.dst=none) (hg:o.guard=none) (hr:(execOp a.eval o).run P w=.ok (.defer d) w) (h:∀a',SL a' n f (d::ds)->wpList P ops Q rest a' w):
  wpList P ops Q (o::rest) a w:=by
 unfold wpList;rw[bG (by simp[Region.wanted,hg])];left;unfold Oper.wp;rw[hr,Oper.upon_defer,hd];exact h _ ⟨S.size,by rw[<-S.defers];rfl,S.get⟩
def Xx (S:SL a n f ds) {d:Nat} {g:FuncId} {vs:Array Value} {R:Ending->World->Prop} (hd:o.dst=some d) (nv:d<n) (hg:o.guard=none) (hr:(execOp a.eval o).run P w=.ok (.enter g vs) w) (hc:Calls P g vs w R)
  (kl:∀v w',R (.returned v) w'->∀a',SL a' n (upd f d v) ds->wpList P ops Q rest a' w') (hpan:∀ch w',R (.panicked ch) w'->Q (.panic ch) a w') (fg:∀w',¬R .outgrown w'):
  wpList P ops Q (o::rest) a w:=by
 unfold wpList;rw[bG (by simp[Region.wanted,hg])];left;unfold Oper.wp;rw[hr,Oper.upon_enter,hd];refine hc.mono λe w' hR=>?_;cases e with
 |returned v=>exact kl v w' hR _ (S.put nv v)
 |panicked ch=>grind
 |outgrown=>grind
def Ev (hY:YOK P Y) {p q:Operand} {t:TypeId} {b:Nat} {v:Value} {cur:Array Value} {ct:TypeId} (ho:o.op=.store t p q) (ax:(Y t).known=true) (hp:a.eval p=.pointer (some ⟨b,0,none⟩)) (hq:a.eval q=v)
  (hs:v.cells.size=(Y t).size) (aw:cur.size=(Y t).size) (h1:∀u∈v.cells.toList,u.oneCell'=true) (w8:w.heap[b]?=some (.cells cur ct (0,0))):
  (execOp a.eval o).run P w=.ok .skip (w.setRow b v.cells)/\(w.setRow b v.cells).heap[b]?=some (.cells v.cells ct (0,0))/\Same w (w.setRow b v.cells)/\∀b',b'≠b->(w.setRow b v.cells).heap[b']?=w.heap[b']?:=by
 have bw:0+0+v.cells.toList.length<=cur.size:=by grind
 have m8:=hS P b 0 ct v.cells.toList 0 cur w w8 bw h1;have au:(cur.toList.take (0+0)++v.cells.toList++cur.toList.drop (0+0+v.cells.toList.length)).toArray=v.cells:=by grind
 rw[au]at m8;refine⟨?_,eH w b cur v.cells ct _ w8,⟨rfl,rfl,rfl,by simp[World.setRow]⟩,λb' hb=>eW w b b' _ hb⟩;have om:v.cells.toList.length=(Y t).size:=by simp[hs]
 simp[execOp,ho,hp,hq,Instr.storeAt,Instr.sureAddr,storeVar,Dq hY ax,m8,<-om]
def Jz (hY:YOK P Y) {t:TypeId} (ho:o.op=.alloc t) (hk:(Y t).known=true):
  (execOp a.eval o).run P w=.ok (.value (.pointer (some ⟨w.heap.size,0,none⟩))) (w.alloc (.cells (Y t).zero.toArray t)):=by
 obtain⟨z,hz,hzc⟩:=Wt hY hk w;simp[execOp,ho,Instr.alloc,hz,newVar,newRow,<-hzc]
def Awb (hY:YOK P Y) {p:Operand} {t:TypeId} {b:Nat} {cur:Array Value} {ct:TypeId} {fr:Nat×Nat} (ho:o.op=.load t p) (l8:(Y t).agg=some true) (hp:a.eval p=.pointer (some ⟨b,0,none⟩)) (aw:cur.size=(Y t).size) (w8:w.heap[b]?=some (.cells cur ct fr)):
  (execOp a.eval o).run P w=.ok (.value (.agg cur)) w:=by
 have:=Jv hY l8 (w:=w) (b:=b) (off:=0) (us:=cur.toList) (by trivial) λj u hj=>by
  grind[World.cell?]
 simp[execOp,ho,hp,Instr.loadAt,Instr.sureAddr,this]
end
section
variable {P:Program} {Y:TypeId->Ty} {Gl:World->Prop} {X:Cx} {nt:Nat} {ds:List Deferred} {e:Env} {a:Act} {w:World} {G:Gh}
def Rel.anew (R:Rel Y X nt ds e a w G) {a':Act} {w':World} {vis':Nat->Nat} {e':Env} (h1:∀k,e'.get 1 k=.any) (h2:∀id,e'.get 2 id=.any) (h3:∀id k,e'.get (id+3) k=.any)
  (j9:a'.tmps.size=a.tmps.size) (hd:a'.defers=a.defers) (am:w.heap.size<=w'.heap.size) (hm:∀D,D∈G.dm->w'.heap[D]?=w.heap[D]?)
  (gx:∀t,e'.get 0 t≠.any->VOK ⟨vis',G.bk,λ_=>none,G.H,G.dm⟩ w' X.fz Y e' (e'.get 0 t) (De X.sh a' t))
  (p9:∀b,w'.heap.size<=b->vis' b=0) (x9:∀b,b<X.base->vis' b=X.vis b) (hj:X.J (trN (e'.get 0 BIG)) G.H vis' w'):Rel Y X nt ds e' a' w' ⟨vis',G.bk,λ_=>none,G.H,G.dm⟩:=by
 refine⟨⟨λid k hk=>absurd (h3 id k) hk,λid d6=>absurd (h2 id) d6,λid i5 d6=>absurd (h2 id) d6⟩,by rw[j9,R.size],by rw[hd,R.defers],λD hD=>?_,λt=>?_,λk b hb=>(by cases hb),λk k' b hb=>(by cases hb),λk b hb=>(by cases hb),
  p9,x9,bJ R.base am,λid d6=>absurd (h2 id) d6,λb hb=>aX (R.hlt b hb) am,R.fzh,hj,λid k _ hl=>by rw[h2 id]at hl;cases hl⟩
 ·obtain⟨q1,q2,q3⟩:=R.marks D hD;grind
 grind[VOK.any]
def Hm:List Code->Code->Code
 | [],t=>t
 |x::xs,t=>.seq x (Hm xs t)
def Pn:Nat->Code->List Code×Code
 |n+1,.seq x y=>(x::(Pn n y).1,(Pn n y).2)
 |_,c=>([],c)
def Abi (E:Env):Dp
 | .normal,_,e=>le e E
 |_,_,_=>False
def Agw (S:Set P Y Gl) {yd:Yd} {fu:Nat} (U:Sur P Gl X yd) {E:Env} {tl:Code} {R:Exit->Act->World->Prop} (ht:∀a w,Cq Y X nt ds E a w->tl.wpIn (Fr none) fu P R a w):
  ∀(xs:List Code) (o:Orc) (e:Env) (a:Act) (w:World),wp (Computes P Gl) (Does P Y Gl) Y nt yd false (Hm xs .skip) (Abi E) o e->Cq Y X nt ds e a w->(Hm xs tl).wpIn (Fr none) fu P R a w:=by
 intro xs
 induction xs with
 |nil=>
  intro o e a w h R;simp only[Hm,wp,Abi]at h;obtain⟨G,R⟩:=R;exact ht a w (Pm h R)
 |cons x xs ih=>
  intro o e a w h R;simp only[Hm,wp]at h;refine eZ (dE (Od S x false U (λ_=>rfl) _ o e a w h R) λex a' w' hq=>?_);cases ex with
  |normal=>obtain⟨o',e',h1,h2⟩:=hq;exact ih o' e' a' w' h1 h2
  |exit id=>obtain⟨o',e',h1,_⟩:=hq;trivial
  |ret=>obtain⟨o',e',h1,_⟩:=hq;trivial
  |panic ch=>obtain⟨v,o',e',_,h1,_⟩:=hq;trivial
  |goto l=>trivial
  |outgrown=>trivial
def Xy (Comp:FuncId->List T->Res->Prop) (Comp2:Yd->FuncId->List T->Env->Res->Env->Prop) (Y:TypeId->Ty) (fn:Func) (xs:List Code) (args:List T) (E:Env) (d9:Orc):Prop:=
 ifB (Nat.ble args.length fn.ntmps&&Nat.ble fn.ntmps FAR&&Hk [] args) (wp Comp Comp2 Y fn.ntmps yd0 false (Hm xs .skip) (Abi E) d9 (entry 0 args))
structure Tail (P:Program) (Gl:World->Prop) (Y:TypeId->Ty) (X:Cx) (fn:Func) (E:Env) (vis:Nat->Nat) (w0:World) (a:Act) (w:World) (G:Gh):Prop where
 J:X.J=J0 w0
 base:X.base=w0.heap.size
 vis:X.vis=vis
 fz:X.fz=Lo w0.heap.size
 gl0:Gl w0
 gl:Gl w
 rel:Rel Y X fn.ntmps [] E a w G
def Amp (P:Program) (Gl:World->Prop) (f:FuncId) (args:List T) (R:(Nat->Nat)->World->Ending->World->Prop):Prop:=
 Ha P f/\∀(vis:Nat->Nat) (w:World) (vs:Array Value),(∀b,w.heap.size<=b->vis b=0)->Gl w->Ac (Gh0 vis) w (Lo w.heap.size) args vs.toList->Calls P f vs w λen w'=>R vis w en w'
def Amq (S:Set P Y Gl) {f:FuncId} {fn:Func} {args:List T} {c:Code} {xs:List Code} {tl:Code} {E:Env} (R:(Nat->Nat)->World->Ending->World->Prop) (d9:Orc) (hf:P.funcs[f]?=some fn) (m5:(fn.name== "runtime.NumGoroutine")=false) (hc:fn.body=some c) (nw:c=Hm xs tl)
  (q:Prop) (hq:q=Xy (Computes P Gl) (Does P Y Gl) Y fn xs args E d9) (h:q)
  (ny:∀(X:Cx) (vis:Nat->Nat) (w0:World) (a:Act) (w:World) (G:Gh),Tail P Gl Y X fn E vis w0 a w G->tl.wpIn (Fr none) 0 P (bodyPostM (Fr none) 0 P fn λen w'=>R vis w0 en w') a w):
  Amp P Gl f args R:=by
 subst hq;unfold Xy at h;obtain⟨hb,h⟩:=Im h;simp only[aE]at hb;obtain⟨⟨ar,w6⟩,cu⟩:=hb;refine⟨⟨fn,hf,m5,by rw[hc];rfl⟩,λvis w vs d8 cb f7=>?_⟩;obtain⟨X,dg,gy,ga,jz,U,R0⟩:=Rj S cb d8 f7 ar w6 cu;have kc:=Agw (fu:=0) (ds:=[]) (tl:=tl) S U (R:=bodyPostM (Fr none) 0 P fn λen w'=>R vis w en w') (λa2 w2 ⟨G2,R2⟩=>ny X vis w a2 w2 G2 ⟨dg,gy,ga,jz,cb,by
  have hj:=R2.jj;rw[dg]at hj;exact S.gl _ _ cb hj.2,R2⟩) xs d9 _ _ w h ⟨_,R0⟩
 rw[<-nw]at kc;exact Nz (n:=0) (dB hf hc trivial kc)
def Amr (S:Set P Y Gl) {f:FuncId} {fn:Func} {args:List T} {o9:Res} {c:Code} {xs:List Code} {tl:Code} {E:Env} (d9:Orc) (hf:P.funcs[f]?=some fn) (m5:(fn.name== "runtime.NumGoroutine")=false) (hc:fn.body=some c) (nw:c=Hm xs tl)
  (q:Prop) (hq:q=Xy (Computes P Gl) (Does P Y Gl) Y fn xs args E d9) (h:q)
  (ny:∀(X:Cx) (vis:Nat->Nat) (w0:World) (a:Act) (w:World) (G:Gh),Tail P Gl Y X fn E vis w0 a w G->tl.wpIn (Fr none) 0 P (bodyPostM (Fr none) 0 P fn λen w'=>Below w0.heap.size w0 w'/\Ik vis w0 en w' o9) a w):Computes P Gl f args o9:=
 Amq S (λvis w en w'=>Below w.heap.size w w'/\Ik vis w en w' o9) d9 hf m5 hc nw q hq h ny
def Tail.leave (S:Set P Y Gl) {fn:Func} {E E':Env} {vis:Nat->Nat} {w0:World} {o9:Res} (T:Tail P Gl Y X fn E vis w0 a w G) {a':Act} {w':World} {G':Gh} (R':Rel Y X fn.ntmps [] E' a' w' G') (h:Md Y fn false (λr _=>Hj r o9) .ret .nil E'):
  bodyPostM (Fr none) 0 P fn (λen w'=>Below w0.heap.size w0 w'/\Ik vis w0 en w' o9) .ret a' w':=by
 refine Xt S (X:=X) (nt:=fn.ntmps) (own:=false) (Rp:=λr _=>Hj r o9) (λe2 a2 w2 kj G2 R2=>⟨λx v hx hr=>?_,λv hx=>?_⟩) .ret a' w' ⟨.nil,E',h,⟨G',R'⟩⟩
 ·have hj:=R2.jj;rw[T.J]at hj;rw[T.base]at hr;obtain⟨y,rfl,hr⟩:=Xv (Gd hx) hr;exact⟨hj.2,v,G2.vis,rfl,λb hb=>by rw[R2.old b (by rw[T.base];exact hb),T.vis],R2.fresh,hr⟩
 ·have hj:=R2.jj;rw[T.J]at hj;obtain rfl:=resLs_pan (Gd hx);exact⟨hj.2,rfl⟩
def Ml {ops:Array Oper} {Q:Exit->Act->World->Prop} {i:Nat} {l:List Nat} {o:Oper} {v:Value} {w':World} {rd:Option Nat} {fu:Nat} (ho:ops[i]?=some o) (hg:o.guard=none) (aq:∀c,o.op≠.defer c) (hr:(execOp a.eval o).run P w=.ok (.value v) w')
  (h:wpOpsIn (Fr rd) fu P ops Q l (a.put o.dst v) w'):wpOpsIn (Fr rd) fu P ops Q (i::l) a w:=by
 unfold wpOpsIn;rw[ho];dsimp only;rw[bG (by simp[Region.wanted,hg])];refine⟨λ_ _=>trivial,?_⟩;rw[dK _ _ _ aq,hr];exact h
def Ams {ops:Array Oper} {Q:Exit->Act->World->Prop} {i:Nat} {l:List Nat} {o:Oper} {g:FuncId} {vs:Array Value} {R:Ending->World->Prop} {rd:Option Nat} {fu:Nat} (ho:ops[i]?=some o) (hg:o.guard=none) (aq:∀c,o.op≠.defer c) (hr:(execOp a.eval o).run P w=.ok (.enter g vs) w)
  (hc:Calls P g vs w R) (h:∀en w',R en w'->∃v,en=.returned v/\wpOpsIn (Fr rd) fu P ops Q l (a.put o.dst v) w'):wpOpsIn (Fr rd) fu P ops Q (i::l) a w:=by
 grind[wpOpsIn,Region.wanted,Tu]
end
def Abj:TypeDesc->K
 | .int k=>.int k
 | .bool=>.bool
 | .string=>.str
 | .slice e=>.slice e
 | .struct fs=>.struct (fs.toList.map λf=>(f.offset,f.type))
 | .array n e=>.arr n e
 | .map k e=>.map k e
 | .interface _=>.iface
 | .func _ _ _=>.func
 | .pointer _=>.ptr
 |_=>.other
def Amt (P:Program) (f:Field):Bool:=
 match P.info? f.type with
 |some i=>!(i.size.beq 0)
 |none=>false
def Amu (P:Program) (d:TypeDesc) (n:Nat):Bool:=
 match d with
 | .struct fs=>fs.toList.all (Amt P)
 | .array _ _=>true
 |_=>n.beq 1
def Amv (d:TypeDesc) (z:Value):Bool:=
 match d,z with
 | .struct _,.agg _=>true
 | .array _ _,.agg _=>true
 | .struct _,_=>false
 | .array _ _,_=>false
 |_,z=>z.oneCell'
def Xz:Ty:={ kind:=.none,size:=1,bytes:=8,zero:=[] }
def tyOf (P:Program) (t:TypeId):Ty:=
 match P.underlying t,P.info? t with
 |some d,some i=>match i.zero with
  |some z=>bif Amu P d i.size&&Amv d z&&z.cells.toList.length.beq i.size then { kind:=Abj d,size:=i.size,bytes:=i.bytes,zero:=z.cells.toList } else Xz
  |none=>Xz
 |_,_=>Xz
def Awc {P:Program} (t:TypeId) (h:(tyOf P t).known=true):Qx P t (tyOf P t):=by
 unfold tyOf at h ⊢;split at h
 ·rename_i d i hd hi;split at h
  ·rename_i z hz;cases hb:(Amu P d i.size&&Amv d z&&z.cells.toList.length.beq i.size) with
   |false=>grind[Xz,Ty.known]
   |true=>
    obtain⟨h0,h2⟩:=and_true hb;obtain⟨h1,h1z⟩:=and_true h0;have h2:=aG h2;simp only[hz,hb,bA];refine⟨d,i,z,hd,hi,rfl,rfl,hz,rfl,?_,?_,h2,λh=>(by cases h),?_,λname f h=>(by cases h)⟩
    ·dsimp only;cases d<;>simp only[Abj,KOK]
     case struct fs=>
      refine⟨fs,rfl,rfl,λf hf=>?_⟩;have:=aS.1 h1 f hf;unfold Amt at this;split at this
      ·rename_i i' gh;exact⟨i',gh,λh0=>by rw[h0]at this;cases this⟩
      trivial
     all_goals grind
    ·intro l8;cases d<;>simp only[Ty.agg,Abj,aA,reduceCtorEq]at l8<;>exact aG h1
    ·intro ag l8;cases d<;>simp only[Ty.agg,Abj,aA,reduceCtorEq]at l8<;>subst l8
     case struct fs=>
      cases z with
      |agg cs=>grind
      |_=>trivial
     case array n e=>
      cases z with
      |agg cs=>grind
      |_=>trivial
     all_goals trivial
  trivial
 trivial
def Abl:List (TypeId×Ty)->TypeId->Ty
 | [],_=>Xz
 |(u,y)::r,t=>bif u.beq t then y else Abl r t
def Ty.plain (y:Ty):Ty:={ y with eqi:=false,meth:=[] }
def Abm (P:Program):List (TypeId×Ty)->List (TypeId×Ty)
 | []=>[]
 |(t,_)::r=>(t,tyOf P t)::Abm P r
def Abn:List (TypeId×Ty)->List (TypeId×Ty)
 | []=>[]
 |(t,y)::r=>(t,y.plain)::Abn r
def Amw:TypeDesc->Bool
 | .pointer _=>true
 |_=>false
def Abo (P:Program) (t:TypeId) (name:String):Option FuncId:=
 match P.info? t,P.underlying t with
 |some i,some d=>bif Amw d then none else match i.methods.find? (λm=>m.name==name) with
  |some m=>match m.path.toList,m.func with
   | [],some (f,false)=>some f
   |_,_=>none
  |none=>none
 |_,_=>none
def Awd {P:Program} {t:TypeId} {name:String} {f:FuncId} (h:Abo P t name=some f) (k:Nat) (v:Value) (w:World):(method (k+1) t v name).run P w=.ok (f,v) w:=by
 unfold Abo at h;split at h
 ·rename_i i d hi hd;cases hp0:Amw d with
  |true=>grind
  |false=>
   rw[hp0,cC]at h;split at h
   ·rename_i m hm;split at h
    ·rename_i f' hp hf;obtain rfl:=bS h;have hu:=aO (w:=w) hd;unfold method;cases d<;>first|(cases hp0;done)|simp[typeInfo,hi,hm,hp,hf,follow,receiverAt,hu,Place.get]
    ·cases h
   ·cases h
 ·cases h
def Amx (P:Program) (tab:List (TypeId×Ty)):Bool:=tab.all λp=>p.2.meth.all λq=>Abo P p.1 q.1==some q.2
def Awe {l:List (String×FuncId)} {name:String} {f:FuncId} (h:Ly l name=some f):(name,f)∈l:=by
 induction l with
 |nil=>cases h
 |cons p l ih=>
  grind[Ly]
def Awf {P:Program} {tab:List (TypeId×Ty)} (h:Amx P tab=true):∀p∈tab,∀name f,Ly p.2.meth name=some f->∀(v:Value) (w:World),(method (P.types.size+Made.depth) p.1 v name).run P w=.ok (f,v) w:=by
 intro p hp name f hg v w;have h1:=aS.1 (aS.1 h p hp) _ (Awe hg);have h2:Abo P p.1 name=some f:=by grind
 exact Awd h2 (P.types.size+99) v w
def Qx.eqi {P:Program} {t:TypeId} {y:Ty} (h:Qx P t y.plain) (hq:y.eqi=true->EqI P t y.size) (hm:∀name f,Ly y.meth name=some f->∀(v:Value) (w:World),(method (P.types.size+Made.depth) t v name).run P w=.ok (f,v) w):Qx P t y:=by
 obtain⟨d,i,z,h1,h2,h3,h4,h5,h6,h7,h8,h9,_,jk,_⟩:=h;exact⟨d,i,z,h1,h2,h3,h4,h5,h6,h7,h8,h9,hq,jk,hm⟩
def Awg {P:Program}:∀(tab:List (TypeId×Ty)),Abn tab=Abm P tab->(∀p∈tab,p.2.eqi=true->EqI P p.1 p.2.size)->(∀p∈tab,∀name f,Ly p.2.meth name=some f->∀(v:Value) (w:World),(method (P.types.size+Made.depth) p.1 v name).run P w=.ok (f,v) w)->YOK P (Abl tab):=by
 intro tab
 induction tab with
 |nil=>intro _ _ _ t h;trivial
 |cons p r ih=>
  obtain⟨u,y⟩:=p;intro h hq hm t ht;simp only[Abn,Abm,cI,aD,gX]at h;unfold Abl at ht ⊢;cases hu:u.beq t with
  |false=>
   simp only[hu,cC]at ht ⊢;exact ih h.2 (λp hp=>hq p (aU _ hp)) (λp hp=>hm p (aU _ hp)) t ht
  |true=>
   have hut:=aG hu;subst hut;simp only[hu,bA]at ht ⊢;refine Qx.eqi ?_ (hq (u,y) aC) (hm (u,y) aC);rw[h.1];refine Awc u ?_;rw[<-h.1];exact ht
section
variable (P:Program)
def Mm (g:TypeId->Option Nat):List Field->Nat->Option Nat
 | [],off=>some off
 |f::r,off=>bif (f.name != "_")&&f.offset.beq off then match g f.type with
   |some n=>Mm g r (off+n)
   |none=>none
  else none
def Of:Nat->TypeId->Option Nat
 |0,_=>none
 |d+1,t=>match P.underlying t,P.info? t with
  |some (.int .i64),some i=>bif i.size.beq 1 then some 1 else none
  |some (.struct fs),some i=>bif P.stoodInHeld t then none else match Mm (Of d) fs.toList 0 with
    |some n=>bif i.size.beq n then some n else none
    |none=>none
  |_,_=>none
end
def Dv (l:List Int):List Value:=l.map (Value.int .i64)
def Awh:∀{a b c d:List Int},a.length=b.length->eqL (a++c) (b++d)=(eqL a b&&eqL c d):=by
 intro a
 induction a with
 |nil=>
  intro b c d h;cases b with
  |nil=>rfl
  |cons x b=>simp at h
 |cons x a ih=>
  intro b c d h;cases b with
  |nil=>simp at h
  |cons y b=>
   simp only[bZ,eqL];rw[ih (by simpa using h),Bool.and_assoc]
variable {P:Program}
def Amy {g:TypeId->Option Nat}:∀{fs:List Field} {off n:Nat},Mm g fs off=some n->off<=n:=by
 intro fs
 induction fs with
 |nil=>intro off n h;simp only[Mm,aA]at h;omega
 |cons f r ih=>
  intro off n h;unfold Mm at h;obtain⟨_,h⟩:=Jx h;split at h
  ·have:=ih h;omega
  ·cases h
def Amz (l:List Int) (off m n:Nat) (h1:off+m<=n):(l.drop off).take (n - off)=(l.drop off).take m++(l.drop (off+m)).take (n - (off+m)):=by
 rw[<-List.drop_drop];have:n - off=m+(n - (off+m)):=by omega
 rw[this,List.take_add]
def An0 (P:Program) (w:World) (d:Nat) (t:TypeId) (n:Nat):Prop:=
 ∀(l m:List Int) (off:Nat),off+n<=l.length->off+n<=m.length->
  ∃x y,(part t (Dv l).toArray off).run P w=.ok x w/\(part t (Dv m).toArray off).run P w=.ok y w/\∀e,(Op.equalIn (d+e) t x y).run P w=.ok (eqL ((l.drop off).take n) ((m.drop off).take n)) w
def Awi (w:World) (d e:Nat) (l m:List Int) {g:TypeId->Option Nat} (hg:∀t n,g t=some n->An0 P w d t n):∀{fs:List Field} {off n:Nat},Mm g fs off=some n->n<=l.length->n<=m.length->
  (Op.eqFields (d+e) (Dv l).toArray (Dv m).toArray fs).run P w=.ok (eqL ((l.drop off).take (n - off)) ((m.drop off).take (n - off))) w:=by
 intro fs
 induction fs with
 |nil=>
  intro off n h _ _;simp only[Mm,aA]at h;subst h;simp[Op.eqFields,eqL]
 |cons f r ih=>
  intro off n h hl hm;unfold Mm at h;obtain⟨hb,h⟩:=Jx h;obtain⟨hn,ho⟩:=and_true hb;have ho:=aG ho;have hn:f.name≠ "_":=by simpa using hn
  split at h
  ·rename_i k hk;have i7:=Amy h;obtain⟨x,y,p1,p2,p3⟩:=hg f.type k hk l m off (by omega) (by omega);have:=ih h hl hm;rw[Amz l off k n i7,Amz m off k n i7,Awh (by simp;omega)];simp only[Op.eqFields,hn,ne_eq,not_false_eq_true,eV,cF,ho,p1,p2,p3 e,bK];cases eqL ((l.drop off).take k) ((m.drop off).take k) with
   |false=>simp
   |true=>simpa using this
  ·cases h
def Agx {l:List Int} {i:Nat} (h:i<l.length):(Dv l).toArray[i]?=some (.int .i64 l[i]):=by
 simp[Dv,aQ h]
def Awj (w:World):∀(d:Nat) (t:TypeId) (n:Nat),Of P d t=some n->An0 P w d t n:=by
 intro d
 induction d with
 |zero=>intro t n h;cases h
 |succ d ih=>
  intro t n h l m off hl hm;unfold Of at h;split at h
  ·rename_i i hu hi;obtain⟨hs,h⟩:=Jx h;simp only[aA]at h;subst h;refine⟨.int .i64 (l[off]'(by omega)),.int .i64 (m[off]'(by omega)),?_,?_,λe=>?_⟩
   ·simp[part,isAgg,aO hu,Agx (show off<l.length by omega)]
   ·simp[part,isAgg,aO hu,Agx (show off<m.length by omega)]
   ·rw[show d+1+e=(d+e)+1 by omega];have e1:(l.drop off).take 1=[l[off]'(by omega)]:=by
     rw[dP (by omega)];rfl
    have e2:(m.drop off).take 1=[m[off]'(by omega)]:=by
     rw[dP (by omega)];rfl
    rw[e1,e2];simp[Op.equalIn,aO hu,eqL]
  ·rename_i fs i hu hi;cases m8:P.stoodInHeld t with
   |true=>rw[m8]at h;cases h
   |false=>
    rw[m8]at h;simp only[cC]at h;split at h
    ·rename_i k hk;obtain⟨hs,h⟩:=Jx h;have hs:=aG hs;simp only[aA]at h;subst h;have j9:(sizeOf t).run P w=.ok k w:=by simp[sizeOf,typeInfo,hi,hs]
     have ub:∀(q:List Int),(Dv q).toArray.extract off (off+k)=(Dv ((q.drop off).take k)).toArray:=by
      intro q;apply Array.ext';simp[Dv,fJ,eF,gO,gP]
     refine⟨.agg (Dv ((l.drop off).take k)).toArray,.agg (Dv ((m.drop off).take k)).toArray,?_,?_,λe=>?_⟩
     ·simp[part,isAgg,aO hu,j9,ub];simp[Dv,gO,gP]
     ·simp[part,isAgg,aO hu,j9,ub];simp[Dv,gO,gP]
     ·rw[show d+1+e=(d+e)+1 by omega];have jx:P.fieldsOf t=fs:=by simp[Program.fieldsOf,hu]
      rw[run_equalIn_struct w (d+e) t _ _ (by rw[jx];exact hu) m8,jx];have:=Awi w d e ((l.drop off).take k) ((m.drop off).take k) ih hk (by simp;omega) (by simp;omega);rw[this];simp[List.take_take]
    ·cases h
  ·cases h
def An1 (P:Program) (w:World) (em:Bool) (d:Nat) (t:TypeId) (n:Nat):Prop:=
 ∀(l:List Int) (off:Nat),off+n<=l.length->∃x,(part t (Dv l).toArray off).run P w=.ok x w/\∀e,(Instr.checkKey em (d+e) t x).run P w=.ok () w
def Awk (w:World) (em:Bool) (d e:Nat) (l:List Int) {g:TypeId->Option Nat} (hg:∀t n,g t=some n->An1 P w em d t n):∀{fs:List Field} {off n:Nat},Mm g fs off=some n->n<=l.length->
  (forIn fs PUnit.unit λ(f:Field) (s:PUnit)=>(if f.name≠ "_" then (do
    let x <-part f.type (Dv l).toArray f.offset
    Instr.checkKey em (d+e) f.type x
    pure (ForInStep.yield PUnit.unit)) else pure (ForInStep.yield PUnit.unit):Sem (ForInStep PUnit))).run P w=.ok PUnit.unit w:=by
 intro fs
 induction fs with
 |nil=>intro off n _ _;rfl
 |cons f r ih=>
  intro off n h hl;unfold Mm at h;obtain⟨hb,h⟩:=Jx h;obtain⟨hn,ho⟩:=and_true hb;have ho:=aG ho;have hn:f.name≠ "_":=by simpa using hn
  split at h
  ·rename_i k hk;have i7:=Amy h;obtain⟨x,p1,p2⟩:=hg f.type k hk l off (by omega);have:=ih h hl;simp only[List.forIn_cons,hn,ne_eq,not_false_eq_true,eV,cF,ho,p1,p2 e,bK,eY]at this ⊢;exact this
  ·cases h
def Awl (w:World) (em:Bool):∀(d:Nat) (t:TypeId) (n:Nat),Of P d t=some n->An1 P w em d t n:=by
 intro d
 induction d with
 |zero=>intro t n h;cases h
 |succ d ih=>
  intro t n h l off hl;unfold Of at h;split at h
  ·rename_i i hu hi;obtain⟨hs,h⟩:=Jx h;simp only[aA]at h;subst h;refine⟨.int .i64 (l[off]'(by omega)),?_,λe=>?_⟩
   ·simp[part,isAgg,aO hu,Agx (show off<l.length by omega)]
   ·rw[show d+1+e=(d+e)+1 by omega];unfold Instr.checkKey;simp[aO hu]
  ·rename_i fs i hu hi;cases m8:P.stoodInHeld t with
   |true=>rw[m8]at h;cases h
   |false=>
    rw[m8]at h;simp only[cC]at h;split at h
    ·rename_i k hk;obtain⟨hs,h⟩:=Jx h;have hs:=aG hs;simp only[aA]at h;subst h;have j9:(sizeOf t).run P w=.ok k w:=by simp[sizeOf,typeInfo,hi,hs]
     have ub:∀(q:List Int),(Dv q).toArray.extract off (off+k)=(Dv ((q.drop off).take k)).toArray:=by
      intro q;apply Array.ext';simp[Dv,fJ,eF,gO,gP]
     refine⟨.agg (Dv ((l.drop off).take k)).toArray,?_,λe=>?_⟩
     ·simp[part,isAgg,aO hu,j9,ub];simp[Dv,gO,gP]
     ·rw[show d+1+e=(d+e)+1 by omega];have:=Awk w em d e ((l.drop off).take k) ih hk (by simp;omega);unfold Instr.checkKey;simp only[cF,aO hu,bK];rw[<-Array.forIn_toList];rw[this]
      rfl
    ·cases h
  ·cases h
def Awm {t:TypeId} {n d:Nat} (h:Of P d t=some n) (hd:d<=10000) (m8:(match P.underlying t with|some (.struct _)=>true|_=>false)=true) (hg:P.eqGuardType P.depth t=false):EqI P t n:=by
 intro xs ys hx hy w;refine⟨hg,?_⟩;obtain⟨x,y,p1,p2,p3⟩:=Awj w d t n h xs ys 0 (by omega) (by omega);have h9:=p3 (10000 - d);rw[show d+(10000 - d)=10000 by omega]at h9;have am:∃fs i,P.underlying t=some (.struct fs)/\P.info? t=some i/\i.size=n:=by
  cases d with
  |zero=>cases h
  |succ d=>
   unfold Of at h;split at h
   ·rename_i hu hi;rw[hu]at m8;cases m8
   ·rename_i fs i hu hi;cases hsi:P.stoodInHeld t with
    |true=>rw[hsi]at h;cases h
    |false=>
     rw[hsi]at h;simp only[cC]at h;split at h
     ·obtain⟨hs,h⟩:=Jx h;have hs:=aG hs;simp only[aA]at h;exact⟨fs,i,hu,hi,by omega⟩
     ·cases h
   ·cases h
 obtain⟨fs,i,hu,hi,hs⟩:=am;have j9:(sizeOf t).run P w=.ok n w:=by simp[sizeOf,typeInfo,hi,hs]
 have pe:∀(q:List Int),q.length=n->(part t (Dv q).toArray 0).run P w=.ok (.agg (Dv q).toArray) w:=by
  intro q hq;have hl:(Dv q).length=n:=by simp[Dv,hq]
  have:(Dv q).toArray.extract 0 n=(Dv q).toArray:=by
   apply Array.ext';rw[fJ,eF];simp only[iK,List.drop_zero];rw[<-hl,fQ]
  simp only[part,cF,isAgg,aO hu,bK,eY,eV,bH,j9,this]
 rw[pe xs hx]at p1;rw[pe ys hy]at p2;simp only[Result.ok.injEq]at p1 p2;rw[<-p1.1,<-p2.1]at h9;have e1:(xs.drop 0).take n=xs:=by simp[<-hx]
 have e2:(ys.drop 0).take n=ys:=by simp[<-hy]
 rw[e1,e2]at h9;refine⟨h9,λem=>?_⟩;obtain⟨x',c1,c2⟩:=Awl w em d t n h xs 0 (by omega);rw[pe xs hx]at c1;simp only[Result.ok.injEq]at c1;have c3:=c2 (10000 - d);rw[show d+(10000 - d)=10000 by omega,<-c1.1]at c3;exact c3
def An2:Option TypeDesc->Bool
 |some (.struct _)=>true
 |_=>false
def Agy (P:Program):List (TypeId×Ty)->Bool
 | []=>true
 |(t,y)::r=>(!y.eqi||(An2 (P.underlying t)&&!P.eqGuardType P.depth t&&(match Of P 5 t with|some n=>n.beq y.size|none=>false)))&&Agy P r
def Awn:∀{tab:List (TypeId×Ty)},Agy P tab=true->∀p∈tab,p.2.eqi=true->EqI P p.1 p.2.size:=by
 intro tab
 induction tab with
 |nil=>intro _ p hp;cases hp
 |cons q r ih=>
  obtain⟨t,y⟩:=q;intro h p hp hq;obtain⟨h1,h2⟩:=and_true h;cases hp with
  |tail _ hp=>exact ih h2 p hp hq
  |head=>
   dsimp only at hq ⊢;rw[hq]at h1;simp only[gM,iG]at h1;obtain⟨h3,h4⟩:=and_true h1;obtain⟨h5,h6⟩:=and_true h3;cases hf:Of P 5 t with
   |none=>rw[hf]at h4;cases h4
   |some n=>
    rw[hf]at h4;have h4:=aG h4;rw[<-h4];refine Awm hf (by omega) ?_ (by simpa using h6);unfold An2 at h5;split at h5
    ·rename_i hu;simp only[hu]
    ·cases h5
section
variable {P:Program} {Y:TypeId->Ty} {Gl:World->Prop} {X:Cx} {nt:Nat} {ds:List Deferred} {e e0:Env} {a:Act} {w:World} {G:Gh} {rd:Option Nat} {fu:Nat} {yd:Yd}
end
open Go
section
variable {P:Program} {Y:TypeId->Ty} {Gl:World->Prop}
def Awo (t:Nat) (g:FuncId) (id:Nat) (cs:List C) (id2:Nat) (gf:List C):Dp
 | .normal,_,e=>e.get 0 t=.fn g [] [.addr id 0,.addr id2 0]/\e.get 2 id=live/\e.get 2 id2=live/\Hl e id 0 cs/\Hl e id2 0 gf
 | .ret,_,e=>e.get 0 t=.fn g [] [.addr id 0,.addr id2 0]/\e.get 2 id=live/\e.get 2 id2=live/\Hl e id 0 cs/\Hl e id2 0 gf
 |_,_,_=>False
def An3 (Comp:FuncId->List T->Res->Prop) (Comp2:Yd->FuncId->List T->Env->Res->Env->Prop) (Y:TypeId->Ty) (fn:Func) (args:List T) (d9:Orc) (t:Nat) (g:FuncId) (id:Nat) (cs:List C) (id2:Nat) (gf:List C):Prop:=
 match fn.body with
 |some c=>ifB (Nat.ble args.length fn.ntmps&&Nat.ble fn.ntmps FAR&&Hk [] args) (wp Comp Comp2 Y fn.ntmps yd0 false c (Awo t g id cs id2 gf) d9 (entry 0 args))
 |none=>False
theorem Awp (S:Set P Y Gl) {f:FuncId} {fn:Func} {args:List T} {t:Nat} {g:FuncId} {id:Nat} {cs:List C} {id2:Nat} {gf:List C} (d9:Orc) (hf:P.funcs[f]?=some fn) (m5:(fn.name== "runtime.NumGoroutine")=false) (ht:fn.results=#[.tmp t]) (htf:t<FAR) (vb:id<FAR) (hidf2:id2<FAR) (s7:id≠id2)
  (q:Prop) (hq:q=An3 (Computes P Gl) (Does P Y Gl) Y fn args d9 t g id cs id2 gf) (h:q):Computes P Gl f args (.ret (.fn g [] [.d (.c (.p cs)),.d (.c (.p gf))])):=by
 subst hq;unfold An3 at h;split at h
 case h_2=>exact h.elim
 rename_i c hc;obtain⟨hb,h⟩:=Im h;simp only[aE]at hb;obtain⟨⟨ar,w6⟩,cu⟩:=hb;refine⟨⟨fn,hf,m5,by rw[hc];rfl⟩,λvis w vs d8 cb f7=>?_⟩;obtain⟨X,dg,gy,ga,jz,U,R⟩:=Rj S cb d8 f7 ar w6 cu;have kc:=Od (fu:=0) S c false U (λ_=>rfl) _ d9 _ _ w h ⟨_,R⟩;refine Nz (n:=0) (dB hf hc trivial (dE kc ?_));have bi:∀{a:Act} {w2:World} {G:Gh} {e:Env},(e.get 0 t=.fn g [] [.addr id 0,.addr id2 0]/\e.get 2 id=live/\e.get 2 id2=live/\Hl e id 0 cs/\Hl e id2 0 gf)->Rel Y X fn.ntmps [] e a w2 G->
   LeavesInM (Fr none) 0 P fn a.tmps (λen w'=>Below w.heap.size w w'/\Ik vis w en w' (.ret (.fn g [] [.d (.c (.p cs)),.d (.c (.p gf))]))) a.defers .returning w2:=by
  intro a w2 G e ⟨h1,h2,h2b,h3,h3b⟩ R;refine Xs R (by simp) λw3 G3 _ _ _ R3=>?_;have fh:(results fn a.tmps).run P w3=.ok (a.tmps.getD t undef) w3:=by
   have he:fn.results.mapM (Bd a.tmps)=List.toArray <$> fn.results.toList.mapM (Bd a.tmps):=cT ..;have iw:results fn a.tmps=(fn.results.mapM (Bd a.tmps) >>= λvs=>pure (if h:vs.size=1 then vs[0] else .tuple vs)):=rfl;have d7:([ResultVar.tmp t].mapM (Bd a.tmps)).run P w3=.ok [a.tmps.getD t undef] w3:=by trivial
   rw[iw,he,ht];simp only[cF,gQ,d7,bK,eY]
   rfl
  refine⟨_,fh,?_⟩;have hj:=R3.jj;rw[dg]at hj;have d6:e.get 2 id≠.any:=by rw[h2];exact Bc
  obtain⟨q1,q2,q3⟩:=R3.mem.box id d6;rw[h2]at q3;obtain⟨q3,q4⟩:=q3;have l7:=(R3.ownb id d6).1 vb;have xe:e.get 2 id2≠.any:=by grind
  obtain⟨p1,p2,p3⟩:=R3.mem.box id2 xe;rw[h2b]at p3;obtain⟨p3,p4⟩:=p3;have hown2:=(R3.ownb id2 xe).1 hidf2;have hbne:G3.bk id≠G3.bk id2:=λhh=>s7 (R3.mem.inj id id2 d6 xe hh);have gx:=(R3.slots t).rel;rw[h1]at gx;unfold De at gx;rw[bG htf]at gx;simp only[Aa,Ac]at gx;obtain⟨us,vt,hv,vq,v1,us1,ai,bq,v2,us2,hvs2,cj,hus2⟩:=gx;obtain⟨vis',hvis'⟩:∃vis':Nat->Nat,vis'=λb=>if b=G3.bk id then cs.length else if b=G3.bk id2 then gf.length else G3.vis b:=⟨_,rfl⟩
  have hvb:vis' (G3.bk id)=cs.length:=by grind
  have hvb2:vis' (G3.bk id2)=gf.length:=by grind
  have i7:∀b,G3.vis b<=vis' b:=λb=>by
   grind
  refine⟨hj.2,_,vis',rfl,λb hb=>?_,λb hb=>?_,rfl,?_⟩
  ·rw[hvis'];dsimp only;rw[bI (λhh=>by omega),bI (λhh=>by omega),R3.old b (by omega),ga]
  ·rw[hvis'];dsimp only;rw[bI (λhh=>by omega),bI (λhh=>by omega)];exact R3.fresh b hb
  ·simp only[Aa,Ac];refine⟨us,vt,hv,vq,v1,us1,ai,?_,v2,us2,hvs2,?_,hus2⟩
   ·simp only[Av];subst bq;have hc:∀(j:Nat) c,cs[j]?=some c->∃u,w3.cell? ⟨G3.bk id,j,none⟩=some u/\Rep vis' w3 c u:=λj c hj=>by
     have hg:=Abg h3 j c hj;rw[bH]at hg;obtain⟨_,_,u,hu,hr⟩:=R3.mem.cells id j (by grind);rw[hg]at hr;have hr:=hr.rel;simp only[Aa,Av]at hr;exact⟨u,hu,hr.mono' i7 (.refl _ _)⟩
    refine .p cs (G3.bk id) 0 (λj=>(w3.cell? ⟨G3.bk id,j,none⟩).getD undef) (by show 0+cs.length<=vis' (G3.bk id);omega) (λj c hj=>?_) (λj c hj=>?_)
    ·grind
    ·obtain⟨u,hu,hr⟩:=hc j c hj;rw[hu];exact hr
   ·simp only[Av];subst cj;have hc:∀(j:Nat) c,gf[j]?=some c->∃u,w3.cell? ⟨G3.bk id2,j,none⟩=some u/\Rep vis' w3 c u:=λj c hj=>by
     have hg:=Abg h3b j c hj;rw[bH]at hg;obtain⟨_,_,u,hu,hr⟩:=R3.mem.cells id2 j (by grind);rw[hg]at hr;have hr:=hr.rel;simp only[Aa,Av]at hr;exact⟨u,hu,hr.mono' i7 (.refl _ _)⟩
    refine .p gf (G3.bk id2) 0 (λj=>(w3.cell? ⟨G3.bk id2,j,none⟩).getD undef) (by show 0+gf.length<=vis' (G3.bk id2);omega) (λj c hj=>?_) (λj c hj=>?_)
    ·grind
    ·obtain⟨u,hu,hr⟩:=hc j c hj;rw[hu];exact hr
 intro ex a w2 hq;cases ex with
 |normal=>obtain⟨o,e,h1,⟨G,R⟩⟩:=hq;exact bi h1 R
 |ret=>obtain⟨o,e,h1,⟨G,R⟩⟩:=hq;exact bi h1 R
 |panic chain=>obtain⟨v,o,e,_,h1,_⟩:=hq;trivial
 |exit id=>obtain⟨o,e,h1,_⟩:=hq;trivial
 |goto l=>trivial
 |outgrown=>trivial
end
section
variable {P:Program} {Y:TypeId->Ty} {Gl:World->Prop} {X:Cx} {nt:Nat} {ds:List Deferred} {e:Env} {a:Act} {w:World} {G:Gh} {rho:List (Nat×Nat)}
def Ue:List ResultVar->M (List T)
 | []=>.ret []
 | .tmp t::r=>(ev0 (.tmp t)).bind λx=>match x with
  | .d d=>(Ue r).bind λxs=>.ret (.d d.dem::xs)
  | .addr id k=>(Ue r).bind λxs=>.ret (.addr id k::xs)
  |_=>.fail
 |_=>.fail
def Abp (vs:List Value):Value:=if h:vs.toArray.size=1 then vs.toArray[0] else .tuple vs.toArray
def outN (Y:TypeId->Ty) (rs:List ResultVar):M T:=
 match rs with
 | [.tmp t]=>ev0 (.tmp t)
 | [.cell a ty]=>(ev0 (.tmp a)).bind λx=>match x,(Y ty).agg with
  | .addr id k,some true=>(Ow id (Y ty).size k).bind λxs=>.ret (.ag xs)
  |_,_=>.fail
 |rs=>(Ue rs).bind λxs=>.ret (.tpl xs)
def Eo:Env->Env
 | []=>[]
 |(t,k,x)::r=>bif Nat.blt 1 t then (t,k,x)::Eo r else Eo r
def Fb:Env->List (Nat×Nat)
 | []=>[]
 |(2,k,_)::r=>(k,k)::Fb r
 |_::r=>Fb r
def Rk:List (Nat×Nat)->Bool
 | []=>true
 |(_,k)::r=>Nat.blt k FAR&&Rk r
def Ya (Y:TypeId->Ty) (rs:List ResultVar) (e0:Env) (x:T):Prop:=
 match (outN Y rs).run e0.get [] with
 |some (y,_)=>x=y
 |none=>False
def An4 (e0:Env):Dp
 | .normal,_,e=>le e e0
 | .ret,_,e=>le e e0
 |_,_,_=>False
def An5 (Comp:FuncId->List T->Res->Prop) (Comp2:Yd->FuncId->List T->Env->Res->Env->Prop) (Y:TypeId->Ty) (fn:Func) (args:List T) (d9:Orc) (e0:Env) (x:T):Prop:=
 match fn.body with
 |some c=>Ya Y fn.results.toList e0 x/\ifB (Nat.ble args.length fn.ntmps&&Nat.ble fn.ntmps FAR&&Hk [] args&&Rk (Fb e0)&&Ce (Fb e0) (Eo e0)&&Bg (Fb e0) x) (wp Comp Comp2 Y fn.ntmps yd0 false c (An4 e0) d9 (entry 0 args))
 |none=>False
theorem Lk:∀{m:Env} {t k:Nat},1<t->(Eo m).get t k=m.get t k
 | [],_,_,_=>rfl
 |(t0,k0,x)::m,t,k,h=>by
  unfold Eo;cases hb:Nat.blt 1 t0 with
  |true=>
   simp only[bA];rw[Am,Am,Lk h]
  |false=>
   simp only[cC];rw[Lk h,Bb];grind[Nat.blt,Nat.ble_eq_true_of_le]
theorem Ah0:∀{m:Env} {k:Nat},(Eo m).get 1 k=.any
 | [],_=>rfl
 |(t0,k0,x)::m,k=>by
  unfold Eo;cases hb:Nat.blt 1 t0 with
  |true=>
   rw[bA,Bb]
   ·exact Ah0
   ·intro hh;rw[hh.1]at hb;cases hb
  |false=>rw[cC];exact Ah0
theorem Yb:∀{m:Env} {F:Nat},Rk (Fb m)=true->inL F (Fb m)=true->F<FAR
 | [],F,_,h=>by trivial
 |(2,k,x)::m,F,hl,h=>by
  simp only[Fb,Rk,inL,aE,bW]at hl h;rcases h with h|h
  ·rw[<-aG h];exact Bh hl.1
  ·exact Yb hl.2 h
 |(0,k,x)::m,F,hl,h=>Yb (m:=m) hl h
 |(1,k,x)::m,F,hl,h=>Yb (m:=m) hl h
 |(t+3,k,x)::m,F,hl,h=>Yb (m:=m) hl h
mutual
theorem Aa.anyO {O O':Nat->Prop}:∀{x:T} {v:Value},Bg rho x=true->Aa G w O x v->Aa G w O' x v
 | .d x,v,hx,r=>by
  simp only[Aa]at r ⊢;refine Av.pure (?_:Ja (.d x)=true) r;cases x with
  |rd xs=>trivial
  |c c=>rfl
  |agg xs=>rfl
 | .addr id k,v,_,r=>by trivial
 | .fn f p q,v,hx,r=>by
  simp only[Bg,aE]at hx;simp only[Aa]at r ⊢;obtain⟨us,vs,h1,h2,h3⟩:=r;exact⟨us,vs,h1,Ac.anyO hx.1 h2,Ac.anyO hx.2 h3⟩
 | .arr id n,v,_,r=>by trivial
 | .mp id,v,_,r=>by trivial
 | .yl l,v,_,r=>by trivial
 | .ag p,v,hx,r=>by
  simp only[Bg]at hx;simp only[Aa]at r ⊢;obtain⟨vs,h1,h2⟩:=r;exact⟨vs,h1,Ac.anyO hx h2⟩
 | .tpl p,v,hx,r=>by
  simp only[Bg]at hx;simp only[Aa]at r ⊢;obtain⟨vs,h1,h2⟩:=r;exact⟨vs,h1,Ac.anyO hx h2⟩
 | .pt p,v,hx,r=>by
  simp only[Bg]at hx;simp only[Aa]at r ⊢;obtain⟨b,u,h1,h2,h3,h4⟩:=r;exact⟨b,u,h1,h2,h3,Aa.anyO hx h4⟩
 | .tup _,_,hx,_| .may _ _,_,hx,_| .any,_,hx,_| .tok _,_,hx,_| .elt _ _ _ _,_,hx,_| .it _,_,hx,_| .nx _ _,_,hx,_
 | .own _ _ _,_,hx,_| .tkd _ _ _ _,_,hx,_| .arrc _ _ _ _,_,hx,_| .mapc _ _ _ _ _,_,hx,_| .itc _ _,_,hx,_| .mitc _ _ _ _ _ _,_,hx,_| .tr _,_,hx,_| .arro _ _ _ _ _,_,hx,_=>by trivial
theorem Ac.anyO {O O':Nat->Prop}:∀{xs:List T} {vs:List Value},Fm rho xs=true->Ac G w O xs vs->Ac G w O' xs vs
 | [],vs,_,r=>by trivial
 |x::xs,vs,hx,r=>by
  simp only[Fm,aE]at hx;simp only[Ac]at r ⊢;obtain⟨v,us,h1,h2,h3⟩:=r;exact⟨v,us,h1,Aa.anyO hx.1 h2,Ac.anyO hx.2 h3⟩
end
theorem Ah1 (R:Rel Y X nt ds e a w G):∀{rs:List ResultVar} {r r':List (Nat×Nat)} {xs:List T},(Ue rs).run e.get r=some (xs,r')->
  ∃vs,(rs.mapM (Bd a.tmps)).run P w=.ok vs w/\Ac G w X.fz xs vs/\vs.length=rs.length
 | [],r,r',xs,h=>by
  simp only[Ue,M.run,aA,aD]at h;obtain⟨rfl,_⟩:=h;exact⟨[],rfl,by trivial,rfl⟩
 | .tmp t::rs,r,r',xs,h=>by
  simp only[Ue]at h;obtain⟨y,r1,h1,h2⟩:=Ah h;have hs:=Ju R h1;have d7:∀{vs:List Value},(rs.mapM (Bd a.tmps)).run P w=.ok vs w->((ResultVar.tmp t::rs).mapM (Bd a.tmps)).run P w=.ok (a.tmps.getD t undef::vs) w:=λh=>by
   rw[Oe];simp[Bd,Result.andThen,h]
  split at h2
  ·obtain⟨ys,r2,h3,h4⟩:=Ah h2;simp only[M.run,aA,aD]at h4;obtain⟨rfl,_⟩:=h4;obtain⟨vs,g1,g2,g3⟩:=Ah1 R h3;refine⟨_,d7 g1,?_,by simp[g3]⟩;simp only[Ac];exact⟨_,_,rfl,(VOK.dem (Y:=Y) (e:=e) hs.reld).rel,g2⟩
  ·obtain⟨ys,r2,h3,h4⟩:=Ah h2;simp only[M.run,aA,aD]at h4;obtain⟨rfl,_⟩:=h4;obtain⟨vs,g1,g2,g3⟩:=Ah1 R h3;refine⟨_,d7 g1,?_,by simp[g3]⟩;simp only[Ac];exact⟨_,_,rfl,hs.rel,g2⟩
  trivial
 | .cell _ _::_,r,r',xs,h=>(Jc h).elim
def Awq (hY:YOK P Y) (R:Rel Y X nt ds e a w G) {rs:List ResultVar} {r r':List (Nat×Nat)} {x:T} (h:(outN Y rs).run e.get r=some (x,r')):
  ∃vs,(rs.mapM (Bd a.tmps)).run P w=.ok vs w/\Aa G w X.fz x (Abp vs):=by
 unfold outN at h;split at h
 ·rename_i t;have hs:=Ju R h;have d7:([ResultVar.tmp t].mapM (Bd a.tmps)).run P w=.ok [a.tmps.getD t undef] w:=by rw[Oe];simp[Bd,Result.andThen]
  exact⟨_,d7,hs.rel⟩
 ·rename_i ad ty;obtain⟨y,r1,h1,h2⟩:=Ah h;have hs:=Ju R h1;split at h2
  ·rename_i id k l8;obtain⟨xs,r2,h3,h4⟩:=Ah h2;simp only[M.run,aA,aD]at h4;obtain⟨rfl,_⟩:=h4;obtain⟨us,g1,g2,g3,g4⟩:=Aan R _ h3;have hp:=hs.rel;simp only[Aa]at hp;have gg:a.tmps.getD ad undef=.pointer (some ⟨G.bk id,k,none⟩):=hp;have hl:=Jv hY l8 g1 g3;have d7:([ResultVar.cell ad ty].mapM (Bd a.tmps)).run P w=.ok [.agg us.toArray] w:=by
    rw[Oe];simp[Bd,gg,asAddr,hl,Result.andThen]
   obtain⟨k1,_⟩:=g4.relTs g2;refine⟨_,d7,?_⟩
   show Aa G w X.fz (.ag xs) (.agg us.toArray)
   grind[Aa]
  trivial
 ·rename_i n1 n2;obtain⟨xs,r1,h1,h2⟩:=Ah h;simp only[M.run,aA,aD]at h2;obtain⟨rfl,_⟩:=h2;obtain⟨vs,g1,g2,g3⟩:=Ah1 R h1;refine⟨vs,g1,?_⟩;have s7:¬vs.toArray.size=1:=λhh=>by
   have h1:rs.length=1:=by grind
   match rs,h1 with
   | [.tmp t],_=>exact n1 t rfl
   | [.cell t y],_=>exact n2 t y rfl
  grind[Abp,Aa]
theorem An6 (S:Set P Y Gl) {e0 mm:Env} {E:Env->Prop} {post:Dp} (lm:∀t k,t≠1->mm.get t k=(Eo e0).get t k) (bt:∀ex o e,post ex o e->(ex=.normal∨ex=.ret)/\le e e0/\E e) {fn:Func} {vis:Nat->Nat} {w:World} {x:T} (dg:X.J=J0 w) (gy:X.base=w.heap.size) (ga:X.vis=vis) (fg:Ya Y fn.results.toList e0 x) (ji:Rk (Fb e0)=true) (lr:Ce (Fb e0) (Eo e0)=true) (ee:Bg (Fb e0) x=true) (hE:∀{e:Env} {a:Act} {w3:World} {G3:Gh} {kj:List Deferred},E e->Rel Y X fn.ntmps kj e a w3 G3->NewX w.heap.size G3.vis w3 G3.bk mm):
  ∀ex a w2,Mj Y X fn.ntmps [] post ex a w2->bodyPostM (Fr none) 0 P fn (λen w'=>Below w.heap.size w w'/\Ik vis w en w' (.new x mm)) ex a w2:=by
 have bi:∀{a:Act} {w2:World} {G:Gh} {e:Env},le e e0->E e->Rel Y X fn.ntmps [] e a w2 G->
   LeavesInM (Fr none) 0 P fn a.tmps (λen w'=>Below w.heap.size w w'/\Ik vis w en w' (.new x mm)) a.defers .returning w2:=by
  intro a w2 G e i7 he R;refine Xs R (by simp) λw3 G3 _ _ _ R3=>?_;obtain⟨G4,R4,q1,q2,q3,q4,q5,q6⟩:=Pk i7 R3;unfold Ya at fg;split at fg
  case h_2=>exact fg.elim
  rename_i y rr d7;subst fg;obtain⟨v,hr1,hr2⟩:=Awq S.y R4 d7;have fh:(results fn a.tmps).run P w3=.ok (Abp v) w3:=by
   have he:fn.results.mapM (Bd a.tmps)=List.toArray <$> fn.results.toList.mapM (Bd a.tmps):=cT ..;have iw:results fn a.tmps=(fn.results.mapM (Bd a.tmps) >>= λvs=>pure (if h:vs.size=1 then vs[0] else .tuple vs)):=rfl;rw[iw,he];simp only[cF,gQ,hr1,bK,eY]
   rfl
  refine⟨_,fh,?_⟩;have hj:=R3.jj;rw[dg]at hj;have m7:Ext (λ_=>False) G4 { Gh0 G4.vis with bk:=G4.bk } w3 w3:=⟨λ_=>aI _,.refl _ _,λ_ hf=>hf.elim⟩
  refine⟨hj.2,Abp v,G4.vis,rfl,λb hb=>by rw[R4.old b (by omega),ga],R4.fresh,G4.bk,λid d6=>?_,λid i5 h1 h2 hh=>?_,λid k hk=>?_,?_,by grind⟩
  ·rw[lm 2 id (by decide),Lk (by decide)]at d6 ⊢;obtain⟨b1,b2,b3⟩:=R4.mem.box id d6;have sr:inL id (Fb e0)=true/\Cv (e0.get 2 id)=true:=by
    have v7:(Eo e0).get 2 id≠.any:=by grind[Lk]
    rcases tameE_mem lr ((get_mem (rfl:(Eo e0).get 2 id=(Eo e0).get 2 id)).resolve_left v7) with ⟨h3,_⟩|⟨_,h3,h4⟩|⟨i,h3,_⟩
    ·omega
    ·grind[Lk]
    ·omega
   refine⟨by have:=(R4.ownb id d6).1 (Yb ji sr.1);omega,b2,?_⟩;generalize e0.get 2 id=ob at b3 sr;obtain⟨_,tv⟩:=sr;unfold Bk at b3 ⊢;split at b3<;>trivial
  ·rw[lm 2 _ (by decide),Lk (by decide)]at h1 h2;exact R4.mem.inj id i5 h1 h2 hh
  ·rw[lm (id+3) k (by omega)]at hk ⊢;rw[lm 2 id (by decide)];have bo:=hk;rw[Lk (t:=id+3) (by omega)]at hk ⊢;rw[Lk (t:=2) (by decide)];obtain⟨g1,g2,u,g3,g4⟩:=R4.mem.cells id k hk;refine⟨g1,u,g3,?_⟩;have ht:Bg (Fb e0) (e0.get (id+3) k)=true:=by
    rcases tameE_mem lr ((get_mem (rfl:(Eo e0).get (id+3) k=(Eo e0).get (id+3) k)).resolve_left bo) with ⟨h3,_⟩|⟨h3,_⟩|⟨i,h3,_,h5,_⟩
    ·omega
    ·omega
    ·grind[Lk]
   exact Aa.mono m7 (Gy λ_ _=>rfl) (Aa.anyO ht g4.rel)
  ·exact Aa.mono m7 (Gy λ_ _=>rfl) (Aa.anyO ee hr2)
 intro ex a w2 hq;cases ex with
 |normal=>obtain⟨o,e,h1,⟨G,R⟩⟩:=hq;exact bi (bt _ _ _ h1).2.1 (bt _ _ _ h1).2.2 R
 |ret=>obtain⟨o,e,h1,⟨G,R⟩⟩:=hq;exact bi (bt _ _ _ h1).2.1 (bt _ _ _ h1).2.2 R
 |panic chain=>obtain⟨v,o,e,_,h1,_⟩:=hq;grind
 |exit id=>obtain⟨o,e,h1,_⟩:=hq;grind
 |goto l=>trivial
 |outgrown=>trivial
def Awr (S:Set P Y Gl) {fn:Func} {vis:Nat->Nat} {w:World} {x:T} {e0:Env} (dg:X.J=J0 w) (gy:X.base=w.heap.size) (ga:X.vis=vis) (fg:Ya Y fn.results.toList e0 x) (ji:Rk (Fb e0)=true) (lr:Ce (Fb e0) (Eo e0)=true) (ee:Bg (Fb e0) x=true):
  ∀ex a w2,Mj Y X fn.ntmps [] (An4 e0) ex a w2->bodyPostM (Fr none) 0 P fn (λen w'=>Below w.heap.size w w'/\Ik vis w en w' (.new x (Eo e0))) ex a w2:=
 An6 S (E:=λ_=>True) (λ_ _ _=>rfl) (λex o e h=>by cases ex<;>first|exact⟨.inl rfl,h,trivial⟩|exact⟨.inr rfl,h,trivial⟩|exact h.elim) dg gy ga fg ji lr ee λ_ _=>by grind[NewX,Ah0]
def Aws (S:Set P Y Gl) {f:FuncId} {fn:Func} {args:List T} {x:T} {m:Env} (d9:Orc) (hf:P.funcs[f]?=some fn) (m5:(fn.name== "runtime.NumGoroutine")=false) (e0:Env) (hm:m=Eo e0)
  (q:Prop) (hq:q=An5 (Computes P Gl) (Does P Y Gl) Y fn args d9 e0 x) (h:q):Computes P Gl f args (.new x m):=by
 subst hq;subst hm;unfold An5 at h;split at h
 case h_2=>exact h.elim
 rename_i c hc;obtain⟨fg,h⟩:=h;obtain⟨hb,h⟩:=Im h;simp only[aE]at hb;obtain⟨⟨⟨⟨⟨ar,w6⟩,cu⟩,ji⟩,lr⟩,ee⟩:=hb;refine⟨⟨fn,hf,m5,by rw[hc];rfl⟩,λvis w vs d8 cb f7=>?_⟩;obtain⟨X,dg,gy,ga,jz,U,R⟩:=Rj S cb d8 f7 ar w6 cu;have kc:=Od (fu:=0) S c false U (λ_=>rfl) _ d9 _ _ w h ⟨_,R⟩;refine Nz (n:=0) (dB hf hc trivial (dE kc ?_));exact Awr S dg gy ga fg ji lr ee
end
section
variable {P:Program} {Y:TypeId->Ty} {Gl:World->Prop} {X:Cx} {nt:Nat} {ds:List Deferred} {e:Env} {a:Act} {w:World} {G:Gh}
def Tail.leaveO (S:Set P Y Gl) {fn:Func} {E E':Env} {vis:Nat->Nat} {w0:World} {o9:Res} (T:Tail P Gl Y X fn E vis w0 a w G) {a':Act} {w':World} {G':Gh} (R':Rel Y X fn.ntmps [] E' a' w' G') (h:Md Y fn true (λr _=>Hj r o9) .ret .nil E'):
  bodyPostM (Fr none) 0 P fn (λen w'=>Below w0.heap.size w0 w'/\Ik vis w0 en w' o9) .ret a' w':=by
 refine Xt S (X:=X) (nt:=fn.ntmps) (own:=true) (Rp:=λr _=>Hj r o9) (λe2 a2 w2 kj G2 R2=>⟨λx v hx hr=>?_,λv hx=>?_⟩) .ret a' w' ⟨.nil,E',h,⟨G',R'⟩⟩
 ·have hj:=R2.jj;rw[T.J]at hj;rw[T.base]at hr;obtain⟨y,rfl,hr⟩:=Xv (Gd hx) hr;exact⟨hj.2,v,G2.vis,rfl,λb hb=>by rw[R2.old b (by rw[T.base];exact hb),T.vis],R2.fresh,hr⟩
 ·have hj:=R2.jj;rw[T.J]at hj;obtain rfl:=resLs_pan (Gd hx);exact⟨hj.2,rfl⟩
structure CloneOps (Y:TypeId->Ty) (t el:TypeId) (ops:Array Oper):Prop where
 sz:List.range ops.size=[0,1,2,3]
 kind:(Y t).kind=.slice el
 known:(Y el).known=true
 o0:∃o,ops[0]?=some o/\o.guard=none/\o.op=.buildSlice t 0 #[]/\o.dst=some 5
 o1:∃o,ops[1]?=some o/\o.guard=none/\o.op=.move (.tmp 0)/\o.dst=some 6
 o2:∃o,ops[2]?=some o/\o.guard=none/\o.op=.call { callee:=.builtin .append,args:=#[.tmp 5,.tmp 6],argTypes:=#[t,t] }/\o.dst=some 7
 o3:∃o,ops[3]?=some o/\o.guard=none/\o.op=.assign (.tmp 7)/\o.dst=some 2
theorem Awt (S:Set P Y Gl) {fn:Func} {t el:TypeId} {ops:Array Oper} {n:Nat} {f:Nat->List C} {vis:Nat->Nat} {w0:World} (Tl:Tail P Gl Y X fn [(0,0,.d (.c (.s .n n f)))] vis w0 a w G) (C0:CloneOps Y t el ops) (fh:fn.results=#[.tmp 2]) (sd:fn.ntmps=8)
  (hn:0<n) (ar:n*(Y el).bytes<=140737488355328) (w6:n<=140737488355328) (hf:(f 0).length=(Y el).size) (hs:0<(Y el).size) (rid:Nat):
  (Code.seq (.region rid ops false) .ret).wpIn (Fr none) 0 P (bodyPostM (Fr none) 0 P fn λen w'=>Below w0.heap.size w0 w'/\Ik vis w0 en w' (.ret (.own (Y el).size n f))) a w:=by
 obtain⟨j9,hk,ax,⟨o0,a1,a2,a3,a4⟩,⟨o1,b1,b2,b3,b4⟩,⟨o2,c1,c2,c3,c4⟩,⟨o3,d1,d2,d3,d4⟩⟩:=C0;have hY:=S.y;have R:=Tl.rel;obtain⟨dd,i,z,h1,h2,h3,h4,h5,h6,h7,h8⟩:=hY t (by simp[Ty.known,hk]);rw[hk]at h7;simp only[KOK]at h7;subst h7;obtain⟨dd,ie,ze,g1,g2,g3,g4,g5,g6,g7,g8⟩:=hY el ax;have pj:ze.cells.size=(Y el).size:=by grind
 refine eZ (iB ?_);rw[j9]
 -- nothing yet
 have r0:(execOp a.eval o0).run P w=.ok (.value (.slice (some ⟨w.heap.size,0,none⟩) 0 0)) (w.alloc (.cells #[] el)):=by
  have:(Instr.buildSlice t 0 #[]).run P w=.ok (.slice (some ⟨w.heap.size,0,none⟩) 0 0) (w.alloc (.cells #[] el)):=by
   simp[Instr.buildSlice,aO h1,Dq hY ax,Instr.fill,newRow];congr 2;exact dQ (by simp)
  simp[execOp,a3,this]
 refine Ml a1 a2 (by grind) r0 ?_;rw[a4];obtain⟨G1,v1,_,R1,jm,_⟩:=Jd R (d:=5) rfl (by decide) (.cells #[] el) (st:=live) (ce:=[]) Bc (λt k h=>rfl)
  (λG' cd=>⟨by rw[cd];exact R.fresh _ (aI _),#[],el,bN w _⟩) (λG' lift k hk=>by trivial)
 have hx:VOK G w X.fz Y [(0,0,.d (.c (.s .n n f)))] (.d (.c (.s .n n f))) (a.tmps.getD 0 undef):=R.slots 0;have am:=R.size;rw[sd]at am
 -- as it is
 have e0:(Act.put a (some 5) (.slice (some ⟨w.heap.size,0,none⟩) 0 0)).eval (.tmp 0)=a.tmps.getD 0 undef:=by simp[Act.eval,Act.put]
 refine Ml b1 b2 (by grind) (v:=a.tmps.getD 0 undef) (w':=w.alloc (.cells #[] el)) (by simp[execOp,b3,e0]) ?_;rw[b4];generalize a.tmps.getD 0 undef=v0 at hx e0
 -- a new block
 obtain⟨j0,n1,n2,n3⟩:=Aam (m:=n) (g:=f) rfl (jm _ _ hx) hf hs;rcases n3 with ⟨_,n3⟩|⟨sb,soff,scap,n3,n4⟩
 ·omega
 have e5:(Act.put (Act.put a (some 5) (.slice (some ⟨w.heap.size,0,none⟩) 0 0)) (some 6) v0).eval (.tmp 5)=.slice (some ⟨w.heap.size,0,none⟩) 0 0:=by simp[Act.eval,Act.put,Array.getD,am]
 have e6:(Act.put (Act.put a (some 5) (.slice (some ⟨w.heap.size,0,none⟩) 0 0)) (some 6) v0).eval (.tmp 6)=v0:=by simp[Act.eval,Act.put,Array.getD,am]
 have d7:=gR (P:=P) (w.alloc (.cells #[] el)) t o2.type el ie ze h1 g2 g5 ⟨w.heap.size,0,none⟩ 0 0 [] (by grind) (λj v hj=>by cases hj) ⟨sb,soff,none⟩ n scap j0 (by rw[g3];exact n1.1) n4 (by omega) (by omega) (by rw[g4];exact gW (by omega) (by grind));rw[bH]at d7;generalize ko:grownCap (w.alloc (.cells #[] el)) n 0 el=cap at d7;have dr:n<=cap:=by grind[grownCap_ge]
 have fy:cap<=maxLen:=by grind[grownCap_le_maxLen,maxLen]
 generalize w8:(([]:List Value).toArray++j0.toArray++Builtin.zeroCells ze.cells (cap - n))=cur at d7;have aw:cur.size=cap*(Y el).size:=by
  rw[<-w8];simp only[dX,cW,fL,pj,n1.1,dA,bH,<-dD];congr 1;omega
 refine Ml c1 c2 (by grind) (v:=.slice (some ⟨(w.alloc (.cells #[] el)).heap.size,0,none⟩) n cap) (w':=(w.alloc (.cells #[] el)).drew.alloc (.cells cur el)) (by
  rw[<-n3]at d7;simp[execOp,c3,resolve,invoke,builtin,e5,e6,d7]) ?_
 rw[c4];refine Ml d1 d2 (by grind) (v:=.slice (some ⟨(w.alloc (.cells #[] el)).heap.size,0,none⟩) n cap) (w':=(w.alloc (.cells #[] el)).drew.alloc (.cells cur el)) (by simp[execOp,d3,Act.eval,Act.put,Array.getD,am]) ?_;rw[d4];refine wpIn_ret ?_;obtain⟨R2,_⟩:=R1.drewR;obtain⟨G3,v3,w3,R3,ot,u3⟩:=Jd R2 (d:=2) rfl (by decide) (.cells cur el) (st:=.arrc false (Y el).size n f) (ce:=[]) (by simp) (λt k h=>rfl)
  (λG' cd=>by
   refine⟨⟨cur,el,_,bN (w.alloc (.cells #[] el)).drew _,.inl rfl,by rw[aw];exact aY _ dr,λi hi=>⟨n1.2.1 i hi,λj c hj=>?_⟩⟩,hs,λhh=>(by cases hh),λ_=>by rw[cd];exact R1.fresh _ (aI _)⟩;obtain⟨u,h3,h4⟩:=n1.2.2 i j c hi hj;refine⟨u,?_,?_⟩
   ·grind
   ·rw[cd];exact h4.mono' (λ_=>aI _) (Aak R1 _))
  (λG' lift k hk=>by
   rw[cH]at hk;exact absurd rfl hk)
 have R4:=((((R3.put (d:=5) (by omega) (by decide) (x:=.any) (v:=.slice (some ⟨w.heap.size,0,none⟩) 0 0) (VOK.any _)).put (d:=6) (by omega) (by decide) (x:=.any) (v:=v0) (VOK.any _)).put (d:=7) (by omega) (by decide) (x:=.any) (v:=.slice (some ⟨(w.alloc (.cells #[] el)).heap.size,0,none⟩) n cap) (VOK.any _)).put (d:=2) (by omega) (by decide) (x:=.arr 2 n) (v:=.slice (some ⟨(w.alloc (.cells #[] el)).heap.size,0,none⟩) n cap) (VOK.ids_used (id:=2) (by
  simp only[Aa];exact .inr ⟨cap,by rw[w3];rfl,dr,fy,cur,el,_,by rw[w3];exact bN (w.alloc (.cells #[] el)).drew _,by rw[aw];exact dJ _ hs⟩) trivial rfl rfl (show (T.arrc false (Y el).size n f)≠T.any by simp)))
 refine Tl.leaveO S R4 ?_
 show Md Y fn true _ .ret .nil _
 unfold Md;rw[fh];exact⟨rfl,by unfold Hj Ta;simp[Mb];exact⟨rfl,λ_ _=>.inl rfl⟩⟩
end
section
variable {P:Program} {Y:TypeId->Ty} {Gl:World->Prop} {X:Cx} {nt:Nat} {ds:List Deferred} {e:Env} {a:Act} {w:World} {G:Gh} {yd:Yd}
abbrev TK:Nat:=199999
def Hn (el F c n:Nat) (f:Nat->List C) (c9:Env):Env:=(F+3,c,.d (.c (.s (.t TK) n f)))::(1,TK,As el)::c9
def xIn (el F c:Nat) (m body:Env):Env:=
 match m.get (F+3) c with
 | .d (.c (.s .n n f))=>Hn el F c n f body
 |_=>[]
def Ah2:T->Bool
 | .tup []=>true
 | .mapc false _ _ _ _=>true
 | .arrc false _ _ _=>true
 |_=>false
def Uf:Env->Bool
 | []=>true
 |(t,_,x)::r=>(!t.beq 2||Ah2 x)&&Uf r
def Ug:T->Bool
 | .d (.c (.s (.t _) _ _))=>false
 | .may _ _=>false
 |_=>true
def noTk:Env->Bool
 | []=>true
 |(_,_,x)::r=>Ug x&&noTk r
theorem An7:∀{m:Env},noTk m=true->∀t k,Ug (m.get t k)=true
 | [],_,_,_=>rfl
 |(t0,k0,x)::m,h,t,k=>by
  simp only[noTk,aE]at h;rw[Am];split
  ·exact h.1
  ·exact An7 h.2 t k
def VOK.noTk {O:Nat->Prop} {e':Env} {x:T} {v:Value} (h:Ug x=true) (hg:∀id,e'.get 2 id=e.get 2 id) (r:VOK G w O Y e x v):VOK G w O Y e' x v:=by
 refine⟨r.rel,?_,r.ids.imp λx hx id d6=>by grind,?_⟩
 ·unfold Ug at h;grind[Kh]
 ·have ht:Ck x=[]:=by
   unfold Ug at h;split at h
   ·cases h
   ·cases h
   ·grind[Ck]
  cases x with
  |may b y=>cases h
  |_=>intro k hk;grind
def Ah3 (Comp:FuncId->List T->Res->Prop) (Comp2:Yd->FuncId->List T->Env->Res->Env->Prop) (Y:TypeId->Ty) (yd:Yd) (fn:Func) (args:List T) (c9 post:Env) (el F c:Nat) (d9:Orc):Prop:=
 match fn.body,c9.get (F+3) c,(Af post c9).get (F+3) c with
 |some co,.d (.c (.s .n n f)),.d (.c (.s .n n' f'))=>ifB (Nat.ble args.length fn.ntmps&&Nat.ble fn.ntmps FAR&&Hk c9 args&&En c9&&Ie c9 post&&Uf c9&&Uf (Af post c9)&&noTk (Af post c9)) (wp Comp Comp2 Y fn.ntmps yd false co (Md Y fn false λr e=>Hj r (.ret (.tup []))/\le e (Hn el F c n' f' (Af post c9))) d9 (Hn el F c n f (entry 0 args++c9)))
 |_,_,_=>False
theorem An8:∀{m:Env},Uf m=true->∀id,m.get 2 id=.any∨Ah2 (m.get 2 id)=true
 | [],_,_=>.inl rfl
 |(t,k,x)::m,h,id=>by
  simp only[Uf,aE,bW]at h;rw[Am]
  by_cases hh:t=2/\k=id
  ·rw[bG hh];obtain⟨rfl,rfl⟩:=hh;exact .inr (h.1.resolve_left (by decide))
  ·rw[bI hh];exact An8 h.2 id
theorem An9 {m:Env} {id b:Nat} (h:Uf m=true) (d6:m.get 2 id≠.any) (ho:Bk G w (m.get 2 id) b):G.vis b=0:=by
 have h1:=(An8 h id).resolve_left d6;generalize m.get 2 id=o at h1 ho;unfold Ah2 at h1;split at h1
 ·exact ho.1
 ·exact ho.2.2 rfl
 ·exact ho.2.2.2 rfl
 ·cases h1
def J5 (Xa:Cx) (G:Gh) (w:World) (N:Nat->Prop):Oth:=λp H vi w'=>J4 Xa G w N p H vi w'/\∀b,(G.H b∨N b)->vi b=G.vis b
def J5_in {N:Nat->Prop} (hH:∀b,G.H b->b<w.heap.size) {p:Nat} {H:Nat->Prop} {vi:Nat->Nat} {w':World} (h:J4 X G w N p H vi w') {b:Nat} (hb:G.H b∨N b):H b:=by
 obtain⟨⟨H',h1,_,_,_,_,h6,_⟩,_⟩:=h;grind
def Awu {N:Nat->Prop} (hH:∀b,G.H b->b<w.heap.size):(J5 X G w N).Stable:=
 ⟨λp H vi w1 w2 ⟨h1,h2⟩ hb hk hs=>⟨Agv.1 _ _ _ _ _ h1 hb hk hs,h2⟩,λp H vi jy w1 ⟨h1,h2⟩ hl he=>⟨Agv.2 _ _ _ _ _ h1 hl he,λb hb=>(he b (J5_in hH h1 hb)).trans (h2 b hb)⟩⟩
theorem Awv {N:Nat->Prop} (U:Sur P Gl X yd):Pf P (J5 X G w N) yd:=by
 rintro p H vis w1 vs hm hs ⟨h1,h2⟩ hlt ae hpu hr;obtain⟨fn,tmps,assign,body,d7,ao⟩:=Amk U p H vis w1 vs hm hs h1 hlt ae hpu hr;exact⟨fn,tmps,assign,body,d7,ao.mono λen w2 ⟨g1,g2,g3,g4,g5⟩=>⟨g1,⟨g2,h2⟩,g3,g4,g5⟩⟩
theorem Aww (S:Set P Y Gl) {f:FuncId} {fn:Func} {args:List T} {c9 post:Env} {el F c:Nat} {x0:T} (d9:Orc) (hf:P.funcs[f]?=some fn) (m5:(fn.name== "runtime.NumGoroutine")=false)
  (h:Ah3 (Computes P Gl) (Does P Y Gl) Y yd fn args c9 post el F c d9):Does P Y Gl yd f args c9 (.new (.tok el) [(F,c,x0)]) post:=by
 unfold Ah3 at h;split at h
 case h_2=>exact h.elim
 rename_i co n f0 n' f' hc hpr hpo;obtain⟨hb,h⟩:=Im h;simp only[aE]at hb;obtain⟨⟨⟨⟨⟨⟨⟨ar,w6⟩,cu⟩,qo⟩,ti⟩,hb6⟩,hb7⟩,hb8⟩:=hb;obtain⟨p0,p1,p2⟩:=Mk qo;obtain⟨o1,o2,o3⟩:=Ri ti;refine⟨⟨fn,hf,m5,by rw[hc];rfl⟩,?_⟩
 show Aax P Y Gl yd f args c9 el F c post
 intro J G w vs u z m8 cb vj p9 jd hJ v6 f7 wk
 obtain⟨hu,n1,f1,hx1,gq⟩:=wk
 obtain⟨rfl,rfl⟩:n1=n/\f1=f0:=by
  grind
 obtain⟨Xa,hXa⟩:∃X:Cx,({ base:=0,vis:=G.vis,fz:=λ_=>False,J:=J,st:=m8,sh:=#[],c0:=λb k=>w.cell? ⟨b,k,none⟩,bk0:=G.bk }:Cx)=X:=⟨_,rfl⟩
 have pz:Xa.J=J:=by grind
 have qa:∀b,¬Xa.fz b:=by subst hXa;exact λb h=>h
 have Ua:Sur P Gl Xa yd:=⟨λp H vi w' hj=>by rw[pz]at hj;grind,by grind,.inr qa⟩
 obtain⟨N,hN⟩:∃N:Nat->Prop,N=λb=>b<w.heap.size/\¬G.H b/\(∀id,c9.get 2 id≠.any->G.bk id≠b)/\z≠some b:=⟨_,rfl⟩
 obtain⟨X,hX⟩:∃X:Cx,({ Xa with J:=J5 Xa G w N,st:=Awu jd }:Cx)=X:=⟨_,rfl⟩
 have dg:X.J=J5 Xa G w N:=by grind
 have gy:X.base=0:=by grind
 have ga:X.vis=G.vis:=by grind
 have jz:X.fz=λ_=>False:=by grind
 have vk:X.c0=λb k=>w.cell? ⟨b,k,none⟩:=by grind
 have hXk:X.bk0=G.bk:=by grind
 have U:Sur P Gl X yd:=⟨λp H vi w' hj=>by
  rw[dg]at hj;obtain⟨⟨⟨H',_,_,h3,_⟩,_⟩,_⟩:=hj;rw[pz]at h3;grind,by grind[Awv],.inr (by grind)⟩
 obtain⟨G1,hG1⟩:∃G1:Gh,(⟨G.vis,G.bk,λ_=>none,λb=>G.H b∨N b,⟨[],.nil⟩⟩:Gh)=G1:=⟨_,rfl⟩
 have od:G1.vis=G.vis:=by grind
 have ib:G1.bk=G.bk:=by grind
 have hG1H:G1.H=λb=>G.H b∨N b:=by grind
 have hG1t:G1.tk=λ_=>none:=by grind
 have m7:Ext (λ_=>False) G G1 w w:=⟨λb=>by grind,.refl _ _,λ_ _=>rfl⟩
 have lift:∀{x:T} {v:Value},VOK G w (λ_=>False) Y c9 x v->VOK G1 w (λ_=>False) Y c9 x v:=λ{x v} h=>
  VOK.mono m7 (λ_ _=>by rw[ib]) (λ_ h=>h) (λk hk=>absurd (p1 k) hk) (λk b hk=>absurd (p1 k) hk) h
 have hNb:∀id,c9.get 2 id≠.any->¬N (G.bk id):=λid d6 hh=>by grind
 have js:Mem Y (λ_=>False) c9 w G1:=by
  refine⟨λid k hk=>?_,λid d6=>?_,λid i5 h1 h2=>by rw[ib];exact v6.inj id i5 h1 h2⟩
  ·obtain⟨q1,q2,u,q3,q4⟩:=v6.cells id k hk;grind
  ·obtain⟨q1,q2,q3⟩:=v6.box id d6;rw[ib];refine⟨λhh=>?_,q2,?_⟩
   ·grind
   ·exact q3.tame (Kl qo id d6) od
 have R0:Rel Y X fn.ntmps [] (entry 0 args++c9) { tmps:=vs++Array.replicate (fn.ntmps - vs.size) undef,defers:=[] } w G1:=by
  refine start (X:=X) qo cu (aH ar) (aH w6) (by grind) ?_ (by grind) (by grind) (by grind) (λb _=>by omega) (by omega)
   (λid d6=>⟨λhf=>by omega,λ_=>by grind⟩) (λb hb=>?_) (λb hb=>by grind) ?_ (λid k _ _ _=>by rw[vk])
  ·grind[Ac.mono]
  ·grind
  ·rw[dg];subst hG1;refine⟨⟨⟨G.H,λb=>gU,λb hb=>?_,by grind,λ_ _=>rfl,λb hb=>absurd hb (qa b),λ_ _=>gU,jd,.refl _⟩,λ_=>aI _,.refl _ _⟩,λ_ _=>rfl⟩;grind
 have eb2:∀id,Env.get (entry 0 args++c9) 2 id=c9.get 2 id:=λid=>Rh args 0 id c9 (by decide);have et:Env.get (entry 0 args++c9) 1 TK=.any:=by grind[Rh]
 have xr:∀i,i<n1->(f1 i).length=(Y el).size:=by
  cases z with
  |none=>exact gq.1
  |some b=>exact gq.1
 obtain⟨R1,_⟩:=Mf R0 (w':=w) (vis':=G1.vis) (tb:=z) (el:=el) (d:=TK) (kd:=none) none et (.refl _) (λ_ _ _=>rfl) (λb h=>nomatch h) (λ_=>aI _) (.refl _ _) (λ_ _=>rfl)
  (λb hb=>by
   subst hb;obtain⟨_,y1,y2,y3,y4,y5,y6,y7⟩:=gq;grind)
  (λ_ _ _ _=>⟨rfl,rfl⟩) R0.fresh (λ_ _=>rfl) (λ_ _=>rfl)
 have hcF:Env.get ((1,TK,As el)::Fi none++(entry 0 args++c9)) (F+3) c=.d (.c (.s .n n1 f1)):=by grind[Nx,Rh]
 obtain⟨_,_,u2,vv,tu⟩:=R1.mem.cells F c (by grind);rw[hcF]at tu;have iu:u2=u:=by grind
 subst iu;have l7:Own (tkG G1 G1.vis TK z none) w Y TK el n1 f1 u2:=by
  refine⟨xr,?_⟩;cases z with
  |none=>
   rcases gq.2 with h|h
   ·exact .inl h
   grind
  |some b=>
   obtain⟨_,y1,y2,y3,_,y5,⟨jl,y6⟩,y7⟩:=gq;grind
 have i6:Rep G1.vis w (.s .n n1 f1) u2:=tu.reld;have R2:=R1.recell (id:=F) (c:=c) (x:=.d (.c (.s (.t TK) n1 f1))) (u:=u2) (by grind) rfl (by simp) vv (Mg (kd:=none) (Xl i6) l7);have kc:=Od (fu:=0) S co false U (λ_=>rfl) _ d9 _ _ w h ⟨_,R2⟩;have fw:∀id,(Env.get (Af post c9) 2 id≠.any↔c9.get 2 id≠.any)/\(c9.get 2 id=live->Env.get (Af post c9) 2 id=live):=λid=>by
  rw[Fo];split
  ·rename_i hk;have:=o2 id hk;unfold Ib at this;split at this
   ·grind
   ·rename_i h1 h2;rw[h1,h2];exact⟨⟨λ_ hh=>(by cases hh),λ_ hh=>(by cases hh)⟩,λhh=>(by cases hh)⟩
   ·rename_i h1 h2;rw[h1,h2];exact⟨⟨λ_ hh=>(by cases hh),λ_ hh=>(by cases hh)⟩,λhh=>(by cases hh)⟩
   trivial
  grind
 have key:∀{e2:Env} {a2:Act} {w2:World} {kj:List Deferred} {G2:Gh},Rel Y X fn.ntmps kj e2 a2 w2 G2->le e2 (Hn el F c n' f' (Af post c9))->
   Same w w2/\KeepV G.vis w w2/\(∀b,b<w.heap.size->¬G.H b->(∀id,c9.get 2 id≠.any->G.bk id≠b)->z≠some b->w2.heap[b]?=w.heap[b]?)/\
   (∀id k,c9.get 2 id=live->c9.get (id+3) k=.any->w2.cell? ⟨G.bk id,k,none⟩=w.cell? ⟨G.bk id,k,none⟩)/\
   ∃G' u' z',G'.bk=G.bk/\(∀b,G.vis b<=G'.vis b)/\(∀b,b<w.heap.size->z≠some b->G'.vis b=G.vis b)/\(∀b,w2.heap.size<=b->G'.vis b=0)/\(∀b,b<w.heap.size->(G'.H b↔G.H b))/\(∀b,G'.H b->b<w2.heap.size)/\
    J (trN ((Af post c9).get 0 BIG)) G'.H G'.vis w2/\Mem Y (λ_=>False) (Af post c9) w2 G'/\XAt (Y el).size G' w2 (Af post c9) el F c u' z'/\∀b,z'=some b->w.heap.size<=b∨z=some b:=by
  intro e2 a2 w2 kj G2 R2 i7;obtain⟨G3,R3,q1,q2,q3,q4,q5,q6⟩:=Pk i7 R2;have x2:∀id,Env.get (Hn el F c n' f' (Af post c9)) 2 id=Env.get (Af post c9) 2 id:=λid=>by
   trivial
  have x0:Env.get (Hn el F c n' f' (Af post c9)) 0 BIG=Env.get (Af post c9) 0 BIG:=by trivial
  have x1:∀k,Env.get (Hn el F c n' f' (Af post c9)) 1 k=if TK=k then As el else .any:=λk=>by
   grind[Hn,Am,Fo]
  have x3:∀id k,Env.get (Hn el F c n' f' (Af post c9)) (id+3) k=if F=id/\c=k then .d (.c (.s (.t TK) n' f')) else Env.get (Af post c9) (id+3) k:=λid k=>by
   grind[Hn,Am]
  have hj:=R3.jj;rw[dg,x0]at hj;obtain⟨⟨⟨H',h1,h2,h3,h4,h5,h6,qx,h7⟩,hv,n8⟩,hpin⟩:=hj;have y9:∀id,c9.get 2 id≠.any->G3.bk id=G.bk id:=λid d6=>by
   have:=(R3.ownb id (by grind)).2 (p2 id d6);grind
  have hidF:c9.get 2 F≠.any:=by rw[(v6.cells F c (by grind)).1];exact Bc
  refine⟨h7,n8,λb hb hH hn hz=>h4 b (by grind),λid k hl hk=>?_,?_⟩
  ·have t8:Env.get (Af post c9) (id+3) k=.any:=by grind[Fo]
   have:=R3.far id k (p2 id (by rw[hl];exact Bc)) (by grind) (by
    grind)
   rw[vk,y9 id (by rw[hl];exact Bc)]at this;exact this
  obtain⟨_,_,u',c3,c4⟩:=R3.mem.cells F c (by grind);rw[x3,bG ⟨rfl,rfl⟩]at c4;obtain⟨w1,w3⟩:Own G3 w2 Y TK el n' f' u':=c4.own el (by trivial);obtain⟨G',tp⟩:∃G':Gh,(⟨G3.vis,G.bk,λ_=>none,H',⟨[],.nil⟩⟩:Gh)=G':=⟨_,rfl⟩
  have lf:G'.vis=G3.vis:=by grind
  have lh:G'.bk=G.bk:=by grind
  have qb:G'.H=H':=by grind
  obtain⟨z',qv,hz2⟩:∃z':Option Nat,XC (Y el).size G' w2 (Af post c9) el n' f' u' z'/\∀b,z'=some b->w.heap.size<=b∨z=some b:=by
   rcases w3 with h|⟨_,h⟩|⟨b,jl,y1,y2,y3,y4⟩
   ·exact⟨none,⟨w1,.inl h⟩,λ_ h=>nomatch h⟩
   ·exact⟨none,⟨w1,.inr h⟩,λ_ h=>nomatch h⟩
   ·obtain⟨t1,t2,t3,t4,t5⟩:=R3.tks _ b y1;have t6:∀id,c9.get 2 id≠.any->G.bk id≠b:=λid d6 hh=>t5 id (by grind) ((y9 id d6).trans hh);refine⟨some b,⟨w1,t2,λhh=>t3 ((h1 b).2 (.inl (by grind))),t4,λid d6=>by grind,y2,⟨jl,y3⟩,by grind⟩,λb' fj=>?_⟩;grind
  refine⟨G',u',z',lh,λb=>by grind,λb hb hz=>?_,by rw[lf];exact R3.fresh,by grind,by rw[qb];exact qx,by grind,?_,⟨by grind,n',f',hpo,qv⟩,hz2⟩
  ·rw[lf]
   by_cases hH:G.H b∨N b
   ·grind
   ·have:∃id,c9.get 2 id≠.any/\G.bk id=b:=Classical.byContradiction λdy=>hH (.inr (by grind));obtain⟨id,d6,rfl⟩:=this;have v1:=An9 hb6 d6 (v6.box id d6).2.2;have v7:Env.get (Af post c9) 2 id≠.any:=(fw id).1.2 d6;have v2:=(R3.mem.box id (by trivial)).2.2;grind[An9]
  ·have nc:=R3.mem;rw[jz]at nc;have du:∀k,Env.get (Af post c9) 1 k=.any:=λk=>by
    grind[Fo]
   have pu:∀{x:T} {v:Value},Ug x=true->VOK G3 w2 (λ_=>False) Y (Hn el F c n' f' (Af post c9)) x v->VOK G' w2 (λ_=>False) Y (Af post c9) x v:=λ{x v} hx h=>
    VOK.mono ⟨λb=>by grind,.refl _ _,λ_ _=>rfl⟩ (λid d6=>by grind) (λ_ h=>h) (λk hk=>absurd (du k) hk) (λk b hk=>absurd (du k) hk) (VOK.noTk hx (λid=>(x2 id).symm) h)
   refine⟨λid k hk=>?_,λid d6=>?_,λid i5 h1 h2=>?_⟩
   ·by_cases hh:F=id/\c=k
    ·obtain⟨rfl,rfl⟩:=hh;obtain⟨g1,g2,u3,g3,g4⟩:=nc.cells F c (by grind);rw[x2]at g1;rw[x3,bG ⟨rfl,rfl⟩]at g4;have g5:Rep G3.vis w2 _ u3:=g4.reld;refine⟨g1,by rw[hpo];rfl,u3,by grind,?_⟩;rw[hpo];refine⟨?_,trivial,λ_ h=>(by cases h),λ_ h=>(by cases h)⟩;grind[Aa,Av,Xl]
    ·obtain⟨g1,g2,u3,g3,g4⟩:=nc.cells id k (by grind);grind[An7]
   ·obtain⟨g1,g2,g3⟩:=nc.box id (by trivial);have v7:=(fw id).1.1 d6;rw[y9 id v7]at g1 g2 g3;rw[lh,qb];refine⟨λhh=>g1 ((h1 _).2 (.inl hh)),g2,?_⟩;rw[x2]at g3;refine g3.tame ?_ lf;rw[Fo]at d6 ⊢;split at d6
    ·rename_i hk;rw[bG hk];have:=o2 id hk;unfold Ib at this;split at this<;>first|(cases this;done)|(rename_i q1 q2;rw[q1];rfl)
    grind[Kl]
   ·have i1:=(fw id).1.1 h1;have i2:=(fw i5).1.1 h2;rw[lh,<-y9 id i1,<-y9 i5 i2];exact nc.inj id i5 (by trivial) (by trivial)
 refine Nz (n:=0) (dB hf hc trivial (dE kc (Xt S λe2 a2 w2 kj G2 R2=>⟨λx v hx hr=>?_,λv hx=>?_⟩)))
 ·obtain⟨y,hy,hr2⟩:=Xv (Gd hx.1) hr;obtain rfl:=Res.ret.inj hy;obtain⟨vs2,cj,hr3⟩:=hr2;obtain rfl:vs2=#[]:=dQ (by simpa using hr3.1.symm);grind
 ·cases resLs_pan (Gd hx.1)
def Ana (S:Set P Y Gl) {f:FuncId} {fn:Func} {args:List T} {c9 post:Env} {el F c:Nat} {x0:T} (d9:Orc) (hf:P.funcs[f]?=some fn) (m5:(fn.name== "runtime.NumGoroutine")=false) (q:Prop)
  (hq:q=Ah3 (Computes P Gl) (Does P Y Gl) Y yd fn args c9 post el F c d9) (h:q):Does P Y Gl yd f args c9 (.new (.tok el) [(F,c,x0)]) post:=by grind[Aww]
end
section
variable {P:Program} {Y:TypeId->Ty} {Gl:World->Prop}
def Awx (e0:Env) (el F c:Nat):Dp
 | .normal,_,e=>le e e0/\le e (xIn el F c e0 e0)
 | .ret,_,e=>le e e0/\le e (xIn el F c e0 e0)
 |_,_,_=>False
def isL:T->Bool
 | .d (.c (.s .n _ _))=>true
 |_=>false
def Anb (Comp:FuncId->List T->Res->Prop) (Comp2:Yd->FuncId->List T->Env->Res->Env->Prop) (Y:TypeId->Ty) (fn:Func) (args:List T) (d9:Orc) (e0:Env) (x:T) (el F c:Nat):Prop:=
 match fn.body with
 |some co=>Ya Y fn.results.toList e0 x/\ifB (Nat.ble args.length fn.ntmps&&Nat.ble fn.ntmps FAR&&Hk [] args&&Rk (Fb e0)&&Ce (Fb e0) (Eo e0)&&Bg (Fb e0) x&&isL (e0.get (F+3) c)) (wp Comp Comp2 Y fn.ntmps yd0 false co (Awx e0 el F c) d9 (entry 0 args))
 |none=>False
def Awy (S:Set P Y Gl) {f:FuncId} {fn:Func} {args:List T} {x:T} {m:Env} {el F c sz:Nat} (d9:Orc) (hf:P.funcs[f]?=some fn) (m5:(fn.name== "runtime.NumGoroutine")=false) (e0:Env) (hm:m=Eo e0) (j9:(Y el).size=sz)
  (q:Prop) (hq:q=Anb (Computes P Gl) (Does P Y Gl) Y fn args d9 e0 x el F c) (h:q):Computes P Gl f args (.new x ((1,0,.elt el F c sz)::m)):=by
 subst hq;subst hm;subst j9;unfold Anb at h;split at h
 case h_2=>exact h.elim
 rename_i co hc;obtain⟨fg,h⟩:=h;obtain⟨hb,h⟩:=Im h;simp only[aE]at hb;obtain⟨⟨⟨⟨⟨⟨ar,w6⟩,cu⟩,ji⟩,lr⟩,ee⟩,hL⟩:=hb;refine⟨⟨fn,hf,m5,by rw[hc];rfl⟩,λvis w vs d8 cb f7=>?_⟩;obtain⟨X,dg,gy,ga,jz,U,R⟩:=Rj S cb d8 f7 ar w6 cu;have kc:=Od (fu:=0) S co false U (λ_=>rfl) _ d9 _ _ w h ⟨_,R⟩;refine Nz (n:=0) (dB hf hc trivial (dE kc ?_));obtain⟨n,f0,hn⟩:∃n f,e0.get (F+3) c=.d (.c (.s .n n f)):=by
  unfold isL at hL;grind
 have hxi:xIn el F c e0 e0=Hn el F c n f0 e0:=by unfold xIn;rw[hn]
 refine An6 S (E:=λe=>le e (xIn el F c e0 e0)) (mm:=(1,0,.elt el F c (Y el).size)::Eo e0) (λt k h=>Bb (λhh=>h hh.1.symm)) (λex o e h=>by cases ex<;>first|exact⟨.inl rfl,h.1,h.2⟩|exact⟨.inr rfl,h.1,h.2⟩|exact h.elim) dg gy ga fg ji lr ee λ{e a w3 G3 kj} he R3=>?_;rw[hxi]at he;obtain⟨G5,R5,q1,q2,q3,q4,q5,q6⟩:=Pk he R3
 show ∃u z,XAt (Y el).size { Gh0 G3.vis with bk:=G3.bk } w3 ((1,0,.elt el F c (Y el).size)::Eo e0) el F c u z/\∀b,z=some b->w.heap.size<=b
 have x1:Env.get (Hn el F c n f0 e0) 1 TK=As el:=by trivial
 have x2:∀id,Env.get (Hn el F c n f0 e0) 2 id=e0.get 2 id:=λid=>by
  trivial
 have x3:Env.get (Hn el F c n f0 e0) (F+3) c=.d (.c (.s (.t TK) n f0)):=by grind[Hn,Am]
 obtain⟨_,_,u,c3,c4⟩:=R5.mem.cells F c (by grind);rw[x3]at c4;obtain⟨w1,w4⟩:Own G5 w3 Y TK el n f0 u:=c4.own el x1;have hmc:Env.get ((1,0,.elt el F c (Y el).size)::Eo e0) (F+3) c=.d (.c (.s .n n f0)):=by grind[Bb,Lk]
 have qr:∀id,Env.get ((1,0,.elt el F c (Y el).size)::Eo e0) 2 id=e0.get 2 id:=λid=>by
  grind[Bb,Lk]
 rw[q2]at c3;rcases w4 with h|⟨_,h⟩|⟨b,jl,y1,y2,y3,y4⟩
 ·exact⟨u,none,⟨c3,n,f0,hmc,w1,.inl h⟩,λ_ h=>nomatch h⟩
 ·exact⟨u,none,⟨c3,n,f0,hmc,w1,.inr h⟩,λ_ h=>nomatch h⟩
 ·obtain⟨t1,t2,t3,t4,t5⟩:=R5.tks _ b y1;refine⟨u,some b,⟨c3,n,f0,hmc,w1,t2,λhh=>hh.elim,t4,λid d6 hh=>?_,y2,⟨jl,y3⟩,by rw[q1]at y4;exact y4⟩,λb' fj=>by grind⟩;grind
end
section
variable {P:Program} {Y:TypeId->Ty} {Gl:World->Prop} {yd:Yd}
theorem Does.toX {f:FuncId} {xs:List T} {c9 post:Env} {el F c n:Nat} {g:Nat->List C} (h:Does P Y Gl yd f xs c9 (.ret (.tup [])) post) (bd:En c9=true) (bt:Ie c9 post=true) (hF:c9.get 2 F=live) (hc:c9.get (F+3) c=.any):
  Does P Y Gl yd f xs ((F+3,c,.d (.c (.s .n n g)))::c9) (.new (.tok el) [(F,c,.any)]) ((F+3,c,.d (.c (.s .n n g)))::post):=by
 obtain⟨p0,p1,p2⟩:=Mk bd;obtain⟨o1,o2,o3⟩:=Ri bt;have hB:=h.run rfl;obtain⟨x,hx⟩:∃x:T,T.d (.c (.s .n n g))=x:=⟨_,rfl⟩
 have g1:∀(m:Env) t k,Env.get ((F+3,c,x)::m) t k=if F+3=t/\c=k then x else m.get t k:=λm t k=>Am ..
 have hov:∀t k,Env.get (Af ((F+3,c,x)::post) ((F+3,c,x)::c9)) t k=if F+3=t/\c=k then x else Env.get (Af post c9) t k:=λt k=>by
  grind[Fo,Bf,Bz,Nat.eq_of_beq_eq_true]
 have hoc:Env.get (Af post c9) (F+3) c=.any:=by grind[Fo]
 have fw:∀id,(Env.get (Af post c9) 2 id≠.any↔c9.get 2 id≠.any)/\(c9.get 2 id=live->Env.get (Af post c9) 2 id=live):=λid=>by
  rw[Fo];split
  ·rename_i hk;have:=o2 id hk;unfold Ib at this;split at this
   ·grind
   ·rename_i h1 h2;rw[h1,h2];exact⟨⟨λ_ hh=>(by cases hh),λ_ hh=>(by cases hh)⟩,λhh=>(by cases hh)⟩
   ·rename_i h1 h2;rw[h1,h2];exact⟨⟨λ_ hh=>(by cases hh),λ_ hh=>(by cases hh)⟩,λhh=>(by cases hh)⟩
   trivial
  grind
 refine⟨h.1,?_⟩
 show Aax P Y Gl yd f xs ((F+3,c,.d (.c (.s .n n g)))::c9) el F c ((F+3,c,.d (.c (.s .n n g)))::post)
 rw[hx];intro J G w vs u z m8 cb sm ae hH hJ v6 f7 wk
 obtain⟨hu,n1,f1,hx1,gq⟩:=wk
 have gp:∀t,t<3->∀k,Env.get ((F+3,c,x)::c9) t k=c9.get t k:=λt ht k=>by grind
 have hmem0:Mem Y (λ_=>False) c9 w G:=by
  refine⟨λid k hk=>?_,λid d6=>?_,λid i5 h1 h2=>v6.inj id i5 (by trivial) (by trivial)⟩
  ·have s7:¬(F+3=id+3/\c=k):=λhh=>hk (by grind);have e1:Env.get ((F+3,c,x)::c9) (id+3) k=c9.get (id+3) k:=by grind
   obtain⟨q1,q2,u,q3,q4⟩:=v6.cells id k (by grind);rw[e1]at q2 q4;rw[gp 2 (by decide)]at q1;exact⟨q1,q2,u,q3,q4.env (λi=>(gp 2 (by decide) i).symm) (λi=>(gp 1 (by decide) i).symm)⟩
  ·obtain⟨q1,q2,q3⟩:=v6.box id (by trivial);trivial
 have wd:Env.get ((F+3,c,x)::c9) (F+3) c=x:=by grind
 obtain⟨_,_,u1,c1,c2⟩:=v6.cells F c (by grind);rw[wd]at c2;obtain rfl:u=u1:=by grind
 rw[gp 0 (by decide)]at hJ;refine (hB J G w vs m8 cb sm ae hH hJ hmem0 f7).mono ?_;rintro en w' ⟨q1,q2,q3,q4,G',r1,r2,r3,r4,r5,r6,r7,v,rfl,r8⟩;have hz:∀b,z=some b->b<w.heap.size/\¬G.H b/\∀id,c9.get 2 id≠.any->G.bk id≠b:=λb hb=>by
  subst hb;exact⟨gq.2.1,gq.2.2.1,λid d6=>gq.2.2.2.2.1 id (by trivial)⟩
 have i7:∀b,G.vis b<=G'.vis b:=λb=>by
  grind
 have e9:w'.cell? ⟨G'.bk F,c,none⟩=some u:=by grind
 have g2:∀t,t<3->∀k,Env.get (Af ((F+3,c,x)::post) ((F+3,c,x)::c9)) t k=Env.get (Af post c9) t k:=λt ht k=>by grind
 have ak:VOK G' w' (λ_=>False) Y (Af ((F+3,c,x)::post) ((F+3,c,x)::c9)) x u:=by
  have:=c2.rel;subst hx;exact VOK.plain (Aa.mono ⟨i7,q2,λ_ h=>h.elim⟩ (Gy λ_ _=>by rw[r1]) this) rfl rfl trivial
 refine⟨?_,q1,q2,λb hb hHb hn _=>q3 b hb hHb λid d6=>hn id (by trivial),λid k hl hk=>?_,G',u,z,r1,i7,λb hb _=>r2 b hb,r3,r4,r5,by grind,⟨λid k hk=>?_,λid d6=>?_,λid i5 h1 h2=>r7.inj id i5 (by grind) (by grind)⟩,⟨e9,n1,f1,?_,?_⟩,λb hb=>.inr hb⟩
 ·have r8:Aa { Gh0 G'.vis with H:=G'.H } w' (λ_=>False) (.tup []) v:=r8;grind[Aa,Jt]
 ·grind
 ·rw[g2 2 (by decide)];rw[hov]at hk ⊢
  by_cases hh:F+3=id+3/\c=k
  ·grind
  ·rw[bI hh]at hk ⊢;obtain⟨k1,k2,u2,k3,k4⟩:=r7.cells id k hk;exact⟨k1,k2,u2,k3,k4.env (λi=>g2 2 (by decide) i) (λi=>g2 1 (by decide) i)⟩
 ·rw[g2 2 (by decide)]at d6 ⊢;exact r7.box id d6
 ·grind
 ·cases z with
  |none=>exact gq
  |some b=>
   obtain⟨z1,z2,z3⟩:=hz b rfl;obtain⟨y0,y1,y2,⟨cs,t,y3⟩,y4,y5,⟨jl,y6⟩,y7⟩:=gq;have hb:w'.heap[b]?=w.heap[b]?:=q3 b z1 z2 z3;exact⟨y0,aX z1 q1.size,λhh=>z2 ((r4 b z1).1 hh),⟨cs,t,hb.trans y3⟩,λid d6=>by grind,y5,⟨jl,Ws y5 hb y6⟩,by grind⟩
end
inductive SepC (n:Nat) (f:Nat->List C):C->Prop
 |v (x:Value):SepC n f (.v x)
 |s (t:Tag) (m:Nat) (h:Nat->List C) (h1:n<m*(h 0).length∨(m=n/\(h 0).length=1/\∃i x y,i<n/\h i=[Ci x]/\f i=[Ci y]/\x≠y)) (h2:∀i,i<m->∀c∈h i,SepC n f c):SepC n f (.s t m h)
def SepT (n:Nat) (f:Nat->List C):T->Prop
 | .d (.c c)=>SepC n f c
 | .d (.agg cs)=>∀c∈cs,SepC n f c
 | .tup ds=>ds=[]
 | .addr _ _=>True
 | .arr _ _=>True
 | .elt _ _ _ _=>True
 | .mp _=>True
 | .it _=>True
 | .yl _=>True
 | .any=>True
 | .tok _=>True
 | .tr _=>True
 | .arrc _ _ m h=>∀i,i<m->∀c∈h i,SepC n f c
 | .mapc _ _ _ dom val=>∀k,dom k=true->∀c∈val k,SepC n f c
 |_=>False
def Og (tk:Nat):Env->Env
 | []=>[]
 |(t,k,x)::r=>(t,k,bif !t.beq 1&&!t.beq 2&&Ia tk (Ck x) then .any else x)::Og tk r
section
variable {P:Program} {Y:TypeId->Ty} {Gl:World->Prop} {X:Cx} {nt:Nat} {ds:List Deferred} {e:Env} {a:Act} {w:World} {G:Gh}
theorem Abq (tk:Nat):∀(e:Env) (t k:Nat),(Og tk e).get t k=if t≠1/\t≠2/\tk∈Ck (e.get t k) then .any else e.get t k
 | [],t,k=>by
  show T.any=if _ then T.any else T.any
  grind
 |(t',k',x)::r,t,k=>by
  by_cases h:t'=t/\k'=k
  ·grind[Am,Og,nbeq,Xm]
  ·have e1:Env.get ((t',k',x)::r) t k=Env.get r t k:=by grind[Am]
   have e2:Env.get (Og tk ((t',k',x)::r)) t k=Env.get (Og tk r) t k:=by grind[Og,Am]
   rw[e1,e2];exact Abq tk r t k
def Rep.sep {vis vis':Nat->Nat} {b n:Nat} {f:Nat->List C} (bn:∀c,c≠b->vis' c=vis c) (hvb:vis b=n) (ht:∀i y,i<n->f i=[Ci y]->w.cell? ⟨b,i,none⟩=some (.int .i64 y)) {w0:World} (hm:∀es c,w.heap[b]?≠some (.map es c)):
  ∀{c:C} {v:Value},SepC n f c->Rep vis w c v->Rep vis' w c v:=by
 intro c v hs
 induction hs generalizing v with
 |v x=>intro r;cases r with|v _ h=>exact .v _ h
 |s t m h h1 h2 ih=>
  intro r;cases r with
  |nil=>omega
  |e=>omega
  |s _ _ _ b' off cap sz u hn hc hz hv hu hr=>
   have s7:b'≠b:=λhh=>by
    subst hh;rw[hvb]at hv;rcases h1 with h1|⟨h1,h3,i,x,y,hi,hx,hy,qw⟩
    ·grind
    ·subst h1;have kx:sz=1:=by grind
     subst kx;have h0:off=0:=by omega
     subst h0;have c1:=hu i 0 (Ci x) hi (by rw[hx];rfl);have c2:=hr i 0 (Ci x) hi (by rw[hx];rfl);rw[show 0+i*1+0=i by omega,ht i y hi hy]at c1;have c3:=bS c1;rw[<-c3]at c2;cases c2 with
     |v _ _=>trivial
   refine .s t m h b' off cap sz u hn hc hz (by grind) hu λi j c hi hj=>?_;grind
def Aw.sep {vis vis':Nat->Nat} {b n:Nat} {f:Nat->List C} (bn:∀c,c≠b->vis' c=vis c) (hvb:vis b=n) (ht:∀i y,i<n->f i=[Ci y]->w.cell? ⟨b,i,none⟩=some (.int .i64 y)) (hm:∀es c,w.heap[b]?≠some (.map es c))
  {cs:List C} {vs:List Value} (hs:∀c∈cs,SepC n f c) (r:Aw vis w cs vs):Aw vis' w cs vs:=
 ⟨r.1,λj c v hc hv=>Rep.sep bn hvb ht (w0:=w) hm (hs c (cG hc)) (r.2 j c v hc hv)⟩
theorem Rel.untok (R:Rel Y X nt ds e a w G) (hJ:∀p H vi jy w,X.J p H vi w->X.J p H jy w) {t0 k0 tk n el d sz:Nat} {f g:Nat->List C} (he:e.get t0 k0=.d (.c (.s (.t tk) n f))) (ht0:t0=0/\k0<FAR∨3<=t0) (cm:e.get 1 tk=As el)
  (j9:(Y el).size=sz) (nz:0<sz) (hn:0<n) (vd:∀i,i<n->∀c∈f i,∃y,c=.v y) (hg:∀i y,i<n*sz->g i=[Ci y]->sz=1/\f i=[Ci y]) (hf:tk<FAR) (hd:e.get 2 d=.any) (aq:d<FAR) (ge:∀id k,FAR<=id->tk ∉ Ck (e.get (id+3) k)) (hsep:∀t k,t≠1->tk ∉ Ck (e.get t k)->SepT (n*sz) g (e.get t k)):
  ∃G',Rel Y X nt ds ((t0,k0,.arr d n)::(2,d,.arrc false sz n f)::(1,tk,Bx)::Og tk e) a w G':=by
 -- the value that holds the slice
 obtain⟨v0,bn,hcell0⟩:∃v0,VOK G w X.fz Y e (.d (.c (.s (.t tk) n f))) v0/\(t0=0->v0=De X.sh a k0)/\∀id,t0=id+3->e.get 2 id=live/\w.cell? ⟨G.bk id,k0,none⟩=some v0:=by
  rcases ht0 with ⟨rfl,_⟩|h3
  ·have:=R.slots k0;grind
  ·obtain⟨id,rfl⟩:∃id,t0=id+3:=⟨t0 - 3,by omega⟩
   obtain⟨c1,_,u,c3,c4⟩:=R.mem.cells id k0 (by grind);grind
 have l7:Own G w Y tk el n f v0:=bn.own el cm;have i6:Rep G.vis w (.s (.t tk) n f) v0:=bn.reld;obtain⟨i9,l7⟩:=l7;rcases l7 with l7|⟨l7,_⟩|⟨b,xs,o1,o2,o3,o4⟩
 ·rw[l7]at i6;cases i6;omega
 ·omega
 rw[j9]at o3 o4;rcases o3.2 with ⟨q1,q2⟩|⟨b',cap,cur,q1,q2,q3,q4,q5,q6,q7⟩
 ·omega
 rw[q1]at o2;simp only[Value.ownBlock,aA]at o2;subst o2;obtain⟨t1,t2,t3,t4,t5⟩:=R.tks _ _ o1;have qc:∀i,i<n->(f i).length=sz/\∀(j:Nat) c,(f i)[j]?=some c->∃u,cur[i*sz+j]?=some u/\Rep G.vis w c u:=λi hi=>by
  refine⟨by grind,λj c hj=>?_⟩;rw[q1]at i6;cases i6 with
  |e=>omega
  |s _ _ _ _ _ _ cn u a1 a2 a3 a4 a5 a6=>
   grind[World.cell?]
 have ma:∀i y,i<n*sz->g i=[Ci y]->w.cell? ⟨b',i,none⟩=some (.int .i64 y):=λi y hi hy=>by
  obtain⟨kx,hy⟩:=hg i y hi hy;subst kx;obtain⟨_,h2⟩:=qc i (by omega);obtain⟨u,h3,h4⟩:=h2 0 (Ci y) (by rw[hy];rfl);cases h4 with
  |v _ _=>grind[World.cell?]
 have gj:∀es c,w.heap[b']?≠some (.map es c):=λes c h=>by grind
 have hc1:cap<=cap*sz:=dJ cap nz;have hc2:n*sz<=cap*sz:=aY sz q4;obtain⟨G',hG⟩:∃G',({ vis:=λc=>if c=b' then 0 else G.vis c,bk:=λi=>if i=d then b' else G.bk i,tk:=λq=>if q=.o tk then none else G.tk q,H:=G.H,dm:=G.dm }:Gh)=G':=⟨_,rfl⟩
 have iz:∀c,c≠b'->G'.vis c=G.vis c:=λc h=>by subst hG;simp[h]
 have iv:G'.vis b'=0:=by subst hG;simp
 have ph:G'.bk d=b':=by subst hG;simp
 have la:∀i,i≠d->G'.bk i=G.bk i:=λi h=>by subst hG;simp[h]
 have ja:∀q,q≠.o tk->G'.tk q=G.tk q:=λq h=>by subst hG;simp[h]
 have htn:G'.tk (.o tk)=none:=by subst hG;simp
 have hH:G'.H=G.H:=by grind
 have ec:G'.dm=G.dm:=by grind
 have i7:∀q c,G'.tk q=some c->G.tk q=some c/\c≠b'/\q≠.o tk:=λq c h=>by
  by_cases hq:q=.o tk
  ·grind
  ·rw[ja q hq]at h;exact⟨h,λhc=>hq (R.tinj _ _ b' (by grind) o1),hq⟩
 obtain⟨e',hE⟩:∃e':Env,((t0,k0,T.arr d n)::(2,d,.arrc false sz n f)::(1,tk,Bx)::Og tk e:Env)=e':=⟨_,rfl⟩
 rw[hE];have g1:∀k,e'.get 1 k=if k=tk then Bx else e.get 1 k:=λk=>by
  grind[Am,Abq]
 have g2:∀k,e'.get 2 k=if k=d then .arrc false sz n f else e.get 2 k:=λk=>by
  grind[Am,Abq]
 have g0:∀t k,t≠1->t≠2->e'.get t k=if t0=t/\k0=k then .arr d n else if tk∈Ck (e.get t k) then .any else e.get t k:=λt k h1 h2=>by
  grind[Am,Abq]
 have hrelT:∀{x:T} {v:Value},SepT (n*sz) g x->(∀i,i∈Aj x->G'.bk i=G.bk i)->Aa G w X.fz x v->Aa G' w X.fz x v:=λ{x v} hs hb r=>by
  cases x with
  |d y=>
   simp only[Aa]at r ⊢;cases y with
   |c c=>exact Rep.sep iz o4 ma (w0:=w) gj hs r
   |agg cs=>obtain⟨vs,rfl,hr⟩:=r;exact⟨vs,rfl,hr.sep iz o4 ma gj hs⟩
   |rd cs=>trivial
  |tup ds=>
   obtain rfl:ds=[]:=hs;simp only[Aa]at r ⊢;obtain⟨vs,rfl,hl,_⟩:=r;exact⟨vs,rfl,hl,λj x v hj=>by simp at hj⟩
  |addr i k=>grind[Aa,Aj]
  |arr i m=>grind[Aa,Aj]
  |elt i j z q=>grind[Aa,Aj]
  |mp i=>grind[Aa,Aj]
  |it i=>grind[Aa,Aj]
  |yl l=>trivial
  |any=>trivial
  |tr p=>trivial
  |tok t=>trivial
  |arrc _ _ _ _=>trivial
  |mapc _ _ _ _ _=>trivial
  |_=>trivial
 have o8:∀i,e.get 2 i≠.any->i≠d:=λi h hh=>h (by grind);have lift:∀x v,SepT (n*sz) g x->tk ∉ Ck x->VOK G w X.fz Y e x v->VOK G' w X.fz Y e' x v:=λx v hs sd r=>by
  have v8:∀i,i∈Aj x->e.get 2 i≠.any:=λi hi=>by
   cases x with
   |may b y=>trivial
   |_=>exact r.ids i hi
  refine⟨hrelT hs (λi hi=>la i (o8 i (v8 i hi))) r.rel,?_,Gy λi hi=>by grind,?_⟩
  ·have hown':=r.own;cases x with
   |d y=>
    cases y with
    |c c=>
     cases c with
     |s g m h=>
      cases g with
      |n=>trivial
      |t q=>
       have hq:q≠tk:=λhh=>sd (by simp[Ck,hh]);intro bz w9;rw[g1,bI hq]at w9;obtain⟨k1,k2⟩:=hown' bz w9;refine⟨k1,?_⟩;grind
     |_=>trivial
    |_=>trivial
   |may b y=>trivial
   |_=>trivial
  ·refine r.tok.imp (x:=x) ?_ |> λh=>h
   grind[Bx]
 have jo:∀v,v=v0->VOK G' w X.fz Y e' (.arr d n) v:=λv hv=>by
  refine VOK.ids_used (id:=d) ?_ trivial rfl rfl (by grind);simp only[Aa];rw[hv,q1,ph];exact .inr ⟨cap,rfl,q4,q5,cur,_,_,q3,by omega⟩
 refine⟨G',⟨⟨λi k hk=>?_,λi hi=>?_,λi i' h1 h2 hh=>?_⟩,R.size,by rw[ec];exact R.defers,λD hD=>by rw[ec]at hD;rw[hH];exact R.marks D hD,λt=>?_,λq c hc=>?_,λq q' c h1 h2=>R.tinj q q' c (i7 _ _ h1).1 (i7 _ _ h2).1,λq c hc=>?_,
  λc hc=>?_,λc hc=>by rw[iz c (by omega)];exact R.old c hc,R.base,λi hi=>?_,λc hc=>by rw[hH]at hc;exact R.hlt c hc,λc hc=>by rw[hH];exact R.fzh c hc,?_,λi k uw h1 h2=>?_⟩⟩
 ·rw[g0 (i+3) k (by omega) (by omega)]at hk ⊢
  by_cases h:t0=i+3/\k0=k
  ·rw[bG h]at hk ⊢;obtain⟨c1,c2⟩:=hcell0.2 i h.1;have d6:i≠d:=o8 i (by rw[c1];exact Bc);rw[h.2]at c2;exact⟨by grind,rfl,v0,by grind,jo v0 rfl⟩
  ·rw[bI h]at hk ⊢
   by_cases hm:tk∈Ck (e.get (i+3) k)
   ·grind
   ·rw[bI hm]at hk ⊢;obtain⟨c1,c2,u,c3,c4⟩:=R.mem.cells i k hk;have d6:i≠d:=o8 i (by rw[c1];exact Bc);grind
 ·rw[g2]at hi ⊢
  by_cases h:i=d
  ·subst h;rw[bG rfl,ph,hH];exact⟨t3,t2,⟨cur,_,_,q3,.inl rfl,by omega,λi hi=>⟨(qc i hi).1,λj c hj=>by
    obtain⟨u,h3,h4⟩:=(qc i hi).2 j c hj;obtain⟨y,rfl⟩:=vd i hi c (cG hj);cases h4 with
    |v x hx=>exact⟨_,h3,.v _ hx⟩⟩⟩,nz,λhh=>(by cases hh),λ_=>iv⟩
  ·rw[bI h]at hi ⊢;obtain⟨c1,c2,c3⟩:=R.mem.box i hi;rw[la i h,hH];refine⟨c1,c2,?_⟩;have s7:G.bk i≠b':=t5 i hi;have hto2:tk ∉ Ck (e.get 2 i):=λhm=>by
    generalize e.get 2 i=ob at c3 hm;cases ob with
    |d y=>trivial
    |may b y=>trivial
    |_=>trivial
   have hs:=hsep 2 i (by omega) hto2;generalize e.get 2 i=ob at c3 hs;cases ob with
   |tup y=>
    obtain rfl:y=[]:=hs;exact⟨by rw[iz _ s7];exact c3.1,c3.2⟩
   |arrc fz sz m h=>
    obtain⟨⟨cs,t,z,p1,p2,p3,p4⟩,p5,p6,p7⟩:=c3;exact⟨⟨cs,t,z,p1,p2,p3,λi hi=>⟨(p4 i hi).1,λj c hj=>let ⟨u,h3,h4⟩:=(p4 i hi).2 j c hj;⟨u,h3,Rep.sep iz o4 ma (w0:=w) gj (hs i hi c (cG hj)) h4⟩⟩⟩,p5,by grind,by grind⟩
   |mapc fz kn ag dom val=>
    obtain⟨⟨es,cl,p1,p2,p3⟩,p4,p5⟩:=c3;refine⟨⟨es,cl,p1,p2,λi en k he hk=>⟨(p3 i en k he hk).1,(p3 i en k he hk).2.sep iz o4 ma gj (hs k ?_)⟩⟩,by grind,by grind⟩;obtain⟨k',h3,h4⟩:=p2.1 i en he;grind
   |_=>first|exact c3.elim|exact hs.elim
 ·rw[g2]at h1 h2
  by_cases h:i=d<;>by_cases h':i'=d
  ·rw[h,h']
  ·grind
  ·grind
  ·rw[bI h]at h1;rw[bI h']at h2;rw[la i h,la i' h']at hh;exact R.mem.inj i i' h1 h2 hh
 ·rw[g0 0 t (by omega) (by omega)]
  by_cases h:t0=0/\k0=t
  ·grind
  ·rw[bI h]
   by_cases hm:tk∈Ck (e.get 0 t)
   ·grind[VOK.any]
   ·rw[bI hm];exact lift _ _ (hsep _ _ (by omega) hm) hm (R.slots t)
 ·obtain⟨h1,h2,_⟩:=i7 q c hc;obtain⟨c1,c2,c3,c4,c5⟩:=R.tks q c h1;grind
 ·obtain⟨h1,h2,h3⟩:=i7 q c hc;have:=R.tlive q c h1;cases q with
  |o q=>
   show e'.get 1 q≠.any
   rw[g1,bI (λhh=>h3 (by rw[hh]))];exact this
  |s b j=>
   obtain⟨i,c1,c2⟩:=this;have d6:=o8 i c1;exact⟨i,by grind,by grind⟩
 ·rw[iz c (by omega)];exact R.fresh c hc
 ·rw[g2]at hi
  by_cases h:i=d
  ·subst h;rw[ph];exact⟨λ_=>t1,λhh=>absurd aq (fV.2 hh)⟩
  ·rw[bI h]at hi;rw[la i h];exact R.ownb i hi
 ·have:trN (e'.get 0 BIG)=trN (e.get 0 BIG):=by
   rw[g0 0 BIG (by omega) (by omega),bI (λhh=>by
    grind)]
   split
   ·rename_i hm;cases hx:e.get 0 BIG with
    |tr p=>grind[Ck]
    |_=>rfl
   ·rfl
  rw[this,hH];exact hJ _ _ _ _ _ R.jj
 ·rw[g2]at h1;have d6:i≠d:=λhh=>by omega
  rw[bI d6]at h1;rw[la i d6];refine R.far i k uw h1 ?_;grind
end
section
variable {P:Program} {Y:TypeId->Ty} {Gl:World->Prop} {nt:Nat} {a:Act} {w:World} {e:Env}
def Ah5:T->Bool
 | .d (.c (.v _))=>true
 | .addr _ _=>true
 | .tup []=>true
 | .any=>true
 | .tok _=>true
 |_=>false
def Abr (tk:Nat):Env->Bool
 | []=>true
 |(t,_,x)::r=>Nat.blt t (FAR+3)&&(Ah5 x||Ia tk (Ck x))&&Abr tk r
theorem plainE_get {tk:Nat}:∀{e:Env},Abr tk e=true->∀t k,e.get t k=.any∨(t<FAR+3/\(Ah5 (e.get t k)=true∨tk∈Ck (e.get t k)))
 | [],_,_,_=>.inl rfl
 |(t',k',x)::r,h,t,k=>by
  simp only[Abr,aE,bW]at h;rw[Am]
  by_cases hh:t'=t/\k'=k
  ·rw[bG hh];exact .inr ⟨by rw[<-hh.1];exact Bh h.1.1,h.1.2.imp id Xm.1⟩
  ·rw[bI hh];exact plainE_get h.2 t k
def Anc (t0 k0 tk d sz n:Nat) (f:Nat->List C) (e:Env):Env:=(t0,k0,.arr d n)::(2,d,.arrc false sz n f)::(1,tk,Bx)::Og tk e
def Rel.untokP {X:Cx} {ds:List Deferred} {G:Gh} {w0:World} (R:Rel Y X nt ds e a w G) (hJ:X.J=J0 w0) {t0 k0 tk n el d sz:Nat} {f:Nat->List C} (he:e.get t0 k0=.d (.c (.s (.t tk) n f))) (h0:3<=t0) (cm:e.get 1 tk=As el)
  (j9:(Y el).size=sz) (nz:0<sz) (hn:0<n) (vd:∀i,i<n->∀c∈f i,∃y,c=.v y) (hf:tk<FAR) (hd:e.get 2 d=.any) (aq:d<FAR) (hp:Abr tk e=true):Cq Y X nt ds (Anc t0 k0 tk d sz n f e) a w:=
 Rel.untok (g:=λ_=>[]) R (by rw[hJ];exact λ_ _ _ _ _ h=>h) he (.inr h0) cm j9 nz hn vd (λi y _ h=>by cases h) hf hd aq (λid k d6 hm=>by
  rcases plainE_get hp (id+3) k with h|h
  ·rw[h]at hm;cases hm
  ·omega) λt k ht hm=>by
  rcases plainE_get hp t k with h|⟨_,h⟩
  ·rw[h];trivial
  ·have h:=h.resolve_right hm;generalize e.get t k=x at h;unfold Ah5 at h;split at h
   ·exact SepC.v _
   ·trivial
   ·rfl
   ·trivial
   ·trivial
   ·cases h
def Hp (rho:List (Nat×Nat)):Env->Bool
 | []=>true
 |(0,k,x)::r=>Nat.blt k FAR&&Bg rho x&&Hp rho r
 |(1,_,x)::r=>(match x with| .tok _=>false|_=>true)&&Hp rho r
 |(2,k,x)::r=>Nat.blt k FAR&&Cv x&&Hp rho r
 |(t+3,_,x)::r=>Nat.blt t FAR&&Bg rho x&&Hp rho r
theorem intoE_key {rho:List (Nat×Nat)}:∀{m:Env},Hp rho m=true->∀t k,Bz t k (Bf m)=true->(t=0/\k<FAR/\Bg rho (m.get t k)=true)∨(t=1/\∀el,m.get t k≠.tok el)∨(t=2/\k<FAR/\Cv (m.get t k)=true)∨(∃i,t=i+3/\i<FAR/\Bg rho (m.get t k)=true)
 | [],_,t,k,h=>by trivial
 |(t',k',x)::r,hm,t,k,h=>by
  have hr:Hp rho r=true:=by
   match t',hm with
   |0,hm=>simp only[Hp,aE]at hm;exact hm.2
   |1,hm=>simp only[Hp,aE]at hm;exact hm.2
   |2,hm=>simp only[Hp,aE]at hm;exact hm.2
   |i+3,hm=>simp only[Hp,aE]at hm;exact hm.2
  rw[Am]
  by_cases hh:t'=t/\k'=k
  ·rw[bG hh];obtain⟨rfl,rfl⟩:=hh
   match t',hm with
   |0,hm=>simp only[Hp,aE]at hm;exact .inl ⟨rfl,Bh hm.1.1,hm.1.2⟩
   |1,hm=>
    refine .inr (.inl ⟨rfl,λel hx=>?_⟩);simp only[Hp,aE]at hm;rw[hx]at hm;cases hm.1
   |2,hm=>simp only[Hp,aE]at hm;exact .inr (.inr (.inl ⟨rfl,Bh hm.1.1,hm.1.2⟩))
   |i+3,hm=>simp only[Hp,aE]at hm;exact .inr (.inr (.inr ⟨i,rfl,Bh hm.1.1,hm.1.2⟩))
  ·rw[bI hh];refine intoE_key hr t k ?_;grind[Bf,Bz,Nat.eq_of_beq_eq_true]
theorem Rel.into {X1 X:Cx} {w0:World} {G0 G1:Gh} {c9:Env} {args:List T} {a0:Act} {rho:List (Nat×Nat)} (R0:Rel Y X nt [] (entry 0 args++c9) a0 w0 G0) (R1:Rel Y X1 nt [] e a w G1) (hJ:X1.J=J0 w0) (ar:X1.base=w0.heap.size) (bq:X1.vis=G0.vis) (hb:X.base=w0.heap.size) (hv:X.vis=G0.vis) (hz:X.fz=λ_=>False)
  (hc:∀b k,X.c0 b k=w0.cell? ⟨b,k,none⟩) (bd:En c9=true) (he:Hp rho e=true) (f7:args.length<=FAR):∃G',(∀id,FAR<=id->G'.bk id=G0.bk id)/\Rel Y X nt [] (e++c9) a w G':=by
 obtain⟨p0,p1,p2⟩:=Mk bd;have p8:Below w0.heap.size w0 w:=by have:=R1.jj;rw[hJ]at this;exact this.2
 have om:∀b,b<w0.heap.size->G1.vis b=G0.vis b:=λb hh=>by rw[R1.old b (by omega),bq]
 have i7:∀b,G0.vis b<=G1.vis b:=λb=>by
  rcases bL b w0.heap.size with h|h
  ·grind
  ·rw[R0.fresh b h];omega
 have n8:KeepV G0.vis w0 w:=by
  have hlt:∀b,0<G0.vis b->b<w0.heap.size:=λb h=>by
   rcases bL b w0.heap.size with h'|h'
   ·exact h'
   ·rw[R0.fresh b h']at h;omega
  exact⟨λb i hi=>bF (p8.block b (hlt b (by omega))),λb fj es c hh=>by rw[p8.block b (hlt b fj)];exact hh,Me p8.block⟩
 have l6:Same w0 w:=⟨p8.os,p8.tape,p8.output,p8.size⟩
 obtain⟨G',hG⟩:∃G':Gh,(⟨G1.vis,λid=>if id<FAR then G1.bk id else G0.bk id,G1.tk,G0.H,G1.dm⟩:Gh)=G':=⟨_,rfl⟩
 have gv:G'.vis=G1.vis:=by grind
 have gb1:∀id,id<FAR->G'.bk id=G1.bk id:=λid h=>by subst hG;grind
 have ul:∀id,FAR<=id->G'.bk id=G0.bk id:=λid h=>by subst hG;grind
 have gt:G'.tk=G1.tk:=by grind
 have gH:G'.H=G0.H:=by grind
 have gd:G'.dm=G1.dm:=by grind
 have hnH:∀b,w0.heap.size<=b->¬G'.H b:=λb h hh=>by rw[gH]at hh;have:=R0.hlt b hh;omega
 have key:=intoE_key he
 -- what is known now
 have gin:∀t k,Bz t k (Bf e)=true->Env.get (e++c9) t k=e.get t k:=λt k h=>Ag8 h;have gnot:∀t k,Bz t k (Bf e)=false->Env.get (e++c9) t k=c9.get t k:=λt k h=>Xk h;have gany:∀t k,Bz t k (Bf e)=false->e.get t k=.any:=λt k h=>by
  have h1:Env.get (e++[]) t k=Env.get [] t k:=Xk h;rw[dO]at h1;exact h1
 have ent:∀t k,t≠0->Env.get (entry 0 args++c9) t k=c9.get t k:=λt k h=>Rh args 0 k c9 h;have g1:∀k,Env.get (e++c9) 1 k=e.get 1 k:=λk=>by
  grind
 have xf:∀id,e.get 2 id≠.any->id<FAR/\Env.get (e++c9) 2 id=e.get 2 id:=λid h=>by
  grind
 have glo:∀id,id<FAR->Env.get (e++c9) 2 id=e.get 2 id/\∀k,Env.get (e++c9) (id+3) k=e.get (id+3) k∨(Bz (id+3) k (Bf e)=false):=λid h=>by
  grind
 have ghi:∀id,FAR<=id->Env.get (e++c9) 2 id=c9.get 2 id/\∀k,Env.get (e++c9) (id+3) k=c9.get (id+3) k:=λid h=>by
  grind
 have m0:=R0.mem;rw[hz]at m0;have hlowb:∀id,e.get 2 id≠.any->w0.heap.size<=G1.bk id:=λid h=>by
  have:=(R1.ownb id h).1 (xf id h).1;omega
 have um:∀id,c9.get 2 id≠.any->G0.bk id<w0.heap.size:=λid h=>(m0.box id (by grind)).2.1;have jm:∀{x:T} {v:Value},Bg rho x=true->VOK G1 w X1.fz Y e x v->VOK G' w (λ_=>False) Y (e++c9) x v:=λ{x v} ht h=>
  VOK.mono (O:=λ_=>False) ⟨λb=>by grind,.refl _ _,λ_ _=>rfl⟩ (λid d6=>gb1 id (xf id d6).1) (λid d6=>by grind) (λk hk=>by grind) (λk b _ hb _=>⟨by grind,rfl,by rw[gv]⟩) (⟨Aa.anyO ht h.rel,h.own,h.ids,h.tok⟩:VOK G1 w (λ_=>False) Y e x v)
 have lift0:∀{x:T} {v:Value},(∀id,(entry 0 args++c9).get 2 id≠.any->FAR<=id)->VOK G0 w0 (λ_=>False) Y (entry 0 args++c9) x v->VOK G' w (λ_=>False) Y (e++c9) x v:=λ{x v} ge h=>
  VOK.mono ⟨λb=>by grind,n8,λ_ h=>h.elim⟩ (λid d6=>ul id (ge id d6)) (λid d6=>by grind) (λk hk=>absurd (by grind) hk) (λk b hk=>absurd (by grind) hk) h
 have hfar0:∀id,(entry 0 args++c9).get 2 id≠.any->FAR<=id:=λid h=>p2 id (by grind);refine⟨G',ul,⟨⟨λid k hk=>?_,λid d6=>?_,λid i5 h1 h2 hh=>?_⟩,R1.size,by rw[gd];exact R1.defers,λD hD=>?_,λt=>?_,λk b hk=>?_,λk k' b h1 h2=>?_,λk b hk=>?_,λb hh=>by rw[gv];exact R1.fresh b hh,λb hh=>by grind,by rw[hb];exact p8.size,λid d6=>?_,λb hh=>by rw[gH]at hh;exact aX (R0.hlt b hh) p8.size,λb hh=>by grind,?_,λid k hf hl hk=>?_⟩⟩
 ·rw[hz];rcases bL id FAR with hf|hf
  ·obtain⟨q1,q2⟩:=glo id hf;rcases q2 k with q2|q2
   ·rw[q2]at hk ⊢;obtain⟨c1,c2,u,c3,c4⟩:=R1.mem.cells id k hk;grind
   ·rw[gnot _ _ q2]at hk;have:=(m0.cells id k (by grind)).1;rw[ent 2 id (by decide)]at this;exact absurd (p2 id (by rw[this];exact Bc)) (by omega)
  ·obtain⟨q1,q2⟩:=ghi id hf;rw[q2]at hk ⊢;rw[q1];obtain⟨c1,c2,u,c3,c4⟩:=m0.cells id k (by grind);rw[ent _ _ (by omega)]at c2 c4;rw[ent 2 id (by decide)]at c1;refine⟨c1,c2,u,?_,lift0 hfar0 c4⟩;rw[ul id hf];exact (p8.cell (um id (by rw[c1];exact Bc))).trans c3
 ·rcases bL id FAR with hf|hf
  ·rw[(glo id hf).1]at d6 ⊢;obtain⟨c1,c2,c3⟩:=R1.mem.box id d6;rw[gb1 id hf];refine⟨hnH _ (hlowb id d6),c2,?_⟩;have ic:Bz 2 id (Bf e)=true:=by grind
   rcases key 2 id ic with ⟨q,_⟩|⟨q,_⟩|⟨_,_,q⟩|⟨i,q,_⟩
   ·cases q
   ·cases q
   ·exact c3.tame q gv
   ·omega
  ·rw[(ghi id hf).1]at d6 ⊢;obtain⟨c1,c2,c3⟩:=m0.box id (by grind);rw[ent 2 id (by decide)]at c3;rw[ul id hf,gH];refine⟨c1,aX c2 p8.size,?_⟩;have ho:Cv (c9.get 2 id)=true:=Kl bd id d6;have h3:Bk (Gh0 G0.vis) w0 (c9.get 2 id) (G0.bk id):=Bk.tame (G:=G0) (G':=Gh0 G0.vis) ho rfl c3;have h4:Bk (Gh0 G1.vis) w (c9.get 2 id) (G0.bk id):=Bk.stay (G:=Gh0 G0.vis) (G':=Gh0 G1.vis) i7 n8 (p8.block _ c2) (om _ c2) (λj bb hj=>(by cases hj)) h3;grind[Bk.tame,Gh0]
 ·rcases bL id FAR with hf|hf<;>rcases bL i5 FAR with bh|bh
  ·rw[(glo id hf).1]at h1;rw[(glo i5 bh).1]at h2;rw[gb1 id hf,gb1 i5 bh]at hh;exact R1.mem.inj id i5 h1 h2 hh
  ·grind
  ·grind
  ·rw[(ghi id hf).1]at h1;rw[(ghi i5 bh).1]at h2;rw[ul id hf,ul i5 bh]at hh;exact m0.inj id i5 (by grind) (by grind) hh
 ·rw[gd]at hD;obtain⟨q1,q2,q3⟩:=R1.marks D hD;grind
 ·rw[hz];cases hh:Bz 0 t (Bf e) with
  |true=>
   rw[gin 0 t hh];rcases key 0 t hh with ⟨_,q,q2⟩|⟨q,_⟩|⟨q,_⟩|⟨i,q,_⟩
   ·have hs:=R1.slots t;have:De X.sh a t=De X1.sh a t:=by unfold De;rw[bG q,bG q]
    grind
   ·cases q
   ·cases q
   ·omega
  |false=>
   rw[gnot 0 t hh];rcases p0 t with q|⟨_,p,q⟩
   ·rw[q];exact VOK.any _
   ·rw[q];exact VOK.plain (by trivial) rfl rfl trivial
 ·rw[gt]at hk;obtain⟨q1,q2,q3,q4,q5⟩:=R1.tks k b hk;grind
 ·rw[gt]at h1 h2;exact R1.tinj k k' b h1 h2
 ·rw[gt]at hk;exact (R1.tlive k b hk).mono (λj hj=>by grind) λid d6=>⟨by grind,gb1 id (xf id d6).1⟩
 ·refine⟨λhf=>?_,λhf=>?_⟩
  ·grind
  ·rw[(ghi id hf).1]at d6;rw[ul id hf];exact (R0.ownb id (by grind)).2 hf
 ·have bj:trN (Env.get (e++c9) 0 BIG)=trN (Env.get (entry 0 args++c9) 0 BIG):=by grind[Abf]
  rw[bj,gH,gv];exact X.st.2 _ _ _ _ _ (X.st.1 _ _ _ _ _ R0.jj (λb hh=>p8.block b (R0.hlt b hh)) n8 l6) i7 λb hh=>om b (R0.hlt b hh)
 ·obtain⟨q1,q2⟩:=ghi id hf;rw[q1]at hl;rw[q2]at hk;rw[ul id hf,<-R0.far id k hf (by grind) (by grind)];exact p8.cell (um id (by rw[hl];exact Bc))
def fnVcR (Comp:FuncId->List T->Res->Prop) (Comp2:Yd->FuncId->List T->Env->Res->Env->Prop) (Y:TypeId->Ty) (yd:Yd) (fn:Func) (tl:Code) (post c9:Env) (e:Env) (o9:Res) (d9:Orc):Prop:=
 wp Comp Comp2 Y fn.ntmps yd false tl (Md Y fn false λr e=>Hj r o9/\le e (Af post c9)) d9 (e++c9)
abbrev ptrT (b:Nat):T:=.d (.c (.v (.pointer (some ⟨b,0,none⟩))))
theorem Awz (S:Set P Y Gl) {f:FuncId} {fn:Func} {xs:List T} {c9 post:Env} {o9:Res} {xs1 xs2:List Code} {tl:Code} {E1 E3:Env} {E2:Nat->Env} {yd:Yd} (o1 o2 o3:Orc) (hf:P.funcs[f]?=some fn) (m5:(fn.name== "runtime.NumGoroutine")=false) (hc:fn.body=some (Hm xs1 (Hm xs2 tl)))
  (hb:(Nat.ble (xs.length+1) fn.ntmps&&Nat.ble fn.ntmps FAR&&Hk c9 (.addr FAR 0::xs)&&En c9&&Ie c9 post&&Jy o9&&Hk [] (ptrT 0::xs)&&Hp (Fb E3) E3&&Du xs&&!Bz 0 0 (Bf E3))=true)
  (q1 q2:Nat->Prop) (q3:Prop) (ve:∀b,q1 b=Xy (Computes P Gl) (Does P Y Gl) Y fn xs1 (ptrT b::xs) ((0,0,ptrT b)::E1) o1) (hq2:∀b,q2 b=wp (Computes P Gl) (Does P Y Gl) Y fn.ntmps yd0 false (Hm xs2 .skip) (Abi ((0,0,ptrT b)::E3)) o2 (E2 b)) (hq3:q3=fnVcR (Computes P Gl) (Does P Y Gl) Y yd fn tl post c9 ((0,0,.addr FAR 0)::E3) o9 o3) (h1:∀b,q1 b) (h2:∀b,q2 b) (h3:q3)
  (hcut:∀(b:Nat) (X:Cx) (w0:World) (a:Act) (w:World) (G:Gh),X.J=J0 w0->Rel Y X fn.ntmps [] ((0,0,ptrT b)::E1) a w G->Cq Y X fn.ntmps [] (E2 b) a w):Does P Y Gl yd f (.addr FAR 0::xs) c9 o9 post:=by
 subst hq3;simp only[aE]at hb;obtain⟨⟨⟨⟨⟨⟨⟨⟨⟨b1,b2⟩,b3⟩,b4⟩,b5⟩,b6⟩,b7⟩,b9⟩,b8⟩,b10⟩:=hb;refine Aml S hf m5 hc b1 b2 b3 b4 b5 b6 λX G G1 w vs cb gy ga od ib jz vk U oe p9 R=>?_;have ik:Ac (Gh0 G.vis) w (Lo w.heap.size) (ptrT (G.bk FAR)::xs) vs.toList:=by
  simp only[Ac,Aa]at oe ⊢;obtain⟨v,us,e1,e2,e3⟩:=oe;exact⟨v,us,e1,by rw[e2];exact .v _ rfl,Ac.pure (G:=G) (G':=Gh0 G.vis) rfl b8 e3⟩
 obtain⟨X1,j1,j2,j3,j4,U1,R1⟩:=Rj S cb p9 ik b1 b2 (by trivial);have h1:=h1 (G.bk FAR);rw[ve]at h1;unfold Xy at h1;obtain⟨_,h1⟩:=Im h1;refine Agw S U1 (λa2 w2 hr=>?_) xs1 o1 _ _ w h1 ⟨_,R1⟩;obtain⟨G2,R2⟩:=hr;have h2:=h2 (G.bk FAR);rw[hq2]at h2;refine Agw S U1 (λa3 w3 hr=>?_) xs2 o2 _ _ w2 h2 (hcut _ X1 w a2 w2 G2 j1 R2);obtain⟨G3,R3⟩:=hr;obtain⟨G4,k1,R4⟩:=Rel.into (rho:=Fb E3) R R3 j1 j2 (by grind) gy (by grind) jz vk b4 (by trivial) (bJ (aH b1) (aH b2));have hs0:=(R4.slots 0).rel;have kx:De X.sh a3 0=.pointer (some ⟨G.bk FAR,0,none⟩):=Le hs0;have R5:Rel Y X fn.ntmps [] ((0,0,.addr FAR 0)::E3++c9) a3 w3 G4:=by
  refine R4.slots' (λt k ht=>?_) ?_ R4.size rfl λt=>?_
  ·grind[Bb]
  ·trivial
  ·by_cases h0:t=0
   ·subst h0;rw[kx];refine VOK.ids_used (id:=FAR) ?_ trivial rfl rfl ?_
    ·show Aa G4 w3 X.fz (.addr FAR 0) _
     grind[Aa]
    ·have hu:Env.get (entry 0 (T.addr FAR 0::xs)++c9) 2 FAR≠.any:=(R.slots 0).ids FAR aC;rw[Rh _ _ _ _ (by decide)]at hu;rw[bZ,Bb (λhh=>by cases hh.1)];have hk:Bz 2 FAR (Bf E3)=false:=by
      cases hh:Bz 2 FAR (Bf E3) with
      |false=>rfl
      |true=>
       rcases intoE_key b9 2 FAR hh with ⟨q,_⟩|⟨q,_⟩|⟨_,q,_⟩|⟨i,q,_⟩
       ·cases q
       ·cases q
       ·omega
       ·omega
     grind[Xk]
   ·have:=R4.slots t;grind[Bb]
 exact Od (fu:=0) S tl false U (λ_=>rfl) _ o3 _ _ w3 h3 ⟨G4,R5⟩
end
end Go.Vc
