/- A part of the proofs over the layers: the program and the specification; no condition. -/
import Derived.Test.YtknoiciabjockaaGreatCB
import Derived.Scope
import Derived.RangeFuncIn
import Derived.RangeFuncRecord
import Derived.Tactics
import Derived.Defers
import Derived.Recover
import Derived.Sort.Grow
import Derived.KernelRfl
import Derived.Laws.StructEq
set_option linter.all false
set_option linter.unusedSimpArgs false
set_option linter.unusedVariables false
namespace Go.Vc
open Go Go.RowKit
section
variable {P:Program} {Y:TypeId->Ty} {Gl:World->Prop} {X:Cx} {nt:Nat} {ds:List Deferred} {e:Env} {a:Act} {w:World} {G:Gh} {O:Nat->Prop} {Q:Exit->Act->World->Prop} {rd:Option Nat} {fu:Nat} {yd:Yd}
def Iz (e:Env) (G:Gh) (b:Nat):Prop:=(∃ id,e.get 2 id≠.any/\G.bk id=b)∨∃ k,G.tk k=some b
theorem Rel.re (R:Rel Y X nt ds e a w G) {X':Cx} {ds':List Deferred} {a':Act} {e':Env} {G':Gh} {w':World} (hext:Ext X.fz G G' w w') (hfz:X'.fz=X.fz) (hbk:G'.bk=G.bk) (htk:G'.tk=G.tk) (hbase:X'.base=X.base) (hc0:X'.c0=X.c0) (hb0:X'.bk0=X.bk0)
  (hk:∀ b,Iz e G b->w'.heap[b]?=w.heap[b]?/\G'.vis b=G.vis b/\¬ G'.H b) (hsz:w.heap.size<=w'.heap.size) (he:∀ t k,t≠0->e'.get t k=e.get t k)
  (hsize:a'.tmps.size=nt) (hdef:a'.defers=G'.dm.l.map Nm++ds') (hmk:∀ D,D∈G'.dm->¬ G'.H D/\w'.heap[D]?=some (.deferred (some []))/\X'.base<=D)
  (hslots:(∀ x v,VOK G w X.fz Y e x v->VOK G' w' X.fz Y e' x v)->∀ t,VOK G' w' X.fz Y e' (e'.get 0 t) (Dg X'.sh a' t))
  (hfresh:∀ b,w'.heap.size<=b->G'.vis b=0) (hold:∀ b,b<X'.base->G'.vis b=X'.vis b) (hlt:∀ b,G'.H b->b<w'.heap.size) (hfzh:∀ b,X'.fz b->G'.H b)
  (hjj:X'.J (trN (e'.get 0 BIG)) G'.H G'.vis w'):Rel Y X' nt ds' e' a' w' G':=by
 have lift:∀ x v,VOK G w X.fz Y e x v->VOK G' w' X.fz Y e' x v:=fun x v h=>
  VOK.mono hext (fun id _=>by rw [hbk]) (fun id h=>by rw [he 2 id (by decide)];exact h) (fun k h=>by rw [he 1 k (by decide)];exact ⟨h,fun _ h=>h⟩)
   (fun k b _ hb _=>⟨by rw [htk];exact hb,(hk b (.inr ⟨k,hb⟩)).1,(hk b (.inr ⟨k,hb⟩)).2.1⟩) h
 have hlive:∀ id,e.get 2 id=live->e.get 2 id≠.any:=fun id h=>by rw [h];exact Bh
 refine ⟨⟨fun id k hk'=>?_,fun id h=>?_,fun id id' h1 h2 hh=>?_⟩,hsize,hdef,hmk,fun t=>by rw [hfz];exact hslots lift t,fun k b hb=>?_,fun k k' b h1 h2=>?_,fun k b hb=>?_,hfresh,hold,by rw [hbase];exact Nat.le_trans R.base hsz,
  fun id h=>?_,hlt,hfzh,hjj,fun id k hf h1 h2=>?_⟩
 ·rw [he _ k (by omega)] at hk' ⊢
  rw [he 2 id (by decide),hbk,hfz]
  obtain ⟨h1,h2,u,h3,h4⟩:=R.mem.cells id k hk'
  exact ⟨h1,h2,u,by rw [World.cell?_of_block (hk _ (.inl ⟨id,hlive id h1,rfl⟩)).1];exact h3,lift _ _ h4⟩
 ·rw [he 2 id (by decide)] at h ⊢
  rw [hbk]
  obtain ⟨h1,h2,h3⟩:=R.mem.box id h
  obtain ⟨k1,k2,k3⟩:=hk _ (.inl ⟨id,h,rfl⟩)
  refine ⟨k3,Nat.lt_of_lt_of_le h2 hsz,?_⟩
  exact h3.stay hext.vis hext.keep k1 k2 fun j bb hb=>⟨by rw [htk];exact hb,(hk bb (.inr ⟨_,hb⟩)).1,(hk bb (.inr ⟨_,hb⟩)).2.1⟩
 ·rw [he 2 _ (by decide)] at h1 h2
  rw [hbk] at hh
  exact R.mem.inj id id' h1 h2 hh
 ·rw [htk] at hb
  obtain ⟨h1,h2,h3,h4,h5⟩:=R.tks k b hb
  obtain ⟨k1,k2,k3⟩:=hk b (.inr ⟨k,hb⟩)
  exact ⟨by rw [hbase];exact h1,Nat.lt_of_lt_of_le h2 hsz,k3,by rw [k1];exact h4,fun id hid=>by rw [he 2 _ (by decide)] at hid;rw [hbk];exact h5 id hid⟩
 ·rw [htk] at h1 h2;exact R.tinj k k' b h1 h2
 ·rw [htk] at hb
  exact (R.tlive k b hb).mono (fun k hk=>by rw [he 1 _ (by decide)];exact hk) fun id hid=>⟨by rw [he 2 _ (by decide)];exact hid,by rw [hbk]⟩
 ·rw [he 2 _ (by decide)] at h;rw [hbk];have:=R.ownb id h;unfold Wd at this ⊢;rw [hbase,hb0];exact this
 ·rw [he 2 _ (by decide)] at h1
  rw [he _ k (by omega)] at h2
  rw [hbk,hc0,World.cell?_of_block (hk _ (.inl ⟨id,hlive id h1,rfl⟩)).1]
  exact R.far id k hf h1 h2
theorem Rel.stay (R:Rel Y X nt ds e a w G) {w':World} (hs:Same w w') (hv:KeepV G.vis w w') (hk:∀ b,Iz e G b∨G.H b∨b∈G.dm->w'.heap[b]?=w.heap[b]?):Rel Y X nt ds e a w' G:=by
 have hsz:=hs.size
 have hext:Ext X.fz G G w w':=⟨fun _=>Nat.le_refl _,hv,fun b hb=>hk b (.inr (.inl (R.fzh b hb)))⟩
 refine R.re hext rfl rfl rfl rfl rfl rfl (fun b hb=>⟨hk b (.inl hb),rfl,fun hh=>?_⟩) hsz (fun _ _ _=>rfl) R.size R.defers (fun D hD=>?_) (fun lift t=>lift _ _ (R.slots t)) (fun b hb=>R.fresh b (Nat.le_trans hsz hb)) R.old
  (fun b hb=>Nat.lt_of_lt_of_le (R.hlt b hb) hsz) R.fzh (X.st.1 _ _ _ _ _ R.jj (fun b hb=>hk b (.inr (.inl hb))) hv hs)
 ·rcases hb with ⟨id,h1,h2⟩|⟨k,h⟩
  ·exact (R.mem.box id h1).1 (by rw [h2];exact hh)
  ·exact (R.tks k b h).2.2.1 hh
 ·obtain ⟨h1,h2,h3⟩:=R.marks D hD
  exact ⟨h1,by rw [hk D (.inr (.inr hD))];exact h2,h3⟩
theorem Acc {i:Nat}:∀ {l:List Nat},Fu i l=true↔i∈l
 | []=>by simp [Fu]
 |j::r=>by
  simp only [Fu,Bool.or_eq_true,List.mem_cons,Acc (l:=r)]
  exact or_congr ⟨fun h=>Nat.eq_of_beq_eq_true h,fun h=>by rw [h];exact Nat.beq_refl _⟩ Iff.rfl
theorem Sm {a b:Nat}:a.beq b=true↔a=b:=⟨Nat.eq_of_beq_eq_true,fun h=>by rw [h];exact Nat.beq_refl _⟩
theorem Pz (id:Nat):∀ (e:Env) (t k:Nat),(Ck id e).get t k=if (t=2/\k=id)∨t=id+3∨(t≠1/\t≠2/\id∈Ai (e.get t k)) then .any else e.get t k
 | [],t,k=>by
  show T.any=if _ then T.any else T.any
  split<;>rfl
 |(t',k',x)::r,t,k=>by
  by_cases h:t'=t/\k'=k
  ·obtain ⟨rfl,rfl⟩:=h
   have e1:Env.get ((t',k',x)::r) t' k'=x:=by rw [Ap];exact if_pos ⟨rfl,rfl⟩
   have e2:Env.get (Ck id ((t',k',x)::r)) t' k'=bif (t'.beq 2&&k'.beq id)||t'.beq (id+3)||(!t'.beq 1&&!t'.beq 2&&Fu id (Ai x)) then .any else x:=by
    show Env.get ((t',k',_)::Ck id r) t' k'=_
    rw [Ap];exact if_pos ⟨rfl,rfl⟩
   rw [e1,e2]
   have hb:((t'.beq 2&&k'.beq id)||t'.beq (id+3)||(!t'.beq 1&&!t'.beq 2&&Fu id (Ai x)))=true↔((t'=2/\k'=id)∨t'=id+3∨(t'≠1/\t'≠2/\id∈Ai x)):=by
    have n1:(!t'.beq 1)=true↔t'≠1:=by rw [Bool.not_eq_true',<-Bool.not_eq_true];exact not_congr Sm
    have n2:(!t'.beq 2)=true↔t'≠2:=by rw [Bool.not_eq_true',<-Bool.not_eq_true];exact not_congr Sm
    rw [Bool.or_eq_true,Bool.or_eq_true,Bool.and_eq_true,Bool.and_eq_true,Bool.and_eq_true,Sm,Sm,Sm,Acc,n1,n2,or_assoc,and_assoc]
   by_cases hc:((t'=2/\k'=id)∨t'=id+3∨(t'≠1/\t'≠2/\id∈Ai x))
   ·rw [if_pos hc,hb.2 hc];rfl
   ·rw [if_neg hc,Bool.eq_false_iff.2 fun hh=>hc (hb.1 hh)];rfl
  ·have e1:Env.get ((t',k',x)::r) t k=Env.get r t k:=by rw [Ap];exact if_neg h
   have e2:Env.get (Ck id ((t',k',x)::r)) t k=Env.get (Ck id r) t k:=by
    show Env.get ((t',k',_)::Ck id r) t k=_
    rw [Ap];exact if_neg h
   rw [e1,e2];exact Pz id r t k
theorem Agi {id:Nat}:∀ {e:Env},Rv id e=true->∀ t k,FAR+3<=t->id ∉ Ai (e.get t k)
 | [],_,t,k,_=>by show id ∉ Ai T.any;simp [Ai]
 |(t',k',x)::r,h,t,k,ht=>by
  simp only [Rv] at h
  obtain ⟨h1,h2⟩:=and_true h
  rw [Ap]
  split
  ·rename_i hh
   obtain ⟨rfl,rfl⟩:=hh
   rcases Bool.or_eq_true _ _▸h1 with h3|h3
   ·have:=Bg h3;omega
   ·intro hm
    rw [Acc.2 hm] at h3
    cases h3
  ·exact Agi h2 t k ht
theorem Eb.forget {p q:Nat->Prop} {id:Nat} (h:∀ i,i≠id->p i->q i):∀ {x:T},id ∉ Ai x->Eb (fun x=>∀ i,i∈Ai x->p i) x->Eb (fun x=>∀ i,i∈Ai x->q i) x
 | .may b x,hn,hx=>fun hb=>Eb.forget h (x:=x) (by simpa [Ai] using hn) (hx hb)
 | .d _,hn,hx| .tup _,hn,hx| .addr _ _,hn,hx| .fn _ _ _,hn,hx| .any,hn,hx| .tok _,hn,hx| .arr _ _,hn,hx| .elt _ _ _ _,hn,hx| .mp _,hn,hx| .it _,hn,hx| .nx _ _,hn,hx| .yl _,hn,hx| .ag _,hn,hx| .tpl _,hn,hx
 | .own _ _ _,hn,hx| .tkd _ _ _ _,hn,hx| .arrc _ _ _ _,hn,hx| .mapc _ _ _ _ _,hn,hx| .itc _ _,hn,hx| .mitc _ _ _ _ _ _,hn,hx| .tr _,hn,hx| .arro _ _ _ _ _,hn,hx=>fun i hi=>h i (fun hh=>hn (hh▸hi)) (hx i hi)
theorem Rel.forget (R:Rel Y X nt ds e a w G) {id:Nat} (hid:e.get 2 id≠.any) (hf:id<FAR) (hff:Rv id e=true):
  ∃ G',G'.vis=G.vis/\G'.H=G.H/\G'.dm=G.dm/\Rel Y X nt ds (Ck id e) a w G'/\(∀ i,(Ck id e).get 2 i≠.any->G'.bk i≠G.bk id)/\(∀ k,G'.tk k≠some (G.bk id))/\
   ∀ x v,VOK G w X.fz Y e x v->id ∉ Ai x->VOK G' w X.fz Y (Ck id e) x v:=by
 obtain ⟨G',hG⟩:∃ G',({ G with tk:=fun k=>match k with| .s b j=>if b=G.bk id then none else G.tk (.s b j)| .o k=>G.tk (.o k) }:Gh)=G':=⟨_,rfl⟩
 have hvis:G'.vis=G.vis:=by subst hG;rfl
 have hbk:G'.bk=G.bk:=by subst hG;rfl
 have hH:G'.H=G.H:=by subst hG;rfl
 have hdm:G'.dm=G.dm:=by subst hG;rfl
 have hto:∀ k,G'.tk (.o k)=G.tk (.o k):=fun k=>by subst hG;rfl
 have hts:∀ b j,b≠G.bk id->G'.tk (.s b j)=G.tk (.s b j):=fun b j h=>by subst hG;simp [h]
 have htn:∀ j,G'.tk (.s (G.bk id) j)=none:=fun j=>by subst hG;simp
 have hle:∀ k b,G'.tk k=some b->G.tk k=some b:=fun k b h=>by
  cases k with
  |o k=>rw [hto] at h;exact h
  |s b' j=>
   by_cases hb:b'=G.bk id
   ·subst hb;rw [htn] at h;cases h
   ·rw [hts _ _ hb] at h;exact h
 have g1:∀ k,(Ck id e).get 1 k=e.get 1 k:=fun k=>by rw [Pz,if_neg];omega
 have g2:∀ k,(Ck id e).get 2 k=if k=id then .any else e.get 2 k:=fun k=>by
  rw [Pz]
  by_cases h:k=id
  ·rw [if_pos (.inl ⟨rfl,h⟩),if_pos h]
  ·rw [if_neg (by omega),if_neg h]
 have g0:∀ t k,t≠1->t≠2->(Ck id e).get t k≠.any->(Ck id e).get t k=e.get t k/\id ∉ Ai (e.get t k)/\t≠id+3:=fun t k h1 h2 h=>by
  rw [Pz] at h ⊢
  split at h
  ·exact absurd rfl h
  ·rename_i hc
   rw [if_neg hc]
   exact ⟨rfl,fun hm=>hc (.inr (.inr ⟨h1,h2,hm⟩)),fun hm=>hc (.inr (.inl hm))⟩
 have lift:∀ x v,VOK G w X.fz Y e x v->id ∉ Ai x->VOK G' w X.fz Y (Ck id e) x v:=fun x v r hn=>by
  have hext:Ext X.fz G G' w w:=⟨fun b=>by rw [hvis];exact Nat.le_refl _,.refl _ _,fun _ _=>rfl⟩
  refine ⟨r.rel.mono hext (r.ids.imp fun x hx i _=>by rw [hbk]),r.own.mono (r.tok.imp fun x hx k hk' el hel=>by rw [g1] at hel;exact hel) (r.tok.imp fun x hx k hk' b hb' hel=>⟨by rw [hto];exact hb',rfl,by rw [hvis]⟩),
   r.ids.forget (id:=id) (fun i hi hp=>by rw [g2,if_neg hi];exact hp) hn,r.tok.imp fun x hx k hk'=>by rw [g1];exact hx k hk'⟩
 have h2':∀ i,(Ck id e).get 2 i≠.any->i≠id/\e.get 2 i≠.any/\(Ck id e).get 2 i=e.get 2 i:=fun i h=>by
  rw [g2] at h ⊢
  split at h
  ·exact absurd rfl h
  ·rename_i hc;rw [if_neg hc];exact ⟨hc,h,rfl⟩
 have hbn:∀ i,(Ck id e).get 2 i≠.any->G'.bk i≠G.bk id:=fun i h hh=>by
  obtain ⟨q1,q2,_⟩:=h2' i h
  rw [hbk] at hh
  exact q1 (R.mem.inj i id q2 hid hh)
 refine ⟨G',hvis,hH,hdm,?_,hbn,fun k hk=>(R.tks k _ (hle k _ hk)).2.2.2.2 id hid rfl,lift⟩
 refine ⟨⟨fun i k hk=>?_,fun i hi=>?_,fun i i' h1 h2 hh=>?_⟩,R.size,by rw [hdm];exact R.defers,fun D hD=>by rw [hdm] at hD;rw [hH];exact R.marks D hD,fun t=>?_,fun k b hb=>?_,fun k k' b h1 h2=>R.tinj k k' b (hle _ _ h1) (hle _ _ h2),fun k b hb=>?_,
  fun b hb=>by rw [hvis];exact R.fresh b hb,fun b hb=>by rw [hvis];exact R.old b hb,R.base,fun i hi=>?_,fun b hb=>by rw [hH] at hb;exact R.hlt b hb,fun b hb=>by rw [hH];exact R.fzh b hb,?_,fun i k hfi h1 h2=>?_⟩
 ·obtain ⟨q1,q2,q3⟩:=g0 (i+3) k (by omega) (by omega) hk
  rw [q1] at hk ⊢
  obtain ⟨c1,c2,u,c3,c4⟩:=R.mem.cells i k hk
  refine ⟨by rw [g2,if_neg (by omega)];exact c1,c2,u,by rw [hbk];exact c3,lift _ _ c4 q2⟩
 ·obtain ⟨q1,q2,q3⟩:=h2' i hi
  obtain ⟨c1,c2,c3⟩:=R.mem.box i q2
  rw [q3,hbk,hH]
  refine ⟨c1,c2,c3.stay (fun b=>by rw [hvis];exact Nat.le_refl _) (.refl _ _) rfl (by rw [hvis]) fun j bb hb=>⟨?_,rfl,by rw [hvis]⟩⟩
  rw [hts _ _ (fun hh=>q1 (R.mem.inj i id q2 hid hh))]
  exact hb
 ·obtain ⟨q1,q2,_⟩:=h2' i h1
  obtain ⟨q3,q4,_⟩:=h2' i' h2
  rw [hbk] at hh
  exact R.mem.inj i i' q2 q4 hh
 ·by_cases h:(Ck id e).get 0 t=.any
  ·rw [h];exact VOK.any _
  ·obtain ⟨q1,q2,_⟩:=g0 0 t (by omega) (by omega) h
   rw [q1]
   exact lift _ _ (R.slots t) q2
 ·obtain ⟨c1,c2,c3,c4,c5⟩:=R.tks k b (hle _ _ hb)
  exact ⟨c1,c2,by rw [hH];exact c3,c4,fun i hi=>by rw [hbk];exact c5 i (h2' i hi).2.1⟩
 ·cases k with
  |o k=>
   have:=R.tlive _ b (hle _ _ hb)
   show (Ck id e).get 1 k≠.any
   rw [g1];exact this
  |s b' j=>
   have hne:b'≠G.bk id:=fun hh=>by rw [hh,htn] at hb;cases hb
   obtain ⟨i,c1,c2⟩:=R.tlive _ b (hle _ _ hb)
   refine ⟨i,?_,by rw [hbk];exact c2⟩
   rw [g2,if_neg (fun hh=>hne (by rw [<-c2,hh]))]
   exact c1
 ·have:=R.ownb i (h2' i hi).2.1
  rw [hbk];exact this
 ·rw [hvis,hH]
  have:trN ((Ck id e).get 0 BIG)=trN (e.get 0 BIG):=by
   rw [Pz]
   split
   ·rename_i hc
    rcases hc with hc|hc|hc
    ·omega
    ·omega
    ·obtain ⟨_,_,hm⟩:=hc
     cases hx:e.get 0 BIG with
     |tr p=>rw [hx] at hm;simp [Ai] at hm
     |_=>rfl
   ·rfl
  rw [this];exact R.jj
 ·have hi:(Ck id e).get 2 i≠.any:=by rw [h1];exact Bh
  obtain ⟨q1,q2,q3⟩:=h2' i hi
  rw [q3] at h1
  rw [hbk]
  refine R.far i k hfi h1 ?_
  rw [Pz,if_neg] at h2
  ·exact h2
  ·have:=Agi hff (i+3) k (by omega)
   rintro (hc|hc|hc)
   ·omega
   ·omega
   ·exact this hc.2.2
end
section
variable {P:Program} {Y:TypeId->Ty} {Gl:World->Prop} {X:Cx} {nt:Nat} {ds:List Deferred} {e:Env} {a:Act} {w:World} {G:Gh} {O:Nat->Prop} {Q:Exit->Act->World->Prop} {rd:Option Nat} {fu:Nat} {yd:Yd}
theorem Qa:∀ {ps:List Prop} {q:Prop},Km ps q->(∀ p∈ps,p)/\q
 | [],_,h=>⟨fun _ h=>(by cases h),h⟩
 |p::ps,q,h=>by
  obtain ⟨h1,h2⟩:=Qa (ps:=ps) h.2
  exact ⟨fun p' hp=>by cases hp with|head=>exact h.1|tail _ hp=>exact h1 p' hp,h2⟩
theorem Acd:∀ {ps:List Prop} {q:Prop},Uv ps q->(∀ p∈ps,p)->q
 | [],_,h,_=>h
 |_::_,_,h,hp=>Acd (h (hp _ List.mem_cons_self)) fun p' h'=>hp p' (List.mem_cons_of_mem _ h')
theorem Ic:∀ {ps:List Prop},Lw ps->∀ p∈ps,p
 | [],_,_,h=>(by cases h)
 | [p],h,_,hp=>by cases hp with|head=>exact h|tail _ hp=>cases hp
 |p::q::ps,h,p',hp=>by
  cases hp with
  |head=>exact h.1
  |tail _ hp=>exact Ic h.2 p' hp
theorem Aos (R:Rel Y X nt ds e a w G) {ops:Array Oper} {j d:Nat} {want g:Bool} (hf:d<FAR) (hd:(ops.toList[j]?).bind (·.dst)=some d) (h:Ab2 (e.get 0 d) want=some g):
  (yielded ops a.tmps j==some want)=g:=by
 have hd':(ops[j]?).bind (·.dst)=some d:=by rw [<-Array.getElem?_toList];exact hd
 have hs:=R.slots d
 unfold Dg at hs
 rw [if_pos hf] at hs
 have key:∀ b,a.tmps.getD d undef=.bool b->yielded ops a.tmps j=some b:=by
  intro b hb
  unfold yielded
  rw [hd']
  simp only [Option.bind_some]
  cases ht:a.tmps[d]? with
  |none=>simp [Array.getD_eq_getD_getElem?,ht,undef] at hb
  |some v=>simp [Array.getD_eq_getD_getElem?,ht] at hb;subst hb;rfl
 have hu:a.tmps.getD d undef=undef->yielded ops a.tmps j=none:=by
  intro hb
  unfold yielded
  rw [hd']
  simp only [Option.bind_some]
  cases ht:a.tmps[d]? with
  |none=>rfl
  |some v=>simp [Array.getD_eq_getD_getElem?,ht] at hb;subst hb;rfl
 unfold Ab2 at h
 split at h
 ·rename_i g' b hx
  simp only [Option.some.injEq] at h
  rw [hx] at hs
  have hr:=hs.rel
  simp only [Aa] at hr
  cases g' with
  |true=>
   have h1:a.tmps.getD d undef=.bool b:=Mc (hr.1 rfl)
   rw [key b h1,<-h]
   cases b<;>cases want<;>rfl
  |false=>
   rw [hu (hr.2 rfl),<-h]
   rfl
 ·rename_i b hx
  simp only [Option.some.injEq] at h
  rw [hx] at hs
  rw [key b (Bs hs),<-h]
  cases b<;>cases want<;>rfl
 ·cases h
theorem Agj {d:Nat} (h:Fb nt (some d)=true):d<nt/\d<FAR:=by
 obtain ⟨h1,h2⟩:=and_true h
 exact ⟨Bg h1,Bg h2⟩
theorem Rel.putD (R:Rel Y X nt ds e a w G) {dst:Option Tmp} (hd:Fb nt dst=true) {x:T} {v:Value} (hx:VOK G w X.fz Y e x v):Rel Y X nt ds (Vc.put dst x []++e) (a.put dst v) w G:=by
 cases dst with
 |none=>exact R
 |some d=>exact R.put (Agj hd).1 (Agj hd).2 hx
theorem Kz (dst:Option Tmp) (x:T) (wr:Env):Vc.put dst x wr++e=Vc.put dst x []++(wr++e):=by cases dst<;>rfl
theorem Ace {g:Bool} {ps:List Prop} (h:∀ p∈Ly (some g) ps,p) (hg:g=true):∀ p∈ps,p:=fun p hp=>h (g=true->p) (List.mem_map.2 ⟨p,hp,rfl⟩) hg
theorem Acf (S:Set P Y Gl) (U:Sur P Gl X yd) (R:Rel Y X nt ds e a w G) {ops:Array Oper} {i:Nat} {o:Oper} (hi:ops[i]?=some o) {orc:Orc} {x:Option Bool×Done} {rk:List (Nat×Nat)}
  (h:(Pb (Computes P Gl) (Does P Y Gl) Y yd ops o orc).run e.get []=some (x,rk)):
  (∀ vc hyp wr o',Da nt o.dst x=.go vc hyp wr o'->(∀ p∈vc,p)->∀ (K:Act->World->Prop),(∀ a' w',(∀ p∈hyp,p)->Cf Y X nt ds (wr++e) a' w'->K a' w')->wpOpIn (Fr rd) fu P ops Q i K a w)/\
  (∀ vc v wr o',Da nt o.dst x=.pan vc v wr o'->(∀ p∈vc,p)->(∀ a' w',Cf Y X nt ds (wr++e) a' w'->Q (.panic [{ v,recovered:=false }]) a' w')->∀ (K:Act->World->Prop),wpOpIn (Fr rd) fu P ops Q i K a w):=by
 obtain ⟨g,d⟩:=x
 unfold wpOpIn
 simp only [hi]
 cases hgd:o.guard with
 |none=>
  unfold Pb at h
  rw [hgd] at h
  obtain ⟨d',r1,h1,h2⟩:=Ag h
  simp only [M.run,Option.some.injEq,Prod.mk.injEq] at h2
  obtain ⟨⟨rfl,rfl⟩,_⟩:=h2
  have hw:Region.wanted o (yielded ops a.tmps)=true:=by simp [Region.wanted,hgd]
  simp only [hw,if_true]
  cases d' with
  |go vc hyp val wr o1=>
   refine ⟨fun vc' hyp' wr' o' hd hvc K hK=>?_,fun vc' v wr' o' hd=>?_⟩
   ·simp only [Da,Fh,Bool.true_and] at hd
    cases hdst:Fb nt o.dst with
    |false=>rw [hdst] at hd;cases hd
    |true=>
     rw [hdst] at hd
     simp only [cond_true,Ly,Kr,Fin'.go.injEq] at hd
     obtain ⟨rfl,rfl,rfl,rfl⟩:=hd
     refine Nz S U R h1 hvc (fun vc2 hyp2 val2 wr2 o2 he v w' G' hh R' hv=>?_) (fun _ _ _ _ he=>by cases he)
     simp only [Done.go.injEq] at he
     obtain ⟨rfl,rfl,rfl,rfl,rfl⟩:=he
     refine hK _ _ hh ⟨G',?_⟩
     rw [Kz]
     exact R'.putD hdst hv
   ·simp only [Da] at hd
    cases hc:(Fh none wr&&Fb nt o.dst)<;>rw [hc] at hd<;>cases hd
  |pan vc v wr o1=>
   refine ⟨fun vc' hyp' wr' o' hd=>(by cases hd),fun vc' v' wr' o' hd hvc hP K=>?_⟩
   simp only [Da,Fin'.pan.injEq] at hd
   obtain ⟨rfl,rfl,rfl,rfl⟩:=hd
   refine Nz S U R h1 hvc (fun _ _ _ _ _ he=>by cases he) (fun vc2 v2 wr2 o2 he w' G' R'=>?_)
   simp only [Done.pan.injEq] at he
   obtain ⟨rfl,rfl,rfl,rfl⟩:=he
   exact hP _ _ ⟨G',R'⟩
 |some jw=>
  obtain ⟨j,want⟩:=jw
  unfold Pb at h
  rw [hgd] at h
  dsimp only at h
  split at h
  ·rename_i dd hdd
   replace h:=Ak h
   obtain ⟨hfar,h⟩:=h
   simp only [M.run] at h
   split at h
   ·rename_i gb hgb
    have hw:Region.wanted o (yielded ops a.tmps)=gb:=by
     simp only [Region.wanted,hgd]
     exact Aos R (Bg hfar) hdd hgb
    split at h
    ·rename_i t o'
     cases ht:Kq t o.dst with
     |true=>
      rw [ht] at h
      simp only [cond_true] at h
      obtain ⟨d',r1,h1,h2⟩:=Ag h
      simp only [M.run,Option.some.injEq,Prod.mk.injEq] at h2
      obtain ⟨⟨rfl,rfl⟩,_⟩:=h2
      cases d' with
      |go vc hyp val wr o1=>
       refine ⟨fun vc' hyp' wr' o' hd hvc K hK=>?_,fun vc' v wr' o' hd=>?_⟩
       ·simp only [Vs,Da,Fh,Bool.true_and] at hd
        cases hdst:Fb nt o.dst with
        |false=>rw [hdst] at hd;cases hd
        |true=>
         rw [hdst] at hd
         simp only [cond_true,Ly,Kr,Fin'.go.injEq] at hd
         obtain ⟨rfl,rfl,rfl,rfl⟩:=hd
         have hg:gb=true:=hvc _ List.mem_cons_self
         simp only [hw,hg,if_true]
         refine Nz S U R h1 (fun p hp=>hvc p (List.mem_cons_of_mem _ hp)) (fun vc2 hyp2 val2 wr2 o2 he v w' G' hh R' hv=>?_) (fun _ _ _ _ he=>by cases he)
         simp only [Done.go.injEq] at he
         obtain ⟨rfl,rfl,rfl,rfl,rfl⟩:=he
         refine hK _ _ hh ⟨G',?_⟩
         rw [Kz]
         exact R'.putD hdst hv
       ·simp only [Vs,Da] at hd
        cases hc:(Fh none wr&&Fb nt o.dst)<;>rw [hc] at hd<;>cases hd
      |pan vc v wr o1=>
       refine ⟨fun vc' hyp' wr' o' hd=>(by cases hd),fun vc' v' wr' o' hd hvc hP K=>?_⟩
       simp only [Vs,Da,Fin'.pan.injEq] at hd
       obtain ⟨rfl,rfl,rfl,rfl⟩:=hd
       have hg:gb=true:=hvc _ List.mem_cons_self
       simp only [hw,hg,if_true]
       refine Nz S U R h1 (fun p hp=>hvc p (List.mem_cons_of_mem _ hp)) (fun _ _ _ _ _ he=>by cases he) (fun vc2 v2 wr2 o2 he w' G' R'=>?_)
       simp only [Done.pan.injEq] at he
       obtain ⟨rfl,rfl,rfl,rfl⟩:=he
       exact hP _ _ ⟨G',R'⟩
     |false=>
      rw [ht] at h
      simp only [cond_false] at h
      obtain ⟨d',r1,h1,h2⟩:=Ag h
      simp only [M.run,Option.some.injEq,Prod.mk.injEq] at h2
      obtain ⟨⟨rfl,rfl⟩,_⟩:=h2
      cases d' with
      |pan vc v wr o1=>exact ⟨fun _ _ _ _ hd=>(by cases hd),fun _ _ _ _ hd=>(by cases hd)⟩
      |go vc hyp val wr o1=>
       refine ⟨fun vc' hyp' wr' o' hd hvc K hK=>?_,fun _ _ _ _ hd=>?_⟩
       ·simp only [Da] at hd
        cases hdst:Fb nt o.dst with
        |false=>rw [hdst,Bool.and_false] at hd;cases hd
        |true=>
         rw [hdst,Bool.and_true] at hd
         cases wr with
         |cons p l=>cases hd
         |nil=>
          simp only [Fh,cond_true,Kr,Fin'.go.injEq] at hd
          obtain ⟨rfl,rfl,rfl,rfl⟩:=hd
          cases gb with
          |true=>
           simp only [hw,if_true]
           refine Nz S U R h1 (Ace hvc rfl) (fun vc2 hyp2 val2 wr2 o2 he v w' G' hh R' hv=>?_) (fun _ _ _ _ he=>by cases he)
           simp only [Done.go.injEq] at he
           obtain ⟨rfl,rfl,rfl,rfl,rfl⟩:=he
           refine hK _ _ (fun p hp=>by obtain ⟨q,hq,rfl⟩:=List.mem_map.1 hp;exact fun _=>hh q hq) ⟨G',?_⟩
           rw [Kz]
           exact R'.putD hdst (VOK.may (g:=true) (fun _=>hv) (fun h=>absurd h (by decide)))
          |false=>
           simp only [hw,Bool.false_eq_true,if_false]
           refine ⟨fun _ _=>trivial,hK _ _ (fun p hp=>by obtain ⟨q,hq,rfl⟩:=List.mem_map.1 hp;exact fun h=>absurd h (by decide)) ⟨G,?_⟩⟩
           rw [Kz]
           exact R.putD hdst (VOK.may (g:=false) (fun h=>absurd h (by decide)) (fun _=>rfl))
       ·simp only [Da] at hd
        cases hc:(Fh (some gb) wr&&Fb nt o.dst)<;>rw [hc] at hd<;>cases hd
    ·rename_i t o'
     cases ht:Kq t o.dst with
     |true=>
      rw [ht] at h
      simp only [cond_true,M.run,Option.some.injEq,Prod.mk.injEq] at h
      obtain ⟨⟨rfl,rfl⟩,_⟩:=h
      refine ⟨fun vc' hyp' wr' o' hd hvc K hK=>?_,fun vc' v wr' o' hd=>?_⟩
      ·simp only [Da,Fh,Bool.true_and] at hd
       cases hdst:Fb nt o.dst with
       |false=>rw [hdst] at hd;cases hd
       |true=>
        rw [hdst] at hd
        simp only [cond_true,Ly,Kr,Fin'.go.injEq] at hd
        obtain ⟨rfl,rfl,rfl,rfl⟩:=hd
        have hg:gb=false:=hvc _ List.mem_cons_self
        simp only [hw,hg,Bool.false_eq_true,if_false]
        refine ⟨fun _ _=>trivial,hK _ _ (fun p hp=>nomatch hp) ⟨G,?_⟩⟩
        rw [Kz]
        exact R.putD hdst (VOK.may (g:=false) (fun h=>absurd h (by decide)) (fun _=>rfl))
      ·simp only [Da] at hd
       cases hc:(Fh none ([]:Env)&&Fb nt o.dst)<;>rw [hc] at hd<;>cases hd
     |false=>
      rw [ht] at h
      simp only [cond_false] at h
      obtain ⟨d',r1,h1,h2⟩:=Ag h
      simp only [M.run,Option.some.injEq,Prod.mk.injEq] at h2
      obtain ⟨⟨rfl,rfl⟩,_⟩:=h2
      cases d' with
      |pan vc v wr o1=>exact ⟨fun _ _ _ _ hd=>(by cases hd),fun _ _ _ _ hd=>(by cases hd)⟩
      |go vc hyp val wr o1=>
       refine ⟨fun vc' hyp' wr' o' hd hvc K hK=>?_,fun _ _ _ _ hd=>?_⟩
       ·simp only [Da] at hd
        cases hdst:Fb nt o.dst with
        |false=>rw [hdst,Bool.and_false] at hd;cases hd
        |true=>
         rw [hdst,Bool.and_true] at hd
         cases wr with
         |cons p l=>cases hd
         |nil=>
          simp only [Fh,cond_true,Kr,Fin'.go.injEq] at hd
          obtain ⟨rfl,rfl,rfl,rfl⟩:=hd
          cases gb with
          |true=>
           simp only [hw,if_true]
           refine Nz S U R h1 (Ace hvc rfl) (fun vc2 hyp2 val2 wr2 o2 he v w' G' hh R' hv=>?_) (fun _ _ _ _ he=>by cases he)
           simp only [Done.go.injEq] at he
           obtain ⟨rfl,rfl,rfl,rfl,rfl⟩:=he
           refine hK _ _ (fun p hp=>by obtain ⟨q,hq,rfl⟩:=List.mem_map.1 hp;exact fun _=>hh q hq) ⟨G',?_⟩
           rw [Kz]
           exact R'.putD hdst (VOK.may (g:=true) (fun _=>hv) (fun h=>absurd h (by decide)))
          |false=>
           simp only [hw,Bool.false_eq_true,if_false]
           refine ⟨fun _ _=>trivial,hK _ _ (fun p hp=>by obtain ⟨q,hq,rfl⟩:=List.mem_map.1 hp;exact fun h=>absurd h (by decide)) ⟨G,?_⟩⟩
           rw [Kz]
           exact R.putD hdst (VOK.may (g:=false) (fun h=>absurd h (by decide)) (fun _=>rfl))
       ·simp only [Da] at hd
        cases hc:(Fh (some gb) wr&&Fb nt o.dst)<;>rw [hc] at hd<;>cases hd
    ·obtain ⟨d',r1,h1,h2⟩:=Ag h
     simp only [M.run,Option.some.injEq,Prod.mk.injEq] at h2
     obtain ⟨⟨rfl,rfl⟩,_⟩:=h2
     cases d' with
     |pan vc v wr o1=>exact ⟨fun _ _ _ _ hd=>(by cases hd),fun _ _ _ _ hd=>(by cases hd)⟩
     |go vc hyp val wr o1=>
      refine ⟨fun vc' hyp' wr' o' hd hvc K hK=>?_,fun _ _ _ _ hd=>?_⟩
      ·simp only [Da] at hd
       cases hdst:Fb nt o.dst with
       |false=>rw [hdst,Bool.and_false] at hd;cases hd
       |true=>
        rw [hdst,Bool.and_true] at hd
        cases wr with
        |cons p l=>cases hd
        |nil=>
         simp only [Fh,cond_true,Kr,Fin'.go.injEq] at hd
         obtain ⟨rfl,rfl,rfl,rfl⟩:=hd
         cases gb with
         |true=>
          simp only [hw,if_true]
          refine Nz S U R h1 (Ace hvc rfl) (fun vc2 hyp2 val2 wr2 o2 he v w' G' hh R' hv=>?_) (fun _ _ _ _ he=>by cases he)
          simp only [Done.go.injEq] at he
          obtain ⟨rfl,rfl,rfl,rfl,rfl⟩:=he
          refine hK _ _ (fun p hp=>by obtain ⟨q,hq,rfl⟩:=List.mem_map.1 hp;exact fun _=>hh q hq) ⟨G',?_⟩
          rw [Kz]
          exact R'.putD hdst (VOK.may (g:=true) (fun _=>hv) (fun h=>absurd h (by decide)))
         |false=>
          simp only [hw,Bool.false_eq_true,if_false]
          refine ⟨fun _ _=>trivial,hK _ _ (fun p hp=>by obtain ⟨q,hq,rfl⟩:=List.mem_map.1 hp;exact fun h=>absurd h (by decide)) ⟨G,?_⟩⟩
          rw [Kz]
          exact R.putD hdst (VOK.may (g:=false) (fun h=>absurd h (by decide)) (fun _=>rfl))
      ·simp only [Da] at hd
       cases hc:(Fh (some gb) wr&&Fb nt o.dst)<;>rw [hc] at hd<;>cases hd
   ·exact (Ac h).elim
  ·exact (Ac h).elim
theorem valD_cases (b:Bool) (y:Option Bool×Done):(∃ vc hyp z wr o,y=(none,.go vc hyp (.d (.c (.v (.bool z)))) wr o)/\Vt b y=(none,.go ((z=b)::vc) hyp (.d (.c (.v (.bool b)))) wr o))∨Vt b y=y:=by
 unfold Vt
 split
 ·exact .inl ⟨_,_,_,_,_,rfl,rfl⟩
 ·exact .inr rfl
theorem Xo (S:Set P Y Gl) (U:Sur P Gl X yd) (R:Rel Y X nt ds e a w G) {ops:Array Oper} {i:Nat} {o:Oper} (hi:ops[i]?=some o) {orc:Orc} {x:Option Bool×Done} {rk:List (Nat×Nat)}
  (h:(Lx (Computes P Gl) (Does P Y Gl) Y yd ops o orc).run e.get []=some (x,rk)):
  (∀ vc hyp wr o',Da nt o.dst x=.go vc hyp wr o'->(∀ p∈vc,p)->∀ (K:Act->World->Prop),(∀ a' w',(∀ p∈hyp,p)->Cf Y X nt ds (wr++e) a' w'->K a' w')->wpOpIn (Fr rd) fu P ops Q i K a w)/\
  (∀ vc v wr o',Da nt o.dst x=.pan vc v wr o'->(∀ p∈vc,p)->(∀ a' w',Cf Y X nt ds (wr++e) a' w'->Q (.panic [{ v,recovered:=false }]) a' w')->∀ (K:Act->World->Prop),wpOpIn (Fr rd) fu P ops Q i K a w):=by
 unfold Lx at h
 split at h
 ·rename_i t b o'
  cases ht:Kq t o.dst with
  |false=>
   rw [ht] at h
   exact Acf S U R hi h
  |true=>
   rw [ht] at h
   simp only [cond_true] at h
   obtain ⟨y,r1,h1,h2⟩:=Ag h
   simp only [M.run,Option.some.injEq,Prod.mk.injEq] at h2
   obtain ⟨rfl,_⟩:=h2
   have S0:=Acf (Q:=Q) (rd:=rd) (fu:=fu) S U R hi h1
   rcases valD_cases b y with ⟨vc,hyp,z,wr,o2,rfl,hv⟩|hv
   ·rw [hv]
    refine ⟨fun vc' hyp' wr' o3 hd hvc K hK=>?_,fun vc' v wr' o3 hd=>?_⟩
    ·simp only [Da,Fh,Bool.true_and] at hd
     cases hdst:Fb nt o.dst with
     |false=>rw [hdst] at hd;cases hd
     |true=>
      rw [hdst] at hd
      simp only [cond_true,Ly,Kr,Fin'.go.injEq] at hd
      obtain ⟨rfl,rfl,rfl,rfl⟩:=hd
      have hz:z=b:=hvc _ List.mem_cons_self
      subst hz
      refine S0.1 vc hyp _ o2 ?_ (fun p hp=>hvc p (List.mem_cons_of_mem _ hp)) K hK
      simp only [Da,Fh,Bool.true_and,hdst,cond_true,Ly,Kr]
    ·simp only [Da] at hd
     cases hc:(Fh none wr&&Fb nt o.dst)<;>rw [hc] at hd<;>cases hd
   ·rw [hv]
    exact S0
 ·exact Acf S U R hi h
theorem Aot {o:Oper} {orc:Orc} {it:Nat} {f:List Int->Orc} {oz:Orc} (h:Ab3 o orc=some (it,f,oz)):o.op=.next (.tmp it) false/\o.guard=none:=by
 unfold Ab3 at h
 split at h
 ·split at h
  ·rename_i h1 h2
   simp only [Option.some.injEq,Prod.mk.injEq] at h
   obtain ⟨rfl,_⟩:=h
   exact ⟨h1,h2⟩
  ·cases h
 ·cases h
theorem Aou (R:Rel Y X nt ds e a w G) {ops:Array Oper} {i:Nat} {o:Oper} (hi:ops[i]?=some o) {it:Nat} {f:List Int->Orc} {oz:Orc} (hop:o.op=.next (.tmp it) false) (hg:o.guard=none)
  {k:Orc->Env->Prop} (h:Ab4 nt o.dst it f oz e k) (K:Act->World->Prop) (hK:∀ orc e a w,k orc e->Cf Y X nt ds e a w->K a w):wpOpIn (Fr rd) fu P ops Q i K a w:=by
 unfold Ab4 at h
 split at h
 case h_2=>exact h.elim
 rename_i d id hdst hev
 split at h
 case h_2=>exact h.elim
 rename_i kn ag dom val hh cur hobj
 cases hb:(Nat.blt d nt&&Nat.blt d FAR) with
 |false=>rw [hb] at h;exact h.elim
 |true=>
 rw [hb] at h
 obtain ⟨h1,h2⟩:=h
 obtain ⟨hd1,hd2⟩:=and_true hb
 have hev':a.eval (.tmp it)=.pointer (some ⟨G.bk id,0,none⟩):=by
  replace hev:(bif Nat.blt it FAR then e.get 0 it else .any)=.it id:=hev
  cases hf:Nat.blt it FAR with
  |false=>rw [hf] at hev;cases hev
  |true=>
   rw [hf] at hev
   simp only [cond_true] at hev
   have hs:=R.slots it
   unfold Dg at hs
   rw [if_pos (Bg hf),hev] at hs
   have:=hs.rel
   simp only [Aa] at this
   exact this
 have hid:e.get 2 id≠.any:=by rw [hobj];simp
 have hobj':=(R.mem.box id hid).2.2
 have hlt:=(R.mem.box id hid).2.1
 rw [hobj] at hobj'
 obtain ⟨q0,mb,es,cl,seen,c0,q1,q2,q3,q4,⟨q5,q6⟩,q7,q8,q9,_⟩:=hobj'
 have q5':=q5
 obtain ⟨hk1,hk2,hk3,hst1,hst2⟩:=q5'
 have hdef:∀ c,o.op≠.defer c:=fun c hc=>by rw [hop] at hc;cases hc
 unfold wpOpIn
 rw [hi]
 dsimp only
 rw [if_pos (by simp [Region.wanted,hg])]
 refine ⟨fun _ _=>trivial,?_⟩
 rcases run_next_at (P:=P) w o.type (G.bk id) mb cl c0 seen es cl q1 q4 hst1 q2 with ⟨h0,hrun⟩|⟨en,he,w1,hal,hrun⟩
 ·have hr:(execOp a.eval o).run P w=.ok (.value (.tuple #[.bool false])) w:=by simp [execOp,hop,hev',hrun]
  rw [Oper.semAt_eq _ _ _ hdef,hr]
  refine hK oz _ _ _ (h2 ⟨q8,fun x=>⟨q7 x,fun hx=>?_⟩⟩) ⟨G,?_⟩
  ·obtain ⟨j,e',hj,hk⟩:=hk2 x hx
   have hem:e'∈es.toList:=List.mem_of_getElem? (by rw [Array.getElem?_toList];exact hj)
   refine (q9 e' hem x hk).1 ?_
   cases hc:seen.contains e'.born with
   |true=>rfl
   |false=>
    have hl:e'∈(leftOf es seen).toList:=by unfold leftOf;simp only [Array.toList_filter,List.mem_filter];exact ⟨hem,by rw [hc];rfl⟩
    rw [Array.eq_empty_of_size_eq_zero h0] at hl
    cases hl
  ·rw [hdst]
   exact R.put (Bg hd1) (Bg hd2) (.plain (by simp only [Aa];exact ⟨_,rfl,rfl,fun j x u hj hu=>by
    match j with
    |0=>simp at hj hu;subst hj;subst hu;exact Rep.v _ rfl
    |j+1=>simp at hj⟩) rfl rfl trivial)
 ·have he':en∈es.toList/\seen.contains en.born=false:=by
   unfold leftOf at he
   simp only [Array.toList_filter,List.mem_filter] at he
   exact ⟨he.1,by cases hc:seen.contains en.born with
    |false=>rfl
    |true=>rw [hc] at he;exact absurd he.2 (by decide)⟩
  obtain ⟨hem,hens⟩:=he'
  obtain ⟨ei,hei,hei2⟩:=List.mem_iff_getElem.1 hem
  have hei3:es[ei]?=some en:=by rw [<-Array.getElem?_toList,<-hei2];exact List.getElem?_eq_getElem hei
  obtain ⟨key,hek,hdk⟩:=hk1 ei en hei3
  have hkn:key ∉ hh:=fun hx=>by
   have:=(q9 en hem key hek).2 hx
   rw [hens] at this;cases this
  have R1:Rel Y X nt ds e a w1 G:=by
   rcases hal with rfl|rfl
   ·exact R
   ·exact R.drewR.1
  have hheap:w1.heap=w.heap:=by rcases hal with rfl|rfl<;>rfl
  have hr:(execOp a.eval o).run P w=.ok (.value (.tuple #[.bool true,en.key,en.val])) { w1 with heap:=w1.heap.setIfInBounds (G.bk id) (.mapIter (some mb) cl (seen.push en.born) cl) }:=by
   simp only [execOp,hop,hev',Sem.run_bind,hrun]
   rfl
  rw [Oper.semAt_eq _ _ _ hdef,hr]
  obtain ⟨R2,_⟩:=Se R1 hid q0 (ob:=.mapIter (some mb) cl seen c0) (ob':=.mapIter (some mb) cl (seen.push en.born) cl) (by rw [hheap];exact q1) (by simp) (fun _ _ _ hh=>(by cases hh)) (st:=.mitc kn ag dom val (hh++[key]) (some key)) (by simp) (by simp [live]) (by rw [hobj];simp [live])
   (fun hkv=>by
    refine ⟨q0,mb,es,cl,seen.push en.born,cl,?_,Nat.le_refl _,q3,hkv.map mb q3 es cl (by rw [hheap];exact q4),⟨q5,fun j e' k hj hk=>⟨(q6 j e' k hj hk).1,?_⟩⟩,fun x hx=>?_,?_,fun e' he' k' hk'=>?_,fun k hk=>?_⟩
    ·show (w1.heap.setIfInBounds (G.bk id) _)[G.bk id]?=_
     rw [Array.getElem?_setIfInBounds_self,if_pos (by rw [hheap];exact hlt)]
    ·have hc:=(q6 j e' k hj hk).2
     have hc1:Av G.vis w1 (val k) (Fx ag e'.val):=by
      rcases hal with rfl|rfl
      ·exact hc
      ·exact Av.mono' (fun _=>Nat.le_refl _) (show KeepV G.vis w w.drew from ⟨fun _ _ _=>rfl,fun _ _ _ _ h=>h,fun _ cs t z h=>⟨cs,t,z,h,Nat.le_refl _⟩⟩) hc
     exact hc1.mono' (fun _=>Nat.le_refl _) hkv
    ·rcases List.mem_append.1 hx with h3|h3
     ·exact q7 x h3
     ·rw [List.mem_singleton.1 h3];exact hdk
    ·rw [List.nodup_append]
     refine ⟨q8,by simp,fun x hx y hy=>?_⟩
     rw [List.mem_singleton.1 hy]
     exact fun hx'=>hkn (by rw [<-hx'];exact hx)
    ·rw [List.mem_append,List.mem_singleton]
     have hsp:(seen.push en.born).contains e'.born=(seen.contains e'.born||e'.born==en.born):=by
      rw [Bool.eq_iff_iff];simp [Array.contains_push]
     rw [hsp,Bool.or_eq_true,q9 e' he' k' hk',beq_iff_eq]
     refine or_congr Iff.rfl ⟨fun hb=>?_,fun hkk=>?_⟩
     ·have:e'=en:=born_inj hst2 he' hem hb
      rw [this,hek] at hk'
      exact (Option.some.inj hk').symm
     ·obtain ⟨j,hj,hj2⟩:=List.mem_iff_getElem.1 he'
      have hj3:es[j]?=some e':=by rw [<-Array.getElem?_toList,<-hj2];exact List.getElem?_eq_getElem hj
      have hij:=hk3 j ei e' en k' hj3 hei3 hk' (by rw [hek,hkk])
      subst hij
      rw [hei3] at hj3
      rw [Option.some.inj hj3]
    ·obtain rfl:=Option.some.inj hk
     exact ⟨en,hem,hek,rfl,seen,rfl⟩)
  refine hK (f key) _ _ _ (h1 key ⟨q7,q8,hdk,hkn⟩) ⟨G,?_⟩
  rw [hdst]
  refine R2.put (Bg hd1) (Bg hd2) (.plain ?_ rfl rfl trivial)
  simp only [Aa]
  have hkv:KeepV G.vis w1 { w1 with heap:=w1.heap.setIfInBounds (G.bk id) (.mapIter (some mb) cl (seen.push en.born) cl) }:=by
   have hne:∀ b,0<G.vis b->(w1.heap.setIfInBounds (G.bk id) (Obj.mapIter (some mb) cl (seen.push en.born) cl))[b]?=w1.heap[b]?:=fun b hb=>by
    rw [Array.getElem?_setIfInBounds_ne]
    intro hx;rw [<-hx] at hb;omega
   exact ⟨fun b i hi=>World.cell?_of_block (hne b (by omega)),fun b hb es c he=>by show (w1.heap.setIfInBounds _ _)[b]?=_;rw [hne b hb];exact he,fun b cs t z h=>⟨cs,t,z,(show (w1.heap.setIfInBounds (G.bk id) (Obj.mapIter (some mb) cl (seen.push en.born) cl))[b]?=_ by
    rw [Array.getElem?_setIfInBounds_ne]
    ·exact h
    ·intro hx;rw [<-hx,hheap,q1] at h;cases h),Nat.le_refl _⟩⟩
  have hc1:Av G.vis w1 (val key) (Fx ag en.val):=by
   have hc:=(q6 ei en key hei3 hek).2
   rcases hal with rfl|rfl
   ·exact hc
   ·exact Av.mono' (fun _=>Nat.le_refl _) (show KeepV G.vis w w.drew from ⟨fun _ _ _=>rfl,fun _ _ _ _ h=>h,fun _ cs t z h=>⟨cs,t,z,h,Nat.le_refl _⟩⟩) hc
  refine ⟨_,rfl,rfl,fun j x u hj hu=>?_⟩
  match j with
  |0=>simp at hj hu;subst hj;subst hu;exact Rep.v _ rfl
  |1=>simp at hj hu;subst hj;subst hu;exact Afp hek
  |2=>simp at hj hu;subst hj;subst hu;exact Afq (q6 ei en key hei3 hek).1 (hc1.mono' (fun _=>Nat.le_refl _) hkv)
  |j+3=>simp at hj
theorem Aov {b:Bool} {p:Prop} (h:ifB b p):b=true/\p:=by
 cases b with
 |true=>exact ⟨rfl,h⟩
 |false=>exact h.elim
theorem Aow {o:Oper} {orc o':Orc} {p q:Operand} {t:TypeId} (h:apOf o orc=some (p,q,t,o')):o.op=.call { callee:=.builtin .append,args:=#[p,q],argTypes:=#[t,t] }/\o.guard=none:=by
 unfold apOf at h
 split at h
 ·split at h
  ·rename_i args argTypes _ hop hg
   split at h
   ·rename_i p0 q0 t0 t1 ha ht
    cases hb:t0.beq t1 with
    |false=>rw [hb] at h;cases h
    |true=>
     rw [hb] at h
     simp only [cond_true,Option.some.injEq,Prod.mk.injEq] at h
     obtain ⟨rfl,rfl,rfl,_⟩:=h
     have:=Nat.eq_of_beq_eq_true hb
     subst this
     exact ⟨by rw [hop,Ib ha,Ib ht],hg⟩
   ·cases h
  ·cases h
 ·cases h
theorem Aox (R:Rel Y X nt ds e a w G) {q:Operand} {m:Nat} {g:Nat->List C} (h:(evX e q).elems?=some (m,g)):VOK G w X.fz Y e (evX e q) (a.eval q):=by
 cases q with
 |tmp t=>
  simp only [evX] at h ⊢
  cases hb:Nat.blt t FAR with
  |false=>rw [hb] at h;cases h
  |true=>
   have:=R.slots t
   unfold Dg at this
   rw [if_pos (Bg hb)] at this
   exact this
 |const v=>
  simp only [evX,T.elems?,C.elems?] at h ⊢
  split at h
  ·rename_i hh;cases hh
  ·rename_i hh;cases hh;exact VOK.v _ rfl
  ·cases h
 |func f=>cases h
 |global g=>cases h
theorem ap_ok (hY:YOK P Y) (R:Rel Y X nt ds e a w G) {ops:Array Oper} {i:Nat} {o:Oper} (hi:ops[i]?=some o) {p q:Operand} {t:TypeId} (hop:o.op=.call { callee:=.builtin .append,args:=#[p,q],argTypes:=#[t,t] }) (hg:o.guard=none)
  {k:Env->Prop} (h:apP Y nt o.dst p q t e k) (K:Act->World->Prop) (hK:∀ e a w,k e->Cf Y X nt ds e a w->K a w):wpOpIn (Fr rd) fu P ops Q i K a w:=by
 unfold apP at h
 split at h
 case h_2=>exact h.elim
 rename_i d el id n m g hdst hk hpx hqx
 split at h
 case h_2=>exact h.elim
 rename_i sz n' f hobj
 obtain ⟨hb,h⟩:=Aov h
 obtain ⟨hb,b9⟩:=and_true hb
 obtain ⟨hb,b8⟩:=and_true hb
 obtain ⟨hb,b7⟩:=and_true hb
 obtain ⟨hb,b6⟩:=and_true hb
 obtain ⟨hb,b5⟩:=and_true hb
 obtain ⟨hb,b4⟩:=and_true hb
 obtain ⟨hb,b3⟩:=and_true hb
 obtain ⟨b1,b2⟩:=and_true hb
 obtain ⟨c0,c1,c2,c3,hk'⟩:=h
 subst c0
 have b4:=Nat.eq_of_beq_eq_true b4
 have b6:=Nat.eq_of_beq_eq_true b6
 have b7:=Nat.eq_of_beq_eq_true b7
 subst b4
 have hdA:(Ck id e).get 2 d=.any:=by
  cases hx:(Ck id e).get 2 d with
  |any=>rfl
  |_=>rw [hx] at b9;cases b9
 have hid:e.get 2 id≠.any:=by rw [hobj];simp
 have hpv:VOK G w X.fz Y e (.arr id n) (a.eval p):=by
  cases p with
  |tmp t'=>
   simp only [evX] at hpx
   cases hf:Nat.blt t' FAR with
   |false=>rw [hf] at hpx;cases hpx
   |true=>
    rw [hf] at hpx
    have hs:=R.slots t'
    unfold Dg at hs
    rw [if_pos (Bg hf),show e.get 0 t'=.arr id n from hpx] at hs
    exact hs
  |const v=>cases hpx
  |func f=>cases hpx
  |global g=>cases hpx
 obtain ⟨s1,_⟩:=Abp R hobj hpv
 obtain ⟨xs,x1,x2,x3⟩:=s1
 obtain ⟨news,n1,n2,n3⟩:=Wr hqx (Aox R hqx) b7 Nat.one_pos
 rcases n3 with ⟨_,n3⟩|⟨sb,soff,scap,n3,n4⟩
 ·omega
 obtain ⟨⟨cs,ct,z,q1,hz,q2,q3⟩,q4,_,q6⟩:=Nq R hobj
 have hv0:=q6 rfl
 obtain ⟨G1,v1,v2,v3,R1,f1,f2,lift1⟩:=R.forget hid (Bg b3) b8
 obtain ⟨dd,i0,z0,h1,h2,h3,h4,h5,h6,h7,h8⟩:=hY t (by simp [Ty.known,hk])
 rw [hk] at h7
 simp only [KOK] at h7
 subst h7
 obtain ⟨dd,ie,ze,g1,g2,g3,g4,g5,g6,g7,g8⟩:=hY el b5
 have hzs:ze.cells.size=1:=by rw [<-b6,<-g8.2.1,<-g6,Array.length_toList]
 have hex:∀ {v w'},(Builtin.append_ #[t,t] o.type #[a.eval p,a.eval q]).run P w=.ok v w'->(execOp a.eval o).run P w=.ok (.value v) w':=fun {v w'} hr=>by
  simp [execOp,hop,resolve,invoke,builtin,hr]
 have hdef:∀ c,o.op≠.defer c:=fun c hc=>by rw [hop] at hc;cases hc
 have hcat:=x1.cat n1
 have hml:n+m<=maxLen:=by unfold maxLen;omega
 have hzl:(xs++news).length=n+m:=by rw [List.length_append,x1.1,n1.1];omega
 suffices hfin:∃ v w',(execOp a.eval o).run P w=.ok (.value v) w'/\∃ G',Rel Y X nt ds ((2,d,.arrc false 1 (n+m) (Ar n f g))::Ck id e) a w' G'/\VOK G' w' X.fz Y ((2,d,.arrc false 1 (n+m) (Ar n f g))::Ck id e) (.arr d (n+m)) v by
  obtain ⟨v,w',hr,G',R',hv⟩:=hfin
  unfold wpOpIn
  rw [hi]
  dsimp only
  rw [if_pos (by simp [Region.wanted,hg])]
  refine ⟨fun _ _=>trivial,?_⟩
  rw [Oper.semAt_eq _ _ _ hdef,hr]
  refine hK _ _ _ hk' ⟨G',?_⟩
  rw [hdst]
  exact R'.put (Bg b1) (Bg b2) hv
 have hused:∀ (s:T),s≠.any->Env.get ((2,d,s)::Ck id e) 2 d≠.any:=fun s hs=>by rw [Ap,if_pos ⟨rfl,rfl⟩];exact hs
 have fresh:∀ (cap:Nat) (cur:Array Value),(∀ (j:Nat) (u:Value),(xs++news)[j]?=some u->cur[j]?=some u)->cur.size=cap->n+m<=cap->cap<=maxLen->
   (Builtin.append_ #[t,t] o.type #[a.eval p,a.eval q]).run P w=.ok (.slice (some ⟨w.heap.size,0,none⟩) (n+m) cap) (w.drew.alloc (.cells cur el))->
   ∃ v w',(execOp a.eval o).run P w=.ok (.value v) w'/\∃ G',Rel Y X nt ds ((2,d,.arrc false 1 (n+m) (Ar n f g))::Ck id e) a w' G'/\VOK G' w' X.fz Y ((2,d,.arrc false 1 (n+m) (Ar n f g))::Ck id e) (.arr d (n+m)) v:=by
  intro cap cur hcur hcs hnc hcm hrun
  obtain ⟨R2,_⟩:=R1.drewR
  obtain ⟨G',w1,w2,R',lift,w3⟩:=Gt R2 hdA (Bg b2) (.cells cur el) (st:=.arrc false 1 (n+m) (Ar n f g)) (ce:=[]) (by simp) (fun t k h=>rfl)
   (fun G' hvv=>by
    refine ⟨⟨cur,el,_,heap_alloc_new w.drew _,.inl rfl,by omega,fun i hi=>⟨hcat.2.1 i hi,fun j c hj=>?_⟩⟩,Nat.one_pos,fun hh=>(by cases hh),fun _=>by rw [hvv,v1];exact R.fresh _ (Nat.le_refl _)⟩
    obtain ⟨u,h3,h4⟩:=hcat.2.2 i j c hi hj
    refine ⟨u,hcur _ _ h3,?_⟩
    rw [hvv,v1]
    exact h4.mono' (fun _=>Nat.le_refl _) (Wp R _))
   (fun G' lift k hk=>by
    rw [List.nil_append] at hk
    exact absurd (R1.mem.cells d k hk).1 (by rw [hdA];exact fun h=>Bh h.symm))
  refine ⟨_,_,hex hrun,G',R',VOK.ids_used (id:=d) ?_ trivial rfl rfl (hused _ (by simp))⟩
  simp only [Aa]
  exact .inr ⟨cap,by rw [w2];rfl,hnc,hcm,cur,el,_,by rw [w2];exact heap_alloc_new w.drew _,by omega⟩
 have hgr:∀ (cap:Nat),cap>=n+m->(xs.toArray++news.toArray++Builtin.zeroCells ze.cells (cap - (n+m))).size=cap:=fun cap hc=>by
  simp only [Array.size_append,List.size_toArray,size_zeroCells,hzs]
  rw [List.length_append] at hzl
  omega
 have hgt:∀ (zz:Array Value) (j:Nat) (u:Value),(xs++news)[j]?=some u->(xs.toArray++news.toArray++zz)[j]?=some u:=fun zz j u hj=>by
  have hlt:=(List.getElem?_eq_some_iff.1 hj).1
  rw [Array.getElem?_append_left (by simpa using hlt)]
  simpa using hj
 rcases x3 with ⟨⟨xb,x3⟩,x4⟩|⟨b,off,cap,x3,x5⟩
 ·-- nothing yet
  have hx0:xs=[]:=List.eq_nil_of_length_eq_zero (by rw [x1.1,x4,Nat.zero_mul])
  subst x4
  rcases xb with _|ba
  ·have hrun:=run_append_nil (P:=P) w t o.type el ie ze h1 g2 g5 ⟨sb,soff,none⟩ m scap news (by rw [g3,b6];exact n1.1) n4 (by omega) (by omega) (by rw [g4];rw [Nat.zero_add] at c2;omega)
   refine fresh (grownCap w m 0 el) (news.toArray++Builtin.zeroCells ze.cells (grownCap w m 0 el - m)) (fun j u hj=>?_) ?_ (by rw [Nat.zero_add];exact grownCap_ge w m 0 el) (grownCap_le_maxLen w m 0 el (by omega)) (by rw [x3,n3,hrun,Nat.zero_add])
   ·have:=hgt (Builtin.zeroCells ze.cells (grownCap w m 0 el - m)) j u hj
    rw [hx0] at this
    simpa using this
   ·have:=hgr (grownCap w m 0 el) (by have:=grownCap_ge w m 0 el;omega)
    rw [hx0,Nat.zero_add] at this
    simpa using this
  ·have hrun:=run_append_grow (P:=P) w t o.type el ie ze h1 g2 g5 ba 0 0 xs (by rw [hx0,Nat.zero_mul];rfl) (fun j v hj=>by rw [hx0] at hj;cases hj) ⟨sb,soff,none⟩ m scap news (by rw [g3,b6];exact n1.1) n4 (by omega) (by omega) (by rw [g4];exact growslice_fits (by omega) c2)
   exact fresh (grownCap w (0+m) 0 el) _ (hgt _) (hgr _ (grownCap_ge w (0+m) 0 el)) (grownCap_ge w (0+m) 0 el) (grownCap_le_maxLen w (0+m) 0 el hml) (by rw [x3,n3,hrun])
 ·rcases Nat.lt_or_ge cap (n+m) with hroom|hroom
  ·have hrun:=run_append_grow (P:=P) w t o.type el ie ze h1 g2 g5 ⟨b,off,none⟩ n cap xs (by rw [g3,b6];exact x1.1) (fun j v hj=>x5 j v hj) ⟨sb,soff,none⟩ m scap news (by rw [g3,b6];exact n1.1) n4 hroom (by omega) (by rw [g4];exact growslice_fits hroom c2)
   exact fresh (grownCap w (n+m) cap el) _ (hgt _) (hgr _ (grownCap_ge w (n+m) cap el)) (grownCap_ge w (n+m) cap el) (grownCap_le_maxLen w (n+m) cap el hml) (by rw [x3,n3,hrun])
  ·-- in the block that is there
   have hrel:=hpv.rel
   simp only [Aa] at hrel
   rcases hrel with ⟨_,hn0⟩|⟨cap',r1,r2,r3,cs',t',z',r4,r5⟩
   ·rw [x3] at hn0;cases hn0
   rw [x3] at r1
   simp only [Value.slice.injEq,Option.some.injEq,Addr.mk.injEq,true_and,and_true] at r1
   obtain ⟨⟨rfl,rfl,_⟩,rfl⟩:=r1
   rw [q1] at r4
   obtain ⟨rfl,rfl,rfl⟩:=Obj.cells.inj (Option.some.inj r4)
   have hnl:news.length=m:=by rw [n1.1,Nat.mul_one]
   have hxl:xs.length=n:=by rw [x1.1,Nat.mul_one]
   have hfit:n+0+news.length<=cs.size:=by omega
   have hf:=run_firstCells_some (P:=P) w ie.size m ⟨sb,soff,none⟩ m scap news (by rw [g3,b6];exact n1.1) n4
   have hst:=Wj P (G.bk id) n ct z news 0 cs w q1 hz hfit n2
   have hrc:=fun i=>Wk (k:=n) hfit i
   have hrs:=Wl (k:=n) hfit
   generalize hrow:(cs.toList.take (n+0)++news++cs.toList.drop (n+0+news.length)).toArray=row at hst hrc hrs
   have hsz1:n*ie.size=n:=by rw [g3,b6,Nat.mul_one]
   have hrun:(Builtin.append_ #[t,t] o.type #[a.eval p,a.eval q]).run P w=.ok (.slice (some ⟨G.bk id,0,none⟩) (n+m) cap) (w.setRow (G.bk id) row):=by
    rw [x3,n3]
    simp [Builtin.append_,run_underlying h1,sizeOf,typeInfo,g2,Builtin.lenOf,hroom,hf,hsz1,Addr.add_lit,hst]
   obtain ⟨hb1,hb2,hb3⟩:=R.mem.box id hid
   have hoth:∀ b,b≠G.bk id->(w.setRow (G.bk id) row).heap[b]?=w.heap[b]?:=fun b h=>setRow_other w _ b _ h
   have hkeep:KeepV G.vis w (w.setRow (G.bk id) row):=by
    refine ⟨fun b i hi=>Sb _ _ _ _ fun hh=>?_,fun b hi es c he=>?_,Ry (cs0:=row) (t0:=ct) (z0:=z) hoth fun cs t z h=>?_⟩
    ·rw [hh,hv0] at hi;omega
    ·rw [hoth b fun hh=>by rw [hh,hv0] at hi;omega];exact he
    ·rw [q1] at h
     obtain ⟨rfl,rfl,rfl⟩:=Obj.cells.inj (Option.some.inj h)
     exact ⟨setRow_heap w _ _ _ _ _ q1,by omega⟩
   have R2:=R1.stay (w':=w.setRow (G.bk id) row) ⟨rfl,rfl,rfl,by simp⟩ (by rw [v1];exact hkeep) (fun b hb=>hoth b fun hh=>by
    subst hh
    rcases hb with (⟨i,c1,c2⟩|⟨kk,c1⟩)|hb|hb
    ·exact f1 i c1 c2
    ·exact f2 kk c1
    ·rw [v2] at hb;exact hb1 hb
    ·rw [v3] at hb
     have:=(R.marks _ hb).2.1
     rw [q1] at this;cases this)
   obtain ⟨G3,w1,w2,R3,_⟩:=R2.adopt (d:=d) (b:=G.bk id) hdA (Bg b2) ((R.ownb id hid).1 (Bg b3)) (by simpa using hb2) (by rw [v2];exact hb1) f1 f2 (st:=.arrc false 1 (n+m) (Ar n f g)) (by simp) (fun G' hvv=>by
    refine ⟨⟨row,ct,z,setRow_heap w _ _ _ _ _ q1,by unfold Kv at hz ⊢;rw [hrs];exact hz,by omega,fun i hi=>⟨hcat.2.1 i hi,fun j c hj=>?_⟩⟩,Nat.one_pos,fun hh=>(by cases hh),fun _=>by rw [hvv,v1];exact hv0⟩
    obtain ⟨u,h3,h4⟩:=hcat.2.2 i j c hi hj
    refine ⟨u,?_,by rw [hvv,v1];exact h4.mono' (fun _=>Nat.le_refl _) hkeep⟩
    rw [hrc]
    by_cases hlt:i*1+j<n
    ·rw [if_neg (by omega)]
     rw [List.getElem?_append_left (by omega)] at h3
     have:=x5 _ _ h3
     rw [Gr,Nat.zero_add] at this
     simpa [World.cell?,q1] using this
    ·rw [List.getElem?_append_right (by omega),hxl] at h3
     have:=(List.getElem?_eq_some_iff.1 h3).1
     rw [if_pos (by omega)]
     exact h3)
   refine ⟨_,_,hex hrun,G3,R3,VOK.ids_used (id:=d) ?_ trivial rfl rfl (hused _ (by simp))⟩
   simp only [Aa]
   exact .inr ⟨cap,by rw [w2],hroom,r3,row,ct,z,by rw [w2];exact setRow_heap w _ _ _ _ _ q1,by omega⟩
theorem Aoy (S:Set P Y Gl) (U:Sur P Gl X yd) {ops:Array Oper} {k:Orc->Env->Prop} {kp:Value->Orc->Env->Prop}
  (hk:∀ orc e a w,k orc e->Cf Y X nt ds e a w->Q .normal a w) (hp:∀ v orc e a w,kp v orc e->Cf Y X nt ds e a w->Q (.panic [{ v,recovered:=false }]) a w):
  ∀ (l:List Oper) (i:Nat) (orc:Orc) (e:Env) (a:Act) (w:World),(∀ j,l[j]?=ops[i+j]?)->Pc (Computes P Gl) (Does P Y Gl) Y nt yd ops l k kp orc e->Cf Y X nt ds e a w->wpOpsIn (Fr rd) fu P ops Q (List.range' i l.length) a w:=by
 intro l
 induction l with
 |nil=>intro i orc e a w _ h R;exact hk orc e a w h R
 |cons o l ih=>
  intro i orc e a w hl h R
  obtain ⟨G,R⟩:=R
  have hi:ops[i]?=some o:=by simpa using (hl 0).symm
  have hl':∀ j,l[j]?=ops[i+1+j]?:=fun j=>by
   have:=hl (j+1)
   rw [show i+1+j=i+(j+1) by omega]
   simpa using this
  simp only [Pc] at h
  rw [List.length_cons,List.range'_succ,wpOpsIn_cons]
  split at h
  ·rename_i it f oz heo
   obtain ⟨hop,hg⟩:=Aot heo
   exact Aou R hi hop hg h _ fun orc e a w hk' R'=>ih (i+1) orc e a w hl' hk' R'
  split at h
  ·rename_i p q t o' hao
   obtain ⟨hop,hg⟩:=Aow hao
   exact ap_ok S.y R hi hop hg h _ fun e a w hk' R'=>ih (i+1) o' e a w hl' hk' R'
  split at h
  ·rename_i x rk hrun
   obtain ⟨s1,s2⟩:=Xo (Q:=Q) (rd:=rd) (fu:=fu) S U R hi hrun
   unfold Aeh at h
   split at h
   ·rename_i vc hyp wr o' hd
    obtain ⟨hvc,h⟩:=Qa h
    exact s1 vc hyp wr o' hd hvc _ fun a' w' hh R'=>ih (i+1) o' _ a' w' hl' (Acd h hh) R'
   ·rename_i vc v wr o' hd
    obtain ⟨hvc,h⟩:=Qa h
    exact s2 vc v wr o' hd hvc (fun a' w' R'=>hp v o' _ a' w' h R') _
   ·exact h.elim
  ·exact h.elim
end
theorem Agk {t k:Nat}:∀ {l:List (Nat×Nat)},Bu t k l=true↔(t,k)∈l
 | []=>by simp [Bu]
 |(a,b)::r=>by
  simp only [Bu,Bool.or_eq_true,Bool.and_eq_true,List.mem_cons,Prod.mk.injEq,Agk (l:=r)]
  constructor
  ·rintro (⟨h1,h2⟩|h)
   ·exact .inl ⟨Nat.eq_of_beq_eq_true h1,Nat.eq_of_beq_eq_true h2⟩
   ·exact .inr h
  ·rintro (⟨rfl,rfl⟩|h)
   ·exact .inl ⟨Nat.beq_refl t,Nat.beq_refl k⟩
   ·exact .inr h
theorem Xp:∀ {l m:List (Nat×Nat)},Pd l m=false->∀ p∈l,p ∉ m
 | [],_,_,_,h=>(by cases h)
 |(t,k)::r,m,h,p,hp=>by
  simp only [Pd,Bool.or_eq_false_iff] at h
  cases hp with
  |head=>exact fun hm=>by rw [Agk.2 hm] at h;exact absurd h.1 (by decide)
  |tail _ hp=>exact Xp h.2 p hp
inductive Chain (ops:List Oper):Nat->Nat->Prop
 |one {j:Nat} {o:Oper} {e:Edge}:ops[j]?=some o->e∈o.after.toList->Region.binds .any e=true->Chain ops j e.on
 |more {j i:Nat} {o:Oper} {e:Edge}:ops[j]?=some o->e∈o.after.toList->Region.binds .any e=true->Chain ops e.on i->Chain ops j i
theorem Acg {i:Nat}:∀ {l:List Nat},Fu i l=true↔i∈l
 | []=>by simp [Fu]
 |j::r=>by
  simp only [Fu,Bool.or_eq_true,List.mem_cons,Acg (l:=r)]
  constructor
  ·rintro (h|h)
   ·exact .inl (Nat.eq_of_beq_eq_true h)
   ·exact .inr h
  ·rintro (rfl|h)
   ·exact .inl (Nat.beq_refl i)
   ·exact .inr h
theorem mem_addN {i j:Nat} {l:List Nat} (h:i∈Vu j l):i=j∨i∈l:=by
 unfold Vu at h
 cases hm:Fu j l with
 |true=>rw [hm] at h;exact .inr h
 |false=>
  rw [hm] at h
  simp only [cond_false,List.mem_cons] at h
  exact h
theorem mem_addAll {i:Nat}:∀ {a l:List Nat},i∈Ab8 a l->i∈a∨i∈l
 | [],_,h=>.inr h
 |j::r,l,h=>by
  rcases mem_addN h with rfl|h
  ·exact .inl List.mem_cons_self
  ·exact (mem_addAll h).imp (List.mem_cons_of_mem _) id
theorem Ach {i:Nat} {acc:List (List Nat)}:∀ {l:List Edge},i∈Pe acc l->∃ e∈l,Region.binds .any e=true/\(i=e.on∨i∈acc.getD e.on [])
 | [],h=>by cases h
 |e::r,h=>by
  unfold Pe at h
  cases hb:Region.binds .any e with
  |false=>
   rw [hb] at h
   obtain ⟨e',h1,h2⟩:=Ach (l:=r) h
   exact ⟨e',List.mem_cons_of_mem _ h1,h2⟩
  |true=>
   rw [hb] at h
   simp only [cond_true] at h
   rcases mem_addN h with rfl|h
   ·exact ⟨e,List.mem_cons_self,hb,.inl rfl⟩
   ·rcases mem_addAll h with h|h
    ·exact ⟨e,List.mem_cons_self,hb,.inr h⟩
    ·obtain ⟨e',h1,h2⟩:=Ach (l:=r) h
     exact ⟨e',List.mem_cons_of_mem _ h1,h2⟩
theorem ancs_spec {ops:List Oper}:∀ {os:List Oper} {acc:List (List Nat)},(∀ j,os[j]?=ops[acc.length+j]?)->(∀ m l,acc[m]?=some l->∀ i∈l,Chain ops m i)->∀ m l,(Fw os acc)[m]?=some l->∀ i∈l,Chain ops m i
 | [],_,_,h=>h
 |o::os,acc,hos,h=>by
  refine ancs_spec (os:=os) (acc:=acc++[Pe acc o.after.toList]) (fun j=>?_) fun m l hm i hi=>?_
  ·have:=hos (j+1)
   simp only [List.getElem?_cons_succ] at this
   rw [this]
   congr 1
   simp
   omega
  ·rw [List.getElem?_append] at hm
   split at hm
   ·exact h m l hm i hi
   ·rename_i hlt
    have hml:m - acc.length=0:=by
     have:=(List.getElem?_eq_some_iff.1 hm).1
     simp at this
     omega
    have hmm:m=acc.length:=by omega
    subst hmm
    simp only [Nat.sub_self,List.getElem?_cons_zero,Option.some.injEq] at hm
    subst hm
    have ho:ops[acc.length]?=some o:=by
     have:=hos 0
     simpa using this.symm
    obtain ⟨e,h1,h2,h3⟩:=Ach hi
    rcases h3 with rfl|h3
    ·exact .one ho h1 h2
    ·rw [List.getD_eq_getElem?_getD] at h3
     cases hg:acc[e.on]? with
     |none=>rw [hg] at h3;cases h3
     |some l'=>
      rw [hg] at h3
      exact .more ho h1 h2 (h e.on l' hg i h3)
theorem Aci:∀ {os:List Oper} {acc:List (List Nat)},(Fw os acc).length=acc.length+os.length
 | [],_=>rfl
 |o::os,acc=>by
  unfold Fw
  rw [Aci]
  simp
  omega
def Acj (x y:Fv):Prop:=(∀ p∈x.2,p ∉ y.1)/\(∀ p∈x.2,p ∉ y.2)/\(∀ p∈y.2,p ∉ x.1)
theorem Agl {i:Nat} {x:Fv}:∀ {os:List (List Nat)} {ys:List Fv},Vv i x os ys=true->∀ (j:Nat) a y,os[j]?=some a->ys[j]?=some y->i∈a∨Acj x y
 | [],_,_,j,o,y,h,_=>by simp at h
 |_::_,[],_,j,o,y,_,h=>by simp at h
 |o'::os,y'::ys,h,j,o,y,ho,hy=>by
  simp only [Vv,Bool.and_eq_true,Bool.or_eq_true,Bool.not_eq_true'] at h
  cases j with
  |zero=>
   simp only [List.getElem?_cons_zero,Option.some.injEq] at ho hy
   subst ho;subst hy
   exact h.1.imp Acg.1 fun ⟨⟨h1,h2⟩,h3⟩=>⟨Xp h1,Xp h2,Xp h3⟩
  |succ j=>exact Agl h.2 j o y (by simpa using ho) (by simpa using hy)
theorem Agm:∀ {os:List (List Nat)} {xs:List Fv} {n:Nat},Kt n os xs=true->∀ (i j:Nat) x a y,i<j->xs[i]?=some x->os[j]?=some a->xs[j]?=some y->n+i∈a∨Acj x y
 | [],_,_,_,i,j,x,o,y,_,_,h,_=>by simp at h
 |_::_,[],_,_,i,j,x,o,y,_,h,_,_=>by simp at h
 |o'::os,x'::xs,n,h,i,j,x,o,y,hij,hx,ho,hy=>by
  simp only [Kt,Bool.and_eq_true] at h
  cases j with
  |zero=>omega
  |succ j=>
   cases i with
   |zero=>
    simp only [List.getElem?_cons_zero,Option.some.injEq] at hx
    subst hx
    exact Agl h.1 j o y (by simpa using ho) (by simpa using hy)
   |succ i=>
    have:=Agm h.2 i j x o y (by omega) (by simpa using hx) (by simpa using ho) (by simpa using hy)
    rwa [show n+1+i=n+(i+1) by omega] at this
theorem Agn:∀ {os:List Oper} {n:Nat},Ks n os=true->∀ (i:Nat) o,os[i]?=some o->∀ e∈o.after.toList,Region.binds .any e=true->e.on<n+i
 | [],_,_,i,o,h=>by simp at h
 |o'::os,n,h,i,o,ho=>by
  simp only [Ks,Bool.and_eq_true] at h
  cases i with
  |zero=>
   simp only [List.getElem?_cons_zero,Option.some.injEq] at ho
   subst ho
   intro e he hb
   have:=List.all_eq_true.1 h.1 e he
   rw [hb] at this
   simpa using this
  |succ i=>
   intro e he hb
   have:=Agn h.2 i o (by simpa using ho) e he hb
   omega
theorem Ago {e:Env} {t k:Nat} (h:(t,k) ∉ Bf e) (e':Env):Env.get (e++e') t k=e'.get t k:=by
 induction e with
 |nil=>rfl
 |cons p e ih=>
  obtain ⟨a,b,x⟩:=p
  simp only [Bf,List.mem_cons,not_or,Prod.mk.injEq] at h
  rw [List.cons_append,Ax (fun hh=>h.1 ⟨hh.1.symm,hh.2.symm⟩)]
  exact ih h.2
theorem Agp {e:Env} {t k:Nat} (h:(t,k)∈Bf e) (e1 e2:Env):Env.get (e++e1) t k=Env.get (e++e2) t k:=by
 induction e with
 |nil=>cases h
 |cons p e ih=>
  obtain ⟨a,b,x⟩:=p
  rw [List.cons_append,List.cons_append,Ap,Ap]
  split
  ·rfl
  ·rename_i hh
   simp only [Bf,List.mem_cons,Prod.mk.injEq] at h
   exact ih (h.resolve_left fun h=>hh ⟨h.1.symm,h.2.symm⟩)
def sel (s:Nat->Bool):Nat->List Env->Env->Env
 |_,[],E=>E
 |i,wr::r,E=>sel s (i+1) r (bif s i then wr++E else E)
theorem Xq {s s':Nat->Bool} {t k:Nat}:∀ (wrs:List Env) (i:Nat) (E E':Env),(∀ (j:Nat) wr,wrs[j]?=some wr->(t,k)∈Bf wr->s (i+j)=s' (i+j))->E.get t k=E'.get t k->
  (sel s i wrs E).get t k=(sel s' i wrs E').get t k
 | [],_,_,_,_,h=>h
 |wr::r,i,E,E',hag,h=>by
  refine Xq r (i+1) _ _ (fun j w hj hk=>?_) ?_
  ·have:=hag (j+1) w (by simpa using hj) hk
   rwa [show i+(j+1)=i+1+j by omega] at this
  ·by_cases hk:(t,k)∈Bf wr
   ·have:=hag 0 wr rfl hk
    rw [Nat.add_zero] at this
    rw [this]
    cases s' i
    ·exact h
    ·exact Agp hk _ _
   ·cases s i<;>cases s' i<;>simp only [cond_true,cond_false,Ago hk]<;>exact h
theorem Agq {s:Nat->Bool} {t k:Nat}:∀ (wrs:List Env) (i j:Nat) (wr E E0:Env),wrs[j]?=some wr->(t,k)∈Bf wr->s (i+j)=true->(∀ m w,j<m->wrs[m]?=some w->(t,k)∈Bf w->s (i+m)=false)->
  (sel s i wrs E).get t k=Env.get (wr++E0) t k
 | [],_,_,_,_,_,h,_,_,_=>by simp at h
 |wr'::r,i,j,wr,E,E0,hj,hk,hs,hno=>by
  cases j with
  |zero=>
   simp only [List.getElem?_cons_zero,Option.some.injEq] at hj
   subst hj
   rw [Nat.add_zero] at hs
   simp only [sel,hs,cond_true]
   have:=Xq (s:=s) (s':=fun _=>false) (t:=t) (k:=k) r (i+1) (wr'++E) (wr'++E) (fun m w hm hkw=>by
    have:=hno (m+1) w (by omega) (by simpa using hm) hkw
    rwa [show i+(m+1)=i+1+m by omega] at this) rfl
   rw [this]
   have hf:∀ (l:List Env) (q:Nat) (F:Env),sel (fun _=>false) q l F=F:=by
    intro l
    induction l with
    |nil=>intro q F;rfl
    |cons x l ih=>intro q F;exact ih _ _
   rw [hf]
   exact Agp hk _ _
  |succ j=>
   refine Agq r (i+1) j wr _ E0 (by simpa using hj) hk (by rwa [show i+(j+1)=i+1+j by omega] at hs) fun m w hm hw hkw=>?_
   have:=hno (m+1) w (by omega) (by simpa using hw) hkw
   rwa [show i+(m+1)=i+1+m by omega] at this
theorem Xr:∀ (wrs:List Env) (s s':Nat->Bool) (i:Nat) (E:Env),(∀ j,j<wrs.length->s (i+j)=s' (i+j))->sel s i wrs E=sel s' i wrs E
 | [],_,_,_,_,_=>rfl
 |wr::r,s,s',i,E,h=>by
  simp only [sel]
  have h0:=h 0 (by simp)
  rw [Nat.add_zero] at h0
  rw [h0]
  refine Xr r s s' (i+1) _ fun j hj=>?_
  have:=h (j+1) (by simp;omega)
  rwa [show i+(j+1)=i+1+j by omega] at this
section
variable {P:Program} {Y:TypeId->Ty} {Gl:World->Prop} {X:Cx} {nt:Nat} {ds:List Deferred} {e e':Env} {a:Act} {w:World} {G:Gh} {Q:Exit->Act->World->Prop} {rd:Option Nat} {fu:Nat} {yd:Yd}
theorem Rel.congr (h:∀ t k,e'.get t k=e.get t k) (R:Rel Y X nt ds e a w G):Rel Y X nt ds e' a w G:=by
 have lift:∀ {x:T} {v:Value},VOK G w X.fz Y e x v->VOK G w X.fz Y e' x v:=fun {x v} hv=>hv.env (fun id=>h 2 id) (fun k=>h 1 k)
 refine ⟨⟨fun id k hk=>?_,fun id hh=>?_,fun id id' h1 h2=>R.mem.inj id id' (by rw [<-h];exact h1) (by rw [<-h];exact h2)⟩,R.size,R.defers,R.marks,fun t=>?_,fun k b hh=>?_,R.tinj,fun k b hh=>?_,R.fresh,R.old,R.base,fun id hh=>R.ownb id (by rw [<-h];exact hh),R.hlt,R.fzh,by rw [h];exact R.jj,
  fun id k hf h1 h2=>R.far id k hf (by rw [<-h];exact h1) (by rw [<-h];exact h2)⟩
 ·rw [h] at hk ⊢
  rw [h]
  obtain ⟨h1,h2,u,h3,h4⟩:=R.mem.cells id k hk
  exact ⟨h1,h2,u,h3,lift h4⟩
 ·rw [h] at hh ⊢;exact R.mem.box id hh
 ·rw [h];exact lift (R.slots t)
 ·obtain ⟨h1,h2,h3,h4,h5⟩:=R.tks k b hh
  exact ⟨h1,h2,h3,h4,fun id hid=>h5 id (by rw [<-h];exact hid)⟩
 ·exact (R.tlive k b hh).mono (fun k hk=>by rw [h];exact hk) fun id hid=>⟨by rw [h];exact hid,rfl⟩
theorem Aoz {Z:Prop} {ops:Array Oper} {i:Nat} (h:wpOpIn (Fr rd) fu P ops (fun _ _ _=>Z) i (fun _ _=>Z) a w):Z:=by
 have hroom:∀ n,(Fr rd).room n:=fun n d hd=>by cases hd
 unfold wpOpIn at h
 split at h
 ·exact h
 ·rename_i o ho
  split at h
  ·obtain ⟨_,h⟩:=h
   unfold Oper.uponIn at h
   split at h
   ·exact h
   ·exact h
   ·exact h
   ·obtain ⟨en,w',fr,hR,_⟩:=h.2.2 [] (hroom _)
    cases en with
    |returned v=>exact hR
    |panicked c=>exact hR
    |outgrown=>obtain ⟨_,_,hx⟩:=hR;exact hx
   ·obtain ⟨v,w',hR,_⟩:=h.2 default [] (hroom _)
    exact hR
   ·obtain ⟨en,w',hR,_⟩:=h.2.2 default [] (hroom _)
    cases en with
    |returned v=>exact hR
    |panicked c=>exact hR
    |outgrown=>obtain ⟨_,_,hx⟩:=hR;exact hx
   ·exact h
   ·exact h.elim
  ·exact h.2
inductive Tr (P:Program) (Y:TypeId->Ty) (Gl:World->Prop) (nt:Nat) (yd:Yd) (ops:Array Oper):Env->Orc->List Oper->List (Env×Orc×(Option Bool×Done)×Fv×Env)->Env->Orc->Prop
 |nil (e:Env) (o:Orc):Tr P Y Gl nt yd ops e o [] [] e o
 |cons {e:Env} {orc:Orc} {o:Oper} {l:List Oper} {x:Option Bool×Done} {rd:List (Nat×Nat)} {vc hyp:List Prop} {wr:Env} {o':Orc} {fts:List (Env×Orc×(Option Bool×Done)×Fv×Env)} {eN:Env} {oN:Orc}
   (h1:(Lx (Computes P Gl) (Does P Y Gl) Y yd ops o orc).run e.get []=some (x,rd)) (h2:Da nt o.dst x=.go vc hyp wr o') (h3:∀ p∈vc,p) (h4:Tr P Y Gl nt yd ops (wr++e) o' l fts eN oN):
   Tr P Y Gl nt yd ops e orc (o::l) ((e,orc,x,(rd,Bf wr),wr)::fts) eN oN
theorem Agr:∀ {n:Nat} {l:List Nat},Pf n l=true->∀ i,i<n->i∈l
 |0,_,_,_,h=>absurd h (Nat.not_lt_zero _)
 |n+1,l,h,i,hi=>by
  simp only [Pf,Bool.and_eq_true] at h
  by_cases he:i=n
  ·rw [he];exact Acg.1 h.1
  ·exact Agr h.2 i (by omega)
def PanL (P:Program) (Y:TypeId->Ty) (Gl:World->Prop) (nt:Nat) (yd:Yd) (ops:Array Oper) (kp:Value->Orc->Env->Prop) (n:Nat) (o:Oper) (oN:Orc) (eN:Env):Prop:=
 ∃ x rd vc v wr o',(Lx (Computes P Gl) (Does P Y Gl) Y yd ops o oN).run eN.get []=some (x,rd)/\Da nt o.dst x=.pan vc v wr o'/\(∀ p∈vc,p)/\kp v o' (wr++eN)/\Pf n ((Fw ops.toList []).getD n [])=true
theorem Ap0 (S:Set P Y Gl) (U:Sur P Gl X yd) {ops:Array Oper} {k:Orc->Env->Prop} {kp:Value->Orc->Env->Prop}:∀ (l:List Oper) (i:Nat) (tr:List Fv) (orc:Orc) (e:Env) (a:Act) (w:World),(∀ j,l[j]?=ops[i+j]?)->tr.length=i->
  Pg (Computes P Gl) (Does P Y Gl) Y nt yd ops l tr k kp orc e->Cf Y X nt ds e a w->
  ∃ l0 fts eN oN,Tr P Y Gl nt yd ops e orc l0 fts eN oN/\Ks 0 ops.toList=true/\Kt 0 (Fw ops.toList []) (tr.reverse++fts.map fun x=>x.2.2.2.1)=true/\((l0=l/\k oN eN)∨∃ o,l=l0++[o]/\PanL P Y Gl nt yd ops kp (i+fts.length) o oN eN):=by
 intro l
 induction l with
 |nil=>
  intro i tr orc e a w _ _ h R
  simp only [Pg] at h
  cases hb:(Ks 0 ops.toList&&Kt 0 (Fw ops.toList []) tr.reverse) with
  |false=>rw [hb] at h;exact h.elim
  |true=>
   rw [hb] at h
   obtain ⟨h1,h2⟩:=and_true hb
   exact ⟨[],[],e,orc,.nil e orc,h1,by simpa using h2,.inl ⟨rfl,h⟩⟩
 |cons o l ih=>
  intro i tr orc e a w hl hti h R
  obtain ⟨G,R⟩:=R
  have hi:ops[i]?=some o:=by simpa using (hl 0).symm
  have hl':∀ j,l[j]?=ops[i+1+j]?:=fun j=>by
   have:=hl (j+1)
   rw [show i+1+j=i+(j+1) by omega]
   simpa using this
  simp only [Pg] at h
  split at h
  ·rename_i x rd hrun
   unfold Aej at h
   split at h
   ·rename_i vc hyp wr o' hd
    obtain ⟨hvc,h⟩:=Qa h
    obtain ⟨s1,_⟩:=Xo (Q:=fun _ _ _=>∃ l0 fts eN oN,Tr P Y Gl nt yd ops e orc l0 fts eN oN/\Ks 0 ops.toList=true/\Kt 0 (Fw ops.toList []) (tr.reverse++fts.map fun x=>x.2.2.2.1)=true/\((l0=o::l/\k oN eN)∨∃ o1,o::l=l0++[o1]/\PanL P Y Gl nt yd ops kp (i+fts.length) o1 oN eN)) (rd:=none) (fu:=0) S U R hi hrun
    refine Aoz (rd:=none) (fu:=0) (s1 vc hyp wr o' hd hvc _ fun a' w' hh R'=>?_)
    obtain ⟨l0,fts,eN,oN,t1,t2,t3,t4⟩:=ih (i+1) _ o' _ a' w' hl' (by simp [hti]) (Acd h hh) R'
    refine ⟨o::l0,_,eN,oN,.cons hrun hd hvc t1,t2,by simpa using t3,?_⟩
    rcases t4 with ⟨rfl,t4⟩|⟨o1,rfl,t4⟩
    ·exact .inl ⟨rfl,t4⟩
    ·refine .inr ⟨o1,rfl,?_⟩
     rw [List.length_cons,show i+(fts.length+1)=i+1+fts.length by omega]
     exact t4
   ·rename_i vc v wr o' hd
    unfold Aei at h
    split at h
    ·cases hb:(Ks 0 ops.toList&&Kt 0 (Fw ops.toList []) tr.reverse&&Pf tr.length ((Fw ops.toList []).getD tr.length [])) with
     |false=>rw [hb] at h;exact h.elim
     |true=>
      rw [hb] at h
      obtain ⟨hvc,h⟩:=Qa (h:Km vc _)
      obtain ⟨hb,h3⟩:=and_true hb
      obtain ⟨h1,h2⟩:=and_true hb
      rw [hti] at h3
      exact ⟨[],[],e,orc,.nil e orc,h1,by simpa using h2,.inr ⟨o,rfl,x,rd,vc,v,wr,o',hrun,hd,hvc,h,by simpa using h3⟩⟩
    ·exact h.elim
   ·exact h.elim
  ·exact h.elim
theorem Tr.len {ops:Array Oper} {e:Env} {orc:Orc} {l:List Oper} {fts:List (Env×Orc×(Option Bool×Done)×Fv×Env)} {eN:Env} {oN:Orc} (h:Tr P Y Gl nt yd ops e orc l fts eN oN):fts.length=l.length:=by
 induction h with
 |nil=>rfl
 |cons _ _ _ _ ih=>simp [ih]
theorem Tr.at {ops:Array Oper} {e:Env} {orc:Orc} {l:List Oper} {fts:List (Env×Orc×(Option Bool×Done)×Fv×Env)} {eN:Env} {oN:Orc} (h:Tr P Y Gl nt yd ops e orc l fts eN oN):
  ∀ (i j:Nat) o y,l[j]?=some o->fts[j]?=some y->y.1=sel (fun m=>Nat.blt m (i+j)) i (fts.map fun x=>x.2.2.2.2) e/\y.2.2.2.1.2=Bf y.2.2.2.2/\
   (Lx (Computes P Gl) (Does P Y Gl) Y yd ops o y.2.1).run y.1.get []=some (y.2.2.1,y.2.2.2.1.1)/\∃ vc hyp o',Da nt o.dst y.2.2.1=.go vc hyp y.2.2.2.2 o'/\∀ p∈vc,p:=by
 induction h with
 |nil=>intro i j o y h;simp at h
 | @cons e orc o l x rd vc hyp wr o' fts eN oN h1 h2 h3 h4 ih=>
  intro i j oj y hj hy
  cases j with
  |zero=>
   simp only [List.getElem?_cons_zero,Option.some.injEq] at hj hy
   subst hj;subst hy
   refine ⟨?_,rfl,h1,vc,hyp,o',h2,h3⟩
   dsimp only
   have:sel (fun m=>Nat.blt m (i+0)) i (((e,orc,x,(rd,Bf wr),wr)::fts).map fun x=>x.2.2.2.2) e=sel (fun _=>false) i (((e,orc,x,(rd,Bf wr),wr)::fts).map fun x=>x.2.2.2.2) e:=by
    refine Xr _ _ _ i e fun m _=>?_
    cases hb:Nat.blt (i+m) (i+0) with
    |false=>rfl
    |true=>have:=Nat.le_of_ble_eq_true hb;omega
   rw [this]
   have hf:∀ (l:List Env) (q:Nat) (F:Env),sel (fun _=>false) q l F=F:=by
    intro l
    induction l with
    |nil=>intro q F;rfl
    |cons x l ih=>intro q F;exact ih _ _
   rw [hf]
  |succ j=>
   obtain ⟨g1,g2,g3⟩:=ih (i+1) j oj y (by simpa using hj) (by simpa using hy)
   refine ⟨?_,g2,g3⟩
   rw [g1]
   simp only [List.map_cons,sel]
   have:Nat.blt i (i+(j+1))=true:=Nat.ble_eq_true_of_le (by omega)
   rw [this,cond_true,show i+1+j=i+(j+1) by omega]
theorem Tr.end {ops:Array Oper} {e:Env} {orc:Orc} {l:List Oper} {fts:List (Env×Orc×(Option Bool×Done)×Fv×Env)} {eN:Env} {oN:Orc} (h:Tr P Y Gl nt yd ops e orc l fts eN oN):
  ∀ i,eN=sel (fun _=>true) i (fts.map fun x=>x.2.2.2.2) e:=by
 induction h with
 |nil=>intro i;rfl
 |cons _ _ _ _ ih=>intro i;exact ih (i+1)
theorem Ags {p q:Nat->Bool} (hpq:∀ i,q i=true->p i=true):∀ (l:List Nat),(l.filter q).length<=(l.filter p).length
 | []=>Nat.le_refl _
 |x::l=>by
  have ih:=Ags hpq l
  cases hq:q x with
  |true=>rw [List.filter_cons_of_pos hq,List.filter_cons_of_pos (hpq x hq)];simp;omega
  |false=>
   rw [List.filter_cons_of_neg (by rw [hq];decide)]
   cases hp:p x with
   |true=>rw [List.filter_cons_of_pos hp];simp;omega
   |false=>rw [List.filter_cons_of_neg (by rw [hp];decide)];exact ih
theorem Agt {p q:Nat->Bool} (hpq:∀ i,q i=true->p i=true) {j:Nat}:∀ {l:List Nat},j∈l->p j=true->q j=false->(l.filter q).length<(l.filter p).length
 | [],h,_,_=>(by cases h)
 |x::l,h,hp,hq=>by
  cases h with
  |head=>
   rw [List.filter_cons_of_neg (by rw [hq];decide),List.filter_cons_of_pos hp]
   have:=Ags hpq l
   simp;omega
  |tail _ h=>
   have ih:=Agt hpq h hp hq
   cases hqx:q x with
   |true=>rw [List.filter_cons_of_pos hqx,List.filter_cons_of_pos (hpq x hqx)];simp;omega
   |false=>
    rw [List.filter_cons_of_neg (by rw [hqx];decide)]
    cases hpx:p x with
    |true=>rw [List.filter_cons_of_pos hpx];simp;omega
    |false=>rw [List.filter_cons_of_neg (by rw [hpx];decide)];exact ih
theorem Ap1 (S:Set P Y Gl) (U:Sur P Gl X yd) {rid:Nat} {ops:Array Oper} {k:Orc->Env->Prop} {kp:Value->Orc->Env->Prop} (hk:∀ orc e a w,k orc e->Cf Y X nt ds e a w->Q .normal a w)
  (hkp:∀ v orc e a w,kp v orc e->Cf Y X nt ds e a w->Q (.panic [{ v,recovered:=false }]) a w)
  {orc:Orc} (h:Pg (Computes P Gl) (Does P Y Gl) Y nt yd ops ops.toList [] k kp orc e) (R:Cf Y X nt ds e a w):(Code.region rid ops true).wpIn (Fr rd) fu P Q a w:=by
 obtain ⟨l0,fts,eN,oN,ht,hed,hft,hkN⟩:=Ap0 S U ops.toList 0 [] orc e a w (fun j=>by simp) rfl h R
 simp only [List.reverse_nil,List.nil_append] at hft
 have hlen:=ht.len
 have hN:(fts.length=ops.size/\k oN eN)∨∃ o,fts.length+1=ops.size/\ops[fts.length]?=some o/\PanL P Y Gl nt yd ops kp fts.length o oN eN:=by
  rcases hkN with ⟨rfl,h1⟩|⟨o,h1,h2⟩
  ·exact .inl ⟨by rw [hlen];simp,h1⟩
  ·refine .inr ⟨o,?_,?_,by rw [Nat.zero_add] at h2;exact h2⟩
   ·have:=congrArg List.length h1
    simp only [Array.length_toList,List.length_append,List.length_cons,List.length_nil] at this
    omega
   ·rw [<-Array.getElem?_toList,h1,hlen];simp
 have hlen':fts.length<=ops.size:=by rcases hN with ⟨h,_⟩|⟨o,h,_⟩<;>omega
 have hl0:∀ j,j<fts.length->l0[j]?=ops[j]?:=fun j hj=>by
  rcases hkN with ⟨rfl,h1⟩|⟨o,h1,h2⟩
  ·simp
  ·rw [<-Array.getElem?_toList,h1,List.getElem?_append_left (by omega)]
 generalize hwrs:(fts.map fun x=>x.2.2.2.2)=wrs at *
 have hat:=fun j o y h1 h2=>ht.at 0 j o y h1 h2
 have hend:=ht.end 0
 rw [hwrs] at hend
 simp only [hwrs,Nat.zero_add] at hat
 have hwj:∀ (j:Nat) y,fts[j]?=some y->wrs[j]?=some y.2.2.2.2:=fun j y hy=>by rw [<-hwrs,List.getElem?_map,hy];rfl
 have hop:∀ (j:Nat) o,j<fts.length->ops[j]?=some o->l0[j]?=some o:=fun j o hj h=>by rw [hl0 j hj];exact h
 have hopT:∀ (j:Nat) o,ops[j]?=some o->ops.toList[j]?=some o:=fun j o h=>by rw [Array.getElem?_toList];exact h
 -- whoever writes what j reads or writes and comes before it is waited for by j
 have before:∀ (i j:Nat) x y,i<j->j<ops.size->fts[i]?=some x->fts[j]?=some y->Chain ops.toList j i∨Acj x.2.2.2.1 y.2.2.2.1:=by
  intro i j x y hij hj hx hy
  have hja:j<(Fw ops.toList []).length:=by rw [Aci];simpa using hj
  have:=Agm hft i j x.2.2.2.1 _ y.2.2.2.1 hij (by rw [List.getElem?_map,hx];rfl) (List.getElem?_eq_getElem hja) (by rw [List.getElem?_map,hy];rfl)
  rw [Nat.zero_add] at this
  exact this.imp (fun h=>ancs_spec (ops:=ops.toList) (fun j=>by simp) (fun m l hm=>by simp at hm) j _ (List.getElem?_eq_getElem hja) i h) id
 -- all that a listed one Ab7 for is listed
 have down:∀ (listed:Array Bool),(∀ (i:Nat) o,ops[i]?=some o->listed.getD i false=true->∀ ed∈o.after,Region.binds .any ed=true->listed.getD ed.on false=true)->
   ∀ {j i:Nat},Chain ops.toList j i->listed.getD j false=true->listed.getD i false=true:=by
  intro listed hdown j i hc
  induction hc with
  |one h1 h2 h3=>exact fun hl=>hdown _ _ (by rwa [Array.getElem?_toList] at h1) hl _ (by simpa using h2) h3
  |more h1 h2 h3 _ ih=>exact fun hl=>ih (hdown _ _ (by rwa [Array.getElem?_toList] at h1) hl _ (by simpa using h2) h3)
 have key:∀ (fuel:Nat) (listed:Array Bool) (a:Act) (w:World),listed.size=ops.size->(∀ (i:Nat) o,ops[i]?=some o->listed.getD i false=true->∀ ed∈o.after,Region.binds .any ed=true->listed.getD ed.on false=true)->
   ((List.range ops.size).filter fun i=>!listed.getD i false).length<=fuel->(fts.length<ops.size->listed.getD fts.length false=false)->Cf Y X nt ds (sel (fun i=>listed.getD i false) 0 wrs e) a w->wpAnyIn (Fr rd) fu P .any ops Q fuel listed a w:=by
  intro fuel
  have fin:∀ (listed:Array Bool) (a:Act) (w:World),(∀ i,i<ops.size->listed.getD i false=true)->(fts.length<ops.size->listed.getD fts.length false=false)->Cf Y X nt ds (sel (fun i=>listed.getD i false) 0 wrs e) a w->Q .normal a w:=by
   intro listed a w hall hP R
   rcases hN with ⟨h1,hkN⟩|⟨o,h1,_⟩
   ·refine hk oN eN a w hkN ?_
    have:sel (fun i=>listed.getD i false) 0 wrs e=eN:=by
     rw [hend]
     refine Xr wrs _ _ 0 e fun j hj=>?_
     rw [Nat.zero_add]
     exact hall j (by rw [<-h1,<-hwrs] at *;simpa using hj)
    rw [this] at R
    exact R
   ·have:=hall fts.length (by omega)
    rw [hP (by omega)] at this
    cases this
  induction fuel with
  |zero=>
   intro listed a w hsz hdown hcount hP R
   have hall:∀ i,i<ops.size->listed.getD i false=true:=by
    intro i hi
    cases hl:listed.getD i false with
    |true=>rfl
    |false=>
     have:i∈(List.range ops.size).filter fun i=>!listed.getD i false:=List.mem_filter.2 ⟨List.mem_range.2 hi,by rw [hl];rfl⟩
     have:=List.length_pos_of_mem this
     omega
   have hready:Region.ready .any ops listed=[]:=by
    cases hr:Region.ready .any ops listed with
    |nil=>rfl
    |cons j l=>
     have hj:j∈Region.ready .any ops listed:=by rw [hr];exact List.mem_cons_self
     obtain ⟨h1,o,h2,_⟩:=mem_ready.1 hj
     have hlt:=(Array.getElem?_eq_some_iff.1 h2).1
     have:=hall j hlt
     simp only [Array.getD_eq_getD_getElem?] at h1 this
     rw [Array.getElem?_eq_getElem (by omega)] at h1 this
     simp only [Option.getD_some] at h1 this
     rw [h1] at this
     cases this
   exact ⟨hready,fin listed a w hall hP R⟩
  |succ fuel ih=>
   intro listed a w hsz hdown hcount hP R
   refine ⟨fun hr=>?_,fun j hj=>?_⟩
   ·-- nothing is ready: all are listed
    have hall:∀ i,i<ops.size->listed.getD i false=true:=by
     intro i
     induction i using Nat.strongRecOn with
     |_ i ihi=>
      intro hi
      cases hl:listed.getD i false with
      |true=>rfl
      |false=>
       have ho:ops[i]?=some ops[i]:=Array.getElem?_eq_getElem hi
       have:i∈Region.ready .any ops listed:=mem_ready.2 ⟨by
        simp only [Array.getD_eq_getD_getElem?] at hl ⊢
        rw [Array.getElem?_eq_getElem (by omega)] at hl ⊢
        exact hl,_,ho,fun ed hed' hb=>by
        have:=Agn hed i _ (hopT i _ ho) ed (by simpa using hed') hb
        rw [Nat.zero_add] at this
        exact ihi ed.on this (by omega)⟩
       rw [hr] at this
       cases this
    exact fin listed a w hall hP R
   ·obtain ⟨hjun,o,ho,hjw⟩:=mem_ready.1 hj
    have hjlt:=(Array.getElem?_eq_some_iff.1 ho).1
    have hjf:listed.getD j false=false:=by
     simp only [Array.getD_eq_getD_getElem?] at hjun ⊢
     rw [Array.getElem?_eq_getElem (by omega)] at hjun ⊢
     exact hjun
    by_cases hjm:j=fts.length
    ·-- the last one,which Ab7 for all others
     rcases hN with ⟨h1,_⟩|⟨o1,h1,h2,x,rk,vc,v,wr,o',h3,h4,h5,h6,h7⟩
     ·omega
     ·have ho1:o=o1:=by rw [<-hjm,ho] at h2;exact Option.some.inj h2
      subst ho1
      have hall:∀ i,i<fts.length->listed.getD i false=true:=fun i hi=>by
       have hmem:=Agr h7 i hi
       rw [<-hjm] at hmem
       have hja:j<(Fw ops.toList []).length:=by rw [Aci];simpa using hjlt
       rw [List.getD_eq_getElem?_getD,List.getElem?_eq_getElem hja] at hmem
       cases ancs_spec (ops:=ops.toList) (fun j=>by simp) (fun m l hm=>by simp at hm) j _ (List.getElem?_eq_getElem hja) i hmem with
       |one c1 c2 c3=>
        rw [Array.getElem?_toList,ho] at c1
        obtain rfl:=Option.some.inj c1
        exact hjw _ (by simpa using c2) c3
       |more c1 c2 c3 c4=>
        rw [Array.getElem?_toList,ho] at c1
        obtain rfl:=Option.some.inj c1
        exact down listed hdown c4 (hjw _ (by simpa using c2) c3)
      have he:sel (fun i=>listed.getD i false) 0 wrs e=eN:=by
       rw [hend]
       refine Xr wrs _ _ 0 e fun i hi=>?_
       rw [Nat.zero_add]
       exact hall i (by rw [<-hwrs] at hi;simpa using hi)
      rw [he] at R
      obtain ⟨G,R⟩:=R
      obtain ⟨_,s2⟩:=Xo (Q:=Q) (rd:=rd) (fu:=fu) S U R ho h3
      exact s2 vc v wr o' h4 h5 (fun a' w' R'=>hkp v o' _ a' w' h6 R') _
    have hjm':j<fts.length:=by rcases hN with ⟨h1,_⟩|⟨_,h1,_⟩<;>omega
    have hy:fts[j]?=some fts[j]:=List.getElem?_eq_getElem hjm'
    generalize fts[j]=y at hy
    obtain ⟨g1,g2,g3,vc,hyp,o',g4,g5⟩:=hat j o y (hop j o hjm' ho) hy
    -- who writes what j reads
    have reads:∀ (i:Nat) x,fts[i]?=some x->∀ p∈Bf x.2.2.2.2,p∈y.2.2.2.1.1->listed.getD i false=Nat.blt i j:=by
     intro i x hx p hp1 hp2
     have gx2:x.2.2.2.1.2=Bf x.2.2.2.2:=by
      have hlt0:=(List.getElem?_eq_some_iff.1 hx).1
      have hlt:i<ops.size:=by omega
      exact (hat i _ x (hop i _ hlt0 (Array.getElem?_eq_getElem hlt)) hx).2.1
     rcases Nat.lt_trichotomy i j with h|h|h
     ·have hb:Nat.blt i j=true:=Nat.ble_eq_true_of_le h
      rw [hb]
      rcases before i j x y h hjlt hx hy with hc|hap
      ·cases hc with
       |one c1 c2 c3=>
        rw [Array.getElem?_toList,ho] at c1
        obtain rfl:=Option.some.inj c1
        exact hjw _ (by simpa using c2) c3
       |more c1 c2 c3 c4=>
        rw [Array.getElem?_toList,ho] at c1
        obtain rfl:=Option.some.inj c1
        exact down listed hdown c4 (hjw _ (by simpa using c2) c3)
      ·exact absurd hp2 (hap.1 p (by rw [gx2];exact hp1))
     ·subst h
      have hb:Nat.blt i i=false:=by
       cases hb:Nat.blt i i with
       |false=>rfl
       |true=>have:=Nat.le_of_ble_eq_true hb;omega
      rw [hb,hjf]
     ·have hb:Nat.blt i j=false:=by
       cases hb:Nat.blt i j with
       |false=>rfl
       |true=>have:=Nat.le_of_ble_eq_true hb;omega
      rw [hb]
      have hlt:i<ops.size:=by have:=(List.getElem?_eq_some_iff.1 hx).1;omega
      rcases before j i y x h hlt hy hx with hc|hap
      ·cases hl:listed.getD i false with
       |false=>rfl
       |true=>
        have:=down listed hdown hc hl
        rw [hjf] at this
        cases this
      ·exact absurd hp2 (hap.2.2 p (by rw [gx2];exact hp1))
    have writes:∀ (i:Nat) x,j<i->fts[i]?=some x->∀ p∈Bf x.2.2.2.2,p∈Bf y.2.2.2.2->listed.getD i false=false:=by
     intro i x h hx p hp1 hp2
     have hlt0:=(List.getElem?_eq_some_iff.1 hx).1
     have hlt:i<ops.size:=by omega
     have gx2:x.2.2.2.1.2=Bf x.2.2.2.2:=(hat i _ x (hop i _ hlt0 (Array.getElem?_eq_getElem hlt)) hx).2.1
     rcases before j i y x h hlt hy hx with hc|hap
     ·cases hl:listed.getD i false with
      |false=>rfl
      |true=>
       have:=down listed hdown hc hl
       rw [hjf] at this
       cases this
     ·exact absurd (by rw [gx2];exact hp1) (hap.2.1 p (by rw [g2];exact hp2))
    -- j goes here as it went there
    have hrun:(Lx (Computes P Gl) (Does P Y Gl) Y yd ops o y.2.1).run (sel (fun i=>listed.getD i false) 0 wrs e).get []=some (y.2.2.1,y.2.2.2.1.1):=by
     refine (Aln _ [] _ _ g3).2 fun p hp=>?_
     obtain ⟨t,kk⟩:=p
     dsimp only
     rw [g1]
     refine Xq wrs 0 e e (fun i wr hi hkk=>?_) rfl
     rw [Nat.zero_add]
     rw [<-hwrs,List.getElem?_map] at hi
     cases hx:fts[i]? with
     |none=>rw [hx] at hi;cases hi
     |some x=>
      rw [hx] at hi
      simp only [Option.map_some,Option.some.injEq] at hi
      subst hi
      exact reads i x hx _ hkk hp
    obtain ⟨G,R⟩:=R
    obtain ⟨s1,_⟩:=Xo (Q:=Q) (rd:=rd) (fu:=fu) S U R ho hrun
    refine s1 vc hyp _ o' g4 g5 _ fun a' w' _ R'=>?_
    have hset:∀ i,(listed.setIfInBounds j true).getD i false=if i=j then true else listed.getD i false:=by
     intro i
     by_cases h:i=j
     ·subst h
      rw [if_pos rfl]
      simp only [Array.getD_eq_getD_getElem?,Array.getElem?_setIfInBounds]
      simp only [if_true]
      rw [if_pos (by omega)]
      rfl
     ·rw [if_neg h]
      exact getD_set_ne false (Ne.symm h)
    refine ih _ a' w' (by simpa using hsz) (fun i oi hoi hl ed hed' hb=>?_) ?_ ?_ ?_
    ·rw [hset] at hl ⊢
     by_cases h:ed.on=j
     ·rw [if_pos h]
     ·rw [if_neg h]
      by_cases hi:i=j
      ·subst hi
       rw [ho] at hoi
       simp only [Option.some.injEq] at hoi
       subst hoi
       exact hjw ed hed' hb
      ·rw [if_neg hi] at hl
       exact hdown i oi hoi hl ed hed' hb
    ·-- one fewer is left
     have:((List.range ops.size).filter fun i=>!(listed.setIfInBounds j true).getD i false).length<((List.range ops.size).filter fun i=>!listed.getD i false).length:=by
      refine Agt (fun i hi=>?_) (List.mem_range.2 hjlt) (by rw [hjf];rfl) (by rw [hset,if_pos rfl];rfl)
      rw [hset] at hi
      split at hi
      ·cases hi
      ·exact hi
     omega
    ·intro hlt
     rw [hset,if_neg (fun h=>hjm h.symm)]
     exact hP hlt
    ·obtain ⟨G',R'⟩:=R'
     refine ⟨G',R'.congr fun t kk=>?_⟩
     by_cases hkk:(t,kk)∈Bf y.2.2.2.2
     ·refine Agq wrs 0 j _ e _ (hwj j y hy) hkk (by rw [Nat.zero_add,hset,if_pos rfl]) fun i wr hji hi hkw=>?_
      rw [Nat.zero_add,hset,if_neg (by omega)]
      rw [<-hwrs,List.getElem?_map] at hi
      cases hx:fts[i]? with
      |none=>rw [hx] at hi;cases hi
      |some x=>
       rw [hx] at hi
       simp only [Option.map_some,Option.some.injEq] at hi
       subst hi
       exact writes i x hji hx _ hkw hkk
     ·rw [Ago hkk]
      refine Xq wrs 0 e e (fun i wr hi hkw=>?_) rfl
      rw [Nat.zero_add,hset]
      by_cases h:i=j
      ·subst h
       rw [hwj i y hy] at hi
       simp only [Option.some.injEq] at hi
       subst hi
       exact absurd hkw hkk
      ·rw [if_neg h]
 refine wpIn_region_any S.mixed (key ops.size _ a _ (by simp) (fun i o ho hl=>?_) ?_ (fun _=>?_) ?_)
 ·simp [Array.getD_eq_getD_getElem?,Array.getElem?_replicate] at hl
  split at hl<;>simp at hl
 ·exact Nat.le_trans (List.length_filter_le _ _) (by simp)
 ·simp [Array.getD_eq_getD_getElem?,Array.getElem?_replicate]
  split<;>rfl
 ·obtain ⟨G,R⟩:=R
  have:sel (fun i=>(Array.replicate ops.size false).getD i false) 0 wrs e=e:=by
   have h0:∀ i,(Array.replicate ops.size false).getD i false=false:=fun i=>by
    simp [Array.getD_eq_getD_getElem?,Array.getElem?_replicate]
    split<;>rfl
   have hf:∀ (l:List Env) (q:Nat) (F:Env),sel (fun i=>(Array.replicate ops.size false).getD i false) q l F=F:=by
    intro l
    induction l with
    |nil=>intro q F;rfl
    |cons x l ih=>
     intro q F
     have:=ih (q+1) F
     simp only [sel,h0,cond_false] at this ⊢
     exact this
   exact hf _ _ _
  rw [this]
  exact ⟨G,(R.grow (w':={ w with drawn:=w.drawn+1 }) (G':=G) (e':=e) none (fun _ _ _=>rfl) ⟨rfl,rfl,rfl,Nat.le_refl _⟩ (fun _ _ _=>rfl) (fun b hb=>(by cases hb)) (fun _=>Nat.le_refl _) ⟨fun _ _ _=>rfl,fun _ _ _ _ h=>h,fun _ cs t z h=>⟨cs,t,z,h,Nat.le_refl _⟩⟩ rfl rfl rfl (fun _ _=>rfl)
   (fun k b h=>by obtain ⟨h1,h2,h3,h4,h5⟩:=R.tks k b h;exact ⟨h1,h2,h3,h4,h5,R.tlive k b h⟩) R.tinj (fun _ h=>⟨h,fun _ h=>h⟩) (fun _ _ _ h _=>⟨h,rfl,rfl⟩) R.fresh (fun _ _=>rfl) (fun _ _=>rfl)).1⟩
end
theorem Qb {e:Env}:∀ {e0:Env},(∀ p∈Ow e e0,p)->∀ {t k x},(t,k,x)∈e0->t≠1->∀ p∈leT (e.get t k) x,p
 | [],_,_,_,_,h,_=>(by cases h)
 |(a,b,y)::e0,hp,t,k,x,h,ht=>by
  by_cases ha:a=1
  ·subst ha
   cases h with
   |head=>exact absurd rfl ht
   |tail _ h=>exact Qb (e0:=e0) hp h ht
  ·have hq:∀ p∈leT (e.get a b) y++Ow e e0,p:=by
    unfold Ow at hp
    split at hp
    ·rename_i hh;cases hh
    ·rename_i hh;simp only [List.cons.injEq,Prod.mk.injEq] at hh;exact absurd hh.1.1 ha
    ·rename_i hh
     simp only [List.cons.injEq,Prod.mk.injEq] at hh
     obtain ⟨⟨rfl,rfl,rfl⟩,rfl⟩:=hh
     exact hp
   cases h with
   |head=>exact fun p h=>hq p (List.mem_append_left _ h)
   |tail _ h=>exact Qb (fun p hp'=>hq p (List.mem_append_right _ hp')) h ht
theorem Agu {x y:T} (h:Vh x y=true):∃ el,x=Ay el/\y=Ay el:=by
 unfold Vh at h
 split at h
 ·exact ⟨_,rfl,by rw [Nat.eq_of_beq_eq_true h];rfl⟩
 ·cases h
theorem Agv {x y:T} {a b:Nat} (h:Ni x y a b=true):∃ el,x=Ay el/\y=Ay el/\(FAR<=a->FAR<=b):=by
 unfold Ni at h
 rw [Bool.and_eq_true,Bool.or_eq_true] at h
 obtain ⟨el,h1,h2⟩:=Agu h.1
 refine ⟨el,h1,h2,fun ha=>h.2.elim (fun h=>?_) Nat.le_of_ble_eq_true⟩
 have:a<FAR:=Nat.le_of_ble_eq_true h
 omega
theorem tokPairs_mem {e e0:Env}:∀ {es:Env} {l:List (Nat×Nat)},Gk e e0 es=some l->∀ {t k b n f},(t,k,T.d (.c (.s (.t b) n f)))∈es->
  (∃ a n' f',e.get t k=.d (.c (.s (.t a) n' f'))/\Ni (e.get 1 a) (e0.get 1 b) a b=true/\(a,b)∈l)∨∃ v,e.get t k=.d (.c (.v v))
 | [],_,_,_,_,_,_,_,h=>(by cases h)
 |p::r,l,hl,t,k,b,n,f,h=>by
  unfold Gk at hl
  split at hl
  ·rename_i hh;cases hh
  ·rename_i t' k' b' n' f' r' hh
   simp only [List.cons.injEq] at hh
   obtain ⟨rfl,rfl⟩:=hh
   split at hl
   ·rename_i a n2 f2 hg
    cases hs:Ni (e.get 1 a) (e0.get 1 b') a b' with
    |false=>rw [hs] at hl;cases hl
    |true=>
     rw [hs,cond_true] at hl
     cases hr:Gk e e0 r with
     |none=>rw [hr] at hl;cases hl
     |some l'=>
      rw [hr] at hl
      simp only [Option.map_some,Option.some.injEq] at hl
      subst hl
      cases h with
      |head=>exact .inl ⟨a,n2,f2,hg,hs,List.mem_cons_self⟩
      |tail _ h=>exact (tokPairs_mem hr h).imp (fun ⟨a,n,f,h1,h2,h3⟩=>⟨a,n,f,h1,h2,List.mem_cons_of_mem _ h3⟩) id
   ·rename_i v hg
    cases h with
    |head=>exact .inr ⟨v,hg⟩
    |tail _ h=>exact tokPairs_mem hl h
   ·cases hl
  ·rename_i hh
   simp only [List.cons.injEq] at hh
   obtain ⟨rfl,rfl⟩:=hh
   cases h with
   |tail _ h=>exact tokPairs_mem hl h
  ·cases hl
  ·rename_i hno _ _ hh
   simp only [List.cons.injEq] at hh
   obtain ⟨rfl,rfl⟩:=hh
   cases h with
   |head=>exact absurd rfl (hno t k b n f)
   |tail _ h=>exact tokPairs_mem hl h
theorem Sn {e e0:Env}:∀ {es:Env} {l:List (Nat×Nat)},Gk e e0 es=some l->∀ {a b},(a,b)∈l->Ni (e.get 1 a) (e0.get 1 b) a b=true
 | [],l,hl,a,b,h=>by
  simp only [Gk,Option.some.injEq] at hl
  subst hl
  cases h
 |p::r,l,hl,a,b,h=>by
  unfold Gk at hl
  split at hl
  ·rename_i hh;cases hh
  ·rename_i t' k' b' n' f' r' hh
   simp only [List.cons.injEq] at hh
   obtain ⟨rfl,rfl⟩:=hh
   split at hl
   ·rename_i a' n2 f2 hg
    cases hs:Ni (e.get 1 a') (e0.get 1 b') a' b' with
    |false=>rw [hs] at hl;cases hl
    |true=>
     rw [hs,cond_true] at hl
     cases hr:Gk e e0 r with
     |none=>rw [hr] at hl;cases hl
     |some l'=>
      rw [hr] at hl
      simp only [Option.map_some,Option.some.injEq] at hl
      subst hl
      cases h with
      |head=>exact hs
      |tail _ h=>exact Sn hr h
   ·exact Sn hl h
   ·cases hl
  ·rename_i hh
   simp only [List.cons.injEq] at hh
   obtain ⟨rfl,rfl⟩:=hh
   exact Sn hl h
  ·cases hl
  ·rename_i hh
   simp only [List.cons.injEq] at hh
   obtain ⟨rfl,rfl⟩:=hh
   exact Sn hl h
theorem Acl {a b:Nat}:∀ {l:List (Nat×Nat)},Vi a b l=true->∀ {a' b'},(a',b')∈l->(a=a'↔b=b')
 | [],_,_,_,h=>(by cases h)
 |(a1,b1)::r,hl,a',b',h=>by
  simp only [Vi,Bool.and_eq_true] at hl
  cases h with
  |head=>
   have:=hl.1
   constructor
   ·rintro rfl
    rw [Nat.beq_refl] at this
    simpa using this
   ·rintro rfl
    rw [Nat.beq_refl] at this
    simpa using this
  |tail _ h=>exact Acl hl.2 h
theorem Agw:∀ {l:List (Nat×Nat)},Vj l=true->∀ {a b a' b'},(a,b)∈l->(a',b')∈l->(a=a'↔b=b')
 | [],_,_,_,_,_,h,_=>(by cases h)
 |(a1,b1)::r,hl,a,b,a',b',h,h'=>by
  simp only [Vj,Bool.and_eq_true] at hl
  cases h with
  |head=>
   cases h' with
   |head=>exact ⟨fun _=>rfl,fun _=>rfl⟩
   |tail _ h'=>exact Acl hl.1 h'
  |tail _ h=>
   cases h' with
   |head=>have:=Acl hl.1 h;exact ⟨fun hh=>(this.1 hh.symm).symm,fun hh=>(this.2 hh.symm).symm⟩
   |tail _ h'=>exact Agw hl.2 h h'
theorem Agx {e0:Env}:∀ {es:Env},Rs e0 es=true->∀ {t k x},(t,k,x)∈es->∀ b∈Ej x,e0.get 1 b≠.any
 | [],_,_,_,_,h=>(by cases h)
 |(a,b,y)::es,hp,t,k,x,h=>by
  simp only [Rs,Bool.and_eq_true] at hp
  cases h with
  |head=>
   have hall:∀ (l:List Nat),Vk e0 l=true->∀ b∈l,e0.get 1 b≠.any:=by
    intro l
    induction l with
    |nil=>intro _ id h;cases h
    |cons i l ih=>
     intro h id hid
     simp only [Vk,Bool.and_eq_true] at h
     cases hid with
     |head=>
      obtain ⟨el,h1,_⟩:=Agu h.1
      rw [h1];intro hh;cases hh
     |tail _ hid=>exact ih h.2 id hid
   exact hall _ hp.1
  |tail _ h=>exact Agx hp.2 h
theorem Acm:∀ {es:Env},Ru es=true->∀ {t k x},(t,k,x)∈es->(∀ b y,x≠.may b y)/\(3<=t->x.one=true)
 | [],_,_,_,_,h=>(by cases h)
 |(a,b,y)::es,hp,t,k,x,h=>by
  simp only [Ru,Bool.and_eq_true] at hp
  cases h with
  |head=>
   refine ⟨fun b' z hh=>?_,fun ht=>?_⟩
   ·rw [hh] at hp;exact absurd hp.1.1 (by simp)
   ·obtain ⟨m,rfl⟩:∃ m,a=m+3:=⟨a - 3,by omega⟩
    exact hp.1.2
  |tail _ h=>exact Acm hp.2 h
theorem So {e0:Env}:∀ {es:Env},Nj e0 es=true->(∀ {t k x},(t+3,k,x)∈es->FAR<=t->e0.get 2 t≠.any->e0.get (t+3) k≠.any)/\∀ {k p},(0,k,T.tr p)∈es->e0.get 0 k≠.any
 | [],_=>⟨fun h=>(by cases h),fun h=>(by cases h)⟩
 |q::es,hp=>by
  have hu:∀ {x:T},Gj x=true->x≠.any:=fun h hh=>by rw [hh] at h;cases h
  unfold Nj at hp
  split at hp
  ·rename_i hh;cases hh
  ·rename_i k x r hh
   simp only [List.cons.injEq] at hh
   obtain ⟨rfl,rfl⟩:=hh
   simp only [Bool.and_eq_true] at hp
   obtain ⟨h1,h2⟩:=So hp.2
   refine ⟨fun h=>?_,fun h=>?_⟩
   ·cases h with|tail _ h=>exact h1 h
   ·cases h with
    |head=>exact hu hp.1
    |tail _ h=>exact h2 h
  ·rename_i t k x r hh
   simp only [List.cons.injEq] at hh
   obtain ⟨rfl,rfl⟩:=hh
   simp only [Bool.and_eq_true,Bool.or_eq_true,Bool.not_eq_true'] at hp
   obtain ⟨h1,h2⟩:=So hp.2
   refine ⟨fun h hf hne=>?_,fun h=>?_⟩
   ·cases h with
    |head=>
     rcases hp.1 with (h|h)|h
     ·have:=Bg h;omega
     ·exact absurd h (by
       cases hx:e0.get 2 t<;>first|exact absurd hx hne|(simp [Gj]))
     ·exact hu h
    |tail _ h=>exact h1 h hf hne
   ·cases h with|tail _ h=>exact h2 h
  ·rename_i hno1 hno2 hh
   simp only [List.cons.injEq] at hh
   obtain ⟨rfl,rfl⟩:=hh
   obtain ⟨h1,h2⟩:=So hp
   refine ⟨fun h=>?_,fun h=>?_⟩
   ·cases h with
    |head=>exact absurd rfl (hno2 _ _ _)
    |tail _ h=>exact h1 h
   ·cases h with
    |head=>exact absurd rfl (hno1 _ _)
    |tail _ h=>exact h2 h
theorem Ap2 {x:Value} {g:Tag} {n:Nat} {f:Nat->List C} (h:∀ p∈leC (.v x) (.s g n f),p):x=.slice none 0 0:=by
 unfold leC at h
 split at h<;>first
  |(rename_i h1 h2;cases h2;done)
  |(rename_i h1 h2;cases h1;rfl)
  |(rename_i h1 h2;cases h1;done)
  |exact (h False List.mem_cons_self).elim
theorem Rep.eqv {vis:Nat->Nat} {w:World} {t:Tag} {m:Nat} {g g':Nat->List C} {u:Value} (h:∀ i,i<m->g i=g' i) (hr:Rep vis w (.s t m g) u):Rep vis w (.s t m g') u:=by
 cases hr with
 |nil=>exact .nil _ _
 |e=>exact .e _ _ _
 |s _ _ _ b off cap sz u a1 a2 a3 a4 a5 a6=>
  exact .s _ _ _ b off cap sz u a1 a2 (fun i hi=>by rw [<-h i hi];exact a3 i hi) a4 (fun i j c hi hj=>a5 i j c hi (by rw [h i hi];exact hj)) (fun i j c hi hj=>a6 i j c hi (by rw [h i hi];exact hj))
theorem Ix.eqv {G:Gh} {w:World} {el sz b j m:Nat} {g g':Nat->List C} {u:Value} (h:∀ i,i<m->g i=g' i) (hs:Ix G w el sz b j m g u):Ix G w el sz b j m g' u:=
 ⟨hs.1.eqv h,fun i hi=>by rw [<-h i hi];exact hs.2.1 i hi,hs.2.2⟩
theorem Ap3 {G:Gh} {w:World} {o o':T} {b:Nat} (hle:∀ p∈leT o o',p) (hne:o'≠.any) (h:Bv G w o b):Bv G w o' b:=by
 by_cases ho:Cq o'=true
 ·have:=Ag7 (rho:=[]) (H:=G.H) hle ho h
  generalize hren:Ny [] G G.H=G' at this
  have hv:G'.vis=G.vis:=by rw [<-hren];rfl
  unfold Bv at this ⊢
  split at this<;>first|(rw [<-hv];exact this)|exact this.elim|cases ho
 ·unfold leT at hle
  split at hle
  ·exact absurd rfl hne
  ·exact h.elim
  ·exact h.elim
  ·exact absurd rfl ho
  ·exact h.elim
  ·exact h.elim
  ·exact h.elim
  ·exact h.elim
  ·exact h.elim
  ·exact h.elim
  ·exact absurd rfl ho
  ·exact absurd rfl ho
  ·have h1:=hle _ List.mem_cons_self
   have h2:=hle _ (.tail _ (.head _))
   subst h1;subst h2
   exact h
  ·replace hle:=Mh hle
   obtain ⟨hb,hle⟩:=hle
   obtain ⟨hb,hcn⟩:=and_true hb
   obtain ⟨h1,h2⟩:=and_true hb
   have h1:=Nat.eq_of_beq_eq_true h1
   have h2:=eq_of_beq h2
   subst h1;subst h2
   have hm:MEq _ _ _ _:=hle _ List.mem_cons_self
   have hh:=hle _ (.tail _ (.head _))
   subst hh
   obtain ⟨q0,mb,es,cl,seen,c0,q1,q2,q3,q4,q5,q6,q7,q8,q9⟩:=h
   exact ⟨q0,mb,es,cl,seen,c0,q1,q2,q3,q4,Ac0 hm q5,fun x hx=>by rw [<-(hm x).1];exact q6 x hx,q7,q8,fun k hk=>(by rw [hk] at hcn;cases hcn)⟩
  ·replace hle:=Mh hle
   obtain ⟨hb,hle⟩:=hle
   obtain ⟨h1,h2⟩:=and_true hb
   have h1:=Nat.eq_of_beq_eq_true h1
   have h2:=Nat.eq_of_beq_eq_true h2
   subst h1;subst h2
   obtain ⟨e1,e2⟩:OEq _ _ _ _:=hle _ List.mem_cons_self
   subst e1
   obtain ⟨q0,qs,cs,t,q1,q2,q3⟩:=h
   refine ⟨q0,qs,cs,t,q1,q2,fun j hj=>?_⟩
   obtain ⟨u,q4,q5⟩:=q3 j hj
   obtain ⟨e3,e4⟩:=e2 j hj
   refine ⟨u,q4,fun hf=>?_⟩
   rw [<-e3]
   exact (q5 hf).eqv e4
  ·exact h.elim
  ·have:=hle _ List.mem_cons_self;subst this;exact h
section
variable {P:Program} {Y:TypeId->Ty} {Gl:World->Prop} {X:Cx} {nt:Nat} {ds:List Deferred} {e e0:Env} {a:Act} {w:World} {G:Gh} {Q:Exit->Act->World->Prop}
open Classical in
noncomputable def leTk (e0:Env) (G:Gh) (l:List (Nat×Nat)):Tk->Option Nat
 | .o b=>(l.find? fun p=>p.2.beq b).bind fun p=>G.tk (.o p.1)
 | .s b j=>if (∃ id,e0.get 2 id≠.any/\G.bk id=b) then G.tk (.s b j) else none
open Classical in
theorem Sp (h:le e e0) (R:Rel Y X nt ds e a w G):∃ G',Rel Y X nt ds e0 a w G'/\G'.vis=G.vis/\G'.bk=G.bk/\G'.H=G.H/\G'.dm=G.dm/\(∀ k b,G'.tk k=some b->∃ k',G.tk k'=some b)/\∀ id,e0.get 2 id≠.any->e.get 2 id≠.any:=by
 unfold le at h
 cases hb:(Aef (Gk e e0 e0)&&Hx e0 e0&&Rs e0 e0&&Ru e0&&Nj e0 e) with
 |false=>rw [hb] at h;exact h.elim
 |true=>
  rw [hb] at h
  have hall:=Ic h
  obtain ⟨hb,hfar⟩:=and_true hb
  obtain ⟨hb,hshape⟩:=and_true hb
  obtain ⟨hb,htok⟩:=and_true hb
  obtain ⟨hb,hids⟩:=and_true hb
  cases htp:Gk e e0 e0 with
  |none=>rw [htp] at hb;cases hb
  |some l=>
   rw [htp] at hb
   have hpairs:=@Agw l hb
   -- the new tokens' blocks
   have htk:∀ a b,(a,b)∈l->((l.find? fun p=>p.2.beq b).bind fun p=>G.tk (.o p.1))=G.tk (.o a):=by
    intro a b hab
    cases hf:l.find? fun p=>p.2.beq b with
    |none=>exact absurd (Nat.beq_refl b) (by have:=List.find?_eq_none.1 hf _ hab;simpa using this)
    |some p=>
     obtain ⟨a',b'⟩:=p
     have h1:=List.find?_some hf
     have h2:=List.mem_of_find?_eq_some hf
     have h3:b'=b:=Nat.eq_of_beq_eq_true h1
     rw [(hpairs h2 hab).2 h3]
     rfl
   have htk':∀ b blk,((l.find? fun p=>p.2.beq b).bind fun p=>G.tk (.o p.1))=some blk->∃ a,(a,b)∈l/\G.tk (.o a)=some blk:=by
    intro b blk hh
    cases hf:l.find? fun p=>p.2.beq b with
    |none=>rw [hf] at hh;cases hh
    |some p=>
     obtain ⟨a',b'⟩:=p
     rw [hf] at hh
     have h1:=List.find?_some hf
     have h2:=List.mem_of_find?_eq_some hf
     have h3:b'=b:=Nat.eq_of_beq_eq_true h1
     subst h3
     exact ⟨a',h2,hh⟩
   obtain ⟨G',hG⟩:∃ G',(⟨G.vis,G.bk,leTk e0 G l,G.H,G.dm⟩:Gh)=G':=⟨_,rfl⟩
   have hvis:G'.vis=G.vis:=by subst hG;rfl
   have hbk:G'.bk=G.bk:=by subst hG;rfl
   have hH:G'.H=G.H:=by subst hG;rfl
   have hdm:G'.dm=G.dm:=by subst hG;rfl
   have hgtk:∀ b:Nat,G'.tk (.o b)=(l.find? fun p=>p.2.beq b).bind fun p=>G.tk (.o p.1):=fun b=>by subst hG;rfl
   have hgts:∀ b j,(∃ id,e0.get 2 id≠.any/\G.bk id=b)->G'.tk (.s b j)=G.tk (.s b j):=fun b j h=>by subst hG;exact if_pos h
   have hgts':∀ b j blk,G'.tk (.s b j)=some blk->(∃ id,e0.get 2 id≠.any/\G.bk id=b)/\G.tk (.s b j)=some blk:=fun b j blk h=>by
    subst hG
    have h:(if (∃ id,e0.get 2 id≠.any/\G.bk id=b) then G.tk (.s b j) else none)=some blk:=h
    split at h
    ·rename_i hh;exact ⟨hh,h⟩
    ·cases h
   have hgt:∀ k blk,G'.tk k=some blk->(∃ a b,k=.o b/\(a,b)∈l/\G.tk (.o a)=some blk)∨∃ b j,k=.s b j/\(∃ id,e0.get 2 id≠.any/\G.bk id=b)/\G.tk (.s b j)=some blk:=fun k blk h=>by
    cases k with
    |o b=>
     rw [hgtk] at h
     obtain ⟨a',h1,h2⟩:=htk' b blk h
     exact .inl ⟨a',b,rfl,h1,h2⟩
    |s b j=>exact .inr ⟨b,j,rfl,hgts' b j blk h⟩
   have hrel:∀ {x:T} {v:Value},(∀ b y,x=.may b y->False)->Aa G w X.fz x v->Aa G' w X.fz x v:=fun {x v} hm h=>Aa.mono ⟨fun b=>by rw [hvis];exact Nat.le_refl _,.refl _ _,fun _ _=>rfl⟩ (by
    cases x with
    |may b x=>exact (hm b x rfl).elim
    |_=>exact fun _ _=>by rw [hbk]) h
   have hobjv:∀ {o:T} {b:Nat},(∃ id,e0.get 2 id≠.any/\G.bk id=b)->Bv G w o b->Bv G' w o b:=fun {o b} hb h=>
    h.stay (fun b=>by rw [hvis];exact Nat.le_refl _) (.refl _ _) rfl (by rw [hvis]) fun j bb hj=>⟨by rw [hgts b j hb];exact hj,rfl,by rw [hvis]⟩
   have hused:∀ {id:Nat},e0.get 2 id≠.any->e.get 2 id≠.any/\∀ p∈leT (e.get 2 id) (e0.get 2 id),p:=fun {id} hid=>by
    have hm:=(get_mem (rfl:e0.get 2 id=e0.get 2 id)).resolve_left hid
    have:=Qb hall hm (by decide)
    exact ⟨Xn this hid,this⟩
   -- an entry that is kept
   have keep:∀ {t k:Nat} {x:T} {v:Value},(t,k,x)∈e0->t≠1->VOK G w X.fz Y e (e.get t k) v->VOK G' w X.fz Y e0 x v:=by
    intro t k x v hm ht hv
    have hle:=Qb hall hm ht
    have hids':∀ id∈Ai x,e0.get 2 id≠.any:=fun id hid=>Mi hids hm id (by unfold Jm;split<;>simp [hid])
    have htoks':=Agx htok hm
    have hcond:∀ (p:T->Prop),p x->(∀ b y,x=.may b y->False)->Eb p x:=fun p hp hno=>by
     cases x with
     |may b y=>exact (hno b y rfl).elim
     |_=>exact hp
    have hnomay:∀ b y,x=.may b y->False:=(Acm hshape hm).1
    refine ⟨hrel hnomay (Xf hle hv.rel),?_,hcond _ hids' hnomay,hcond _ htoks' hnomay⟩
    cases x with
    |d x=>
     cases x with
     |c x=>
      cases x with
      |v x=>trivial
      |m _ _ _ _=>trivial
      |p _=>trivial
      |i _ _ _=>trivial
      |u=>trivial
      |s g n f=>
       cases g with
       |n=>trivial
       |t b=>
        intro el hel
        rcases tokPairs_mem htp hm with ⟨a',n',f',h1,h2,h3⟩|⟨v',h1⟩
        ·obtain ⟨el',h4,h5,h6⟩:=Agv h2
         rw [h5] at hel
         have hel':el'=el:=T.tok.inj (show T.tok el'=T.tok el from hel)
         subst hel'
         rw [h1] at hv hle
         obtain ⟨o1,o2⟩:=hv.own _ h4
         obtain ⟨e1,e2⟩:SEq n' f' n f:=hle _ List.mem_cons_self
         subst e1
         refine ⟨fun i hi=>by rw [<-(Mg (e2 i hi)).1];exact o1 i hi,?_⟩
         rcases o2 with o2|o2|⟨bb,xs,q1,q2,q3,q4⟩
         ·exact .inl o2
         ·exact .inr (.inl ⟨o2.1.imp id h6,o2.2⟩)
         ·exact .inr (.inr ⟨bb,xs,by rw [hgtk,htk _ _ h3];exact q1,q2,q3,by rw [hvis];exact q4⟩)
        ·rw [h1] at hv hle
         have hv':=Bs hv
         have e1:v'=.slice none 0 0:=Ap2 hle
         subst e1
         have e2:n=0:=hle _ List.mem_cons_self
         subst e2
         exact ⟨fun i hi=>absurd hi (Nat.not_lt_zero i),.inl hv'⟩
     |agg xs=>trivial
     |rd xs=>trivial
    |may b x=>exact (hnomay b x rfl).elim
    |_=>trivial
   have hlive:∀ {id:Nat},e.get 2 id=live->e0.get 2 id≠.any->e0.get 2 id=live:=fun {id} h1 h2=>by
    obtain ⟨_,h3⟩:=hused h2
    rw [h1] at h3
    by_cases ho:Cq (e0.get 2 id)=true
    ·exact Aca h3 ho
    ·have hne:e0.get 2 id≠.any:=h2
     generalize e0.get 2 id=x at h3 ho hne
     cases x with
     |any=>exact absurd rfl hne
     |tup xs=>cases xs with
      |nil=>rfl
      |cons _ _=>
       have h9:live=_:=h3 _ List.mem_cons_self
       exact h9.symm
     |arro el sz n f out=>cases out<;>exact (h3 (live=_) List.mem_cons_self).symm
     |_=>
      have h9:live=_:=h3 _ List.mem_cons_self
      exact h9.symm
   refine ⟨G',⟨⟨fun id k hk=>?_,fun id hid=>?_,fun id id' h1 h2=>?_⟩,R.size,by rw [hdm];exact R.defers,fun D hD=>?_,fun t=>?_,fun b blk hh=>?_,fun b b' blk h1 h2=>?_,fun b blk hh=>?_,fun b hb=>by rw [hvis];exact R.fresh b hb,fun b hb=>by rw [hvis];exact R.old b hb,
    R.base,fun id hid=>by rw [hbk];exact R.ownb id (hused hid).1,fun b hb=>by rw [hH] at hb;exact R.hlt b hb,fun b hb=>by rw [hH];exact R.fzh b hb,?_,fun id k hf h1 h2=>?_⟩,hvis,hbk,hH,hdm,fun k b hh=>?_,fun id hid=>(hused hid).1⟩
   ·have hm:=(get_mem (rfl:e0.get (id+3) k=e0.get (id+3) k)).resolve_left hk
    have hone:=(Acm hshape hm).2 (by omega)
    have hle:=Qb hall hm (by omega)
    obtain ⟨h1,h2,u,h3,h4⟩:=R.mem.cells id k (Xn hle hk)
    have hid:e0.get 2 id≠.any:=Mi hids hm id (by simp [Jm])
    exact ⟨hlive h1 hid,hone,u,by rw [hbk];exact h3,keep hm (by omega) h4⟩
   ·obtain ⟨h1,h2⟩:=hused hid
    obtain ⟨h3,h4,h5⟩:=R.mem.box id h1
    rw [hbk,hH]
    exact ⟨h3,h4,hobjv ⟨id,hid,rfl⟩ (Ap3 h2 hid h5)⟩
   ·rw [hbk];exact R.mem.inj id id' (hused h1).1 (hused h2).1
   ·rw [hdm] at hD;rw [hH];exact R.marks D hD
   ·rcases get_mem (rfl:e0.get 0 t=e0.get 0 t) with hh|hm
    ·rw [hh];exact VOK.any _
    ·exact keep hm (by decide) (R.slots t)
   ·have hkk:∃ a',G.tk a'=some blk:=by
     rcases hgt b blk hh with ⟨a',_,_,_,h⟩|⟨b',j,_,_,h⟩
     ·exact ⟨_,h⟩
     ·exact ⟨_,h⟩
    obtain ⟨a',h2⟩:=hkk
    obtain ⟨h3,h4,h5,h6,h7⟩:=R.tks a' blk h2
    exact ⟨h3,h4,by rw [hH];exact h5,h6,fun id hid=>by rw [hbk];exact h7 id (hused hid).1⟩
   ·rcases hgt b blk h1 with ⟨a1,b1,rfl,h3,h4⟩|⟨c1,j1,rfl,_,h4⟩<;>rcases hgt b' blk h2 with ⟨a2,b2,rfl,h5,h6⟩|⟨c2,j2,rfl,_,h6⟩
    ·have:=R.tinj _ _ blk h4 h6
     injection this with this
     rw [(hpairs h3 h5).1 this]
    ·exact absurd (R.tinj _ _ blk h4 h6) (by simp)
    ·exact absurd (R.tinj _ _ blk h4 h6) (by simp)
    ·exact R.tinj _ _ blk h4 h6
   ·rcases hgt b blk hh with ⟨a1,b1,rfl,h3,h4⟩|⟨c1,j1,rfl,⟨id,h3,h4⟩,_⟩
    ·obtain ⟨el,h5,h6,_⟩:=Agv (Sn htp h3)
     show e0.get 1 b1≠.any
     rw [h6];intro hx;cases hx
    ·exact ⟨id,h3,by rw [hbk];exact h4⟩
   ·rw [hvis,hH]
    have:trN (e0.get 0 BIG)=trN (e.get 0 BIG):=by
     by_cases h0:e0.get 0 BIG=.any
     ·rw [h0]
      cases hx:e.get 0 BIG with
      |tr p=>
       have hm:=(get_mem hx).resolve_left (by simp)
       exact absurd h0 ((So hfar).2 hm)
      |_=>rfl
     ·have hm:=(get_mem (rfl:e0.get 0 BIG=e0.get 0 BIG)).resolve_left h0
      have hle:=Qb hall hm (by decide)
      generalize e.get 0 BIG=x at hle
      generalize e0.get 0 BIG=y at hle h0
      unfold leT at hle
      split at hle<;>first
       |exact absurd rfl h0
       |rfl
       |(have h9:=hle _ List.mem_cons_self;rw [h9];done)
       |(have h9:=hle _ List.mem_cons_self;simp only [trN];rw [h9])
    rw [this]
    exact R.jj
   ·rw [hbk]
    have hid:e0.get 2 id≠.any:=by rw [h1];exact Bh
    have hel:e.get 2 id=live:=by
     obtain ⟨_,h3⟩:=hused hid
     rw [h1] at h3
     generalize e.get 2 id=x at h3
     cases x with
     |tup xs=>cases xs with
      |nil=>rfl
      |cons _ _=>
       have h9:_=live:=h3 _ List.mem_cons_self
       exact h9
     |_=>
      have h9:_=live:=h3 _ List.mem_cons_self
      exact h9
    have hek:e.get (id+3) k=.any:=by
     by_cases hh:e.get (id+3) k=.any
     ·exact hh
     ·have hm:=(get_mem (rfl:e.get (id+3) k=e.get (id+3) k)).resolve_left hh
      exact absurd h2 ((So hfar).1 hm hf hid)
    exact R.far id k hf hel hek
   ·rcases hgt k b hh with ⟨a1,_,_,_,h4⟩|⟨c1,j1,_,_,h4⟩
    ·exact ⟨_,h4⟩
    ·exact ⟨_,h4⟩
theorem Mj (h:le e e0) (R:Rel Y X nt ds e a w G):Cf Y X nt ds e0 a w:=by
 obtain ⟨G',R',_⟩:=Sp h R
 exact ⟨G',R'⟩
end
section
variable {P:Program} {Y:TypeId->Ty} {Gl:World->Prop} {X:Cx} {nt:Nat} {ds:List Deferred} {e e0:Env} {a:Act} {w:World} {G:Gh} {rd:Option Nat} {fu:Nat} {yd:Yd}
def Oa (Y:TypeId->Ty) (X:Cx) (nt:Nat) (ds:List Deferred) (Q:Dm):Exit->Act->World->Prop
 | .normal,a,w=>∃ o e,Q .normal o e/\Cf Y X nt ds e a w
 | .exit id,a,w=>∃ o e,Q (.exit id) o e/\Cf Y X nt ds e a w
 | .ret,a,w=>∃ o e,Q .ret o e/\Cf Y X nt ds e a w
 | .panic chain,a,w=>∃ v o e,chain=[{ v,recovered:=false }]/\Q (.panic v) o e/\Cf Y X nt ds e a w
 | .goto _,_,_=>False
 | .outgrown,_,_=>False
theorem Agy (R:Rel Y X nt ds e a w G) {c:Operand} {x:T} (h:evX e c=x) (hx:x≠.any) (hc:∀ v,c=.const v->v.oneCell'=true):VOK G w X.fz Y e x (a.eval c):=by
 cases c with
 |tmp t=>
  simp only [evX] at h
  cases hf:Nat.blt t FAR with
  |false=>rw [hf] at h;exact absurd h.symm hx
  |true=>
   rw [hf,cond_true] at h
   have:=R.slots t
   unfold Dg at this
   rw [if_pos (Bg hf),h] at this
   exact this
 |const v=>simp only [evX] at h;subst h;exact VOK.v v (hc v rfl)
 |func f=>simp only [evX] at h;exact absurd h.symm hx
 |global g=>simp only [evX] at h;exact absurd h.symm hx
theorem Acn (R:Rel Y X nt ds e a w G) {c:Operand} {b:Bool} (h:evX e c=.d (.c (.v (.bool b)))):a.eval c=.bool b:=by
 cases c with
 |const v=>
  simp only [evX,T.d.injEq,D.c.injEq,C.v.injEq] at h
  exact h
 |_=>exact Bs (Agy R h (by simp) (fun v hv=>by cases hv))
theorem Qc {b:Frame} {c:Code} {k:List Item} {cs:List Frame}:step P (lone (b.atR a (.code (.scope c)::k)) cs w)=.next (lone (b.atR a (.code c::.inScope c::k)) cs w):=
 step_lone_go (by simp [stepG,stepG.exec,Frame.atR])
theorem Ap4 {b:Frame} {c:Code} {k:List Item} {cs:List Frame}:step P (lone (b.atR a (.inScope c::k)) cs w)=.next (lone (b.atR a k) cs w):=
 step_lone_go (by simp [stepG,stepG.exec,Frame.atR])
theorem Ap5 {F:Fence} {n:Nat} {c:Code} {Q:Exit->Act->World->Prop} (h:c.wpIn F n P (Exit.noGoto Q) a w):(Code.scope c).wpIn F n P Q a w:=by
 intro b k cs hro hb hr
 have h0:(lone (b.atR a (.code (.scope c)::k)) cs w).fenced P F:=fenced_calm hb hr rfl
 obtain ⟨e,a₁,w₁,hq,harr⟩:=h b (.inScope c::k) cs hro hb hr
 cases e with
 |normal=>exact ⟨.normal,a₁,w₁,hq,.head h0 Qc (StepsIn.trans harr (.one (fenced_calm hb hr rfl) Ap4))⟩
 |exit id=>
  have hx:exitTo id (.inScope c::k)=exitTo id k:=by simp [exitTo]
  exact ⟨.exit id,a₁,w₁,hq,fun k' hk=>.head h0 Qc (harr.1 k' (by rw [hx];exact hk)),
   fun hr' hk=>let ⟨k₁,h1,h2⟩:=harr.2 hr' (by rw [hx];exact hk);⟨k₁,h1,.head h0 Qc h2⟩⟩
 |goto l=>exact hq.elim
 |ret=>exact ⟨_,a₁,w₁,hq,.of_steps (.one h0 Qc) harr⟩
 |panic ch=>exact ⟨_,a₁,w₁,hq,.of_steps (.one h0 Qc) harr⟩
 |outgrown=>exact ⟨_,a₁,w₁,hq,.of_steps (.one h0 Qc) harr⟩
def Sq (P:Program) (Y:TypeId->Ty) (Gl:World->Prop) (nt:Nat) (b:Bool) (c:Code):Prop:=
 ∀ {X:Cx} {yd:Yd} {ds:List Deferred} {rd:Option Nat} {fu:Nat} (_:Sur P Gl X yd) (_:b=false->rd=none) (Q:Dm) (orc:Orc) (e:Env) (a:Act) (w:World),
  wp (Computes P Gl) (Does P Y Gl) Y nt yd b c Q orc e->Cf Y X nt ds e a w->c.wpIn (Fr rd) fu P (Oa Y X nt ds Q) a w
theorem Xs {vis:Nat->Nat} {l:Nat} {r r':Loop} (h:w.heap[l]?=some (.loop r)):KeepV vis w (w.putObj l (.loop r')):=by
 refine ⟨fun b i _=>?_,fun b _ es c hb=>?_,fun b cs t z hb=>?_⟩
 ·by_cases hbl:b=l
  ·subst hbl
   have h2:(w.putObj b (.loop r')).heap[b]?=some (.loop r'):=World.putObj_heap_same (Array.getElem?_eq_some_iff.1 h).1
   simp [World.cell?,h,h2]
  ·exact World.cell?_of_block (World.putObj_heap_other hbl)
 ·have hbl:b≠l:=fun hh=>by rw [hh,h] at hb;cases hb
  rw [World.putObj_heap_other hbl];exact hb
 ·have hbl:b≠l:=fun hh=>by rw [hh,h] at hb;cases hb
  exact ⟨cs,t,z,by rw [World.putObj_heap_other hbl];exact hb,Nat.le_refl _⟩
theorem Sr {l:Nat} {o:Obj}:Same w (w.putObj l o):=⟨rfl,rfl,rfl,by simp⟩
end
theorem Jv {b:Bool} {p:Prop} (h:ifB b p):b=true/\p:=by
 cases b with
 |true=>exact ⟨rfl,h⟩
 |false=>exact h.elim
theorem Qd:∀ {e:Env},Ku e=true->∀ (t k:Nat),Env.get (Dy e) t k=if t=0 then (if k<FAR then e.get 0 k else if k<FAR+FAR then e.get 0 (k - FAR) else .any) else e.get t k
 | [],_,t,k=>by simp [Dy,Env.get]
 |(0,k',x)::e,h,t,k=>by
  simp only [Ku,Bool.and_eq_true] at h
  have hk:=Bg h.1
  have ih:=Qd h.2
  simp only [Dy,h.1,cond_true]
  rw [Ap,Ap,ih,Ap 0 k' x e 0 k,Ap 0 k' x e 0 (k - FAR),Ap 0 k' x e t k]
  by_cases ht:t=0
  ·subst ht
   simp only [true_and,if_true]
   repeat' split
   all_goals first|rfl|omega
  ·rw [if_neg (fun hh=>ht hh.1.symm),if_neg (fun hh=>ht hh.1.symm),if_neg ht,if_neg ht,if_neg (fun hh=>ht hh.1.symm)]
 |(n+1,k',x)::e,h,t,k=>by
  have ih:=Qd (e:=e) h
  have he:Dy ((n+1,k',x)::e)=(n+1,k',x)::Dy e:=rfl
  rw [he,Ap,ih,Ap (n+1) k' x e 0 k,Ap (n+1) k' x e 0 (k - FAR),Ap (n+1) k' x e t k]
  by_cases ht:t=0
  ·subst ht;simp
  ·rw [if_neg ht,if_neg ht]
theorem Ss:∀ (e:Env) (t k:Nat),Env.get (Ea e) t k=if t=0 then (if k<FAR then e.get 0 (k+FAR) else .any) else e.get t k
 | [],t,k=>by simp [Ea,Env.get]
 |(0,k',x)::e,t,k=>by
  have ih:=Ss e
  by_cases ht:t=0
  ·subst ht
   simp only [Ea,if_true]
   cases h1:Nat.blt k' FAR with
   |true=>
    have:=Bg h1
    rw [cond_true,ih,if_pos rfl,Ap]
    repeat' split
    all_goals first|rfl|omega
   |false=>
    have h1':¬ k'<FAR:=fun hh=>by
     have:Nat.blt k' FAR=true:=Nat.ble_eq_true_of_le hh
     rw [h1] at this;cases this
    rw [cond_false]
    cases h2:Nat.blt k' (FAR+FAR) with
    |true=>
     have:=Bg h2
     rw [cond_true,Ap,ih,if_pos rfl,Ap]
     repeat' split
     all_goals first|rfl|omega
    |false=>
     have h2':¬ k'<FAR+FAR:=fun hh=>by
      have:Nat.blt k' (FAR+FAR)=true:=Nat.ble_eq_true_of_le hh
      rw [h2] at this;cases this
     rw [cond_false,ih,if_pos rfl,Ap]
     repeat' split
     all_goals first|rfl|omega
  ·rw [if_neg ht,Ax (fun hh=>ht hh.1.symm)]
   simp only [Ea]
   cases Nat.blt k' FAR with
   |true=>rw [cond_true,ih,if_neg ht]
   |false=>
    rw [cond_false]
    cases Nat.blt k' (FAR+FAR) with
    |true=>rw [cond_true,Ax (fun hh=>ht hh.1.symm),ih,if_neg ht]
    |false=>rw [cond_false,ih,if_neg ht]
 |(n+1,k',x)::e,t,k=>by
  have ih:=Ss e
  have he:Ea ((n+1,k',x)::e)=(n+1,k',x)::Ea e:=rfl
  rw [he,Ap,ih,Ap (n+1) k' x e 0 (k+FAR),Ap (n+1) k' x e t k]
  by_cases ht:t=0
  ·subst ht;simp
  ·rw [if_neg ht,if_neg ht]
section
variable {P:Program} {Y:TypeId->Ty} {Gl:World->Prop} {X:Cx} {nt:Nat} {ds:List Deferred} {e e0:Env} {a:Act} {w:World} {G:Gh} {rd:Option Nat} {fu:Nat} {yd:Yd}
theorem Ap6 {O:Nat->Prop} {x:T} {v:Value} (hx:Fa x=true) (h:Aa (Gh0 G.vis) w (fun _=>False) x v):VOK G w O Y e x.dem v:=by
 have h:=Aa.pure (G:=Gh0 G.vis) (G':=G) (O':=O) rfl hx h
 cases x with
 |d x=>simp only [Aa] at h;exact VOK.dem h
 |fn f a b=>exact .plain h (Aby hx) rfl trivial
 |_=>simp [Fa] at hx
theorem Aco {O:Nat->Prop} {E E0:Env}:∀ {ps:List Tmp} {xs:List T} {vs:List Value} {acc r:Env} {A:Array Value},params nt ps xs acc=some r->Ab (Gh0 G.vis) w (fun _=>False) xs vs->De xs=true->A.size=nt->
  (∀ t,t<FAR->VOK G w O Y E (Env.get (acc++E0) 0 t) (A.getD t undef))->
  ((ps.zip vs).foldl (fun t (p,v)=>t.setIfInBounds p v) A).size=nt/\(∀ t,t<FAR->VOK G w O Y E (Env.get (r++E0) 0 t) (((ps.zip vs).foldl (fun t (p,v)=>t.setIfInBounds p v) A).getD t undef))/\
   (∀ t k,t≠0∨FAR<=k->Env.get (r++E0) t k=Env.get (acc++E0) t k)/\ps.length=vs.length
 | [],[],vs,acc,r,A,h,hr,_,hA,ha=>by
  simp only [params,Option.some.injEq] at h
  subst h
  simp only [Ab] at hr
  subst hr
  exact ⟨hA,ha,fun _ _ _=>rfl,rfl⟩
 |t::ps,x::xs,vs,acc,r,A,h,hr,hp,hA,ha=>by
  simp only [params] at h
  simp only [Ab] at hr
  obtain ⟨v,us,rfl,h1,h2⟩:=hr
  simp only [De,Bool.and_eq_true] at hp
  cases hb:(Nat.blt t nt&&Nat.blt t FAR) with
  |false=>rw [hb] at h;cases h
  |true=>
   rw [hb,cond_true] at h
   simp only [Bool.and_eq_true] at hb
   have ht1:=Bg hb.1
   have ht2:=Bg hb.2
   obtain ⟨q1,q2,q3,q4⟩:=Aco (O:=O) (E:=E) (E0:=E0) (A:=A.setIfInBounds t v) h h2 hp.2 (by simpa using hA) (fun t' ht'=>by
    rw [List.cons_append,Ap]
    by_cases htt:t=t'
    ·subst htt
     rw [if_pos ⟨rfl,rfl⟩]
     have:(A.setIfInBounds t v).getD t undef=v:=by simp [Array.getD_eq_getD_getElem?,hA,ht1]
     rw [this]
     exact Ap6 hp.1 h1
    ·rw [if_neg (fun hh=>htt hh.2)]
     have:(A.setIfInBounds t v).getD t' undef=A.getD t' undef:=by simp [Array.getD_eq_getD_getElem?,Array.getElem?_setIfInBounds_ne htt]
     rw [this]
     exact ha t' ht')
   refine ⟨q1,q2,fun t' k hk=>?_,by simp [q4]⟩
   rw [q3 t' k hk,List.cons_append,Ax]
   rintro ⟨rfl,rfl⟩
   rcases hk with h|h
   ·exact h rfl
   ·omega
 | [],_::_,_,_,_,_,h,_,_,_,_|_::_,[],_,_,_,_,h,_,_,_,_=>by simp [params] at h
def JB (X:Cx) (Ho Z:Nat->Prop) (vi v2:Nat->Nat) (W2:World):Oth:=fun p H' vi' w'=>
 p=0/\X.J 0 Ho vi' w'/\(∀ b,Ho b->H' b)/\(∀ b,Z b->H' b/\vi' b=v2 b/\w'.heap[b]?=W2.heap[b]?)/\(∀ b,vi b<=vi' b)/\KeepV vi W2 w'/\Same W2 w'
theorem Agz {X:Cx} {Ho Z:Nat->Prop} {vi v2:Nat->Nat} {W2:World}:(JB X Ho Z vi v2 W2).Stable:=by
 refine ⟨fun p H' vi' w w' ⟨h0,h1,h2,h3,h4,h5,h6⟩ hb hk hs=>⟨h0,X.st.1 _ _ _ _ _ h1 (fun b hb'=>hb b (h2 b hb')) hk hs,h2,fun b hz=>⟨(h3 b hz).1,(h3 b hz).2.1,(hb b (h3 b hz).1).trans (h3 b hz).2.2⟩,h4,h5.trans (hk.le h4),h6.trans hs⟩,
  fun p H' vi' vi'' w ⟨h0,h1,h2,h3,h4,h5,h6⟩ hl he=>⟨h0,X.st.2 _ _ _ _ _ h1 hl (fun b hb'=>he b (h2 b hb')),h2,fun b hz=>⟨(h3 b hz).1,(he b (h3 b hz).1).trans (h3 b hz).2.1,(h3 b hz).2.2⟩,fun b=>Nat.le_trans (h4 b) (hl b),h5,h6⟩⟩
def Ph (s:Nat) (st:Nat->Env) (Q:Dm) (p:Nat) (ep:Env) (state:LoopState) (pend:Option Code):Prop:=
 (p<=s/\ep=st p/\state=.ready/\pend=none)∨(p=s+1/\state=.done/\∃ o,(∃ i,pend=some (.exit i)/\Q (.exit i) o ep)∨(pend=some .ret/\Q .ret o ep))
def JI (Y:TypeId->Ty) (X:Cx) (nt:Nat) (ds:List Deferred) (a:Act) (G:Gh) (D l n1 s:Nat) (st:Nat->Env) (rec:LoopState->Option Code->Loop) (Q:Dm):Oth:=fun p H vi W=>
 (∀ b,b<n1->H b)/\∃ Gp ep state pend,Rel Y X nt ds ep a W Gp/\Gp.H=G.H/\Gp.dm=G.dm/\(∀ b,Iz ep Gp b->H b/\b≠D/\b≠l/\b ∉ G.dm)/\W.heap[D]?=some (.deferred (some []))/\W.heap[l]?=some (.loop (rec state pend))/\
  (∀ b,H b->vi b<=Gp.vis b)/\(∀ b,¬ H b->Gp.vis b<=vi b)/\Ph s st Q p ep state pend
theorem Ap7 {D l n1 s:Nat} {st:Nat->Env} {rec:LoopState->Option Code->Loop} {Q:Dm} (hD:D<n1) (hl:l<n1) (hG:∀ b,G.H b->b<n1) (hdm:∀ b,b∈G.dm->b<n1):(JI Y X nt ds a G D l n1 s st rec Q).Stable:=by
 refine ⟨fun p H vi w w' ⟨h0,Gp,ep,state,pend,R,h1,h2,h3,h4,h5,h6,h7,h8⟩ hb hk hs=>⟨h0,Gp,ep,state,pend,?_,h1,h2,h3,by rw [hb D (h0 D hD)];exact h4,by rw [hb l (h0 l hl)];exact h5,h6,h7,h8⟩,
  fun p H vi vi' w ⟨h0,Gp,ep,state,pend,R,h1,h2,h3,h4,h5,h6,h7,h8⟩ hle he=>⟨h0,Gp,ep,state,pend,R,h1,h2,h3,h4,h5,fun b hb=>by rw [he b hb];exact h6 b hb,fun b hb=>Nat.le_trans (h7 b hb) (hle b),h8⟩⟩
 have hkeep:∀ b,Iz ep Gp b∨Gp.H b∨b∈Gp.dm->w'.heap[b]?=w.heap[b]?:=fun b hh=>by
  rcases hh with hh|hh|hh
  ·exact hb b (h3 b hh).1
  ·rw [h1] at hh;exact hb b (h0 b (hG b hh))
  ·rw [h2] at hh;exact hb b (h0 b (hdm b hh))
 refine R.stay hs ⟨fun b i hi=>?_,fun b hv es c he=>?_,hk.rows⟩ hkeep
 ·by_cases hH:H b
  ·exact World.cell?_of_block (hb b hH)
  ·exact hk.cell b i (Nat.lt_of_lt_of_le hi (h7 b hH))
 ·by_cases hH:H b
  ·rw [hb b hH];exact he
  ·exact hk.map b (Nat.lt_of_lt_of_le hv (h7 b hH)) es c he
theorem Ap8 (S:Set P Y Gl) (U:Sur P Gl X yd) (hm0:yd.m=0) {ps:Array Tmp} {as' c:Code} (has:Sq P Y Gl nt true as') (hc:Sq P Y Gl nt true c) {Q:Dm} {fn:FuncId} {D l n1 m s:Nat} {ys:Nat->List T} {st:Nat->Env} {ob:Nat->Orc} {rec:LoopState->Option Code->Loop}
  (hrec:rec=fun st pe=>{ state:=st,pending:=pe,fn,tmps:=a.tmps,params:=ps,assign:=as',body:=c,defers:=D }) (hDl:D<n1) (hll:l<n1) (hlD:l≠D) (hbn:X.base<=n1) (hG:∀ b,G.H b->b<n1/\b≠D/\b≠l) (hdm:∀ b,b∈G.dm->b<n1/\b≠D/\b≠l)
  (hb:∀ p,p<m->p<=s->Ab9 nt ps.toList (ys p) fun pe=>ifB (Ku (st p)) (wp (Computes P Gl) (Does P Y Gl) Y nt yd true as' (Vc.X.only fun o e=>wp (Computes P Gl) (Does P Y Gl) Y nt yd true c (Vc.X.round (fun e'=>p<s/\le (Ea e') (st (p+1))) (p=s) Q) o e) (ob p) (pe++Dy (st p)))):
  Sh P (JI Y X nt ds a G D l n1 s st rec Q) ⟨l,m,s,ys⟩:=by
 classical
 intro p H vi W vs hpm hps hJ hHlt hfr hpure hrel
 obtain ⟨hall,Gp,ep,state,pend,Rp,hH,hdmp,hown,hD,hl,hv1,hv2,hph⟩:=hJ
 rcases hph with ⟨_,rfl,rfl,rfl⟩|⟨hbad,_⟩
 case inr=>dsimp only at hps;omega
 have hbp:=hb p hpm hps
 unfold Ab9 at hbp
 split at hbp
 case h_2=>exact hbp.elim
 rename_i pe hpe
 obtain ⟨_,hbp⟩:=Jv hbp
 obtain ⟨hnf,hbp⟩:=Jv hbp
 have hlt:l<W.heap.size:=(Array.getElem?_eq_some_iff.1 hl).1
 have hDW:D<W.heap.size:=(Array.getElem?_eq_some_iff.1 hD).1
 -- the world in which the body begins
 obtain ⟨W2,hW2⟩:∃ W2,W.putObj l (.loop { rec .ready none with state:=.busy })=W2:=⟨_,rfl⟩
 have hsz2:W2.heap.size=W.heap.size:=by rw [<-hW2];simp
 have hl2:W2.heap[l]?=some (.loop { rec .ready none with state:=.busy }):=by rw [<-hW2];exact World.putObj_heap_same hlt
 have hoth2:∀ b,b≠l->W2.heap[b]?=W.heap[b]?:=fun b hb=>by rw [<-hW2];exact World.putObj_heap_other hb
 have hkv2:∀ vis,KeepV vis W W2:=fun vis=>by rw [<-hW2];exact Xs hl
 have hsm2:Same W W2:=by rw [<-hW2];exact Sr
 -- what is visible to the body
 obtain ⟨v2,hv2d⟩:∃ v2:Nat->Nat,v2=fun b=>if H b then Gp.vis b else vi b:=⟨_,rfl⟩
 have hv2H:∀ b,H b->v2 b=Gp.vis b:=fun b h=>by rw [hv2d];simp [h]
 have hv2N:∀ b,¬ H b->v2 b=vi b:=fun b h=>by rw [hv2d];simp [h]
 have hGv2:∀ b,Gp.vis b<=v2 b:=fun b=>by
  by_cases h:H b
  ·rw [hv2H b h];exact Nat.le_refl _
  ·rw [hv2N b h];exact hv2 b h
 have hiv2:∀ b,vi b<=v2 b:=fun b=>by
  by_cases h:H b
  ·rw [hv2H b h];exact hv1 b h
  ·rw [hv2N b h];exact Nat.le_refl _
 have hGH:∀ b,G.H b->H b:=fun b h=>hall b (hG b h).1
 -- the blocks that are not the body's
 let Z:Nat->Prop:=fun b=>b<W.heap.size/\(¬ H b∨b=D∨b=l∨b∈G.dm)
 have hZ:∀ b,Z b↔b<W.heap.size/\(¬ H b∨b=D∨b=l∨b∈G.dm):=fun b=>Iff.rfl
 clear_value Z
 let X2:Cx:={ X with sh:=a.tmps,J:=JB X G.H Z vi v2 W2,st:=Agz }
 have hXJ2:X2.J=JB X G.H Z vi v2 W2:=rfl
 have hX2f:X2.fz=X.fz:=rfl
 have hX2b:X2.base=X.base:=rfl
 have hX2c:X2.c0=X.c0:=rfl
 have hX2v:X2.vis=X.vis:=rfl
 have hX2k:X2.bk0=X.bk0:=rfl
 have hX2s:X2.sh=a.tmps:=rfl
 clear_value X2
 let X1:Cx:={ X with sh:=a.tmps,J:=JB X G.H Z vi v2 W,st:=Agz }
 have hXJ1:X1.J=JB X G.H Z vi v2 W:=rfl
 have hX1f:X1.fz=X.fz:=rfl
 have hX1b:X1.base=X.base:=rfl
 have hX1c:X1.c0=X.c0:=rfl
 have hX1v:X1.vis=X.vis:=rfl
 have hX1k:X1.bk0=X.bk0:=rfl
 have hX1s:X1.sh=a.tmps:=rfl
 have hX12s:X1.sh=X2.sh:=by rw [hX1s,hX2s]
 clear_value X1
 have hU1:Sur P Gl X1 yd:=⟨fun p H vi w h=>by rw [hXJ1] at h;exact U.gl _ _ _ _ h.2.1,fun p H vi w vs hp=>by omega,.inl hm0⟩
 have hU2:Sur P Gl X2 yd:=⟨fun p H vi w h=>by rw [hXJ2] at h;exact U.gl _ _ _ _ h.2.1,fun p H vi w vs hp=>by omega,.inl hm0⟩
 obtain ⟨G2,hG2⟩:∃ G2:Gh,({ vis:=v2,bk:=Gp.bk,tk:=Gp.tk,H:=fun b=>b<W.heap.size/\(Z b∨G.H b),dm:=⟨[],.nil⟩ }:Gh)=G2:=⟨_,rfl⟩
 have hG2v:G2.vis=v2:=by subst hG2;rfl
 have hG2H:∀ b,G2.H b↔b<W.heap.size/\(Z b∨G.H b):=fun b=>by subst hG2;exact Iff.rfl
 have hrel2:Ab (Gh0 G2.vis) W (fun _=>False) (ys p) vs.toList:=by
  refine Ab.mono (O:=fun _=>False) (G:=Gh0 vi) (G':=Gh0 G2.vis) (w:=W) (w':=W) ⟨fun b=>?_,.refl _ _,fun b hb=>hb.elim⟩ (fun _ _=>rfl) hrel
  show vi b<=G2.vis b
  rw [hG2v];exact hiv2 b
 have hext:Ext X.fz Gp G2 W W:=⟨fun b=>by rw [hG2v];exact hGv2 b,.refl _ _,fun b hb=>rfl⟩
 have hown2:∀ b,Iz (st p) Gp b->b<W.heap.size:=fun b hb=>by
  rcases hb with ⟨id,h1,rfl⟩|⟨k,h1⟩
  ·exact (Rp.mem.box id h1).2.1
  ·exact (Rp.tks k b h1).2.1
 have hownH:∀ b,Iz (st p) Gp b->¬ G.H b:=fun b hb=>by
  rw [<-hH]
  rcases hb with ⟨id,h1,rfl⟩|⟨k,h1⟩
  ·exact (Rp.mem.box id h1).1
  ·exact (Rp.tks k b h1).2.2.1
 have hbig:Env.get (st p) 0 BIG=.any:=by
  have:∀ {e:Env},Ku e=true->Env.get e 0 BIG=.any:=by
   intro e
   induction e with
   |nil=>intro _;rfl
   |cons q e ih=>
    obtain ⟨t,k,x⟩:=q
    intro h
    cases t with
    |zero=>
     simp only [Ku,Bool.and_eq_true] at h
     have:=Bg h.1
     rw [Ax (by rintro ⟨_,rfl⟩;unfold FAR BIG at this;omega)]
     exact ih h.2
    |succ n=>rw [Ax (by rintro ⟨h,_⟩;cases h)];exact ih h
  exact this hnf
 have hFB:FAR+FAR<=BIG:=by decide
 -- the frame of the round
 obtain ⟨A,hA⟩:∃ A,(ps.toList.zip vs.toList).foldl (fun t (p,v)=>t.setIfInBounds p v) a.tmps=A:=⟨_,rfl⟩
 have hpar:=fun lift:(∀ x v,VOK Gp W X.fz Y (st p) x v->VOK G2 W X.fz Y (pe++Dy (st p)) x v)=>Aco (Y:=Y) (G:=G2) (w:=W) (O:=X.fz) (E:=pe++Dy (st p)) (E0:=Dy (st p)) (A:=a.tmps) hpe hrel2 hpure Rp.size (fun t ht=>by
  rw [List.nil_append,Qd hnf,if_pos rfl,if_pos ht]
  have:=lift _ _ (Rp.slots t)
  unfold Dg at this
  rw [if_pos ht] at this
  exact this)
 have hpar0:=Aco (Y:=Y) (G:=G2) (w:=W) (O:=X.fz) (E:=pe++Dy (st p)) (E0:=[]) (A:=Array.replicate nt undef) hpe hrel2 hpure (by simp) (fun t ht=>VOK.any _)
 have hlen:vs.size=ps.size:=by have:=hpar0.2.2.2;simpa using this.symm
 have hget:∀ t k,t≠0∨FAR<=k->Env.get (pe++Dy (st p)) t k=Env.get (Dy (st p)) t k:=by
  have hgen:∀ {ps:List Tmp} {xs:List T} {acc r:Env},params nt ps xs acc=some r->∀ t k,t≠0∨FAR<=k->Env.get (r++Dy (st p)) t k=Env.get (acc++Dy (st p)) t k:=by
   intro ps
   induction ps with
   |nil=>intro xs acc r h t k _;cases xs<;>simp [params] at h;subst h;rfl
   |cons q ps ih=>
    intro xs acc r h t k hk
    cases xs with
    |nil=>simp [params] at h
    |cons x xs=>
     simp only [params] at h
     cases hb:(Nat.blt q nt&&Nat.blt q FAR) with
     |false=>rw [hb] at h;cases h
     |true=>
      rw [hb,cond_true] at h
      simp only [Bool.and_eq_true] at hb
      have:=Bg hb.2
      rw [ih h t k hk,List.cons_append,Ax]
      rintro ⟨rfl,rfl⟩
      rcases hk with h|h
      ·exact h rfl
      ·omega
  exact fun t k hk=>hgen hpe t k hk
 have hjj0:=Rp.jj
 rw [hbig,hH] at hjj0
 have R2:Rel Y X1 nt [] (pe++Dy (st p)) { tmps:=A,defers:=[] } W G2:=by
  have hbt:∀ t k,t≠0->Env.get (pe++Dy (st p)) t k=Env.get (st p) t k:=fun t k ht=>by rw [hget t k (.inl ht),Qd hnf,if_neg ht]
  refine Rp.re hext hX1f (by subst hG2;rfl) (by subst hG2;rfl) hX1b hX1c hX1k (fun b hb=>?_) (by omega) hbt ?_ (by subst hG2;rfl) (by subst hG2;intro D hD;exact (List.not_mem_nil hD).elim) (fun lift t=>?_) (fun b hb=>?_) (fun b hb=>?_) (fun b hb=>?_) (fun b hb=>?_) ?_
  ·obtain ⟨q1,q2,q3,q4⟩:=hown b hb
   refine ⟨rfl,by rw [hG2v,hv2H b q1],fun hh=>?_⟩
   rcases ((hG2H b).1 hh).2 with h|h
   ·rcases ((hZ b).1 h).2 with h|h|h|h
    ·exact h q1
    ·exact q2 h
    ·exact q3 h
    ·exact q4 h
   ·exact hownH b hb h
  ·have lift:∀ x v,VOK Gp W X.fz Y (st p) x v->VOK G2 W X.fz Y (pe++Dy (st p)) x v:=fun x v h=>
    VOK.mono hext (fun id _=>by subst hG2;rfl) (fun id h=>by rw [hbt 2 id (by decide)];exact h) (fun k h=>by rw [hbt 1 k (by decide)];exact ⟨h,fun _ h=>h⟩)
     (fun k b _ hb _=>by obtain ⟨q1,q2,q3,q4⟩:=hown b (.inr ⟨k,hb⟩);exact ⟨by subst hG2;exact hb,rfl,by rw [hG2v,hv2H b q1]⟩) h
   have:=(hpar lift).1
   rw [hA] at this
   exact this
  ·by_cases ht:t<FAR
   ·have:=(hpar lift).2.1 t ht
    rw [hA] at this
    unfold Dg
    rw [if_pos ht]
    exact this
   ·rw [hget 0 t (.inr (by omega)),Qd hnf,if_pos rfl,if_neg ht]
    split
    ·rename_i h2
     have:=lift _ _ (Rp.slots (t - FAR))
     unfold Dg at this ⊢
     rw [if_pos (by omega)] at this
     rw [if_neg ht,hX1s]
     exact this
    ·exact VOK.any _
  ·rw [hG2v]
   have hbW:W.heap.size<=b:=by omega
   rw [hv2N b (fun hh=>by have:=hHlt b hh;omega)]
   exact hfr b hbW
  ·rw [hX1b] at hb
   rw [hX1v,hG2v]
   by_cases h:H b
   ·rw [hv2H b h];exact Rp.old b hb
   ·exact absurd (hall b (by omega)) h
  ·have:=((hG2H b).1 hb).1;omega
  ·rw [hX1f] at hb
   have:=Rp.fzh b hb
   exact (hG2H b).2 ⟨Rp.hlt b this,.inr (by rw [<-hH];exact this)⟩
  ·rw [hXJ1,hget 0 BIG (.inr (by omega)),Qd hnf,if_pos rfl,if_neg (by omega),if_neg (by omega),hG2v]
   refine ⟨rfl,?_,fun b hb=>(hG2H b).2 ⟨hHlt b (hGH b hb),.inr hb⟩,fun b hb=>⟨(hG2H b).2 ⟨((hZ b).1 hb).1,.inl hb⟩,rfl,rfl⟩,hiv2,.refl _ _,.refl _⟩
   exact X.st.2 _ _ _ _ _ hjj0 hGv2 (fun b hb=>hv2H b (hGH b hb))
 have hwa:=has (fu:=0) (rd:=some l) hU1 (by intro h;cases h) _ (ob p) _ _ W hbp ⟨G2,R2⟩
 have hy:=run_yield (P:=P) (args:=vs) hl (by rw [hrec];exact hlen)
 rw [hrec] at hy
 refine ⟨fn,_,as',c,hy,roundIn_of_wpIn trivial ?_⟩
 have hAA:(ps.zip vs).foldl (fun tmps (t,a)=>tmps.setIfInBounds t a) a.tmps=A:=by
  rw [<-hA,<-Array.foldl_toList];simp
 rw [hAA]
 refine wpIn_mono hwa fun ex1 a1 Wa hq1=>?_
 cases ex1 with
 |exit i=>obtain ⟨o,e',h1,_⟩:=hq1;exact h1.elim
 |ret=>obtain ⟨o,e',h1,_⟩:=hq1;exact h1.elim
 |panic ch=>obtain ⟨v,o,e',_,h1,_⟩:=hq1;exact h1.elim
 |goto t=>exact hq1.elim
 |outgrown=>exact hq1.elim
 |normal=>
 obtain ⟨oa,ea,hbp1,⟨Ga,Ra⟩⟩:=hq1
 have hja:=Ra.jj
 rw [hXJ1] at hja
 obtain ⟨ja0,ja1,ja2,ja3,ja4,ja5,ja6⟩:=hja
 have hZl:Z l:=(hZ l).2 ⟨hlt,.inr (.inr (.inl rfl))⟩
 have hla:Wa.heap[l]?=some (.loop (rec .ready none)):=by rw [(ja3 l hZl).2.2];exact hl
 have hlta:l<Wa.heap.size:=(Array.getElem?_eq_some_iff.1 hla).1
 obtain ⟨Wb,hWb⟩:∃ Wb,Wa.putObj l (.loop { rec .ready none with state:=.busy })=Wb:=⟨_,rfl⟩
 have hszb:Wb.heap.size=Wa.heap.size:=by rw [<-hWb];simp
 have hothb:∀ b,b≠l->Wb.heap[b]?=Wa.heap[b]?:=fun b hb=>by rw [<-hWb];exact World.putObj_heap_other hb
 have hlb:Wb.heap[l]?=some (.loop { rec .ready none with state:=.busy }):=by rw [<-hWb];exact World.putObj_heap_same hlta
 have hkvb:∀ vis,KeepV vis Wa Wb:=fun vis=>by rw [<-hWb];exact Xs hla
 have hsmb:Same Wa Wb:=by rw [<-hWb];exact Sr
 refine ⟨Wb,by rw [<-hWb];exact run_beginRound hla (by rw [hrec]),?_⟩
 have howna:∀ b,Iz ea Ga b->b≠l/\¬ Ga.H b:=fun b hb=>by
  have:¬ Ga.H b:=by
   rcases hb with ⟨id,h1,rfl⟩|⟨k,h1⟩
   ·exact (Ra.mem.box id h1).1
   ·exact (Ra.tks k b h1).2.2.1
  exact ⟨fun hh=>this (by rw [hh];exact (ja3 l hZl).1),this⟩
 have R2b:Rel Y X2 nt [] ea a1 Wb Ga:=by
  refine Ra.re ⟨fun b=>Nat.le_refl _,hkvb _,fun b hb=>hothb b fun hh=>?_⟩ (by rw [hX2f,hX1f]) rfl rfl (by rw [hX2b,hX1b]) (by rw [hX2c,hX1c]) (by rw [hX2k,hX1k]) (fun b hb=>⟨hothb b (howna b hb).1,rfl,(howna b hb).2⟩) (by omega) (fun _ _ _=>rfl) Ra.size Ra.defers (fun D' hD'=>?_)
   (fun lift t=>by have:=lift _ _ (Ra.slots t);rw [hX12s] at this;exact this) (fun b hb=>Ra.fresh b (by omega)) (fun b hb=>by rw [Ra.old b (by rw [hX1b,<-hX2b];exact hb),hX1v,hX2v]) (fun b hb=>by have:=Ra.hlt b hb;omega) (fun b hb=>Ra.fzh b (by rw [hX1f,<-hX2f];exact hb)) ?_
  ·subst hh
   rw [hX1f] at hb
   have:=Rp.fzh b hb
   rw [hH] at this
   exact (hG b this).2.2 rfl
  ·obtain ⟨q1,q2,q3⟩:=Ra.marks D' hD'
   refine ⟨q1,?_,by rw [hX2b,<-hX1b];exact q3⟩
   rw [hothb D' (fun hh=>by rw [hh,hla] at q2;cases q2)]
   exact q2
  ·rw [hXJ2,ja0]
   refine ⟨rfl,X.st.1 _ _ _ _ _ ja1 (fun b hb=>hothb b (hG b hb).2.2) (hkvb _) hsmb,ja2,fun b hb=>⟨(ja3 b hb).1,(ja3 b hb).2.1,?_⟩,ja4,⟨fun b i hi=>?_,fun b hv es cl he=>?_,fun b cs t z he=>?_⟩,?_⟩
   ·by_cases hbl:b=l
    ·rw [hbl,hlb,hl2]
    ·rw [hothb b hbl,(ja3 b hb).2.2,hoth2 b hbl]
   ·rw [(hkvb vi).cell b i hi,ja5.cell b i hi,<-(hkv2 vi).cell b i hi]
   ·have hbl:b≠l:=fun hh=>by rw [hh,hl2] at he;cases he
    rw [hothb b hbl]
    exact ja5.map b hv es cl (by rw [<-hoth2 b hbl];exact he)
   ·have hbl:b≠l:=fun hh=>by rw [hh,hl2] at he;cases he
    rw [hothb b hbl]
    exact ja5.rows b cs t z (by rw [<-hoth2 b hbl];exact he)
   ·exact ⟨hsmb.os.trans (ja6.os.trans hsm2.os.symm),hsmb.tape.trans (ja6.tape.trans hsm2.tape.symm),hsmb.output.trans (ja6.output.trans hsm2.output.symm),by have:=ja6.size;omega⟩
 have hw:=hc (fu:=0) (rd:=some l) hU2 (by intro h;cases h) _ oa _ _ Wb hbp1 ⟨Ga,R2b⟩
 refine wpIn_mono hw fun ex a3 W3 hq=>?_
 -- what is there behind the body
 have fin:∀ (jump:Option Code) (e':Env),Cf Y X2 nt [] e' a3 W3->(∀ ep,le (Ea e') ep∨ep=Ea e'->Ph s st Q (p+1) ep (if jump.isNone then .ready else .done) jump->(∃ v w',(Instr.endRound l jump).run P W3=.ok v w'/\
   (Ending.returned v=.returned (.bool jump.isNone)/\JI Y X nt ds a G D l n1 s st rec Q (p+1) (Pr H W w') vi w'/\(∀ b,b<W.heap.size->¬ H b->w'.heap[b]?=W.heap[b]?)/\KeepV vi W w'/\Same W w'))):=by
  intro jump e' ⟨G3,R3⟩ ep hle hph
  have hj3:=R3.jj
  rw [hXJ2] at hj3
  obtain ⟨_,hXJ,hHo,hZ3,hvv,hkv,hsm⟩:=hj3
  have hsz3:W.heap.size<=W3.heap.size:=by have:=hsm.size;omega
  have hl3:W3.heap[l]?=some (.loop { rec .ready none with state:=.busy }):=by rw [(hZ3 l ((hZ l).2 ⟨hlt,.inr (.inr (.inl rfl))⟩)).2.2];exact hl2
  have hZk:∀ b,Z b->b≠l->W3.heap[b]?=W.heap[b]?:=fun b hb hbl=>(hZ3 b hb).2.2.trans (hoth2 b hbl)
  have hend:=run_endRound (P:=P) jump hl3
  obtain ⟨W4,hW4⟩:∃ W4,W3.putObj l (.loop (rec (if jump.isNone then .ready else .done) jump))=W4:=⟨_,rfl⟩
  have hend':(Instr.endRound l jump).run P W3=.ok (.bool jump.isNone) W4:=by
   rw [<-hW4];rw [hrec] at hend ⊢;exact hend
  have hsz4:W4.heap.size=W3.heap.size:=by rw [<-hW4];simp
  have hl4:W4.heap[l]?=some (.loop (rec (if jump.isNone then .ready else .done) jump)):=by rw [<-hW4];exact World.putObj_heap_same (by omega)
  have hoth4:∀ b,b≠l->W4.heap[b]?=W3.heap[b]?:=fun b hb=>by rw [<-hW4];exact World.putObj_heap_other hb
  have hkv4:∀ vis,KeepV vis W3 W4:=fun vis=>by rw [<-hW4];exact Xs hl3
  have hsm4:Same W3 W4:=by rw [<-hW4];exact Sr
  have hownZ:∀ b,Iz e' G3 b->¬ G3.H b/\b<W3.heap.size:=fun b hb=>by
   rcases hb with ⟨id,h1,rfl⟩|⟨k,h1⟩
   ·exact ⟨(R3.mem.box id h1).1,(R3.mem.box id h1).2.1⟩
   ·exact ⟨(R3.tks k b h1).2.2.1,(R3.tks k b h1).2.1⟩
  have hownl:∀ b,Iz e' G3 b->b≠l:=fun b hb hh=>(hownZ b hb).1 (hZ3 b ((hZ b).2 (by subst hh;exact ⟨hlt,.inr (.inr (.inl rfl))⟩))).1
  -- the outer frame again
  obtain ⟨Go,hGo⟩:∃ Go:Gh,({ G3 with H:=G.H,dm:=G.dm }:Gh)=Go:=⟨_,rfl⟩
  have hbt:∀ t k,t≠0->Env.get (Ea e') t k=Env.get e' t k:=fun t k ht=>by rw [Ss,if_neg ht]
  have Ro:Rel Y X nt ds (Ea e') a W4 Go:=by
   refine R3.re (X':=X) ⟨fun b=>by subst hGo;exact Nat.le_refl _,hkv4 _,fun b hb=>?_⟩ hX2f.symm (by subst hGo;rfl) (by subst hGo;rfl) hX2b.symm hX2c.symm hX2k.symm (fun b hb=>⟨hoth4 b (hownl b hb),by subst hGo;rfl,fun hh=>?_⟩) (by omega) hbt Rp.size
    (by subst hGo;rw [<-hdmp];exact Rp.defers) (fun D' hD'=>?_) (fun lift t=>?_) (fun b hb=>?_) (fun b hb=>?_) (fun b hb=>?_) (fun b hb=>?_) ?_
   ·rw [hX2f] at hb
    exact hoth4 b (hG b (by rw [<-hH];exact Rp.fzh b hb)).2.2
   ·subst hGo;exact (hownZ b hb).1 (hHo b hh)
   ·subst hGo
    obtain ⟨q1,q2,q3⟩:=Rp.marks D' (by rw [hdmp];exact hD')
    have hne:=(hdm D' hD').2.2
    refine ⟨by rw [<-hH];exact q1,?_,q3⟩
    rw [hoth4 D' hne,hZk D' ((hZ D').2 ⟨(Array.getElem?_eq_some_iff.1 q2).1,.inr (.inr (.inr hD'))⟩) hne]
    exact q2
   ·rw [hX2f] at lift
    rw [Ss,if_pos rfl]
    split
    ·rename_i ht
     have h1:=R3.slots (t+FAR)
     rw [hX2f] at h1 ⊢
     have h1:=lift _ _ h1
     unfold Dg at h1 ⊢
     rw [if_neg (by omega),Nat.add_sub_cancel,hX2s] at h1
     rw [if_pos ht]
     exact h1
    ·exact VOK.any _
   ·subst hGo;exact R3.fresh b (by omega)
   ·subst hGo
    have:=R3.old b (by rw [hX2b];exact hb)
    rw [hX2v] at this
    exact this
   ·subst hGo
    have:=Rp.hlt b (by rw [hH];exact hb)
    omega
   ·subst hGo;rw [<-hH];exact Rp.fzh b hb
   ·subst hGo
    rw [Ss,if_pos rfl,if_neg (by omega)]
    exact X.st.1 _ _ _ _ _ hXJ (fun b hb=>hoth4 b (hG b hb).2.2) (hkv4 _) hsm4
  obtain ⟨Gq,Rq,hqv,hqH,hqd,hqo⟩:∃ Gq,Rel Y X nt ds ep a W4 Gq/\Gq.vis=G3.vis/\Gq.H=G.H/\Gq.dm=G.dm/\∀ b,Iz ep Gq b->Iz e' G3 b:=by
   rcases hle with hle|rfl
   ·obtain ⟨Gq,Rq,q1,q2,q3,q4,q5,q6⟩:=Sp hle Ro
    refine ⟨Gq,Rq,by rw [q1];subst hGo;rfl,by rw [q3];subst hGo;rfl,by rw [q4];subst hGo;rfl,fun b hb=>?_⟩
    rcases hb with ⟨id,h1,h2⟩|⟨k,h1⟩
    ·have:=q6 id h1
     rw [hbt 2 id (by decide)] at this
     exact .inl ⟨id,this,by rw [<-h2,q2];subst hGo;rfl⟩
    ·obtain ⟨k',h2⟩:=q5 k b h1
     exact .inr ⟨k',by subst hGo;exact h2⟩
   ·refine ⟨Go,Ro,by subst hGo;rfl,by subst hGo;rfl,by subst hGo;rfl,fun b hb=>?_⟩
    rcases hb with ⟨id,h1,h2⟩|⟨k,h1⟩
    ·rw [hbt 2 id (by decide)] at h1
     exact .inl ⟨id,h1,by rw [<-h2];subst hGo;rfl⟩
    ·exact .inr ⟨k,by subst hGo;exact h1⟩
  have hnotH:∀ b,b<W.heap.size->¬ H b->W4.heap[b]?=W.heap[b]?:=fun b hb hh=>by
   have hbl:b≠l:=fun hb'=>hh (by rw [hb'];exact hall l hll)
   rw [hoth4 b hbl,hZk b ((hZ b).2 ⟨hb,.inl hh⟩) hbl]
  refine ⟨_,W4,hend',rfl,⟨fun b hb=>.inl (hall b hb),Gq,ep,_,jump,Rq,hqH,hqd,fun b hb=>?_,?_,hl4,fun b hb=>?_,fun b hb=>?_,hph⟩,hnotH,((hkv2 vi).trans hkv).trans (hkv4 vi),(hsm2.trans hsm).trans hsm4⟩
  ·have hb:=hqo b hb
   obtain ⟨q1,q2⟩:=hownZ b hb
   by_cases hbW:b<W.heap.size
   ·have hnZ:¬ Z b:=fun hz=>q1 (hZ3 b hz).1
    refine ⟨.inl (Classical.byContradiction fun hh=>hnZ ((hZ b).2 ⟨hbW,.inl hh⟩)),fun hh=>hnZ ((hZ b).2 ⟨hbW,.inr (.inl hh)⟩),fun hh=>hnZ ((hZ b).2 ⟨hbW,.inr (.inr (.inl hh))⟩),fun hh=>hnZ ((hZ b).2 ⟨hbW,.inr (.inr (.inr hh))⟩)⟩
   ·exact ⟨.inr ⟨by omega,by omega⟩,fun hh=>by omega,fun hh=>by omega,fun hh=>by
     have:=Rp.marks b (by rw [hdmp];exact hh)
     have:=(Array.getElem?_eq_some_iff.1 this.2.1).1
     omega⟩
  ·rw [hoth4 D (Ne.symm hlD),hZk D ((hZ D).2 ⟨hDW,.inr (.inl rfl)⟩) (Ne.symm hlD)]
   exact hD
  ·rw [hqv];exact hvv b
  ·rw [hqv]
   by_cases hbW:b<W.heap.size
   ·have hh:¬ H b:=fun hh=>hb (.inl hh)
    rw [(hZ3 b ((hZ b).2 ⟨hbW,.inl hh⟩)).2.1,hv2N b hh]
    exact Nat.le_refl _
   ·rw [R3.fresh b (Nat.not_lt.1 fun hh=>hb (.inr ⟨by omega,by omega⟩))]
    exact Nat.zero_le _
 cases ex with
 |normal=>
  obtain ⟨o,e',⟨h1,h2⟩,h3⟩:=hq
  obtain ⟨v,w',q1,q2,q3⟩:=fin none e' h3 (st (p+1)) (.inl h2) (.inl ⟨h1,rfl,rfl,rfl⟩)
  refine ⟨v,w',q1,?_,q3⟩
  rw [q2]
  have:(p != s)=true:=by simp;omega
  simp [this]
 |ret=>
  obtain ⟨o,e',⟨h1,h2⟩,h3⟩:=hq
  obtain ⟨v,w',q1,q2,q3⟩:=fin (some .ret) e' h3 (Ea e') (.inr rfl) (.inr ⟨by rw [h1],rfl,o,.inr ⟨rfl,h2⟩⟩)
  refine ⟨v,w',q1,?_,q3⟩
  rw [q2]
  simp [h1]
 |exit i=>
  obtain ⟨o,e',⟨h1,h2⟩,h3⟩:=hq
  obtain ⟨v,w',q1,q2,q3⟩:=fin (some (.exit i)) e' h3 (Ea e') (.inr rfl) (.inr ⟨by rw [h1],rfl,o,.inl ⟨i,rfl,h2⟩⟩)
  refine ⟨v,w',q1,?_,q3⟩
  rw [q2]
  simp [h1]
 |panic ch=>obtain ⟨v,o,e',_,h1,_⟩:=hq;exact h1.elim
 |goto t=>exact hq.elim
 |outgrown=>exact hq.elim
theorem rf_ok (S:Set P Y Gl) (U:Sur P Gl X yd) {g:Operand} {ps:Array Tmp} {as' c:Code} (has:Sq P Y Gl nt true as') (hc:Sq P Y Gl nt true c) {Q:Dm} {orc:Orc}
  (h:wp (Computes P Gl) (Does P Y Gl) Y nt yd false (.rangeFunc g ps as' c) Q orc e) (R:Rel Y X nt ds e a w G):(Code.rangeFunc g ps as' c).wpIn (Fr none) fu P (Oa Y X nt ds Q) a w:=by
 simp only [wp] at h
 split at h
 case h_2=>exact h.elim
 rename_i m s ys st ob o' f fst caps hx
 split at h
 case h_2=>exact h.elim
 rename_i xs rr hcv
 obtain ⟨hm0,h1,h2,h3,h4⟩:=h
 obtain ⟨hpx,h1⟩:=Jv h1
 obtain ⟨_,h2⟩:=Jv h2
 have hg:=Agy R hx (by simp) (fun v hv=>by subst hv;simp [evX] at hx)
 have hgr:=hg.rel
 simp only [Aa] at hgr
 obtain ⟨us,cvs,hge,r1,r2⟩:=hgr
 obtain ⟨hW,hconv⟩:=Mf (Y:=Y) (X:=X) (nt:=nt) (ds:=ds) (a:=a) (w:=w) hcv
 have hids:∀ id,id∈Bd (fst++caps)->Env.get e 2 id≠.any:=fun id hid=>by
  have:=hg.ids
  simp only [Eb] at this
  refine this id ?_
  rw [Abz] at hid
  simpa [Ai] using hid
 have hxr:=hconv (W':=[]) hW (fun _ h=>h) (fun _ h=>nomatch h) R (Ab.app r1 r2) hids
 obtain ⟨G0,R0,hv0,hb0,hH0,hd0,ht0,hu0⟩:=Sp h2 R
 refine wpIn_rangeFunc fun fn hfn=>?_
 obtain ⟨rec,hrec⟩:∃ rec:LoopState->Option Code->Loop,rec=fun st pe=>{ state:=st,pending:=pe,fn,tmps:=a.tmps,params:=ps,assign:=as',body:=c,defers:=w.heap.size }:=⟨_,rfl⟩
 obtain ⟨W1,hW1⟩:∃ W1,(w.alloc (.deferred (some []))).alloc (.loop (rec .ready none))=W1:=⟨_,rfl⟩
 have hL1:W1.heap[w.heap.size+1]?=some (.loop (rec .ready none)):=by
  rw [<-hW1];have:=World.alloc_heap_new (w.alloc (.deferred (some []))) (.loop (rec .ready none));rwa [World.size_alloc] at this
 have hK1:W1.heap[w.heap.size]?=some (.deferred (some [])):=by
  rw [<-hW1];exact (Below.heap_alloc _ _ _ (by simp)).trans (World.alloc_heap_new w _)
 have hB1:Below w.heap.size w W1:=by
  rw [<-hW1];exact ((Below.refl _ w).alloc (Nat.le_refl _) _).alloc (by simp) _
 have hs1:W1.heap.size=w.heap.size+2:=by rw [<-hW1];simp
 obtain ⟨R1,_⟩:=R0.after hB1 (vis':=G0.vis) (fun _ _=>rfl) (fun b hb=>R0.fresh b (by omega))
 obtain ⟨hfn',hdoes⟩:=h1 (w.heap.size+1)
 obtain ⟨ff,f1,f2,f3⟩:=hfn'
 have f2':ff.name≠ "runtime.NumGoroutine":=by simpa using f2
 have f3':ff.body≠none:=by intro hh;rw [hh] at f3;cases f3
 have hD0:∀ b,G.H b->b<W1.heap.size/\b≠w.heap.size/\b≠w.heap.size+1:=fun b hb=>by have:=R.hlt b hb;omega
 have hdm0:∀ b,b∈G.dm->b<W1.heap.size/\b≠w.heap.size/\b≠w.heap.size+1:=fun b hb=>by
  have:=(Array.getElem?_eq_some_iff.1 (R.marks b hb).2.1).1;omega
 have hbig0:Env.get (st 0) 0 BIG=.any∨True:=.inr trivial
 refine ⟨w.heap.size+1,[Nm w.heap.size],W1,{ target:=.fn (.func f) cvs,args:=us++#[Value.func (.yield (w.heap.size+1)) #[] #[]] },W1,f,us++#[Value.func (.yield (w.heap.size+1)) #[] #[]]++cvs,W1,?_,?_,fun _ _=>trivial,?_,fun h=>by simp [Fence.wide] at h,?_⟩
 ·rw [<-hW1,hrec];exact run_enterLoop_outer _ _ _ _ _
 ·simp only [resolve,hge,Deferred.ofValue]
  simp [Act.eval]
 ·simp [invoke,callFunc,f1,f2',f3']
 ·obtain ⟨Gi,hGi⟩:∃ Gi:Gh,(⟨G0.vis,fun _=>0,fun _=>none,fun b=>b<W1.heap.size,⟨[],.nil⟩⟩:Gh)=Gi:=⟨_,rfl⟩
  have hlen:fst.length=us.toList.length:=r1.len
  have hext0:Ext (fun _=>False) (Gh0 G.vis) Gi w W1:=by
   have hpos:∀ b,0<G.vis b->b<w.heap.size:=fun b h=>by
    rcases Nat.lt_or_ge b w.heap.size with h'|h'
    ·exact h'
    ·rw [R.fresh b h'] at h;omega
   refine ⟨fun b=>by subst hGi;show G.vis b<=G0.vis b;rw [hv0];exact Nat.le_refl _,⟨fun b i hi=>World.cell?_of_block (hB1.block _ (hpos b (Nat.lt_of_le_of_lt (Nat.zero_le _) hi))),fun b h es c he=>by rw [hB1.block _ (hpos b h)];exact he,Mb fun b h=>hB1.block b h⟩,fun b hb=>hb.elim⟩
  have hargs:Ab Gi W1 (fun _=>False) (xs.take fst.length++.yl (w.heap.size+1)::xs.drop fst.length) (us++#[Value.func (.yield (w.heap.size+1)) #[] #[]]++cvs).toList:=by
   have hx1:=Ab.pure (G:=Gh0 G.vis) (G':=Gh0 G.vis) (O':=fun _=>False) rfl hpx hxr
   have hx2:Ab Gi W1 (fun _=>False) xs (us.toList++cvs.toList):=Ab.mono hext0 (fun id hid=>by rw [Sg hpx] at hid;cases hid) hx1
   have t1:=hx2.take fst.length
   have t2:=hx2.drop fst.length
   rw [hlen,List.take_left] at t1
   rw [hlen,List.drop_left] at t2
   rw [<-hlen] at t1 t2
   have h3:(us++#[Value.func (.yield (w.heap.size+1)) #[] #[]]++cvs).toList=us.toList++(Value.func (.yield (w.heap.size+1)) #[] #[]::cvs.toList):=by simp
   rw [h3]
   refine t1.app ?_
   simp only [Ab,Aa]
   exact ⟨_,_,rfl,rfl,t2⟩
  have hround:=Ap8 (a:=a) (G:=G) (ds:=ds) (Q:=Q) S U hm0 has hc (fn:=fn) (D:=w.heap.size) (l:=w.heap.size+1) (n1:=W1.heap.size) hrec (by omega) (by omega) (by omega) (by have:=R.base;omega) hD0 hdm0 h3
  have hJ0:JI Y X nt ds a G w.heap.size (w.heap.size+1) W1.heap.size s st rec Q 0 Gi.H Gi.vis W1:=by
   refine ⟨fun b hb=>by subst hGi;exact hb,G0,st 0,.ready,none,R1,hH0,hd0,fun b hb=>?_,hK1,hL1,fun b _=>by subst hGi;exact Nat.le_refl _,fun b _=>by subst hGi;exact Nat.le_refl _,.inl ⟨Nat.zero_le _,rfl,rfl,rfl⟩⟩
   have hbw:b<w.heap.size/\b ∉ G.dm:=by
    have hobj:∀ D,D∈G.dm->w.heap[D]?=some (.deferred (some [])):=fun D hD=>(R.marks D hD).2.1
    rcases hb with ⟨id,q1,rfl⟩|⟨k,q1⟩
    ·refine ⟨(R0.mem.box id q1).2.1,fun hh=>?_⟩
     have q2:=(R0.mem.box id q1).2.2
     exact q2.nodef (hobj _ hh)
    ·obtain ⟨_,q2,_,⟨cs,t,q4⟩,_⟩:=R0.tks k b q1
     exact ⟨q2,fun hh=>by rw [hobj b hh] at q4;cases q4⟩
   exact ⟨by subst hGi;show b<W1.heap.size;omega,by omega,by omega,hbw.2⟩
  have hcall:=hdoes (JI Y X nt ds a G w.heap.size (w.heap.size+1) W1.heap.size s st rec Q) Gi W1 (us++#[Value.func (.yield (w.heap.size+1)) #[] #[]]++cvs)
   (Ap7 (by omega) (by omega) (fun b hb=>(hD0 b hb).1) (fun b hb=>(hdm0 b hb).1)) (fun p H vi w ⟨_,Gp,ep,_,_,Rp,_⟩=>U.gl _ _ _ _ Rp.jj) hround
   (fun b hb=>by subst hGi;exact R0.fresh b (by omega)) (fun b hb=>by subst hGi;exact hb) hJ0
   ⟨fun id k hk=>absurd rfl hk,fun id hid=>absurd rfl hid,fun id id' hid _=>absurd rfl hid⟩ hargs
  refine (Aft (n:=fu - 1) hcall).mono ?_
  rintro en w' ⟨hsm,hkv,_,_,G',_,_,_,_,_,hj,_,v,rfl,_⟩
  have htr:trN (Env.get (Ah [(0,BIG,T.tr (min m (s+1)))] [(0,BIG,T.tr 0)]) 0 BIG)=min m (s+1):=by
   rw [Ee];simp [Bf,Bu,Env.get,BIG,trN]
  rw [htr] at hj
  obtain ⟨hall,Gp,ep,state,pend,Rp,hH,hdmp,hown,hD,hl,_,_,hph⟩:=hj
  have hlt:w.heap.size+1<w'.heap.size:=(Array.getElem?_eq_some_iff.1 hl).1
  have hnb:(rec state pend).state≠.busy:=by
   rw [hrec]
   rcases hph with ⟨_,_,rfl,_⟩|⟨_,rfl,_⟩<;>simp
  have hend:=run_endLoop (P:=P) hl hnb
  obtain ⟨W4,hW4⟩:∃ W4,w'.putObj (w.heap.size+1) (.loop { rec state pend with state:=.exhausted })=W4:=⟨_,rfl⟩
  rw [hW4] at hend
  have hpe:(rec state pend).pending=pend:=by rw [hrec]
  rw [hpe] at hend
  have hoth:∀ b,b≠w.heap.size+1->W4.heap[b]?=w'.heap[b]?:=fun b hb=>by rw [<-hW4];exact World.putObj_heap_other hb
  have R4:Rel Y X nt ds ep a W4 Gp:=by
   refine Rp.stay (by rw [<-hW4];exact Sr) (by rw [<-hW4];exact Xs hl) (fun b hb=>hoth b ?_)
   rcases hb with hb|hb|hb
   ·exact (hown b hb).2.2.1
   ·rw [hH] at hb;exact (hD0 b hb).2.2
   ·rw [hdmp] at hb;exact (hdm0 b hb).2.2
  have hD4:W4.heap[w.heap.size]?=some (.deferred (some [])):=(hoth _ (by omega)).trans hD
  have hnd:(w.heap.size::Gp.dm.l).Nodup:=List.nodup_cons.2 ⟨fun hh=>by have h:w.heap.size∈G.dm:=hdmp▸hh;exact (hdm0 _ h).2.1 rfl,Gp.dm.nd⟩
  obtain ⟨Gq,hGq⟩:∃ Gq:Gh,({ Gp with dm:=⟨w.heap.size::Gp.dm.l,hnd⟩ }:Gh)=Gq:=⟨_,rfl⟩
  have R5:Rel Y X nt ds ep { a with defers:=[Nm w.heap.size]++a.defers } W4 Gq:=by
   refine R4.re (X':=X) ⟨fun b=>by subst hGq;exact Nat.le_refl _,.refl _ _,fun _ _=>rfl⟩ rfl (by subst hGq;rfl) (by subst hGq;rfl) rfl rfl rfl (fun b hb=>⟨rfl,by subst hGq;rfl,?_⟩) (Nat.le_refl _) (fun _ _ _=>rfl) R4.size ?_ (fun D hD=>?_) (fun lift t=>lift _ _ (R4.slots t))
    (fun b hb=>by subst hGq;exact R4.fresh b hb) (fun b hb=>by subst hGq;exact R4.old b hb) (fun b hb=>by subst hGq;exact R4.hlt b hb) (fun b hb=>by subst hGq;exact R4.fzh b hb) (by subst hGq;exact R4.jj)
   ·subst hGq
    rcases hb with ⟨id,q1,rfl⟩|⟨k,q1⟩
    ·exact (R4.mem.box id q1).1
    ·exact (R4.tks k b q1).2.2.1
   ·subst hGq
    show [Nm w.heap.size]++a.defers=List.map Nm (w.heap.size::Gp.dm.l)++ds
    rw [R4.defers];rfl
   ·subst hGq
    have hD:D∈w.heap.size::Gp.dm.l:=hD
    cases hD with
    |head=>exact ⟨fun hh=>by have h:=hH▸hh;exact (hD0 _ h).2.1 rfl,hD4,R.base⟩
    |tail _ hD=>exact R4.marks D hD
  refine ⟨pend,W4,hend,?_⟩
  rcases hph with ⟨q1,rfl,rfl,rfl⟩|⟨q1,rfl,o,q2⟩
  ·have hms:m<=s:=by omega
   have:min m (s+1)=m:=by omega
   rw [this] at R5
   exact ⟨o',st m,h4 hms,_,R5⟩
  ·rcases q2 with ⟨i,rfl,q2⟩|⟨rfl,q2⟩
   ·exact wpIn_exit ⟨o,ep,q2,_,R5⟩
   ·exact wpIn_ret ⟨o,ep,q2,_,R5⟩
end
section
variable {P:Program} {Y:TypeId->Ty} {Gl:World->Prop} {nt:Nat}
theorem Ah0 {l m:List (List Int)} (h:l.Nodup) (hs:∀ x∈l,x∈m):l.length<=m.length:=by
 induction l generalizing m with
 |nil=>exact Nat.zero_le _
 |cons x l ih=>
  have hx:=hs x List.mem_cons_self
  have hn:=List.nodup_cons.1 h
  have h2:=ih (m:=m.erase x) hn.2 fun y hy=>by
   have hne:y≠x:=fun hh=>hn.1 (by rw [<-hh];exact hy)
   exact (List.mem_erase_of_ne hne).2 (hs y (List.mem_cons_of_mem _ hy))
  have h3:=List.length_erase_of_mem hx
  have h4:0<m.length:=List.length_pos_of_mem hx
  simp only [List.length_cons]
  omega
theorem Ap9 {X:Cx} {ds:List Deferred} {rd:Option Nat} {fu:Nat} {c:Code} {Q:Dm} {body:Dm->Orc->Env->Prop}
  (hb:∀ Q o e a w,body Q o e->Cf Y X nt ds e a w->c.wpIn (Fr rd) fu P (Oa Y X nt ds Q) a w):
  ∀ (n:Nat) (o:Orc) (e:Env) (a:Act) (w:World),Nk body Q n o e->Cf Y X nt ds e a w->(Code.loop c).wpIn (Fr rd) fu P (Oa Y X nt ds Q) a w:=by
 intro n o e a w h R
 refine wpIn_loop_ghost (fun m a w=>∃ o e,Nk body Q m o e/\Cf Y X nt ds e a w) n ⟨o,e,h,R⟩ ?_
 rintro m a w ⟨o,e,h,R⟩
 cases m with
 |zero=>exact h.elim
 |succ m=>
  obtain ⟨o,e,h,R⟩:∃ o e,body (Go.Vc.X.seq (fun o' e'=>Nk body Q m o' e') Q) o e/\Cf Y X nt ds e a w:=by
   unfold Nk at h
   split at h
   ·obtain ⟨G,R⟩:=R
    exact ⟨_,_,h.2,Mj h.1 R⟩
   ·exact ⟨_,_,h,R⟩
  refine wpIn_mono (hb _ o e a w h R) fun ex a' w' hq=>?_
  cases ex with
  |normal=>obtain ⟨o',e',h1,h2⟩:=hq;exact ⟨m,Nat.lt_succ_self m,o',e',h1,h2⟩
  |exit id=>exact hq
  |ret=>exact hq
  |panic ch=>exact hq
  |goto l=>exact hq
  |outgrown=>exact hq
theorem Qe (S:Set P Y Gl):∀ (c:Code) (b:Bool),Sq P Y Gl nt b c:=by
 intro c
 induction c with
 |skip=>intro b X yd ds rd fu U hrd Q orc e a w h R;exact wpIn_skip ⟨orc,e,by simpa only [wp] using h,R⟩
 |label l=>intro b X yd ds rd fu U hrd Q orc e a w h R;exact wpIn_label ⟨orc,e,by simpa only [wp] using h,R⟩
 |region id ops draw=>
  intro b X yd ds rd fu U hrd Q orc e a w h R
  simp only [wp] at h
  cases draw with
  |false=>
   refine wpIn_region ?_
   have:=Aoy (rd:=rd) (fu:=fu) (Q:=Oa Y X nt ds Q) S U (fun orc e a w h R=>⟨orc,e,h,R⟩) (fun v orc e a w h R=>⟨v,orc,e,rfl,h,R⟩) ops.toList 0 orc e a w (fun j=>by simp) h R
   rw [List.range_eq_range']
   simpa using this
  |true=>exact Ap1 S U (fun orc e a w h R=>⟨orc,e,h,R⟩) (fun v orc e a w h R=>⟨v,orc,e,rfl,h,R⟩) h R
 |seq x y ihx ihy=>
  intro b X yd ds rd fu U hrd Q orc e a w h R
  simp only [wp] at h
  refine wpIn_seq (wpIn_mono (ihx b U hrd _ orc e a w h R) fun ex a' w' hq=>?_)
  cases ex with
  |normal=>obtain ⟨o,e',h1,h2⟩:=hq;exact ihy b U hrd Q o e' a' w' h1 h2
  |exit id=>exact hq
  |ret=>exact hq
  |panic ch=>exact hq
  |goto l=>exact hq
  |outgrown=>exact hq
 |cond c x y ihx ihy=>
  intro b X yd ds rd fu U hrd Q orc e a w h R
  simp only [wp] at h
  obtain ⟨G,R'⟩:=id R
  unfold Aek at h
  split at h
  ·rename_i b' o o' hx
   exact wpIn_cond_split (Acn R' hx) (fun hb=>ihx b U hrd Q o e a w (h.1 hb) R) (fun hb=>ihy b U hrd Q o' e a w (h.2 hb) R)
  ·rename_i b' o hx
   obtain ⟨rfl,h⟩:=h
   exact wpIn_cond_split (Acn R' hx) (fun _=>ihx b U hrd Q o e a w h R) (fun hb=>(by cases hb))
  ·rename_i b' o hx
   obtain ⟨rfl,h⟩:=h
   exact wpIn_cond_split (Acn R' hx) (fun hb=>(by cases hb)) (fun _=>ihy b U hrd Q o e a w h R)
  ·exact h.elim
 |block id c ih=>
  intro b X yd ds rd fu U hrd Q orc e a w h R
  simp only [wp] at h
  refine wpIn_block (wpIn_mono (ih b U hrd _ orc e a w h R) fun ex a' w' hq=>?_)
  cases ex with
  |normal=>exact hq
  |exit i=>
   obtain ⟨o,e',h1,h2⟩:=hq
   simp only [Vc.X.blk] at h1
   simp only [Exit.inBlock]
   cases hb:i.beq id with
   |true=>rw [hb] at h1;rw [if_pos (Nat.eq_of_beq_eq_true hb)];exact ⟨o,e',h1,h2⟩
   |false=>rw [hb] at h1;rw [if_neg (Nat.ne_of_beq_eq_false hb)];exact ⟨o,e',h1,h2⟩
  |ret=>exact hq
  |panic ch=>exact hq
  |goto l=>exact hq
  |outgrown=>exact hq
 |scope c ih=>
  intro b X yd ds rd fu U hrd Q orc e a w h R
  simp only [wp] at h
  refine Ap5 (wpIn_mono (ih b U hrd Q orc e a w h R) fun ex a' w' hq=>?_)
  cases ex with
  |goto l=>exact hq.elim
  |_=>exact hq
 |exit id=>intro b X yd ds rd fu U hrd Q orc e a w h R;exact wpIn_exit ⟨orc,e,by simpa only [wp] using h,R⟩
 |ret=>intro b X yd ds rd fu U hrd Q orc e a w h R;exact wpIn_ret ⟨orc,e,by simpa only [wp] using h,R⟩
 |loop c ih=>
  intro b X yd ds rd fu U hrd Q orc e a w h R
  simp only [wp] at h
  split at h
  ·rename_i n st ob
   obtain ⟨h1,h2⟩:=h
   obtain ⟨G,R⟩:=R
   refine wpIn_loop_ghost (fun m a w=>∃ k,k<=n/\m=n - k/\Cf Y X nt ds (st k) a w) n ⟨0,Nat.zero_le _,rfl,Mj h1 R⟩ ?_
   rintro m a w ⟨k,hk,rfl,R⟩
   obtain ⟨o2,h2⟩:=Ael (h2 k hk)
   refine wpIn_mono (ih b U hrd _ o2 (st k) a w h2 R) fun ex a' w' hq=>?_
   cases ex with
   |normal=>
    obtain ⟨o,e',⟨h3,h4⟩,⟨G',R'⟩⟩:=hq
    exact ⟨n - (k+1),by omega,k+1,by omega,rfl,Mj h4 R'⟩
   |exit id=>exact hq
   |ret=>exact hq
   |panic ch=>exact hq
   |goto l=>exact hq
   |outgrown=>exact hq
  ·exact Ap9 (fun Q' o e a w h R=>ih b U hrd Q' o e a w h R) _ _ _ _ _ h R
  ·rename_i ks id st ob
   obtain ⟨h1,h2⟩:=h
   obtain ⟨G,R⟩:=R
   refine wpIn_loop_ghost (fun m a w=>∃ h,h.Nodup/\(∀ x∈h,x∈ks)/\m=ks.length - h.length/\Cf Y X nt ds (st h) a w) ks.length ⟨[],List.nodup_nil,fun _ h=>(by cases h),rfl,Mj h1 R⟩ ?_
   rintro m a w ⟨hs,hn,hsub,rfl,R⟩
   refine wpIn_mono (ih b U hrd _ _ (st hs) a w (h2 hs hn hsub) R) fun ex a' w' hq=>?_
   cases ex with
   |normal=>
    obtain ⟨o,e',h3,⟨G',R'⟩⟩:=hq
    have h3:Ab6 ks id hs st e':=h3
    unfold Ab6 at h3
    split at h3
    ·rename_i h' _ _
     obtain ⟨⟨m1,m2,m3⟩,h4⟩:=h3
     exact ⟨ks.length - h'.length,by have:=Ah0 m2 m3;omega,h',m2,m3,rfl,Mj h4 R'⟩
    ·exact h3.elim
   |exit id=>exact hq
   |ret=>exact hq
   |panic ch=>exact hq
   |goto l=>exact hq
   |outgrown=>exact hq
  ·rename_i o0 n st ob
   refine wpIn_loop_ghost (fun m a w=>(m=n+1/\Cf Y X nt ds e a w)∨(∃ k,k<=n/\m=n - k/\Cf Y X nt ds (st k) a w/\∀ k,k<=n->Rx (ob k) fun o=>wp (Computes P Gl) (Does P Y Gl) Y nt yd b c (Vc.X.seq (fun _ e'=>k<n/\le e' (st (k+1))) Q) o (st k))) (n+1) (.inl ⟨rfl,R⟩) ?_
   rintro m a w (⟨rfl,R⟩|⟨k,hk,rfl,R,h2⟩)
   ·refine wpIn_mono (ih b U hrd _ o0 e a w h R) fun ex a' w' hq=>?_
    cases ex with
    |normal=>
     obtain ⟨o,e',⟨h3,h4⟩,⟨G',R'⟩⟩:=hq
     exact ⟨n - 0,by omega,.inr ⟨0,Nat.zero_le _,rfl,Mj h3 R',h4⟩⟩
    |exit id=>exact hq
    |ret=>exact hq
    |panic ch=>exact hq
    |goto l=>exact hq
    |outgrown=>exact hq
   ·obtain ⟨o2,h3⟩:=Ael (h2 k hk)
    refine wpIn_mono (ih b U hrd _ o2 (st k) a w h3 R) fun ex a' w' hq=>?_
    cases ex with
    |normal=>
     obtain ⟨o,e',⟨h4,h5⟩,⟨G',R'⟩⟩:=hq
     exact ⟨n - (k+1),by omega,.inr ⟨k+1,by omega,rfl,Mj h5 R',h2⟩⟩
    |exit id=>exact hq
    |ret=>exact hq
    |panic ch=>exact hq
    |goto l=>exact hq
    |outgrown=>exact hq
  ·exact h.elim
 |goto l=>intro b X yd ds rd fu U hrd Q orc e a w h R;cases b<;>exact h.elim
 |rangeFunc f ps as' c iha ih=>
  intro b X yd ds rd fu U hrd Q orc e a w h R
  cases b with
  |true=>simp only [wp] at h
  |false=>
   obtain rfl:=hrd rfl
   obtain ⟨G,R⟩:=R
   exact rf_ok S U (iha true) (ih true) h R
 |refuse s=>intro b X yd ds rd fu U hrd Q orc e a w h R;cases b<;>exact h.elim
end
section
variable {P:Program} {Y:TypeId->Ty} {Gl:World->Prop} {X:Cx} {nt:Nat} {ds:List Deferred} {e e0:Env} {a:Act} {w:World} {G:Gh} {fu:Nat} {yd:Yd}
/-! results -/
def Aq (tmps:Array Value):ResultVar->Sem Value
 | .tmp t=>pure (tmps.getD t undef)
 | .cell a t=>do loadVar t (<-asAddr (tmps.getD a undef))
theorem Gz {α β:Type} (f:α->Sem β) (x:α) (xs:List α) (w:World):((x::xs).mapM f).run P w=((f x).run P w).andThen fun y w'=>((xs.mapM f).run P w').andThen fun ys w''=>.ok (y::ys) w'':=by
 rw [List.mapM_cons]
 simp [Sem.run_bind]
theorem Ah1 {vis:Nat->Nat} {O:Nat->Prop} {y:D} {v:Value} (h1:Aw vis w O y v) (h2:∀ cs,y≠.rd cs):Aw vis w (fun _=>False) y.dem v:=by
 cases y with
 |c y=>exact Aw.dem (x:=.c y) h1
 |agg ys=>exact Aw.dem (x:=.agg ys) h1
 |rd cs=>exact absurd rfl (h2 cs)
theorem Apa (hY:YOK P Y) (R:Rel Y X nt ds e a w G):∀ {rs:List ResultVar} {r r':List (Nat×Nat)} {xs:List D} {ps:List Prop} {W:Env},(Jn Y rs).run e.get r=some ((xs,ps,W),r')->(∀ p∈ps,p)->Bq e W/\
  ∃ vs,(rs.mapM (Aq a.tmps)).run P w=.ok vs w/\∀ {W':Env} {G':Gh},Bq e W'->(∀ p∈W,p∈W')->Rel Y X nt ds (W'++e) a w G'->(∀ x v,VOK G w X.fz Y e x v->VOK G' w X.fz Y (W'++e) x v)->(∀ b,G.vis b<=G'.vis b)->
   Hy G'.vis w (fun _=>False) xs vs:=by
 intro rs
 induction rs with
 |nil=>
  intro r r' xs ps W h _
  simp only [Jn,M.run,Option.some.injEq,Prod.mk.injEq] at h
  obtain ⟨⟨rfl,rfl,rfl⟩,_⟩:=h
  exact ⟨.nil,[],by simp,fun _ _ _ _ _=>⟨rfl,fun j x v hj=>(by simp at hj)⟩⟩
 |cons x rs ih=>
  intro r r' xs ps W h hps
  have fin:∀ {v:Value} {y:D} {W1:Env} {ys:List D} {ps2:List Prop} {W2:Env} {r1 r2:List (Nat×Nat)},(Aq a.tmps x).run P w=.ok v w->Bq e W1->
    (∀ {W':Env} {G':Gh},Bq e W'->(∀ p∈W1,p∈W')->Rel Y X nt ds (W'++e) a w G'->(∀ x v,VOK G w X.fz Y e x v->VOK G' w X.fz Y (W'++e) x v)->(∀ b,G.vis b<=G'.vis b)->Aw G'.vis w (fun _=>False) y v)->
    (Jn Y rs).run e.get r1=some ((ys,ps2,W2),r2)->(∀ p∈ps2,p)->Bq e (W1++W2)/\
    ∃ vs,((x::rs).mapM (Aq a.tmps)).run P w=.ok vs w/\∀ {W':Env} {G':Gh},Bq e W'->(∀ p∈W1++W2,p∈W')->Rel Y X nt ds (W'++e) a w G'->(∀ x v,VOK G w X.fz Y e x v->VOK G' w X.fz Y (W'++e) x v)->(∀ b,G.vis b<=G'.vis b)->
     Hy G'.vis w (fun _=>False) (y::ys) vs:=by
   intro v y W1 ys ps2 W2 r1 r2 h1 hf1 h2 h3 hp2
   obtain ⟨hf2,vs,h4,h5⟩:=ih h3 hp2
   refine ⟨hf1.app hf2,v::vs,by rw [Gz,h1,Result.andThen_ok,h4,Result.andThen_ok],fun hf hs R' lift hv=>?_⟩
   have q1:=h2 hf (fun p hp=>hs p (List.mem_append_left _ hp)) R' lift hv
   have q2:=h5 hf (fun p hp=>hs p (List.mem_append_right _ hp)) R' lift hv
   refine ⟨by simp [q2.1],fun j z u hj hu=>?_⟩
   cases j with
   |zero=>simp only [List.getElem?_cons_zero,Option.some.injEq] at hj hu;subst hj;subst hu;exact q1
   |succ j=>exact q2.2 j z u (by simpa using hj) (by simpa using hu)
  cases x with
  |tmp t=>
   simp only [Jn] at h
   obtain ⟨y,r1,h1,h2⟩:=Ag h
   have hs:=Hk R h1
   split at h2
   ·exact (Ac h2).elim
   ·rename_i d hno
    obtain ⟨⟨ys,ps2,W2⟩,r2,h3,h4⟩:=Ag h2
    simp only [M.run,Option.some.injEq,Prod.mk.injEq] at h4
    obtain ⟨⟨rfl,rfl,rfl⟩,_⟩:=h4
    exact fin (v:=a.tmps.getD t undef) (W1:=[]) rfl .nil (fun _ _ _ lift _=>by
     have:=(lift _ _ hs).rel
     simp only [Aa] at this
     exact Ah1 this fun cs hh=>hno cs (by rw [hh])) h3 hps
   ·rename_i id n
    obtain ⟨⟨c,ps1,W1⟩,r2,h3,h4⟩:=Ag h2
    obtain ⟨⟨ys,ps2,W2⟩,r3,h5,h6⟩:=Ag h4
    simp only [M.run,Option.some.injEq,Prod.mk.injEq,Gv.add] at h6
    obtain ⟨⟨rfl,rfl,rfl⟩,_⟩:=h6
    obtain ⟨c1,c2⟩:=Hm (Y:=Y) (X:=X) (nt:=nt) (ds:=ds) (a:=a) (w:=w) (O:=X.fz) h3
    exact fin (v:=a.tmps.getD t undef) rfl c1 (fun hf hsub R' lift _=>c2 hf hsub (fun p hp=>hps p (List.mem_append_left _ hp)) R' (lift _ _ hs)) h5 (fun p hp=>hps p (List.mem_append_right _ hp))
   ·rename_i id
    obtain ⟨⟨c,ps1,W1⟩,r2,h3,h4⟩:=Ag h2
    obtain ⟨⟨ys,ps2,W2⟩,r3,h5,h6⟩:=Ag h4
    simp only [M.run,Option.some.injEq,Prod.mk.injEq,Gv.add] at h6
    obtain ⟨⟨rfl,rfl,rfl⟩,_⟩:=h6
    obtain ⟨c1,c2⟩:=Hm (Y:=Y) (X:=X) (nt:=nt) (ds:=ds) (a:=a) (w:=w) (O:=X.fz) h3
    exact fin (v:=a.tmps.getD t undef) rfl c1 (fun hf hsub R' lift _=>c2 hf hsub (fun p hp=>hps p (List.mem_append_left _ hp)) R' (lift _ _ hs)) h5 (fun p hp=>hps p (List.mem_append_right _ hp))
   ·exact (Ac h2).elim
  |cell ad ty=>
   simp only [Jn] at h
   obtain ⟨y,r0,h0,h⟩:=Ag h
   have hs:=Hk R h0
   obtain ⟨o,r1,h1,h2⟩:=Ag h
   split at h2
   ·rename_i d hhyp hd
    obtain ⟨⟨ys,ps2,W2⟩,r2,h3,h4⟩:=Ag h2
    simp only [M.run,Option.some.injEq,Prod.mk.injEq,Gv.add] at h4
    obtain ⟨⟨rfl,rfl,rfl⟩,_⟩:=h4
    obtain ⟨v,adr,l1,l2,l3,l4,_,l5⟩:=Aex hY R hs h1 (fun p hp=>hps p (List.mem_append_left _ hp))
    have l1':a.tmps.getD ad undef=.pointer (some adr):=l1
    refine fin (v:=v) (by simp [Aq,l1',asAddr,l2]) l4 (fun hf hsub R' lift hv=>?_) h3 (fun p hp=>hps p (List.mem_append_right _ hp))
    have:=(l5 hf hsub R' lift hv).rel
    rw [hd] at this
    simp only [Aa] at this
    exact Ah1 this fun cs hh=>l3 cs (by rw [hd,hh])
   ·exact (Ac h2).elim
theorem Apb (hY:YOK P Y) (R:Rel Y X nt ds e a w G) {own:Bool} {rs:List ResultVar} {r r':List (Nat×Nat)} {x:T} {ps:List Prop} {W:Env} (h:(Vw Y own rs).run e.get r=some ((x,ps,W),r')) (hps:∀ p∈ps,p):Bq e W/\
  ∃ vs,(rs.mapM (Aq a.tmps)).run P w=.ok vs w/\∀ {G':Gh},Rel Y X nt ds (W++e) a w G'->(∀ x v,VOK G w X.fz Y e x v->VOK G' w X.fz Y (W++e) x v)->(∀ b,G.vis b<=G'.vis b)->
   Fz X.base G'.vis w x (if h:vs.toArray.size=1 then vs.toArray[0] else .tuple vs.toArray):=by
 unfold Vw at h
 split at h
 ·rename_i t
  obtain ⟨y,r1,h1,h2⟩:=Ag h
  have hs:=Hk R h1
  have hrun:([ResultVar.tmp t].mapM (Aq a.tmps)).run P w=.ok [a.tmps.getD t undef] w:=by rw [Gz];simp [Aq,Result.andThen]
  split at h2
  ·rename_i f as bs
   obtain ⟨⟨xs,ps1,W1⟩,r2,h3,h4⟩:=Ag h2
   obtain ⟨⟨ys,ps2,W2⟩,r3,h5,h6⟩:=Ag h4
   dsimp only at h6
   cases hpp:(De xs&&De ys) with
   |false=>rw [hpp] at h6;exact (Ac h6).elim
   |true=>
    rw [hpp,cond_true] at h6
    simp only [Bool.and_eq_true] at hpp
    simp only [M.run,Option.some.injEq,Prod.mk.injEq,Gv.add] at h6
    obtain ⟨⟨rfl,rfl,rfl⟩,_⟩:=h6
    obtain ⟨c1,c2⟩:=Mf (Y:=Y) (X:=X) (nt:=nt) (ds:=ds) (a:=a) (w:=w) h3
    obtain ⟨d1,d2⟩:=Mf (Y:=Y) (X:=X) (nt:=nt) (ds:=ds) (a:=a) (w:=w) h5
    refine ⟨c1.app d1,_,hrun,fun {G'} R' lift _=>?_⟩
    have hl:=lift _ _ hs
    have hr:=hl.rel
    have hi:=hl.ids
    simp only [Aa] at hr
    simp only [Eb,Ai] at hi
    obtain ⟨us,vs,hv,q1,q2⟩:=hr
    have e1:=c2 (c1.app d1) (fun p hp=>List.mem_append_left _ hp) (fun p hp=>hps p (List.mem_append_left _ hp)) R' q1 (fun id hid=>hi id (List.mem_append_left _ hid))
    have e2:=d2 (c1.app d1) (fun p hp=>List.mem_append_right _ hp) (fun p hp=>hps p (List.mem_append_right _ hp)) R' q2 (fun id hid=>hi id (List.mem_append_right _ hid))
    have hv':a.tmps.getD t undef=.func (.func f) us vs:=hv
    simp only [List.size_toArray,List.length_cons,List.length_nil,Nat.zero_add,dif_pos]
    refine ⟨by simp [Fa,hpp],?_⟩
    simp only [Aa]
    exact ⟨us,vs,by simpa using hv',Ab.pure rfl hpp.1 e1,Ab.pure rfl hpp.2 e2⟩
  ·rename_i id n
   cases hb:Nat.blt id FAR with
   |false=>rw [hb] at h2;exact (Ac h2).elim
   |true=>
    rw [hb,cond_true] at h2
    simp only [M.run] at h2
    split at h2
    ·rename_i sz m f hob
     simp only [M.run,Option.some.injEq,Prod.mk.injEq] at h2
     obtain ⟨⟨rfl,rfl,rfl⟩,_⟩:=h2
     obtain rfl:n=m:=hps _ List.mem_cons_self
     refine ⟨.nil,_,hrun,fun {G'} R' lift _=>?_⟩
     have hl:=(lift _ _ hs).rel
     simp only [Aa] at hl
     have hu:Env.get ([]++e) 2 id≠.any:=by rw [List.nil_append,hob];simp
     obtain ⟨q1,q2,q3⟩:=R'.mem.box id hu
     rw [List.nil_append,hob] at q3
     obtain ⟨⟨cs,t',z,q4,qz,q5⟩,q6,_,q7⟩:=q3
     have hv':∀ z,a.eval (.tmp t)=z->a.tmps.getD t undef=z:=fun z hz=>hz
     simp only [List.size_toArray,List.length_cons,List.length_nil,Nat.zero_add,dif_pos]
     refine ⟨G'.bk id,cs,t',z,?_,(R'.ownb id hu).1 (Bg hb),q2,q7 rfl,q6,q4,qz,q5⟩
     have hev:a.eval (.tmp t)=a.tmps.getD t undef:=rfl
     rw [hev] at hl
     have hl':=hl.imp (fun hh=>hh) fun ⟨cap,d1,d2,d3,cs',t2,z2,d4,d5⟩=>(show ∃ cap,a.tmps.getD t undef=Value.slice (some ⟨G'.bk id,0,none⟩) n cap/\n<=cap/\cap<=maxLen/\cap<=cs.size from ⟨cap,d1,d2,d3,by
      rw [q4] at d4
      rw [(Obj.cells.inj (Option.some.inj d4)).1];exact d5⟩)
     simpa using hl'
    ·exact (Ac h2).elim
  ·rename_i k n f
   simp only [M.run] at h2
   split at h2
   ·rename_i el htok
    simp only [M.run,Option.some.injEq,Prod.mk.injEq] at h2
    obtain ⟨⟨rfl,rfl,rfl⟩,_⟩:=h2
    refine ⟨.nil,_,hrun,fun {G'} R' lift _=>?_⟩
    have hl:=lift _ _ hs
    have hr:=hl.rel
    simp only [Aa] at hr
    have ho:=hl.own
    simp only [Iw] at ho
    obtain ⟨o1,o2⟩:=ho el (by rw [List.nil_append,htok];rfl)
    simp only [List.size_toArray,List.length_cons,List.length_nil,Nat.zero_add,dif_pos]
    refine ⟨?_,o1,?_⟩
    ·have hr:Rep G'.vis w (.s (.t k) n f) (a.eval (.tmp t)):=hr
     show Rep G'.vis w (.s .n n f) _
     have hev:a.eval (.tmp t)=a.tmps.getD t undef:=rfl
     rw [hev] at hr
     have hq:Rep G'.vis w (.s .n n f) (a.tmps.getD t undef):=Rep.dem hr
     simpa using hq
    ·have hev:a.eval (.tmp t)=a.tmps.getD t undef:=rfl
     rw [hev] at o2
     rcases o2 with h|h|⟨b,xs,g1,g2,g3,g4⟩
     ·exact .inl (by simpa using h)
     ·exact .inr (.inl (by simpa using h.2))
     ·obtain ⟨q1,q2,_,q4,_⟩:=R'.tks k b g1
      exact .inr (.inr ⟨b,xs,q1,q2,q4,by simpa using g2,by simpa using g3,g4⟩)
   ·exact (Ac h2).elim
  ·exact (Ac h2).elim
 ·rename_i ad ty
  obtain ⟨y,r1,h1,h2⟩:=Ag h
  have hs:=Hk R h1
  split at h2
  ·rename_i id k hag
   obtain ⟨xs,r2,h3,h4⟩:=Ag h2
   cases hpp:De xs with
   |false=>rw [hpp] at h4;exact (Ac h4).elim
   |true=>
    rw [hpp,cond_true] at h4
    simp only [M.run,Option.some.injEq,Prod.mk.injEq] at h4
    obtain ⟨⟨rfl,rfl,rfl⟩,_⟩:=h4
    obtain ⟨us,g1,g2,g3,g4⟩:=Ws R _ h3
    have hp:=hs.rel
    simp only [Aa] at hp
    have hp':a.tmps.getD ad undef=.pointer (some ⟨G.bk id,k,none⟩):=hp
    have hl:=Jq hY hag g1 g3
    have hrun:([ResultVar.cell ad ty].mapM (Aq a.tmps)).run P w=.ok [.agg us.toArray] w:=by
     rw [Gz]
     simp [Aq,hp',asAddr,hl,Result.andThen]
    refine ⟨.nil,_,hrun,fun {G'} R' lift _=>?_⟩
    simp only [List.size_toArray,List.length_cons,List.length_nil,Nat.zero_add,dif_pos]
    refine ⟨hpp,?_⟩
    obtain ⟨k1,_⟩:=(VOKs.lift g4 lift).relTs g2
    simp only [Aa]
    exact ⟨us.toArray,by simp,Ab.pure (G:=G') (G':=Gh0 G'.vis) rfl hpp (by simpa using k1)⟩
  ·exact (Ac h2).elim
 ·rename_i hne
  obtain ⟨⟨xs,ps1,W1⟩,r1,h1,h2⟩:=Ag h
  simp only [M.run,Option.some.injEq,Prod.mk.injEq] at h2
  obtain ⟨⟨rfl,rfl,rfl⟩,_⟩:=h2
  obtain ⟨c1,vs,c2,c3⟩:=Apa hY R h1 hps
  refine ⟨c1,vs,c2,fun {G'} R' lift hv=>?_⟩
  have h2:=c3 c1 (fun _ h=>h) R' lift hv
  unfold outT
  split
  ·rename_i d
   have hl:vs.length=1:=by rw [<-h2.1];rfl
   have hu0:vs[0]?=some vs[0]:=List.getElem?_eq_getElem (by omega)
   have:=h2.2 0 d vs[0] rfl hu0
   simp only [List.size_toArray,hl,dif_pos]
   simpa [Fz] using this
  ·rename_i hne
   have hl:¬ vs.toArray.size=1:=by
    intro hh
    have:xs.length=1:=by rw [h2.1];simpa using hh
    match xs,this with
    | [d],_=>exact hne d rfl
   rw [dif_neg hl]
   exact ⟨_,rfl,by simpa using h2⟩
/-! marks -/
theorem Apc {F:Fence} {n:Nat} {fn:Func} {tmps:Array Value} {K:Ending->World->Prop} {ds:List Deferred} {u:FrameMode} (hu:u≠.run):∀ (L:List Nat) (w:World),L.Nodup->(∀ D,D∈L->w.heap[D]?=some (.deferred (some [])))->
  (∀ w2,Same w w2->(∀ vis,KeepV vis w w2)->(∀ b,b ∉ L->w2.heap[b]?=w.heap[b]?)->LeavesInM F n P fn tmps K ds u w2)->LeavesInM F n P fn tmps K (L.map Nm++ds) u w:=by
 intro L
 induction L with
 |nil=>intro w _ _ h;exact h w (.refl _) (fun _=>.refl _ _) (fun _ _=>rfl)
 |cons D L ih=>
  intro w hnd hD h
  obtain ⟨hn1,hn2⟩:=List.nodup_cons.1 hnd
  have hd:=hD D List.mem_cons_self
  have hkv:∀ vis,KeepV vis w (w.putObj D (.deferred none)):=fun vis=>by
   refine ⟨fun b i _=>?_,fun b _ es c hb=>?_,fun b cs t z hb=>?_⟩
   ·by_cases hbl:b=D
    ·subst hbl
     have h2:(w.putObj b (.deferred none)).heap[b]?=some (.deferred none):=World.putObj_heap_same (Array.getElem?_eq_some_iff.1 hd).1
     simp [World.cell?,hd,h2]
    ·exact World.cell?_of_block (World.putObj_heap_other hbl)
   ·have hbl:b≠D:=fun hh=>by rw [hh,hd] at hb;cases hb
    rw [World.putObj_heap_other hbl];exact hb
   ·have hbl:b≠D:=fun hh=>by rw [hh,hd] at hb;cases hb
    exact ⟨cs,t,z,by rw [World.putObj_heap_other hbl];exact hb,Nat.le_refl _⟩
  refine ⟨hu,.inl ⟨D,w.putObj D (.deferred none),rfl,run_takeDeferred hd,?_⟩⟩
  refine ih _ hn2 (fun D' hD'=>?_) fun w2 h1 h2 h3=>?_
  ·rw [World.putObj_heap_other (fun hh:D'=D=>hn1 (hh▸hD'))]
   exact hD D' (List.mem_cons_of_mem _ hD')
  ·refine h w2 (Sr.trans h1) (fun vis=>(hkv vis).trans (h2 vis)) fun b hb=>?_
   rw [h3 b (fun hh=>hb (List.mem_cons_of_mem _ hh)),World.putObj_heap_other (fun hh:b=D=>hb (hh▸List.mem_cons_self))]
theorem Sv (R:Rel Y X nt [] e a w G) {F:Fence} {n:Nat} {fn:Func} {K:Ending->World->Prop} {u:FrameMode} (hu:u≠.run)
  (h:∀ w2 G2,Same w w2->G2.bk=G.bk->G2.vis=G.vis->Rel Y X nt a.defers e a w2 G2->LeavesInM F n P fn a.tmps K [] u w2):LeavesInM F n P fn a.tmps K a.defers u w:=by
 have hd:=R.defers
 rw [hd]
 refine Apc hu _ _ G.dm.nd (fun D hD=>(R.marks D hD).2.1) fun w2 h1 h2 h3=>?_
 have R2:Rel Y X nt a.defers e a w { G with dm:=⟨[],.nil⟩ }:=by
  refine R.re (X':=X) ⟨fun b=>Nat.le_refl _,.refl _ _,fun _ _=>rfl⟩ rfl rfl rfl rfl rfl rfl (fun b hb=>⟨rfl,rfl,?_⟩) (Nat.le_refl _) (fun _ _ _=>rfl) R.size rfl (fun D hD=>(List.not_mem_nil hD).elim) (fun lift t=>lift _ _ (R.slots t))
   R.fresh R.old R.hlt R.fzh R.jj
  rcases hb with ⟨id,q1,rfl⟩|⟨k,q1⟩
  ·exact (R.mem.box id q1).1
  ·exact (R.tks k b q1).2.2.1
 refine h w2 { G with dm:=⟨[],.nil⟩ } h1 rfl rfl (R2.stay h1 (h2 _) fun b hb=>h3 b fun hD=>?_)
 have hm:=R.marks b hD
 rcases hb with (⟨id,q1,rfl⟩|⟨k,q1⟩)|hb|hb
 ·have q2:=(R.mem.box id q1).2.2
  exact q2.nodef hm.2.1
 ·obtain ⟨_,_,_,⟨cs,t,q4⟩,_⟩:=R.tks k b q1
  rw [hm.2.1] at q4;cases q4
 ·exact hm.1 hb
 ·exact (List.not_mem_nil hb).elim
theorem Xt (S:Set P Y Gl) {fn:Func} {own:Bool} {Rp:Res->Env->Prop} {K:Ending->World->Prop}
  (hK:∀ e2 a2 w2 ds2 G2,Rel Y X nt ds2 e2 a2 w2 G2->(∀ x v,Rp (.ret x) e2->Fz X.base G2.vis w2 x v->K (.returned v) w2)/\(∀ v,Rp (.pan v) e2->K (.panicked [{ v,recovered:=false }]) w2)):
  ∀ ex a w,Oa Y X nt [] (Nl Y fn own Rp) ex a w->bodyPostM (Fr none) fu P fn K ex a w:=by
 have fin:∀ {a:Act} {w:World} {G:Gh} (e:Env),(match (Vw Y own fn.results.toList).run e.get [] with|some ((x,g),_)=>Km g.1 (Rp (.ret x) (g.2++e))|none=>False)->Rel Y X nt [] e a w G->LeavesInM (Fr none) fu P fn a.tmps K a.defers .returning w:=by
  intro a w G e hp R
  refine Sv R (by simp) fun w2 G2 _ _ _ R2=>?_
  split at hp
  ·rename_i x g rr hrun
   obtain ⟨ps,W⟩:=g
   obtain ⟨h1,h2⟩:=Qa hp
   obtain ⟨hf,vs,h3,h4⟩:=Apb S.y R2 hrun h1
   obtain ⟨G3,R3,lift,hv,_⟩:=Js R2 hf
   have hres:(results fn a.tmps).run P w2=.ok (if h:vs.toArray.size=1 then vs.toArray[0] else .tuple vs.toArray) w2:=by
    have he:fn.results.mapM (Aq a.tmps)=List.toArray <$> fn.results.toList.mapM (Aq a.tmps):=Array.mapM_eq_mapM_toList ..
    have he2:results fn a.tmps=(fn.results.mapM (Aq a.tmps) >>= fun vs=>pure (if h:vs.size=1 then vs[0] else .tuple vs)):=rfl
    rw [he2,he]
    simp only [Sem.run_bind,Sem.run_map,h3,Result.andThen_ok,Sem.run_pure]
   exact ⟨_,hres,(hK _ _ _ _ _ R3).1 x _ h2 (h4 R3 lift hv)⟩
  ·exact hp.elim
 intro ex a w hq
 cases ex with
 |normal=>obtain ⟨o,e,h1,⟨G,R⟩⟩:=hq;exact fin e h1 R
 |ret=>obtain ⟨o,e,h1,⟨G,R⟩⟩:=hq;exact fin e h1 R
 |panic chain=>
  obtain ⟨v,o,e,rfl,h1,⟨G,R⟩⟩:=hq
  exact Sv R (by simp) fun w2 G2 _ _ _ R2=>(hK _ _ _ _ _ R2).2 v h1
 |exit id=>obtain ⟨o,e,h1,_⟩:=hq;exact h1.elim
 |goto l=>exact hq.elim
 |outgrown=>exact hq.elim
end
section
variable {P:Program} {Y:TypeId->Ty} {Gl:World->Prop} {X:Cx} {nt:Nat} {ds:List Deferred} {e e0:Env} {a:Act} {w:World} {G:Gh} {fu:Nat} {yd:Yd}
theorem Acp:∀ (xs:List T) (i t:Nat) (E:Env),Env.get (entry i xs++E) 0 t=if i<=t then (match xs[t - i]? with|some x=>x.dem|none=>E.get 0 t) else E.get 0 t
 | [],i,t,E=>by simp [entry]
 |x::xs,i,t,E=>by
  simp only [entry,List.cons_append]
  rw [Ap]
  by_cases h:i=t
  ·subst h;simp
  ·rw [if_neg (fun hh=>h hh.2),Acp xs (i+1) t E]
   by_cases h2:i<=t
   ·rw [if_pos (by omega),if_pos h2,show t - i=(t - (i+1))+1 by omega,List.getElem?_cons_succ]
   ·rw [if_neg (by omega),if_neg h2]
theorem Ah2:∀ (xs:List T) (i:Nat) {t:Nat} (k:Nat) (E:Env),t≠0->Env.get (entry i xs++E) t k=E.get t k
 | [],_,_,_,_,_=>rfl
 |x::xs,i,t,k,E,h=>by
  simp only [entry,List.cons_append]
  rw [Ax (fun hh=>h hh.1.symm)]
  exact Ah2 xs (i+1) k E h
theorem Sw {x:T} (h:Gj x=true):x≠.any:=fun hh=>by rw [hh] at h;cases h
theorem Acq {E:Env}:∀ {l:List Nat},Ir E l=true->∀ id∈l,E.get 2 id≠.any
 | [],_,_,h=>(by cases h)
 |i::r,h,id,hid=>by
  simp only [Ir,Bool.and_eq_true] at h
  cases hid with
  |head=>exact Sw h.1
  |tail _ hid=>exact Acq h.2 id hid
theorem La:∀ {pre:Env},En pre=true->(∀ t,pre.get 0 t=.any∨(t=BIG/\∃ p,pre.get 0 t=.tr p))/\(∀ k,pre.get 1 k=.any)/\∀ id,pre.get 2 id≠.any->FAR<=id
 | [],_=>⟨fun _=>.inl rfl,fun _=>rfl,fun _ h=>absurd rfl h⟩
 |(0,k,x)::r,h=>by
  simp only [En,Bool.and_eq_true] at h
  obtain ⟨h1,h2,h3⟩:=La h.2
  have hk:=Nat.eq_of_beq_eq_true h.1.1
  refine ⟨fun t=>?_,fun k'=>by rw [Ax (by omega)];exact h2 k',fun id hid=>h3 id (by rw [Ax (by omega)] at hid;exact hid)⟩
  rw [Ap]
  split
  ·rename_i hh
   refine .inr ⟨by rw [<-hh.2];exact hk,?_⟩
   have:=h.1.2
   unfold Iu at this
   split at this
   ·exact ⟨_,rfl⟩
   ·cases this
  ·exact h1 t
 |(1,k,x)::r,h=>by simp [En] at h
 |(2,k,x)::r,h=>by
  simp only [En,Bool.and_eq_true] at h
  obtain ⟨h1,h2,h3⟩:=La h.2
  refine ⟨fun t=>by rw [Ax (by omega)];exact h1 t,fun k'=>by rw [Ax (by omega)];exact h2 k',fun id hid=>?_⟩
  rw [Ap] at hid
  split at hid
  ·rename_i hh;rw [<-hh.2];exact Nat.le_of_ble_eq_true h.1.1
  ·exact h3 id hid
 |(t+3,k,x)::r,h=>by
  simp only [En] at h
  obtain ⟨h1,h2,h3⟩:=La h
  exact ⟨fun t=>by rw [Ax (by omega)];exact h1 t,fun k'=>by rw [Ax (by omega)];exact h2 k',fun id hid=>h3 id (by rw [Ax (by omega)] at hid;exact hid)⟩
theorem Hn:∀ {pre:Env},En pre=true->∀ id,pre.get 2 id≠.any->Cq (pre.get 2 id)=true
 | [],_,_,h=>absurd rfl h
 |(0,k,x)::r,h,id,hid=>by
  simp only [En,Bool.and_eq_true] at h
  rw [Ax (by omega)] at hid ⊢
  exact Hn h.2 id hid
 |(1,k,x)::r,h,_,_=>by simp [En] at h
 |(2,k,x)::r,h,id,hid=>by
  simp only [En,Bool.and_eq_true] at h
  rw [Ap] at hid ⊢
  split at hid
  ·rename_i hh;rw [if_pos hh];exact h.1.2
  ·rename_i hh;rw [if_neg hh];exact Hn h.2 id hid
 |(t+3,k,x)::r,h,id,hid=>by
  simp only [En] at h
  rw [Ax (by omega)] at hid ⊢
  exact Hn h id hid
theorem Bv.tame {G G':Gh} {w:World} {o:T} {b:Nat} (ho:Cq o=true) (hv:G'.vis=G.vis) (h:Bv G w o b):Bv G' w o b:=by
 unfold Bv at h ⊢
 split at h<;>first|(rw [hv];exact h)|exact h.elim|cases ho
theorem Mk {pre:Env}:∀ {post:Env},Hj pre post=true->(∀ k,Bu 1 k (Bf post)=false)/\(∀ id,Bu 2 id (Bf post)=true->Ev (post.get 2 id) (pre.get 2 id)=true)/\∀ t k,Bu (t+3) k (Bf post)=true->pre.get (t+3) k≠.any
 | [],_=>⟨fun _=>rfl,fun _ h=>by simp [Bf,Bu] at h,fun _ _ h=>by simp [Bf,Bu] at h⟩
 |(0,k,x)::r,h=>by
  simp only [Hj,Bool.and_eq_true] at h
  obtain ⟨h1,h2,h3⟩:=Mk h.2
  exact ⟨fun k'=>by simpa [Bf,Bu] using h1 k',fun id hid=>by rw [Ax (by omega)];exact h2 id (by simpa [Bf,Bu] using hid),fun t k' hk=>h3 t k' (by simpa [Bf,Bu] using hk)⟩
 |(1,k,x)::r,h=>by simp [Hj] at h
 |(2,k,x)::r,h=>by
  simp only [Hj,Bool.and_eq_true] at h
  obtain ⟨h1,h2,h3⟩:=Mk h.2
  refine ⟨fun k'=>by simpa [Bf,Bu] using h1 k',fun id hid=>?_,fun t k' hk=>h3 t k' (by
   simp only [Bf,Bu,Bool.or_eq_true,Bool.and_eq_true] at hk
   exact hk.resolve_left fun hh=>by have:=Nat.eq_of_beq_eq_true hh.1;omega)⟩
  rw [Ap]
  split
  ·rename_i hh;rw [<-hh.2];exact h.1
  ·rename_i hh
   refine h2 id ?_
   simp only [Bf,Bu,Bool.or_eq_true,Bool.and_eq_true] at hid
   exact hid.resolve_left fun hh'=>hh ⟨rfl,(Nat.eq_of_beq_eq_true hh'.2).symm⟩
 |(t+3,k,x)::r,h=>by
  simp only [Hj,Bool.and_eq_true] at h
  obtain ⟨h1,h2,h3⟩:=Mk h.2
  refine ⟨fun k'=>?_,fun id hid=>?_,fun t' k' hk=>?_⟩
  ·have hn:Nat.beq 1 (t+3)=false:=by
    cases hb:Nat.beq 1 (t+3) with
    |false=>rfl
    |true=>have:=Nat.eq_of_beq_eq_true hb;omega
   simp only [Bf,Bu,hn,Bool.false_and,Bool.false_or];exact h1 k'
  ·rw [Ax (by omega)]
   simp only [Bf,Bu,Bool.or_eq_true,Bool.and_eq_true] at hid
   exact h2 id (hid.resolve_left fun hh=>by have:=Nat.eq_of_beq_eq_true hh.1;omega)
  ·simp only [Bf,Bu,Bool.or_eq_true,Bool.and_eq_true] at hk
   rcases hk with hk|hk
   ·rw [Nat.eq_of_beq_eq_true hk.1,Nat.eq_of_beq_eq_true hk.2];exact Sw h.1
   ·exact h3 t' k' hk
theorem Apd {O:Nat->Prop} {pre E:Env} (hE:∀ id,E.get 2 id=pre.get 2 id) {x:T} {v:Value} (hx:Vx pre x=true) (h:Aa G w O x v):VOK G w O Y E x.dem v:=by
 cases x with
 |d x=>simp only [Aa] at h;exact VOK.dem h
 |yl l=>exact .plain h rfl rfl trivial
 |fn f as bs=>
  refine ⟨h,trivial,fun id hid=>?_,fun k hk=>(by cases hk)⟩
  rw [hE]
  exact Acq (l:=Bd as++Bd bs) hx id hid
 |addr id k=>exact ⟨h,trivial,fun i hi=>by simp only [T.dem,Ai,List.mem_singleton] at hi;subst hi;rw [hE];exact Sw hx,fun k hk=>(by cases hk)⟩
 |arr id k=>exact ⟨h,trivial,fun i hi=>by simp only [T.dem,Ai,List.mem_singleton] at hi;subst hi;rw [hE];exact Sw hx,fun k hk=>(by cases hk)⟩
 |mp id=>exact ⟨h,trivial,fun i hi=>by simp only [T.dem,Ai,List.mem_singleton] at hi;subst hi;rw [hE];exact Sw hx,fun k hk=>(by cases hk)⟩
 |ag xs=>exact ⟨h,trivial,fun id hid=>by rw [hE];exact Acq (l:=Bd xs) hx id hid,fun k hk=>(by cases hk)⟩
 |_=>simp [Vx] at hx
theorem Ah3 {pre:Env}:∀ {xs:List T},Jo pre xs=true->∀ (i:Nat) x,xs[i]?=some x->Vx pre x=true
 | [],_,i,x,h=>by simp at h
 |y::r,hx,i,x,h=>by
  simp only [Jo,Bool.and_eq_true] at hx
  cases i with
  |zero=>simp only [List.getElem?_cons_zero,Option.some.injEq] at h;subst h;exact hx.1
  |succ i=>exact Ah3 hx.2 i x (by simpa using h)
theorem start {args:List T} {pre:Env} {vs:Array Value} (hpre:En pre=true) (ha:Jo pre args=true) (hlen:args.length<=nt) (hnt:nt<=FAR) (hm:Mem Y X.fz pre w G) (hr:Ab G w X.fz args vs.toList) (htk:∀ k,G.tk k=none) (hdm:G.dm=⟨[],.nil⟩)
  (hfresh:∀ b,w.heap.size<=b->G.vis b=0) (hold:∀ b,b<X.base->G.vis b=X.vis b) (hbase:X.base<=w.heap.size) (hown:∀ id,pre.get 2 id≠.any->Wd X id (G.bk id)) (hlt:∀ b,G.H b->b<w.heap.size) (hfzh:∀ b,X.fz b->G.H b)
  (hjj:X.J (trN (pre.get 0 BIG)) G.H G.vis w) (hfar:∀ id k,FAR<=id->pre.get 2 id=live->pre.get (id+3) k=.any->w.cell? ⟨G.bk id,k,none⟩=X.c0 (G.bk id) k):
  Rel Y X nt [] (entry 0 args++pre) { tmps:=vs++Array.replicate (nt - vs.size) undef,defers:=[] } w G:=by
 obtain ⟨p0,p1,p2⟩:=La hpre
 have hsz:args.length=vs.size:=by simpa using hr.len
 have ho:∀ t k,t≠0->Env.get (entry 0 args++pre) t k=pre.get t k:=fun t k ht=>Ah2 args 0 k pre ht
 have lift:∀ {x:T} {v:Value},VOK G w X.fz Y pre x v->VOK G w X.fz Y (entry 0 args++pre) x v:=fun {x v} h=>h.env (fun id=>ho 2 id (by decide)) (fun k=>ho 1 k (by decide))
 have hFB:FAR<BIG:=by decide
 refine ⟨⟨fun id k hk=>?_,fun id h=>?_,fun id id' h1 h2=>?_⟩,by simp;omega,by rw [hdm];rfl,fun D hD=>by rw [hdm] at hD;exact (List.not_mem_nil hD).elim,fun t=>?_,fun k b hb=>(by rw [htk] at hb;cases hb),fun k k' b hb=>(by rw [htk] at hb;cases hb),fun k b hb=>(by rw [htk] at hb;cases hb),
  hfresh,hold,hbase,fun id h=>?_,hlt,hfzh,?_,fun id k hf h1 h2=>?_⟩
 ·rw [ho _ k (by omega)] at hk ⊢
  rw [ho 2 id (by decide)]
  obtain ⟨h1,h2,u,h3,h4⟩:=hm.cells id k hk
  exact ⟨h1,h2,u,h3,lift h4⟩
 ·rw [ho 2 id (by decide)] at h ⊢;exact hm.box id h
 ·rw [ho 2 _ (by decide)] at h1 h2;exact hm.inj id id' h1 h2
 ·rw [Acp,if_pos (Nat.zero_le _),Nat.sub_zero]
  cases ht:args[t]? with
  |none=>
   dsimp only
   rcases p0 t with h|⟨_,p,h⟩
   ·rw [h];exact VOK.any _
   ·rw [h];exact .plain (by simp only [Aa]) rfl rfl trivial
  |some x=>
   have hlt:t<vs.size:=by rw [<-hsz];exact (List.getElem?_eq_some_iff.1 ht).1
   have hvt:vs.toList[t]?=some vs[t]:=by simp [hlt]
   have:=hr.get t x _ ht hvt
   have hgd:(vs++Array.replicate (nt - vs.size) undef).getD t undef=vs[t]:=by
    simp [Array.getD_eq_getD_getElem?,Array.getElem?_append,hlt]
   unfold Dg
   rw [if_pos (by omega),hgd]
   exact Apd (fun id=>ho 2 id (by decide)) (Ah3 ha t x ht) this
 ·rw [ho 2 _ (by decide)] at h;exact hown id h
 ·have:Env.get (entry 0 args++pre) 0 BIG=pre.get 0 BIG:=by
   rw [Acp,if_pos (Nat.zero_le _),Nat.sub_zero,List.getElem?_eq_none (by omega)]
  rw [this];exact hjj
 ·rw [ho 2 _ (by decide)] at h1;rw [ho _ k (by omega)] at h2;exact hfar id k hf h1 h2
theorem Xu {base:Nat} {vis:Nat->Nat} {x:T} {res:Res} {v:Value} (h:∀ p∈Ox (.ret x) res,p) (hr:Fz base vis w x v):∃ y,res=.ret y/\Fz base vis w y v:=by
 unfold Ox at h
 split at h
 ·rename_i d y hx
  obtain rfl:=Res.ret.inj hx
  exact ⟨_,rfl,Ac1 h hr⟩
 ·rename_i xs ys hx
  obtain rfl:=Res.ret.inj hx
  obtain ⟨vs,hv,hr⟩:=hr
  exact ⟨_,rfl,vs,hv,Afz h hr⟩
 ·rename_i sz n f sz' n' f' hx
  obtain rfl:=Res.ret.inj hx
  cases hs:sz.beq sz' with
  |false=>rw [hs] at h;exact (h False List.mem_cons_self).elim
  |true=>
   rw [hs] at h
   obtain rfl:=Nat.eq_of_beq_eq_true hs
   obtain ⟨rfl,hf⟩:=h _ List.mem_cons_self
   obtain ⟨b,cs,t,z,c1,c2,c3,c4,c5,c6,cz,c7,c8⟩:=hr
   refine ⟨_,rfl,b,cs,t,z,c1,c2,c3,c4,c5,c6,cz,c7,fun i hi=>?_⟩
   obtain ⟨g1,g2⟩:=Mg (hf i hi)
   obtain ⟨q1,q2⟩:=c8 i hi
   refine ⟨by rw [<-g1];exact q1,fun j c hc=>?_⟩
   obtain ⟨x,hx,he⟩:=g2 j c hc
   obtain ⟨u,hu1,hu2⟩:=q2 j x hx
   exact ⟨u,hu1,Xd he hu2⟩
 ·rename_i el sz n f el' sz' n' f' hx
  obtain rfl:=Res.ret.inj hx
  cases hs:(el.beq el'&&sz.beq sz') with
  |false=>rw [hs] at h;exact (h False List.mem_cons_self).elim
  |true=>
   rw [hs] at h
   simp only [Bool.and_eq_true] at hs
   obtain rfl:=Nat.eq_of_beq_eq_true hs.1
   obtain rfl:=Nat.eq_of_beq_eq_true hs.2
   have hq:SEq n f n' f':=h _ List.mem_cons_self
   obtain ⟨rfl,hf⟩:=hq
   obtain ⟨c1,c2,c3⟩:=hr
   refine ⟨_,rfl,Xe (x:=.s .n n f) (y:=.s .n n f') (fun p hp=>?_) c1,fun i hi=>by rw [<-(Mg (hf i hi)).1];exact c2 i hi,c3⟩
   have hp:p∈[SEq n f n f']:=hp
   rw [List.mem_singleton.1 hp]
   exact ⟨rfl,hf⟩
 ·rename_i xs ys hx
  obtain rfl:=Res.ret.inj hx
  cases hs:De ys with
  |false=>rw [hs] at h;exact (h False List.mem_cons_self).elim
  |true=>
   rw [hs] at h
   obtain ⟨q1,q2⟩:=hr
   refine ⟨_,rfl,hs,?_⟩
   simp only [Aa] at q2 ⊢
   obtain ⟨vs,hv,h1⟩:=q2
   exact ⟨vs,hv,Iy h h1⟩
 ·rename_i f a b f' a' b' hx
  obtain rfl:=Res.ret.inj hx
  cases hs:(f.beq f'&&Fa (.fn f' a' b')) with
  |false=>rw [hs] at h;exact (h False List.mem_cons_self).elim
  |true=>
   rw [hs] at h
   simp only [Bool.and_eq_true] at hs
   obtain rfl:=Nat.eq_of_beq_eq_true hs.1
   obtain ⟨q1,q2⟩:=hr
   refine ⟨_,rfl,hs.2,?_⟩
   simp only [Aa] at q2 ⊢
   obtain ⟨us,vs,hv,h1,h2⟩:=q2
   exact ⟨us,vs,hv,Iy (fun p hp=>h p (List.mem_append_left _ hp)) h1,Iy (fun p hp=>h p (List.mem_append_right _ hp)) h2⟩
 ·rename_i hx;cases hx
 ·exact (h False List.mem_cons_self).elim
theorem Xv {v:Value} {res:Res} (h:∀ p∈Ox (.pan v) res,p):res=.pan v:=by
 unfold Ox at h
 split at h
 ·rename_i hx;cases hx
 ·rename_i hx;cases hx
 ·rename_i hx;cases hx
 ·rename_i hx;cases hx
 ·rename_i hx;cases hx
 ·rename_i hx;cases hx
 ·rename_i u u' hx
  obtain rfl:=Res.pan.inj hx
  rw [<-h _ List.mem_cons_self]
 ·exact (h False List.mem_cons_self).elim
theorem Computes.args {f:FuncId} {xs ys:List T} {r:Res} (h:Computes P Gl f ys r) (hl:Lw (Cj xs ys)):Computes P Gl f xs r:=
 ⟨h.1,fun vis w vs hv hg ha=>h.2 vis w vs hv hg (Iy (Ic hl) ha)⟩
theorem Does.any {f:FuncId} {xs:List T} {pre post:Env} {r:Res} {yd':Yd} (h:Does P Y Gl yd f xs pre r post) (hm:yd.m=0):Does P Y Gl yd' f xs pre r post:=
 ⟨h.1,fun J G w vs h1 h2 _=>h.2 J G w vs h1 h2 (fun p H vi w vs hp=>by omega)⟩
def J0 (w:World):Oth:=fun _ H _ w'=>(∀ b,b<w.heap.size->H b)/\Below w.heap.size w w'
theorem Sx:(J0 w).Stable:=
 ⟨fun p H vi w1 w2 ⟨h1,h2⟩ hb _ hs=>⟨h1,h2.trans ⟨hs.os,hs.tape,hs.output,hs.size,fun k hk=>hb k (h1 k hk)⟩⟩,fun p H vi vi' w1 h _ _=>h⟩
abbrev yd0:Yd:=⟨0,0,0,fun _=>[]⟩
theorem fn_ok (S:Set P Y Gl) {f:FuncId} {fn:Func} {args:List T} {res:Res} (orc:Orc) (hf:P.funcs[f]?=some fn) (hname:(fn.name== "runtime.NumGoroutine")=false)
  (h:Vy (Computes P Gl) (Does P Y Gl) Y yd0 fn args orc (Aba res) fun r=>It r res):Computes P Gl f args res:=by
 unfold Vy at h
 split at h
 case h_2=>exact h.elim
 rename_i c hc
 obtain ⟨hb,h⟩:=Jv h
 simp only [Bool.and_eq_true] at hb
 obtain ⟨⟨hb1,hb2⟩,hb3⟩:=hb
 refine ⟨⟨fn,hf,hname,by rw [hc];rfl⟩,fun vis w vs hvis hgl hargs=>?_⟩
 obtain ⟨X,hX⟩:∃ X:Cx,({ base:=w.heap.size,vis:=vis,fz:=Lo w.heap.size,J:=J0 w,st:=Sx,sh:=#[],c0:=fun _ _=>none,bk0:=fun _=>0 }:Cx)=X:=⟨_,rfl⟩
 have hXJ:X.J=J0 w:=by subst hX;rfl
 have hXb:X.base=w.heap.size:=by subst hX;rfl
 have hXv:X.vis=vis:=by subst hX;rfl
 have hXf:X.fz=Lo w.heap.size:=by subst hX;rfl
 have U:Sur P Gl X yd0:=⟨fun p H vi w' hj=>by rw [hXJ] at hj;exact S.gl _ _ hgl hj.2,fun p H vi w vs hp=>absurd hp (Nat.not_lt_zero _),.inl rfl⟩
 have R:Rel Y X fn.ntmps [] (entry 0 args++[]) { tmps:=vs++Array.replicate (fn.ntmps - vs.size) undef,defers:=[] } w ⟨vis,fun _=>0,fun _=>none,Lo w.heap.size,⟨[],.nil⟩⟩:=by
  refine start (X:=X) rfl hb3 (Nat.le_of_ble_eq_true hb1) (Nat.le_of_ble_eq_true hb2) ⟨fun id k hk=>absurd rfl hk,fun id hid=>absurd rfl hid,fun id id' hid=>absurd rfl hid⟩ ?_ (fun _=>rfl) rfl hvis (fun b _=>by rw [hXv]) (by rw [hXb];exact Nat.le_refl _)
   (fun id hid=>absurd rfl hid) (fun b hb=>hb) (fun b hb=>by rw [hXf] at hb;exact hb) (by rw [hXJ];exact ⟨fun b hb=>hb,.refl _ _⟩) (fun id k _ hl=>by cases hl)
  rw [hXf]
  exact Ab.mono (G:=Gh0 vis) (G':=⟨vis,fun _=>0,fun _=>none,Lo w.heap.size,⟨[],.nil⟩⟩) (O:=Lo w.heap.size) ⟨fun _=>Nat.le_refl _,.refl _ _,fun _ _=>rfl⟩ (fun _ _=>rfl) hargs
 rw [List.append_nil] at R
 have hwp:=Qe (fu:=0) S c false U (fun _=>rfl) _ orc _ _ w h ⟨_,R⟩
 refine Ps (n:=0) (callsIn_of_wp_marks hf hc trivial (wpIn_mono hwp (Xt S fun e2 a2 w2 ds2 G2 R2=>⟨fun x v hx hr=>?_,fun v hx=>?_⟩)))
 ·have hj:=R2.jj
  rw [hXJ] at hj
  rw [hXb] at hr
  obtain ⟨y,rfl,hr⟩:=Xu (Ic hx) hr
  exact ⟨hj.2,v,G2.vis,rfl,fun b hb=>by rw [R2.old b (by rw [hXb];exact hb),hXv],R2.fresh,hr⟩
 ·have hj:=R2.jj
  rw [hXJ] at hj
  obtain rfl:=Xv (Ic hx)
  exact ⟨hj.2,rfl⟩
def J4 (Xa:Cx) (G:Gh) (w:World) (N:Nat->Prop):Oth:=fun p H vi w'=>J2 Xa G w N p H vi w'/\(∀ b,G.vis b<=vi b)/\KeepV G.vis w w'
theorem Ape {N:Nat->Prop}:(J4 X G w N).Stable:=
 ⟨fun p H vi w1 w2 ⟨h1,h2,h3⟩ hb hk hs=>⟨Acb.1 _ _ _ _ _ h1 hb hk hs,h2,h3.trans (hk.le h2)⟩,fun p H vi vi' w1 ⟨h1,h2,h3⟩ hl he=>⟨Acb.2 _ _ _ _ _ h1 hl he,fun b=>Nat.le_trans (h2 b) (hl b),h3⟩⟩
theorem Apf {N:Nat->Prop} (U:Sur P Gl X yd):Sh P (J4 X G w N) yd:=by
 rintro p H vis w1 vs hm hs ⟨h1,h2,h3⟩ hlt hfr hpu hr
 obtain ⟨fn,tmps,assign,body,hrun,hround⟩:=Agb U p H vis w1 vs hm hs h1 hlt hfr hpu hr
 exact ⟨fn,tmps,assign,body,hrun,hround.mono fun en w2 ⟨g1,g2,g3,g4,g5⟩=>⟨g1,⟨g2,h2,h3.trans (g4.le h2)⟩,g3,g4,g5⟩⟩
theorem Apg (S:Set P Y Gl) {f:FuncId} {fn:Func} {args:List T} {pre post:Env} {res:Res} (orc:Orc) (hf:P.funcs[f]?=some fn) (hname:(fn.name== "runtime.NumGoroutine")=false)
  (h:Vz (Computes P Gl) (Does P Y Gl) Y yd fn args pre post orc fun r=>It r res):Does P Y Gl yd f args pre res post:=by
 unfold Vz at h
 split at h
 case h_2=>exact h.elim
 rename_i c hc
 obtain ⟨hb,h⟩:=Jv h
 simp only [Bool.and_eq_true] at hb
 obtain ⟨⟨⟨⟨hb1,hb2⟩,hb3⟩,hb4⟩,hb5⟩:=hb
 obtain ⟨p0,p1,p2⟩:=La hb4
 obtain ⟨o1,o2,o3⟩:=Mk hb5
 refine ⟨⟨fn,hf,hname,by rw [hc];rfl⟩,fun J G w vs hst hgl hyield hfresh hHlt hJ hmem hargs=>?_⟩
 obtain ⟨Xa,hXa⟩:∃ X:Cx,({ base:=w.heap.size,vis:=G.vis,fz:=fun _=>False,J:=J,st:=hst,sh:=#[],c0:=fun b k=>w.cell? ⟨b,k,none⟩,bk0:=G.bk }:Cx)=X:=⟨_,rfl⟩
 have hXaJ:Xa.J=J:=by subst hXa;rfl
 have hXaf:∀ b,¬ Xa.fz b:=by subst hXa;exact fun b h=>h
 have Ua:Sur P Gl Xa yd:=⟨fun p H vi w' hj=>by rw [hXaJ] at hj;exact hgl _ _ _ _ hj,by rw [hXaJ];exact hyield,.inr hXaf⟩
 obtain ⟨N,hN⟩:∃ N:Nat->Prop,N=fun b=>b<w.heap.size/\¬ G.H b/\∀ id,pre.get 2 id≠.any->G.bk id≠b:=⟨_,rfl⟩
 obtain ⟨X,hX⟩:∃ X:Cx,({ Xa with J:=J4 Xa G w N,st:=Ape }:Cx)=X:=⟨_,rfl⟩
 have hXJ:X.J=J4 Xa G w N:=by subst hX;rfl
 have hXb:X.base=w.heap.size:=by subst hX;subst hXa;rfl
 have hXv:X.vis=G.vis:=by subst hX;subst hXa;rfl
 have hXf:X.fz=fun _=>False:=by subst hX;subst hXa;rfl
 have hXc:X.c0=fun b k=>w.cell? ⟨b,k,none⟩:=by subst hX;subst hXa;rfl
 have hXk:X.bk0=G.bk:=by subst hX;subst hXa;rfl
 have U:Sur P Gl X yd:=⟨fun p H vi w' hj=>by
  rw [hXJ] at hj
  obtain ⟨⟨H',_,_,h3,_⟩,_⟩:=hj
  rw [hXaJ] at h3
  exact hgl _ _ _ _ h3,by rw [hXJ];exact Apf Ua,.inr (by rw [hXf];exact fun b h=>h)⟩
 obtain ⟨G1,hG1⟩:∃ G1:Gh,(⟨G.vis,G.bk,fun _=>none,fun b=>G.H b∨N b,⟨[],.nil⟩⟩:Gh)=G1:=⟨_,rfl⟩
 have hG1v:G1.vis=G.vis:=by subst hG1;rfl
 have hG1b:G1.bk=G.bk:=by subst hG1;rfl
 have hext:Ext (fun _=>False) G G1 w w:=⟨fun b=>by rw [hG1v];exact Nat.le_refl _,.refl _ _,fun _ _=>rfl⟩
 have lift:∀ {x:T} {v:Value},VOK G w (fun _=>False) Y pre x v->VOK G1 w (fun _=>False) Y pre x v:=fun {x v} h=>
  VOK.mono hext (fun _ _=>by rw [hG1b]) (fun _ h=>h) (fun k hk=>absurd (p1 k) hk) (fun k b hk=>absurd (p1 k) hk) h
 have hNb:∀ id,pre.get 2 id≠.any->¬ N (G.bk id):=fun id hid hh=>by rw [hN] at hh;exact hh.2.2 id hid rfl
 have hmem1:Mem Y (fun _=>False) pre w G1:=by
  refine ⟨fun id k hk=>?_,fun id hid=>?_,fun id id' h1 h2=>by rw [hG1b];exact hmem.inj id id' h1 h2⟩
  ·obtain ⟨q1,q2,u,q3,q4⟩:=hmem.cells id k hk
   exact ⟨q1,q2,u,by rw [hG1b];exact q3,lift q4⟩
  ·obtain ⟨q1,q2,q3⟩:=hmem.box id hid
   rw [hG1b]
   refine ⟨fun hh=>?_,q2,?_⟩
   ·subst hG1;exact hh.elim q1 (hNb id hid)
   ·exact q3.tame (Hn hb4 id hid) hG1v
 have R:Rel Y X fn.ntmps [] (entry 0 args++pre) { tmps:=vs++Array.replicate (fn.ntmps - vs.size) undef,defers:=[] } w G1:=by
  refine start (X:=X) hb4 hb3 (Nat.le_of_ble_eq_true hb1) (Nat.le_of_ble_eq_true hb2) (by rw [hXf];exact hmem1) ?_ (by subst hG1;exact fun _=>rfl) (by subst hG1;rfl) (by rw [hG1v];exact hfresh) (fun b _=>by rw [hXv,hG1v]) (by rw [hXb];exact Nat.le_refl _)
   (fun id hid=>⟨fun hf=>by have:=p2 id hid;omega,fun _=>by rw [hG1b,hXk]⟩) (fun b hb=>?_) (fun b hb=>by rw [hXf] at hb;exact hb.elim) ?_ (fun id k _ _ _=>by rw [hXc])
  ·rw [hXf]
   exact Ab.mono hext (fun _ _=>by rw [hG1b]) hargs
  ·subst hG1
   rcases hb with hb|hb
   ·exact hHlt b hb
   ·rw [hN] at hb;exact hb.1
  ·rw [hXJ]
   subst hG1
   refine ⟨⟨G.H,fun b=>Iff.rfl,fun b hb=>?_,by rw [hXaJ];exact hJ,fun _ _=>rfl,fun b hb=>absurd hb (hXaf b),fun _ _=>Iff.rfl,hHlt,.refl _⟩,fun _=>Nat.le_refl _,.refl _ _⟩
   rw [hN] at hb
   exact ⟨hb.2.1,hb.1⟩
 have hwp:=Qe (fu:=0) S c false U (fun _=>rfl) _ orc _ _ w h ⟨_,R⟩
 have key:∀ {e2:Env} {a2:Act} {w2:World} {ds2:List Deferred} {G2:Gh} {r:Res} {en:Ending},Rel Y X fn.ntmps ds2 e2 a2 w2 G2->le e2 (Ah post pre)->
   (match r with
    | .ret x=>∃ v,en=.returned v/\Fz w.heap.size G2.vis w2 x v
    | .pan v=>en=.panicked [{ v,recovered:=false }]
    | .new _ _=>False)->
   Same w w2/\KeepV G.vis w w2/\(∀ b,b<w.heap.size->¬ G.H b->(∀ id,pre.get 2 id≠.any->G.bk id≠b)->w2.heap[b]?=w.heap[b]?)/\
   (∀ id k,pre.get 2 id=live->pre.get (id+3) k=.any->w2.cell? ⟨G.bk id,k,none⟩=w.cell? ⟨G.bk id,k,none⟩)/\Afs Y J G (Ah post pre) w en w2 r:=by
  intro e2 a2 w2 ds2 G2 r en R2 hle hr
  obtain ⟨G3,R3,q1,q2,q3,q4,q5,q6⟩:=Sp hle R2
  have hj:=R3.jj
  rw [hXJ] at hj
  obtain ⟨⟨H',h1,h2,h3,h4,h5,h6,h6',h7⟩,hv,hkv⟩:=hj
  have hused:∀ id,Env.get (Ah post pre) 2 id≠.any->pre.get 2 id≠.any:=fun id hid=>by
   rw [Ee] at hid
   split at hid
   ·rename_i hk
    have:=o2 id hk
    intro hh
    rw [hh] at this
    unfold Ev at this
    split at this<;>first|(rename_i hx;cases hx;done)|cases this
   ·exact hid
  have hbk:∀ id,Env.get (Ah post pre) 2 id≠.any->G3.bk id=G.bk id:=fun id hid=>by
   have:=(R3.ownb id hid).2 (p2 id (hused id hid))
   rw [hXk] at this
   exact this
  have htok:∀ k,Env.get (Ah post pre) 1 k=.any:=fun k=>by
   rw [Ee,o1 k,if_neg (by decide)];exact p1 k
  refine ⟨h7,hkv,fun b hb hH hn=>h4 b (by rw [hN];exact ⟨hb,hH,hn⟩),fun id k hl hk=>?_,?_⟩
  ·have hid:pre.get 2 id≠.any:=by rw [hl];exact Bh
   have hl':Env.get (Ah post pre) 2 id=live:=by
    rw [Ee]
    split
    ·rename_i hkk
     have:=o2 id hkk
     rw [hl] at this
     unfold Ev at this
     split at this
     ·rename_i hx _;exact hx
     ·rename_i hx;cases hx
     ·rename_i hx;cases hx
     ·cases this
    ·exact hl
   have hk':Env.get (Ah post pre) (id+3) k=.any:=by
    rw [Ee]
    split
    ·rename_i hkk;exact absurd hk (o3 id k hkk)
    ·exact hk
   have:=R3.far id k (p2 id hid) hl' hk'
   rw [hXc,hbk id (by rw [hl'];exact Bh)] at this
   exact this
  ·obtain ⟨G',hG'⟩:∃ G':Gh,(⟨G3.vis,G.bk,fun _=>none,H',⟨[],.nil⟩⟩:Gh)=G':=⟨_,rfl⟩
   have hG'v:G'.vis=G3.vis:=by subst hG';rfl
   have hG'b:G'.bk=G.bk:=by subst hG';rfl
   have hG'H:G'.H=H':=by subst hG';rfl
   refine ⟨G',hG'b,fun b hb=>?_,by rw [hG'v];exact R3.fresh,by rw [hG'H];exact h6,by rw [hG'H];exact h6',by rw [hG'H,hG'v];rw [hXaJ] at h3;exact h3,?_,?_⟩
   ·rw [hG'v,R3.old b (by rw [hXb];exact hb),hXv]
   ·have hm3:=R3.mem
    rw [hXf] at hm3
    refine ⟨fun id k hk=>?_,fun id hid=>?_,fun id id' h1 h2=>?_⟩
    ·obtain ⟨g1,g2,u,g3,g4⟩:=hm3.cells id k hk
     have hid:Env.get (Ah post pre) 2 id≠.any:=by rw [g1];exact Bh
     refine ⟨g1,g2,u,by rw [hG'b,<-hbk id hid];exact g3,?_⟩
     exact VOK.mono ⟨fun b=>by rw [hG'v];exact Nat.le_refl _,.refl _ _,fun _ _=>rfl⟩ (fun id hid=>by rw [hG'b];exact (hbk id hid).symm) (fun _ h=>h) (fun k hk=>absurd (htok k) hk) (fun k b hk=>absurd (htok k) hk) g4
    ·obtain ⟨g1,g2,g3⟩:=hm3.box id hid
     rw [hG'b,<-hbk id hid,hG'H]
     refine ⟨fun hh=>g1 ((h1 _).2 (.inl hh)),g2,?_⟩
     refine g3.tame ?_ hG'v
     rw [Ee] at hid ⊢
     split at hid
     ·rename_i hk
      rw [if_pos hk]
      have:=o2 id hk
      unfold Ev at this
      split at this<;>first|(cases this;done)|(rename_i q1 q2;rw [q1];rfl)
     ·rename_i hk
      rw [if_neg hk]
      exact Hn hb4 id hid
    ·rw [hG'b,<-hbk id h1,<-hbk id' h2];exact hm3.inj id id' h1 h2
   ·rw [hG'v,q1];exact hr
 refine Ps (n:=0) (callsIn_of_wp_marks hf hc trivial (wpIn_mono hwp (Xt S fun e2 a2 w2 ds2 G2 R2=>⟨fun x v hx hr=>?_,fun v hx=>?_⟩)))
 ·rw [hXb] at hr
  obtain ⟨y,rfl,hr⟩:=Xu (Ic hx.1) hr
  exact key R2 hx.2 ⟨v,rfl,hr⟩
 ·obtain rfl:=Xv (Ic hx.1)
  exact key R2 hx.2 rfl
theorem An (S:Set P Y Gl) {f:FuncId} {fn:Func} {args:List T} {res:Res} (orc:Orc) (hf:P.funcs[f]?=some fn) (hname:(fn.name== "runtime.NumGoroutine")=false) (q:Prop)
  (hq:q=Vy (Computes P Gl) (Does P Y Gl) Y yd0 fn args orc (Aba res) fun r=>It r res) (h:q):Computes P Gl f args res:=fn_ok S orc hf hname (hq▸h)
theorem Qf (S:Set P Y Gl) {f:FuncId} {fn:Func} {args:List T} {pre post:Env} {res:Res} (orc:Orc) (hf:P.funcs[f]?=some fn) (hname:(fn.name== "runtime.NumGoroutine")=false) (q:Prop)
  (hq:q=Vz (Computes P Gl) (Does P Y Gl) Y yd fn args pre post orc fun r=>It r res) (h:q):Does P Y Gl yd f args pre res post:=Apg S orc hf hname (hq▸h)
theorem Ao (S:Set P Y Gl) {f:FuncId} {fn:Func} {args:List T} {res:Res} (oq:Orc×Prop) (hf:P.funcs[f]?=some fn) (hname:(fn.name== "runtime.NumGoroutine")=false)
  (hq:oq.2=Vy (Computes P Gl) (Does P Y Gl) Y yd0 fn args oq.1 (Aba res) fun r=>It r res) (h:oq.2):Computes P Gl f args res:=An S oq.1 hf hname oq.2 hq h
theorem Ef (S:Set P Y Gl) {f:FuncId} {fn:Func} {args:List T} {pre post:Env} {res:Res} (oq:Orc×Prop) (hf:P.funcs[f]?=some fn) (hname:(fn.name== "runtime.NumGoroutine")=false)
  (hq:oq.2=Vz (Computes P Gl) (Does P Y Gl) Y yd fn args pre post oq.1 fun r=>It r res) (h:oq.2):Does P Y Gl yd f args pre res post:=Qf S oq.1 hf hname oq.2 hq h
end
section
variable {P:Program} {Y:TypeId->Ty} {Gl:World->Prop}
def Gb (e:Env) (id:Nat):Nat->List C->Prop
 |_,[]=>True
 |k,c::r=>e.get (id+3) k=.d (.c c)/\Gb e id (k+1) r
theorem Xw {e:Env} {id:Nat}:∀ {cs:List C} {k:Nat},Gb e id k cs->∀ (j:Nat) c,cs[j]?=some c->e.get (id+3) (k+j)=.d (.c c)
 | [],_,_,j,c,h=>by simp at h
 |x::r,k,h,j,c,hj=>by
  cases j with
  |zero=>simp only [List.getElem?_cons_zero,Option.some.injEq] at hj;subst hj;exact h.1
  |succ j=>
   have:=Xw h.2 j c (by simpa using hj)
   rw [show k+(j+1)=k+1+j by omega];exact this
def Aph (t:Nat) (g:FuncId) (id:Nat) (cs:List C):Dm
 | .normal,_,e=>e.get 0 t=.fn g [] [.addr id 0]/\e.get 2 id=live/\Gb e id 0 cs
 | .ret,_,e=>e.get 0 t=.fn g [] [.addr id 0]/\e.get 2 id=live/\Gb e id 0 cs
 |_,_,_=>False
def Ah4 (Comp:FuncId->List T->Res->Prop) (Comp2:Yd->FuncId->List T->Env->Res->Env->Prop) (Y:TypeId->Ty) (fn:Func) (args:List T) (orc:Orc) (t:Nat) (g:FuncId) (id:Nat) (cs:List C):Prop:=
 match fn.body with
 |some c=>ifB (Nat.ble args.length fn.ntmps&&Nat.ble fn.ntmps FAR&&Jo [] args) (wp Comp Comp2 Y fn.ntmps yd0 false c (Aph t g id cs) orc (entry 0 args))
 |none=>False
theorem Acr (S:Set P Y Gl) {f:FuncId} {fn:Func} {args:List T} {t:Nat} {g:FuncId} {id:Nat} {cs:List C} (orc:Orc) (hf:P.funcs[f]?=some fn) (hname:(fn.name== "runtime.NumGoroutine")=false) (ht:fn.results=#[.tmp t]) (htf:t<FAR) (hidf:id<FAR)
  (q:Prop) (hq:q=Ah4 (Computes P Gl) (Does P Y Gl) Y fn args orc t g id cs) (h:q):Computes P Gl f args (.ret (.fn g [] [.d (.c (.p cs))])):=by
 subst hq
 unfold Ah4 at h
 split at h
 case h_2=>exact h.elim
 rename_i c hc
 obtain ⟨hb,h⟩:=Jv h
 simp only [Bool.and_eq_true] at hb
 obtain ⟨⟨hb1,hb2⟩,hb3⟩:=hb
 refine ⟨⟨fn,hf,hname,by rw [hc];rfl⟩,fun vis w vs hvis hgl hargs=>?_⟩
 obtain ⟨X,hX⟩:∃ X:Cx,({ base:=w.heap.size,vis:=vis,fz:=Lo w.heap.size,J:=J0 w,st:=Sx,sh:=#[],c0:=fun _ _=>none,bk0:=fun _=>0 }:Cx)=X:=⟨_,rfl⟩
 have hXJ:X.J=J0 w:=by subst hX;rfl
 have hXb:X.base=w.heap.size:=by subst hX;rfl
 have hXv:X.vis=vis:=by subst hX;rfl
 have hXf:X.fz=Lo w.heap.size:=by subst hX;rfl
 have U:Sur P Gl X yd0:=⟨fun p H vi w' hj=>by rw [hXJ] at hj;exact S.gl _ _ hgl hj.2,fun p H vi w vs hp=>absurd hp (Nat.not_lt_zero _),.inl rfl⟩
 have R:Rel Y X fn.ntmps [] (entry 0 args++[]) { tmps:=vs++Array.replicate (fn.ntmps - vs.size) undef,defers:=[] } w ⟨vis,fun _=>0,fun _=>none,Lo w.heap.size,⟨[],.nil⟩⟩:=by
  refine start (X:=X) rfl hb3 (Nat.le_of_ble_eq_true hb1) (Nat.le_of_ble_eq_true hb2) ⟨fun id k hk=>absurd rfl hk,fun id hid=>absurd rfl hid,fun id id' hid=>absurd rfl hid⟩ ?_ (fun _=>rfl) rfl hvis (fun b _=>by rw [hXv]) (by rw [hXb];exact Nat.le_refl _)
   (fun id hid=>absurd rfl hid) (fun b hb=>hb) (fun b hb=>by rw [hXf] at hb;exact hb) (by rw [hXJ];exact ⟨fun b hb=>hb,.refl _ _⟩) (fun id k _ hl=>by cases hl)
  rw [hXf]
  exact Ab.mono (G:=Gh0 vis) (G':=⟨vis,fun _=>0,fun _=>none,Lo w.heap.size,⟨[],.nil⟩⟩) (O:=Lo w.heap.size) ⟨fun _=>Nat.le_refl _,.refl _ _,fun _ _=>rfl⟩ (fun _ _=>rfl) hargs
 rw [List.append_nil] at R
 have hwp:=Qe (fu:=0) S c false U (fun _=>rfl) _ orc _ _ w h ⟨_,R⟩
 refine Ps (n:=0) (callsIn_of_wp_marks hf hc trivial (wpIn_mono hwp ?_))
 have fin:∀ {a:Act} {w2:World} {G:Gh} {e:Env},(e.get 0 t=.fn g [] [.addr id 0]/\e.get 2 id=live/\Gb e id 0 cs)->Rel Y X fn.ntmps [] e a w2 G->
   LeavesInM (Fr none) 0 P fn a.tmps (fun en w'=>Below w.heap.size w w'/\Gx vis w en w' (.ret (.fn g [] [.d (.c (.p cs))]))) a.defers .returning w2:=by
  intro a w2 G e ⟨h1,h2,h3⟩ R
  refine Sv R (by simp) fun w3 G3 _ _ _ R3=>?_
  have hres:(results fn a.tmps).run P w3=.ok (a.tmps.getD t undef) w3:=by
   have he:fn.results.mapM (Aq a.tmps)=List.toArray <$> fn.results.toList.mapM (Aq a.tmps):=Array.mapM_eq_mapM_toList ..
   have he2:results fn a.tmps=(fn.results.mapM (Aq a.tmps) >>= fun vs=>pure (if h:vs.size=1 then vs[0] else .tuple vs)):=rfl
   have hrun:([ResultVar.tmp t].mapM (Aq a.tmps)).run P w3=.ok [a.tmps.getD t undef] w3:=by rw [Gz];simp [Aq,Result.andThen]
   rw [he2,he,ht]
   simp only [Sem.run_bind,Sem.run_map,hrun,Result.andThen_ok,Sem.run_pure]
   rfl
  refine ⟨_,hres,?_⟩
  have hj:=R3.jj
  rw [hXJ] at hj
  have hid:e.get 2 id≠.any:=by rw [h2];exact Bh
  obtain ⟨q1,q2,q3⟩:=R3.mem.box id hid
  rw [h2] at q3
  obtain ⟨q3,q4⟩:=q3
  have hown:=(R3.ownb id hid).1 hidf
  have hsl:=(R3.slots t).rel
  rw [h1] at hsl
  unfold Dg at hsl
  rw [if_pos htf] at hsl
  simp only [Aa,Ab] at hsl
  obtain ⟨us,vs',hv,hus,v1,us1,hvs,hv1,hus1⟩:=hsl
  obtain ⟨vis',hvis'⟩:∃ vis':Nat->Nat,vis'=fun b=>if b=G3.bk id then cs.length else G3.vis b:=⟨_,rfl⟩
  have hvb:vis' (G3.bk id)=cs.length:=by rw [hvis'];exact if_pos rfl
  have hle:∀ b,G3.vis b<=vis' b:=fun b=>by
   rw [hvis'];dsimp only
   split
   ·rename_i hb;rw [hb,q3];exact Nat.zero_le _
   ·exact Nat.le_refl _
  refine ⟨hj.2,_,vis',rfl,fun b hb=>?_,fun b hb=>?_,rfl,?_⟩
  ·rw [hvis'];dsimp only
   rw [if_neg (fun hh=>by rw [hXb] at hown;omega),R3.old b (by rw [hXb];exact hb),hXv]
  ·rw [hvis'];dsimp only
   rw [if_neg (fun hh=>by omega)]
   exact R3.fresh b hb
  ·simp only [Aa,Ab]
   refine ⟨us,vs',hv,hus,v1,us1,hvs,?_,hus1⟩
   simp only [Aw]
   subst hv1
   have hc:∀ (j:Nat) c,cs[j]?=some c->∃ u,w3.cell? ⟨G3.bk id,j,none⟩=some u/\Rep vis' w3 c u:=fun j c hj=>by
    have hg:=Xw h3 j c hj
    rw [Nat.zero_add] at hg
    obtain ⟨_,_,u,hu,hr⟩:=R3.mem.cells id j (by rw [hg];simp)
    rw [hg] at hr
    have hr:=hr.rel
    simp only [Aa,Aw] at hr
    exact ⟨u,hu,hr.mono' hle (.refl _ _)⟩
   refine .p cs (G3.bk id) 0 (fun j=>(w3.cell? ⟨G3.bk id,j,none⟩).getD undef) (by show 0+cs.length<=vis' (G3.bk id);rw [hvb,Nat.zero_add];exact Nat.le_refl _) (fun j c hj=>?_) (fun j c hj=>?_)
   ·obtain ⟨u,hu,_⟩:=hc j c hj
    rw [Nat.zero_add,hu];rfl
   ·obtain ⟨u,hu,hr⟩:=hc j c hj
    rw [hu];exact hr
 intro ex a w2 hq
 cases ex with
 |normal=>obtain ⟨o,e,h1,⟨G,R⟩⟩:=hq;exact fin h1 R
 |ret=>obtain ⟨o,e,h1,⟨G,R⟩⟩:=hq;exact fin h1 R
 |panic chain=>obtain ⟨v,o,e,_,h1,_⟩:=hq;exact h1.elim
 |exit id=>obtain ⟨o,e,h1,_⟩:=hq;exact h1.elim
 |goto l=>exact hq.elim
 |outgrown=>exact hq.elim
theorem Does.args {f:FuncId} {xs ys:List T} {pre post:Env} {r:Res} {yd:Yd} (h:Does P Y Gl yd f ys pre r post) (hl:Lw (Cj xs ys)):Does P Y Gl yd f xs pre r post:=
 ⟨h.1,fun J G w vs h1 h2 h3 h4 h5 h6 h7 ha=>h.2 J G w vs h1 h2 h3 h4 h5 h6 h7 (Iy (Ic hl) ha)⟩
end
def upd (f:Nat->Value) (d:Nat) (v:Value) (t:Nat):Value:=if t=d then v else f t
structure SL (a:Act) (n:Nat) (f:Nat->Value) (ds:List Deferred):Prop where
 size:a.tmps.size=n
 defers:a.defers=ds
 get:∀ t,t<n->a.tmps.getD t undef=f t
section
variable {P:Program} {Y:TypeId->Ty} {a:Act} {n:Nat} {f:Nat->Value} {ds:List Deferred} {w w':World}
theorem SL.eval (S:SL a n f ds) {t:Nat} (h:t<n):a.eval (.tmp t)=f t:=S.get t h
theorem SL.put (S:SL a n f ds) {d:Nat} (hd:d<n) (v:Value):SL (a.put (some d) v) n (upd f d v) ds:=by
 refine ⟨by simpa [Act.put] using S.size,S.defers,fun t ht=>?_⟩
 unfold upd
 by_cases h:t=d
 ·subst h
  rw [if_pos rfl]
  simp [Act.put,Array.getD,S.size,hd]
 ·rw [if_neg h,<-S.get t ht]
  simp only [Act.put,Array.getD_eq_getD_getElem?]
  rw [Array.getElem?_setIfInBounds_ne (fun hh=>h hh.symm)]
theorem SL.start (vs:Array Value) (n:Nat) (h:vs.size<=n):SL { tmps:=vs++Array.replicate (n - vs.size) undef,defers:=[] } n (fun t=>vs.getD t undef) []:=by
 refine ⟨by simp;omega,rfl,fun t ht=>?_⟩
 simp only [Array.getD_eq_getD_getElem?,Array.getElem?_append]
 by_cases h:t<vs.size
 ·rw [if_pos h]
 ·rw [if_neg h,Array.getElem?_replicate,if_pos (by omega),Array.getElem?_eq_none (by omega)]
  rfl
variable {ops:Array Oper} {Q:Exit->Act->World->Prop} {rest:List Oper} {o:Oper}
theorem Aj (S:SL a n f ds) {d:Nat} {v:Value} (hd:o.dst=some d) (hdn:d<n) (hg:o.guard=none) (hr:(execOp a.eval o).run P w=.ok (.value v) w') (h:∀ a',SL a' n (upd f d v) ds->wpList P ops Q rest a' w'):
  wpList P ops Q (o::rest) a w:=by
 unfold wpList
 rw [if_pos (by simp [Region.wanted,hg])]
 left
 unfold Oper.wp
 rw [hr,Oper.upon_value,hd]
 exact h _ (S.put hdn v)
theorem Cy (S:SL a n f ds) (hd:o.dst=none) (hg:o.guard=none) (hr:(execOp a.eval o).run P w=.ok .skip w') (h:∀ a',SL a' n f ds->wpList P ops Q rest a' w'):
  wpList P ops Q (o::rest) a w:=by
 unfold wpList
 rw [if_pos (by simp [Region.wanted,hg])]
 left
 unfold Oper.wp
 rw [hr,Oper.upon_skip,hd]
 exact h _ ⟨S.size,S.defers,S.get⟩
theorem Sy (S:SL a n f ds) {d:Deferred} (hd:o.dst=none) (hg:o.guard=none) (hr:(execOp a.eval o).run P w=.ok (.defer d) w) (h:∀ a',SL a' n f (d::ds)->wpList P ops Q rest a' w):
  wpList P ops Q (o::rest) a w:=by
 unfold wpList
 rw [if_pos (by simp [Region.wanted,hg])]
 left
 unfold Oper.wp
 rw [hr,Oper.upon_defer,hd]
 exact h _ ⟨S.size,by rw [<-S.defers];rfl,S.get⟩
theorem Sz (S:SL a n f ds) {d:Nat} {g:FuncId} {vs:Array Value} {R:Ending->World->Prop} (hd:o.dst=some d) (hdn:d<n) (hg:o.guard=none) (hr:(execOp a.eval o).run P w=.ok (.enter g vs) w) (hc:Calls P g vs w R)
  (hret:∀ v w',R (.returned v) w'->∀ a',SL a' n (upd f d v) ds->wpList P ops Q rest a' w') (hpan:∀ ch w',R (.panicked ch) w'->Q (.panic ch) a w') (hout:∀ w',¬ R .outgrown w'):
  wpList P ops Q (o::rest) a w:=by
 unfold wpList
 rw [if_pos (by simp [Region.wanted,hg])]
 left
 unfold Oper.wp
 rw [hr,Oper.upon_enter,hd]
 refine hc.mono fun e w' hR=>?_
 cases e with
 |returned v=>exact hret v w' hR _ (S.put hdn v)
 |panicked ch=>exact hpan ch w' hR
 |outgrown=>exact (hout w' hR).elim
theorem Cz (hY:YOK P Y) {p q:Operand} {t:TypeId} {b:Nat} {v:Value} {cur:Array Value} {ct:TypeId} (ho:o.op=.store t p q) (hkn:(Y t).known=true) (hp:a.eval p=.pointer (some ⟨b,0,none⟩)) (hq:a.eval q=v)
  (hs:v.cells.size=(Y t).size) (hcs:cur.size=(Y t).size) (h1:∀ u∈v.cells.toList,u.oneCell'=true) (hcur:w.heap[b]?=some (.cells cur ct (0,0))):
  (execOp a.eval o).run P w=.ok .skip (w.setRow b v.cells)/\(w.setRow b v.cells).heap[b]?=some (.cells v.cells ct (0,0))/\Same w (w.setRow b v.cells)/\∀ b',b'≠b->(w.setRow b v.cells).heap[b']?=w.heap[b']?:=by
 have hfit:0+0+v.cells.toList.length<=cur.size:=by simp [hs,hcs]
 have hst:=run_storeCells_at P b 0 ct v.cells.toList 0 cur w hcur hfit h1
 have hrow:(cur.toList.take (0+0)++v.cells.toList++cur.toList.drop (0+0+v.cells.toList.length)).toArray=v.cells:=by
  rw [List.drop_eq_nil_of_le (by simp [hs,hcs])]
  simp
 rw [hrow] at hst
 refine ⟨?_,setRow_heap w b cur v.cells ct _ hcur,⟨rfl,rfl,rfl,by simp [World.setRow]⟩,fun b' hb=>setRow_other w b b' _ hb⟩
 have hvl:v.cells.toList.length=(Y t).size:=by simp [hs]
 simp [execOp,ho,hp,hq,Instr.storeAt,Instr.sureAddr,storeVar,Db hY hkn,hst,<-hvl]
theorem Fj (hY:YOK P Y) {t:TypeId} (ho:o.op=.alloc t) (hk:(Y t).known=true):
  (execOp a.eval o).run P w=.ok (.value (.pointer (some ⟨w.heap.size,0,none⟩))) (w.alloc (.cells (Y t).zero.toArray t)):=by
 obtain ⟨z,hz,hzc⟩:=We hY hk w
 simp [execOp,ho,Instr.alloc,hz,newVar,newRow,<-hzc]
theorem Api (hY:YOK P Y) {p:Operand} {t:TypeId} {b:Nat} {cur:Array Value} {ct:TypeId} {fr:Nat×Nat} (ho:o.op=.load t p) (hag:(Y t).agg=some true) (hp:a.eval p=.pointer (some ⟨b,0,none⟩)) (hcs:cur.size=(Y t).size) (hcur:w.heap[b]?=some (.cells cur ct fr)):
  (execOp a.eval o).run P w=.ok (.value (.agg cur)) w:=by
 have:=Jq hY hag (w:=w) (b:=b) (off:=0) (us:=cur.toList) (by simpa using hcs) fun j u hj=>by
  simp only [World.cell?,hcur,Nat.zero_add]
  simpa using hj
 simp [execOp,ho,hp,Instr.loadAt,Instr.sureAddr,this]
end
section
variable {P:Program} {Y:TypeId->Ty} {Gl:World->Prop} {X:Cx} {nt:Nat} {ds:List Deferred} {e:Env} {a:Act} {w:World} {G:Gh}
theorem Rel.anew (R:Rel Y X nt ds e a w G) {a':Act} {w':World} {vis':Nat->Nat} {e':Env} (h1:∀ k,e'.get 1 k=.any) (h2:∀ id,e'.get 2 id=.any) (h3:∀ id k,e'.get (id+3) k=.any)
  (hsz:a'.tmps.size=a.tmps.size) (hd:a'.defers=a.defers) (hsize:w.heap.size<=w'.heap.size) (hm:∀ D,D∈G.dm->w'.heap[D]?=w.heap[D]?)
  (hsl:∀ t,e'.get 0 t≠.any->VOK ⟨vis',G.bk,fun _=>none,G.H,G.dm⟩ w' X.fz Y e' (e'.get 0 t) (Dg X.sh a' t))
  (hfresh:∀ b,w'.heap.size<=b->vis' b=0) (hold:∀ b,b<X.base->vis' b=X.vis b) (hj:X.J (trN (e'.get 0 BIG)) G.H vis' w'):Rel Y X nt ds e' a' w' ⟨vis',G.bk,fun _=>none,G.H,G.dm⟩:=by
 refine ⟨⟨fun id k hk=>absurd (h3 id k) hk,fun id hid=>absurd (h2 id) hid,fun id id' hid=>absurd (h2 id) hid⟩,by rw [hsz,R.size],by rw [hd,R.defers],fun D hD=>?_,fun t=>?_,fun k b hb=>(by cases hb),fun k k' b hb=>(by cases hb),fun k b hb=>(by cases hb),
  hfresh,hold,Nat.le_trans R.base hsize,fun id hid=>absurd (h2 id) hid,fun b hb=>Nat.lt_of_lt_of_le (R.hlt b hb) hsize,R.fzh,hj,fun id k _ hl=>by rw [h2 id] at hl;cases hl⟩
 ·obtain ⟨q1,q2,q3⟩:=R.marks D hD
  exact ⟨q1,by rw [hm D hD];exact q2,q3⟩
 ·by_cases h:e'.get 0 t=.any
  ·rw [h];exact VOK.any _
  ·exact hsl t h
def Lb:List Code->Code->Code
 | [],t=>t
 |x::xs,t=>.seq x (Lb xs t)
def Xx:Nat->Code->List Code×Code
 |n+1,.seq x y=>(x::(Xx n y).1,(Xx n y).2)
 |_,c=>([],c)
def Acs (E:Env):Dm
 | .normal,_,e=>le e E
 |_,_,_=>False
theorem Apj (S:Set P Y Gl) {yd:Yd} {fu:Nat} (U:Sur P Gl X yd) {E:Env} {tl:Code} {R:Exit->Act->World->Prop} (ht:∀ a w,Cf Y X nt ds E a w->tl.wpIn (Fr none) fu P R a w):
  ∀ (xs:List Code) (o:Orc) (e:Env) (a:Act) (w:World),wp (Computes P Gl) (Does P Y Gl) Y nt yd false (Lb xs .skip) (Acs E) o e->Cf Y X nt ds e a w->(Lb xs tl).wpIn (Fr none) fu P R a w:=by
 intro xs
 induction xs with
 |nil=>
  intro o e a w h R
  simp only [Lb,wp,Acs] at h
  obtain ⟨G,R⟩:=R
  exact ht a w (Mj h R)
 |cons x xs ih=>
  intro o e a w h R
  simp only [Lb,wp] at h
  refine wpIn_seq (wpIn_mono (Qe S x false U (fun _=>rfl) _ o e a w h R) fun ex a' w' hq=>?_)
  cases ex with
  |normal=>obtain ⟨o',e',h1,h2⟩:=hq;exact ih o' e' a' w' h1 h2
  |exit id=>obtain ⟨o',e',h1,_⟩:=hq;exact h1.elim
  |ret=>obtain ⟨o',e',h1,_⟩:=hq;exact h1.elim
  |panic ch=>obtain ⟨v,o',e',_,h1,_⟩:=hq;exact h1.elim
  |goto l=>exact hq.elim
  |outgrown=>exact hq.elim
def Ah5 (Comp:FuncId->List T->Res->Prop) (Comp2:Yd->FuncId->List T->Env->Res->Env->Prop) (Y:TypeId->Ty) (fn:Func) (xs:List Code) (args:List T) (E:Env) (orc:Orc):Prop:=
 ifB (Nat.ble args.length fn.ntmps&&Nat.ble fn.ntmps FAR&&Jo [] args) (wp Comp Comp2 Y fn.ntmps yd0 false (Lb xs .skip) (Acs E) orc (entry 0 args))
structure Tail (P:Program) (Gl:World->Prop) (Y:TypeId->Ty) (X:Cx) (fn:Func) (E:Env) (vis:Nat->Nat) (w0:World) (a:Act) (w:World) (G:Gh):Prop where
 J:X.J=J0 w0
 base:X.base=w0.heap.size
 vis:X.vis=vis
 fz:X.fz=Lo w0.heap.size
 gl0:Gl w0
 gl:Gl w
 rel:Rel Y X fn.ntmps [] E a w G
theorem Ah6 (S:Set P Y Gl) {f:FuncId} {fn:Func} {args:List T} {res:Res} {c:Code} {xs:List Code} {tl:Code} {E:Env} (orc:Orc) (hf:P.funcs[f]?=some fn) (hname:(fn.name== "runtime.NumGoroutine")=false) (hc:fn.body=some c) (hxs:c=Lb xs tl)
  (q:Prop) (hq:q=Ah5 (Computes P Gl) (Does P Y Gl) Y fn xs args E orc) (h:q)
  (htail:∀ (X:Cx) (vis:Nat->Nat) (w0:World) (a:Act) (w:World) (G:Gh),Tail P Gl Y X fn E vis w0 a w G->tl.wpIn (Fr none) 0 P (bodyPostM (Fr none) 0 P fn fun en w'=>Below w0.heap.size w0 w'/\Gx vis w0 en w' res) a w):Computes P Gl f args res:=by
 subst hq
 unfold Ah5 at h
 obtain ⟨hb,h⟩:=Jv h
 simp only [Bool.and_eq_true] at hb
 obtain ⟨⟨hb1,hb2⟩,hb3⟩:=hb
 refine ⟨⟨fn,hf,hname,by rw [hc];rfl⟩,fun vis w vs hvis hgl hargs=>?_⟩
 obtain ⟨X,hX⟩:∃ X:Cx,({ base:=w.heap.size,vis:=vis,fz:=Lo w.heap.size,J:=J0 w,st:=Sx,sh:=#[],c0:=fun _ _=>none,bk0:=fun _=>0 }:Cx)=X:=⟨_,rfl⟩
 have hXJ:X.J=J0 w:=by subst hX;rfl
 have hXb:X.base=w.heap.size:=by subst hX;rfl
 have hXv:X.vis=vis:=by subst hX;rfl
 have hXf:X.fz=Lo w.heap.size:=by subst hX;rfl
 have U:Sur P Gl X yd0:=⟨fun p H vi w' hj=>by rw [hXJ] at hj;exact S.gl _ _ hgl hj.2,fun p H vi w vs hp=>absurd hp (Nat.not_lt_zero _),.inl rfl⟩
 have R:Rel Y X fn.ntmps [] (entry 0 args++[]) { tmps:=vs++Array.replicate (fn.ntmps - vs.size) undef,defers:=[] } w ⟨vis,fun _=>0,fun _=>none,Lo w.heap.size,⟨[],.nil⟩⟩:=by
  refine start (X:=X) rfl hb3 (Nat.le_of_ble_eq_true hb1) (Nat.le_of_ble_eq_true hb2) ⟨fun id k hk=>absurd rfl hk,fun id hid=>absurd rfl hid,fun id id' hid=>absurd rfl hid⟩ ?_ (fun _=>rfl) rfl hvis (fun b _=>by rw [hXv]) (by rw [hXb];exact Nat.le_refl _)
   (fun id hid=>absurd rfl hid) (fun b hb=>hb) (fun b hb=>by rw [hXf] at hb;exact hb) (by rw [hXJ];exact ⟨fun b hb=>hb,.refl _ _⟩) (fun id k _ hl=>by cases hl)
  rw [hXf]
  exact Ab.mono (G:=Gh0 vis) (G':=⟨vis,fun _=>0,fun _=>none,Lo w.heap.size,⟨[],.nil⟩⟩) (O:=Lo w.heap.size) ⟨fun _=>Nat.le_refl _,.refl _ _,fun _ _=>rfl⟩ (fun _ _=>rfl) hargs
 rw [List.append_nil] at R
 have hwp:=Apj (fu:=0) (ds:=[]) (tl:=tl) S U (R:=bodyPostM (Fr none) 0 P fn fun en w'=>Below w.heap.size w w'/\Gx vis w en w' res) (fun a2 w2 ⟨G2,R2⟩=>htail X vis w a2 w2 G2 ⟨hXJ,hXb,hXv,hXf,hgl,by
  have hj:=R2.jj
  rw [hXJ] at hj
  exact S.gl _ _ hgl hj.2,R2⟩) xs orc _ _ w h ⟨_,R⟩
 rw [<-hxs] at hwp
 exact Ps (n:=0) (callsIn_of_wp_marks hf hc trivial hwp)
theorem Tail.leave (S:Set P Y Gl) {fn:Func} {E E':Env} {vis:Nat->Nat} {w0:World} {res:Res} (T:Tail P Gl Y X fn E vis w0 a w G) {a':Act} {w':World} {G':Gh} (R':Rel Y X fn.ntmps [] E' a' w' G') (h:Nl Y fn false (fun r _=>It r res) .ret .nil E'):
  bodyPostM (Fr none) 0 P fn (fun en w'=>Below w0.heap.size w0 w'/\Gx vis w0 en w' res) .ret a' w':=by
 refine Xt S (X:=X) (nt:=fn.ntmps) (own:=false) (Rp:=fun r _=>It r res) (fun e2 a2 w2 ds2 G2 R2=>⟨fun x v hx hr=>?_,fun v hx=>?_⟩) .ret a' w' ⟨.nil,E',h,⟨G',R'⟩⟩
 ·have hj:=R2.jj
  rw [T.J] at hj
  rw [T.base] at hr
  obtain ⟨y,rfl,hr⟩:=Xu (Ic hx) hr
  exact ⟨hj.2,v,G2.vis,rfl,fun b hb=>by rw [R2.old b (by rw [T.base];exact hb),T.vis],R2.fresh,hr⟩
 ·have hj:=R2.jj
  rw [T.J] at hj
  obtain rfl:=Xv (Ic hx)
  exact ⟨hj.2,rfl⟩
theorem Lc {ops:Array Oper} {Q:Exit->Act->World->Prop} {i:Nat} {l:List Nat} {o:Oper} {v:Value} {w':World} {rd:Option Nat} {fu:Nat} (ho:ops[i]?=some o) (hg:o.guard=none) (hdf:∀ c,o.op≠.defer c) (hr:(execOp a.eval o).run P w=.ok (.value v) w')
  (h:wpOpsIn (Fr rd) fu P ops Q l (a.put o.dst v) w'):wpOpsIn (Fr rd) fu P ops Q (i::l) a w:=by
 unfold wpOpsIn
 rw [ho]
 dsimp only
 rw [if_pos (by simp [Region.wanted,hg])]
 refine ⟨fun _ _=>trivial,?_⟩
 rw [Oper.semAt_eq _ _ _ hdf,hr]
 exact h
theorem Ah7 {ops:Array Oper} {Q:Exit->Act->World->Prop} {i:Nat} {l:List Nat} {o:Oper} {g:FuncId} {vs:Array Value} {R:Ending->World->Prop} {rd:Option Nat} {fu:Nat} (ho:ops[i]?=some o) (hg:o.guard=none) (hdf:∀ c,o.op≠.defer c) (hr:(execOp a.eval o).run P w=.ok (.enter g vs) w)
  (hc:Calls P g vs w R) (h:∀ en w',R en w'->∃ v,en=.returned v/\wpOpsIn (Fr rd) fu P ops Q l (a.put o.dst v) w'):wpOpsIn (Fr rd) fu P ops Q (i::l) a w:=by
 unfold wpOpsIn
 rw [ho]
 dsimp only
 rw [if_pos (by simp [Region.wanted,hg])]
 refine Xc hdf hr hc fun en w' hR=>?_
 obtain ⟨v,rfl,h⟩:=h en w' hR
 exact ⟨fun u hu=>(by cases hu;exact h),fun ch hch=>(by cases hch),fun hh=>(by cases hh)⟩
end
def Xy:TypeDesc->K
 | .int k=>.int k
 | .bool=>.bool
 | .string=>.str
 | .slice e=>.slice e
 | .struct fs=>.struct (fs.toList.map fun f=>(f.offset,f.type))
 | .array n e=>.arr n e
 | .map k e=>.map k e
 | .interface _=>.iface
 | .func _ _ _=>.func
 | .pointer _=>.ptr
 |_=>.other
def Ah8 (P:Program) (f:Field):Bool:=
 match P.info? f.type with
 |some i=>!(i.size.beq 0)
 |none=>false
def Ah9 (P:Program) (d:TypeDesc) (n:Nat):Bool:=
 match d with
 | .struct fs=>fs.toList.all (Ah8 P)
 | .array _ _=>true
 |_=>n.beq 1
def Ta (d:TypeDesc) (z:Value):Bool:=
 match d,z with
 | .struct _,.agg _=>true
 | .array _ _,.agg _=>true
 | .struct _,_=>false
 | .array _ _,_=>false
 |_,z=>z.oneCell'
def Ml:Ty:={ kind:=.none,size:=1,bytes:=8,zero:=[] }
def Xz (P:Program) (t:TypeId):Ty:=
 match P.underlying t,P.info? t with
 |some d,some i=>match i.zero with
  |some z=>bif Ah9 P d i.size&&Ta d z&&z.cells.toList.length.beq i.size then { kind:=Xy d,size:=i.size,bytes:=i.bytes,zero:=z.cells.toList } else Ml
  |none=>Ml
 |_,_=>Ml
theorem Apk {P:Program} (t:TypeId) (h:(Xz P t).known=true):Nn P t (Xz P t):=by
 unfold Xz at h ⊢
 split at h
 ·rename_i d i hd hi
  split at h
  ·rename_i z hz
   cases hb:(Ah9 P d i.size&&Ta d z&&z.cells.toList.length.beq i.size) with
   |false=>rw [hb] at h;simp [Ml,Ty.known] at h
   |true=>
    obtain ⟨h0,h2⟩:=and_true hb
    obtain ⟨h1,h1z⟩:=and_true h0
    have h2:=Nat.eq_of_beq_eq_true h2
    simp only [hz,hb,cond_true]
    refine ⟨d,i,z,hd,hi,rfl,rfl,hz,rfl,?_,?_,h2,fun h=>(by cases h),?_,fun name f h=>(by cases h)⟩
    ·dsimp only
     cases d<;>simp only [Xy,KOK]
     case struct fs=>
      refine ⟨fs,rfl,rfl,fun f hf=>?_⟩
      have:=List.all_eq_true.1 h1 f hf
      unfold Ah8 at this
      split at this
      ·rename_i i' hi'
       exact ⟨i',hi',fun h0=>by rw [h0] at this;cases this⟩
      ·cases this
     all_goals first|exact ⟨_,rfl⟩|exact ⟨_,_,_,rfl⟩
    ·intro hag
     cases d<;>simp only [Ty.agg,Xy,Option.some.injEq,reduceCtorEq] at hag<;>exact Nat.eq_of_beq_eq_true h1
    ·intro ag hag
     cases d<;>simp only [Ty.agg,Xy,Option.some.injEq,reduceCtorEq] at hag<;>subst hag
     case struct fs=>
      cases z with
      |agg cs=>exact ⟨cs,rfl⟩
      |_=>simp [Ta] at h1z
     case array n e=>
      cases z with
      |agg cs=>exact ⟨cs,rfl⟩
      |_=>simp [Ta] at h1z
     all_goals (simpa [Ta] using h1z)
  ·simp [Ml,Ty.known] at h
 ·simp [Ml,Ty.known] at h
def Tb:List (TypeId×Ty)->TypeId->Ty
 | [],_=>Ml
 |(u,y)::r,t=>bif u.beq t then y else Tb r t
def Ty.plain (y:Ty):Ty:={ y with eqi:=false,meth:=[] }
def Ya (P:Program):List (TypeId×Ty)->List (TypeId×Ty)
 | []=>[]
 |(t,_)::r=>(t,Xz P t)::Ya P r
def Yb:List (TypeId×Ty)->List (TypeId×Ty)
 | []=>[]
 |(t,y)::r=>(t,y.plain)::Yb r
def Aha:TypeDesc->Bool
 | .pointer _=>true
 |_=>false
def Yc (P:Program) (t:TypeId) (name:String):Option FuncId:=
 match P.info? t,P.underlying t with
 |some i,some d=>bif Aha d then none else match i.methods.find? (fun m=>m.name==name) with
  |some m=>match m.path.toList,m.func with
   | [],some (f,false)=>some f
   |_,_=>none
  |none=>none
 |_,_=>none
theorem Apl {P:Program} {t:TypeId} {name:String} {f:FuncId} (h:Yc P t name=some f) (k:Nat) (v:Value) (w:World):(method (k+1) t v name).run P w=.ok (f,v) w:=by
 unfold Yc at h
 split at h
 ·rename_i i d hi hd
  cases hp0:Aha d with
  |true=>rw [hp0] at h;cases h
  |false=>
   rw [hp0,cond_false] at h
   split at h
   ·rename_i m hm
    split at h
    ·rename_i f' hp hf
     obtain rfl:=Option.some.inj h
     have hu:=run_underlying (w:=w) hd
     unfold method
     cases d<;>first|(cases hp0;done)|simp [typeInfo,hi,hm,hp,hf,follow,receiverAt,hu,Place.get]
    ·cases h
   ·cases h
 ·cases h
def Ahb (P:Program) (tab:List (TypeId×Ty)):Bool:=tab.all fun p=>p.2.meth.all fun q=>Yc P p.1 q.1==some q.2
theorem Apm {l:List (String×FuncId)} {name:String} {f:FuncId} (h:Jj l name=some f):(name,f)∈l:=by
 induction l with
 |nil=>cases h
 |cons p l ih=>
  obtain ⟨s,g⟩:=p
  unfold Jj at h
  cases hs:s==name with
  |true=>
   rw [hs] at h
   simp only [cond_true,Option.some.injEq] at h
   have:s=name:=by simpa using hs
   rw [h,this];exact List.mem_cons_self
  |false=>rw [hs] at h;exact List.mem_cons_of_mem _ (ih h)
theorem Apn {P:Program} {tab:List (TypeId×Ty)} (h:Ahb P tab=true):∀ p∈tab,∀ name f,Jj p.2.meth name=some f->∀ (v:Value) (w:World),(method (P.types.size+Made.depth) p.1 v name).run P w=.ok (f,v) w:=by
 intro p hp name f hg v w
 have h1:=List.all_eq_true.1 (List.all_eq_true.1 h p hp) _ (Apm hg)
 have h2:Yc P p.1 name=some f:=by simpa using h1
 exact Apl h2 (P.types.size+99) v w
theorem Nn.eqi {P:Program} {t:TypeId} {y:Ty} (h:Nn P t y.plain) (hq:y.eqi=true->EqI P t y.size) (hm:∀ name f,Jj y.meth name=some f->∀ (v:Value) (w:World),(method (P.types.size+Made.depth) t v name).run P w=.ok (f,v) w):Nn P t y:=by
 obtain ⟨d,i,z,h1,h2,h3,h4,h5,h6,h7,h8,h9,_,h10,_⟩:=h
 exact ⟨d,i,z,h1,h2,h3,h4,h5,h6,h7,h8,h9,hq,h10,hm⟩
theorem Apo {P:Program}:∀ (tab:List (TypeId×Ty)),Yb tab=Ya P tab->(∀ p∈tab,p.2.eqi=true->EqI P p.1 p.2.size)->(∀ p∈tab,∀ name f,Jj p.2.meth name=some f->∀ (v:Value) (w:World),(method (P.types.size+Made.depth) p.1 v name).run P w=.ok (f,v) w)->YOK P (Tb tab):=by
 intro tab
 induction tab with
 |nil=>intro _ _ _ t h;simp [Tb,Ml,Ty.known] at h
 |cons p r ih=>
  obtain ⟨u,y⟩:=p
  intro h hq hm t ht
  simp only [Yb,Ya,List.cons.injEq,Prod.mk.injEq,true_and] at h
  unfold Tb at ht ⊢
  cases hu:u.beq t with
  |false=>
   simp only [hu,cond_false] at ht ⊢
   exact ih h.2 (fun p hp=>hq p (List.mem_cons_of_mem _ hp)) (fun p hp=>hm p (List.mem_cons_of_mem _ hp)) t ht
  |true=>
   have hut:=Nat.eq_of_beq_eq_true hu
   subst hut
   simp only [hu,cond_true] at ht ⊢
   refine Nn.eqi ?_ (hq (u,y) List.mem_cons_self) (hm (u,y) List.mem_cons_self)
   rw [h.1]
   refine Apk u ?_
   rw [<-h.1]
   exact ht
section
variable (P:Program)
def Jw (g:TypeId->Option Nat):List Field->Nat->Option Nat
 | [],off=>some off
 |f::r,off=>bif (f.name != "_")&&f.offset.beq off then match g f.type with
   |some n=>Jw g r (off+n)
   |none=>none
  else none
def Ld:Nat->TypeId->Option Nat
 |0,_=>none
 |d+1,t=>match P.underlying t,P.info? t with
  |some (.int .i64),some i=>bif i.size.beq 1 then some 1 else none
  |some (.struct fs),some i=>bif P.stoodInHeld t then none else match Jw (Ld d) fs.toList 0 with
    |some n=>bif i.size.beq n then some n else none
    |none=>none
  |_,_=>none
end
def Dc (l:List Int):List Value:=l.map (Value.int .i64)
theorem App:∀ {a b c d:List Int},a.length=b.length->eqL (a++c) (b++d)=(eqL a b&&eqL c d):=by
 intro a
 induction a with
 |nil=>
  intro b c d h
  cases b with
  |nil=>rfl
  |cons x b=>simp at h
 |cons x a ih=>
  intro b c d h
  cases b with
  |nil=>simp at h
  |cons y b=>
   simp only [List.cons_append,eqL]
   rw [ih (by simpa using h),Bool.and_assoc]
variable {P:Program}
theorem Ahc {g:TypeId->Option Nat}:∀ {fs:List Field} {off n:Nat},Jw g fs off=some n->off<=n:=by
 intro fs
 induction fs with
 |nil=>intro off n h;simp only [Jw,Option.some.injEq] at h;omega
 |cons f r ih=>
  intro off n h
  unfold Jw at h
  obtain ⟨_,h⟩:=Fi h
  split at h
  ·have:=ih h;omega
  ·cases h
theorem Ahd (l:List Int) (off m n:Nat) (h1:off+m<=n):(l.drop off).take (n - off)=(l.drop off).take m++(l.drop (off+m)).take (n - (off+m)):=by
 rw [<-List.drop_drop]
 have:n - off=m+(n - (off+m)):=by omega
 rw [this,List.take_add]
def Ahe (P:Program) (w:World) (d:Nat) (t:TypeId) (n:Nat):Prop:=
 ∀ (l m:List Int) (off:Nat),off+n<=l.length->off+n<=m.length->
  ∃ x y,(part t (Dc l).toArray off).run P w=.ok x w/\(part t (Dc m).toArray off).run P w=.ok y w/\∀ e,(Op.equalIn (d+e) t x y).run P w=.ok (eqL ((l.drop off).take n) ((m.drop off).take n)) w
theorem Apq (w:World) (d e:Nat) (l m:List Int) {g:TypeId->Option Nat} (hg:∀ t n,g t=some n->Ahe P w d t n):∀ {fs:List Field} {off n:Nat},Jw g fs off=some n->n<=l.length->n<=m.length->
  (Op.eqFields (d+e) (Dc l).toArray (Dc m).toArray fs).run P w=.ok (eqL ((l.drop off).take (n - off)) ((m.drop off).take (n - off))) w:=by
 intro fs
 induction fs with
 |nil=>
  intro off n h _ _
  simp only [Jw,Option.some.injEq] at h
  subst h
  simp [Op.eqFields,eqL]
 |cons f r ih=>
  intro off n h hl hm
  unfold Jw at h
  obtain ⟨hb,h⟩:=Fi h
  obtain ⟨hn,ho⟩:=and_true hb
  have ho:=Nat.eq_of_beq_eq_true ho
  have hn:f.name≠ "_":=by simpa using hn
  split at h
  ·rename_i k hk
   have hle:=Ahc h
   obtain ⟨x,y,p1,p2,p3⟩:=hg f.type k hk l m off (by omega) (by omega)
   have:=ih h hl hm
   rw [Ahd l off k n hle,Ahd m off k n hle,App (by simp;omega)]
   simp only [Op.eqFields,hn,ne_eq,not_false_eq_true,if_true,Sem.run_bind,ho,p1,p2,p3 e,Result.andThen_ok]
   cases eqL ((l.drop off).take k) ((m.drop off).take k) with
   |false=>simp
   |true=>simpa using this
  ·cases h
theorem Acu {l:List Int} {i:Nat} (h:i<l.length):(Dc l).toArray[i]?=some (.int .i64 l[i]):=by
 simp [Dc,List.getElem?_eq_getElem h]
theorem Apr (w:World):∀ (d:Nat) (t:TypeId) (n:Nat),Ld P d t=some n->Ahe P w d t n:=by
 intro d
 induction d with
 |zero=>intro t n h;cases h
 |succ d ih=>
  intro t n h l m off hl hm
  unfold Ld at h
  split at h
  ·rename_i i hu hi
   obtain ⟨hs,h⟩:=Fi h
   simp only [Option.some.injEq] at h
   subst h
   refine ⟨.int .i64 (l[off]'(by omega)),.int .i64 (m[off]'(by omega)),?_,?_,fun e=>?_⟩
   ·simp [part,isAgg,run_underlying hu,Acu (show off<l.length by omega)]
   ·simp [part,isAgg,run_underlying hu,Acu (show off<m.length by omega)]
   ·rw [show d+1+e=(d+e)+1 by omega]
    have e1:(l.drop off).take 1=[l[off]'(by omega)]:=by
     rw [List.drop_eq_getElem_cons (by omega)];rfl
    have e2:(m.drop off).take 1=[m[off]'(by omega)]:=by
     rw [List.drop_eq_getElem_cons (by omega)];rfl
    rw [e1,e2]
    simp [Op.equalIn,run_underlying hu,eqL]
  ·rename_i fs i hu hi
   cases hst:P.stoodInHeld t with
   |true=>rw [hst] at h;cases h
   |false=>
    rw [hst] at h
    simp only [cond_false] at h
    split at h
    ·rename_i k hk
     obtain ⟨hs,h⟩:=Fi h
     have hs:=Nat.eq_of_beq_eq_true hs
     simp only [Option.some.injEq] at h
     subst h
     have hsz:(sizeOf t).run P w=.ok k w:=by simp [sizeOf,typeInfo,hi,hs]
     have hex:∀ (q:List Int),(Dc q).toArray.extract off (off+k)=(Dc ((q.drop off).take k)).toArray:=by
      intro q
      apply Array.ext'
      simp [Dc,Array.toList_extract,List.extract_eq_take_drop,List.map_take,List.map_drop]
     refine ⟨.agg (Dc ((l.drop off).take k)).toArray,.agg (Dc ((m.drop off).take k)).toArray,?_,?_,fun e=>?_⟩
     ·simp [part,isAgg,run_underlying hu,hsz,hex];simp [Dc,List.map_take,List.map_drop]
     ·simp [part,isAgg,run_underlying hu,hsz,hex];simp [Dc,List.map_take,List.map_drop]
     ·rw [show d+1+e=(d+e)+1 by omega]
      have hfs:P.fieldsOf t=fs:=by simp [Program.fieldsOf,hu]
      rw [run_equalIn_struct w (d+e) t _ _ (by rw [hfs];exact hu) hst,hfs]
      have:=Apq w d e ((l.drop off).take k) ((m.drop off).take k) ih hk (by simp;omega) (by simp;omega)
      rw [this]
      simp [List.take_take]
    ·cases h
  ·cases h
def Ahf (P:Program) (w:World) (em:Bool) (d:Nat) (t:TypeId) (n:Nat):Prop:=
 ∀ (l:List Int) (off:Nat),off+n<=l.length->∃ x,(part t (Dc l).toArray off).run P w=.ok x w/\∀ e,(Instr.checkKey em (d+e) t x).run P w=.ok () w
theorem Aps (w:World) (em:Bool) (d e:Nat) (l:List Int) {g:TypeId->Option Nat} (hg:∀ t n,g t=some n->Ahf P w em d t n):∀ {fs:List Field} {off n:Nat},Jw g fs off=some n->n<=l.length->
  (forIn fs PUnit.unit fun (f:Field) (s:PUnit)=>(if f.name≠ "_" then (do
    let x <-part f.type (Dc l).toArray f.offset
    Instr.checkKey em (d+e) f.type x
    pure (ForInStep.yield PUnit.unit)) else pure (ForInStep.yield PUnit.unit):Sem (ForInStep PUnit))).run P w=.ok PUnit.unit w:=by
 intro fs
 induction fs with
 |nil=>intro off n _ _;rfl
 |cons f r ih=>
  intro off n h hl
  unfold Jw at h
  obtain ⟨hb,h⟩:=Fi h
  obtain ⟨hn,ho⟩:=and_true hb
  have ho:=Nat.eq_of_beq_eq_true ho
  have hn:f.name≠ "_":=by simpa using hn
  split at h
  ·rename_i k hk
   have hle:=Ahc h
   obtain ⟨x,p1,p2⟩:=hg f.type k hk l off (by omega)
   have:=ih h hl
   simp only [List.forIn_cons,hn,ne_eq,not_false_eq_true,if_true,Sem.run_bind,ho,p1,p2 e,Result.andThen_ok,Sem.run_pure] at this ⊢
   exact this
  ·cases h
theorem Apt (w:World) (em:Bool):∀ (d:Nat) (t:TypeId) (n:Nat),Ld P d t=some n->Ahf P w em d t n:=by
 intro d
 induction d with
 |zero=>intro t n h;cases h
 |succ d ih=>
  intro t n h l off hl
  unfold Ld at h
  split at h
  ·rename_i i hu hi
   obtain ⟨hs,h⟩:=Fi h
   simp only [Option.some.injEq] at h
   subst h
   refine ⟨.int .i64 (l[off]'(by omega)),?_,fun e=>?_⟩
   ·simp [part,isAgg,run_underlying hu,Acu (show off<l.length by omega)]
   ·rw [show d+1+e=(d+e)+1 by omega]
    unfold Instr.checkKey
    simp [run_underlying hu]
  ·rename_i fs i hu hi
   cases hst:P.stoodInHeld t with
   |true=>rw [hst] at h;cases h
   |false=>
    rw [hst] at h
    simp only [cond_false] at h
    split at h
    ·rename_i k hk
     obtain ⟨hs,h⟩:=Fi h
     have hs:=Nat.eq_of_beq_eq_true hs
     simp only [Option.some.injEq] at h
     subst h
     have hsz:(sizeOf t).run P w=.ok k w:=by simp [sizeOf,typeInfo,hi,hs]
     have hex:∀ (q:List Int),(Dc q).toArray.extract off (off+k)=(Dc ((q.drop off).take k)).toArray:=by
      intro q
      apply Array.ext'
      simp [Dc,Array.toList_extract,List.extract_eq_take_drop,List.map_take,List.map_drop]
     refine ⟨.agg (Dc ((l.drop off).take k)).toArray,?_,fun e=>?_⟩
     ·simp [part,isAgg,run_underlying hu,hsz,hex];simp [Dc,List.map_take,List.map_drop]
     ·rw [show d+1+e=(d+e)+1 by omega]
      have:=Aps w em d e ((l.drop off).take k) ih hk (by simp;omega)
      unfold Instr.checkKey
      simp only [Sem.run_bind,run_underlying hu,Result.andThen_ok]
      rw [<-Array.forIn_toList]
      rw [this]
      rfl
    ·cases h
  ·cases h
theorem Apu {t:TypeId} {n d:Nat} (h:Ld P d t=some n) (hd:d<=10000) (hst:(match P.underlying t with|some (.struct _)=>true|_=>false)=true) (hg:P.eqGuardType P.depth t=false):EqI P t n:=by
 intro xs ys hx hy w
 refine ⟨hg,?_⟩
 obtain ⟨x,y,p1,p2,p3⟩:=Apr w d t n h xs ys 0 (by omega) (by omega)
 have h9:=p3 (10000 - d)
 rw [show d+(10000 - d)=10000 by omega] at h9
 have hsize:∃ fs i,P.underlying t=some (.struct fs)/\P.info? t=some i/\i.size=n:=by
  cases d with
  |zero=>cases h
  |succ d=>
   unfold Ld at h
   split at h
   ·rename_i hu hi;rw [hu] at hst;cases hst
   ·rename_i fs i hu hi
    cases hsi:P.stoodInHeld t with
    |true=>rw [hsi] at h;cases h
    |false=>
     rw [hsi] at h
     simp only [cond_false] at h
     split at h
     ·obtain ⟨hs,h⟩:=Fi h
      have hs:=Nat.eq_of_beq_eq_true hs
      simp only [Option.some.injEq] at h
      exact ⟨fs,i,hu,hi,by omega⟩
     ·cases h
   ·cases h
 obtain ⟨fs,i,hu,hi,hs⟩:=hsize
 have hsz:(sizeOf t).run P w=.ok n w:=by simp [sizeOf,typeInfo,hi,hs]
 have pe:∀ (q:List Int),q.length=n->(part t (Dc q).toArray 0).run P w=.ok (.agg (Dc q).toArray) w:=by
  intro q hq
  have hl:(Dc q).length=n:=by simp [Dc,hq]
  have:(Dc q).toArray.extract 0 n=(Dc q).toArray:=by
   apply Array.ext'
   rw [Array.toList_extract,List.extract_eq_take_drop]
   simp only [Nat.sub_zero,List.drop_zero]
   rw [<-hl,List.take_length]
  simp only [part,Sem.run_bind,isAgg,run_underlying hu,Result.andThen_ok,Sem.run_pure,if_true,Nat.zero_add,hsz,this]
 rw [pe xs hx] at p1
 rw [pe ys hy] at p2
 simp only [Result.ok.injEq] at p1 p2
 rw [<-p1.1,<-p2.1] at h9
 have e1:(xs.drop 0).take n=xs:=by simp [<-hx]
 have e2:(ys.drop 0).take n=ys:=by simp [<-hy]
 rw [e1,e2] at h9
 refine ⟨h9,fun em=>?_⟩
 obtain ⟨x',c1,c2⟩:=Apt w em d t n h xs 0 (by omega)
 rw [pe xs hx] at c1
 simp only [Result.ok.injEq] at c1
 have c3:=c2 (10000 - d)
 rw [show d+(10000 - d)=10000 by omega,<-c1.1] at c3
 exact c3
def Ahg:Option TypeDesc->Bool
 |some (.struct _)=>true
 |_=>false
def Acv (P:Program):List (TypeId×Ty)->Bool
 | []=>true
 |(t,y)::r=>(!y.eqi||(Ahg (P.underlying t)&&!P.eqGuardType P.depth t&&(match Ld P 5 t with|some n=>n.beq y.size|none=>false)))&&Acv P r
theorem Apv:∀ {tab:List (TypeId×Ty)},Acv P tab=true->∀ p∈tab,p.2.eqi=true->EqI P p.1 p.2.size:=by
 intro tab
 induction tab with
 |nil=>intro _ p hp;cases hp
 |cons q r ih=>
  obtain ⟨t,y⟩:=q
  intro h p hp hq
  obtain ⟨h1,h2⟩:=and_true h
  cases hp with
  |tail _ hp=>exact ih h2 p hp hq
  |head=>
   dsimp only at hq ⊢
   rw [hq] at h1
   simp only [Bool.not_true,Bool.false_or] at h1
   obtain ⟨h3,h4⟩:=and_true h1
   obtain ⟨h5,h6⟩:=and_true h3
   cases hf:Ld P 5 t with
   |none=>rw [hf] at h4;cases h4
   |some n=>
    rw [hf] at h4
    have h4:=Nat.eq_of_beq_eq_true h4
    rw [<-h4]
    refine Apu hf (by omega) ?_ (by simpa using h6)
    unfold Ahg at h5
    split at h5
    ·rename_i hu;simp only [hu]
    ·cases h5
section
variable {P:Program} {Y:TypeId->Ty} {Gl:World->Prop} {X:Cx} {nt:Nat} {ds:List Deferred} {e e0:Env} {a:Act} {w:World} {G:Gh} {rd:Option Nat} {fu:Nat} {yd:Yd}
end
open Go
section
variable {P:Program} {Y:TypeId->Ty} {Gl:World->Prop}
def Apw (t:Nat) (g:FuncId) (id:Nat) (cs:List C) (id2:Nat) (cs2:List C):Dm
 | .normal,_,e=>e.get 0 t=.fn g [] [.addr id 0,.addr id2 0]/\e.get 2 id=live/\e.get 2 id2=live/\Gb e id 0 cs/\Gb e id2 0 cs2
 | .ret,_,e=>e.get 0 t=.fn g [] [.addr id 0,.addr id2 0]/\e.get 2 id=live/\e.get 2 id2=live/\Gb e id 0 cs/\Gb e id2 0 cs2
 |_,_,_=>False
def Ahh (Comp:FuncId->List T->Res->Prop) (Comp2:Yd->FuncId->List T->Env->Res->Env->Prop) (Y:TypeId->Ty) (fn:Func) (args:List T) (orc:Orc) (t:Nat) (g:FuncId) (id:Nat) (cs:List C) (id2:Nat) (cs2:List C):Prop:=
 match fn.body with
 |some c=>ifB (Nat.ble args.length fn.ntmps&&Nat.ble fn.ntmps FAR&&Jo [] args) (wp Comp Comp2 Y fn.ntmps yd0 false c (Apw t g id cs id2 cs2) orc (entry 0 args))
 |none=>False
theorem Apx (S:Set P Y Gl) {f:FuncId} {fn:Func} {args:List T} {t:Nat} {g:FuncId} {id:Nat} {cs:List C} {id2:Nat} {cs2:List C} (orc:Orc) (hf:P.funcs[f]?=some fn) (hname:(fn.name== "runtime.NumGoroutine")=false) (ht:fn.results=#[.tmp t]) (htf:t<FAR) (hidf:id<FAR) (hidf2:id2<FAR) (hne:id≠id2)
  (q:Prop) (hq:q=Ahh (Computes P Gl) (Does P Y Gl) Y fn args orc t g id cs id2 cs2) (h:q):Computes P Gl f args (.ret (.fn g [] [.d (.c (.p cs)),.d (.c (.p cs2))])):=by
 subst hq
 unfold Ahh at h
 split at h
 case h_2=>exact h.elim
 rename_i c hc
 obtain ⟨hb,h⟩:=Jv h
 simp only [Bool.and_eq_true] at hb
 obtain ⟨⟨hb1,hb2⟩,hb3⟩:=hb
 refine ⟨⟨fn,hf,hname,by rw [hc];rfl⟩,fun vis w vs hvis hgl hargs=>?_⟩
 obtain ⟨X,hX⟩:∃ X:Cx,({ base:=w.heap.size,vis:=vis,fz:=Lo w.heap.size,J:=J0 w,st:=Sx,sh:=#[],c0:=fun _ _=>none,bk0:=fun _=>0 }:Cx)=X:=⟨_,rfl⟩
 have hXJ:X.J=J0 w:=by subst hX;rfl
 have hXb:X.base=w.heap.size:=by subst hX;rfl
 have hXv:X.vis=vis:=by subst hX;rfl
 have hXf:X.fz=Lo w.heap.size:=by subst hX;rfl
 have U:Sur P Gl X yd0:=⟨fun p H vi w' hj=>by rw [hXJ] at hj;exact S.gl _ _ hgl hj.2,fun p H vi w vs hp=>absurd hp (Nat.not_lt_zero _),.inl rfl⟩
 have R:Rel Y X fn.ntmps [] (entry 0 args++[]) { tmps:=vs++Array.replicate (fn.ntmps - vs.size) undef,defers:=[] } w ⟨vis,fun _=>0,fun _=>none,Lo w.heap.size,⟨[],.nil⟩⟩:=by
  refine start (X:=X) rfl hb3 (Nat.le_of_ble_eq_true hb1) (Nat.le_of_ble_eq_true hb2) ⟨fun id k hk=>absurd rfl hk,fun id hid=>absurd rfl hid,fun id id' hid=>absurd rfl hid⟩ ?_ (fun _=>rfl) rfl hvis (fun b _=>by rw [hXv]) (by rw [hXb];exact Nat.le_refl _)
   (fun id hid=>absurd rfl hid) (fun b hb=>hb) (fun b hb=>by rw [hXf] at hb;exact hb) (by rw [hXJ];exact ⟨fun b hb=>hb,.refl _ _⟩) (fun id k _ hl=>by cases hl)
  rw [hXf]
  exact Ab.mono (G:=Gh0 vis) (G':=⟨vis,fun _=>0,fun _=>none,Lo w.heap.size,⟨[],.nil⟩⟩) (O:=Lo w.heap.size) ⟨fun _=>Nat.le_refl _,.refl _ _,fun _ _=>rfl⟩ (fun _ _=>rfl) hargs
 rw [List.append_nil] at R
 have hwp:=Qe (fu:=0) S c false U (fun _=>rfl) _ orc _ _ w h ⟨_,R⟩
 refine Ps (n:=0) (callsIn_of_wp_marks hf hc trivial (wpIn_mono hwp ?_))
 have fin:∀ {a:Act} {w2:World} {G:Gh} {e:Env},(e.get 0 t=.fn g [] [.addr id 0,.addr id2 0]/\e.get 2 id=live/\e.get 2 id2=live/\Gb e id 0 cs/\Gb e id2 0 cs2)->Rel Y X fn.ntmps [] e a w2 G->
   LeavesInM (Fr none) 0 P fn a.tmps (fun en w'=>Below w.heap.size w w'/\Gx vis w en w' (.ret (.fn g [] [.d (.c (.p cs)),.d (.c (.p cs2))]))) a.defers .returning w2:=by
  intro a w2 G e ⟨h1,h2,h2b,h3,h3b⟩ R
  refine Sv R (by simp) fun w3 G3 _ _ _ R3=>?_
  have hres:(results fn a.tmps).run P w3=.ok (a.tmps.getD t undef) w3:=by
   have he:fn.results.mapM (Aq a.tmps)=List.toArray <$> fn.results.toList.mapM (Aq a.tmps):=Array.mapM_eq_mapM_toList ..
   have he2:results fn a.tmps=(fn.results.mapM (Aq a.tmps) >>= fun vs=>pure (if h:vs.size=1 then vs[0] else .tuple vs)):=rfl
   have hrun:([ResultVar.tmp t].mapM (Aq a.tmps)).run P w3=.ok [a.tmps.getD t undef] w3:=by rw [Gz];simp [Aq,Result.andThen]
   rw [he2,he,ht]
   simp only [Sem.run_bind,Sem.run_map,hrun,Result.andThen_ok,Sem.run_pure]
   rfl
  refine ⟨_,hres,?_⟩
  have hj:=R3.jj
  rw [hXJ] at hj
  have hid:e.get 2 id≠.any:=by rw [h2];exact Bh
  obtain ⟨q1,q2,q3⟩:=R3.mem.box id hid
  rw [h2] at q3
  obtain ⟨q3,q4⟩:=q3
  have hown:=(R3.ownb id hid).1 hidf
  have hid2:e.get 2 id2≠.any:=by rw [h2b];exact Bh
  obtain ⟨p1,p2,p3⟩:=R3.mem.box id2 hid2
  rw [h2b] at p3
  obtain ⟨p3,p4⟩:=p3
  have hown2:=(R3.ownb id2 hid2).1 hidf2
  have hbne:G3.bk id≠G3.bk id2:=fun hh=>hne (R3.mem.inj id id2 hid hid2 hh)
  have hsl:=(R3.slots t).rel
  rw [h1] at hsl
  unfold Dg at hsl
  rw [if_pos htf] at hsl
  simp only [Aa,Ab] at hsl
  obtain ⟨us,vs',hv,hus,v1,us1,hvs,hv1,v2,us2,hvs2,hv2,hus2⟩:=hsl
  obtain ⟨vis',hvis'⟩:∃ vis':Nat->Nat,vis'=fun b=>if b=G3.bk id then cs.length else if b=G3.bk id2 then cs2.length else G3.vis b:=⟨_,rfl⟩
  have hvb:vis' (G3.bk id)=cs.length:=by rw [hvis'];exact if_pos rfl
  have hvb2:vis' (G3.bk id2)=cs2.length:=by rw [hvis'];dsimp only;rw [if_neg (fun hh=>hbne hh.symm),if_pos rfl]
  have hle:∀ b,G3.vis b<=vis' b:=fun b=>by
   rw [hvis'];dsimp only
   split
   ·rename_i hb;rw [hb,q3];exact Nat.zero_le _
   ·split
    ·rename_i hb;rw [hb,p3];exact Nat.zero_le _
    ·exact Nat.le_refl _
  refine ⟨hj.2,_,vis',rfl,fun b hb=>?_,fun b hb=>?_,rfl,?_⟩
  ·rw [hvis'];dsimp only
   rw [if_neg (fun hh=>by rw [hXb] at hown;omega),if_neg (fun hh=>by rw [hXb] at hown2;omega),R3.old b (by rw [hXb];exact hb),hXv]
  ·rw [hvis'];dsimp only
   rw [if_neg (fun hh=>by omega),if_neg (fun hh=>by omega)]
   exact R3.fresh b hb
  ·simp only [Aa,Ab]
   refine ⟨us,vs',hv,hus,v1,us1,hvs,?_,v2,us2,hvs2,?_,hus2⟩
   ·simp only [Aw]
    subst hv1
    have hc:∀ (j:Nat) c,cs[j]?=some c->∃ u,w3.cell? ⟨G3.bk id,j,none⟩=some u/\Rep vis' w3 c u:=fun j c hj=>by
     have hg:=Xw h3 j c hj
     rw [Nat.zero_add] at hg
     obtain ⟨_,_,u,hu,hr⟩:=R3.mem.cells id j (by rw [hg];simp)
     rw [hg] at hr
     have hr:=hr.rel
     simp only [Aa,Aw] at hr
     exact ⟨u,hu,hr.mono' hle (.refl _ _)⟩
    refine .p cs (G3.bk id) 0 (fun j=>(w3.cell? ⟨G3.bk id,j,none⟩).getD undef) (by show 0+cs.length<=vis' (G3.bk id);rw [hvb,Nat.zero_add];exact Nat.le_refl _) (fun j c hj=>?_) (fun j c hj=>?_)
    ·obtain ⟨u,hu,_⟩:=hc j c hj
     rw [Nat.zero_add,hu];rfl
    ·obtain ⟨u,hu,hr⟩:=hc j c hj
     rw [hu];exact hr
   ·simp only [Aw]
    subst hv2
    have hc:∀ (j:Nat) c,cs2[j]?=some c->∃ u,w3.cell? ⟨G3.bk id2,j,none⟩=some u/\Rep vis' w3 c u:=fun j c hj=>by
     have hg:=Xw h3b j c hj
     rw [Nat.zero_add] at hg
     obtain ⟨_,_,u,hu,hr⟩:=R3.mem.cells id2 j (by rw [hg];simp)
     rw [hg] at hr
     have hr:=hr.rel
     simp only [Aa,Aw] at hr
     exact ⟨u,hu,hr.mono' hle (.refl _ _)⟩
    refine .p cs2 (G3.bk id2) 0 (fun j=>(w3.cell? ⟨G3.bk id2,j,none⟩).getD undef) (by show 0+cs2.length<=vis' (G3.bk id2);rw [hvb2,Nat.zero_add];exact Nat.le_refl _) (fun j c hj=>?_) (fun j c hj=>?_)
    ·obtain ⟨u,hu,_⟩:=hc j c hj
     rw [Nat.zero_add,hu];rfl
    ·obtain ⟨u,hu,hr⟩:=hc j c hj
     rw [hu];exact hr
 intro ex a w2 hq
 cases ex with
 |normal=>obtain ⟨o,e,h1,⟨G,R⟩⟩:=hq;exact fin h1 R
 |ret=>obtain ⟨o,e,h1,⟨G,R⟩⟩:=hq;exact fin h1 R
 |panic chain=>obtain ⟨v,o,e,_,h1,_⟩:=hq;exact h1.elim
 |exit id=>obtain ⟨o,e,h1,_⟩:=hq;exact h1.elim
 |goto l=>exact hq.elim
 |outgrown=>exact hq.elim
end
section
variable {P:Program} {Y:TypeId->Ty} {Gl:World->Prop} {X:Cx} {nt:Nat} {ds:List Deferred} {e:Env} {a:Act} {w:World} {G:Gh} {rho:List (Nat×Nat)}
def Qg:List ResultVar->M (List T)
 | []=>.ret []
 | .tmp t::r=>(ev0 (.tmp t)).bind fun x=>match x with
  | .d d=>(Qg r).bind fun xs=>.ret (.d d.dem::xs)
  | .addr id k=>(Qg r).bind fun xs=>.ret (.addr id k::xs)
  |_=>.fail
 |_=>.fail
def Ye (vs:List Value):Value:=if h:vs.toArray.size=1 then vs.toArray[0] else .tuple vs.toArray
def outN (Y:TypeId->Ty) (rs:List ResultVar):M T:=
 match rs with
 | [.tmp t]=>ev0 (.tmp t)
 | [.cell a ty]=>(ev0 (.tmp a)).bind fun x=>match x,(Y ty).agg with
  | .addr id k,some true=>(Ls id (Y ty).size k).bind fun xs=>.ret (.ag xs)
  |_,_=>.fail
 |rs=>(Qg rs).bind fun xs=>.ret (.tpl xs)
def Ha:Env->Env
 | []=>[]
 |(t,k,x)::r=>bif Nat.blt 1 t then (t,k,x)::Ha r else Ha r
def Hb:Env->List (Nat×Nat)
 | []=>[]
 |(2,k,_)::r=>(k,k)::Hb r
 |_::r=>Hb r
def Tc:List (Nat×Nat)->Bool
 | []=>true
 |(_,k)::r=>Nat.blt k FAR&&Tc r
def Acx (Y:TypeId->Ty) (rs:List ResultVar) (e0:Env) (x:T):Prop:=
 match (outN Y rs).run e0.get [] with
 |some (y,_)=>x=y
 |none=>False
def Ahi (e0:Env):Dm
 | .normal,_,e=>le e e0
 | .ret,_,e=>le e e0
 |_,_,_=>False
def Ahj (Comp:FuncId->List T->Res->Prop) (Comp2:Yd->FuncId->List T->Env->Res->Env->Prop) (Y:TypeId->Ty) (fn:Func) (args:List T) (orc:Orc) (e0:Env) (x:T):Prop:=
 match fn.body with
 |some c=>Acx Y fn.results.toList e0 x/\ifB (Nat.ble args.length fn.ntmps&&Nat.ble fn.ntmps FAR&&Jo [] args&&Tc (Hb e0)&&Df (Hb e0) (Ha e0)&&Bc (Hb e0) x) (wp Comp Comp2 Y fn.ntmps yd0 false c (Ahi e0) orc (entry 0 args))
 |none=>False
theorem Le:∀ {m:Env} {t k:Nat},1<t->(Ha m).get t k=m.get t k
 | [],_,_,_=>rfl
 |(t0,k0,x)::m,t,k,h=>by
  unfold Ha
  cases hb:Nat.blt 1 t0 with
  |true=>
   simp only [cond_true]
   rw [Ap,Ap,Le h]
  |false=>
   simp only [cond_false]
   rw [Le h,Ax]
   intro hh
   have:¬ 1<t0:=fun h2=>by
    have:Nat.blt 1 t0=true:=by unfold Nat.blt;exact Nat.ble_eq_true_of_le h2
    rw [this] at hb;cases hb
   omega
theorem Td:∀ {m:Env} {F:Nat},Tc (Hb m)=true->inL F (Hb m)=true->F<FAR
 | [],F,_,h=>by simp [Hb,inL] at h
 |(2,k,x)::m,F,hl,h=>by
  simp only [Hb,Tc,inL,Bool.and_eq_true,Bool.or_eq_true] at hl h
  rcases h with h|h
  ·rw [<-Nat.eq_of_beq_eq_true h];exact Bg hl.1
  ·exact Td hl.2 h
 |(0,k,x)::m,F,hl,h=>Td (m:=m) hl h
 |(1,k,x)::m,F,hl,h=>Td (m:=m) hl h
 |(t+3,k,x)::m,F,hl,h=>Td (m:=m) hl h
mutual
theorem Aa.anyO {O O':Nat->Prop}:∀ {x:T} {v:Value},Bc rho x=true->Aa G w O x v->Aa G w O' x v
 | .d x,v,hx,r=>by
  simp only [Aa] at r ⊢
  refine Aw.pure (?_:Fa (.d x)=true) r
  cases x with
  |rd xs=>simp [Bc] at hx
  |c c=>rfl
  |agg xs=>rfl
 | .addr id k,v,_,r=>by simp only [Aa] at r ⊢;exact r
 | .fn f p q,v,hx,r=>by
  simp only [Bc,Bool.and_eq_true] at hx
  simp only [Aa] at r ⊢
  obtain ⟨us,vs,h1,h2,h3⟩:=r
  exact ⟨us,vs,h1,Ab.anyO hx.1 h2,Ab.anyO hx.2 h3⟩
 | .arr id n,v,_,r=>by simp only [Aa] at r ⊢;exact r
 | .mp id,v,_,r=>by simp only [Aa] at r ⊢;exact r
 | .yl l,v,_,r=>by simp only [Aa] at r ⊢;exact r
 | .ag p,v,hx,r=>by
  simp only [Bc] at hx
  simp only [Aa] at r ⊢
  obtain ⟨vs,h1,h2⟩:=r
  exact ⟨vs,h1,Ab.anyO hx h2⟩
 | .tpl p,v,hx,r=>by
  simp only [Bc] at hx
  simp only [Aa] at r ⊢
  obtain ⟨vs,h1,h2⟩:=r
  exact ⟨vs,h1,Ab.anyO hx h2⟩
 | .tup _,_,hx,_| .may _ _,_,hx,_| .any,_,hx,_| .tok _,_,hx,_| .elt _ _ _ _,_,hx,_| .it _,_,hx,_| .nx _ _,_,hx,_
 | .own _ _ _,_,hx,_| .tkd _ _ _ _,_,hx,_| .arrc _ _ _ _,_,hx,_| .mapc _ _ _ _ _,_,hx,_| .itc _ _,_,hx,_| .mitc _ _ _ _ _ _,_,hx,_| .tr _,_,hx,_| .arro _ _ _ _ _,_,hx,_=>by simp [Bc] at hx
theorem Ab.anyO {O O':Nat->Prop}:∀ {xs:List T} {vs:List Value},Fg rho xs=true->Ab G w O xs vs->Ab G w O' xs vs
 | [],vs,_,r=>by simp only [Ab] at r ⊢;exact r
 |x::xs,vs,hx,r=>by
  simp only [Fg,Bool.and_eq_true] at hx
  simp only [Ab] at r ⊢
  obtain ⟨v,us,h1,h2,h3⟩:=r
  exact ⟨v,us,h1,Aa.anyO hx.1 h2,Ab.anyO hx.2 h3⟩
end
theorem Acy (R:Rel Y X nt ds e a w G):∀ {rs:List ResultVar} {r r':List (Nat×Nat)} {xs:List T},(Qg rs).run e.get r=some (xs,r')->
  ∃ vs,(rs.mapM (Aq a.tmps)).run P w=.ok vs w/\Ab G w X.fz xs vs/\vs.length=rs.length
 | [],r,r',xs,h=>by
  simp only [Qg,M.run,Option.some.injEq,Prod.mk.injEq] at h
  obtain ⟨rfl,_⟩:=h
  exact ⟨[],rfl,by simp only [Ab],rfl⟩
 | .tmp t::rs,r,r',xs,h=>by
  simp only [Qg] at h
  obtain ⟨y,r1,h1,h2⟩:=Ag h
  have hs:=Hk R h1
  have hrun:∀ {vs:List Value},(rs.mapM (Aq a.tmps)).run P w=.ok vs w->((ResultVar.tmp t::rs).mapM (Aq a.tmps)).run P w=.ok (a.tmps.getD t undef::vs) w:=fun h=>by
   rw [Gz];simp [Aq,Result.andThen,h]
  split at h2
  ·obtain ⟨ys,r2,h3,h4⟩:=Ag h2
   simp only [M.run,Option.some.injEq,Prod.mk.injEq] at h4
   obtain ⟨rfl,_⟩:=h4
   obtain ⟨vs,g1,g2,g3⟩:=Acy R h3
   refine ⟨_,hrun g1,?_,by simp [g3]⟩
   simp only [Ab]
   exact ⟨_,_,rfl,(VOK.dem (Y:=Y) (e:=e) hs.reld).rel,g2⟩
  ·obtain ⟨ys,r2,h3,h4⟩:=Ag h2
   simp only [M.run,Option.some.injEq,Prod.mk.injEq] at h4
   obtain ⟨rfl,_⟩:=h4
   obtain ⟨vs,g1,g2,g3⟩:=Acy R h3
   refine ⟨_,hrun g1,?_,by simp [g3]⟩
   simp only [Ab]
   exact ⟨_,_,rfl,hs.rel,g2⟩
  ·exact (Ac h2).elim
 | .cell _ _::_,r,r',xs,h=>(Ac h).elim
theorem Apy (hY:YOK P Y) (R:Rel Y X nt ds e a w G) {rs:List ResultVar} {r r':List (Nat×Nat)} {x:T} (h:(outN Y rs).run e.get r=some (x,r')):
  ∃ vs,(rs.mapM (Aq a.tmps)).run P w=.ok vs w/\Aa G w X.fz x (Ye vs):=by
 unfold outN at h
 split at h
 ·rename_i t
  have hs:=Hk R h
  have hrun:([ResultVar.tmp t].mapM (Aq a.tmps)).run P w=.ok [a.tmps.getD t undef] w:=by rw [Gz];simp [Aq,Result.andThen]
  exact ⟨_,hrun,hs.rel⟩
 ·rename_i ad ty
  obtain ⟨y,r1,h1,h2⟩:=Ag h
  have hs:=Hk R h1
  split at h2
  ·rename_i id k hag
   obtain ⟨xs,r2,h3,h4⟩:=Ag h2
   simp only [M.run,Option.some.injEq,Prod.mk.injEq] at h4
   obtain ⟨rfl,_⟩:=h4
   obtain ⟨us,g1,g2,g3,g4⟩:=Ws R _ h3
   have hp:=hs.rel
   simp only [Aa] at hp
   have hp':a.tmps.getD ad undef=.pointer (some ⟨G.bk id,k,none⟩):=hp
   have hl:=Jq hY hag g1 g3
   have hrun:([ResultVar.cell ad ty].mapM (Aq a.tmps)).run P w=.ok [.agg us.toArray] w:=by
    rw [Gz]
    simp [Aq,hp',asAddr,hl,Result.andThen]
   obtain ⟨k1,_⟩:=g4.relTs g2
   refine ⟨_,hrun,?_⟩
   show Aa G w X.fz (.ag xs) (.agg us.toArray)
   simp only [Aa]
   exact ⟨us.toArray,rfl,by simpa using k1⟩
  ·exact (Ac h2).elim
 ·rename_i n1 n2
  obtain ⟨xs,r1,h1,h2⟩:=Ag h
  simp only [M.run,Option.some.injEq,Prod.mk.injEq] at h2
  obtain ⟨rfl,_⟩:=h2
  obtain ⟨vs,g1,g2,g3⟩:=Acy R h1
  refine ⟨vs,g1,?_⟩
  have hne:¬ vs.toArray.size=1:=fun hh=>by
   have h1:rs.length=1:=by rw [<-g3];simpa using hh
   match rs,h1 with
   | [.tmp t],_=>exact n1 t rfl
   | [.cell t y],_=>exact n2 t y rfl
  unfold Ye
  rw [dif_neg hne]
  simp only [Aa]
  exact ⟨vs.toArray,rfl,by simpa using g2⟩
theorem Apz (S:Set P Y Gl) {fn:Func} {vis:Nat->Nat} {w:World} {x:T} {e0:Env} (hXJ:X.J=J0 w) (hXb:X.base=w.heap.size) (hXv:X.vis=vis) (hout:Acx Y fn.results.toList e0 x) (hlow:Tc (Hb e0)=true) (htm:Df (Hb e0) (Ha e0)=true) (htx:Bc (Hb e0) x=true):
  ∀ ex a w2,Oa Y X fn.ntmps [] (Ahi e0) ex a w2->bodyPostM (Fr none) 0 P fn (fun en w'=>Below w.heap.size w w'/\Gx vis w en w' (.new x (Ha e0))) ex a w2:=by
 have fin:∀ {a:Act} {w2:World} {G:Gh} {e:Env},le e e0->Rel Y X fn.ntmps [] e a w2 G->
   LeavesInM (Fr none) 0 P fn a.tmps (fun en w'=>Below w.heap.size w w'/\Gx vis w en w' (.new x (Ha e0))) a.defers .returning w2:=by
  intro a w2 G e hle R
  refine Sv R (by simp) fun w3 G3 _ _ _ R3=>?_
  obtain ⟨G4,R4,q1,q2,q3,q4,q5,q6⟩:=Sp hle R3
  unfold Acx at hout
  split at hout
  case h_2=>exact hout.elim
  rename_i y rr hrun
  subst hout
  obtain ⟨v,hr1,hr2⟩:=Apy S.y R4 hrun
  have hres:(results fn a.tmps).run P w3=.ok (Ye v) w3:=by
   have he:fn.results.mapM (Aq a.tmps)=List.toArray <$> fn.results.toList.mapM (Aq a.tmps):=Array.mapM_eq_mapM_toList ..
   have he2:results fn a.tmps=(fn.results.mapM (Aq a.tmps) >>= fun vs=>pure (if h:vs.size=1 then vs[0] else .tuple vs)):=rfl
   rw [he2,he]
   simp only [Sem.run_bind,Sem.run_map,hr1,Result.andThen_ok,Sem.run_pure]
   rfl
  refine ⟨_,hres,?_⟩
  have hj:=R3.jj
  rw [hXJ] at hj
  have hext:Ext (fun _=>False) G4 { Gh0 G4.vis with bk:=G4.bk } w3 w3:=⟨fun _=>Nat.le_refl _,.refl _ _,fun _ hf=>hf.elim⟩
  refine ⟨hj.2,Ye v,G4.vis,rfl,fun b hb=>by rw [R4.old b (by rw [hXb];exact hb),hXv],R4.fresh,G4.bk,fun id hid=>?_,fun id id' h1 h2 hh=>?_,fun id k hk=>?_,?_⟩
  ·rw [Le (by decide)] at hid ⊢
   obtain ⟨b1,b2,b3⟩:=R4.mem.box id hid
   have hin:inL id (Hb e0)=true/\Cq (e0.get 2 id)=true:=by
    have hid':(Ha e0).get 2 id≠.any:=by rw [Le (by decide)];exact hid
    rcases tameE_mem htm ((get_mem (rfl:(Ha e0).get 2 id=(Ha e0).get 2 id)).resolve_left hid') with ⟨h3,_⟩|⟨_,h3,h4⟩|⟨i,h3,_⟩
    ·omega
    ·rw [Le (by decide)] at h4;exact ⟨h3,h4⟩
    ·omega
   refine ⟨by have:=(R4.ownb id hid).1 (Td hlow hin.1);rw [hXb] at this;exact this,b2,?_⟩
   generalize e0.get 2 id=ob at b3 hin
   obtain ⟨_,hisob⟩:=hin
   unfold Bv at b3 ⊢
   split at b3<;>first|exact b3|exact b3.elim|cases hisob
  ·rw [Le (by decide)] at h1 h2
   exact R4.mem.inj id id' h1 h2 hh
  ·have hk2:=hk
   rw [Le (t:=id+3) (by omega)] at hk ⊢
   rw [Le (t:=2) (by decide)]
   obtain ⟨g1,g2,u,g3,g4⟩:=R4.mem.cells id k hk
   refine ⟨g1,u,g3,?_⟩
   have ht:Bc (Hb e0) (e0.get (id+3) k)=true:=by
    rcases tameE_mem htm ((get_mem (rfl:(Ha e0).get (id+3) k=(Ha e0).get (id+3) k)).resolve_left hk2) with ⟨h3,_⟩|⟨h3,_⟩|⟨i,h3,_,h5,_⟩
    ·omega
    ·omega
    ·rw [Le (t:=id+3) (by omega)] at h5;exact h5
   exact Aa.mono hext (Hz fun _ _=>rfl) (Aa.anyO ht g4.rel)
  ·exact Aa.mono hext (Hz fun _ _=>rfl) (Aa.anyO htx hr2)
 intro ex a w2 hq
 cases ex with
 |normal=>obtain ⟨o,e,h1,⟨G,R⟩⟩:=hq;exact fin h1 R
 |ret=>obtain ⟨o,e,h1,⟨G,R⟩⟩:=hq;exact fin h1 R
 |panic chain=>obtain ⟨v,o,e,_,h1,_⟩:=hq;exact h1.elim
 |exit id=>obtain ⟨o,e,h1,_⟩:=hq;exact h1.elim
 |goto l=>exact hq.elim
 |outgrown=>exact hq.elim
theorem Te (S:Set P Y Gl) {f:FuncId} {fn:Func} {args:List T} {x:T} {m:Env} (orc:Orc) (hf:P.funcs[f]?=some fn) (hname:(fn.name== "runtime.NumGoroutine")=false) (e0:Env) (hm:m=Ha e0)
  (q:Prop) (hq:q=Ahj (Computes P Gl) (Does P Y Gl) Y fn args orc e0 x) (h:q):Computes P Gl f args (.new x m):=by
 subst hq
 subst hm
 unfold Ahj at h
 split at h
 case h_2=>exact h.elim
 rename_i c hc
 obtain ⟨hout,h⟩:=h
 obtain ⟨hb,h⟩:=Jv h
 simp only [Bool.and_eq_true] at hb
 obtain ⟨⟨⟨⟨⟨hb1,hb2⟩,hb3⟩,hlow⟩,htm⟩,htx⟩:=hb
 refine ⟨⟨fn,hf,hname,by rw [hc];rfl⟩,fun vis w vs hvis hgl hargs=>?_⟩
 obtain ⟨X,hX⟩:∃ X:Cx,({ base:=w.heap.size,vis:=vis,fz:=Lo w.heap.size,J:=J0 w,st:=Sx,sh:=#[],c0:=fun _ _=>none,bk0:=fun _=>0 }:Cx)=X:=⟨_,rfl⟩
 have hXJ:X.J=J0 w:=by subst hX;rfl
 have hXb:X.base=w.heap.size:=by subst hX;rfl
 have hXv:X.vis=vis:=by subst hX;rfl
 have hXf:X.fz=Lo w.heap.size:=by subst hX;rfl
 have U:Sur P Gl X yd0:=⟨fun p H vi w' hj=>by rw [hXJ] at hj;exact S.gl _ _ hgl hj.2,fun p H vi w vs hp=>absurd hp (Nat.not_lt_zero _),.inl rfl⟩
 have R:Rel Y X fn.ntmps [] (entry 0 args++[]) { tmps:=vs++Array.replicate (fn.ntmps - vs.size) undef,defers:=[] } w ⟨vis,fun _=>0,fun _=>none,Lo w.heap.size,⟨[],.nil⟩⟩:=by
  refine start (X:=X) rfl hb3 (Nat.le_of_ble_eq_true hb1) (Nat.le_of_ble_eq_true hb2) ⟨fun id k hk=>absurd rfl hk,fun id hid=>absurd rfl hid,fun id id' hid=>absurd rfl hid⟩ ?_ (fun _=>rfl) rfl hvis (fun b _=>by rw [hXv]) (by rw [hXb];exact Nat.le_refl _)
   (fun id hid=>absurd rfl hid) (fun b hb=>hb) (fun b hb=>by rw [hXf] at hb;exact hb) (by rw [hXJ];exact ⟨fun b hb=>hb,.refl _ _⟩) (fun id k _ hl=>by cases hl)
  rw [hXf]
  exact Ab.mono (G:=Gh0 vis) (G':=⟨vis,fun _=>0,fun _=>none,Lo w.heap.size,⟨[],.nil⟩⟩) (O:=Lo w.heap.size) ⟨fun _=>Nat.le_refl _,.refl _ _,fun _ _=>rfl⟩ (fun _ _=>rfl) hargs
 rw [List.append_nil] at R
 have hwp:=Qe (fu:=0) S c false U (fun _=>rfl) _ orc _ _ w h ⟨_,R⟩
 refine Ps (n:=0) (callsIn_of_wp_marks hf hc trivial (wpIn_mono hwp ?_))
 exact Apz S hXJ hXb hXv hout hlow htm htx
end
section
variable {P:Program} {Y:TypeId->Ty} {Gl:World->Prop} {X:Cx} {nt:Nat} {ds:List Deferred} {e:Env} {a:Act} {w:World} {G:Gh}
theorem Tail.leaveO (S:Set P Y Gl) {fn:Func} {E E':Env} {vis:Nat->Nat} {w0:World} {res:Res} (T:Tail P Gl Y X fn E vis w0 a w G) {a':Act} {w':World} {G':Gh} (R':Rel Y X fn.ntmps [] E' a' w' G') (h:Nl Y fn true (fun r _=>It r res) .ret .nil E'):
  bodyPostM (Fr none) 0 P fn (fun en w'=>Below w0.heap.size w0 w'/\Gx vis w0 en w' res) .ret a' w':=by
 refine Xt S (X:=X) (nt:=fn.ntmps) (own:=true) (Rp:=fun r _=>It r res) (fun e2 a2 w2 ds2 G2 R2=>⟨fun x v hx hr=>?_,fun v hx=>?_⟩) .ret a' w' ⟨.nil,E',h,⟨G',R'⟩⟩
 ·have hj:=R2.jj
  rw [T.J] at hj
  rw [T.base] at hr
  obtain ⟨y,rfl,hr⟩:=Xu (Ic hx) hr
  exact ⟨hj.2,v,G2.vis,rfl,fun b hb=>by rw [R2.old b (by rw [T.base];exact hb),T.vis],R2.fresh,hr⟩
 ·have hj:=R2.jj
  rw [T.J] at hj
  obtain rfl:=Xv (Ic hx)
  exact ⟨hj.2,rfl⟩
structure CloneOps (Y:TypeId->Ty) (t el:TypeId) (ops:Array Oper):Prop where
 sz:List.range ops.size=[0,1,2,3]
 kind:(Y t).kind=.slice el
 known:(Y el).known=true
 o0:∃ o,ops[0]?=some o/\o.guard=none/\o.op=.buildSlice t 0 #[]/\o.dst=some 5
 o1:∃ o,ops[1]?=some o/\o.guard=none/\o.op=.move (.tmp 0)/\o.dst=some 6
 o2:∃ o,ops[2]?=some o/\o.guard=none/\o.op=.call { callee:=.builtin .append,args:=#[.tmp 5,.tmp 6],argTypes:=#[t,t] }/\o.dst=some 7
 o3:∃ o,ops[3]?=some o/\o.guard=none/\o.op=.assign (.tmp 7)/\o.dst=some 2
theorem Aq0 (S:Set P Y Gl) {fn:Func} {t el:TypeId} {ops:Array Oper} {n:Nat} {f:Nat->List C} {vis:Nat->Nat} {w0:World} (Tl:Tail P Gl Y X fn [(0,0,.d (.c (.s .n n f)))] vis w0 a w G) (C0:CloneOps Y t el ops) (hres:fn.results=#[.tmp 2]) (hnt:fn.ntmps=8)
  (hn:0<n) (hb1:n*(Y el).bytes<=140737488355328) (hb2:n<=140737488355328) (hf:(f 0).length=(Y el).size) (hs:0<(Y el).size) (rid:Nat):
  (Code.seq (.region rid ops false) .ret).wpIn (Fr none) 0 P (bodyPostM (Fr none) 0 P fn fun en w'=>Below w0.heap.size w0 w'/\Gx vis w0 en w' (.ret (.own (Y el).size n f))) a w:=by
 obtain ⟨hsz,hk,hkn,⟨o0,a1,a2,a3,a4⟩,⟨o1,b1,b2,b3,b4⟩,⟨o2,c1,c2,c3,c4⟩,⟨o3,d1,d2,d3,d4⟩⟩:=C0
 have hY:=S.y
 have R:=Tl.rel
 obtain ⟨dd,i,z,h1,h2,h3,h4,h5,h6,h7,h8⟩:=hY t (by simp [Ty.known,hk])
 rw [hk] at h7
 simp only [KOK] at h7
 subst h7
 obtain ⟨dd,ie,ze,g1,g2,g3,g4,g5,g6,g7,g8⟩:=hY el hkn
 have hzs:ze.cells.size=(Y el).size:=by rw [<-g8.2.1,<-g6,Array.length_toList]
 refine wpIn_seq (wpIn_region ?_)
 rw [hsz]
 -- nothing yet
 have r0:(execOp a.eval o0).run P w=.ok (.value (.slice (some ⟨w.heap.size,0,none⟩) 0 0)) (w.alloc (.cells #[] el)):=by
  have:(Instr.buildSlice t 0 #[]).run P w=.ok (.slice (some ⟨w.heap.size,0,none⟩) 0 0) (w.alloc (.cells #[] el)):=by
   simp [Instr.buildSlice,run_underlying h1,Db hY hkn,Instr.fill,newRow]
   congr 2
   exact Array.eq_empty_of_size_eq_zero (by simp)
  simp [execOp,a3,this]
 refine Lc a1 a2 (by rw [a3];intro c hc;cases hc) r0 ?_
 rw [a4]
 obtain ⟨G1,v1,_,R1,lift1,_⟩:=Gt R (d:=5) rfl (by decide) (.cells #[] el) (st:=live) (ce:=[]) Bh (fun t k h=>rfl)
  (fun G' hvv=>⟨by rw [hvv];exact R.fresh _ (Nat.le_refl _),#[],el,heap_alloc_new w _⟩) (fun G' lift k hk=>by rw [List.nil_append] at hk;exact absurd rfl hk)
 have hx:VOK G w X.fz Y [(0,0,.d (.c (.s .n n f)))] (.d (.c (.s .n n f))) (a.tmps.getD 0 undef):=R.slots 0
 have hsize:=R.size
 rw [hnt] at hsize
 -- as it is
 have e0:(Act.put a (some 5) (.slice (some ⟨w.heap.size,0,none⟩) 0 0)).eval (.tmp 0)=a.tmps.getD 0 undef:=by simp [Act.eval,Act.put]
 refine Lc b1 b2 (by rw [b3];intro c hc;cases hc) (v:=a.tmps.getD 0 undef) (w':=w.alloc (.cells #[] el)) (by simp [execOp,b3,e0]) ?_
 rw [b4]
 generalize a.tmps.getD 0 undef=v0 at hx e0
 -- a new block
 obtain ⟨news,n1,n2,n3⟩:=Wr (m:=n) (g:=f) rfl (lift1 _ _ hx) hf hs
 rcases n3 with ⟨_,n3⟩|⟨sb,soff,scap,n3,n4⟩
 ·omega
 have e5:(Act.put (Act.put a (some 5) (.slice (some ⟨w.heap.size,0,none⟩) 0 0)) (some 6) v0).eval (.tmp 5)=.slice (some ⟨w.heap.size,0,none⟩) 0 0:=by simp [Act.eval,Act.put,Array.getD,hsize]
 have e6:(Act.put (Act.put a (some 5) (.slice (some ⟨w.heap.size,0,none⟩) 0 0)) (some 6) v0).eval (.tmp 6)=v0:=by simp [Act.eval,Act.put,Array.getD,hsize]
 have hrun:=run_append_grow (P:=P) (w.alloc (.cells #[] el)) t o2.type el ie ze h1 g2 g5 ⟨w.heap.size,0,none⟩ 0 0 [] (by rw [Nat.zero_mul];rfl) (fun j v hj=>by cases hj) ⟨sb,soff,none⟩ n scap news (by rw [g3];exact n1.1) n4 (by omega) (by omega) (by rw [g4];exact growslice_fits (by omega) (by rw [Nat.zero_add];exact hb1))
 rw [Nat.zero_add] at hrun
 generalize hcap:grownCap (w.alloc (.cells #[] el)) n 0 el=cap at hrun
 have hge:n<=cap:=by rw [<-hcap];exact grownCap_ge _ n 0 el
 have hcm:cap<=maxLen:=by rw [<-hcap];exact grownCap_le_maxLen _ n 0 el (by unfold maxLen;omega)
 generalize hcur:(([]:List Value).toArray++news.toArray++Builtin.zeroCells ze.cells (cap - n))=cur at hrun
 have hcs:cur.size=cap*(Y el).size:=by
  rw [<-hcur]
  simp only [Array.size_append,List.size_toArray,size_zeroCells,hzs,n1.1,List.length_nil,Nat.zero_add,<-Nat.add_mul]
  congr 1
  omega
 refine Lc c1 c2 (by rw [c3];intro c hc;cases hc) (v:=.slice (some ⟨(w.alloc (.cells #[] el)).heap.size,0,none⟩) n cap) (w':=(w.alloc (.cells #[] el)).drew.alloc (.cells cur el)) (by
  rw [<-n3] at hrun
  simp [execOp,c3,resolve,invoke,builtin,e5,e6,hrun]) ?_
 rw [c4]
 refine Lc d1 d2 (by rw [d3];intro c hc;cases hc) (v:=.slice (some ⟨(w.alloc (.cells #[] el)).heap.size,0,none⟩) n cap) (w':=(w.alloc (.cells #[] el)).drew.alloc (.cells cur el)) (by simp [execOp,d3,Act.eval,Act.put,Array.getD,hsize]) ?_
 rw [d4]
 refine wpIn_ret ?_
 obtain ⟨R2,_⟩:=R1.drewR
 obtain ⟨G3,v3,w3,R3,lift3,u3⟩:=Gt R2 (d:=2) rfl (by decide) (.cells cur el) (st:=.arrc false (Y el).size n f) (ce:=[]) (by simp) (fun t k h=>rfl)
  (fun G' hvv=>by
   refine ⟨⟨cur,el,_,heap_alloc_new (w.alloc (.cells #[] el)).drew _,.inl rfl,by rw [hcs];exact Nat.mul_le_mul_right _ hge,fun i hi=>⟨n1.2.1 i hi,fun j c hj=>?_⟩⟩,hs,fun hh=>(by cases hh),fun _=>by rw [hvv];exact R1.fresh _ (Nat.le_refl _)⟩
   obtain ⟨u,h3,h4⟩:=n1.2.2 i j c hi hj
   refine ⟨u,?_,?_⟩
   ·have hlt:i*(Y el).size+j<news.length:=(List.getElem?_eq_some_iff.1 h3).1
    rw [<-hcur,Array.getElem?_append_left (by simpa using hlt)]
    simpa using h3
   ·rw [hvv]
    exact h4.mono' (fun _=>Nat.le_refl _) (Wp R1 _))
  (fun G' lift k hk=>by
   rw [List.nil_append] at hk
   exact absurd rfl hk)
 have R4:=((((R3.put (d:=5) (by rw [hnt];decide) (by decide) (x:=.any) (v:=.slice (some ⟨w.heap.size,0,none⟩) 0 0) (VOK.any _)).put (d:=6) (by rw [hnt];decide) (by decide) (x:=.any) (v:=v0) (VOK.any _)).put (d:=7) (by rw [hnt];decide) (by decide) (x:=.any) (v:=.slice (some ⟨(w.alloc (.cells #[] el)).heap.size,0,none⟩) n cap) (VOK.any _)).put (d:=2) (by rw [hnt];decide) (by decide) (x:=.arr 2 n) (v:=.slice (some ⟨(w.alloc (.cells #[] el)).heap.size,0,none⟩) n cap) (VOK.ids_used (id:=2) (by
  simp only [Aa]
  exact .inr ⟨cap,by rw [w3];rfl,hge,hcm,cur,el,_,by rw [w3];exact heap_alloc_new (w.alloc (.cells #[] el)).drew _,by rw [hcs];exact Nat.le_mul_of_pos_right _ hs⟩) trivial rfl rfl (show (T.arrc false (Y el).size n f)≠T.any by simp)))
 refine Tl.leaveO S R4 ?_
 show Nl Y fn true _ .ret .nil _
 unfold Nl
 rw [hres]
 exact ⟨rfl,by unfold It Ox;simp [Lw];exact ⟨rfl,fun _ _=>.inl rfl⟩⟩
end
end Go.Vc
