/- A part of the proofs over the layers: the program and the specification; no condition. -/
import Derived.Test.YtknoiciabjockaaGreatCA
import Derived.MapKept
import Derived.Laws.MakeOwn
import Derived.Laws.RangeAny
import Derived.Maps.RangeRun
import Derived.Laws.IdiomStrings
import Derived.RangeFuncLeaves
import Derived.Sort.LoopGhostIn
import Derived.OrdersIn
set_option linter.all false
set_option linter.unusedSimpArgs false
set_option linter.unusedVariables false
namespace Go.Vc
open Go Go.RowKit
section
variable {P:Program} {Y:TypeId->Ty} {X:Cx} {nt:Nat} {ds:List Deferred} {e:Env} {a:Act} {w:World} {G:Gh} {O:Nat->Prop}
theorem Fi {α:Type} {b:Bool} {x:Option α} {y:α} (h:(bif b then x else none)=some y):b=true/\x=some y:=by
 cases b with
 |true=>exact ⟨rfl,h⟩
 |false=>cases h
def Abr (vis:Nat->Nat) (w:World):List (Nat×List C)->List (Nat×Value)->Prop
 | [],[]=>True
 |p::ps,q::qs=>p.1=q.1/\Av vis w p.2 q.2.cells.toList/\Abr vis w ps qs
 |_,_=>False
theorem Afc (off:Nat) (v:Array Value) (us:Array Value) (h:off+v.size<=us.size):
  (v.zipIdx.foldl (fun cs (x:Value×Nat)=>cs.setIfInBounds (off+x.2) x.1) us).toList=us.toList.take off++(v.toList++us.toList.drop (off+v.size)):=by
 obtain ⟨g1,g2⟩:=Great.foldl_set off v.toList 0 us
 have e:v.zipIdx.foldl (fun cs (x:Value×Nat)=>cs.setIfInBounds (off+x.2) x.1) us=(v.toList.zipIdx 0).foldl (fun cs (x:Value×Nat)=>cs.setIfInBounds (off+x.2) x.1) us:=by
  rw [<-Array.foldl_toList,Array.toList_zipIdx]
 rw [e]
 apply List.ext_getElem?
 intro k
 rw [Array.getElem?_toList,g2 k]
 simp only [Nat.add_zero,Array.length_toList]
 rw [List.getElem?_append,List.length_take,Array.length_toList]
 by_cases h1:k<off
 ·rw [if_neg (by omega),if_pos (by omega),List.getElem?_take,if_pos h1,Array.getElem?_toList]
 ·rw [if_neg (by omega:¬ k<min off us.size),Nat.min_eq_left (by omega),List.getElem?_append,Array.length_toList]
  by_cases h2:k - off<v.size
  ·rw [if_pos (by omega),if_pos h2]
  ·rw [if_neg (by omega),if_neg h2,List.getElem?_drop,Array.getElem?_toList]
   congr 1
   omega
theorem Afd {vis:Nat->Nat} {pl pl':Nat->Option (Nat×Nat)} (hpl:∀ i x,pl i=some x->pl' i=some x):∀ {ps:List (Nat×List C)} {qs:List (Nat×Value)} {cs cs':List C} {us:Array Value},
  Abr vis w ps qs->Av vis w cs us.toList->Rk pl cs ps=some cs'->∃ us',Instr.fill pl' us qs=some us'/\Av vis w cs' us'.toList:=by
 intro ps
 induction ps with
 |nil=>
  intro qs cs cs' us hp hr h
  cases qs with
  |nil=>
   simp only [Rk,Option.some.injEq] at h
   subst h
   exact ⟨us,rfl,hr⟩
  |cons q qs=>exact hp.elim
 |cons p ps ih=>
  intro qs cs cs' us hp hr h
  cases qs with
  |nil=>exact hp.elim
  |cons q qs=>
   obtain ⟨i,c⟩:=p
   obtain ⟨j,v⟩:=q
   obtain ⟨h1,h2,h3⟩:=hp
   dsimp only at h1 h2
   subst h1
   unfold Rk at h
   cases hq:pl i with
   |none=>simp only [hq] at h;cases h
   |some x=>
    obtain ⟨off,n⟩:=x
    simp only [hq] at h
    obtain ⟨hb,h⟩:=Fi h
    obtain ⟨hb1,hb2⟩:=and_true hb
    have hb1:=Nat.eq_of_beq_eq_true hb1
    have hb2:=Nat.le_of_ble_eq_true hb2
    have hvs:v.cells.size=n:=by rw [<-hb1,h2.1,Array.length_toList]
    have hus:cs.length=us.size:=by rw [hr.1,Array.length_toList]
    have hset:=Afc off v.cells us (by omega)
    have hrep:Av vis w (cs.take off++(c++cs.drop (off+n))) (v.cells.zipIdx.foldl (fun cs (x:Value×Nat)=>cs.setIfInBounds (off+x.2) x.1) us).toList:=by
     rw [hset]
     have hlen1:(cs.take off).length=(us.toList.take off).length:=by simp [hus]
     refine ⟨by simp [hb1,hvs,hus],fun j c' u hc hu=>?_⟩
     rw [List.getElem?_append] at hc hu
     rw [hlen1] at hc
     split at hc
     ·rename_i hj
      rw [if_pos hj] at hu
      rw [List.getElem?_take] at hc hu
      split at hc
      ·rename_i hj2
       rw [if_pos hj2] at hu
       exact hr.2 j c' u hc hu
      ·cases hc
     ·rename_i hj
      rw [if_neg hj] at hu
      rw [List.getElem?_append] at hc hu
      have hcl:c.length=v.cells.toList.length:=h2.1
      rw [hcl] at hc
      split at hc
      ·rename_i hj2
       rw [if_pos hj2] at hu
       exact h2.2 _ c' u hc hu
      ·rename_i hj2
       rw [if_neg hj2] at hu
       rw [List.getElem?_drop] at hc hu
       rw [<-hvs] at hc
       exact hr.2 _ c' u hc hu
    obtain ⟨us',hf,hr'⟩:=ih h3 hrep h
    refine ⟨us',?_,hr'⟩
    unfold Instr.fill
    simp only [hpl i _ hq]
    rw [if_neg (by simp;omega)]
    exact hf
theorem Amx:∀ {ps:List (Nat×Operand)} {xs:List T} {css:List (Nat×List C)},Lu ps xs=some css->VOKs G w X.fz Y e xs (ps.map fun p=>a.eval p.2)->
  Abr G.vis w css (ps.map fun p=>(p.1,a.eval p.2)):=by
 intro ps
 induction ps with
 |nil=>
  intro xs css h hx
  cases xs with
  |nil=>simp only [Lu,Option.some.injEq] at h;subst h;trivial
  |cons x xs=>simp [Lu] at h
 |cons p ps ih=>
  intro xs css h hx
  cases xs with
  |nil=>simp [Lu] at h
  |cons x xs=>
   unfold Lu at h
   cases hc:x.cells? with
   |none=>simp only [hc] at h;cases h
   |some cs=>
    cases hr:Lu ps xs with
    |none=>simp only [hc,hr] at h;cases h
    |some r=>
     simp only [hc,hr,Option.some.injEq] at h
     subst h
     cases hx with
     |cons h1 h2=>
      obtain ⟨g1,g2⟩:=Rz hc h1
      refine ⟨rfl,Av.dem ⟨by rw [g1,Array.length_toList],fun j c u hj hu=>(g2 j c u hj (by rwa [Array.getElem?_toList] at hu)).reld⟩,ih hr h2⟩
theorem VOKs.relTs {xs:List T} {vs:List Value} (h:VOKs G w O Y e xs vs):Dd xs=true->Ab G w O xs vs/\∀ id,id∈Bd xs->e.get 2 id≠.any:=by
 induction h with
 |nil=>intro _;exact ⟨by simp only [Ab],fun id h=>(by cases h)⟩
 |cons h1 h2 ih=>
  rename_i x v xs vs
  intro ho
  simp only [Dd,Bool.and_eq_true] at ho
  obtain ⟨g1,g2⟩:=ih ho.2
  refine ⟨by simp only [Ab];exact ⟨v,vs,rfl,h1.rel,g1⟩,fun id hid=>?_⟩
  simp only [Bd,List.mem_append] at hid
  rcases hid with hid|hid
  ·exact h1.ids' (fun b y hh=>by rw [hh] at ho;exact absurd ho.1 (by simp [T.one])) id hid
  ·exact g2 id hid
theorem VOKs.get {xs:List T} {vs:List Value} (h:VOKs G w O Y e xs vs):∀ (i:Nat) x,xs[i]?=some x->∃ v,vs[i]?=some v/\VOK G w O Y e x v:=by
 induction h with
 |nil=>intro i x h;simp at h
 |cons h1 h2 ih=>
  intro i x hi
  cases i with
  |zero=>simp only [List.getElem?_cons_zero,Option.some.injEq] at hi;subst hi;exact ⟨_,rfl,h1⟩
  |succ i=>exact ih i x (by simpa using hi)
theorem VOKs.len {xs:List T} {vs:List Value} (h:VOKs G w O Y e xs vs):xs.length=vs.length:=by
 induction h with
 |nil=>rfl
 |cons _ _ ih=>simp [ih]
theorem VOKs.set {xs:List T} {vs:List Value} (h:VOKs G w O Y e xs vs):∀ (i:Nat) {x:T} {v:Value},VOK G w O Y e x v->VOKs G w O Y e (xs.set i x) (vs.set i v):=by
 induction h with
 |nil=>intro i x v _;exact .nil
 |cons h1 h2 ih=>
  intro i x v hx
  cases i with
  |zero=>exact .cons hx h2
  |succ i=>exact .cons h1 (ih i hx)
theorem Amy {xs:List T} (h:Dd xs=true):∀ (i:Nat) {x:T},x.one=true->Dd (xs.set i x)=true:=by
 induction xs with
 |nil=>intro i x _;exact h
 |cons y xs ih=>
  intro i x hx
  simp only [Dd,Bool.and_eq_true] at h
  cases i with
  |zero=>simp only [List.set_cons_zero,Dd,hx,h.2,Bool.and_self]
  |succ i=>simp only [List.set_cons_succ,Dd,h.1,ih h.2 i hx,Bool.and_self]
theorem Amz {pl':Nat->Option (Nat×Nat)} (hpl:∀ i,pl' i=some (i,1)):∀ {ps:List (Nat×Operand)} {xs l l':List T} {us:Array Value},Nd l ps xs=some l'->VOKs G w X.fz Y e xs (ps.map fun p=>a.eval p.2)->Dd xs=true->
  VOKs G w X.fz Y e l us.toList->Dd l=true->∃ us',Instr.fill pl' us (ps.map fun p=>(p.1,a.eval p.2))=some us'/\VOKs G w X.fz Y e l' us'.toList/\Dd l'=true:=by
 intro ps
 induction ps with
 |nil=>
  intro xs l l' us h hx ho hl hlo
  cases xs with
  |nil=>simp only [Nd,Option.some.injEq] at h;subst h;exact ⟨us,rfl,hl,hlo⟩
  |cons x xs=>simp [Nd] at h
 |cons p ps ih=>
  intro xs l l' us h hx ho hl hlo
  cases xs with
  |nil=>simp [Nd] at h
  |cons x xs=>
   unfold Nd at h
   obtain ⟨hlt,h⟩:=Fi h
   have hlt:=Bg hlt
   simp only [Dd,Bool.and_eq_true] at ho
   cases hx with
   |cons h1 h2=>
    obtain ⟨c1,c2⟩:=Sa ho.1 h1
    have hset:(us.setIfInBounds p.1 (a.eval p.2)).toList=us.toList.set p.1 (a.eval p.2):=by simp
    obtain ⟨us',f1,f2⟩:=ih (us:=us.setIfInBounds p.1 (a.eval p.2)) h h2 ho.2 (by rw [hset];exact hl.set _ h1) (Amy hlo _ ho.1)
    refine ⟨us',?_,f2⟩
    have hl':=hl.len
    simp only [Array.length_toList] at hl'
    rw [List.map_cons]
    unfold Instr.fill
    simp only [hpl,c2]
    rw [if_neg (by simp;omega)]
    simpa using f1
theorem VOKs.app {xs ys:List T} {vs us:List Value} (h:VOKs G w O Y e xs vs) (g:VOKs G w O Y e ys us):VOKs G w O Y e (xs++ys) (vs++us):=by
 induction h with
 |nil=>exact g
 |cons h1 _ ih=>exact .cons h1 ih
theorem VOKs.take {xs:List T} {vs:List Value} (h:VOKs G w O Y e xs vs):∀ n,VOKs G w O Y e (xs.take n) (vs.take n):=by
 induction h with
 |nil=>intro n;rw [List.take_nil,List.take_nil];exact .nil
 |cons h1 h2 ih=>
  intro n
  cases n with
  |zero=>exact .nil
  |succ n=>exact .cons h1 (ih n)
theorem VOKs.drop {xs:List T} {vs:List Value} (h:VOKs G w O Y e xs vs):∀ n,VOKs G w O Y e (xs.drop n) (vs.drop n):=by
 induction h with
 |nil=>intro n;rw [List.drop_nil,List.drop_nil];exact .nil
 |cons h1 h2 ih=>
  intro n
  cases n with
  |zero=>exact .cons h1 h2
  |succ n=>exact ih n
theorem Afe:∀ {cs:List C} {us:List Value},Av G.vis w cs us->VOKs G w O Y e (cs.map fun c=>T.d (.c c.dem)) us
 | [],us,h=>by
  have h1:=h.1
  cases us with
  |nil=>exact .nil
  |cons u us=>simp at h1
 |c::cs,us,h=>by
  have h1:=h.1
  cases us with
  |nil=>simp at h1
  |cons u us=>
   refine .cons (VOK.dem (x:=.c c) (h.2 0 c u rfl rfl)) (Afe ⟨by simpa using h1,fun j c' u' hc hu=>h.2 (j+1) c' u' (by simpa using hc) (by simpa using hu)⟩)
theorem Aff:∀ {xs:List T} {us:List Value},xs.length=us.length->(∀ (j:Nat) x u,xs[j]?=some x->us[j]?=some u->VOK G w O Y e x.dem u)->VOKs G w O Y e (xs.map T.dem) us
 | [],us,h,_=>by
  cases us with
  |nil=>exact .nil
  |cons u us=>simp at h
 |x::xs,us,h,hh=>by
  cases us with
  |nil=>simp at h
  |cons u us=>exact .cons (hh 0 x u rfl rfl) (Aff (by simpa using h) fun j x' u' h1 h2=>hh (j+1) x' u' (by simpa using h1) (by simpa using h2))
theorem An0 {x:T} {v:Value} {ts:List T} (hx:VOK G w O Y e x v) (h:Uz x=some ts):VOKs G w O Y e ts v.cells.toList:=by
 unfold Uz at h
 split at h
 ·rename_i cs
  simp only [Option.some.injEq] at h
  subst h
  obtain ⟨vs,rfl,hr⟩:=hx.reld
  have:(Value.agg vs).cells=vs:=rfl
  rw [this]
  exact Afe hr
 ·obtain ⟨ho,h⟩:=Fi h
  simp only [Option.some.injEq] at h
  subst h
  obtain ⟨g1,g2⟩:=Abl ho hx
  exact Aff (by rw [Array.length_toList];exact g1) fun j x u h1 h2=>(g2 j x u h1 (by simpa using h2)).2
 ·obtain ⟨ho,h⟩:=Fi h
  simp only [Option.some.injEq] at h
  subst h
  obtain ⟨c1,c2⟩:=Sa ho hx
  rw [c2]
  exact .cons hx .nil
theorem An1 {pl pl':Nat->Option (Nat×Nat)} (hpl:∀ i x,pl i=some x->pl' i=some x):∀ {ps:List (Nat×Operand)} {xs l l':List T} {us:Array Value},Nf pl l ps xs=some l'->VOKs G w X.fz Y e xs (ps.map fun p=>a.eval p.2)->
  VOKs G w X.fz Y e l us.toList->∃ us',Instr.fill pl' us (ps.map fun p=>(p.1,a.eval p.2))=some us'/\VOKs G w X.fz Y e l' us'.toList:=by
 intro ps
 induction ps with
 |nil=>
  intro xs l l' us h hx hl
  cases xs with
  |nil=>simp only [Nf,Option.some.injEq] at h;subst h;exact ⟨us,rfl,hl⟩
  |cons x xs=>simp [Nf] at h
 |cons p ps ih=>
  intro xs l l' us h hx hl
  cases xs with
  |nil=>simp [Nf] at h
  |cons x xs=>
   unfold Nf at h
   cases hx with
   |cons h1 h2=>
    cases hq:pl p.1 with
    |none=>simp only [hq] at h;cases h
    |some y=>
     obtain ⟨off,n⟩:=y
     cases hc:Uz x with
     |none=>simp only [hq,hc] at h;cases h
     |some ts=>
      simp only [hq,hc] at h
      obtain ⟨hb,h⟩:=Fi h
      obtain ⟨hb1,hb2⟩:=and_true hb
      have hb1:=Nat.eq_of_beq_eq_true hb1
      have hb2:=Nat.le_of_ble_eq_true hb2
      have hts:=An0 h1 hc
      have hvs:(a.eval p.2).cells.size=n:=by rw [<-hb1,hts.len,Array.length_toList]
      have hus:l.length=us.size:=by rw [hl.len,Array.length_toList]
      have hset:=Afc off (a.eval p.2).cells us (by omega)
      obtain ⟨us',hf,hr'⟩:=ih (us:=(a.eval p.2).cells.zipIdx.foldl (fun cs (x:Value×Nat)=>cs.setIfInBounds (off+x.2) x.1) us) h h2 (by
       rw [hset,hvs]
       exact (hl.take off).app (hts.app (hl.drop (off+n))))
      refine ⟨us',?_,hr'⟩
      rw [List.map_cons]
      unfold Instr.fill
      simp only [hpl _ _ hq]
      rw [if_neg (by simp;omega)]
      exact hf
theorem An2 (hY:YOK P Y) (R:Rel Y X nt ds e a w G) {o:Oper} {t:TypeId} {ps:Array (Nat×Operand)} {xs:List T} (ho:o.op=.build t ps) (hx:VOKs G w X.fz Y e xs (ps.toList.map fun p=>a.eval p.2))
  {r r':List (Nat×Nat)} {out:Out} (h:(Aa9 Y (Y t) ps.toList xs).run e.get r=some (out,r')):OpR P Y X nt ds e a w o out:=by
 unfold Aa9 at h
 split at h
 ·rename_i css hag hcss
  obtain ⟨hz,h⟩:=Ak h
  obtain ⟨hz,hel⟩:=and_true hz
  split at h
  ·rename_i cs hf
   obtain rfl:=Bk h
   obtain ⟨d2,i2,z2,h1,h2,h3,h4,h5,h6,h7,h8⟩:=hY t (Dv hag)
   have hp:=Amx hcss hx
   have hzr:Av G.vis w ((Y t).zero.map C.v) z2.cells.toList:=by
    rw [h6]
    refine ⟨by simp,fun j c u hc hu=>?_⟩
    rw [List.getElem?_map,hu] at hc
    simp only [Option.map_some,Option.some.injEq] at hc
    subst hc
    exact .v u (List.all_eq_true.1 hz u (List.mem_of_getElem? hu))
   have hb:∃ us,P.built t (ps.map fun (i,x)=>(i,a.eval x)).toList=some us/\Av G.vis w cs us.toList:=by
    rw [Array.toList_map]
    unfold Program.built
    cases hk:(Y t).kind with
    |struct fs=>
     rw [hk] at h7
     obtain ⟨fields,rfl,h9,h10⟩:=h7
     have hm:∀ (l:List Field),(∀ f∈l,∃ i,P.info? f.type=some i/\i.size≠0)->∃ pls,l.mapM (fun f=>(P.info? f.type).map fun i=>(f.offset,i.size))=some pls/\
       ∀ (j:Nat) f,l[j]?=some f->(Y f.type).known=true->pls[j]?=some (f.offset,(Y f.type).size):=by
      intro l
      induction l with
      |nil=>intro _;exact ⟨[],rfl,fun j f h=>(by simp at h)⟩
      |cons f l ih=>
       intro hl
       obtain ⟨i,hi,_⟩:=hl f List.mem_cons_self
       obtain ⟨pls,hp1,hp2⟩:=ih fun f hf=>hl f (List.mem_cons_of_mem _ hf)
       refine ⟨(f.offset,i.size)::pls,by simp [List.mapM_cons,hi,hp1],fun j f' hj hkn=>?_⟩
       cases j with
       |zero=>
        simp only [List.getElem?_cons_zero,Option.some.injEq] at hj
        subst hj
        obtain ⟨_,i',_,_,q2,q3,_⟩:=hY f.type hkn
        rw [hi] at q2
        simp only [Option.some.injEq] at q2
        subst q2
        simp [q3]
       |succ j=>simpa using hp2 j f' (by simpa using hj) hkn
     obtain ⟨pls,hp1,hp2⟩:=hm fields.toList h10
     simp only [h2,h1,h5,hp1]
     refine Afd (pl':=fun x=>pls.toArray[x]?) (fun i x hi=>?_) hp hzr hf
     unfold Rj at hi
     simp only [hk] at hi
     rw [<-h9,List.getElem?_map] at hi
     cases hj:fields.toList[i]? with
     |none=>rw [hj] at hi;simp at hi
     |some f=>
      rw [hj] at hi
      simp only [Option.map_some] at hi
      obtain ⟨hkn,hi⟩:=Fi hi
      simp only [Option.some.injEq] at hi
      subst hi
      simpa using hp2 i f hj hkn
    |arr n el=>
     rw [hk] at h7
     simp only [KOK] at h7
     subst h7
     have hke:(Y el).known=true:=by
      unfold Ae8 at hel
      simpa only [hk] using hel
     ·obtain ⟨_,i',_,_,q2,q3,_⟩:=hY el hke
      simp only [h2,h1,h5,q2]
      refine Afd (fun i x hi=>?_) hp hzr hf
      unfold Rj at hi
      simp only [hk,hke,cond_true,Option.some.injEq] at hi
      subst hi
      simp [q3]
    |_=>simp [Ty.agg,hk] at hag
   obtain ⟨us,hb1,hb2⟩:=hb
   refine OpR.pure R (v:=.agg us) ?_ (VOK.agg hb2) (fun _ h=>(by cases h))
   have hrun:=run_build (P:=P) w t _ us hb1
   simp [execOp,ho,hrun]
  ·exact (Ac h).elim
 ·rename_i hag hnone
  split at h
  ·rename_i n el hk
   split at h
   ·rename_i hagE
    replace h:=Ak h
    obtain ⟨hz,h⟩:=h
    obtain ⟨hz,hn⟩:=and_true hz
    obtain ⟨hz,hone⟩:=and_true hz
    have hn:=Nat.eq_of_beq_eq_true hn
    split at h
    ·rename_i l hl
     obtain rfl:=Bk h
     obtain ⟨d2,i2,z2,h1,h2,h3,h4,h5,h6,h7,h8⟩:=hY t (Dv hag)
     rw [hk] at h7
     simp only [KOK] at h7
     subst h7
     obtain ⟨_,i',_,_,q2,q3,_,_,_,_,q8⟩:=hY el (Dv hagE)
     have hs1:(Y el).size=1:=q8.1 hagE
     have hzr:VOKs G w X.fz Y e ((Y t).zero.map fun v=>.d (.c (.v v))) z2.cells.toList:=by
      rw [h6]
      have:∀ l:List Value,l.all Value.oneCell'=true->VOKs G w X.fz Y e (l.map fun v=>T.d (.c (.v v))) l:=by
       intro l
       induction l with
       |nil=>intro _;exact .nil
       |cons v l ih=>intro h;simp only [List.all_cons,Bool.and_eq_true] at h;exact .cons (VOK.v v h.1) (ih h.2)
      exact this _ hz
     have hzo:Dd ((Y t).zero.map fun v=>T.d (.c (.v v)))=true:=by
      have:∀ l:List Value,Dd (l.map fun v=>T.d (.c (.v v)))=true:=by
       intro l
       induction l with
       |nil=>rfl
       |cons v l ih=>simp only [List.map_cons,Dd,T.one,Bool.true_and];exact ih
      exact this _
     obtain ⟨us,f1,f2,f3⟩:=Amz (pl':=fun i=>some (i*i'.size,i'.size)) (fun i=>by rw [q3,hs1,Nat.mul_one]) hl hx hone hzr hzo
     refine OpR.pure R (v:=.agg us) ?_ ?_ (fun _ h=>(by cases h))
     ·have hb:P.built t (ps.map fun (i,x)=>(i,a.eval x)).toList=some us:=by
       rw [Array.toList_map]
       unfold Program.built
       simp only [h2,h1,h5,q2]
       exact f1
      simp [execOp,ho,run_build (P:=P) w t _ us hb]
     ·obtain ⟨g1,g2⟩:=f2.relTs f3
      exact ⟨by simp only [Aa];exact ⟨us,rfl,g1⟩,trivial,fun id hid=>g2 id (by simpa [Ai] using hid),fun _ h=>(by cases h)⟩
    ·exact (Ac h).elim
   ·exact (Ac h).elim
  ·rename_i fs hk
   obtain ⟨hz,h⟩:=Ak h
   split at h
   ·rename_i l hl
    obtain ⟨hone,h⟩:=Ak h
    obtain rfl:=Bk h
    obtain ⟨d2,i2,z2,h1,h2,h3,h4,h5,h6,h7,h8⟩:=hY t (Dv hag)
    rw [hk] at h7
    obtain ⟨fields,rfl,h9,h10⟩:=h7
    have hm:∀ (l:List Field),(∀ f∈l,∃ i,P.info? f.type=some i/\i.size≠0)->∃ pls,l.mapM (fun f=>(P.info? f.type).map fun i=>(f.offset,i.size))=some pls/\
      ∀ (j:Nat) f,l[j]?=some f->(Y f.type).known=true->pls[j]?=some (f.offset,(Y f.type).size):=by
     intro l
     induction l with
     |nil=>intro _;exact ⟨[],rfl,fun j f h=>(by simp at h)⟩
     |cons f l ih=>
      intro hl
      obtain ⟨i,hi,_⟩:=hl f List.mem_cons_self
      obtain ⟨pls,hp1,hp2⟩:=ih fun f hf=>hl f (List.mem_cons_of_mem _ hf)
      refine ⟨(f.offset,i.size)::pls,by simp [List.mapM_cons,hi,hp1],fun j f' hj hkn=>?_⟩
      cases j with
      |zero=>
       simp only [List.getElem?_cons_zero,Option.some.injEq] at hj
       subst hj
       obtain ⟨_,i',_,_,q2,q3,_⟩:=hY f.type hkn
       rw [hi] at q2
       simp only [Option.some.injEq] at q2
       subst q2
       simp [q3]
      |succ j=>simpa using hp2 j f' (by simpa using hj) hkn
    obtain ⟨pls,hp1,hp2⟩:=hm fields.toList h10
    have hzr:VOKs G w X.fz Y e ((Y t).zero.map fun v=>.d (.c (.v v))) z2.cells.toList:=by
     rw [h6]
     have:∀ l:List Value,l.all Value.oneCell'=true->VOKs G w X.fz Y e (l.map fun v=>T.d (.c (.v v))) l:=by
      intro l
      induction l with
      |nil=>intro _;exact .nil
      |cons v l ih=>intro h;simp only [List.all_cons,Bool.and_eq_true] at h;exact .cons (VOK.v v h.1) (ih h.2)
     exact this _ hz
    obtain ⟨us,f1,f2⟩:=An1 (pl':=fun x=>pls.toArray[x]?) (fun i x hi=>by
     unfold Rj at hi
     simp only [hk] at hi
     rw [<-h9,List.getElem?_map] at hi
     cases hj:fields.toList[i]? with
     |none=>rw [hj] at hi;simp at hi
     |some f=>
      rw [hj] at hi
      simp only [Option.map_some] at hi
      obtain ⟨hkn,hi⟩:=Fi hi
      simp only [Option.some.injEq] at hi
      subst hi
      simpa using hp2 i f hj hkn) hl hx hzr
    refine OpR.pure R (v:=.agg us) ?_ ?_ (fun _ h=>(by cases h))
    ·have hb:P.built t (ps.map fun (i,x)=>(i,a.eval x)).toList=some us:=by
      rw [Array.toList_map]
      unfold Program.built
      simp only [h2,h1,h5,hp1]
      exact f1
     simp [execOp,ho,run_build (P:=P) w t _ us hb]
    ·obtain ⟨g1,g2⟩:=f2.relTs hone
     exact ⟨by simp only [Aa];exact ⟨us,rfl,g1⟩,trivial,fun id hid=>g2 id (by simpa [Ai] using hid),fun _ h=>(by cases h)⟩
   ·exact (Ac h).elim
  ·exact (Ac h).elim
 ·exact (Ac h).elim
theorem VOK.rep {n:Nat} {f:Nat->List C} {v:Value} (h:Rep G.vis w (.s .n n f) v):VOK G w O Y e (.d (.c (.s .n n f))) v:=.plain (by simp only [Aa];exact h) rfl rfl trivial
theorem An3 {x:T} {v:Value} (hx:x.one=true) (h:Aa G w O x v) (hid:∀ id,id∈Ai x->e.get 2 id≠.any):VOK G w O Y e x.dem v:=by
 unfold T.one at hx
 split at hx<;>first
  |exact VOK.dem (x:=.c _) (Abb h)
  |exact ⟨h,trivial,hid,fun _ h=>(by cases h)⟩
  |cases hx
theorem An4:∀ {xs:List T} {vs:List Value},Ab G w O xs vs->(∀ id,id∈Bd xs->e.get 2 id≠.any)->∀ (i:Nat) x,xs[i]?=some x->x.one=true->∃ v,vs[i]?=some v/\VOK G w O Y e x.dem v:=by
 intro xs
 induction xs with
 |nil=>intro vs _ _ i x h;simp at h
 |cons y xs ih=>
  intro vs h hid i x hi ho
  simp only [Ab] at h
  obtain ⟨v,us,rfl,h1,h2⟩:=h
  have hid':∀ id,id∈Ai y∨id∈Bd xs->e.get 2 id≠.any:=fun id h=>hid id (by simp only [Bd,List.mem_append];exact h)
  cases i with
  |zero=>
   simp only [List.getElem?_cons_zero,Option.some.injEq] at hi
   subst hi
   exact ⟨v,rfl,An3 ho h1 fun id h=>hid' id (.inl h)⟩
  |succ i=>exact ih h2 (fun id h=>hid' id (.inr h)) i x (by simpa using hi) ho
theorem An5 (hY:YOK P Y) (R:Rel Y X nt ds e a w G) {o:Oper} {p q:Operand} {t:TypeId} {x y:T} (ho:o.op=.index t p q) (hx:VOK G w X.fz Y e x (a.eval p)) (hy:VOK G w X.fz Y e y (a.eval q))
  {r r':List (Nat×Nat)} {out:Out} (h:(Aaa Y (Y t) x y).run e.get r=some (out,r')) (hv:∀ p∈out.vc,p):OpR P Y X nt ds e a w o out:=by
 unfold Aaa at h
 split at h
 ·rename_i s k' i hk hi
  obtain rfl:=Ed h
  obtain ⟨h0,hlt⟩:=hv _ List.mem_cons_self
  obtain ⟨d2,i2,z2,h1,h2,h3,h4,h5,h6,h7,h8⟩:=hY t (by simp [Ty.known,hk])
  rw [hk] at h7
  simp only [KOK] at h7
  subst h7
  have e1:=Bs hx
  have e2:=Ec hi hy
  have hit:i.toNat<s.size:=by omega
  have hb:s[i.toNat]?=some s[i.toNat]:=by simp [hit]
  refine OpR.pure R (v:=.int .u8 (Va s i.toNat)) ?_ (VOK.v _ rfl) (fun _ h=>(by cases h))
  have hd:Va s i.toNat=(s[i.toNat].toNat:Int):=by
   unfold Va
   have:s.data.toList.getD i.toNat 0=s[i.toNat]:=by
    rw [List.getD_eq_getElem?_getD,List.getElem?_eq_getElem (by simpa using hit)]
    rfl
   rw [this]
  rw [hd]
  simp [execOp,ho,e1,e2,Instr.index,asIntOf,run_underlying h1,h0,hb]
 ·rename_i n el cs k' i hk hi
  split at h
  ·rename_i hag
   obtain ⟨hb,h⟩:=Ak h
   have hb:=Nat.eq_of_beq_eq_true hb
   obtain rfl:=Ed h
   obtain ⟨h0,hlt⟩:=hv _ List.mem_cons_self
   obtain ⟨d2,i2,z2,h1,h2,h3,h4,h5,h6,h7,h8⟩:=hY t (by simp [Ty.known,hk])
   rw [hk] at h7
   simp only [KOK] at h7
   subst h7
   obtain ⟨_,i3,_,q1,q2,q3,_,_,_,_,q8⟩:=hY el (Dv hag)
   have hs1:(Y el).size=1:=q8.1 hag
   obtain ⟨vs,hvs,hr⟩:=hx.rel
   have e2:=Ec hi hy
   have hit:i.toNat<cs.length:=by omega
   have hlt2:i.toNat<vs.toList.length:=by rw [<-hr.1];exact hit
   have hvn:vs.toList[i.toNat]?=some vs.toList[i.toNat]:=List.getElem?_eq_getElem hlt2
   have hvn':vs[i.toNat]?=some vs.toList[i.toNat]:=by rw [<-Array.getElem?_toList];exact hvn
   have hc:cs[i.toNat]?=some (cs.getD i.toNat default):=by rw [List.getD_eq_getElem?_getD,List.getElem?_eq_getElem hit];rfl
   refine OpR.pure R (v:=vs.toList[i.toNat]) ?_ (VOK.dem (x:=.c _) (hr.2 _ _ _ hc hvn)) (fun _ h=>(by cases h))
   simp [execOp,ho,hvs,e2,Instr.index,asIntOf,run_underlying h1,h0,hlt,part,Np hY hag,Db hY (Dv hag),hs1,hvn']
  ·rename_i hag
   obtain ⟨hb,h⟩:=Ak h
   have hb:=Nat.eq_of_beq_eq_true hb
   obtain rfl:=Ed h
   obtain ⟨h0,hlt⟩:=hv _ List.mem_cons_self
   obtain ⟨d2,i2,z2,h1,h2,h3,h4,h5,h6,h7,h8⟩:=hY t (by simp [Ty.known,hk])
   rw [hk] at h7
   simp only [KOK] at h7
   subst h7
   obtain ⟨vs,hvs,hl,hr⟩:=hx.reld
   have e2:=Ec hi hy
   have hle:(i.toNat+1)*(Y el).size<=n*(Y el).size:=Nat.mul_le_mul_right _ (by omega)
   rw [Nat.add_mul,Nat.one_mul] at hle
   refine OpR.pure R (v:=.agg (vs.extract (i.toNat*(Y el).size) (i.toNat*(Y el).size+(Y el).size))) ?_ (VOK.agg (Av.dem ⟨?_,fun j c v hc hv=>?_⟩)) (fun _ h=>(by cases h))
   ·simp [execOp,ho,hvs,e2,Instr.index,asIntOf,run_underlying h1,h0,hlt,part,Np hY hag,Db hY (Dv hag)]
   ·simp only [List.length_take,List.length_drop,Array.toList_extract,List.extract_eq_take_drop]
    omega
   ·rw [List.getElem?_take,List.getElem?_drop] at hc
    split at hc
    ·refine hr _ c v hc ?_
     simp only [Array.toList_extract,List.extract_eq_take_drop] at hv
     rw [List.getElem?_take,List.getElem?_drop] at hv
     split at hv
     ·exact hv
     ·cases hv
    ·cases hc
  ·exact (Ac h).elim
 ·rename_i n el xs k' i hk hi
  split at h
  ·rename_i hag
   replace h:=Ak h
   obtain ⟨hb,h⟩:=h
   have hb:=Nat.eq_of_beq_eq_true hb
   split at h
   ·rename_i x hxi
    replace h:=Ak h
    obtain ⟨hone,h⟩:=h
    obtain rfl:=Ed h
    obtain ⟨h0,hlt⟩:=hv _ List.mem_cons_self
    obtain ⟨d2,i2,z2,h1,h2,h3,h4,h5,h6,h7,h8⟩:=hY t (by simp [Ty.known,hk])
    rw [hk] at h7
    simp only [KOK] at h7
    subst h7
    obtain ⟨_,i3,_,q1,q2,q3,_,_,_,_,q8⟩:=hY el (Dv hag)
    have hs1:(Y el).size=1:=q8.1 hag
    have hr:=hx.rel
    simp only [Aa] at hr
    obtain ⟨vs,hvs,hr⟩:=hr
    have e2:=Ec hi hy
    have hids:∀ id,id∈Bd xs->e.get 2 id≠.any:=fun id hid=>hx.ids id (by simpa [Ai] using hid)
    obtain ⟨v,hvn,hxv⟩:=An4 hr hids _ x hxi hone
    have hvn':vs[i.toNat]?=some v:=by rw [<-Array.getElem?_toList];exact hvn
    refine OpR.pure R (v:=v) ?_ hxv (fun _ h=>(by cases h))
    simp [execOp,ho,hvs,e2,Instr.index,asIntOf,run_underlying h1,h0,hlt,part,Np hY hag,Db hY (Dv hag),hs1,hvn']
   ·exact (Ac h).elim
  ·exact (Ac h).elim
 ·exact (Ac h).elim
theorem An6 {x y:T} {v:Value} (hc:Vb x=some y) (h:VOK G w O Y e x v):Aa G w O y v/\∀ id,id∈Ai y->e.get 2 id≠.any:=by
 unfold Vb at hc
 split at hc<;>first
  |(simp only [Option.some.injEq] at hc
    subst hc
    first
     |exact ⟨by simp only [Aa];exact Aw.dem h.reld,fun id hid=>(by cases hid)⟩
     |exact ⟨h.rel,h.ids⟩)
  |cases hc
theorem Afg:∀ {xs caps:List T} {vs:List Value},Ko xs=some caps->VOKs G w O Y e xs vs->Ab G w O caps vs/\∀ id,id∈Bd caps->e.get 2 id≠.any:=by
 intro xs
 induction xs with
 |nil=>
  intro caps vs h hx
  simp only [Ko,Option.some.injEq] at h
  subst h
  cases hx
  exact ⟨by simp only [Ab],fun id h=>(by cases h)⟩
 |cons x xs ih=>
  intro caps vs h hx
  cases hx with
  |cons h1 h2=>
   rename_i v vs
   unfold Ko at h
   cases hc:Vb x with
   |none=>simp only [hc] at h;cases h
   |some y=>
    cases hr:Ko xs with
    |none=>simp only [hc,hr] at h;cases h
    |some l=>
     simp only [hc,hr,Option.some.injEq] at h
     subst h
     obtain ⟨g1,g2⟩:=ih hr h2
     obtain ⟨g3,g4⟩:=An6 hc h1
     refine ⟨by simp only [Ab];exact ⟨v,vs,rfl,g3,g1⟩,fun id hid=>?_⟩
     simp only [Bd,List.mem_append] at hid
     exact hid.elim (g4 id) (g2 id)
theorem An7 (R:Rel Y X nt ds e a w G) {o:Oper} {f:FuncId} {fst cap:Array Operand} {xs:List T} {as bs:List T} (ho:o.op=.makeFunc (.func f) fst cap) (ha:Ko (xs.take fst.toList.length)=some as) (hb:Ko (xs.drop fst.toList.length)=some bs)
  (hx:VOKs G w X.fz Y e xs ((fst++cap).toList.map a.eval))
  {r r':List (Nat×Nat)} {out:Out} (h:(Az (.fn f as bs)).run e.get r=some (out,r')):OpR P Y X nt ds e a w o out:=by
 obtain rfl:=Bk h
 have e1:((fst++cap).toList.map a.eval).take fst.toList.length=(fst.map a.eval).toList:=by simp
 have e2:((fst++cap).toList.map a.eval).drop fst.toList.length=(cap.map a.eval).toList:=by simp
 have h1:=hx.take fst.toList.length
 have h2:=hx.drop fst.toList.length
 rw [e1] at h1
 rw [e2] at h2
 obtain ⟨g1,g2⟩:=Afg ha h1
 obtain ⟨g3,g4⟩:=Afg hb h2
 refine OpR.pure R (v:=.func (.func f) (fst.map a.eval) (cap.map a.eval)) ?_ ⟨by simp only [Aa];exact ⟨_,_,rfl,g1,g3⟩,trivial,fun id hid=>?_,fun _ h=>(by cases h)⟩ (fun _ h=>(by cases h))
 ·simp [execOp,ho,Instr.makeFunc]
 ·simp only [Ai,List.mem_append] at hid
  exact hid.elim (g2 id) (g4 id)
def Ia (G:Gh) (w:World) (O:Nat->Prop) (Y:TypeId->Ty) (e:Env) (a:Act):Option T->Option Operand->Prop
 |none,none=>True
 |some x,some q=>VOK G w O Y e x (a.eval q)
 |_,_=>False
theorem bound_ok {d:Int} {x:Option T} {i:Int} {q:Option Operand} (h:Hg d x=some i) (hx:Ia G w O Y e a x q):
  (x=none/\q=none/\i=d)∨∃ q' k,q=some q'/\a.eval q'=.int k i:=by
 cases x with
 |none=>
  cases q with
  |none=>simp only [Hg,Option.some.injEq] at h;exact .inl ⟨rfl,rfl,h.symm⟩
  |some q=>exact hx.elim
 |some x=>
  cases q with
  |none=>exact hx.elim
  |some q=>
   simp only [Hg] at h
   cases hi:x.int? with
   |none=>rw [hi] at h;cases h
   |some ki=>
    obtain ⟨k,n⟩:=ki
    rw [hi] at h
    simp only [Option.map_some,Option.some.injEq] at h
    subst h
    exact .inr ⟨q,k,rfl,Ec hi hx⟩
theorem Pp (isS:Bool) {len cap:Nat} (hlc:len<=cap) {lo hi:Option T} {l h:Int} {ql qh:Option Operand} (hl:Hg 0 lo=some l) (hh:Hg (len:Int) hi=some h)
  (hxl:Ia G w O Y e a lo ql) (hxh:Ia G w O Y e a hi qh)
  (h0:0<=l) (h1:l<=h) (h2:h<=len):(Instr.sliceBounds isS len cap (ql.map a.eval) (qh.map a.eval) none).run P w=.ok (l.toNat,h.toNat,cap) w:=by
 have hh0:0<=h:=by omega
 have hhc:h<=(cap:Int):=by omega
 have hlh:l<=(h.toNat:Int):=by omega
 rcases bound_ok hh hxh with ⟨_,rfl,rfl⟩|⟨q',k,rfl,hq'⟩
 ·rcases bound_ok hl hxl with ⟨_,rfl,rfl⟩|⟨q'',k',rfl,hq''⟩
  ·simp [Instr.sliceBounds]
  ·have hlh':l<=(len:Int):=h1
   simp [Instr.sliceBounds,Instr.sliceBound,asIntOf,hq'',h0,hlh']
 ·rcases bound_ok hl hxl with ⟨_,rfl,rfl⟩|⟨q'',k',rfl,hq''⟩
  ·simp [Instr.sliceBounds,Instr.sliceBound,asIntOf,hq',hh0,hhc]
  ·have hmx:¬ (max h 0<l):=by omega
   simp [Instr.sliceBounds,Instr.sliceBound,asIntOf,hq',hq'',hh0,hhc,h0,hmx]
theorem Afh (hY:YOK P Y) (R:Rel Y X nt ds e a w G) {o:Oper} {p:Operand} {ql qh:Option Operand} {t:TypeId} {x:T} {lo hi:Option T} (ho:o.op=.slice t p ql qh none) (hx:VOK G w X.fz Y e x (a.eval p))
  (hxl:Ia G w X.fz Y e a lo ql) (hxh:Ia G w X.fz Y e a hi qh)
  {r r':List (Nat×Nat)} {out:Out} (h:(Ot Y (Y t) x lo hi).run e.get r=some (out,r')) (hv:∀ p∈out.vc,p):OpR P Y X nt ds e a w o out:=by
 unfold Ot at h
 split at h
 ·rename_i _ s hk
  split at h
  ·rename_i l hh hl hhe
   obtain rfl:=Ed h
   obtain ⟨h0,hle1,hle2⟩:=hv _ List.mem_cons_self
   obtain ⟨d2,i2,z2,h1,h2,h3,h4,h5,h6,h7,h8⟩:=hY t (by simp [Ty.known,hk])
   rw [hk] at h7
   simp only [KOK] at h7
   subst h7
   have e1:=Bs hx
   refine OpR.pure R (v:=.string (s.extract l.toNat hh.toNat)) ?_ (VOK.v _ rfl) (fun _ h=>(by cases h))
   have hbr:=Pp (P:=P) (w:=w) (G:=G) (Y:=Y) (e:=e) (a:=a) false (Nat.le_refl s.size) hl hhe hxl hxh h0 hle1 hle2
   simp [execOp,ho,e1,Instr.sliceAt,Instr.slice,run_underlying h1,hbr]
  ·exact (Ac h).elim
 ·rename_i el n f hk hn
  split at h
  ·rename_i l hh hl hhe
   obtain ⟨hb,h⟩:=Ak h
   obtain ⟨hel,hsz⟩:=and_true hb
   have hsz:=Nat.eq_of_beq_eq_true hsz
   obtain rfl:=Ed h
   obtain ⟨h0,hle1,hle2⟩:=hv _ List.mem_cons_self
   obtain ⟨d2,i2,z2,h1,h2,h3,h4,h5,h6,h7,h8⟩:=hY t (by simp [Ty.known,hk])
   rw [hk] at h7
   simp only [KOK] at h7
   subst h7
   have hrep:=Pm hn hx
   generalize hpv:a.eval p=pv at hrep
   cases hrep with
   |nil=>
    have hl0:l=0:=by simp at hle2;omega
    have hh0:hh=0:=by simp at hle2;omega
    subst hl0;subst hh0
    have hbr:=Pp (P:=P) (w:=w) (G:=G) (Y:=Y) (e:=e) (a:=a) true (Nat.le_refl 0) hl hhe hxl hxh h0 hle1 hle2
    refine OpR.pure R (v:=.slice none 0 0) ?_ (.plain (by simp only [Aa];exact Rep.nil _ _) rfl rfl trivial) (fun _ h=>(by cases h))
    simp [execOp,ho,hpv,Instr.sliceAt,Instr.slice,run_underlying h1,hbr,Db hY hel]
   |e g f ba=>
    have hl0:l=0:=by simp at hle2;omega
    have hh0:hh=0:=by simp at hle2;omega
    subst hl0;subst hh0
    have hbr:=Pp (P:=P) (w:=w) (G:=G) (Y:=Y) (e:=e) (a:=a) true (Nat.le_refl 0) hl hhe hxl hxh h0 hle1 hle2
    refine OpR.pure R (v:=.slice (some ba) 0 0) ?_ (.plain (by simp only [Aa];exact Rep.e _ _ _) rfl rfl trivial) (fun _ h=>(by cases h))
    simp [execOp,ho,hpv,Instr.sliceAt,Instr.slice,run_underlying h1,hbr,Db hY hel]
   |s g n f b off cap sz u hn' hc hz hvv hu hr=>
    have hbr:=Pp (P:=P) (w:=w) (G:=G) (Y:=Y) (e:=e) (a:=a) true hn' hl hhe hxl hxh h0 hle1 hle2
    refine OpR.pure R (v:=.slice (some ⟨b,if cap=l.toNat then off else off+l.toNat*(Y el).size,none⟩) (hh.toNat - l.toNat) (cap - l.toNat)) ?_ (VOK.rep ?_) (fun _ h=>(by cases h))
    ·have hrun:(Instr.slice t (.slice (some ⟨b,off,none⟩) n cap) (ql.map a.eval) (qh.map a.eval) none).run P w=.ok (.slice (if cap=l.toNat then some ⟨b,off,none⟩ else some ⟨b,off+l.toNat*(Y el).size,none⟩) (hh.toNat - l.toNat) (cap - l.toNat)) w:=by
      simp [Instr.slice,run_underlying h1,hbr,Db hY hel,Gr]
     by_cases hcl:cap=l.toNat
     ·rw [if_pos hcl] at hrun ⊢
      simp [execOp,ho,hpv,Instr.sliceAt,run_underlying h1,hrun]
     ·rw [if_neg hcl] at hrun ⊢
      simp [execOp,ho,hpv,Instr.sliceAt,run_underlying h1,hrun]
    ·have hnat:(hh - l).toNat=hh.toNat - l.toNat:=by omega
     rw [hnat]
     by_cases hcl:cap=l.toNat
     ·rw [if_pos hcl]
      have:hh.toNat - l.toNat=0:=by omega
      rw [this]
      exact .s _ 0 _ b off _ sz (fun _ _=>undef) (Nat.zero_le _) (by omega) (fun i hi=>by omega) (by omega) (fun i j c hi=>by omega) (fun i j c hi=>by omega)
     ·rw [if_neg hcl]
      by_cases hz0:hh.toNat - l.toNat=0
      ·rw [hz0]
       have hle:l.toNat*sz<=n*sz:=Nat.mul_le_mul_right _ (by omega)
       by_cases hn0:n=0
       ·have:l.toNat=0:=by omega
        rw [this]
        exact .s _ 0 _ b _ _ sz (fun _ _=>undef) (Nat.zero_le _) (by omega) (fun i hi=>by omega) (by omega) (fun i j c hi=>by omega) (fun i j c hi=>by omega)
       ·have hs:(Y el).size=sz:=by rw [<-hsz];exact hz 0 (by omega)
        rw [hs]
        exact .s _ 0 _ b _ _ sz (fun _ _=>undef) (Nat.zero_le _) (by omega) (fun i hi=>by omega) (by omega) (fun i j c hi=>by omega) (fun i j c hi=>by omega)
      ·have hs:(Y el).size=sz:=by rw [<-hsz];exact hz 0 (by omega)
       rw [hs]
       have hle:(l.toNat+(hh.toNat - l.toNat))*sz<=n*sz:=Nat.mul_le_mul_right _ (by omega)
       rw [Nat.add_mul] at hle
       refine .s _ _ _ b _ _ sz (fun i j=>u (l.toNat+i) j) (by omega) (by omega) (fun i hi=>hz _ (by omega)) (by omega) (fun i j c hi hj=>?_) (fun i j c hi hj=>hr _ j c (by omega) hj)
       have:=hu (l.toNat+i) j c (by omega) hj
       rw [Nat.add_mul] at this
       rw [<-this]
       congr 2
       omega
  ·exact (Ac h).elim
 ·exact (Ac h).elim
theorem Ws (R:Rel Y X nt ds e a w G) {id:Nat}:∀ (n:Nat) {k:Nat} {r r':List (Nat×Nat)} {xs:List T},(Ls id n k).run e.get r=some (xs,r')->
  ∃ us:List Value,us.length=n/\Dd xs=true/\(∀ (j:Nat) u,us[j]?=some u->w.cell? ⟨G.bk id,k+j,none⟩=some u)/\VOKs G w X.fz Y e xs us:=by
 intro n
 induction n with
 |zero=>
  intro k r r' xs h
  simp only [Ls,M.run,Option.some.injEq,Prod.mk.injEq] at h
  obtain ⟨rfl,_⟩:=h
  exact ⟨[],rfl,rfl,fun j u hj=>(by simp at hj),.nil⟩
 |succ n ih=>
  intro k r r' xs h
  simp only [Ls,M.run] at h
  obtain ⟨hone,h⟩:=Ak h
  obtain ⟨xs',r1,h1,h2⟩:=Ag h
  simp only [M.run,Option.some.injEq,Prod.mk.injEq] at h2
  obtain ⟨rfl,_⟩:=h2
  obtain ⟨us,g1,g2,g3,g4⟩:=ih h1
  obtain ⟨_,_,u,hu,hv⟩:=R.mem.cells id k (fun hh=>by rw [hh] at hone;cases hone)
  refine ⟨u::us,by simp [g1],by simp only [Dd,hone,g2,Bool.and_self],fun j u' hj=>?_,.cons hv g4⟩
  cases j with
  |zero=>simp only [List.getElem?_cons_zero,Option.some.injEq] at hj;subst hj;exact hu
  |succ j=>
   rw [show k+(j+1)=k+1+j by omega]
   exact g3 j u' (by simpa using hj)
theorem An8 (hY:YOK P Y) (R:Rel Y X nt ds e a w G) {o:Oper} {p:Operand} {t:TypeId} {x:T} (ho:o.op=.load t p) (hx:VOK G w X.fz Y e x (a.eval p))
  {r r':List (Nat×Nat)} {out:Out} (h:(Zp (Y t) x).run e.get r=some (out,r')) (hv:∀ p∈out.vc,p):OpR P Y X nt ds e a w o out:=by
 unfold Zp at h
 split at h
 ·rename_i id k hag
  cases hf:allF (Y t) with
  |false=>rw [hf] at h;exact Aey hY R ho hx h hv
  |true=>
   rw [hf] at h
   obtain ⟨xs,r1,h1,h2⟩:=Ag h
   obtain rfl:=Bk h2
   obtain ⟨us,g1,g2,g3,g4⟩:=Ws R _ h1
   have hp:=hx.rel
   simp only [Aa] at hp
   obtain ⟨k1,k2⟩:=g4.relTs g2
   refine OpR.pure R (v:=.agg us.toArray) ?_ ⟨by simp only [Aa];exact ⟨_,rfl,by simpa using k1⟩,trivial,fun id' hid=>k2 id' (by simpa only [Ai] using hid),fun _ h=>(by cases h)⟩ (fun _ h=>(by cases h))
   simp [execOp,ho,hp,Instr.loadAt,Instr.sureAddr,Jq hY hag g1 g3]
 ·exact Aey hY R ho hx h hv
theorem An9 (Y:TypeId->Ty) (y:Ty) (x:T) (lo hi:Option T):∃ o:Option Out,(∀ out,o=some out->out.hyp=[]/\out.wr=[])/\∀ g r,(Ot Y y x lo hi).run g r=o.map (·,r):=by
 unfold Ot
 split
 ·split
  ·exact ⟨some _,fun out h=>by obtain rfl:=Option.some.inj h;exact ⟨rfl,rfl⟩,fun _ _=>rfl⟩
  ·exact ⟨none,fun _ h=>(by cases h),fun _ _=>rfl⟩
 ·split
  ·rename_i e n f _ _ _ _ _ _ _ _
   cases hb:((Y e).known&&(f 0).length.beq (Y e).size) with
   |true=>exact ⟨some _,fun out h=>by obtain rfl:=Option.some.inj h;exact ⟨rfl,rfl⟩,fun _ _=>rfl⟩
   |false=>exact ⟨none,fun _ h=>(by cases h),fun _ _=>rfl⟩
  ·exact ⟨none,fun _ h=>(by cases h),fun _ _=>rfl⟩
 ·exact ⟨none,fun _ h=>(by cases h),fun _ _=>rfl⟩
theorem Ia.lift {G':Gh} {e':Env} (l:∀ x v,VOK G w O Y e x v->VOK G' w O Y e' x v):∀ {x:Option T} {q:Option Operand},Ia G w O Y e a x q->Ia G' w O Y e' a x q
 |none,none,_=>trivial
 |some _,some _,h=>l _ _ h
 |none,some _,h=>h.elim
 |some _,none,h=>h.elim
theorem Wt (hY:YOK P Y) (R:Rel Y X nt ds e a w G) {o:Oper} {p:Operand} {ql qh:Option Operand} {t:TypeId} {x:T} {lo hi:Option T} (ho:o.op=.slice t p ql qh none) (hx:VOK G w X.fz Y e x (a.eval p))
  (hxl:Ia G w X.fz Y e a lo ql) (hxh:Ia G w X.fz Y e a hi qh)
  {r r':List (Nat×Nat)} {out:Out} (h:(Aab Y (Y t) x lo hi).run e.get r=some (out,r')) (hv:∀ p∈out.vc,p):OpR P Y X nt ds e a w o out:=by
 unfold Aab at h
 split at h
 ·rename_i id n
  obtain ⟨⟨c,ps,W⟩,r1,h1,h2⟩:=Ag h
  obtain ⟨out1,r2,h3,h4⟩:=Ag h2
  simp only [M.run,Option.some.injEq,Prod.mk.injEq] at h4
  obtain ⟨rfl,_⟩:=h4
  obtain ⟨hW,hc⟩:=Hm (Y:=Y) (X:=X) (nt:=nt) (ds:=ds) (a:=a) (w:=w) (O:=X.fz) h1
  obtain ⟨G',R',lift,_⟩:=Js R hW
  have hrep:=hc hW (fun _ h=>h) (fun q hq=>hv q (List.mem_append_left _ hq)) R' (lift _ _ hx)
  obtain ⟨o1,ho1,ho2⟩:=An9 Y (Y t) (.d (.c c)) lo hi
  have h3':=h3
  rw [ho2] at h3
  obtain ⟨out2,he,he2⟩:=Option.map_eq_some_iff.1 h3
  simp only [Prod.mk.injEq] at he2
  obtain ⟨rfl,_⟩:=he2
  obtain ⟨hh,hw⟩:=ho1 _ he
  have hvk:VOK G' w X.fz Y (W++e) (.d (.c c)) (a.eval p):=by
   have hcs:∃ m f,c=.s .n m f:=by
    simp only [Ez,M.run] at h1
    split at h1
    ·simp only [M.run,Option.some.injEq,Prod.mk.injEq] at h1;exact ⟨_,_,h1.1.1.symm⟩
    ·obtain ⟨_,h1⟩:=Ak h1
     simp only [M.run,Option.some.injEq,Prod.mk.injEq] at h1;exact ⟨_,_,h1.1.1.symm⟩
    ·obtain ⟨_,h1⟩:=Ak h1
     simp only [M.run,Option.some.injEq,Prod.mk.injEq] at h1;exact ⟨_,_,h1.1.1.symm⟩
    ·exact (Ac h1).elim
   obtain ⟨m,f,rfl⟩:=hcs
   exact VOK.dem (x:=.c (.s .n m f)) hrep
  obtain ⟨nx,v,w',G2,q1,q2,q3,q4,q5⟩:=Afh hY R' ho hvk (hxl.lift lift) (hxh.lift lift) (r:=r1) (r':=r1) (out:=out2) (by rw [ho2,he];rfl) (fun q hq=>hv q (List.mem_append_right _ hq))
  rw [hw,List.nil_append] at q4 q5
  exact ⟨nx,v,w',G2,q1,q2,q3,q4,q5⟩
 ·exact Afh hY R ho hx hxl hxh h hv
theorem Ana (Y:TypeId->Ty) (y z:Ty) (x:T):∃ o:Option Out,(∀ out,o=some out->out.hyp=[]/\out.wr=[])/\∀ {g:Nat->Nat->T} (r:List (Nat×Nat)),(Oq Y y z x).run g r=o.map fun a=>(a,r):=by
 unfold Oq
 split
 ·rename_i e n f _ _ _
  cases hb:Rh (Y e).kind with
  |true=>exact ⟨some _,fun out h=>by obtain rfl:=Option.some.inj h;exact ⟨rfl,rfl⟩,fun _=>rfl⟩
  |false=>exact ⟨none,fun _ h=>(by cases h),fun _=>rfl⟩
 ·unfold Uy
  split
  ·cases hb:y.known with
   |true=>exact ⟨some _,fun out h=>by obtain rfl:=Option.some.inj h;exact ⟨rfl,rfl⟩,fun _=>rfl⟩
   |false=>exact ⟨none,fun _ h=>(by cases h),fun _=>rfl⟩
  ·exact ⟨none,fun _ h=>(by cases h),fun _=>rfl⟩
theorem Anb (hY:YOK P Y) (R:Rel Y X nt ds e a w G) {o:Oper} {p:Operand} {s t:TypeId} {x:T} (ho:o.op=.convert s t p) (hx:VOK G w X.fz Y e x (a.eval p))
  {r r':List (Nat×Nat)} {out:Out} (h:(Aa8 Y (Y s) (Y t) x).run e.get r=some (out,r')) (hv:∀ p∈out.vc,p):OpR P Y X nt ds e a w o out:=by
 unfold Aa8 at h
 split at h
 ·rename_i id n
  obtain ⟨⟨c,ps,W⟩,r1,h1,h2⟩:=Ag h
  obtain ⟨out1,r2,h3,h4⟩:=Ag h2
  simp only [M.run,Option.some.injEq,Prod.mk.injEq] at h4
  obtain ⟨rfl,_⟩:=h4
  obtain ⟨hW,hc⟩:=Hm (Y:=Y) (X:=X) (nt:=nt) (ds:=ds) (a:=a) (w:=w) (O:=X.fz) h1
  obtain ⟨G',R',lift,_⟩:=Js R hW
  have hrep:=hc hW (fun _ h=>h) (fun q hq=>hv q (List.mem_append_left _ hq)) R' (lift _ _ hx)
  obtain ⟨o1,ho1,ho2⟩:=Ana Y (Y s) (Y t) (.d (.c c))
  have h3':=h3
  rw [ho2] at h3
  obtain ⟨out2,he,he2⟩:=Option.map_eq_some_iff.1 h3
  simp only [Prod.mk.injEq] at he2
  obtain ⟨rfl,_⟩:=he2
  obtain ⟨hh,hw⟩:=ho1 _ he
  have hvk:VOK G' w X.fz Y (W++e) (.d (.c c)) (a.eval p):=by
   have hcs:∃ m f,c=.s .n m f:=by
    simp only [Ez,M.run] at h1
    split at h1
    ·simp only [M.run,Option.some.injEq,Prod.mk.injEq] at h1;exact ⟨_,_,h1.1.1.symm⟩
    ·obtain ⟨_,h1⟩:=Ak h1
     simp only [M.run,Option.some.injEq,Prod.mk.injEq] at h1;exact ⟨_,_,h1.1.1.symm⟩
    ·obtain ⟨_,h1⟩:=Ak h1
     simp only [M.run,Option.some.injEq,Prod.mk.injEq] at h1;exact ⟨_,_,h1.1.1.symm⟩
    ·exact (Ac h1).elim
   obtain ⟨m,f,rfl⟩:=hcs
   exact VOK.dem (x:=.c (.s .n m f)) hrep
  obtain ⟨nx,v,w',G2,q1,q2,q3,q4,q5⟩:=Afa hY R' ho hvk (r:=r1) (r':=r1) (out:=out2) (by rw [ho2,he];rfl) (fun q hq=>hv q (List.mem_append_right _ hq))
  rw [hw,List.nil_append] at q4 q5
  exact ⟨nx,v,w',G2,q1,q2,q3,q4,q5⟩
 ·exact Afa hY R ho hx h hv
end
section
variable {P:Program} {Y:TypeId->Ty} {X:Cx} {nt:Nat} {ds:List Deferred} {e:Env} {a:Act} {w:World} {G:Gh} {O:Nat->Prop}
theorem VOK.ids_used {id:Nat} {x:T} {v:Value} (h:Aa G w O x v) (hm:Iw G w Y e x v) (ht:Ej x=[]) (hids:Ai x=[id]) (hu:e.get 2 id≠.any):VOK G w O Y e x v:=
 ⟨h,hm,Hz (by rw [hids];intro i hi;simp only [List.mem_singleton] at hi;rw [hi];exact hu),by
  have:=VOK.plain (G:=G) (w:=w) (O:=O) (Y:=Y) (e:=e) (x:=.any) (v:=v) (by simp only [Aa]) rfl rfl trivial
  cases x with
  |may b x=>
   have:∀ {x:T},Ej x=[]->Eb (fun x=>∀ k,k∈Ej x->e.get 1 k≠.any) x:=by
    intro x
    induction x using Ej.induct with
    |case1 b=>intro h;cases h
    |case2 b x ih=>exact fun h _=>ih h
    |case3 x h1 h2=>
     intro h
     cases x with
     |may b x=>exact (h2 b x rfl).elim
     |_=>intro k hk;rw [h] at hk;cases hk
   exact this ht
  |_=>intro k hk;rw [ht] at hk;cases hk⟩
theorem Anc (R:Rel Y X nt ds e a w G) {d el n:Nat} {f:Nat->List C} {v:Value} (hdf:e.get 1 d=.any) (hrep:Rep G.vis w (.s .n n f) v) (hlen:∀ i,i<n->(f i).length=(Y el).size) (hfull:v=.slice none 0 0∨((n=0∨FAR<=d)/\∃ b,v=.slice b n n)):
  ∃ G',Rel Y X nt ds ((1,d,Ay el)::Fy none++e) a w G'/\VOK G' w X.fz Y ((1,d,Ay el)::Fy none++e) (.d (.c (.s (.t d) n f))) v:=by
 obtain ⟨f1,f2⟩:=Nr R (w':=w) (vis':=G.vis) (tb:=none) (el:=el) (kd:=none) none hdf (.refl _) (fun _ _ _=>rfl) (fun b hb=>(by cases hb)) (fun _=>Nat.le_refl _) (.refl _ _)
  (fun _ _=>rfl) (fun b hb=>(by cases hb)) (fun _ _ _ _=>⟨rfl,rfl⟩) R.fresh (fun _ _=>rfl) (fun _ _=>rfl)
 refine ⟨_,f1,Ns (kd:=none) (d:=d) (el:=el) (e:=e) ?_ ⟨hlen,hfull.imp id fun h=>.inl h⟩⟩
 cases hrep with
 |nil=>exact .nil _ _
 |e=>exact .e _ _ _
 |s _ n f b off cap sz u a1 a2 a3 a4 a5 a6=>exact .s _ n f b off cap sz u a1 a2 a3 a4 a5 a6
theorem Afi (hY:YOK P Y) (R:Rel Y X nt ds e a w G) {o:Oper} {t el:TypeId} {len:Nat} {ps:Array (Nat×Operand)} {css:List (List C)} (ho:o.op=.buildSlice t len ps) (hk:(Y t).kind=.slice el)
  {r1 r2:List (Nat×Nat)} (hp:(Jl ev1 0 ps.toList).run e.get r1=some (css,r2)) (hb:(Y el).known&&css.length.beq len&&Rg (Y el).size css&&Nat.blt 0 (Y el).size&&Nat.blt 0 len&&Nat.ble (len*(Y el).size) 1000):
  ∃ row:List Value,(execOp a.eval o).run P w=.ok (.value (.slice (some ⟨w.heap.size,0,none⟩) len len)) (w.alloc (.cells row.toArray el))/\Ew G.vis w len (fun i=>css.getD i []) (Y el).size row/\row.length=len*(Y el).size/\1<=len/\1<=(Y el).size/\len*(Y el).size<=1000:=by
 obtain ⟨hb,hsm⟩:=and_true hb
 obtain ⟨hb,hlen⟩:=and_true hb
 obtain ⟨hb,hsz⟩:=and_true hb
 obtain ⟨hb,hall⟩:=and_true hb
 obtain ⟨hkn,hcl⟩:=and_true hb
 have hcl:=Nat.eq_of_beq_eq_true hcl
 have hsm:=Nat.le_of_ble_eq_true hsm
 have hlen:1<=len:=by simpa [Nat.blt] using hlen
 have hsz:1<=(Y el).size:=by simpa [Nat.blt] using hsz
 obtain ⟨hl,hzip,hpr⟩:=Af4 R ps.toList hp
 have hals:=Aml hall
 generalize hvs:(ps.toList.map fun p=>a.eval p.2)=vs at hzip
 have hvl:vs.length=len:=by rw [<-hvs,List.length_map,<-hl,hcl]
 have hcss:∀ (j:Nat) v,vs[j]?=some v->∃ cs,css[j]?=some cs/\cs.length=(Y el).size/\v.cells.size=(Y el).size/\∀ (k:Nat) c u,cs[k]?=some c->v.cells[k]?=some u->VOK G w X.fz Y e (.d (.c c)) u:=by
  intro j v hj
  rw [<-hvs,List.getElem?_map] at hj
  cases hq:ps.toList[j]? with
  |none=>rw [hq] at hj;cases hj
  |some q=>
   rw [hq] at hj
   simp only [Option.map_some,Option.some.injEq] at hj
   subst hj
   have hlt:j<css.length:=by rw [hl];exact (List.getElem?_eq_some_iff.1 hq).1
   have hc:=List.getElem?_eq_getElem hlt
   obtain ⟨h1,h2⟩:=hpr j _ q hc hq
   exact ⟨_,hc,hals j _ hc,by rw [<-h1];exact hals j _ hc,h2⟩
 have hvsz:∀ v∈vs,v.cells.size=(Y el).size:=fun v hv=>by
  obtain ⟨j,hj,rfl⟩:=List.mem_iff_getElem.1 hv
  obtain ⟨_,_,_,h,_⟩:=hcss j _ (List.getElem?_eq_getElem hj)
  exact h
 obtain ⟨dd,i,z,h1,h2,h3,h4,h5,h6,h7,h8⟩:=hY t (by simp [Ty.known,hk])
 rw [hk] at h7
 simp only [KOK] at h7
 subst h7
 obtain ⟨dd,ie,ze,g1,g2,g3,g4,g5,g6,g7,g8⟩:=hY el hkn
 have hfill:=Great.fill_whole (s:=(Y el).size) (by omega) vs ((Array.range (len*(Y el).size)).map (ze.cells[· % ze.cells.size]!)) hvsz (by simp [hvl])
 have hrun:=run_buildSlice (P:=P) w t el len (ps.map fun (i,x)=>(i,a.eval x)) _ ie ze h1 g2 g5 (by rw [g3];omega) (by rw [g3];intro hh;rcases Nat.mul_eq_zero.1 hh with h|h<;>omega) (by
  have e1:(ps.map fun (i,x)=>(i,a.eval x)).toList=(vs.zipIdx 0).map fun x=>(x.2,x.1):=by rw [Array.toList_map];exact hzip
  rw [e1,g3];exact hfill)
 generalize hrow:(vs.flatMap fun v=>v.cells.toList)=row at hrun
 have hrl:row.length=len*(Y el).size:=by rw [<-hrow,Amk vs hvsz,hvl]
 have hrun':(execOp a.eval o).run P w=.ok (.value (.slice (some ⟨w.heap.size,0,none⟩) len len)) (w.alloc (.cells row.toArray el)):=by
  simp [execOp,ho,hrun]
 have hrowok:Ew G.vis w len (fun i=>css.getD i []) (Y el).size row:=by
  refine ⟨hrl,fun i hi=>?_,fun i j c hi hj=>?_⟩
  ·have:css[i]?=some css[i]:=List.getElem?_eq_getElem (by omega)
   show (css.getD i []).length=_
   rw [List.getD_eq_getElem?_getD,this]
   exact hals i _ this
  ·have hc:css[i]?=some css[i]:=List.getElem?_eq_getElem (by omega)
   dsimp only at hj
   rw [List.getD_eq_getElem?_getD,hc] at hj
   have hjl:j<(Y el).size:=by rw [<-hals i _ hc];exact (List.getElem?_eq_some_iff.1 hj).1
   have hvi:vs[i]?=some vs[i]:=List.getElem?_eq_getElem (by omega)
   obtain ⟨cs,h9,h10,h11,h12⟩:=hcss i _ hvi
   rw [hc] at h9
   simp only [Option.some.injEq] at h9
   subst h9
   have hrg:row[i*(Y el).size+j]?=vs[i].cells[j]?:=by rw [<-hrow];exact Amj vs hvsz i j _ hvi hjl
   have hcj:vs[i].cells[j]?=some vs[i].cells[j]:=by simp [h11,hjl]
   exact ⟨_,hrg.trans hcj,(h12 j c _ hj hcj).reld⟩
 exact ⟨row,hrun',hrowok,hrl,hlen,hsz,hsm⟩
theorem Ane (hY:YOK P Y) (R:Rel Y X nt ds e a w G) {o:Oper} {t el:TypeId} {len:Nat} {ps:Array (Nat×Operand)} {css:List (List C)} (ho:o.op=.buildSlice t len ps) (hk:(Y t).kind=.slice el)
  {r1 r2:List (Nat×Nat)} (hp:(Jl ev1 0 ps.toList).run e.get r1=some (css,r2)) {r r':List (Nat×Nat)} {out:Out} (h:(Aa0 el (Y el) o.dst len css).run e.get r=some (out,r')):OpR P Y X nt ds e a w o out:=by
 unfold Aa0 at h
 obtain ⟨hb,h⟩:=Ak h
 obtain ⟨row,hrun',hrowok,hrl,hlen,hsz,hsm⟩:=Afi hY R ho hk hp hb
 obtain ⟨d,hd,hdf,rfl⟩:=Wo h
 obtain ⟨G',f1,f2⟩:=Af7 R (Eo w (.cells row.toArray el)) (fun b hb=>Cm w _ hb) (Po R _) (el:=el) (d:=d) (cap:=len) (N:=len) (sz:=(Y el).size) (kd:=none) (F:=fun i=>css.getD i []) (cur:=row.toArray) (zs:=row) rfl hdf hrowok
  (by rw [<-hrl];exact List.take_length) (by simpa using hrl) (Nat.le_refl _) (by unfold maxLen;have:=Nat.le_mul_of_pos_right len hsz;omega) (heap_alloc_new w _) (by simp)
 exact ⟨_,_,_,G',hrun',.inl rfl,fun _ h=>(by cases h),f1,f2⟩
theorem Anf (hY:YOK P Y) (R:Rel Y X nt ds e a w G) {o:Oper} {t el:TypeId} {len:Nat} {ps:Array (Nat×Operand)} {css:List (List C)} (ho:o.op=.buildSlice t len ps) (hk:(Y t).kind=.slice el)
  {r1 r2:List (Nat×Nat)} (hp:(Jl ev1 0 ps.toList).run e.get r1=some (css,r2)) {r r':List (Nat×Nat)} {out:Out} (h:(Aa1 (Y el) o.dst len css).run e.get r=some (out,r')):OpR P Y X nt ds e a w o out:=by
 unfold Aa1 at h
 obtain ⟨hb,h⟩:=Ak h
 obtain ⟨row,hrun',hrowok,hrl,hlen,hsz,hsm⟩:=Afi hY R ho hk hp hb
 obtain ⟨d,_,hd,hf,rfl⟩:=Gu h
 obtain ⟨G',q1,q2,R',lift,q3⟩:=Gt R hd hf (.cells row.toArray el) (st:=.arrc false (Y el).size len (fun i=>css.getD i [])) (ce:=[]) (by simp) (fun t k h=>rfl)
  (fun G' hvv=>by
   refine ⟨⟨row.toArray,el,_,heap_alloc_new w _,.inl rfl,by simp [hrl],fun i hi=>⟨hrowok.2.1 i hi,fun j c hj=>?_⟩⟩,hsz,fun hh=>(by cases hh),fun _=>by rw [hvv];exact R.fresh _ (Nat.le_refl _)⟩
   obtain ⟨u,h3,h4⟩:=hrowok.2.2 i j c hi hj
   refine ⟨u,by simpa using h3,?_⟩
   rw [hvv]
   exact h4.mono' (fun _=>Nat.le_refl _) (Po R _))
  (fun G' lift k hk=>by
   rw [List.nil_append] at hk
   exact absurd (R.mem.cells d k hk).1 (by rw [hd];exact fun h=>Bh h.symm))
 refine ⟨_,.slice (some ⟨w.heap.size,0,none⟩) len len,_,G',hrun',.inl rfl,fun _ h=>(by cases h),R',VOK.ids_used (id:=d) ?_ trivial rfl rfl (by
  have q3':Env.get ((2,d,.arrc false (Y el).size len fun i=>css.getD i [])::[]++e) 2 d=.arrc false (Y el).size len fun i=>css.getD i []:=q3
  show Env.get ((2,d,.arrc false (Y el).size len fun i=>css.getD i [])::[]++e) 2 d≠.any
  rw [q3'];simp)⟩
 simp only [Aa]
 have:=Nat.le_mul_of_pos_right len hsz
 exact .inr ⟨len,by rw [q2],Nat.le_refl _,by unfold maxLen;omega,row.toArray,el,_,by rw [q2];exact heap_alloc_new w _,by simp [hrl];exact this⟩
theorem Ang (hY:YOK P Y) (R:Rel Y X nt ds e a w G) {o:Oper} {t el:TypeId} {len:Nat} {ps:Array (Nat×Operand)} {css:List (List C)} (ho:o.op=.buildSlice t len ps) (hk:(Y t).kind=.slice el)
  {r1 r2:List (Nat×Nat)} (hp:(Jl ev1 0 ps.toList).run e.get r1=some (css,r2)) {r r':List (Nat×Nat)} {out:Out} (h:(Aa2 el (Y el) o.dst len css).run e.get r=some (out,r')):OpR P Y X nt ds e a w o out:=by
 unfold Aa2 at h
 split at h
 ·obtain ⟨hkn,h⟩:=Ak h
  obtain ⟨d,hd,hdf,rfl⟩:=Wo h
  obtain ⟨hl,hzip,hpr⟩:=Af4 R ps.toList hp
  have hps:ps=#[]:=Array.eq_empty_of_size_eq_zero (by rw [<-Array.length_toList,<-hl];rfl)
  obtain ⟨dd,i,z,h1,h2,h3,h4,h5,h6,h7,h8⟩:=hY t (by simp [Ty.known,hk])
  rw [hk] at h7
  simp only [KOK] at h7
  subst h7
  have hrun:(Instr.buildSlice t 0 #[]).run P w=.ok (.slice (some ⟨w.heap.size,0,none⟩) 0 0) (w.alloc (.cells #[] el)):=by
   simp [Instr.buildSlice,run_underlying h1,Db hY hkn,Instr.fill,newRow]
   congr 2
   exact Array.eq_empty_of_size_eq_zero (by simp)
  obtain ⟨f1,f2⟩:=Nr R (w':=w.alloc (.cells #[] el)) (vis':=G.vis) (tb:=none) (el:=el) (d:=d) (kd:=none) none hdf (Eo _ _) (fun b hb _=>Cm _ _ hb) (fun b hb=>(by cases hb)) (fun _=>Nat.le_refl _) (Po R _)
   (fun _ _=>rfl) (fun b hb=>(by cases hb)) (fun k b _ hb=>⟨Cm _ _ (R.tks k b hb).2.1,rfl⟩) (fun b hb=>R.fresh b (by rw [World.size_alloc] at hb;omega)) (fun _ _=>rfl) (fun _ _=>rfl)
  refine ⟨_,.slice (some ⟨w.heap.size,0,none⟩) 0 0,_,_,?_,.inl rfl,fun _ h=>(by cases h),f1,Ns (kd:=none) (d:=d) (el:=el) (e:=e) ?_ ⟨fun i hi=>absurd hi (Nat.not_lt_zero _),.inr (.inl ⟨.inl rfl,_,rfl⟩)⟩⟩
  ·subst hps
   simp [execOp,ho,hrun]
  ·exact .s _ 0 _ w.heap.size 0 0 0 (fun _ _=>undef) (Nat.le_refl _) (by decide) (fun i hi=>absurd hi (Nat.not_lt_zero _)) (by omega) (fun i j c hi=>absurd hi (Nat.not_lt_zero _)) (fun i j c hi=>absurd hi (Nat.not_lt_zero _))
 ·exact Ane hY R ho hk hp h
theorem Sd {len cap:Nat} (hlc:len<=cap) {lo:Option T} {l h:Int} {ql:Option Operand} {qh qm:Operand} {kh km:IntKind} (hl:Hg 0 lo=some l) (hh:a.eval qh=.int kh h) (hm:a.eval qm=.int km h)
  (hxl:Ia G w O Y e a lo ql) (h0:0<=l) (h1:l<=h) (h2:h<=len):(Instr.sliceBounds true len cap (ql.map a.eval) (some (a.eval qh)) (some (a.eval qm))).run P w=.ok (l.toNat,h.toNat,h.toNat) w:=by
 have hh0:0<=h:=by omega
 have hhc:h<=(cap:Int):=by omega
 have hmx:max h 0=h:=by omega
 rcases bound_ok hl hxl with ⟨_,rfl,rfl⟩|⟨q'',k',rfl,hq''⟩
 ·simp [Instr.sliceBounds,Instr.sliceBound,asIntOf,hh,hm,hh0,hhc,hmx]
 ·have hmx2:¬ (max h 0<l):=by omega
  simp [Instr.sliceBounds,Instr.sliceBound,asIntOf,hh,hm,hq'',hh0,hhc,h0,hmx,h1]
theorem Afj (hY:YOK P Y) (R:Rel Y X nt ds e a w G) {o:Oper} {p qh qm:Operand} {ql:Option Operand} {t:TypeId} {x hi mx:T} {lo:Option T} (ho:o.op=.slice t p ql (some qh) (some qm)) (hx:VOK G w X.fz Y e x (a.eval p))
  (hxl:Ia G w X.fz Y e a lo ql) (hxh:VOK G w X.fz Y e hi (a.eval qh)) (hxm:VOK G w X.fz Y e mx (a.eval qm))
  {r r':List (Nat×Nat)} {out:Out} (h:(Aac Y (Y t) o.dst x lo hi mx).run e.get r=some (out,r')) (hv:∀ p∈out.vc,p):OpR P Y X nt ds e a w o out:=by
 unfold Aac at h
 split at h
 ·rename_i el kh hh km m hk hhi hmx
  have e1:=Ec hhi hxh
  have e2:=Ec hmx hxm
  split at h
  ·rename_i l hl
   obtain ⟨d2,i2,z2,h1,h2,h3,h4,h5,h6,h7,h8⟩:=hY t (by simp [Ty.known,hk])
   rw [hk] at h7
   simp only [KOK] at h7
   subst h7
   have fin:∀ {n d:Nat} {f:Nat->List C} {wr:Env} {v:Value},e.get 1 d=.any->wr=[(1,d,Ay el)]->
     (Instr.slice t (a.eval p) (ql.map a.eval) (some (a.eval qh)) (some (a.eval qm))).run P w=.ok v w->Rep G.vis w (.s .n n f) v->(∀ i,i<n->(f i).length=(Y el).size)->(v=.slice none 0 0∨((n=0∨FAR<=d)/\∃ b,v=.slice b n n))->∀ vc,
     OpR P Y X nt ds e a w o ⟨vc,[],.d (.c (.s (.t d) n f)),wr⟩:=by
    intro n d f wr v hdf hwr hrun hrep hlen hfull vc
    subst hwr
    obtain ⟨G',f1,f2⟩:=Anc R (el:=el) hdf hrep hlen hfull
    refine ⟨_,v,w,G',?_,.inl rfl,fun _ h=>(by cases h),f1,f2⟩
    have hsl:∀ {v':Value},(∃ b n c,a.eval p=.slice b n c)->(Instr.slice t (a.eval p) (ql.map a.eval) (some (a.eval qh)) (some (a.eval qm))).run P w=.ok v' w->(execOp a.eval o).run P w=.ok (.value v') w:=by
     rintro v' ⟨b,n,c,hb⟩ hr
     rw [hb] at hr
     simp [execOp,ho,hb,Instr.sliceAt,run_underlying h1,hr]
    refine hsl ?_ hrun
    cases hp:a.eval p with
    |slice b n c=>exact ⟨b,n,c,rfl⟩
    |_=>rw [hp] at hrun;simp [Instr.slice,run_underlying h1] at hrun
   split at h
   ·rename_i id n
    simp only [M.run] at h
    split at h
    ·rename_i fz sz m' f hobj
     replace h:=Ak h
     obtain ⟨hb,h⟩:=h
     obtain ⟨hel,hsz⟩:=and_true hb
     obtain ⟨d,hd,hdf,rfl⟩:=Wo h
     have c1:0<=l:=hv _ (by simp)
     have c2:l=hh:=hv _ (by simp)
     have c3:hh=m:=hv _ (by simp)
     have c4:m<=(n:Int):=hv _ (by simp)
     subst c3
     rcases arr_val hx with ⟨hn0,hpv⟩|⟨cap,hpv,hnc,hcm⟩
     ·subst hn0
      have hbr:=Sd (P:=P) (w:=w) (G:=G) (Y:=Y) (e:=e) (a:=a) (Nat.le_refl 0) hl e1 e2 hxl c1 (by omega) c4
      refine fin (v:=.slice none 0 0) hdf rfl ?_ (.nil _ _) (fun i hi=>absurd hi (Nat.not_lt_zero i)) (.inl rfl) _
      have hl0:l=0:=by omega
      subst hl0
      have hh0:hh=0:=by omega
      subst hh0
      rw [hpv]
      simp [Instr.slice,run_underlying h1,hbr,Db hY hel]
     ·have hbr:=Sd (P:=P) (w:=w) (G:=G) (Y:=Y) (e:=e) (a:=a) hnc hl e1 e2 hxl c1 (by omega) c4
      subst c2
      refine fin (v:=.slice (some ⟨G.bk id,0,none⟩) 0 0) hdf rfl ?_ (.s _ 0 _ _ 0 0 sz (fun _ _=>undef) (Nat.le_refl _) (Nat.zero_le _) (fun i hi=>absurd hi (Nat.not_lt_zero i)) (by omega) (fun i j c hi=>absurd hi (Nat.not_lt_zero i)) (fun i j c hi=>absurd hi (Nat.not_lt_zero i))) (fun i hi=>absurd hi (Nat.not_lt_zero i)) (.inr ⟨.inl rfl,_,rfl⟩) _
      rw [hpv]
      simp [Instr.slice,run_underlying h1,hbr,Db hY hel]
    ·exact (Ac h).elim
   ·split at h
    ·rename_i n f hn
     replace h:=Ak h
     obtain ⟨hb,h⟩:=h
     obtain ⟨hel,hsz⟩:=and_true hb
     have hsz:=Nat.eq_of_beq_eq_true hsz
     obtain ⟨d,hd,hdf,rfl⟩:=Wn h
     have c1:0<=l:=hv _ (by simp)
     have c2:l<=hh:=hv _ (by simp)
     have c3:hh=m:=hv _ (by simp)
     have c4:m<=(n:Int):=hv _ (by simp)
     subst c3
     have hrep:=Pm hn hx
     have hnat:(hh - l).toNat=hh.toNat - l.toNat:=by omega
     generalize hpv:a.eval p=pv at hrep
     cases hrep with
     |nil=>
      have hbr:=Sd (P:=P) (w:=w) (G:=G) (Y:=Y) (e:=e) (a:=a) (Nat.le_refl 0) hl e1 e2 hxl c1 c2 c4
      have hl0:l=0:=by omega
      subst hl0
      have hh0:hh=0:=by omega
      subst hh0
      refine fin (v:=.slice none 0 0) hdf rfl ?_ (.nil _ _) (fun i hi=>absurd hi (Nat.not_lt_zero i)) (.inl rfl) _
      rw [hpv]
      simp [Instr.slice,run_underlying h1,hbr,Db hY hel]
     |e g f ba=>
      have hbr:=Sd (P:=P) (w:=w) (G:=G) (Y:=Y) (e:=e) (a:=a) (Nat.le_refl 0) hl e1 e2 hxl c1 c2 c4
      have hl0:l=0:=by omega
      subst hl0
      have hh0:hh=0:=by omega
      subst hh0
      refine fin (v:=.slice (some ba) 0 0) hdf rfl ?_ (.e _ _ _) (fun i hi=>absurd hi (Nat.not_lt_zero i)) (.inr ⟨.inl rfl,_,rfl⟩) _
      rw [hpv]
      simp [Instr.slice,run_underlying h1,hbr,Db hY hel]
     |s g n f b off cap sz u hn' hc hz hvv hu hr=>
      have hbr:=Sd (P:=P) (w:=w) (G:=G) (Y:=Y) (e:=e) (a:=a) hn' hl e1 e2 hxl c1 c2 c4
      by_cases hcl:hh.toNat=l.toNat
      ·have hz0:(hh - l).toNat=0:=by omega
       rw [hz0] at *
       refine fin (v:=.slice (some ⟨b,off,none⟩) 0 0) hdf rfl ?_ (.s _ 0 _ b off 0 sz (fun _ _=>undef) (Nat.le_refl _) (Nat.zero_le _) (fun i hi=>absurd hi (Nat.not_lt_zero i)) (by omega) (fun i j c hi=>absurd hi (Nat.not_lt_zero i)) (fun i j c hi=>absurd hi (Nat.not_lt_zero i))) (fun i hi=>absurd hi (Nat.not_lt_zero i)) (.inr ⟨.inr hd,_,rfl⟩) _
       rw [hpv]
       simp [Instr.slice,run_underlying h1,hbr,Db hY hel,hcl]
      ·have hln:l.toNat+(hh.toNat - l.toNat)<=n:=by omega
       have hs:(Y el).size=sz:=by rw [<-hsz];exact hz 0 (by omega)
       have hle:(l.toNat+(hh.toNat - l.toNat))*sz<=n*sz:=Nat.mul_le_mul_right _ hln
       rw [Nat.add_mul] at hle
       refine fin (v:=.slice (some ⟨b,off+l.toNat*sz,none⟩) (hh - l).toNat (hh - l).toNat) hdf rfl ?_ ?_ (fun i hi=>by rw [hs];exact hz _ (by omega)) (.inr ⟨.inr hd,_,rfl⟩) _
       ·rw [hpv]
        simp [Instr.slice,run_underlying h1,hbr,Db hY hel,hcl,hs,Gr,hnat]
       ·rw [hnat]
        refine .s _ _ _ b _ _ sz (fun i j=>u (l.toNat+i) j) (Nat.le_refl _) (by omega) (fun i hi=>hz _ (by omega)) (by omega) (fun i j c hi hj=>?_) (fun i j c hi hj=>hr _ j c (by omega) hj)
        have:=hu (l.toNat+i) j c (by omega) hj
        rw [Nat.add_mul] at this
        rw [<-this]
        congr 2
        omega
    ·exact (Ac h).elim
  ·exact (Ac h).elim
 ·exact (Ac h).elim
end
section
variable {P:Program} {Y:TypeId->Ty} {X:Cx} {nt:Nat} {ds:List Deferred} {e:Env} {a:Act} {w:World} {G:Gh} {O:Nat->Prop}
theorem Afk:∀ (l:List Value) (j:Nat) c,(vsC l)[j]?=some c->∃ v,l[j]?=some v/\c=.v v:=by
 intro l
 induction l with
 |nil=>intro j c h;simp [vsC] at h
 |cons v l ih=>
  intro j c h
  cases j with
  |zero=>simp only [vsC,List.getElem?_cons_zero,Option.some.injEq] at h;exact ⟨v,rfl,h.symm⟩
  |succ j=>simpa using ih j c (by simpa [vsC] using h)
theorem Abs:∀ (l:List Value),(vsC l).length=l.length
 | []=>rfl
 |v::l=>by simp [vsC,Abs l]
theorem Wu {vis:Nat->Nat} {l:List Value} (h:l.all Value.oneCell'=true):Av vis w (vsC l) l:=
 ⟨Abs l,fun j c v hc hv=>by
  obtain ⟨v',h1,rfl⟩:=Afk l j c hc
  rw [hv] at h1
  obtain rfl:=Option.some.inj h1
  exact .v v (List.all_eq_true.1 h v (List.mem_of_getElem? hv))⟩
theorem Afl {z:Array Value} {n k:Nat} (hz:0<z.size) (hk:k<n):(madeCells z n)[k]?=z[k % z.size]?:=by
 have hm:k % z.size<z.size:=Nat.mod_lt _ hz
 simp only [madeCells,Array.getElem?_map,Array.getElem?_range,if_pos hk,Option.map_some]
 rw [Array.getElem?_eq_getElem hm]
 simp [hm]
theorem Anh (hY:YOK P Y) (R:Rel Y X nt ds e a w G) {o:Oper} {p q:Operand} {t:TypeId} {x y:T} (ho:o.op=.makeSlice t p q) (hx:VOK G w X.fz Y e x (a.eval p)) (hy:VOK G w X.fz Y e y (a.eval q))
  {r r':List (Nat×Nat)} {out:Out} (h:(Aag Y (Y t) o.dst x y).run e.get r=some (out,r')) (hv:∀ p∈out.vc,p):OpR P Y X nt ds e a w o out:=by
 unfold Aag at h
 split at h
 ·rename_i el k n k' m hk hn hm
  replace h:=Ak h
  obtain ⟨hb,h⟩:=h
  obtain ⟨hb,hsz⟩:=and_true hb
  obtain ⟨hkn,hz1⟩:=and_true hb
  have hsz:=Bg hsz
  obtain ⟨d,_,hd,hf,rfl⟩:=Gu h
  have c1:n=m:=hv _ List.mem_cons_self
  have c2:0<=n:=hv _ (.tail _ (.head _))
  have c3:n.toNat*(Y el).bytes<=140737488355328:=hv _ (.tail _ (.tail _ (.head _)))
  have c4:n.toNat<=140737488355328:=hv _ (.tail _ (.tail _ (.tail _ (.head _))))
  clear hv h
  subst c1
  have e1:=Ec hn hx
  have e2:=Ec hm hy
  obtain ⟨d2,i2,z2,h1,h2,h3,h4,h5,h6,h7,h8⟩:=hY t (by simp [Ty.known,hk])
  rw [hk] at h7
  simp only [KOK] at h7
  subst h7
  obtain ⟨_,ie,ze,g1,g2,g3,g4,g5,g6,g7,g8⟩:=hY el hkn
  have hzs:ze.cells.size=(Y el).size:=by rw [<-g8.2.1,<-g6,Array.length_toList]
  have c5:ie.bytes*n.toNat<=281474976710656:=by rw [g4,Nat.mul_comm];omega
  have c6:(ie.bytes:Int)*n=((ie.bytes*n.toNat:Nat):Int):=by rw [Int.natCast_mul,Int.toNat_of_nonneg c2]
  have hrun:=run_make (P:=P) w t el ie ze h1 g2 g5 k k' n n c2 (Int.le_refl _) (by rw [c6];omega) (by omega)
  obtain ⟨G',q1,q2,R',lift,q3⟩:=Gt R hd hf (.cells (madeCells ze.cells (n.toNat*ie.size)) el) (st:=.arrc false (Y el).size n.toNat fun _=>vsC (Y el).zero) (ce:=[]) (by simp) (fun t k h=>rfl)
   (fun G' hvv=>by
    refine ⟨⟨_,el,_,heap_alloc_new w _,.inl rfl,by rw [size_madeCells,g3];exact Nat.le_refl _,fun i hi=>⟨by rw [Abs];exact g8.2.1,fun j c hj=>?_⟩⟩,hsz,fun hh=>(by cases hh),fun _=>by rw [hvv];exact R.fresh _ (Nat.le_refl _)⟩
    obtain ⟨v,hv1,rfl⟩:=Afk _ j c hj
    have hjl:j<(Y el).size:=by rw [<-g8.2.1];exact (List.getElem?_eq_some_iff.1 hv1).1
    refine ⟨v,?_,.v v (List.all_eq_true.1 hz1 v (List.mem_of_getElem? hv1))⟩
    have hle:(i+1)*(Y el).size<=n.toNat*(Y el).size:=Nat.mul_le_mul_right _ hi
    rw [Nat.add_mul,Nat.one_mul] at hle
    rw [Afl (by omega) (by rw [g3];omega),hzs]
    have:(i*(Y el).size+j) % (Y el).size=j:=by rw [Nat.mul_comm,Nat.mul_add_mod,Nat.mod_eq_of_lt hjl]
    rw [this,<-Array.getElem?_toList,g6]
    exact hv1)
   (fun G' lift k hk=>by
    rw [List.nil_append] at hk
    exact absurd (R.mem.cells d k hk).1 (by rw [hd];exact fun h=>Bh h.symm))
  refine ⟨_,.slice (some ⟨w.heap.size,0,none⟩) n.toNat n.toNat,_,G',?_,.inl rfl,fun _ h=>(by cases h),R',VOK.ids_used (id:=d) ?_ trivial rfl rfl (by
   have q3':Env.get ((2,d,.arrc false (Y el).size n.toNat fun _=>vsC (Y el).zero)::[]++e) 2 d=.arrc false (Y el).size n.toNat fun _=>vsC (Y el).zero:=q3
   show Env.get ((2,d,.arrc false (Y el).size n.toNat fun _=>vsC (Y el).zero)::[]++e) 2 d≠.any
   rw [q3'];simp)⟩
  ·simp [execOp,ho,e1,e2,hrun]
  ·simp only [Aa]
   exact .inr ⟨n.toNat,by rw [q2],Nat.le_refl _,by unfold maxLen;omega,_,el,_,by rw [q2];exact heap_alloc_new w _,by rw [size_madeCells,g3];exact Nat.le_mul_of_pos_right _ hsz⟩
 ·exact (Ac h).elim
theorem Se (R:Rel Y X nt ds e a w G) {id:Nat} (hid:e.get 2 id≠.any) (hv0:G.vis (G.bk id)=0) {ob ob':Obj} (hcur:w.heap[G.bk id]?=some ob) (hnd:ob≠.deferred (some [])) (hnc:∀ cs t z,ob=.cells cs t z->∃ cs' t' z',ob'=.cells cs' t' z'/\cs.size<=cs'.size) {st:T} (hst:st≠.any) (hsl:st≠live) (hnl:e.get 2 id≠live)
  (hobj:KeepV G.vis w { w with heap:=w.heap.setIfInBounds (G.bk id) ob' }->Bv G { w with heap:=w.heap.setIfInBounds (G.bk id) ob' } st (G.bk id)):
  Rel Y X nt ds ((2,id,st)::e) a { w with heap:=w.heap.setIfInBounds (G.bk id) ob' } G/\∀ x v,VOK G w X.fz Y e x v->VOK G { w with heap:=w.heap.setIfInBounds (G.bk id) ob' } X.fz Y ((2,id,st)::e) x v:=by
 obtain ⟨hb1,hb2,hb3⟩:=R.mem.box id hid
 have hoth:∀ b,b≠G.bk id->(w.heap.setIfInBounds (G.bk id) ob')[b]?=w.heap[b]?:=fun b h=>by
  rw [Array.getElem?_setIfInBounds_ne (Ne.symm h)]
 have hcell:∀ b i,b≠G.bk id->({ w with heap:=w.heap.setIfInBounds (G.bk id) ob' }:World).cell? ⟨b,i,none⟩=w.cell? ⟨b,i,none⟩:=fun b i h=>World.cell?_of_block (hoth b h)
 have h01:∀ t k,t≠2->Env.get ((2,id,st)::e) t k=e.get t k:=fun t k h=>Ax (fun hh=>h hh.1.symm)
 have h2:∀ k,Env.get ((2,id,st)::e) 2 k=if k=id then st else e.get 2 k:=fun k=>by
  rw [Ap]
  by_cases h:k=id
  ·subst h;simp
  ·rw [if_neg fun hh=>h hh.2.symm,if_neg h]
 have hkeep:KeepV G.vis w { w with heap:=w.heap.setIfInBounds (G.bk id) ob' }:=by
  refine ⟨fun b i hi=>hcell b i fun hh=>?_,fun b hi es c he=>?_,fun b cs t z h=>?_⟩
  ·rw [hh,hv0] at hi;omega
  ·rw [hoth b fun hh=>by rw [hh,hv0] at hi;omega];exact he
  ·by_cases hh:b=G.bk id
   ·subst hh
    rw [hcur] at h
    obtain ⟨cs',t',z',h1,h2⟩:=hnc _ _ _ (Option.some.inj h)
    exact ⟨cs',t',z',by simp [Array.getElem?_setIfInBounds,hb2,h1],h2⟩
   ·exact ⟨cs,t,z,(hoth b hh).trans h,Nat.le_refl _⟩
 refine R.move (w':={ w with heap:=w.heap.setIfInBounds (G.bk id) ob' }) ⟨fun _=>Nat.le_refl _,hkeep,fun b hb=>hoth b fun hh=>hb1 (by rw [<-hh];exact R.fzh b hb)⟩ ⟨rfl,rfl,rfl,by simp⟩ rfl rfl
  (fun b hb=>hoth b fun hh=>hb1 (by rw [<-hh];exact hb)) (fun D hD=>hoth D fun hh=>?_) (fun t=>h01 0 t (by decide)) (fun k hk=>⟨rfl,by rw [h2];split;exact hst;exact hk⟩)
  (fun k hk=>by rw [h01 1 k (by decide)];exact ⟨hk,fun _ h=>h⟩) (fun k b _ hb _=>⟨hb,hoth b fun hh=>(R.tks k b hb).2.2.2.2 id hid hh.symm,rfl⟩)
  (fun lift id' hid'=>?_) (fun id' k hk=>?_) (fun k b hb=>?_) R.tinj (fun b hb=>R.fresh b (by simpa using hb)) (fun _ _=>rfl) (fun _ _=>rfl)
 ·have:=(R.marks D hD).2.1
  rw [hh,hcur] at this
  exact hnd (Option.some.inj this)
 ·by_cases h:id'=id
  ·subst h
   refine .inr ⟨hb1,by simpa using hb2,R.ownb id' hid,fun i hi hh=>?_,fun k hk=>(R.tks k _ hk).2.2.2.2 id' hid rfl,by rw [h2,if_pos rfl];exact hobj hkeep,fun _ hl=>absurd (by rw [<-hl,h2,if_pos rfl]) hsl,fun k hk=>?_⟩
   ·rw [h2] at hi
    split at hi
    ·assumption
    ·exact R.mem.inj i id' hi hid hh
   ·rw [h01 _ k (by omega)] at hk
    exact absurd (R.mem.cells id' k hk).1 hnl
  ·rw [h2,if_neg h] at hid'
   exact .inl ⟨hid',by rw [h2,if_neg h],hoth _ fun hh=>h (R.mem.inj _ _ hid' hid hh),rfl,fun k=>h01 _ k (by omega)⟩
 ·rw [h2]
  split
  ·exact hst
  ·rw [h01 _ k (by omega)] at hk
   rw [(R.mem.cells id' k hk).1]
   exact Bh
 ·obtain ⟨h3,h4,h5,h6,h7⟩:=R.tks k b hb
  exact ⟨h3,by simpa using h4,h5,by rw [hoth b fun hh=>h7 id hid hh.symm];exact h6,h7,(R.tlive k b hb).mono (fun k hk=>by rw [h01 1 k (by decide)];exact hk) (fun id' hid'=>⟨by rw [h2];split;exact hst;exact hid',rfl⟩)⟩
/-! maps -/
theorem Wv {v:Value} {k:List Int} (h:Bj 0 v=some k):∃ n,v=.int .i64 n/\k=[n]:=by
 unfold Bj at h
 split at h
 ·simp only [Option.some.injEq] at h;exact ⟨_,rfl,h.symm⟩
 ·rename_i hh;cases hh
 ·cases h
theorem Abt:∀ {vs:List Value} {l:List Int},Fs (vsC vs)=some l->vs=l.map (Value.int .i64)
 | [],l,h=>by
  simp only [vsC,Fs,Option.some.injEq] at h
  subst h;rfl
 |v::vs,l,h=>by
  rw [vsC] at h
  unfold Fs at h
  split at h
  ·rename_i h';cases h'
  ·rename_i n rest heq
   obtain ⟨h1,h2⟩:=List.cons.inj heq
   subst h2
   injection h1 with h1
   subst h1
   cases hr:Fs (vsC vs) with
   |none=>rw [hr] at h;cases h
   |some m=>
    rw [hr] at h
    simp only [Option.map_some,Option.some.injEq] at h
    subst h
    rw [Abt hr];rfl
  ·cases h
theorem Afm:∀ l:List Int,Fs (vsC (l.map (Value.int .i64)))=some l
 | []=>rfl
 |n::l=>by
  show (Fs (vsC (l.map (Value.int .i64)))).map _=_
  rw [Afm l];rfl
def Ww (kn:Nat) (k:List Int):Value:=
 match kn with
 |0=>.int .i64 (k.headD 0)
 |_+1=>.agg (k.map (Value.int .i64)).toArray
theorem Wx {kn:Nat} {v:Value} {k:List Int} (h:Bj kn v=some k):v=Ww kn k:=by
 unfold Bj at h
 split at h
 ·simp only [Option.some.injEq] at h;subst h;rfl
 ·rename_i n cs
  split at h
  ·rename_i l hl
   cases hb:l.length.beq (n+1) with
   |false=>rw [hb] at h;cases h
   |true=>
    rw [hb] at h
    simp only [cond_true,Option.some.injEq] at h
    subst h
    have h2:=Abt hl
    show Value.agg cs=.agg (l.map (Value.int .i64)).toArray
    rw [<-h2]
  ·cases h
 ·cases h
theorem Wy {n:Nat} {v:Value} {k:List Int} (h:Bj (n+1) v=some k):v=.agg (k.map (Value.int .i64)).toArray/\k.length=n+1:=by
 unfold Bj at h
 split at h
 ·exact absurd ‹n+1=0› (by omega)
 ·rename_i m cs hh
  obtain rfl:=Nat.succ.inj hh
  split at h
  ·rename_i l hl
   cases hb:l.length.beq (n+1) with
   |false=>rw [hb] at h;cases h
   |true=>
    rw [hb] at h
    simp only [cond_true,Option.some.injEq] at h
    subst h
    have h2:=Abt hl
    rw [<-h2]
    exact ⟨rfl,Nat.eq_of_beq_eq_true hb⟩
  ·cases h
 ·cases h
theorem keyN_kind {y:Ty} {kn:Nat} (h:Lv y=some kn):(kn=0/\y.kind=.int .i64)∨(∃ n fs,kn=n+1/\y.size=n+1/\y.kind=.struct fs/\y.eqi=true):=by
 unfold Lv at h
 split at h
 ·rename_i hk
  simp only [Option.some.injEq] at h
  exact .inl ⟨h.symm,hk⟩
 ·rename_i fs hk
  obtain ⟨hb,h⟩:=Fi h
  obtain ⟨h1,h2⟩:=and_true hb
  have h2:0<y.size:=Nat.le_of_ble_eq_true h2
  simp only [Option.some.injEq] at h
  obtain ⟨n,hn⟩:∃ n,y.size=n+1:=⟨y.size - 1,by omega⟩
  exact .inr ⟨n,fs,by omega,hn,hk,h1⟩
 ·cases h
theorem Abu {y:Ty} {x:T} {v:Value} {kn:Nat} {p:Nat×List Int} (hb:Ng y kn p=true) (h:Rl x=some p) (hx:VOK G w O Y e x v):Lv y=some kn/\Bj kn v=some p.2:=by
 unfold Ng at hb
 split at hb
 ·rename_i n hn
  obtain ⟨h1,h2⟩:=and_true hb
  have h1:=Nat.eq_of_beq_eq_true h1
  have h2:=Nat.eq_of_beq_eq_true h2
  subst h1
  refine ⟨hn,?_⟩
  unfold Rl at h
  split at h
  ·rename_i m
   simp only [Option.some.injEq] at h
   subst h
   have h2:n=0:=h2
   subst h2
   rw [Bs hx];rfl
  ·rename_i xs
   split at h
   ·rename_i m l hl
    simp only [Option.some.injEq] at h
    subst h
    have h2:n=l.length+1:=h2
    subst h2
    have hr:=hx.rel
    simp only [Aa,Aw] at hr
    obtain ⟨vs,rfl,hr⟩:=hr
    have h3:=Abq hl hr
    unfold Bj
    dsimp only
    rw [h3,Afm]
    simp
   ·cases h
  ·cases h
 ·cases hb
theorem findNow_int (n:Int):∀ (l:List MapEntry) (k:Nat),(∀ en∈l,∃ m,en.key=.int .i64 m)->
  (∃ (i:Nat) (en:MapEntry),l[i]?=some en/\en.key=.int .i64 n/\Instr.findNow (.int .i64) (.int .i64 n) l k=some (some (k+i,en.val)))∨((∀ en∈l,en.key≠.int .i64 n)/\Instr.findNow (.int .i64) (.int .i64 n) l k=some none):=by
 intro l
 induction l with
 |nil=>intro k _;exact .inr ⟨fun en h=>(by cases h),rfl⟩
 |cons en l ih=>
  intro k h
  obtain ⟨m,hm⟩:=h en List.mem_cons_self
  by_cases hmn:n=m
  ·subst hmn
   refine .inl ⟨0,en,rfl,hm,?_⟩
   unfold Instr.findNow
   rw [hm]
   simp [Instr.sameNow]
  ·have hs:Instr.sameNow (.int .i64) (.int .i64 n) en.key=some false:=by rw [hm];simp [Instr.sameNow,hmn]
   have hf:Instr.findNow (.int .i64) (.int .i64 n) (en::l) k=Instr.findNow (.int .i64) (.int .i64 n) l (k+1):=by
    conv=>lhs;unfold Instr.findNow
    rw [hs]
   rw [hf]
   rcases ih (k+1) (fun en h'=>h en (List.mem_cons_of_mem _ h')) with ⟨i,en',h1,h2,h3⟩|⟨h1,h2⟩
   ·exact .inl ⟨i+1,en',by simpa using h1,h2,by rw [h3,show k+1+i=k+(i+1) by omega]⟩
   ·refine .inr ⟨fun en' h'=>?_,h2⟩
    cases h' with
    |head=>rw [hm];intro hh;exact hmn (by simpa using hh.symm)
    |tail _ h'=>exact h1 en' h'
theorem Ani {kt:TypeId} {es:Array MapEntry} {clock:Nat} {dom:List Int->Bool} (hkt:P.underlying kt=some (.int .i64)) (hk:Ma 0 es clock dom) (n:Int):
  (dom [n]=true/\∃ (i:Nat) (en:MapEntry),es[i]?=some en/\Bj 0 en.key=some [n]/\(Instr.findKey kt (.int .i64 n) es.toList).run P w=.ok (some (i,en.val)) w)∨
  (dom [n]=false/\(∀ (i:Nat) en,es[i]?=some en->Bj 0 en.key≠some [n])/\(Instr.findKey kt (.int .i64 n) es.toList).run P w=.ok none w):=by
 have hall:∀ en∈es.toList,∃ m,en.key=.int .i64 m:=fun en hm=>by
  obtain ⟨i,hi,rfl⟩:=List.mem_iff_getElem.1 hm
  obtain ⟨k,h1,_⟩:=hk.1 i es.toList[i] (by rw [<-Array.getElem?_toList];exact List.getElem?_eq_getElem hi)
  obtain ⟨m,h2,_⟩:=Wv h1
  exact ⟨m,h2⟩
 rcases findNow_int n es.toList 0 hall with ⟨i,en,h1,h2,h3⟩|⟨h1,h2⟩
 ·rw [Array.getElem?_toList] at h1
  have h4:Bj 0 en.key=some [n]:=by rw [h2];rfl
  obtain ⟨k,h5,h6⟩:=hk.1 i en h1
  rw [h4] at h5
  simp only [Option.some.injEq] at h5
  subst h5
  exact .inl ⟨h6,i,en,h1,h4,MapKept.run_findKey hkt (by rw [h3,Nat.zero_add])⟩
 ·have hno:∀ (i:Nat) en,es[i]?=some en->Bj 0 en.key≠some [n]:=fun i en hi hkk=>by
   obtain ⟨m,h3,h4⟩:=Wv hkk
   obtain ⟨rfl,_⟩:=List.cons.inj h4
   exact h1 en (List.mem_of_getElem? (by rw [Array.getElem?_toList];exact hi)) h3
  refine .inr ⟨?_,hno,MapKept.run_findKey hkt h2⟩
  cases hd:dom [n] with
  |false=>rfl
  |true=>
   obtain ⟨i,en,h3,h4⟩:=hk.2.1 [n] hd
   exact absurd h4 (hno i en h3)
theorem Anj {kt:TypeId} (hkt:P.underlying kt=some (.int .i64)) (em:Bool) (n:Int):(Instr.checkKey em 10000 kt (.int .i64 n)).run P w=.ok () w:=by
 unfold Instr.checkKey
 simp [run_underlying hkt]
theorem Wz:∀ {a b:List Int},eqL a b=true↔a=b
 | [],[]=>by simp [eqL]
 | [],_::_=>by simp [eqL]
 |_::_,[]=>by simp [eqL]
 |a::l,b::m=>by
  have:=Wz (a:=l) (b:=m)
  skip
  simp only [eqL,Bool.and_eq_true,beq_iff_eq,this,List.cons.injEq]
theorem findAsking_ints {kt:TypeId} {n:Nat} (heq:EqI P kt (n+1)) {k:List Int} (hk:k.length=n+1):∀ (l:List MapEntry) (i:Nat),(∀ en∈l,∃ m,Bj (n+1) en.key=some m)->
  (∃ (j:Nat) (en:MapEntry),l[j]?=some en/\Bj (n+1) en.key=some k/\(Instr.findAsking kt (.agg (k.map (Value.int .i64)).toArray) l i).run P w=.ok (some (i+j,en.val)) w)∨
  ((∀ en∈l,Bj (n+1) en.key≠some k)/\(Instr.findAsking kt (.agg (k.map (Value.int .i64)).toArray) l i).run P w=.ok none w)
 | [],i,_=>.inr ⟨fun en h=>(by cases h),rfl⟩
 |en::l,i,h=>by
  obtain ⟨m,hm⟩:=h en List.mem_cons_self
  obtain ⟨h1,h2⟩:=Wy hm
  have hq:=(heq k m hk h2 w).2.1
  rw [<-h1] at hq
  unfold Instr.findAsking
  simp only [Sem.run_bind,hq,Result.andThen_ok]
  by_cases hkm:k=m
  ·subst hkm
   have he:eqL k k=true:=(Wz (a:=k) (b:=k)).2 rfl
   rw [he]
   exact .inl ⟨0,en,rfl,hm,by simp⟩
  ·have he:eqL k m=false:=by
    cases hh:eqL k m with
    |false=>rfl
    |true=>exact absurd ((Wz (a:=k) (b:=m)).1 hh) hkm
   rw [he]
   simp only [Bool.false_eq_true,if_false]
   rcases findAsking_ints heq hk l (i+1) (fun en' h'=>h en' (List.mem_cons_of_mem _ h')) with ⟨j,en',q1,q2,q3⟩|⟨q1,q2⟩
   ·exact .inl ⟨j+1,en',by simpa using q1,q2,by rw [q3,show i+1+j=i+(j+1) by omega]⟩
   ·refine .inr ⟨fun en' h'=>?_,q2⟩
    cases h' with
    |head=>rw [hm];intro hh;exact hkm (Option.some.inj hh).symm
    |tail _ h'=>exact q1 en' h'
theorem find_keyG (hY:YOK P Y) {kt:TypeId} {kn:Nat} {es:Array MapEntry} {clock:Nat} {dom:List Int->Bool} {v:Value} {key:List Int} (hkt:Lv (Y kt)=some kn) (hk:Ma kn es clock dom) (hv:Bj kn v=some key):
  (dom key=true/\∃ (i:Nat) (en:MapEntry),es[i]?=some en/\Bj kn en.key=some key/\(Instr.findKey kt v es.toList).run P w=.ok (some (i,en.val)) w)∨
  (dom key=false/\(∀ (i:Nat) en,es[i]?=some en->Bj kn en.key≠some key)/\(Instr.findKey kt v es.toList).run P w=.ok none w):=by
 rcases keyN_kind hkt with ⟨rfl,hki⟩|⟨n,fs,rfl,hsz,hks,heqi⟩
 ·obtain ⟨d3,i3,z3,k1,k2,k3,k4,k5,k6,k7,k8⟩:=hY kt (by simp [Ty.known,hki])
  rw [hki] at k7
  simp only [KOK] at k7
  subst k7
  obtain ⟨m,rfl,rfl⟩:=Wv hv
  exact Ani k1 hk m
 ·obtain ⟨d3,i3,z3,k1,k2,k3,k4,k5,k6,k7,k8,k9,k10,k11⟩:=hY kt (by simp [Ty.known,hks])
  rw [hks] at k7
  simp only [KOK] at k7
  obtain ⟨fields,rfl,_,_⟩:=k7
  have heq:=k10 heqi
  rw [hsz] at heq
  obtain ⟨rfl,hlen⟩:=Wy hv
  have hall:∀ en∈es.toList,∃ m,Bj (n+1) en.key=some m:=fun en hm=>by
   obtain ⟨i,hi,rfl⟩:=List.mem_iff_getElem.1 hm
   obtain ⟨k,h1,_⟩:=hk.1 i es.toList[i] (by rw [<-Array.getElem?_toList];exact List.getElem?_eq_getElem hi)
   exact ⟨k,h1⟩
  have hnow:(Instr.findKey kt (.agg (key.map (Value.int .i64)).toArray) es.toList).run P w=(Instr.findAsking kt (.agg (key.map (Value.int .i64)).toArray) es.toList).run P w:=by
   unfold Instr.findKey
   simp only [Sem.run_bind,run_underlying k1,Result.andThen_ok]
   cases es.toList with
   |nil=>simp [Instr.findNow,Instr.findAsking]
   |cons en l=>simp [Instr.findNow,Instr.sameNow]
  rw [hnow]
  rcases findAsking_ints (w:=w) heq hlen es.toList 0 hall with ⟨i,en,h1,h2,h3⟩|⟨h1,h2⟩
  ·rw [Array.getElem?_toList] at h1
   obtain ⟨k,h5,h6⟩:=hk.1 i en h1
   rw [h2] at h5
   obtain rfl:=Option.some.inj h5
   exact .inl ⟨h6,i,en,h1,h2,by rw [h3,Nat.zero_add]⟩
  ·have hno:∀ (i:Nat) en,es[i]?=some en->Bj (n+1) en.key≠some key:=fun i en hi=>h1 en (List.mem_of_getElem? (by rw [Array.getElem?_toList];exact hi))
   refine .inr ⟨?_,hno,h2⟩
   cases hd:dom key with
   |false=>rfl
   |true=>
    obtain ⟨i,en,h3,h4⟩:=hk.2.1 key hd
    exact absurd h4 (hno i en h3)
theorem Pq (hY:YOK P Y) {kt:TypeId} {kn:Nat} {v:Value} {key:List Int} (hkt:Lv (Y kt)=some kn) (hv:Bj kn v=some key) (em:Bool):(Instr.checkKey em 10000 kt v).run P w=.ok () w:=by
 rcases keyN_kind hkt with ⟨rfl,hki⟩|⟨n,fs,rfl,hsz,hks,heqi⟩
 ·obtain ⟨d3,i3,z3,k1,k2,k3,k4,k5,k6,k7,k8⟩:=hY kt (by simp [Ty.known,hki])
  rw [hki] at k7
  simp only [KOK] at k7
  subst k7
  obtain ⟨m,rfl,rfl⟩:=Wv hv
  exact Anj k1 em m
 ·obtain ⟨d3,i3,z3,k1,k2,k3,k4,k5,k6,k7,k8,k9,k10,k11⟩:=hY kt (by simp [Ty.known,hks])
  have heq:=k10 heqi
  rw [hsz] at heq
  obtain ⟨rfl,hlen⟩:=Wy hv
  exact (heq key key hlen hlen w).2.2 em
theorem Ank {kn:Nat} {v v':Value} {key:List Int} (hv:Bj kn v=some key) (hv':Bj kn v'=some key):(Instr.keyThatStays v' v).run P w=.ok v w:=by
 rw [Wx hv,Wx hv']
 have hsb:Instr.sameBits 10000 (Ww kn key) (Ww kn key)=true:=by
  unfold Ww
  split
  ·simp [Instr.sameBits]
  ·rw [show (10000:Nat)=9999+1 from rfl]
   unfold Instr.sameBits
   simp only [beq_self_eq_true,Bool.true_and,List.all_eq_true]
   intro p hp
   obtain ⟨i,hi,rfl⟩:=List.mem_iff_getElem.1 hp
   simp [Instr.sameBits]
 simp [Instr.keyThatStays,hsb]
theorem Anl (hY:YOK P Y) {t kt et:TypeId} {kn:Nat} {key:List Int} {kv:Value} {ag:Bool} {dom:List Int->Bool} {val:List Int->List C} {es:Array MapEntry} {clock b:Nat} {ok:Bool} (hk:(Y t).kind=.map kt et) (hkt:Lv (Y kt)=some kn) (hkv:Bj kn kv=some key) (hag:(Y et).agg=some ag) (hz:(Y et).zero.all Value.oneCell'=true)
  (hb:w.heap[b]?=some (.map es clock)) (hen:Pk G.vis w kn ag dom val es clock) {r r':List (Nat×Nat)} {out:Out} (h:(Rn (Y et) ag key dom val ok).run e.get r=some (out,r')) (hv:∀ p∈out.vc,p):
  ∃ v,(Instr.lookup t (.map (some b)) kv ok).run P w=.ok v w/\out.wr=[]/\out.hyp=[]/\VOK G w O Y e out.val v:=by
 obtain ⟨d2,i2,z2,h1,h2,h3,h4,h5,h6,h7,h8⟩:=hY t (by simp [Ty.known,hk])
 rw [hk] at h7
 simp only [KOK] at h7
 subst h7
 obtain ⟨z,hzr,hzc⟩:=We hY (Dv hag) w
 obtain ⟨hkeys,hent⟩:=hen
 -- the value,and what it reads as
 have keyH:∀ (v:Value),(dom key=true->∃ (i:Nat) (en:MapEntry),es[i]?=some en/\Bj kn en.key=some key/\v=en.val)->(dom key=false->v=z)->(dom key=false->val key=vsC (Y et).zero)->
   Lz ag v/\Av G.vis w (val key) (Fx ag v):=by
  intro v h1 h2 h3
  cases hd:dom key with
  |true=>
   obtain ⟨i,en,g1,g2,rfl⟩:=h1 hd
   exact hent i en key g1 g2
  |false=>
   rw [h2 hd,h3 hd]
   have hshape:Lz ag z/\Fx ag z=z.cells.toList:=by
    obtain ⟨d4,i4,z4,q1,q2,q3,q4,q5,q6,q7,q8,q9,q10,q11⟩:=hY et (Dv hag)
    have hzz:z=z4:=by
     have:(zeroValue et).run P w=.ok z4 w:=by simp [zeroValue,typeInfo,q2,q5]
     rw [this] at hzr
     simpa using hzr.symm
    subst hzz
    have:=q11.1 ag hag
    cases ag with
    |true=>
     obtain ⟨cs,rfl⟩:=this
     exact ⟨⟨cs,rfl⟩,rfl⟩
    |false=>
     have this:z.oneCell'=true:=this
     exact ⟨this,by cases z<;>first|rfl|simp [Value.oneCell'] at this⟩
   rw [hshape.2,hzc]
   exact ⟨hshape.1,Wu hz⟩
 -- what the code comes to
 have hrun:∃ v,(Instr.lookup t (.map (some b)) kv ok).run P w=.ok (if ok then .tuple #[v,.bool (dom key)] else v) w/\(dom key=true->∃ (i:Nat) (en:MapEntry),es[i]?=some en/\Bj kn en.key=some key/\v=en.val)/\(dom key=false->v=z):=by
  rcases find_keyG (w:=w) hY hkt hkeys hkv with ⟨hd,i,en,g1,g2,g3⟩|⟨hd,g1,g2⟩
  ·refine ⟨en.val,?_,fun _=>⟨i,en,g1,g2,rfl⟩,fun hh=>by rw [hd] at hh;cases hh⟩
   simp [Instr.lookup,run_underlying h1,MapKept.run_getObj_map hb,Pq hY hkt hkv,g3,hd]
  ·refine ⟨z,?_,fun hh=>(by rw [hd] at hh;cases hh),fun _=>rfl⟩
   simp [Instr.lookup,run_underlying h1,MapKept.run_getObj_map hb,Pq hY hkt hkv,g2,hzr,hd]
 obtain ⟨v,hrun,hv1,hv2⟩:=hrun
 -- its shape
 have one:∀ {d:D},asD ag ((val key).map C.dem)=some (.d d)->(dom key=false->val key=vsC (Y et).zero)->Aw G.vis w O d v/\VOK G w O Y e (.d d) v:=by
  intro d hd hz0
  obtain ⟨s1,s2⟩:=keyH v hv1 hv2 hz0
  have s2:=s2.dem
  unfold asD at hd
  split at hd
  ·simp only [Option.some.injEq,T.d.injEq] at hd
   subst hd
   obtain ⟨cs,rfl⟩:=s1
   exact ⟨⟨cs,rfl,s2⟩,VOK.agg s2⟩
  ·rename_i c hc _
   simp only [Option.some.injEq,T.d.injEq] at hd
   subst hd
   rw [hc] at s2
   have hcv:Rep G.vis w c v:=s2.2 0 c v rfl rfl
   have hcd:c=c.dem:=by
    cases hvn:val key with
    |nil=>rw [hvn] at hc;cases hc
    |cons c0 l=>
     rw [hvn] at hc
     simp only [List.map_cons,List.cons.injEq] at hc
     rw [<-hc.1]
     cases c0<;>rfl
   refine ⟨hcv,?_⟩
   rw [hcd]
   exact VOK.dem (x:=.c c) hcv
  ·cases hd
 unfold Rn at h
 split at h
 ·rename_i d hd
  simp only [M.run,Option.some.injEq,Prod.mk.injEq] at h
  obtain ⟨rfl,_⟩:=h
  obtain ⟨g1,g2⟩:=one hd (hv _ List.mem_cons_self)
  refine ⟨_,hrun,rfl,rfl,.plain ?_ rfl rfl trivial⟩
  simp only [Aa,if_true]
  refine ⟨_,rfl,rfl,fun j x u hj hu=>?_⟩
  match j with
  |0=>simp at hj hu;subst hj;subst hu;exact g1
  |1=>simp at hj hu;subst hj;subst hu;exact Rep.v _ rfl
  |j+2=>simp at hj
 ·rename_i x hx
  simp only [M.run,Option.some.injEq,Prod.mk.injEq] at h
  obtain ⟨rfl,_⟩:=h
  refine ⟨_,hrun,rfl,rfl,?_⟩
  simp only [Bool.false_eq_true,if_false]
  have hxd:∃ d,x=.d d:=by
   unfold asD at hx
   split at hx<;>first|(simp only [Option.some.injEq] at hx;exact ⟨_,hx.symm⟩)|cases hx
  obtain ⟨d,rfl⟩:=hxd
  exact (one hx (hv _ List.mem_cons_self)).2
 ·exact (Ac h).elim
end
section
variable {P:Program} {Y:TypeId->Ty} {X:Cx} {nt:Nat} {ds:List Deferred} {e:Env} {a:Act} {w:World} {G:Gh} {O:Nat->Prop}
theorem Afn {x:Option Bool} {b:Bool} (h:(x==some b)=true):x=some b:=by
 cases x with
 |none=>cases h
 |some c=>cases b<;>cases c<;>first|rfl|cases h
theorem Anm (hY:YOK P Y) (R:Rel Y X nt ds e a w G) {o:Oper} {p q:Operand} {t:TypeId} {x k:T} {ok:Bool} (ho:o.op=.lookup t p q ok) (hx:VOK G w X.fz Y e x (a.eval p)) (hy:VOK G w X.fz Y e k (a.eval q))
  {r r':List (Nat×Nat)} {out:Out} (h:(Aad Y (Y t) x k ok).run e.get r=some (out,r')) (hv:∀ p∈out.vc,p):OpR P Y X nt ds e a w o out:=by
 unfold Aad at h
 split at h
 ·rename_i kt et key hk hkey
  have fin:∀ {kn:Nat} {ag:Bool} {dom:List Int->Bool} {val:List Int->List C} {b:Nat} {es:Array MapEntry} {cl:Nat} {r r':List (Nat×Nat)},(Ng (Y kt) kn key&&(Y et).agg==some ag&&(Y et).zero.all Value.oneCell')=true->
    a.eval p=.map (some b)->w.heap[b]?=some (.map es cl)->Pk G.vis w kn ag dom val es cl->(Rn (Y et) ag key.2 dom val ok).run e.get r=some (out,r')->OpR P Y X nt ds e a w o out:=by
   intro kn ag dom val b es cl r r' hb hp hh hen h
   obtain ⟨hb,hz⟩:=and_true hb
   obtain ⟨hb,hag⟩:=and_true hb
   have hag:=Afn hag
   obtain ⟨k1,hq⟩:=Abu hb hkey hy
   obtain ⟨v,g1,g2,g3,g4⟩:=Anl (O:=X.fz) (e:=e) hY hk k1 hq hag hz hh hen h hv
   have:out=⟨out.vc,[],out.val,[]⟩:=by rw [<-g2,<-g3]
   rw [this]
   refine OpR.pure R (v:=v) ?_ g4 (fun _ h=>(by cases h))
   simp [execOp,ho,hp,g1]
  split at h
  ·rename_i id
   simp only [M.run] at h
   split at h
   ·rename_i fz kn ag dom val hobj
    replace h:=Ak h
    obtain ⟨hb,h⟩:=h
    have hp:=hx.rel
    simp only [Aa] at hp
    have:=(R.mem.box id (by rw [hobj];simp)).2.2
    rw [hobj] at this
    obtain ⟨⟨es,cl,g1,g2⟩,_⟩:=this
    exact fin hb hp g1 g2 h
   ·exact (Ac h).elim
  ·rename_i kn ag dom val
   replace h:=Ak h
   obtain ⟨hb,h⟩:=h
   have hr:=hx.reld
   generalize hpv:a.eval p=pv at hr
   have hr:Rep G.vis w (.m kn ag dom val) pv:=hr
   cases hr with
   |m _ _ _ _ b es cl c1 c2 c3 c4 c5=>exact fin hb hpv c2 ⟨c3,fun i en k he hk=>⟨(c4 i en k he hk).1,(c4 i en k he hk).2,fun j c u hc hu=>c5 i j en k c u he hk hc hu⟩⟩ h
  ·exact (Ac h).elim
 ·exact (Ac h).elim
theorem Nt {a b:List Int}:eqK a b=true↔a=b:=Wz
theorem Nu (val:List Int->List C) (key:List Int) (cs:List C) (k:List Int):Dl val key cs k=if k=key then cs else val k:=by
 unfold Dl
 cases h:eqK k key with
 |true=>rw [if_pos (Nt.1 h)];rfl
 |false=>rw [if_neg (fun hh=>by rw [Nt.2 hh] at h;cases h)];rfl
theorem Gw (dom:List Int->Bool) (key k:List Int):Ca dom key k=true↔k=key∨dom k=true:=by
 unfold Ca
 simp only [Bool.or_eq_true,Nt]
theorem Afo (hY:YOK P Y) (R:Rel Y X nt ds e a w G) {o:Oper} {p q s:Operand} {t:TypeId} {x k y:T} (ho:o.op=.mapUpdate t p q s∨o.op=.insert t p q s) (hx:VOK G w X.fz Y e x (a.eval p)) (hk':VOK G w X.fz Y e k (a.eval q)) (hy:VOK G w X.fz Y e y (a.eval s))
  {r r':List (Nat×Nat)} {out:Out} (h:(Vd Y (Y t) x k y).run e.get r=some (out,r')):OpR P Y X nt ds e a w o out:=by
 unfold Vd at h
 split at h
 ·rename_i kt et key id hk hkey
  simp only [M.run] at h
  split at h
  ·rename_i kn ag dom val hobj
   split at h
   ·rename_i cs hcs
    replace h:=Ak h
    obtain ⟨hb,h⟩:=h
    obtain ⟨hb,hag⟩:=and_true hb
    have hag:=Afn hag
    simp only [M.run,Option.some.injEq,Prod.mk.injEq] at h
    obtain ⟨rfl,_⟩:=h
    obtain ⟨k1,hq⟩:=Abu hb hkey hk'
    obtain ⟨_,key⟩:=key
    dsimp only at hq hb ⊢
    generalize hkvq:a.eval q=kv at hq hk'
    have hp:=hx.rel
    simp only [Aa] at hp
    have hid:e.get 2 id≠.any:=by rw [hobj];simp
    have hobj':=(R.mem.box id hid).2.2
    rw [hobj] at hobj'
    obtain ⟨⟨es,cl,g1,hkeys,hent⟩,_,g3⟩:=hobj'
    have hv0:=g3 rfl
    obtain ⟨d2,i2,z2,h1,h2,h3,h4,h5,h6,h7,h8⟩:=hY t (by simp [Ty.known,hk])
    rw [hk] at h7
    simp only [KOK] at h7
    subst h7
    -- the new value,as an entry's
    have hnew:Lz ag (a.eval s)/\Av G.vis w (cs.map C.dem) (Fx ag (a.eval s)):=by
     unfold Aeb at hcs
     split at hcs
     ·simp only [Option.some.injEq] at hcs
      subst hcs
      obtain ⟨vs,hvs,hr⟩:=hy.reld
      rw [hvs]
      exact ⟨⟨vs,rfl⟩,hr.dem⟩
     ·simp only [Option.some.injEq] at hcs
      subst hcs
      have hr:Rep G.vis w _ (a.eval s):=hy.reld
      exact ⟨Jp hr,Av.dem ⟨rfl,fun j c u hj hu=>by
       match j with
       |0=>simp [Fx] at hj hu;subst hj;subst hu;exact hr
       |j+1=>simp at hj⟩⟩
     ·cases hcs
    have fin:∀ (es':Array MapEntry) (cl':Nat),(Instr.mapUpdate t (.map (some (G.bk id))) kv (a.eval s)).run P w=.ok () { w with heap:=w.heap.setIfInBounds (G.bk id) (.map es' cl') }->
      Ma kn es' cl' (Ca dom key)->(∀ (i:Nat) en k,es'[i]?=some en->Bj kn en.key=some k->(k=key/\en.val=a.eval s)∨(k≠key/\∃ (i':Nat) (en':MapEntry),es[i']?=some en'/\Bj kn en'.key=some k/\en.val=en'.val))->
      OpR P Y X nt ds e a w o ⟨[],[],.any,[(2,id,.mapc false kn ag (Ca dom key) (Dl val key (cs.map C.dem)))]⟩:=by
     intro es' cl' hrun hkeys' hent'
     have hput:=Se R hid hv0 g1 (ob':=.map es' cl') (by simp) (fun _ _ _ hh=>(by cases hh)) (st:=.mapc false kn ag (Ca dom key) (Dl val key (cs.map C.dem))) (by simp) (by simp [live]) (by rw [hobj];simp [live]) (fun hkv=>by
      refine ⟨⟨es',cl',?_,hkeys',fun i en k he hk=>?_⟩,fun hh=>(by cases hh),fun _=>hv0⟩
      ·have hlt:=(R.mem.box id hid).2.1
       simp [Array.getElem?_setIfInBounds,hlt]
      ·rw [Nu]
       rcases hent' i en k he hk with ⟨rfl,hval⟩|⟨hne,i',en',q1,q2,q3⟩
       ·rw [if_pos rfl,hval]
        exact ⟨hnew.1,hnew.2.mono' (fun _=>Nat.le_refl _) hkv⟩
       ·rw [if_neg hne,q3]
        obtain ⟨q4,q5⟩:=hent i' en' k q1 q2
        exact ⟨q4,q5.mono' (fun _=>Nat.le_refl _) hkv⟩)
     refine ⟨.skip,undef,_,G,?_,.inr ⟨rfl,rfl⟩,fun _ h=>(by cases h),hput.1,VOK.any _⟩
     rcases ho with ho|ho<;>simp [execOp,ho,hp,hkvq,hrun]
    rcases find_keyG (w:=w) hY k1 hkeys hq with ⟨hd,i,en,f1,f2,f3⟩|⟨hd,f1,f2⟩
    ·-- the key is there
     have hkey:en.key=kv:=by rw [Wx f2,Wx hq]
     have hget:∀ (j:Nat) en',(es.modify i fun en=>{ en with key:=kv,val:=a.eval s })[j]?=some en'->∃ en0,es[j]?=some en0/\en'=if i=j then { en0 with key:=kv,val:=a.eval s } else en0:=by
      intro j en' hj
      rw [Array.getElem?_modify] at hj
      split at hj
      ·rename_i hij
       cases h0:es[j]? with
       |none=>rw [h0] at hj;cases hj
       |some en0=>
        rw [h0] at hj
        simp only [Option.map_some,Option.some.injEq] at hj
        exact ⟨en0,rfl,by rw [if_pos hij,<-hj]⟩
      ·rename_i hij
       exact ⟨en',hj,by rw [if_neg hij]⟩
     have hkk:∀ (j:Nat) en' k,(es.modify i fun en=>{ en with key:=kv,val:=a.eval s })[j]?=some en'->Bj kn en'.key=some k->∃ en0,es[j]?=some en0/\Bj kn en0.key=some k/\(i=j->k=key/\en'.val=a.eval s)/\(i≠j->en'=en0):=by
      intro j en' k hj hk
      obtain ⟨en0,h0,rfl⟩:=hget j en' hj
      by_cases hij:i=j
      ·subst hij
       rw [f1] at h0
       obtain rfl:=Option.some.inj h0
       rw [if_pos rfl] at hk
       have hk2:some key=some k:=by rw [<-hq];exact hk
       have hk3:=Option.some.inj hk2
       exact ⟨en,f1,by rw [f2];exact hk2,fun _=>⟨hk3.symm,by rw [if_pos rfl]⟩,fun hh=>absurd rfl hh⟩
      ·rw [if_neg hij] at hk
       exact ⟨en0,h0,hk,fun hh=>absurd hh hij,fun _=>by rw [if_neg hij]⟩
     refine fin (es.modify i fun en=>{ en with key:=kv,val:=a.eval s }) cl ?_ ⟨fun j en' hj=>?_,fun k hk=>?_,fun j j' en1 en2 k h1 h2 h3 h4=>?_,Alm hkeys.2.2.2 _ _ fun _=>rfl⟩ (fun j en' k hj hk=>?_)
     ·simp [Instr.mapUpdate,run_underlying h1,MapKept.run_getObj_map g1,Pq hY k1 hq,f3,f1,hkey,Ank hq hq,MapKept.run_setObj_map _ g1]
     ·obtain ⟨en0,h0,rfl⟩:=hget j en' hj
      obtain ⟨k,c1,c2⟩:=hkeys.1 j en0 h0
      by_cases hij:i=j
      ·rw [if_pos hij];exact ⟨key,hq,(Gw _ _ _).2 (.inl rfl)⟩
      ·rw [if_neg hij];exact ⟨k,c1,(Gw _ _ _).2 (.inr c2)⟩
     ·have hdk:dom k=true:=by
       rcases (Gw _ _ _).1 hk with rfl|hk
       ·exact hd
       ·exact hk
      obtain ⟨j,en0,c1,c2⟩:=hkeys.2.1 k hdk
      refine ⟨j,if i=j then { en0 with key:=kv,val:=a.eval s } else en0,?_,?_⟩
      ·rw [Array.getElem?_modify,c1]
       split<;>rfl
      ·split
       ·rename_i hij
        subst hij
        rw [f1] at c1
        obtain rfl:=Option.some.inj c1
        rw [f2] at c2
        show Bj kn kv=some k
        rw [hq];exact c2
       ·exact c2
     ·obtain ⟨e1,q1,q2,_⟩:=hkk j en1 k h1 h3
      obtain ⟨e2,q3,q4,_⟩:=hkk j' en2 k h2 h4
      exact hkeys.2.2.1 j j' e1 e2 k q1 q3 q2 q4
     ·obtain ⟨en0,q1,q2,q3,q4⟩:=hkk j en' k hj hk
      by_cases hij:i=j
      ·exact .inl (q3 hij)
      ·refine .inr ⟨fun hkn=>hij ?_,j,en0,q1,q2,by rw [q4 hij]⟩
       subst hkn
       exact hkeys.2.2.1 i j en en0 _ f1 q1 f2 q2
    ·-- a new key
     have hget:∀ (j:Nat) en',(es.push { key:=kv,val:=a.eval s,born:=cl })[j]?=some en'->(es[j]?=some en'/\j<es.size)∨(j=es.size/\en'={ key:=kv,val:=a.eval s,born:=cl }):=by
      intro j en' hj
      rw [Array.getElem?_push] at hj
      split at hj
      ·rename_i hjs
       simp only [Option.some.injEq] at hj
       exact .inr ⟨hjs,hj.symm⟩
      ·exact .inl ⟨hj,(Array.getElem?_eq_some_iff.1 hj).1⟩
     refine fin (es.push { key:=kv,val:=a.eval s,born:=cl }) (cl+1) ?_ ⟨fun j en' hj=>?_,fun k hk=>?_,fun j j' en1 en2 k h1 h2 h3 h4=>?_,All hkeys.2.2.2 _ _⟩ (fun j en' k hj hk=>?_)
     ·simp [Instr.mapUpdate,run_underlying h1,MapKept.run_getObj_map g1,Pq hY k1 hq,f2,MapKept.run_setObj_map _ g1]
     ·rcases hget j en' hj with ⟨h0,_⟩|⟨_,rfl⟩
      ·obtain ⟨k,c1,c2⟩:=hkeys.1 j en' h0
       exact ⟨k,c1,(Gw _ _ _).2 (.inr c2)⟩
      ·exact ⟨key,hq,(Gw _ _ _).2 (.inl rfl)⟩
     ·rcases (Gw _ _ _).1 hk with rfl|hk
      ·exact ⟨es.size,_,by rw [Array.getElem?_push,if_pos rfl],hq⟩
      ·obtain ⟨j,en0,c1,c2⟩:=hkeys.2.1 k hk
       refine ⟨j,en0,?_,c2⟩
       have:=(Array.getElem?_eq_some_iff.1 c1).1
       rw [Array.getElem?_push,if_neg (by omega)]
       exact c1
     ·have hkn:∀ {k':List Int},Bj kn kv=some k'->k'=key:=fun hh=>by rw [hq] at hh;exact (Option.some.inj hh).symm
      rcases hget j en1 h1 with ⟨q1,q2⟩|⟨q1,rfl⟩<;>rcases hget j' en2 h2 with ⟨q3,q4⟩|⟨q3,rfl⟩
      ·exact hkeys.2.2.1 j j' en1 en2 k q1 q3 h3 h4
      ·rw [hkn h4] at h3;exact absurd h3 (f1 j en1 q1)
      ·rw [hkn h3] at h4;exact absurd h4 (f1 j' en2 q3)
      ·omega
     ·rcases hget j en' hj with ⟨q1,q2⟩|⟨_,rfl⟩
      ·exact .inr ⟨fun hkn=>f1 j en' q1 (by rw [hk,hkn]),j,en',q1,hk,rfl⟩
      ·refine .inl ⟨?_,rfl⟩
       have hk:Bj kn kv=some k:=hk
       rw [hq] at hk
       exact (Option.some.inj hk).symm
   ·exact (Ac h).elim
  ·exact (Ac h).elim
 ·exact (Ac h).elim
theorem Xb (dom:List Int->Bool) (key k:List Int):Ou dom key k=true↔k≠key/\dom k=true:=by
 unfold Ou
 rw [Bool.and_eq_true,Bool.not_eq_true',<-Bool.not_eq_true]
 exact and_congr (not_congr Nt) Iff.rfl
theorem Ann (hY:YOK P Y) (R:Rel Y X nt ds e a w G) {o:Oper} {p q:Operand} {t t2:TypeId} {x k:T} (ho:o.op=.call { callee:=.builtin .delete,args:=#[p,q],argTypes:=#[t,t2] }) (hx:VOK G w X.fz Y e x (a.eval p)) (hk':VOK G w X.fz Y e k (a.eval q))
  {r r':List (Nat×Nat)} {out:Out} (h:(Aae Y (Y t) x k).run e.get r=some (out,r')):OpR P Y X nt ds e a w o out:=by
 unfold Aae at h
 split at h
 ·rename_i kt et key id hk hkey
  simp only [M.run] at h
  split at h
  ·rename_i kn ag dom val hobj
   obtain ⟨hb,h⟩:=Ak h
   simp only [M.run,Option.some.injEq,Prod.mk.injEq] at h
   obtain ⟨rfl,_⟩:=h
   obtain ⟨k1,hq⟩:=Abu hb hkey hk'
   obtain ⟨_,key⟩:=key
   dsimp only at hq hb ⊢
   generalize hkvq:a.eval q=kv at hq hk'
   have hp:=hx.rel
   simp only [Aa] at hp
   have hid:e.get 2 id≠.any:=by rw [hobj];simp
   have hobj':=(R.mem.box id hid).2.2
   rw [hobj] at hobj'
   obtain ⟨⟨es,cl,g1,hkeys,hent⟩,_,g3⟩:=hobj'
   have hv0:=g3 rfl
   obtain ⟨d2,i2,z2,h1,h2,h3,h4,h5,h6,h7,h8⟩:=hY t (by simp [Ty.known,hk])
   rw [hk] at h7
   simp only [KOK] at h7
   subst h7
   have fin:∀ (es':Array MapEntry),(Builtin.delete_ #[t,t2] o.type #[.map (some (G.bk id)),kv]).run P w=.ok (.tuple #[]) { w with heap:=w.heap.setIfInBounds (G.bk id) (.map es' cl) }->
     Ma kn es' cl (Ou dom key)->(∀ (i:Nat) en,es'[i]?=some en->∃ (i':Nat),es[i']?=some en)->
     OpR P Y X nt ds e a w o ⟨[],[],.any,[(2,id,.mapc false kn ag (Ou dom key) val)]⟩:=by
    intro es' hrun hkeys' hent'
    have hput:=Se R hid hv0 g1 (ob':=.map es' cl) (by simp) (fun _ _ _ hh=>(by cases hh)) (st:=.mapc false kn ag (Ou dom key) val) (by simp) (by simp [live]) (by rw [hobj];simp [live]) (fun hkv=>by
     refine ⟨⟨es',cl,?_,hkeys',fun i en k he hk=>?_⟩,fun hh=>(by cases hh),fun _=>hv0⟩
     ·have hlt:=(R.mem.box id hid).2.1
      simp [Array.getElem?_setIfInBounds,hlt]
     ·obtain ⟨i',q1⟩:=hent' i en he
      obtain ⟨q4,q5⟩:=hent i' en k q1 hk
      exact ⟨q4,q5.mono' (fun _=>Nat.le_refl _) hkv⟩)
    refine ⟨.value (.tuple #[]),.tuple #[],_,G,?_,.inl rfl,fun _ h=>(by cases h),hput.1,VOK.any _⟩
    simp [execOp,ho,hp,hkvq,resolve,invoke,builtin,hrun]
   rcases find_keyG (w:=w) hY k1 hkeys hq with ⟨hd,i,en,f1,f2,f3⟩|⟨hd,f1,f2⟩
   ·have hi:i<es.size:=(Array.getElem?_eq_some_iff.1 f1).1
    have he:es.eraseIdxIfInBounds i=es.eraseIdx i hi:=by unfold Array.eraseIdxIfInBounds;rw [dif_pos hi]
    have hget:∀ (j:Nat),(es.eraseIdxIfInBounds i)[j]?=es[if j<i then j else j+1]?:=fun j=>by
     rw [he,Array.getElem?_eraseIdx]
     split<;>rfl
    refine fin (es.eraseIdxIfInBounds i) ?_ ⟨fun j en' hj=>?_,fun k hk=>?_,fun j j' en1 en2 k h1 h2 h3 h4=>?_,fun e' he'=>?_,?_⟩ (fun j en' hj=>⟨_,by rw [hget] at hj;exact hj⟩)
    ·simp [Builtin.delete_,run_underlying h1,MapKept.run_getObj_map g1,Pq hY k1 hq,f3,MapKept.run_setObj_map _ g1]
    ·rw [hget] at hj
     obtain ⟨k,c1,c2⟩:=hkeys.1 _ en' hj
     refine ⟨k,c1,(Xb _ _ _).2 ⟨fun hh=>?_,c2⟩⟩
     have:=hkeys.2.2.1 _ i en' en k hj f1 c1 (by rw [f2,hh])
     split at this<;>omega
    ·obtain ⟨hne,hdk⟩:=(Xb _ _ _).1 hk
     obtain ⟨j,en0,c1,c2⟩:=hkeys.2.1 k hdk
     have hji:j≠i:=fun hh=>by
      subst hh
      rw [f1] at c1
      obtain rfl:=Option.some.inj c1
      rw [f2] at c2
      exact hne (Option.some.inj c2).symm
     refine ⟨if j<i then j else j - 1,en0,?_,c2⟩
     rw [hget]
     rcases Nat.lt_or_gt_of_ne hji with h|h
     ·rw [if_pos h,if_pos h];exact c1
     ·rw [if_neg (show ¬ j<i by omega),if_neg (by omega),Nat.sub_add_cancel (by omega)];exact c1
    ·rw [hget] at h1 h2
     have:=hkeys.2.2.1 _ _ en1 en2 k h1 h2 h3 h4
     split at this<;>split at this<;>omega
    ·rw [he,Array.toList_eraseIdx] at he'
     exact hkeys.2.2.2.1 e' (List.mem_of_mem_eraseIdx he')
    ·rw [he,Array.toList_eraseIdx]
     exact List.Nodup.sublist ((List.eraseIdx_sublist _ _).map _) hkeys.2.2.2.2
   ·refine fin es ?_ ⟨fun j en' hj=>?_,fun k hk=>hkeys.2.1 k ((Xb _ _ _).1 hk).2,hkeys.2.2.1,hkeys.2.2.2⟩ (fun j en' hj=>⟨j,hj⟩)
    ·simp [Builtin.delete_,run_underlying h1,MapKept.run_getObj_map g1,Pq hY k1 hq,f2,MapKept.run_setObj_map _ g1]
    ·obtain ⟨k,c1,c2⟩:=hkeys.1 _ en' hj
     exact ⟨k,c1,(Xb _ _ _).2 ⟨fun hh=>f1 j en' hj (by rw [c1,hh]),c2⟩⟩
  ·exact (Ac h).elim
 ·exact (Ac h).elim
theorem Ano (hY:YOK P Y) (R:Rel Y X nt ds e a w G) {o:Oper} {t:TypeId} (ho:o.op=.makeMap t none)
  {r r':List (Nat×Nat)} {out:Out} (h:(Aaf Y (Y t) o.dst).run e.get r=some (out,r')):OpR P Y X nt ds e a w o out:=by
 unfold Aaf at h
 split at h
 ·rename_i kt et hk
  split at h
  ·rename_i ag kn hag hkn
   obtain ⟨d,_,hd,hf,rfl⟩:=Gu h
   obtain ⟨G',q1,q2,R',lift,q3⟩:=Gt R hd hf (.map #[] 0) (st:=.mapc false kn ag (fun _=>false) fun _=>vsC (Y et).zero) (ce:=[]) (by simp) (fun t k h=>rfl)
    (fun G' hvv=>⟨⟨#[],0,heap_alloc_new w _,⟨fun i en h=>(by simp at h),fun k h=>(by cases h),fun i j en en' k h=>(by simp at h),Alk 0⟩,fun i en k h=>(by simp at h)⟩,fun hh=>(by cases hh),fun _=>by rw [hvv];exact R.fresh _ (Nat.le_refl _)⟩)
    (fun G' lift k hk=>by
     rw [List.nil_append] at hk
     exact absurd (R.mem.cells d k hk).1 (by rw [hd];exact fun h=>Bh h.symm))
   refine ⟨_,.map (some w.heap.size),_,G',?_,.inl rfl,fun _ h=>(by cases h),R',VOK.ids_used (id:=d) (by simp only [Aa];rw [q2]) trivial rfl rfl (by
    have q3':Env.get ((2,d,.mapc false kn ag (fun _=>false) fun _=>vsC (Y et).zero)::[]++e) 2 d=.mapc false kn ag (fun _=>false) fun _=>vsC (Y et).zero:=q3
    show Env.get ((2,d,.mapc false kn ag (fun _=>false) fun _=>vsC (Y et).zero)::[]++e) 2 d≠.any
    rw [q3'];simp)⟩
   simp [execOp,ho,Instr.makeMap]
  ·exact (Ac h).elim
 ·exact (Ac h).elim
end
section
variable {P:Program} {Y:TypeId->Ty} {X:Cx} {nt:Nat} {ds:List Deferred} {e:Env} {a:Act} {w:World} {G:Gh} {O:Nat->Prop}
theorem Anp {vis:Nat->Nat}:∀ {xs:List C} {l:List Value} {vs:List Value},Nh xs=some l->Av vis w xs vs->vs=l:=by
 intro xs
 induction xs with
 |nil=>
  intro l vs h hr
  simp only [Nh,Option.some.injEq] at h
  subst h
  exact List.eq_nil_of_length_eq_zero hr.1.symm
 |cons x xs ih=>
  intro l vs h hr
  cases x with
  |v x=>
   simp only [Nh] at h
   cases hp:Nh xs with
   |none=>rw [hp] at h;cases h
   |some l'=>
    rw [hp] at h
    simp only [Option.map_some,Option.some.injEq] at h
    subst h
    cases vs with
    |nil=>have:=hr.1;simp at this
    |cons v vs=>
     have h1:=Mc (hr.2 0 _ v rfl rfl)
     have h2:vs=l':=ih hp ⟨by have:=hr.1;simpa using this,fun j c u hc hu=>hr.2 (j+1) c u (by simpa using hc) (by simpa using hu)⟩
     rw [h1,h2]
  |s _ _ _=>cases h
  |m _ _ _ _=>cases h
  |p _=>cases h
  |i _ _ _=>cases h
  |u=>cases h
theorem Anq {x:T} {v u:Value} (h:Aah x=some u) (hx:VOK G w O Y e x v):v=u:=by
 unfold Aah at h
 split at h
 ·simp only [Option.some.injEq] at h;subst h;exact Bs hx
 ·rename_i xs
  cases hp:Nh xs with
  |none=>rw [hp] at h;cases h
  |some l=>
   rw [hp] at h
   simp only [Option.map_some,Option.some.injEq] at h
   subst h
   obtain ⟨vs,rfl,hr⟩:=hx.reld
   have:=Anp hp hr
   rw [<-this]
 ·cases h
theorem Anr (hY:YOK P Y) (R:Rel Y X nt ds e a w G) {o:Oper} {p:Operand} {t:TypeId} {x:T} (ho:o.op=.makeInterface t p) (hx:VOK G w X.fz Y e x (a.eval p))
  {r r':List (Nat×Nat)} {out:Out} (h:(Aai t (Y t) x).run e.get r=some (out,r')):OpR P Y X nt ds e a w o out:=by
 unfold Aai at h
 split at h
 ·exact (Ac h).elim
 ·exact (Ac h).elim
 ·rename_i v hv hk1 hk2
  obtain rfl:=Bk h
  have hkn:(Y t).known=true:=by
   unfold Ty.known
   split
   ·rename_i hh;exact absurd hh hk2
   ·rfl
  obtain ⟨d,i,z,h1,h2,h3,h4,h5,h6,h7,h8⟩:=hY t hkn
  refine OpR.pure R (v:=.iface t v) ?_ (VOK.v _ rfl) (fun _ h=>(by cases h))
  have hnot:∀ ms,d≠.interface ms:=by
   intro ms hd
   subst hd
   cases hk:(Y t).kind<;>rw [hk] at h7<;>simp only [KOK] at h7
   case none=>exact hk2 hk
   case iface=>exact hk1 hk
   case ptr=>obtain ⟨_,h7⟩:=h7;cases h7
   case struct=>obtain ⟨_,h7,_⟩:=h7;cases h7
   case func=>obtain ⟨_,_,_,h7⟩:=h7;cases h7
   all_goals cases h7
  have hrun:(Instr.makeInterface t v).run P w=.ok (.iface t v) w:=by
   unfold Instr.makeInterface
   simp only [Sem.run_bind,run_underlying h1,Result.andThen_ok]
   cases d<;>first|rfl|exact absurd rfl (hnot _)
  simp [execOp,ho,Anq hv hx,hrun]
 ·rename_i hv hk1 hk2
  have hkn:(Y t).known=true:=by
   unfold Ty.known
   split
   ·rename_i hh;exact absurd hh hk2
   ·rfl
  obtain ⟨d,i,z,h1,h2,h3,h4,h5,h6,h7,h8⟩:=hY t hkn
  have hnot:∀ ms,d≠.interface ms:=by
   intro ms hd
   subst hd
   cases hk:(Y t).kind<;>rw [hk] at h7<;>simp only [KOK] at h7
   case none=>exact hk2 hk
   case iface=>exact hk1 hk
   case ptr=>obtain ⟨_,h7⟩:=h7;cases h7
   case struct=>obtain ⟨_,h7,_⟩:=h7;cases h7
   case func=>obtain ⟨_,_,_,h7⟩:=h7;cases h7
   all_goals cases h7
  have hrun:∀ v,(Instr.makeInterface t v).run P w=.ok (.iface t v) w:=by
   intro v
   unfold Instr.makeInterface
   simp only [Sem.run_bind,run_underlying h1,Result.andThen_ok]
   cases d<;>first|rfl|exact absurd rfl (hnot _)
  cases x with
  |d y=>
   cases y with
   |agg xs=>
    obtain rfl:=Bk h
    obtain ⟨vs,hvs,hr⟩:=hx.reld
    refine OpR.pure R (v:=.iface t (.agg vs)) ?_ (VOK.dem (x:=.c (.i t true (xs.map C.dem))) ?_) (fun _ h=>(by cases h))
    ·simp [execOp,ho,hvs,hrun]
    ·exact .i t true _ (.agg vs) ⟨vs,rfl⟩ hr.dem.1 fun j c u h1 h2=>hr.dem.2 j c u h1 h2
   |c c=>
    obtain rfl:=Bk h
    have hr:Rep G.vis w c (a.eval p):=hx.reld
    refine OpR.pure R (v:=.iface t (a.eval p)) ?_ (VOK.dem (x:=.c (.i t false [c.dem])) ?_) (fun _ h=>(by cases h))
    ·simp [execOp,ho,hrun]
    ·refine .i t false _ (a.eval p) (Jp hr) rfl fun j c' u h1 h2=>?_
     match j with
     |0=>simp [Fx] at h1 h2;subst h1;subst h2;exact hr.dem
     |j+1=>simp at h1
   |rd _=>exact (Ac h).elim
  |_=>exact (Ac h).elim
theorem Ans (hY:YOK P Y) {t:TypeId} (hk1:(Y t).kind≠.iface) (hk2:(Y t).kind≠.none):(Y t).known=true:=by
 unfold Ty.known
 split
 ·rename_i hh;exact absurd hh hk2
 ·rfl
theorem Ant (hY:YOK P Y) (R:Rel Y X nt ds e a w G) {o:Oper} {p:Operand} {t:TypeId} {x:T} (ho:o.op=.range t p) (hx:VOK G w X.fz Y e x (a.eval p))
  {r r':List (Nat×Nat)} {out:Out} (h:(Aan (Y t) o.dst x).run e.get r=some (out,r')):OpR P Y X nt ds e a w o out:=by
 unfold Aan at h
 split at h
 ·rename_i s hk
  obtain ⟨d,_,hd,hf,rfl⟩:=Gu h
  obtain ⟨d2,i2,z2,h1,h2,h3,h4,h5,h6,h7,h8⟩:=hY t (by simp [Ty.known,hk])
  rw [hk] at h7
  simp only [KOK] at h7
  subst h7
  have hp:=Bs hx
  obtain ⟨G',q1,q2,R',lift,q3⟩:=Gt R hd hf (.stringIter s 0) (st:=.itc s 0) (ce:=[]) (by simp) (fun t k h=>rfl)
   (fun G' hvv=>⟨by rw [hvv];exact R.fresh _ (Nat.le_refl _),heap_alloc_new w _⟩)
   (fun G' lift k hk=>by
    rw [List.nil_append] at hk
    exact absurd (R.mem.cells d k hk).1 (by rw [hd];exact fun h=>Bh h.symm))
  refine ⟨_,.pointer (some ⟨w.heap.size,0,none⟩),_,G',?_,.inl rfl,fun _ h=>(by cases h),R',VOK.ids_used (id:=d) (by simp only [Aa];rw [q2]) trivial rfl rfl (by
   have q3':Env.get ((2,d,.itc s 0)::[]++e) 2 d=.itc s 0:=q3
   show Env.get ((2,d,.itc s 0)::[]++e) 2 d≠.any
   rw [q3'];simp)⟩
  simp [execOp,ho,hp,run_range_string w t s h1,World.iter]
 ·rename_i kt et kn ag dom val hk
  obtain ⟨d,_,hd,hf,rfl⟩:=Gu h
  obtain ⟨d2,i2,z2,h1,h2,h3,h4,h5,h6,h7,h8⟩:=hY t (by simp [Ty.known,hk])
  rw [hk] at h7
  simp only [KOK] at h7
  subst h7
  have hp:Rep G.vis w (.m kn ag dom val) (a.eval p):=hx.reld
  generalize hpv:a.eval p=pv at hp
  cases hp with
  |m _ _ _ _ mb es cl g1 g2 g3 g4 g5=>
   have hlt:mb<w.heap.size:=(Array.getElem?_eq_some_iff.1 g2).1
   obtain ⟨G',q1,q2,R',lift,q3⟩:=Gt R hd hf (.mapIter (some mb) cl #[] cl) (st:=.mitc kn ag dom val [] none) (ce:=[]) (by simp) (fun t k h=>rfl)
    (fun G' hvv=>⟨by rw [hvv];exact R.fresh _ (Nat.le_refl _),mb,es,cl,#[],cl,heap_alloc_new w _,Nat.le_refl _,by rw [hvv];exact g1,(Cm w _ hlt).trans g2,
     ⟨g3,fun i en k he hk=>⟨(g4 i en k he hk).1,(g4 i en k he hk).2,fun j c u hc hu=>by rw [hvv];exact (g5 i j en k c u he hk hc hu).mono' (fun _=>Nat.le_refl _) (Po R _)⟩⟩,
     fun x hx=>(by cases hx),List.nodup_nil,fun e he k hk=>by simp,fun k hk=>(by cases hk)⟩)
    (fun G' lift k hk=>by
     rw [List.nil_append] at hk
     exact absurd (R.mem.cells d k hk).1 (by rw [hd];exact fun h=>Bh h.symm))
   refine ⟨_,.pointer (some ⟨w.heap.size,0,none⟩),_,G',?_,.inl rfl,fun _ h=>(by cases h),R',VOK.ids_used (id:=d) (by simp only [Aa];rw [q2]) trivial rfl rfl (by
    have q3':Env.get ((2,d,.mitc kn ag dom val [] none)::[]++e) 2 d=.mitc kn ag dom val [] none:=q3
    show Env.get ((2,d,.mitc kn ag dom val [] none)::[]++e) 2 d≠.any
    rw [q3'];simp)⟩
   simp [execOp,ho,hpv,run_range_map w t kt et mb es cl h1 g2]
 ·exact (Ac h).elim
theorem Afp {vis:Nat->Nat} {kn:Nat} {k:List Int} {v:Value} (h:Bj kn v=some k):Aw vis w O (Ut kn k) v:=by
 unfold Ut
 cases kn with
 |zero=>
  unfold Bj at h
  split at h
  ·simp only [Option.some.injEq] at h;subst h;exact Rep.v _ rfl
  ·rename_i hh;cases hh
  ·cases h
 |succ n=>
  obtain ⟨rfl,hl⟩:=Wy h
  refine ⟨_,rfl,by simp,fun j c u hc hu=>?_⟩
  simp only [List.getElem?_map] at hc hu
  cases hj:k[j]? with
  |none=>rw [hj] at hc;cases hc
  |some x=>
   rw [hj] at hc hu
   simp only [Option.map_some,Option.some.injEq] at hc hu
   subst hc;subst hu
   exact .v _ rfl
theorem Afq {vis:Nat->Nat} {ag:Bool} {cs:List C} {v:Value} (h1:Lz ag v) (h2:Av vis w cs (Fx ag v)):Aw vis w O (Uu ag cs) v:=by
 unfold Uu
 cases ag with
 |true=>
  obtain ⟨vs,rfl⟩:=h1
  exact ⟨vs,rfl,h2.dem⟩
 |false=>
  have hl:=h2.1
  have:∃ c,cs=[c]:=by
   match cs,hl with
   | [c],_=>exact ⟨c,rfl⟩
  obtain ⟨c,rfl⟩:=this
  exact (h2.2 0 c v rfl rfl).dem
theorem Anu (R:Rel Y X nt ds e a w G) {o:Oper} {p:Operand} {x:T} (ho:o.op=.entry p) (hx:VOK G w X.fz Y e x (a.eval p))
  {r r':List (Nat×Nat)} {out:Out} (h:(Aao x).run e.get r=some (out,r')):OpR P Y X nt ds e a w o out:=by
 unfold Aao at h
 split at h
 ·rename_i id
  simp only [M.run] at h
  split at h
  ·rename_i kn ag dom val hh k hobj
   obtain rfl:=Bk h
   have hid:e.get 2 id≠.any:=by rw [hobj];simp
   have hobj':=(R.mem.box id hid).2.2
   rw [hobj] at hobj'
   obtain ⟨q0,mb,es,cl,seen,c0,q1,q2,q3,q4,⟨q5,q6⟩,q7,q8,q9,q10⟩:=hobj'
   obtain ⟨en,e1,e2,rfl,s0,rfl⟩:=q10 k rfl
   obtain ⟨i,hi,hi2⟩:=List.mem_iff_getElem.1 e1
   have hi3:es[i]?=some en:=by rw [<-Array.getElem?_toList,<-hi2];exact List.getElem?_eq_getElem hi
   have hp:=hx.rel
   simp only [Aa] at hp
   refine OpR.pure R (v:=.tuple #[en.key,en.val]) ?_ ?_ (fun _ h=>(by cases h))
   ·simp [execOp,ho,hp,run_entry_at w _ mb c0 s0 es c0 en q1 q4 e1 q5.2.2.2.2]
   ·refine .plain ?_ rfl rfl trivial
    simp only [Aa]
    refine ⟨_,rfl,rfl,fun j x u hj hu=>?_⟩
    match j with
    |0=>simp at hj hu;subst hj;subst hu;exact Afp e2
    |1=>simp at hj hu;subst hj;subst hu;exact Afq (q6 i en k hi3 e2).1 (q6 i en k hi3 e2).2
    |j+2=>simp at hj
  ·exact (Ac h).elim
 ·exact (Ac h).elim
theorem Anv (R:Rel Y X nt ds e a w G) {o:Oper} {p:Operand} {x:T} {isS:Bool} (ho:o.op=.next p isS) (hx:VOK G w X.fz Y e x (a.eval p))
  {r r':List (Nat×Nat)} {out:Out} (h:(Aap x isS).run e.get r=some (out,r')):OpR P Y X nt ds e a w o out:=by
 unfold Aap at h
 split at h
 ·rename_i id
  simp only [M.run] at h
  split at h
  ·rename_i s pos hobj
   simp only [M.run,Option.some.injEq,Prod.mk.injEq] at h
   obtain ⟨rfl,_⟩:=h
   have hid:e.get 2 id≠.any:=by rw [hobj];simp
   have hobj':=(R.mem.box id hid).2.2
   rw [hobj] at hobj'
   obtain ⟨hv0,g1⟩:=hobj'
   have hlt:=(R.mem.box id hid).2.1
   have hp:=hx.rel
   simp only [Aa] at hp
   have hput:=fun st'=>Se R hid hv0 g1 (ob':=.stringIter s st') (by simp) (fun _ _ _ hh=>(by cases hh)) (st:=.itc s st') (by simp) (by simp [live]) (by rw [hobj];simp [live]) (fun hkv=>⟨hv0,by simp [hlt]⟩)
   cases hb:Nat.blt pos s.size with
   |true=>
    have hlt':pos<s.size:=Bg hb
    obtain ⟨R',lift⟩:=hput (pos+Aam s pos)
    refine ⟨_,.tuple #[.bool true,.int .i64 pos,.int .i32 (Aal s pos)],_,G,?_,.inl rfl,fun _ h=>(by cases h),R',.plain ?_ rfl rfl trivial⟩
    ·simp only [execOp,ho,hp]
     simp [Instr.next,getObj,setObj,Sem.run,g1,hlt',goInt,Aal,Aam]
    ·simp only [Aa]
     refine ⟨fun _=>⟨_,rfl,rfl,fun j x u hj hu=>?_⟩,fun hh=>(by cases hh)⟩
     match j with
     |0=>simp at hj hu;subst hj;subst hu;exact Rep.v _ rfl
     |1=>simp at hj hu;subst hj;subst hu;exact Rep.v _ rfl
     |2=>simp at hj hu;subst hj;subst hu;exact Rep.v _ rfl
     |j+3=>simp at hj
   |false=>
    have hlt':¬ pos<s.size:=fun h=>by rw [show Nat.blt pos s.size=true from Nat.ble_eq_true_of_le h] at hb;cases hb
    obtain ⟨R',lift⟩:=hput pos
    have hw:({ w with heap:=w.heap.setIfInBounds (G.bk id) (.stringIter s pos) }:World)=w:=by
     have:w.heap.setIfInBounds (G.bk id) (.stringIter s pos)=w.heap:=by
      apply Array.ext_getElem?
      intro i
      rw [Array.getElem?_setIfInBounds]
      split
      ·rename_i h;rw [<-h,g1];try simp [hlt]
      ·rfl
     rw [this]
    rw [hw] at R'
    refine ⟨_,.tuple #[.bool false],w,G,?_,.inl rfl,fun _ h=>(by cases h),R',.plain ?_ rfl rfl trivial⟩
    ·simp only [execOp,ho,hp]
     simp [Instr.next,getObj,Sem.run,g1,hlt']
    ·simp only [Aa]
     exact ⟨fun hh=>(by cases hh),fun _=>trivial⟩
  ·exact (Ac h).elim
 ·exact (Ac h).elim
theorem Abv (hY:YOK P Y) {t:TypeId} {d:D} (h:Ov (Y t)=some (.d d)) (hz:(Y t).zero.all Value.oneCell'=true):∃ z,(zeroValue t).run P w=.ok z w/\Aw G.vis w O d z:=by
 have hag:∃ ag,(Y t).agg=some ag:=by
  unfold Ov at h
  split at h
  ·rename_i h1;exact ⟨_,h1⟩
  ·rename_i h1;exact ⟨_,h1⟩
  ·cases h
 obtain ⟨ag,hag⟩:=hag
 obtain ⟨d2,i2,z2,h1,h2,h3,h4,h5,h6,h7,h8,h9,h10,h11⟩:=hY t (Dv hag)
 refine ⟨z2,by simp [zeroValue,typeInfo,h2,h5],?_⟩
 have h12:=h11.1 ag hag
 unfold Ov at h
 rw [hag] at h
 cases ag with
 |true=>
  simp only [Option.some.injEq,T.d.injEq] at h
  subst h
  obtain ⟨cs,rfl⟩:=h12
  exact ⟨cs,rfl,by have h6:cs.toList=(Y t).zero:=h6;rw [h6];exact Wu hz⟩
 |false=>
  dsimp only at h
  split at h
  ·rename_i v hv
   simp only [Option.some.injEq,T.d.injEq] at h
   subst h
   have h12:z2.oneCell'=true:=h12
   have hc:z2.cells.toList=[z2]:=by cases z2<;>first|rfl|simp [Value.oneCell'] at h12
   rw [hc,hv] at h6
   obtain ⟨rfl,_⟩:=List.cons.inj h6
   exact Rep.v _ h12
  ·cases h
theorem Abw {v:Value} {x:T} (h:T.ofPlain v=some x):∃ d,x=.d d/\Aw G.vis w O d v/\VOK G w O Y e x v:=by
 unfold T.ofPlain at h
 split at h
 ·rename_i cs
  cases hb:cs.toList.all Value.oneCell' with
  |false=>rw [hb] at h;cases h
  |true=>
   rw [hb] at h
   simp only [cond_true,Option.some.injEq] at h
   subst h
   exact ⟨_,rfl,⟨cs,rfl,Wu hb⟩,VOK.agg (Wu hb)⟩
 ·cases hb:v.oneCell' with
  |false=>rw [hb] at h;cases h
  |true=>
   rw [hb] at h
   simp only [cond_true,Option.some.injEq] at h
   subst h
   exact ⟨_,rfl,Rep.v _ hb,VOK.v _ hb⟩
theorem Sf {d:D} {v:Value} {b:Bool} (h:Aw G.vis w O d v):VOK G w O Y e (.tup [d,.c (Cb b)]) (.tuple #[v,.bool b]):=by
 refine .plain ?_ rfl rfl trivial
 simp only [Aa]
 refine ⟨_,rfl,rfl,fun j x u hj hu=>?_⟩
 match j with
 |0=>simp at hj hu;subst hj;subst hu;exact h
 |1=>simp at hj hu;subst hj;subst hu;exact Rep.v _ rfl
 |j+2=>simp at hj
theorem Abx {ag:Bool} {cs:List C} {d:D} {v:Value} (hd:asD ag (cs.map C.dem)=some (.d d)) (hs:Lz ag v) (hr:Av G.vis w cs (Fx ag v)):Aw G.vis w O d v/\VOK G w O Y e (.d d) v:=by
 have s2:=hr.dem
 unfold asD at hd
 split at hd
 ·simp only [Option.some.injEq,T.d.injEq] at hd
  subst hd
  obtain ⟨vs,rfl⟩:=hs
  exact ⟨⟨vs,rfl,s2⟩,VOK.agg s2⟩
 ·rename_i c hc
  simp only [Option.some.injEq,T.d.injEq] at hd
  subst hd
  rw [hc] at s2
  have hcv:Rep G.vis w c v:=s2.2 0 c v rfl rfl
  have hcd:c=c.dem:=by
   cases hvn:cs with
   |nil=>rw [hvn] at hc;cases hc
   |cons c0 l=>
    rw [hvn] at hc
    simp only [List.map_cons,List.cons.injEq] at hc
    rw [<-hc.1]
    cases c0<;>rfl
  refine ⟨hcv,?_⟩
  rw [hcd]
  exact VOK.dem (x:=.c c) hcv
 ·cases hd
theorem Anw (hY:YOK P Y) (R:Rel Y X nt ds e a w G) {o:Oper} {p:Operand} {s t:TypeId} {x:T} {ok:Bool} (ho:o.op=.typeAssert p s t ok) (hx:VOK G w X.fz Y e x (a.eval p))
  {r r':List (Nat×Nat)} {out:Out} (h:(Aaj t (Y t) x ok).run e.get r=some (out,r')):OpR P Y X nt ds e a w o out:=by
 have hund:(Y t).kind≠.iface->(Y t).kind≠.none->∃ d,P.underlying t=some d/\∀ ms,d≠.interface ms:=by
  intro hk1 hk2
  obtain ⟨d,i,z,h1,h2,h3,h4,h5,h6,h7,h8⟩:=hY t (Ans hY hk1 hk2)
  refine ⟨d,h1,fun ms hd=>?_⟩
  subst hd
  cases hk:(Y t).kind<;>rw [hk] at h7<;>simp only [KOK] at h7
  case none=>exact hk2 hk
  case iface=>exact hk1 hk
  case ptr=>obtain ⟨_,h7⟩:=h7;cases h7
  case struct=>obtain ⟨_,h7,_⟩:=h7;cases h7
  case func=>obtain ⟨_,_,_,h7⟩:=h7;cases h7
  all_goals cases h7
 have runs:∀ {u:Value},(Y t).kind≠.iface->(Y t).kind≠.none->(∀ v',u=.iface t v'->(Instr.typeAssert u s t ok).run P w=.ok (if ok then .tuple #[v',.bool true] else v') w)/\
   ((u=.nilIface∨∃ t' v',u=.iface t' v'/\t'≠t)->ok=true->∀ z,(zeroValue t).run P w=.ok z w->(Instr.typeAssert u s t ok).run P w=.ok (.tuple #[z,.bool false]) w):=by
  intro u hk1 hk2
  obtain ⟨d,h1,h2⟩:=hund hk1 hk2
  constructor
  ·rintro v' rfl
   unfold Instr.typeAssert
   simp only [Sem.run_bind,run_underlying h1,Result.andThen_ok]
   cases d<;>first|exact absurd rfl (h2 _)|(cases ok<;>simp)
  ·rintro hu hok z hz
   subst hok
   unfold Instr.typeAssert
   simp only [Sem.run_bind,run_underlying h1,Result.andThen_ok]
   rcases hu with rfl|⟨t',v',rfl,hne⟩
   ·cases d<;>first|exact absurd rfl (h2 _)|simp [hz]
   ·cases d<;>first|exact absurd rfl (h2 _)|simp [hz,hne]
 unfold Aaj at h
 split at h
 ·exact (Ac h).elim
 ·exact (Ac h).elim
 ·rename_i t' v hk1 hk2
  have hp:=Bs hx
  cases hb:t'.beq t with
  |true=>
   rw [hb] at h
   simp only [cond_true] at h
   have ht:=Nat.eq_of_beq_eq_true hb
   subst ht
   split at h
   ·rename_i d hd
    obtain rfl:=Bk h
    obtain ⟨d',hd',h1,_⟩:=Abw (G:=G) (w:=w) (O:=X.fz) (Y:=Y) (e:=e) hd
    simp only [T.d.injEq] at hd'
    subst hd'
    refine OpR.pure R (v:=.tuple #[v,.bool true]) ?_ (Sf h1) (fun _ h=>(by cases h))
    have:=(runs (u:=.iface t' v) hk1 hk2).1 v rfl
    simp [execOp,ho,hp,this]
   ·exact (Ac h).elim
  |false=>
   rw [hb] at h
   simp only [cond_false] at h
   split at h
   ·rename_i d hd
    replace h:=Ak h
    obtain ⟨hz,h⟩:=h
    obtain rfl:=Bk h
    obtain ⟨z,h1,h2⟩:=Abv (P:=P) (w:=w) (G:=G) (O:=X.fz) hY hd hz
    refine OpR.pure R (v:=.tuple #[z,.bool false]) ?_ (Sf h2) (fun _ h=>(by cases h))
    have:=(runs (u:=.iface t' v) hk1 hk2).2 (.inr ⟨t',v,rfl,Nat.ne_of_beq_eq_false hb⟩) rfl z h1
    simp [execOp,ho,hp,this]
   ·exact (Ac h).elim
 ·rename_i hk1 hk2
  have hp:=Bs hx
  split at h
  ·rename_i d hd
   replace h:=Ak h
   obtain ⟨hz,h⟩:=h
   obtain rfl:=Bk h
   obtain ⟨z,h1,h2⟩:=Abv (P:=P) (w:=w) (G:=G) (O:=X.fz) hY hd hz
   refine OpR.pure R (v:=.tuple #[z,.bool false]) ?_ (Sf h2) (fun _ h=>(by cases h))
   have:=(runs (u:=.nilIface) hk1 hk2).2 (.inl rfl) rfl z h1
   simp [execOp,ho,hp,this]
  ·exact (Ac h).elim
 ·rename_i t' v hk1 hk2
  have hp:=Bs hx
  replace h:=Ak h
  obtain ⟨hb,h⟩:=h
  have ht:=Nat.eq_of_beq_eq_true hb
  subst ht
  split at h
  ·rename_i x hd
   obtain rfl:=Bk h
   obtain ⟨d',hd',h1,h2⟩:=Abw (G:=G) (w:=w) (O:=X.fz) (Y:=Y) (e:=e) hd
   refine OpR.pure R (v:=v) ?_ h2 (fun _ h=>(by cases h))
   have:=(runs (u:=.iface t' v) hk1 hk2).1 v rfl
   simp [execOp,ho,hp,this]
  ·exact (Ac h).elim
 ·rename_i t' ag cs hk1 hk2
  have hr0:=hx.reld
  generalize hpv:a.eval p=pv at hr0
  have hr0:Rep G.vis w (.i t' ag cs) pv:=hr0
  cases hr0 with
  |i _ _ _ v hs hl hr=>
  cases hb:t'.beq t with
  |true=>
   rw [hb] at h
   simp only [cond_true] at h
   have ht:=Nat.eq_of_beq_eq_true hb
   subst ht
   split at h
   ·rename_i d hd
    obtain rfl:=Bk h
    have h1:=(Abx (O:=X.fz) (Y:=Y) (e:=e) hd hs ⟨hl,hr⟩).1
    refine OpR.pure R (v:=.tuple #[v,.bool true]) ?_ (Sf h1) (fun _ h=>(by cases h))
    have:=(runs (u:=.iface t' v) hk1 hk2).1 v rfl
    simp [execOp,ho,hpv,this]
   ·exact (Ac h).elim
  |false=>
   rw [hb] at h
   simp only [cond_false] at h
   split at h
   ·rename_i d hd
    replace h:=Ak h
    obtain ⟨hz,h⟩:=h
    obtain rfl:=Bk h
    obtain ⟨z,h1,h2⟩:=Abv (P:=P) (w:=w) (G:=G) (O:=X.fz) hY hd hz
    refine OpR.pure R (v:=.tuple #[z,.bool false]) ?_ (Sf h2) (fun _ h=>(by cases h))
    have:=(runs (u:=.iface t' v) hk1 hk2).2 (.inr ⟨t',v,rfl,Nat.ne_of_beq_eq_false hb⟩) rfl z h1
    simp [execOp,ho,hpv,this]
   ·exact (Ac h).elim
 ·rename_i t' ag cs hk1 hk2
  have hr0:=hx.reld
  generalize hpv:a.eval p=pv at hr0
  have hr0:Rep G.vis w (.i t' ag cs) pv:=hr0
  cases hr0 with
  |i _ _ _ v hs hl hr=>
  replace h:=Ak h
  obtain ⟨hb,h⟩:=h
  have ht:=Nat.eq_of_beq_eq_true hb
  subst ht
  split at h
  ·rename_i x hd
   obtain rfl:=Bk h
   have hxd:∃ d,x=.d d:=by
    unfold asD at hd
    split at hd<;>first|(simp only [Option.some.injEq] at hd;exact ⟨_,hd.symm⟩)|cases hd
   obtain ⟨d,rfl⟩:=hxd
   refine OpR.pure R (v:=v) ?_ (Abx (O:=X.fz) (Y:=Y) (e:=e) hd hs ⟨hl,hr⟩).2 (fun _ h=>(by cases h))
   have:=(runs (u:=.iface t' v) hk1 hk2).1 v rfl
   simp [execOp,ho,hpv,this]
  ·exact (Ac h).elim
 ·exact (Ac h).elim
end
section
variable {P:Program} {Y:TypeId->Ty} {X:Cx} {nt:Nat} {ds:List Deferred} {e:Env} {a:Act} {w:World} {G:Gh} {O:Nat->Prop}
theorem VOKs.one {x:T} {v:Value} (h:VOKs G w O Y e [x] [v]):VOK G w O Y e x v:=by
 cases h with
 |cons h1 _=>exact h1
theorem VOKs.two {x y:T} {v u:Value} (h:VOKs G w O Y e [x,y] [v,u]):VOK G w O Y e x v/\VOK G w O Y e y u:=by
 cases h with
 |cons h1 h2=>exact ⟨h1,h2.one⟩
theorem VOKs.three {x y z:T} {v u t:Value} (h:VOKs G w O Y e [x,y,z] [v,u,t]):VOK G w O Y e x v/\VOK G w O Y e y u/\VOK G w O Y e z t:=by
 cases h with
 |cons h1 h2=>exact ⟨h1,h2.two⟩
theorem VOKs.inv1 {x:T} {l:List Operand} (h:VOKs G w O Y e [x] (l.map a.eval)):∃ p,l=[p]/\VOK G w O Y e x (a.eval p):=by
 cases l with
 |nil=>cases h
 |cons p l=>
  cases l with
  |nil=>exact ⟨p,rfl,h.one⟩
  |cons q l=>cases h with|cons _ h=>cases h
theorem VOKs.inv2 {x y:T} {l:List Operand} (h:VOKs G w O Y e [x,y] (l.map a.eval)):∃ p q,l=[p,q]/\VOK G w O Y e x (a.eval p)/\VOK G w O Y e y (a.eval q):=by
 cases l with
 |nil=>cases h
 |cons p l=>
  cases l with
  |nil=>cases h with|cons _ h=>cases h
  |cons q l=>
   cases l with
   |nil=>exact ⟨p,q,rfl,h.two⟩
   |cons s l=>cases h with|cons _ h=>cases h with|cons _ h=>cases h
theorem Ib {α:Type} {xs:Array α} {l:List α} (h:xs.toList=l):xs=l.toArray:=by
 rw [<-h,Array.toArray_toList]
theorem Anx (hY:YOK P Y) (R:Rel Y X nt ds e a w G) {o:Oper} {op:Op} (ho:o.op=op) {xs:List T} (hx:VOKs G w X.fz Y e xs (op.operands.toList.map a.eval)) {r r':List (Nat×Nat)} {out:Out}
  (h:(Ve Y o.dst op xs).run e.get r=some (out,r')) (hv:∀ p∈out.vc,p):OpR P Y X nt ds e a w o out:=by
 unfold Ve at h
 split at h
 ·have h1:=VOKs.one hx
  exact Aeq R (.inl ho) h1 h
 ·have h1:=VOKs.one hx
  exact Aeq R (.inr ho) h1 h
 ·have h1:=VOKs.one hx
  exact Alq R ho h1 h
 ·have h1:=VOKs.one hx
  exact Ame hY R ho h1 h
 ·obtain ⟨hb,h⟩:=Ak h
  obtain ⟨hb1,hb2⟩:=and_true hb
  exact Am9 hY R ho hb1 hb2 h
 ·have h1:=VOKs.one hx
  exact An8 hY R ho h1.asRd h hv
 ·obtain ⟨h1,h2⟩:=VOKs.two hx
  exact Amh hY R ho h1 h2 h hv
 ·have h1:=VOKs.one hx
  exact Alw hY R ho h1.asRd h
 ·have h1:=VOKs.one hx
  exact Alx hY R ho h1 h
 ·obtain ⟨h1,h2⟩:=VOKs.two hx
  exact Alz hY R ho h1 h2 h hv
 ·obtain ⟨h1,h2⟩:=VOKs.two hx
  exact Amw hY R ho h1 h2 h hv
 ·rename_i t ps
  refine An2 hY R ho ?_ h
  have:(Op.build t ps).operands.toList.map a.eval=ps.toList.map fun p=>a.eval p.2:=by simp [Op.operands]
  rwa [this] at hx
 ·have h1:=VOKs.one hx
  exact Anb hY R ho h1 h hv
 ·obtain ⟨h1,h2⟩:=VOKs.two hx
  exact An5 hY R ho h1 h2 h hv
 ·rename_i t p lo hi
  split at h
  ·rename_i x l hh hst
   have:(Op.slice t p lo hi none).operands.toList=p::(lo.toList++hi.toList):=by cases lo<;>cases hi<;>rfl
   rw [this] at hx
   cases xs with
   |nil=>cases hst
   |cons x0 xs=>
    cases hx with
    |cons h1 h2=>
     unfold Ae9 at hst;dsimp only at hst
     split at hst
     ·simp only [Option.some.injEq,Prod.mk.injEq] at hst
      obtain ⟨rfl,rfl,rfl⟩:=hst
      exact Wt hY R ho h1 (lo:=none) (hi:=none) trivial trivial h hv
     ·simp only [Option.some.injEq,Prod.mk.injEq] at hst
      obtain ⟨rfl,rfl,rfl⟩:=hst
      exact Wt hY R ho h1 (lo:=some _) (hi:=none) (VOKs.one h2) trivial h hv
     ·simp only [Option.some.injEq,Prod.mk.injEq] at hst
      obtain ⟨rfl,rfl,rfl⟩:=hst
      exact Wt hY R ho h1 (lo:=none) (hi:=some _) trivial (VOKs.one h2) h hv
     ·simp only [Option.some.injEq,Prod.mk.injEq] at hst
      obtain ⟨rfl,rfl,rfl⟩:=hst
      obtain ⟨h3,h4⟩:=VOKs.two h2
      exact Wt hY R ho h1 (lo:=some _) (hi:=some _) h3 h4 h hv
     ·cases hst
  ·exact (Ac h).elim
 ·rename_i t p lo qh qm
  split at h
  ·rename_i x l hh mm hst
   have:(Op.slice t p lo (some qh) (some qm)).operands.toList=p::(lo.toList++[qh,qm]):=by cases lo<;>rfl
   rw [this] at hx
   cases xs with
   |nil=>cases hst
   |cons x0 xs=>
    cases hx with
    |cons h1 h2=>
     unfold Aea at hst;dsimp only at hst
     split at hst
     ·simp only [Option.some.injEq,Prod.mk.injEq] at hst
      obtain ⟨rfl,rfl,rfl,rfl⟩:=hst
      obtain ⟨h3,h4⟩:=VOKs.two h2
      exact Afj hY R ho h1 (lo:=none) trivial h3 h4 h hv
     ·simp only [Option.some.injEq,Prod.mk.injEq] at hst
      obtain ⟨rfl,rfl,rfl,rfl⟩:=hst
      obtain ⟨h3,h4,h5⟩:=VOKs.three h2
      exact Afj hY R ho h1 (lo:=some _) h3 h4 h5 h hv
     ·cases hst
  ·exact (Ac h).elim
 ·rename_i f first cap
  split at h
  ·rename_i as bs ha hb
   refine An7 R ho ha hb ?_ h
   have:(Op.makeFunc (.func f) first cap).operands=first++cap:=rfl
   rwa [this] at hx
  ·exact (Ac h).elim
 ·have h1:=VOKs.one hx
  split at h
  ·rename_i b hb
   exact Alr R ho h1 hb h
  ·exact (Ac h).elim
 ·have h1:=VOKs.one hx
  split at h
  ·rename_i k n hb
   exact Als R ho h1 hb h hv
  ·exact (Ac h).elim
 ·have h1:=VOKs.one hx
  exact Alv R ho h1 h hv
 ·obtain ⟨h1,h2⟩:=VOKs.two hx
  exact Anm hY R ho h1 h2 h hv
 ·obtain ⟨h1,h2,h3⟩:=VOKs.three hx
  exact Afo hY R (.inl ho) h1 h2 h3 h
 ·obtain ⟨h1,h2,h3⟩:=VOKs.three hx
  exact Afo hY R (.inr ho) h1 h2 h3 h
 ·exact Ano hY R ho h
 ·obtain ⟨h1,h2⟩:=VOKs.two hx
  exact Anh hY R ho h1 h2 h hv
 ·have h1:=VOKs.one hx
  exact Anr hY R ho h1 h
 ·have h1:=VOKs.one hx
  exact Anw hY R ho h1 h
 ·have h1:=VOKs.one hx
  exact Ant hY R ho h1 h
 ·have h1:=VOKs.one hx
  exact Anv R ho h1 h
 ·have h1:=VOKs.one hx
  exact Anu R ho h1 h
 ·rename_i b args tys
  have hops:(Op.call { callee:=.builtin b,args:=args,argTypes:=tys }).operands.toList=args.toList:=by simp [Op.operands,Call.operands]
  rw [hops] at hx
  unfold Aec at h
  split at h
  ·split at h
   ·rename_i t ht
    obtain ⟨p,hp,h1⟩:=VOKs.inv1 hx
    rw [Ib ht,Ib hp] at ho
    exact Am4 hY R ho h1 h
   ·exact (Ac h).elim
  ·obtain ⟨p,q,hp,h1,h2⟩:=VOKs.inv2 hx
   rw [Ib hp] at ho
   exact Am5 R ho h1 h2 h
  ·obtain ⟨p,q,hp,h1,h2⟩:=VOKs.inv2 hx
   rw [Ib hp] at ho
   exact Amo R ho h1 h2 h
  ·split at h
   ·rename_i t t' ht
    obtain ⟨p,q,hp,h1,h2⟩:=VOKs.inv2 hx
    rw [Ib ht,Ib hp] at ho
    exact Ann hY R ho h1 h2 h
   ·exact (Ac h).elim
  ·split at h
   ·rename_i t t' ht
    obtain ⟨hb,h⟩:=Ak h
    have hb:=Nat.eq_of_beq_eq_true hb
    obtain ⟨p,q,hp,h1,h2⟩:=VOKs.inv2 hx
    rw [Ib ht,Ib hp,<-hb] at ho
    split at h
    ·rename_i el hk
     exact Amn hY R ho hk h1 h2 h hv
    ·exact (Ac h).elim
   ·exact (Ac h).elim
  ·exact (Ac h).elim
 ·exact (Ac h).elim
theorem Anz (hY:YOK P Y) (R:Rel Y X nt ds e a w G) {o:Oper} {r r':List (Nat×Nat)} {bs:List Prop} {out:Out}
  (h:(sem Y o.dst o.op).run e.get r=some ((bs,out),r')) (hb:∀ p∈bs,p) (hv:∀ p∈out.vc,p):OpR P Y X nt ds e a w o out:=by
 unfold sem at h
 split at h
 ·rename_i c p q hop
  obtain ⟨x,r1,h1,h⟩:=Ag h
  obtain ⟨y,r2,h2,h⟩:=Ag h
  obtain ⟨z,r3,h3,h⟩:=Ag h
  obtain ⟨o',r4,h4,h⟩:=Ag h
  simp only [M.run,Option.some.injEq,Prod.mk.injEq] at h
  obtain ⟨⟨rfl,rfl⟩,_⟩:=h
  exact Alu R hop (Hk R h1) (Hk R h2) (Hk R h3) h4 hv
 ·rename_i t len ps hop
  split at h
  ·rename_i el hk
   obtain ⟨css,r1,h1,h⟩:=Ag h
   obtain ⟨o',r4,h4,h⟩:=Ag h
   simp only [M.run,Option.some.injEq,Prod.mk.injEq] at h
   obtain ⟨⟨rfl,rfl⟩,_⟩:=h
   exact Ang hY R hop hk h1 h4
  ·exact (Ac h).elim
 ·obtain ⟨p,r1,h1,h⟩:=Ag h
  obtain ⟨o',r4,h4,h⟩:=Ag h
  obtain ⟨ys,bs'⟩:=p
  simp only [M.run,Option.some.injEq,Prod.mk.injEq] at h
  obtain ⟨⟨rfl,rfl⟩,_⟩:=h
  exact Anx hY R rfl (Hl R h1 hb) h4 hv
end
section
variable {P:Program} {Y:TypeId->Ty} {X:Cx} {nt:Nat} {ds:List Deferred} {e:Env} {a:Act} {w:World} {G:Gh} {O:Nat->Prop}
theorem Rel.drewR (R:Rel Y X nt ds e a w G):Rel Y X nt ds e a w.drew G/\∀ x v,VOK G w X.fz Y e x v->VOK G w.drew X.fz Y e x v:=by
 refine R.move (w':=w.drew) (G':=G) (e':=e) ⟨fun _=>Nat.le_refl _,⟨fun _ _ _=>rfl,fun _ _ _ _ h=>h,fun _ cs t z h=>⟨cs,t,z,h,Nat.le_refl _⟩⟩,fun _ _=>rfl⟩ ⟨rfl,rfl,rfl,Nat.le_refl _⟩ rfl rfl (fun _ _=>rfl) (fun _ _=>rfl) (fun _=>rfl) (fun _ h=>⟨rfl,h⟩) (fun _ h=>⟨h,fun _ h=>h⟩)
  (fun _ _ _ hb _=>⟨hb,rfl,rfl⟩) (fun _ id hid=>.inl ⟨hid,rfl,rfl,rfl,fun _=>rfl⟩) (fun id k hk=>?_) (fun k b hb=>?_) R.tinj (fun b hb=>R.fresh b hb) (fun _ _=>rfl) (fun _ _=>rfl)
 ·rw [(R.mem.cells id k hk).1];exact Bh
 ·obtain ⟨h1,h2,h3,h4,h5⟩:=R.tks k b hb
  exact ⟨h1,h2,h3,h4,h5,R.tlive k b hb⟩
theorem Afr (hY:YOK P Y) (R:Rel Y X nt ds e a w G) {o:Oper} {p q:Operand} {t el:TypeId} {m d:Nat} {g:Nat->List C} (ho:o.op=.call { callee:=.builtin .append,args:=#[p,q],argTypes:=#[t,t] }) (hk:(Y t).kind=.slice el)
  (hkn:(Y el).known=true) (hs:0<(Y el).size) (hxv:a.eval p=.slice none 0 0) (src:Sc G w (Y el).size m g (a.eval q)) (hd:e.get 2 d=.any) (hf:d<FAR) (c0:0<m) (c1:m*(Y el).bytes<=140737488355328) (c2:m<=140737488355328) (vc:List Prop):
  OpR P Y X nt ds e a w o ⟨vc,[],.arr d m,[(2,d,.arrc false (Y el).size m g)]⟩:=by
 obtain ⟨dd,i0,z0,h1,h2,h3,h4,h5,h6,h7,h8⟩:=hY t (by simp [Ty.known,hk])
 rw [hk] at h7
 simp only [KOK] at h7
 subst h7
 obtain ⟨dd,ie,ze,g1,g2,g3,g4,g5,g6,g7,g8⟩:=hY el hkn
 have hzs:ze.cells.size=(Y el).size:=by rw [<-g8.2.1,<-g6,Array.length_toList]
 obtain ⟨news,n1,n2,n3⟩:=src
 rcases n3 with ⟨_,n3⟩|⟨b,off,cap,n3,n4⟩
 ·omega
 have hrun:=run_append_nil (P:=P) w t o.type el ie ze h1 g2 g5 ⟨b,off,none⟩ m cap news (by rw [g3];exact n1.1) n4 (by omega) (by omega) (by rw [g4];omega)
 have hge:=grownCap_ge w m 0 el
 have hml:m<=maxLen:=by unfold maxLen;omega
 obtain ⟨R1,lift1⟩:=R.drewR
 have hsize:(news.toArray++Builtin.zeroCells ze.cells (grownCap w m 0 el - m)).size=grownCap w m 0 el*(Y el).size:=by
  simp only [Array.size_append,List.size_toArray,size_zeroCells,hzs,n1.1,<-Nat.add_mul]
  congr 1
  omega
 obtain ⟨G',q1,q2,R',lift,q3⟩:=Gt R1 hd hf (.cells (news.toArray++Builtin.zeroCells ze.cells (grownCap w m 0 el - m)) el) (st:=.arrc false (Y el).size m g) (ce:=[]) (by simp) (fun t k h=>rfl)
  (fun G' hvv=>by
   refine ⟨⟨_,el,_,heap_alloc_new w.drew _,.inl rfl,by rw [hsize];exact Nat.mul_le_mul_right _ hge,fun i hi=>⟨n1.2.1 i hi,fun j c hj=>?_⟩⟩,hs,fun hh=>(by cases hh),fun _=>by rw [hvv];exact R.fresh _ (Nat.le_refl _)⟩
   obtain ⟨u,h3,h4⟩:=n1.2.2 i j c hi hj
   refine ⟨u,?_,?_⟩
   ·have hlt:i*(Y el).size+j<news.length:=(List.getElem?_eq_some_iff.1 h3).1
    rw [Array.getElem?_append_left (by simpa using hlt)]
    simpa using h3
   ·rw [hvv]
    exact h4.mono' (fun _=>Nat.le_refl _) (Wp R _))
  (fun G' lift k hk=>by
   rw [List.nil_append] at hk
   exact absurd (R.mem.cells d k hk).1 (by rw [hd];exact fun h=>Bh h.symm))
 refine ⟨_,.slice (some ⟨w.heap.size,0,none⟩) m (grownCap w m 0 el),_,G',?_,.inl rfl,fun _ h=>(by cases h),R',VOK.ids_used (id:=d) ?_ trivial rfl rfl (by
  have q3':Env.get ((2,d,.arrc false (Y el).size m g)::[]++e) 2 d=.arrc false (Y el).size m g:=q3
  show Env.get ((2,d,.arrc false (Y el).size m g)::[]++e) 2 d≠.any
  rw [q3'];simp)⟩
 ·simp [execOp,ho,resolve,invoke,builtin,hxv,n3,hrun]
 ·simp only [Aa]
  exact .inr ⟨_,by rw [q2];rfl,hge,grownCap_le_maxLen w m 0 el hml,_,el,_,by rw [q2];exact heap_alloc_new w.drew _,by rw [hsize];exact Nat.le_mul_of_pos_right _ hs⟩
theorem Ao0 (hY:YOK P Y) (R:Rel Y X nt ds e a w G) {o:Oper} {p q:Operand} {t el:TypeId} {x z:T} (ho:o.op=.call { callee:=.builtin .append,args:=#[p,q],argTypes:=#[t,t] }) (hk:(Y t).kind=.slice el)
  (hx:VOK G w X.fz Y e x (a.eval p)) (hz:VOK G w X.fz Y e z (a.eval q)) {r r':List (Nat×Nat)} {out:Out} (h:(Aaq (Y el) o.dst x z).run e.get r=some (out,r')) (hv:∀ p∈out.vc,p):OpR P Y X nt ds e a w o out:=by
 unfold Aaq at h
 split at h
 ·split at h
  ·rename_i id m
   simp only [M.run] at h
   split at h
   ·rename_i fz sz m' g hobj
    obtain ⟨hb,h⟩:=Ak h
    obtain ⟨hkn,hsz⟩:=and_true hb
    have hsz:=Nat.eq_of_beq_eq_true hsz
    obtain ⟨d,_,hd,hf,rfl⟩:=Gu h
    have c0:m=m':=hv _ List.mem_cons_self
    have c1:0<m:=hv _ (.tail _ (.head _))
    have c2:m*(Y el).bytes<=140737488355328:=hv _ (.tail _ (.tail _ (.head _)))
    have c3:m<=140737488355328:=hv _ (.tail _ (.tail _ (.tail _ (.head _))))
    subst c0
    obtain ⟨s1,s2⟩:=Abp R hobj hz
    rw [hsz] at s1 s2
    exact Afr hY R ho hk hkn s2 (Bs hx) s1 hd hf c1 c2 c3 _
   ·exact (Ac h).elim
  ·split at h
   ·rename_i m g hzz
    obtain ⟨hb,h⟩:=Ak h
    obtain ⟨hb,hg0⟩:=and_true hb
    obtain ⟨hkn,hs⟩:=and_true hb
    have hg0:=Nat.eq_of_beq_eq_true hg0
    have hs:0<(Y el).size:=Nat.le_of_ble_eq_true hs
    obtain ⟨d,_,hd,hf,rfl⟩:=Gu h
    have c1:0<m:=hv _ List.mem_cons_self
    have c2:m*(Y el).bytes<=140737488355328:=hv _ (.tail _ (.head _))
    have c3:m<=140737488355328:=hv _ (.tail _ (.tail _ (.head _)))
    exact Afr hY R ho hk hkn hs (Bs hx) (Wr hzz hz hg0 hs) hd hf c1 c2 c3 _
   ·exact (Ac h).elim
 ·exact (Ac h).elim
theorem Ao1 (hY:YOK P Y) (R:Rel Y X nt ds e a w G) {o:Oper} {p:Operand} {s t:TypeId} {x:T} (ho:o.op=.convert s t p) (hx:VOK G w X.fz Y e x (a.eval p))
  {r r':List (Nat×Nat)} {out:Out} (h:(Aar Y (Y s) (Y t) o.dst x).run e.get r=some (out,r')) (hv:∀ p∈out.vc,p):OpR P Y X nt ds e a w o out:=by
 unfold Aar at h
 split at h
 ·rename_i el S hk hks hxe
  obtain ⟨hu8,h⟩:=Ak h
  have hu8:=Af9 hu8
  obtain ⟨d,_,hd,hf,rfl⟩:=Gu h
  have c1:S.size<=140737488355328:=hv _ List.mem_cons_self
  obtain ⟨d1,i1,z1,g1,g2,g3,g4,g5,g6,g7,g8⟩:=hY s (by simp [Ty.known,hks])
  rw [hks] at g7
  simp only [KOK] at g7
  subst g7
  obtain ⟨d2,i2,z2,h1,h2,h3,h4,h5,h6,h7,h8⟩:=hY t (by simp [Ty.known,hk])
  rw [hk] at h7
  simp only [KOK] at h7
  subst h7
  obtain ⟨d3,i3,z3,e1,e2,e3,e4,e5,e6,e7,e8⟩:=hY el (by simp [Ty.known,hu8])
  rw [hu8] at e7
  simp only [KOK] at e7
  subst e7
  have hrun:=run_bytes_of_string (P:=P) w s t el S g1 h1 e1
  have hge:=grownCap_ge w S.size 0 el
  have hml:S.size<=maxLen:=by unfold maxLen;omega
  obtain ⟨R1,lift1⟩:=R.drewR
  have hsize:(bytesRow S (grownCap w S.size 0 el)).size=grownCap w S.size 0 el:=by
   unfold bytesRow
   rw [Array.size_append,Array.size_map,Array.size_replicate]
   show S.size+(grownCap w S.size 0 el - S.size)=_
   omega
  obtain ⟨G',q1,q2,R',lift,q3⟩:=Gt R1 hd hf (.cells (bytesRow S (grownCap w S.size 0 el)) el ((bytesRow S (grownCap w S.size 0 el)).size,(bytesRow S (grownCap w S.size 0 el)).size+1)) (st:=.arrc false 1 S.size fun i=>[.v (.int .u8 (S.data.getD i 0).toNat)]) (ce:=[]) (by simp) (fun t k h=>rfl)
   (fun G' hvv=>by
    refine ⟨⟨_,el,_,heap_alloc_new w.drew _,.inr (Nat.le_refl _),by rw [hsize,Nat.mul_one];exact hge,fun i hi=>⟨rfl,fun j c hj=>?_⟩⟩,Nat.one_pos,fun hh=>(by cases hh),fun _=>by rw [hvv];exact R.fresh _ (Nat.le_refl _)⟩
    cases j with
    |succ j=>cases hj
    |zero=>
     simp only [List.getElem?_cons_zero,Option.some.injEq] at hj
     subst hj
     have hi':i<S.data.size:=hi
     refine ⟨_,by rw [Nat.mul_one,Nat.add_zero];exact bytesRow_at S _ i hi',?_⟩
     have:S.data.getD i 0=S.data[i]:=by rw [Array.getD_eq_getD_getElem?,Array.getElem?_eq_getElem hi'];rfl
     rw [this]
     exact .v _ rfl)
   (fun G' lift k hk=>by
    rw [List.nil_append] at hk
    exact absurd (R.mem.cells d k hk).1 (by rw [hd];exact fun h=>Bh h.symm))
  refine ⟨_,.slice (some ⟨w.heap.size,0,none⟩) S.size (grownCap w S.size 0 el),_,G',?_,.inl rfl,fun _ h=>(by cases h),R',VOK.ids_used (id:=d) ?_ trivial rfl rfl (by
   have q3':Env.get ((2,d,.arrc false 1 S.size fun i=>[.v (.int .u8 (S.data.getD i 0).toNat)])::[]++e) 2 d=.arrc false 1 S.size fun i=>[.v (.int .u8 (S.data.getD i 0).toNat)]:=q3
   show Env.get ((2,d,.arrc false 1 S.size fun i=>[.v (.int .u8 (S.data.getD i 0).toNat)])::[]++e) 2 d≠.any
   rw [q3'];simp)⟩
  ·simp [execOp,ho,Aep hxe hx,hrun]
  ·simp only [Aa]
   exact .inr ⟨_,by rw [q2];rfl,hge,grownCap_le_maxLen w S.size 0 el hml,_,el,_,by rw [q2];exact heap_alloc_new w.drew _,by rw [hsize];exact Nat.le_refl _⟩
 ·exact (Ac h).elim
theorem Ao2 {l:List Value} (h:nilZ l=true):l=[.slice none 0 0]:=by
 unfold nilZ at h
 split at h
 ·rfl
 ·cases h
theorem Ao3 (hY:YOK P Y) (R:Rel Y X nt ds e a w G) {o:Oper} {p q:Operand} {t:TypeId} {x y:T} (ho:o.op=.makeSlice t p q) (hx:VOK G w X.fz Y e x (a.eval p)) (hy:VOK G w X.fz Y e y (a.eval q))
  {r r':List (Nat×Nat)} {out:Out} (h:(Aat Y (Y t) o.dst x y).run e.get r=some (out,r')) (hv:∀ p∈out.vc,p):OpR P Y X nt ds e a w o out:=by
 unfold Aat at h
 split at h
 case h_2=>exact (Ac h).elim
 rename_i el k n k' m hk hn hm
 split at h
 case h_2=>exact (Ac h).elim
 rename_i el2 hk2
 replace h:=Ak h
 obtain ⟨hb,h⟩:=h
 obtain ⟨hb,hz1⟩:=and_true hb
 obtain ⟨hkn,hsz⟩:=and_true hb
 have hsz:=Bg hsz
 have hz1:=Ao2 hz1
 obtain ⟨d,_,hd,hf,rfl⟩:=Gu h
 have c1:n=m:=hv _ List.mem_cons_self
 have c2:0<=n:=hv _ (.tail _ (.head _))
 have c3:n.toNat*(Y el).bytes<=140737488355328:=hv _ (.tail _ (.tail _ (.head _)))
 have c4:n.toNat<=140737488355328:=hv _ (.tail _ (.tail _ (.tail _ (.head _))))
 clear hv h
 subst c1
 have e1:=Ec hn hx
 have e2:=Ec hm hy
 obtain ⟨d2,i2,z2,h1,h2,h3,h4,h5,h6,h7,h8⟩:=hY t (by simp [Ty.known,hk])
 rw [hk] at h7
 simp only [KOK] at h7
 subst h7
 obtain ⟨_,ie,ze,g1,g2,g3,g4,g5,g6,g7,g8⟩:=hY el (by simp [Ty.known,hk2])
 have hs1:(Y el).size=1:=g8.1 (by simp [Ty.agg,hk2])
 have hzc:ze.cells.toList=[.slice none 0 0]:=by rw [g6,hz1]
 have hzs:ze.cells.size=1:=by rw [<-Array.length_toList,hzc];rfl
 have c5:ie.bytes*n.toNat<=281474976710656:=by rw [g4,Nat.mul_comm];omega
 have c6:(ie.bytes:Int)*n=((ie.bytes*n.toNat:Nat):Int):=by rw [Int.natCast_mul,Int.toNat_of_nonneg c2]
 have hrun:=run_make (P:=P) w t el ie ze h1 g2 g5 k k' n n c2 (Int.le_refl _) (by rw [c6];omega) (by omega)
 obtain ⟨G',q1,q2,R',lift,q3⟩:=Gt R hd hf (.cells (madeCells ze.cells (n.toNat*ie.size)) el) (st:=.arro el2 (Y el2).size n.toNat (fun _=>(0,fun _=>[])) none) (ce:=[]) (by simp) (fun t k h=>rfl)
  (fun G' hvv=>by
   refine ⟨by rw [hvv];exact R.fresh _ (Nat.le_refl _),hsz,_,el,heap_alloc_new w _,by rw [size_madeCells,g3,hs1];omega,fun j hj=>⟨.slice none 0 0,?_,fun _=>⟨.nil _ _,fun i hi=>absurd hi (Nat.not_lt_zero i),.inl rfl⟩⟩⟩
   rw [Afl (by omega) (by rw [g3,hs1];omega),hzs,Nat.mod_one,<-Array.getElem?_toList,hzc]
   rfl)
  (fun G' lift k hk=>by
   rw [List.nil_append] at hk
   exact absurd (R.mem.cells d k hk).1 (by rw [hd];exact fun h=>Bh h.symm))
 refine ⟨_,.slice (some ⟨w.heap.size,0,none⟩) n.toNat n.toNat,_,G',?_,.inl rfl,fun _ h=>(by cases h),R',VOK.ids_used (id:=d) ?_ trivial rfl rfl (by
  have q3':Env.get ((2,d,.arro el2 (Y el2).size n.toNat (fun _=>(0,fun _=>[])) none)::[]++e) 2 d=.arro el2 (Y el2).size n.toNat (fun _=>(0,fun _=>[])) none:=q3
  show Env.get ((2,d,.arro el2 (Y el2).size n.toNat (fun _=>(0,fun _=>[])) none)::[]++e) 2 d≠.any
  rw [q3'];simp)⟩
 ·simp [execOp,ho,e1,e2,hrun]
 ·simp only [Aa]
  exact .inr ⟨n.toNat,by rw [q2],Nat.le_refl _,by unfold maxLen;omega,_,el,_,by rw [q2];exact heap_alloc_new w _,by rw [size_madeCells,g3,hs1];omega⟩
theorem Ao4 (hY:YOK P Y) (R:Rel Y X nt ds e a w G) {o:Oper} {p:Operand} {t:TypeId} {x:T} (ho:o.op=.load t p) (hx:VOK G w X.fz Y e x (a.eval p))
  {r r':List (Nat×Nat)} {out:Out} (h:(Aau Y o.dst (Y t) x).run e.get r=some (out,r')) (hv:∀ p∈out.vc,p):OpR P Y X nt ds e a w o out:=by
 unfold Aau at h
 split at h
 case h_2=>exact (Ac h).elim
 rename_i id i s1 off d hag hdst
 simp only [M.run] at h
 split at h
 case h_2=>exact (Ac h).elim
 rename_i el sz n f hobj
 replace h:=Ak h
 obtain ⟨hb,h⟩:=h
 obtain ⟨hb,h3⟩:=and_true hb
 obtain ⟨hb,h0⟩:=and_true hb
 obtain ⟨h1,h2⟩:=and_true hb
 have h0:=Nat.eq_of_beq_eq_true h0
 have h1:=Bg h1
 have h2:=Nat.eq_of_beq_eq_true h2
 have h3:=Nat.eq_of_beq_eq_true h3
 subst h0;subst h2;subst h3
 simp only [M.run] at h
 split at h
 case h_2=>exact (Ac h).elim
 rename_i hd
 simp only [M.run,Option.some.injEq,Prod.mk.injEq] at h
 obtain ⟨rfl,_⟩:=h
 have hlt:i<n:=hv _ List.mem_cons_self
 obtain ⟨G',u,R',hcu,hrep,hown⟩:=Am7 R hobj hd h1 hlt
 have hp:=hx.rel
 simp only [Aa,Nat.mul_one,Nat.add_zero] at hp
 refine ⟨.value u,u,w,G',?_,.inl rfl,fun _ h=>(by cases h),R',⟨?_,?_,fun id' hid=>(by cases hid),fun k hk=>?_⟩⟩
 ·simp [execOp,ho,hp,Instr.loadAt,Instr.sureAddr,Jr hY hag hcu]
 ·simp only [Aa,Aw]
  generalize (f i).1=m0 at hrep ⊢
  cases hrep with
  |nil=>exact .nil _ _
  |e=>exact .e _ _ _
  |s _ _ _ b off cap sz u a1 a2 a3 a4 a5 a6=>exact .s _ _ _ b off cap sz u a1 a2 a3 a4 a5 a6
 ·intro el' hel
  have:el'=el:=by
   have h4:Env.get ((1,d,Ay el)::(2,id,.arro el (Y el).size n f (some i))::e) 1 d=Ay el':=hel
   rw [Ap,if_pos ⟨rfl,rfl⟩] at h4
   simp [Ay] at h4
   exact h4.symm
  subst this
  exact hown
 ·simp only [Ej,List.mem_singleton] at hk
  subst hk
  show Env.get ((1,k,Ay el)::(2,id,.arro el (Y el).size n f (some i))::e) 1 k≠.any
  rw [Ap,if_pos ⟨rfl,rfl⟩]
  simp [Ay]
theorem Ao5 (R:Rel Y X nt ds e a w G) {o:Oper} {p:Operand} {x:T} (ho:o.op=.move p) (hx:VOK G w X.fz Y e x (a.eval p))
  {r r':List (Nat×Nat)} {out:Out} (h:(Aav x).run e.get r=some (out,r')) (hv:∀ p∈out.vc,p):OpR P Y X nt ds e a w o out:=by
 unfold Aav at h
 split at h
 ·rename_i id n
  obtain ⟨⟨c,ps,W⟩,r1,h1,h2⟩:=Ag h
  simp only [M.run,Option.some.injEq,Prod.mk.injEq] at h2
  obtain ⟨rfl,_⟩:=h2
  obtain ⟨hW,hc⟩:=Hm (Y:=Y) (X:=X) (nt:=nt) (ds:=ds) (a:=a) (w:=w) (O:=X.fz) h1
  obtain ⟨G',R',lift,_⟩:=Js R hW
  have hrep:=hc hW (fun _ h=>h) (fun q hq=>hv q hq) R' (lift _ _ hx)
  have hcs:∃ m f,c=.s .n m f:=by
   simp only [Ez,M.run] at h1
   split at h1
   ·simp only [M.run,Option.some.injEq,Prod.mk.injEq] at h1;exact ⟨_,_,h1.1.1.symm⟩
   ·obtain ⟨_,h1⟩:=Ak h1
    simp only [M.run,Option.some.injEq,Prod.mk.injEq] at h1;exact ⟨_,_,h1.1.1.symm⟩
   ·obtain ⟨_,h1⟩:=Ak h1
    simp only [M.run,Option.some.injEq,Prod.mk.injEq] at h1;exact ⟨_,_,h1.1.1.symm⟩
   ·exact (Ac h1).elim
  obtain ⟨m,f,rfl⟩:=hcs
  exact ⟨_,a.eval p,w,G',by simp [execOp,ho],.inl rfl,fun _ h=>(by cases h),R',VOK.dem (x:=.c (.s .n m f)) hrep⟩
 ·rename_i id
  obtain ⟨⟨c,ps,W⟩,r1,h1,h2⟩:=Ag h
  simp only [M.run,Option.some.injEq,Prod.mk.injEq] at h2
  obtain ⟨rfl,_⟩:=h2
  obtain ⟨hW,hc⟩:=Hm (Y:=Y) (X:=X) (nt:=nt) (ds:=ds) (a:=a) (w:=w) (O:=X.fz) h1
  obtain ⟨G',R',lift,_⟩:=Js R hW
  have hrep:=hc hW (fun _ h=>h) (fun q hq=>hv q hq) R' (lift _ _ hx)
  have hcs:∃ kn ag dom val,c=.m kn ag dom val:=by
   simp only [Ez,M.run] at h1
   split at h1
   ·simp only [M.run,Option.some.injEq,Prod.mk.injEq] at h1;exact ⟨_,_,_,_,h1.1.1.symm⟩
   ·obtain ⟨_,h1⟩:=Ak h1
    simp only [M.run,Option.some.injEq,Prod.mk.injEq] at h1;exact ⟨_,_,_,_,h1.1.1.symm⟩
   ·exact (Ac h1).elim
  obtain ⟨kn,ag,dom,val,rfl⟩:=hcs
  exact ⟨_,a.eval p,w,G',by simp [execOp,ho],.inl rfl,fun _ h=>(by cases h),R',VOK.dem (x:=.c (.m kn ag dom val)) hrep⟩
 ·exact (Ac h).elim
theorem Ao6 (R:Rel Y X nt ds e a w G) {id:Nat}:∀ (n:Nat) {k:Nat} {r r':List (Nat×Nat)} {cs:List C} {ps:List Prop} {W:Env},(Rr id n k).run e.get r=some ((cs,ps,W),r')->
  cs.length=n/\Bq e W/\∃ us:List Value,us.length=n/\(∀ (j:Nat) u,us[j]?=some u->w.cell? ⟨G.bk id,k+j,none⟩=some u)/\
  ∀ {W':Env} {G':Gh},Bq e W'->(∀ p∈W,p∈W')->(∀ p∈ps,p)->Rel Y X nt ds (W'++e) a w G'->(∀ x v,VOK G w X.fz Y e x v->VOK G' w X.fz Y (W'++e) x v)->Av G'.vis w cs us:=by
 intro n
 induction n with
 |zero=>
  intro k r r' cs ps W h
  simp only [Rr,M.run,Option.some.injEq,Prod.mk.injEq] at h
  obtain ⟨⟨rfl,rfl,rfl⟩,_⟩:=h
  exact ⟨rfl,.nil,[],rfl,fun j u hj=>(by simp at hj),fun _ _ _ _ _=>⟨rfl,fun j c v hj=>(by simp at hj)⟩⟩
 |succ n ih=>
  intro k r r' cs ps W h
  simp only [Rr,M.run] at h
  obtain ⟨⟨c,ps1,W1⟩,r1,h1,h2⟩:=Ag h
  obtain ⟨⟨cs',ps2,W2⟩,r2,h3,h4⟩:=Ag h2
  simp only [M.run,Option.some.injEq,Prod.mk.injEq,Gv.add] at h4
  obtain ⟨⟨rfl,rfl,rfl⟩,_⟩:=h4
  obtain ⟨g1,g2,us,g3,g4,g5⟩:=ih h3
  have hne:e.get (id+3) k≠.any:=fun hh=>by rw [hh] at h1;exact (Ac h1).elim
  obtain ⟨_,_,u,hu,hv⟩:=R.mem.cells id k hne
  have key:Bq e W1/\∀ {W':Env} {G':Gh},Bq e W'->(∀ p∈W1,p∈W')->(∀ p∈ps1,p)->Rel Y X nt ds (W'++e) a w G'->(∀ x v,VOK G w X.fz Y e x v->VOK G' w X.fz Y (W'++e) x v)->Rep G'.vis w c u:=by
   unfold Aed at h1
   split at h1
   ·rename_i mid hm
    simp only [M.run,Option.some.injEq,Prod.mk.injEq] at h1
    obtain ⟨⟨rfl,rfl,rfl⟩,_⟩:=h1
    refine ⟨.nil,fun _ _ _ _ _=>.u _ ?_⟩
    rw [hm] at hv
    have:=hv.rel
    simp only [Aa] at this
    rw [this];rfl
   ·exact ⟨(Hm (Y:=Y) (X:=X) (nt:=nt) (ds:=ds) (a:=a) (w:=w) (O:=X.fz) h1).1,fun hW hsub hp R' lift=>(Hm (Y:=Y) (X:=X) (nt:=nt) (ds:=ds) (a:=a) (w:=w) (O:=X.fz) h1).2 hW hsub hp R' (lift _ _ hv)⟩
  obtain ⟨f1,f2⟩:=key
  refine ⟨by simp [g1],f1.app g2,u::us,by simp [g3],fun j u' hj=>?_,fun hW hsub hp R' lift=>?_⟩
  ·cases j with
   |zero=>simp only [List.getElem?_cons_zero,Option.some.injEq] at hj;subst hj;exact hu
   |succ j=>
    rw [show k+(j+1)=k+1+j by omega]
    exact g4 j u' (by simpa using hj)
  ·have hc:=f2 hW (fun p hp=>hsub p (List.mem_append_left _ hp)) (fun p hp'=>hp p (List.mem_append_left _ hp')) R' lift
   obtain ⟨l1,l2⟩:=g5 hW (fun p hp=>hsub p (List.mem_append_right _ hp)) (fun p hp'=>hp p (List.mem_append_right _ hp')) R' lift
   refine ⟨by simp [l1],fun j c' v hc' hv'=>?_⟩
   cases j with
   |zero=>
    simp only [List.getElem?_cons_zero,Option.some.injEq] at hc' hv'
    subst hc';subst hv'
    exact hc
   |succ j=>exact l2 j c' v (by simpa using hc') (by simpa using hv')
theorem Ao7 (hY:YOK P Y) (R:Rel Y X nt ds e a w G) {o:Oper} {p:Operand} {t:TypeId} {x:T} (ho:o.op=.load t p) (hx:VOK G w X.fz Y e x (a.eval p))
  {r r':List (Nat×Nat)} {out:Out} (h:(Aaw (Y t) x).run e.get r=some (out,r')) (hv:∀ p∈out.vc,p):OpR P Y X nt ds e a w o out:=by
 unfold Aaw at h
 split at h
 ·rename_i id k hag
  obtain ⟨⟨cs,ps,W⟩,r1,h1,h2⟩:=Ag h
  simp only [M.run,Option.some.injEq,Prod.mk.injEq] at h2
  obtain ⟨rfl,_⟩:=h2
  obtain ⟨g1,g2,us,g3,g4,g5⟩:=Ao6 R _ h1
  have hp:=hx.rel
  simp only [Aa] at hp
  obtain ⟨G',R',lift,_⟩:=Js R g2
  have hl:=g5 g2 (fun _ h=>h) hv R' lift
  refine ⟨.value (.agg us.toArray),.agg us.toArray,w,G',?_,.inl rfl,fun _ h=>(by cases h),R',VOK.agg (Av.dem (by simpa using hl))⟩
  simp [execOp,ho,hp,Instr.loadAt,Instr.sureAddr,Jq hY hag g3 g4]
 ·rename_i id k hag
  simp only [M.run] at h
  obtain ⟨⟨c,ps,W⟩,r1,h1,h2⟩:=Ag h
  simp only [M.run,Option.some.injEq,Prod.mk.injEq] at h2
  obtain ⟨rfl,_⟩:=h2
  have hne:e.get (id+3) k≠.any:=fun hh=>by
   rw [hh] at h1
   exact (Ac h1).elim
  obtain ⟨_,_,u,hu,hv'⟩:=R.mem.cells id k hne
  obtain ⟨hW,hc⟩:=Hm (Y:=Y) (X:=X) (nt:=nt) (ds:=ds) (a:=a) (w:=w) (O:=X.fz) h1
  obtain ⟨G',R',lift,_⟩:=Js R hW
  have hrep:=hc hW (fun _ h=>h) (fun q hq=>hv q hq) R' (lift _ _ hv')
  have hp:=hx.rel
  simp only [Aa] at hp
  refine ⟨.value u,u,w,G',?_,.inl rfl,fun _ h=>(by cases h),R',VOK.dem (x:=.c c) hrep⟩
  simp [execOp,ho,hp,Instr.loadAt,Instr.sureAddr,Jr hY hag hu]
 ·exact (Ac h).elim
theorem Ao8 (hY:YOK P Y) (R:Rel Y X nt ds e a w G) {o:Oper} {p:Operand} {t:TypeId} {x:T} (ho:o.op=.load t p) (hx:VOK G w X.fz Y e x (a.eval p))
  {r r':List (Nat×Nat)} {out:Out} (h:(Aax (Y t) x).run e.get r=some (out,r')) (hv:∀ p∈out.vc,p):OpR P Y X nt ds e a w o out:=by
 unfold Aax at h
 split at h
 ·rename_i id k hag
  obtain ⟨xs,r1,h1,h2⟩:=Ag h
  obtain rfl:=Bk h2
  obtain ⟨us,g1,g2,g3,g4⟩:=Ws R _ h1
  have hp:=hx.rel
  simp only [Aa] at hp
  obtain ⟨k1,k2⟩:=g4.relTs g2
  refine OpR.pure R (v:=.agg us.toArray) ?_ ⟨by simp only [Aa];exact ⟨_,rfl,by simpa using k1⟩,trivial,fun id' hid=>k2 id' (by simpa only [Ai] using hid),fun _ h=>(by cases h)⟩ (fun _ h=>(by cases h))
  simp [execOp,ho,hp,Instr.loadAt,Instr.sureAddr,Jq hY hag g1 g3]
 ·exact (Ac h).elim
theorem Ao9 (hY:YOK P Y) (R:Rel Y X nt ds e a w G) {o:Oper} {p q:Operand} {t:TypeId} {x h0:T} (ho:o.op=.slice t p none (some q) none) (hx:VOK G w X.fz Y e x (a.eval p)) (hh:VOK G w X.fz Y e h0 (a.eval q))
  {r r':List (Nat×Nat)} {out:Out} (h:(Aay Y (Y t) x h0).run e.get r=some (out,r')) (hv:∀ p∈out.vc,p):OpR P Y X nt ds e a w o out:=by
 unfold Aay at h
 split at h
 ·rename_i el id n k m hk hi
  simp only [M.run] at h
  split at h
  ·rename_i sz m' f hobj
   obtain ⟨hkn,h⟩:=Ak h
   simp only [M.run,Option.some.injEq,Prod.mk.injEq] at h
   obtain ⟨rfl,_⟩:=h
   have c0:n=m':=hv _ List.mem_cons_self
   have c1:0<=m:=hv _ (.tail _ (.head _))
   have c2:m<=n:=hv _ (.tail _ (.tail _ (.head _)))
   subst c0
   obtain ⟨d2,i2,z2,h1,h2,h3,h4,h5,h6,h7,h8⟩:=hY t (by simp [Ty.known,hk])
   rw [hk] at h7
   simp only [KOK] at h7
   subst h7
   have hid:e.get 2 id≠.any:=by rw [hobj];simp
   have hobj':=(R.mem.box id hid).2.2
   have hlt:=(R.mem.box id hid).2.1
   rw [hobj] at hobj'
   obtain ⟨⟨cs,ct,z,q1,hz,q2,q3⟩,q4,q5,q6⟩:=hobj'
   have hv0:=q6 rfl
   have hle:m.toNat<=n:=by omega
   obtain ⟨R',lift⟩:=Se R hid hv0 q1 (ob':=.cells cs ct z) (by simp) (fun cs' t' z' hh=>⟨cs,ct,z,rfl,by rw [(Obj.cells.inj hh).1];exact Nat.le_refl _⟩) (st:=.arrc false sz m.toNat f) (by simp) (by simp [live]) (by rw [hobj];simp [live]) (fun hkv=>by
    refine ⟨⟨cs,ct,z,by show (w.heap.setIfInBounds _ _)[_]?=_;rw [Array.getElem?_setIfInBounds_self,if_pos hlt],hz,Nat.le_trans (Nat.mul_le_mul_right _ hle) q2,fun i hi=>⟨(q3 i (by omega)).1,fun j c hj=>?_⟩⟩,q4,fun hb=>(by cases hb),fun _=>hv0⟩
    obtain ⟨u,h9,h10⟩:=(q3 i (by omega)).2 j c hj
    exact ⟨u,h9,h10.mono' (fun _=>Nat.le_refl _) hkv⟩)
   have hw:({ w with heap:=w.heap.setIfInBounds (G.bk id) (.cells cs ct z) }:World)=w:=by
    have:w.heap.setIfInBounds (G.bk id) (.cells cs ct z)=w.heap:=by
     apply Array.ext_getElem?
     intro i
     rw [Array.getElem?_setIfInBounds]
     split
     ·rename_i h;rw [<-h,q1];try simp [hlt]
     ·rfl
    rw [this]
   rw [hw] at R' lift
   have hpx:=hx.rel
   simp only [Aa] at hpx
   have hvk:∀ v,Aa G w X.fz (.arr id m.toNat) v->VOK G w X.fz Y ([(2,id,.arrc false sz m.toNat f)]++e) (.arr id m.toNat) v:=fun v hv=>VOK.ids_used (id:=id) hv trivial rfl rfl (by
    show Env.get ((2,id,.arrc false sz m.toNat f)::e) 2 id≠.any
    rw [Ap,if_pos ⟨rfl,rfl⟩];simp)
   rcases hpx with ⟨hn0,hpx⟩|⟨cap,hpx,hcap,hmax⟩
   ·have hm0:m=0:=by omega
    have hbr:=Pp (P:=P) (w:=w) (G:=G) (O:=X.fz) (Y:=Y) (e:=e) (a:=a) true (Nat.le_refl 0) (lo:=none) (hi:=some h0) (l:=0) (h:=m) (ql:=none) (qh:=some q) rfl (by simp [Hg,hi]) trivial hh (Int.le_refl 0) (by omega) (by omega)
    refine ⟨_,.slice none 0 0,w,G,?_,.inl rfl,fun _ h=>(by cases h),R',hvk _ (by simp only [Aa];exact .inl (by simp;omega))⟩
    rw [hm0] at hbr
    simp only [Option.map_none,Option.map_some] at hbr
    simp [execOp,ho,hpx,Instr.sliceAt,Instr.slice,run_underlying h1,hbr,Db hY hkn]
   ·have hbr:=Pp (P:=P) (w:=w) (G:=G) (O:=X.fz) (Y:=Y) (e:=e) (a:=a) true hcap (lo:=none) (hi:=some h0) (l:=0) (h:=m) (ql:=none) (qh:=some q) rfl (by simp [Hg,hi]) trivial hh (Int.le_refl 0) (by omega) (by omega)
    refine ⟨_,.slice (some ⟨G.bk id,0,none⟩) m.toNat cap,w,G,?_,.inl rfl,fun _ h=>(by cases h),R',hvk _ (by simp only [Aa];exact .inr ⟨cap,rfl,by omega,hmax⟩)⟩
    simp only [Option.map_none,Option.map_some] at hbr
    have hrun:(Instr.slice t (.slice (some ⟨G.bk id,0,none⟩) n cap) none (some (a.eval q)) none).run P w=.ok (.slice (some ⟨G.bk id,0,none⟩) m.toNat cap) w:=by
     simp [Instr.slice,run_underlying h1,hbr,Db hY hkn,Gr]
    simp [execOp,ho,hpx,Instr.sliceAt,run_underlying h1,hrun]
  ·exact (Ac h).elim
 ·exact (Ac h).elim
theorem Aoa (hY:YOK P Y) (R:Rel Y X nt ds e a w G) {kp:Bool} {o:Oper} {r r':List (Nat×Nat)} {bs:List Prop} {out:Out}
  (h:(semA Y kp o.dst o.op).run e.get r=some ((bs,out),r')) (hb:∀ p∈bs,p) (hv:∀ p∈out.vc,p):OpR P Y X nt ds e a w o out/\∀ c,o.op≠.defer c:=by
 unfold semA at h
 split at h
 ·rename_i t len ps hop
  split at h
  ·rename_i el hk
   obtain ⟨css,r1,h1,h⟩:=Ag h
   obtain ⟨o',r4,h4,h⟩:=Ag h
   simp only [M.run,Option.some.injEq,Prod.mk.injEq] at h
   obtain ⟨⟨rfl,rfl⟩,_⟩:=h
   exact ⟨Anf hY R hop hk h1 h4,fun c hc=>by rw [hop] at hc;cases hc⟩
  ·exact (Ac h).elim
 ·rename_i p hop
  obtain ⟨⟨ys,bs'⟩,r1,h1,h⟩:=Ag h
  dsimp only at h
  split at h
  ·rename_i x
   obtain ⟨o',r4,h4,h⟩:=Ag h
   simp only [M.run,Option.some.injEq,Prod.mk.injEq] at h
   obtain ⟨⟨rfl,rfl⟩,_⟩:=h
   exact ⟨Ao5 R hop (VOKs.one (Hl R h1 hb)) h4 hv,fun c hc=>by rw [hop] at hc;cases hc⟩
  ·exact (Ac h).elim
 ·rename_i t p q hop
  obtain ⟨⟨ys,bs'⟩,r1,h1,h⟩:=Ag h
  dsimp only at h
  split at h
  ·rename_i x y hxy
   obtain ⟨o',r4,h4,h⟩:=Ag h
   simp only [M.run,Option.some.injEq,Prod.mk.injEq] at h
   obtain ⟨⟨rfl,rfl⟩,_⟩:=h
   obtain ⟨k1,k2⟩:=VOKs.two (Hl R h1 hb)
   exact ⟨Ao3 hY R hop k1 k2 h4 hv,fun c hc=>by rw [hop] at hc;cases hc⟩
  ·exact (Ac h).elim
 ·rename_i t p hop
  obtain ⟨⟨ys,bs'⟩,r1,h1,h⟩:=Ag h
  dsimp only at h
  split at h
  ·rename_i x
   obtain ⟨o',r4,h4,h⟩:=Ag h
   simp only [M.run,Option.some.injEq,Prod.mk.injEq] at h
   obtain ⟨⟨rfl,rfl⟩,_⟩:=h
   cases hia:Aee x with
   |true=>
    rw [hia] at h4
    cases kp with
    |true=>exact ⟨Ao8 hY R hop (VOKs.one (Hl R h1 hb)) h4 hv,fun c hc=>by rw [hop] at hc;cases hc⟩
    |false=>exact ⟨Ao7 hY R hop (VOKs.one (Hl R h1 hb)) h4 hv,fun c hc=>by rw [hop] at hc;cases hc⟩
   |false=>rw [hia] at h4;exact ⟨Ao4 hY R hop (VOKs.one (Hl R h1 hb)) h4 hv,fun c hc=>by rw [hop] at hc;cases hc⟩
  ·exact (Ac h).elim
 ·rename_i t p q hop
  obtain ⟨⟨ys,bs'⟩,r1,h1,h⟩:=Ag h
  dsimp only at h
  split at h
  ·rename_i x y hxy
   obtain ⟨o',r4,h4,h⟩:=Ag h
   simp only [M.run,Option.some.injEq,Prod.mk.injEq] at h
   obtain ⟨⟨rfl,rfl⟩,_⟩:=h
   obtain ⟨k1,k2⟩:=VOKs.two (Hl R h1 hb)
   exact ⟨Ao9 hY R hop k1 k2 h4 hv,fun c hc=>by rw [hop] at hc;cases hc⟩
  ·exact (Ac h).elim
 ·rename_i s t p hop
  obtain ⟨⟨ys,bs'⟩,r1,h1,h⟩:=Ag h
  dsimp only at h
  split at h
  ·rename_i x
   obtain ⟨o',r4,h4,h⟩:=Ag h
   simp only [M.run,Option.some.injEq,Prod.mk.injEq] at h
   obtain ⟨⟨rfl,rfl⟩,_⟩:=h
   exact ⟨Ao1 hY R hop (VOKs.one (Hl R h1 hb)) h4 hv,fun c hc=>by rw [hop] at hc;cases hc⟩
  ·exact (Ac h).elim
 ·rename_i args tys hop
  obtain ⟨⟨ys,bs'⟩,r1,h1,h⟩:=Ag h
  dsimp only at h
  split at h
  ·rename_i x z t t' hys htys
   obtain ⟨hb2,h⟩:=Ak h
   have hb2:=Nat.eq_of_beq_eq_true hb2
   split at h
   ·rename_i el hk
    obtain ⟨o',r4,h4,h⟩:=Ag h
    simp only [M.run,Option.some.injEq,Prod.mk.injEq] at h
    obtain ⟨⟨rfl,rfl⟩,_⟩:=h
    have hx:=Hl R h1 hb
    obtain ⟨p,q,hp,k1,k2⟩:=VOKs.inv2 hx
    rw [Ib htys,Ib hp,<-hb2] at hop
    exact ⟨Ao0 hY R hop hk k1 k2 h4 hv,fun c hc=>by rw [hop] at hc;cases hc⟩
   ·exact (Ac h).elim
  ·exact (Ac h).elim
 ·exact (Ac h).elim
end
def Gh0 (vis:Nat->Nat):Gh:=⟨vis,fun _=>0,fun _=>none,fun _=>False,⟨[],.nil⟩⟩
section
variable {P:Program} {Y:TypeId->Ty} {X:Cx} {nt:Nat} {ds:List Deferred} {e:Env} {a:Act} {w:World} {G:Gh} {O:Nat->Prop}
theorem Aw.weak {vis:Nat->Nat} {O O':Nat->Prop} (h:∀ b,O b->O' b) {x:D} {v:Value} (r:Aw vis w O x v):Aw vis w O' x v:=by
 cases x with
 |c x=>exact r
 |agg xs=>exact r
 |rd xs=>
  obtain ⟨bb,off,h1,h2,h3⟩:=r
  exact ⟨bb,off,h1,h2,h3.imp (h _) id⟩
theorem Aw.pure {vis:Nat->Nat} {O O':Nat->Prop} {x:D} {v:Value} (hx:Fa (.d x)=true) (r:Aw vis w O x v):Aw vis w O' x v:=by
 cases x with
 |c x=>exact r
 |agg xs=>exact r
 |rd xs=>cases hx
mutual
theorem Aa.pure {G':Gh} {O O':Nat->Prop} (hv:G'.vis=G.vis):∀ {x:T} {v:Value},Fa x=true->Aa G w O x v->Aa G' w O' x v
 | .d x,v,hx,r=>by simp only [Aa] at r ⊢;rw [hv];exact Aw.pure hx r
 | .fn f a b,v,hx,r=>by
  simp only [Fa,Bool.and_eq_true] at hx
  simp only [Aa] at r ⊢
  obtain ⟨us,vs,h1,h2,h3⟩:=r
  exact ⟨us,vs,h1,Ab.pure hv hx.1 h2,Ab.pure hv hx.2 h3⟩
 | .tup _,_,hx,_| .addr _ _,_,hx,_| .may _ _,_,hx,_| .any,_,hx,_| .tok _,_,hx,_| .arr _ _,_,hx,_| .elt _ _ _ _,_,hx,_| .mp _,_,hx,_| .it _,_,hx,_| .nx _ _,_,hx,_| .yl _,_,hx,_| .ag _,_,hx,_| .tpl _,_,hx,_
 | .own _ _ _,_,hx,_| .tkd _ _ _ _,_,hx,_| .arrc _ _ _ _,_,hx,_| .mapc _ _ _ _ _,_,hx,_| .itc _ _,_,hx,_| .mitc _ _ _ _ _ _,_,hx,_| .tr _,_,hx,_| .arro _ _ _ _ _,_,hx,_=>by simp [Fa] at hx
theorem Ab.pure {G':Gh} {O O':Nat->Prop} (hv:G'.vis=G.vis):∀ {xs:List T} {vs:List Value},De xs=true->Ab G w O xs vs->Ab G' w O' xs vs
 | [],vs,_,r=>by simp only [Ab] at r ⊢;exact r
 |x::xs,vs,hx,r=>by
  simp only [De,Bool.and_eq_true] at hx
  simp only [Ab] at r ⊢
  obtain ⟨v,us,h1,h2,h3⟩:=r
  exact ⟨v,us,h1,Aa.pure hv hx.1 h2,Ab.pure hv hx.2 h3⟩
end
mutual
theorem Aby:∀ {x:T},Fa x=true->Ai x=[]
 | .d x,_=>rfl
 | .fn f a b,hx=>by
  simp only [Fa,Bool.and_eq_true] at hx
  simp only [Ai,Sg hx.1,Sg hx.2,List.append_nil]
 | .tup _,hx| .addr _ _,hx| .may _ _,hx| .any,hx| .tok _,hx| .arr _ _,hx| .elt _ _ _ _,hx| .mp _,hx| .it _,hx| .nx _ _,hx| .yl _,hx| .ag _,hx| .tpl _,hx
 | .own _ _ _,hx| .tkd _ _ _ _,hx| .arrc _ _ _ _,hx| .mapc _ _ _ _ _,hx| .itc _ _,hx| .mitc _ _ _ _ _ _,hx| .tr _,hx| .arro _ _ _ _ _,hx=>by simp [Fa] at hx
theorem Sg:∀ {xs:List T},De xs=true->Bd xs=[]
 | [],_=>rfl
 |x::xs,hx=>by
  simp only [De,Bool.and_eq_true] at hx
  simp only [Bd,Aby hx.1,Sg hx.2,List.append_nil]
end
theorem Ab.len {xs:List T} {vs:List Value} (h:Ab G w O xs vs):xs.length=vs.length:=by
 induction xs generalizing vs with
 |nil=>simp only [Ab] at h;subst h;rfl
 |cons x xs ih=>simp only [Ab] at h;obtain ⟨v,us,rfl,_,h2⟩:=h;simp [ih h2]
theorem Ab.app {xs ys:List T} {vs us:List Value} (h1:Ab G w O xs vs) (h2:Ab G w O ys us):Ab G w O (xs++ys) (vs++us):=by
 induction xs generalizing vs with
 |nil=>simp only [Ab] at h1;subst h1;exact h2
 |cons x xs ih=>
  simp only [Ab] at h1
  obtain ⟨v,vs',rfl,h3,h4⟩:=h1
  simp only [List.cons_append,Ab]
  exact ⟨v,vs'++us,rfl,h3,ih h4⟩
theorem Ab.get {xs:List T} {vs:List Value} (h:Ab G w O xs vs):∀ (i:Nat) x v,xs[i]?=some x->vs[i]?=some v->Aa G w O x v:=by
 induction xs generalizing vs with
 |nil=>intro i x v h;simp at h
 |cons y xs ih=>
  simp only [Ab] at h
  obtain ⟨u,us,rfl,h1,h2⟩:=h
  intro i x v hx hv
  cases i with
  |zero=>simp only [List.getElem?_cons_zero,Option.some.injEq] at hx hv;subst hx;subst hv;exact h1
  |succ i=>exact ih h2 i x v (by simpa using hx) (by simpa using hv)
theorem Ab.take {xs:List T} {vs:List Value} (h:Ab G w O xs vs):∀ n,Ab G w O (xs.take n) (vs.take n):=by
 induction xs generalizing vs with
 |nil=>intro n;simp only [Ab] at h;subst h;simp [Ab]
 |cons y xs ih=>
  simp only [Ab] at h
  obtain ⟨u,us,rfl,h1,h2⟩:=h
  intro n
  cases n with
  |zero=>simp [Ab]
  |succ n=>simp only [List.take_succ_cons,Ab];exact ⟨u,_,rfl,h1,ih h2 n⟩
theorem Ab.drop {xs:List T} {vs:List Value} (h:Ab G w O xs vs):∀ n,Ab G w O (xs.drop n) (vs.drop n):=by
 induction xs generalizing vs with
 |nil=>intro n;simp only [Ab] at h;subst h;simp [Ab]
 |cons y xs ih=>
  have h0:=h
  simp only [Ab] at h
  obtain ⟨u,us,rfl,h1,h2⟩:=h
  intro n
  cases n with
  |zero=>exact h0
  |succ n=>exact ih h2 n
/-! what is handed to a callee -/
def Lo (n:Nat):Nat->Prop:=fun b=>b<n
theorem Aob (R:Rel Y X nt ds e a w G) {id k n:Nat} {r r':List (Nat×Nat)} {cs:List C} (hid:e.get 2 id≠.any) (h:(Kn id n k).run e.get r=some (cs,r')):
  Iv G.vis w (Lo w.heap.size) cs (.pointer (some ⟨G.bk id,k,none⟩)):=by
 obtain ⟨us,h1,h2,h3⟩:=Am1 R (Am0 _ h).2
 refine ⟨_,_,rfl,fun j c hj=>?_,.inl (R.mem.box id hid).2.1⟩
 have hlt:j<us.length:=by rw [h1];exact (List.getElem?_eq_some_iff.1 hj).1
 exact ⟨_,h2 j _ (List.getElem?_eq_getElem hlt),h3.2 j c _ hj (List.getElem?_eq_getElem hlt)⟩
theorem Aoc {e':Env} {id:Nat} (h:∀ k,e'.get (id+3) k=e.get (id+3) k):∀ (n k:Nat) (r:List (Nat×Nat)),(Kn id n k).run e'.get r=(Kn id n k).run e.get r:=by
 intro n
 induction n with
 |zero=>intro k r;rfl
 |succ n ih=>
  intro k r
  simp only [Kn,M.run,h]
  split
  ·rw [run_bind,run_bind,ih];rfl
  ·rfl
mutual
theorem Aod:∀ {x y:T} {ps:List Prop} {W:Env} {r r':List (Nat×Nat)},(Kp x).run e.get r=some ((y,ps,W),r')->Bq e W/\
  ∀ {W':Env} {G':Gh} {v:Value},Bq e W'->(∀ p∈W,p∈W')->(∀ p∈ps,p)->Rel Y X nt ds (W'++e) a w G'->Aa G' w X.fz x v->(∀ id,id∈Ai x->Env.get (W'++e) 2 id≠.any)->Aa (Gh0 G'.vis) w (Lo w.heap.size) y v
 | .addr id k,y,ps,W,r,r',h=>by
  simp only [Kp] at h
  obtain ⟨cs,r1,h1,h2⟩:=Ag h
  simp only [M.run,Option.some.injEq,Prod.mk.injEq] at h2
  obtain ⟨⟨rfl,rfl,rfl⟩,_⟩:=h2
  refine ⟨.nil,fun hW _ _ R' hx hid=>?_⟩
  simp only [Aa] at hx ⊢
  subst hx
  exact Aob (n:=64) (r:=r) (r':=r1) R' (hid id (by simp [Ai])) (by rw [Aoc (fun k=>Md hW (by omega))];exact h1)
 | .d x,y,ps,W,r,r',h=>by
  simp only [Kp,M.run,Option.some.injEq,Prod.mk.injEq] at h
  obtain ⟨⟨rfl,rfl,rfl⟩,_⟩:=h
  refine ⟨.nil,fun hW _ _ R' hx hid=>?_⟩
  simp only [Aa] at hx ⊢
  exact Aw.dem (hx.weak fun b hb=>R'.hlt b (R'.fzh b hb))
 | .fn f p q,y,ps,W,r,r',h=>by
  simp only [Kp] at h
  obtain ⟨⟨p',ps1,W1⟩,r1,h1,h2⟩:=Ag h
  obtain ⟨⟨q',ps2,W2⟩,r2,h3,h4⟩:=Ag h2
  simp only [M.run,Option.some.injEq,Prod.mk.injEq,Gv.add] at h4
  obtain ⟨⟨rfl,rfl,rfl⟩,_⟩:=h4
  obtain ⟨f1,g1⟩:=Mf h1
  obtain ⟨f2,g2⟩:=Mf h3
  refine ⟨f1.app f2,fun hW hsub hp R' hx hid=>?_⟩
  simp only [Aa] at hx ⊢
  obtain ⟨us,vs,hv,h5,h6⟩:=hx
  exact ⟨us,vs,hv,g1 hW (fun p hp=>hsub p (List.mem_append_left _ hp)) (fun p hp'=>hp p (List.mem_append_left _ hp')) R' h5 (fun id h=>hid id (by simp [Ai,h])),
   g2 hW (fun p hp=>hsub p (List.mem_append_right _ hp)) (fun p hp'=>hp p (List.mem_append_right _ hp')) R' h6 (fun id h=>hid id (by simp [Ai,h]))⟩
 | .arr id n,y,ps,W,r,r',h=>by
  simp only [Kp] at h
  obtain ⟨⟨c,ps1,W1⟩,r1,h1,h2⟩:=Ag h
  simp only [M.run,Option.some.injEq,Prod.mk.injEq] at h2
  obtain ⟨⟨rfl,rfl,rfl⟩,_⟩:=h2
  obtain ⟨f1,g1⟩:=Hm (Y:=Y) (X:=X) (nt:=nt) (ds:=ds) (a:=a) (w:=w) (O:=X.fz) h1
  refine ⟨f1,fun hW hsub hp R' hx hid=>?_⟩
  have hc:=g1 hW hsub hp R' (VOK.ids_used (id:=id) hx trivial rfl rfl (hid id (by simp [Ai])))
  simp only [Aa]
  exact hc
 | .mp id,y,ps,W,r,r',h=>by
  simp only [Kp] at h
  obtain ⟨⟨c,ps1,W1⟩,r1,h1,h2⟩:=Ag h
  simp only [M.run,Option.some.injEq,Prod.mk.injEq] at h2
  obtain ⟨⟨rfl,rfl,rfl⟩,_⟩:=h2
  obtain ⟨f1,g1⟩:=Hm (Y:=Y) (X:=X) (nt:=nt) (ds:=ds) (a:=a) (w:=w) (O:=X.fz) h1
  refine ⟨f1,fun hW hsub hp R' hx hid=>?_⟩
  have hc:=g1 hW hsub hp R' (VOK.ids_used (id:=id) hx trivial rfl rfl (hid id (by simp [Ai])))
  simp only [Aa]
  exact hc
 | .tup _,_,_,_,_,_,h| .may _ _,_,_,_,_,_,h| .any,_,_,_,_,_,h| .tok _,_,_,_,_,_,h| .elt _ _ _ _,_,_,_,_,_,h| .it _,_,_,_,_,_,h| .nx _ _,_,_,_,_,_,h| .yl _,_,_,_,_,_,h| .ag _,_,_,_,_,_,h| .tpl _,_,_,_,_,_,h
 | .own _ _ _,_,_,_,_,_,h| .tkd _ _ _ _,_,_,_,_,_,h| .arrc _ _ _ _,_,_,_,_,_,h| .mapc _ _ _ _ _,_,_,_,_,_,h| .itc _ _,_,_,_,_,_,h| .mitc _ _ _ _ _ _,_,_,_,_,_,h| .tr _,_,_,_,_,_,h| .arro _ _ _ _ _,_,_,_,_,_,h=>by simp only [Kp] at h;exact (Ac h).elim
theorem Mf:∀ {xs ys:List T} {ps:List Prop} {W:Env} {r r':List (Nat×Nat)},(Eu xs).run e.get r=some ((ys,ps,W),r')->Bq e W/\
  ∀ {W':Env} {G':Gh} {vs:List Value},Bq e W'->(∀ p∈W,p∈W')->(∀ p∈ps,p)->Rel Y X nt ds (W'++e) a w G'->Ab G' w X.fz xs vs->(∀ id,id∈Bd xs->Env.get (W'++e) 2 id≠.any)->Ab (Gh0 G'.vis) w (Lo w.heap.size) ys vs
 | [],ys,ps,W,r,r',h=>by
  simp only [Eu,M.run,Option.some.injEq,Prod.mk.injEq] at h
  obtain ⟨⟨rfl,rfl,rfl⟩,_⟩:=h
  refine ⟨.nil,fun _ _ _ _ hx _=>?_⟩
  simp only [Ab] at hx ⊢
  exact hx
 |x::xs,ys,ps,W,r,r',h=>by
  simp only [Eu] at h
  obtain ⟨⟨y,ps1,W1⟩,r1,h1,h2⟩:=Ag h
  obtain ⟨⟨ys',ps2,W2⟩,r2,h3,h4⟩:=Ag h2
  simp only [M.run,Option.some.injEq,Prod.mk.injEq,Gv.add] at h4
  obtain ⟨⟨rfl,rfl,rfl⟩,_⟩:=h4
  obtain ⟨f1,g1⟩:=Aod h1
  obtain ⟨f2,g2⟩:=Mf h3
  refine ⟨f1.app f2,fun hW hsub hp R' hx hid=>?_⟩
  simp only [Ab] at hx ⊢
  obtain ⟨v,us,hv,h5,h6⟩:=hx
  exact ⟨v,us,hv,g1 hW (fun p hp=>hsub p (List.mem_append_left _ hp)) (fun p hp'=>hp p (List.mem_append_left _ hp')) R' h5 (fun id h=>hid id (by simp [Bd,h])),
   g2 hW (fun p hp=>hsub p (List.mem_append_right _ hp)) (fun p hp'=>hp p (List.mem_append_right _ hp')) R' h6 (fun id h=>hid id (by simp [Bd,h]))⟩
end
/-! what comes Ea -/
def Fz (base:Nat) (vis:Nat->Nat) (w:World):T->Value->Prop
 | .d x,v=>Aw vis w (fun _=>False) x v
 | .tup xs,v=>∃ vs:Array Value,v=.tuple vs/\Hy vis w (fun _=>False) xs vs.toList
 | .fn f a b,v=>Fa (.fn f a b)=true/\Aa (Gh0 vis) w (fun _=>False) (.fn f a b) v
 | .ag xs,v=>De xs=true/\Aa (Gh0 vis) w (fun _=>False) (.ag xs) v
 | .own sz n f,v=>∃ b cs t z,((n=0/\v=.slice none 0 0)∨∃ cap,v=.slice (some ⟨b,0,none⟩) n cap/\n<=cap/\cap<=maxLen/\cap<=cs.size)/\base<=b/\b<w.heap.size/\vis b=0/\0<sz/\w.heap[b]?=some (.cells cs t z)/\Kv cs z/\Wc vis w sz n f cs
 | .tkd el sz n f,v=>Rep vis w (.s .n n f) v/\(∀ i,i<n->(f i).length=sz)/\(v=.slice none 0 0∨(∃ a,v=.slice a n n)∨∃ b xs,base<=b/\b<w.heap.size/\(∃ cs t,w.heap[b]?=some (.cells cs t (0,0)))/\v.ownBlock=some b/\w.ownsRow 0 el sz v n xs/\vis b=n*sz)
 |_,_=>False
def NewOK (base:Nat) (vis:Nat->Nat) (w:World) (m:Env) (x:T) (v:Value):Prop:=
 ∃ bk:Nat->Nat,(∀ id,m.get 2 id≠.any->base<=bk id/\bk id<w.heap.size/\Bv { Gh0 vis with bk:=bk } w (m.get 2 id) (bk id))/\(∀ id id',m.get 2 id≠.any->m.get 2 id'≠.any->bk id=bk id'->id=id')/\
  (∀ id k,m.get (id+3) k≠.any->m.get 2 id=live/\∃ u,w.cell? ⟨bk id,k,none⟩=some u/\Aa { Gh0 vis with bk:=bk } w (fun _=>False) (m.get (id+3) k) u)/\Aa { Gh0 vis with bk:=bk } w (fun _=>False) x v
def Gx (vis:Nat->Nat) (w:World) (en:Ending) (w':World):Res->Prop
 | .ret x=>∃ v vis',en=.returned v/\(∀ b,b<w.heap.size->vis' b=vis b)/\(∀ b,w'.heap.size<=b->vis' b=0)/\Fz w.heap.size vis' w' x v
 | .pan v=>en=.panicked [{ v,recovered:=false }]
 | .new x m=>∃ v vis',en=.returned v/\(∀ b,b<w.heap.size->vis' b=vis b)/\(∀ b,w'.heap.size<=b->vis' b=0)/\NewOK w.heap.size vis' w' m x v
def Gy (P:Program) (f:FuncId):Prop:=∃ fn,P.funcs[f]?=some fn/\(fn.name== "runtime.NumGoroutine")=false/\fn.body.isNone=false
def Computes (P:Program) (Gl:World->Prop) (f:FuncId) (args:List T) (r:Res):Prop:=
 Gy P f/\∀ (vis:Nat->Nat) (w:World) (vs:Array Value),(∀ b,w.heap.size<=b->vis b=0)->Gl w->Ab (Gh0 vis) w (Lo w.heap.size) args vs.toList->
  Calls P f vs w fun en w'=>Below w.heap.size w w'/\Gx vis w en w' r
def Aoe (P:Program) (l:Nat) (args:Array Value) (w:World) (R:Ending->World->Prop):Prop:=
 ∃ fn tmps assign body,(Instr.yield l args).run P w=.ok (.round l fn tmps assign body) w/\RoundIn Fence.wide 0 P l fn tmps assign body w R
def Pr (H:Nat->Prop) (w w':World):Nat->Prop:=fun b=>H b∨(w.heap.size<=b/\b<w'.heap.size)
def Sh (P:Program) (J:Oth) (yd:Yd):Prop:=
 ∀ p H vis w vs,p<yd.m->p<=yd.s->J p H vis w->(∀ b,H b->b<w.heap.size)->(∀ b,w.heap.size<=b->vis b=0)->De (yd.ys p)=true->Ab (Gh0 vis) w (fun _=>False) (yd.ys p) vs.toList->
  Aoe P yd.l vs w fun en w'=>en=.returned (.bool (p != yd.s))/\J (p+1) (Pr H w w') vis w'/\(∀ b,b<w.heap.size->¬ H b->w'.heap[b]?=w.heap[b]?)/\KeepV vis w w'/\Same w w'
def Afs (Y:TypeId->Ty) (J:Oth) (G:Gh) (post:Env) (w:World) (en:Ending) (w':World) (r:Res):Prop:=
 ∃ G',G'.bk=G.bk/\(∀ b,b<w.heap.size->G'.vis b=G.vis b)/\(∀ b,w'.heap.size<=b->G'.vis b=0)/\(∀ b,b<w.heap.size->(G'.H b↔G.H b))/\(∀ b,G'.H b->b<w'.heap.size)/\
  J (trN (post.get 0 BIG)) G'.H G'.vis w'/\Mem Y (fun _=>False) post w' G'/\
  match r with
  | .ret x=>∃ v,en=.returned v/\Fz w.heap.size G'.vis w' x v
  | .pan v=>en=.panicked [{ v,recovered:=false }]
  | .new _ _=>False
def Does (P:Program) (Y:TypeId->Ty) (Gl:World->Prop) (yd:Yd) (f:FuncId) (args:List T) (pre:Env) (r:Res) (post:Env):Prop:=
 Gy P f/\∀ (J:Oth) (G:Gh) (w:World) (vs:Array Value),J.Stable->(∀ p H vi w,J p H vi w->Gl w)->Sh P J yd->
  (∀ b,w.heap.size<=b->G.vis b=0)->(∀ b,G.H b->b<w.heap.size)->J (trN (pre.get 0 BIG)) G.H G.vis w->Mem Y (fun _=>False) pre w G->Ab G w (fun _=>False) args vs.toList->
  Calls P f vs w fun en w'=>Same w w'/\KeepV G.vis w w'/\(∀ b,b<w.heap.size->¬ G.H b->(∀ id,pre.get 2 id≠.any->G.bk id≠b)->w'.heap[b]?=w.heap[b]?)/\
   (∀ id k,pre.get 2 id=live->pre.get (id+3) k=.any->w'.cell? ⟨G.bk id,k,none⟩=w.cell? ⟨G.bk id,k,none⟩)/\Afs Y J G (Ah post pre) w en w' r
end
abbrev Fr (r:Option Nat):Fence:={ Fence.wide with round:=r }
structure Set (P:Program) (Y:TypeId->Ty) (Gl:World->Prop):Prop where
 y:YOK P Y
 gl:∀ w w',Gl w->Below w.heap.size w w'->Gl w'
 mixed:P.follows .mixedOrders=true
theorem Aft {r:Option Nat} {n:Nat} {P:Program} {f:FuncId} {args:Array Value} {w:World} {R:Ending->World->Prop} (h:Calls P f args w R):CallsIn (Fr r) n P f args w R:=
 (callsIn_wide (n:=n)).2 h
theorem Ps {n:Nat} {P:Program} {f:FuncId} {args:Array Value} {w:World} {R:Ending->World->Prop} (h:CallsIn (Fr none) n P f args w R):Calls P f args w R:=
 (callsIn_wide (n:=n)).1 h
theorem Aof {r:Option Nat} {n m l f:Nat} {P:Program} {tmps:Array Value} {assign body:Code} {w:World} {R:Ending->World->Prop} (h:RoundIn Fence.wide m P l f tmps assign body w R):RoundIn (Fr r) n P l f tmps assign body w R:=
 ⟨trivial,fun c cs _=>h.2 c cs (room_wide _)⟩
section
variable {P:Program} {Y:TypeId->Ty} {Gl:World->Prop} {X:Cx} {nt:Nat} {ds:List Deferred} {e:Env} {a:Act} {w:World} {G:Gh} {O:Nat->Prop} {Q:Exit->Act->World->Prop} {rd:Option Nat} {fu:Nat} {yd:Yd}
abbrev Cf (Y:TypeId->Ty) (X:Cx) (nt:Nat) (ds:List Deferred) (e:Env) (a:Act) (w:World):Prop:=∃ G,Rel Y X nt ds e a w G
theorem Rel.after (R:Rel Y X nt ds e a w G) {w':World} {vis':Nat->Nat} (hb:Below w.heap.size w w') (hv:∀ b,b<w.heap.size->vis' b=G.vis b) (hf:∀ b,w'.heap.size<=b->vis' b=0):
  Rel Y X nt ds e a w' { G with vis:=vis' }/\∀ x v,VOK G w X.fz Y e x v->VOK { G with vis:=vis' } w' X.fz Y e x v:=by
 have hle:∀ b,G.vis b<=vis' b:=fun b=>by
  rcases Nat.lt_or_ge b w.heap.size with h|h
  ·rw [hv b h];exact Nat.le_refl _
  ·rw [R.fresh b h];exact Nat.zero_le _
 have hpos:∀ b,0<G.vis b->b<w.heap.size:=fun b h=>by
  rcases Nat.lt_or_ge b w.heap.size with h'|h'
  ·exact h'
  ·rw [R.fresh b h'] at h;omega
 refine R.grow (w':=w') (G':={ G with vis:=vis' }) none (fun _ _ _=>rfl) ⟨hb.os,hb.tape,hb.output,hb.size⟩ (fun b h _=>hb.block b h) (fun b hb=>(by cases hb)) hle
  ⟨fun b i hi=>World.cell?_of_block (hb.block _ (hpos b (by omega))),fun b h es c he=>by rw [hb.block _ (hpos b h)];exact he,Mb fun b h=>hb.block b h⟩ rfl rfl rfl (fun id h=>hv _ (R.mem.box id h).2.1)
  (fun k b h=>?_) R.tinj (fun k h=>⟨h,fun _ h=>h⟩) (fun k b _ h _=>⟨h,hb.block _ (R.tks k b h).2.1,hv _ (R.tks k b h).2.1⟩) hf (fun b h=>hv b (Nat.lt_of_lt_of_le h R.base)) (fun b h=>hv b (R.hlt b h))
 obtain ⟨h1,h2,h3,h4,h5⟩:=R.tks k b h
 exact ⟨h1,Nat.lt_of_lt_of_le h2 hb.size,h3,by rw [hb.block _ h2];exact h4,h5,R.tlive k b h⟩
theorem Rel.adopt (R:Rel Y X nt ds e a w G) {d b:Nat} (hd:e.get 2 d=.any) (hdf:d<FAR) (hb:X.base<=b) (hlt:b<w.heap.size) (hH:¬ G.H b) (hbox:∀ id,e.get 2 id≠.any->G.bk id≠b) (htk:∀ k,G.tk k≠some b)
  {st:T} (hst:st≠.any) (hobj:∀ G':Gh,G'.vis=G.vis->Bv G' w st b):
  ∃ G',G'.vis=G.vis/\G'.bk d=b/\Rel Y X nt ds ((2,d,st)::e) a w G'/\∀ x v,VOK G w X.fz Y e x v->VOK G' w X.fz Y ((2,d,st)::e) x v:=by
 obtain ⟨G',hG⟩:∃ G',({ G with bk:=fun id=>if id=d then b else G.bk id }:Gh)=G':=⟨_,rfl⟩
 have hvis:G'.vis=G.vis:=by subst hG;rfl
 have htk':G'.tk=G.tk:=by subst hG;rfl
 have hbd:G'.bk d=b:=by subst hG;simp
 have hbo:∀ id,id≠d->G'.bk id=G.bk id:=fun id h=>by subst hG;simp [h]
 have h01:∀ t k,t≠2->Env.get ((2,d,st)::e) t k=e.get t k:=fun t k h=>Ax (fun hh=>h hh.1.symm)
 have h2:∀ k,Env.get ((2,d,st)::e) 2 k=if k=d then st else e.get 2 k:=fun k=>by
  rw [Ap]
  by_cases h:k=d
  ·subst h;simp
  ·rw [if_neg fun hh=>h hh.2.symm,if_neg h]
 have hne:∀ id,e.get 2 id≠.any->id≠d:=fun id h hh=>h (by rw [hh];exact hd)
 obtain ⟨R',lift⟩:=R.move (w':=w) (G':=G') (e':=(2,d,st)::e) ⟨fun b=>by rw [hvis];exact Nat.le_refl _,.refl _ _,fun _ _=>rfl⟩ (.refl _) (by subst hG;rfl) (by subst hG;rfl) (fun _ _=>rfl) (fun _ _=>rfl) (fun t=>h01 0 t (by decide))
  (fun id h=>⟨hbo id (hne id h),by rw [h2,if_neg (hne id h)];exact h⟩) (fun k h=>by rw [h01 1 k (by decide)];exact ⟨h,fun _ h=>h⟩) (fun k c _ hc _=>⟨by rw [htk'];exact hc,rfl,by rw [hvis]⟩)
  (fun lift id hid=>by
   by_cases h:id=d
   ·subst h
    refine .inr ⟨by rw [hbd];exact hH,by rw [hbd];exact hlt,⟨fun _=>by rw [hbd];exact hb,fun hf'=>absurd hdf (Nat.not_lt.2 hf')⟩,fun id' hid' hh=>?_,fun k=>by rw [hbd,htk'];exact htk k,by rw [h2,if_pos rfl,hbd];exact hobj G' hvis,fun hf'=>absurd hdf (Nat.not_lt.2 hf'),fun k hk=>?_⟩
    ·by_cases h':id'=id
     ·exact h'
     ·rw [h2,if_neg h'] at hid'
      rw [hbd,hbo id' h'] at hh
      exact absurd hh (hbox id' hid')
    ·rw [h01 _ k (by omega)] at hk
     exact absurd (R.mem.cells id k hk).1 (by rw [hd];exact fun h=>Bh h.symm)
   ·rw [h2,if_neg h] at hid
    exact .inl ⟨hid,by rw [h2,if_neg h],rfl,by rw [hvis],fun k=>h01 _ k (by omega)⟩)
  (fun id k hk=>by
   rw [h01 _ k (by omega)] at hk
   rw [h2]
   split
   ·exact hst
   ·rw [(R.mem.cells id k hk).1];exact Bh)
  (fun k c hc=>by
   rw [htk'] at hc
   obtain ⟨q1,q2,q3,q4,q5⟩:=R.tks k c hc
   exact ⟨q1,q2,q3,q4,q5,(R.tlive k c hc).mono (fun k hk=>by rw [h01 1 k (by decide)];exact hk) fun id hid=>⟨by rw [h2,if_neg (hne id hid)];exact hid,hbo id (hne id hid)⟩⟩)
  (fun k k' c h h'=>by rw [htk'] at h h';exact R.tinj k k' c h h') (fun c hc=>by rw [hvis];exact R.fresh c hc) (fun c _=>by rw [hvis]) (fun c _=>by rw [hvis])
 exact ⟨G',hvis,hbd,R',lift⟩
theorem VOKs.rel {xs:List T} {vs:List Value} (h:VOKs G w O Y e xs vs) (hx:∀ x∈xs,∀ b y,x≠.may b y):Ab G w O xs vs/\∀ id,id∈Bd xs->e.get 2 id≠.any:=by
 induction h with
 |nil=>exact ⟨by simp only [Ab],fun id h=>(by cases h)⟩
 |cons h1 h2 ih=>
  rename_i x v xs vs
  obtain ⟨g1,g2⟩:=ih fun y hy=>hx y (List.mem_cons_of_mem _ hy)
  refine ⟨by simp only [Ab];exact ⟨v,vs,rfl,h1.rel,g1⟩,fun id hid=>?_⟩
  simp only [Bd,List.mem_append] at hid
  exact hid.elim (h1.ids' (hx x List.mem_cons_self) id) (g2 id)
theorem Abz (xs ys:List T):Bd (xs++ys)=Bd xs++Bd ys:=by
 induction xs with
 |nil=>rfl
 |cons x xs ih=>simp [Bd,ih]
theorem Nv {o:Oper} {f:Operand} {args:Array Operand} {tys:Array TypeId} {g:FuncId} {us cvs:Array Value} (ho:o.op=.call { callee:=.value f,args:=args,argTypes:=tys }) (hf:a.eval f=.func (.func g) us cvs)
  (hfn:Gy P g):(execOp a.eval o).run P w=.ok (.enter g (us++args.map a.eval++cvs)) w:=by
 obtain ⟨fn,h1,h2,h3⟩:=hfn
 have h2':fn.name≠ "runtime.NumGoroutine":=by simpa using h2
 have h3':fn.body≠none:=by intro hh;rw [hh] at h3;cases h3
 simp [execOp,ho,resolve,hf,Deferred.ofValue,invoke,callFunc,h1,h2',h3']
theorem Aog {o:Oper} {r:Operand} {name:String} {args:Array Operand} {tys:Array TypeId} {g:FuncId} {t:TypeId} {v:Value} (ho:o.op=.call { callee:=.invoke r name,args:=args,argTypes:=tys }) (hf:a.eval r=.iface t v)
  (hm:∀ w:World,(method (P.types.size+Made.depth) t v name).run P w=.ok (g,v) w) (hfn:Gy P g):(execOp a.eval o).run P w=.ok (.enter g (#[v]++args.map a.eval++#[])) w:=by
 obtain ⟨fn,h1,h2,h3⟩:=hfn
 have h2':fn.name≠ "runtime.NumGoroutine":=by simpa using h2
 have h3':fn.body≠none:=by intro hh;rw [hh] at h3;cases h3
 have h0:(#[Value.iface t v]++args.map a.eval)[0]?=some (.iface t v):=by rw [Array.getElem?_append_left (by simp)];rfl
 have hx:(args.map a.eval).extract 0 args.size=args.map a.eval:=by
  rw [show args.size=(args.map a.eval).size by simp]
  exact Array.extract_size
 simp [execOp,ho,resolve,hf,invoke,h0,callMethod,hm,callFunc,h1,h2',h3',hx]
structure CallAs (P:Program) (a:Act) (o:Oper) (g:FuncId) (us:Array Value) (args:Array Operand) (vs:Array Value):Prop where
 nd:∀ c,o.op≠.defer c
 ex:∀ w:World,Gy P g->(execOp a.eval o).run P w=.ok (.enter g (us++args.map a.eval++vs)) w
theorem CallAs.value {o:Oper} {f:Operand} {args:Array Operand} {tys:Array TypeId} {g:FuncId} {us cvs:Array Value} (ho:o.op=.call { callee:=.value f,args:=args,argTypes:=tys }) (hf:a.eval f=.func (.func g) us cvs):CallAs P a o g us args cvs:=
 ⟨fun c' h=>(by rw [ho] at h;cases h),fun _ hfn=>Nv ho hf hfn⟩
theorem CallAs.invoke {o:Oper} {r:Operand} {name:String} {args:Array Operand} {tys:Array TypeId} {g:FuncId} {t:TypeId} {v:Value} (ho:o.op=.call { callee:=.invoke r name,args:=args,argTypes:=tys }) (hf:a.eval r=.iface t v)
  (hm:∀ w:World,(method (P.types.size+Made.depth) t v name).run P w=.ok (g,v) w):CallAs P a o g #[v] args #[]:=
 ⟨fun c' h=>(by rw [ho] at h;cases h),fun _ hfn=>Aog ho hf hm hfn⟩
theorem Xc {o:Oper} {g:FuncId} {args:Array Value} (hd:∀ c,o.op≠.defer c) (hrun:(execOp a.eval o).run P w=.ok (.enter g args) w) {K:Act->World->Prop} {R:Ending->World->Prop} (hc:Calls P g args w R)
  (hR:∀ en w',R en w'->(∀ v,en=.returned v->K (a.put o.dst v) w')/\(∀ ch,en=.panicked ch->Q (.panic ch) a w')/\en≠.outgrown):o.wpIn (Fr rd) fu P a w K Q:=by
 refine ⟨fun _ _=>trivial,?_⟩
 rw [Oper.semAt_eq _ _ _ hd,hrun,Oper.uponIn_enter]
 refine ⟨fun h=>by simp [Fence.wide] at h,(Aft hc).mono fun en w' h=>?_⟩
 obtain ⟨h1,h2,h3⟩:=hR en w' h
 cases en with
 |returned v=>exact h1 v rfl
 |panicked ch=>exact h2 ch rfl
 |outgrown=>exact absurd rfl h3
theorem OpR.wp {o:Oper} {out:Out} (hd:∀ c,o.op≠.defer c) (h:OpR P Y X nt ds e a w o out) {K:Act->World->Prop} (hK:∀ v w' G',(∀ p∈out.hyp,p)->Rel Y X nt ds (out.wr++e) a w' G'->VOK G' w' X.fz Y (out.wr++e) out.val v->K (a.put o.dst v) w'):o.wpIn (Fr rd) fu P a w K Q:=by
 obtain ⟨nx,v,w',G',h1,h2,h3,h4,h5⟩:=h
 refine ⟨fun _ _=>trivial,?_⟩
 rw [Oper.semAt_eq _ _ _ hd,h1]
 rcases h2 with rfl|⟨rfl,rfl⟩
 ·exact hK v w' G' h3 h4 h5
 ·exact hK undef w' G' h3 h4 h5
theorem Pt {base:Nat} {x:T} {v:Value} (h:Fz base G.vis w x v) (hx:∀ sz n f,x≠.own sz n f) (hx2:∀ el sz n f,x≠.tkd el sz n f):VOK G w O Y e x.dem v:=by
 cases x with
 |d x=>exact VOK.dem (Aw.weak (fun _ h=>h.elim) h)
 |tup xs=>
  obtain ⟨vs,rfl,h1,h2⟩:=h
  refine .plain ?_ rfl rfl trivial
  simp only [T.dem,Aa]
  refine ⟨vs,rfl,by simpa using h1,fun j x v hj hv=>?_⟩
  rw [List.getElem?_map] at hj
  cases hx:xs[j]? with
  |none=>rw [hx] at hj;cases hj
  |some x'=>
   rw [hx] at hj
   simp only [Option.map_some,Option.some.injEq] at hj
   subst hj
   exact Aw.dem (Aw.weak (fun _ h=>h.elim) (h2 j x' v hx hv))
 |fn f p q=>
  obtain ⟨h1,h2⟩:=h
  exact .plain (Aa.pure (G:=Gh0 G.vis) (G':=G) rfl h1 h2) (Aby h1) rfl trivial
 |ag xs=>
  obtain ⟨h1,h2⟩:=h
  refine .plain (?_:Aa G w O (.ag xs) v) (Sg h1) rfl trivial
  simp only [Aa] at h2 ⊢
  obtain ⟨vs,hv,h3⟩:=h2
  exact ⟨vs,hv,Ab.pure (G:=Gh0 G.vis) (G':=G) rfl h1 h3⟩
 |own sz n f=>exact absurd rfl (hx sz n f)
 |tkd el sz n f=>exact absurd rfl (hx2 el sz n f)
 |_=>exact h.elim
theorem Aoh {vis vis':Nat->Nat}:∀ {xs:List C} {vs:List Value},flatC xs=true->Av vis w xs vs->Av vis' w xs vs:=by
 intro xs vs hx h
 refine ⟨h.1,fun j c v hc hv=>?_⟩
 have:∃ u,c=.v u:=by
  clear h hv
  induction xs generalizing j with
  |nil=>simp at hc
  |cons x xs ih=>
   cases x with
   |v u=>
    cases j with
    |zero=>simp only [List.getElem?_cons_zero,Option.some.injEq] at hc;exact ⟨u,hc.symm⟩
    |succ j=>exact ih hx j (by simpa using hc)
   |s _ _ _=>simp [flatC] at hx
   |m _ _ _ _=>simp [flatC] at hx
   |p _=>simp [flatC] at hx
   |i _ _ _=>simp [flatC] at hx
   |u=>simp [flatC] at hx
 obtain ⟨u,rfl⟩:=this
 have:=h.2 j _ v hc hv
 cases this with
 |v _ h=>exact .v _ h
theorem Afu {vis vis':Nat->Nat} {x:D} {v:Value} (hx:x.flat=true) (h:Aw vis w (fun _=>False) x v):Aw vis' w (fun _=>False) x v:=by
 cases x with
 |c c=>
  cases c with
  |v u=>cases h with|v _ h=>exact Rep.v _ h
  |s _ _ _=>simp [D.flat] at hx
  |m _ _ _ _=>simp [D.flat] at hx
  |p _=>simp [D.flat] at hx
  |i _ _ _=>simp [D.flat] at hx
  |u=>simp [D.flat] at hx
 |agg xs=>
  obtain ⟨vs,hv,hr⟩:=h
  exact ⟨vs,hv,Aoh (vis:=vis) hx hr⟩
 |rd xs=>simp [D.flat] at hx
theorem Afv:∀ {xs:List D},Ok xs=true->∀ (j:Nat) x,xs[j]?=some x->x.flat=true
 | [],_,j,x,h=>by simp at h
 |y::xs,hx,j,x,h=>by
  simp only [Ok,Bool.and_eq_true] at hx
  cases j with
  |zero=>simp only [List.getElem?_cons_zero,Option.some.injEq] at h;subst h;exact hx.1
  |succ j=>exact Afv hx.2 j x (by simpa using h)
end
theorem Afw:∀ {xs ys:List C},Hh xs ys->xs.length=ys.length/\∀ (j:Nat) y,ys[j]?=some y->∃ x,xs[j]?=some x/\EqC x y
 | [],[],_=>⟨rfl,fun j y h=>(by simp at h)⟩
 | [],_::_,h=>h.elim
 |_::_,[],h=>h.elim
 |x::xs,y::ys,⟨h1,h2⟩=>by
  obtain ⟨e1,e2⟩:=Afw h2
  refine ⟨by simp [e1],fun j z hz=>?_⟩
  cases j with
  |zero=>simp only [List.getElem?_cons_zero,Option.some.injEq] at hz;subst hz;exact ⟨x,rfl,h1⟩
  |succ j=>simpa using e2 j z (by simpa using hz)
theorem Mg {xs ys:List C} (h:xs=ys∨Hh xs ys):xs.length=ys.length/\∀ (j:Nat) y,ys[j]?=some y->∃ x,xs[j]?=some x/\EqC x y:=by
 rcases h with rfl|h
 ·exact ⟨rfl,fun j y hj=>⟨y,hj,.inl rfl⟩⟩
 ·exact Afw h
theorem Xd {vis:Nat->Nat} {w:World} {x y:C} {v:Value} (h:EqC x y) (hr:Rep vis w x v):Rep vis w y v:=by
 rcases h with rfl|⟨rfl,g,f,rfl⟩|⟨a,n,f,b,m,g,rfl,rfl,h1,h2⟩
 ·exact hr
 ·rw [Mc hr];exact .nil _ _
 ·subst h1
  cases hr with
  |nil=>exact .nil _ _
  |e=>exact .e _ _ _
  |s _ n f b off cap sz u a1 a2 a3 a4 a5 a6=>
   exact .s _ n g b off cap sz u a1 a2 (fun i hi=>by rw [<-h2 i hi];exact a3 i hi) a4 (fun i j c hi hj=>a5 i j c hi (by rw [h2 i hi];exact hj)) (fun i j c hi hj=>a6 i j c hi (by rw [h2 i hi];exact hj))
theorem Afx {vis:Nat->Nat} {w:World} {xs ys:List C} {vs:List Value} (h:xs=ys∨Hh xs ys) (hr:Av vis w xs vs):Av vis w ys vs:=by
 obtain ⟨h1,h2⟩:=Mg h
 refine ⟨by rw [<-h1];exact hr.1,fun j y v hy hv=>?_⟩
 obtain ⟨x,hx,hxy⟩:=h2 j y hy
 exact Xd hxy (hr.2 j x v hx hv)
theorem Aoi {kn:Nat} {es:Array MapEntry} {clock:Nat} {dom dom':List Int->Bool} {val val':List Int->List C} (h:MEq dom val dom' val') (hk:Ma kn es clock dom):Ma kn es clock dom':=
 ⟨fun i e he=>by obtain ⟨k,h1,h2⟩:=hk.1 i e he;exact ⟨k,h1,by rw [<-(h k).1];exact h2⟩,fun k hd=>hk.2.1 k (by rw [(h k).1];exact hd),hk.2.2⟩
theorem Ac0 {vis:Nat->Nat} {w:World} {kn:Nat} {ag:Bool} {es:Array MapEntry} {clock:Nat} {dom dom':List Int->Bool} {val val':List Int->List C} (h:MEq dom val dom' val') (hk:Pk vis w kn ag dom val es clock):Pk vis w kn ag dom' val' es clock:=
 ⟨Aoi h hk.1,fun i e k he hkk=>by
  obtain ⟨h1,h2⟩:=hk.2 i e k he hkk
  obtain ⟨k',h3,h4⟩:=hk.1.1 i e he
  rw [hkk] at h3
  obtain rfl:=Option.some.inj h3
  exact ⟨h1,Afx ((h k).2 h4) h2⟩⟩
theorem Xe {vis:Nat->Nat} {w:World} {x y:C} {v:Value} (h:∀ p∈leC x y,p) (hr:Rep vis w x v):Rep vis w y v:=by
 unfold leC at h
 split at h
 ·have:=h _ List.mem_cons_self;subst this;exact hr
 ·have:=h _ List.mem_cons_self;subst this;exact hr
 ·have:=h _ List.mem_cons_self;subst this;exact hr
 ·have:=h _ List.mem_cons_self;subst this;rw [Mc hr];exact .nil _ _
 ·have:=h _ List.mem_cons_self;subst this;exact hr
 ·rename_i g n f g' m f'
  obtain ⟨h1,h2⟩:SEq n f m f':=h _ List.mem_cons_self
  subst h1
  cases hr with
  |nil=>exact .nil _ _
  |e=>exact .e _ _ _
  |s _ n f b off cap sz u a1 a2 a3 a4 a5 a6=>
   exact .s _ n f' b off cap sz u a1 a2 (fun i hi=>by rw [<-(Mg (h2 i hi)).1];exact a3 i hi) a4
    (fun i j c hi hj=>by obtain ⟨x,hx,_⟩:=(Mg (h2 i hi)).2 j c hj;exact a5 i j x hi hx)
    (fun i j c hi hj=>by obtain ⟨x,hx,hxc⟩:=(Mg (h2 i hi)).2 j c hj;exact Xd hxc (a6 i j x hi hx))
 ·have:=h _ List.mem_cons_self;subst this;exact hr
 ·rename_i t ag xs t' ag' ys
  cases hb:(t.beq t'&&ag==ag') with
  |false=>rw [hb] at h;exact (h False List.mem_cons_self).elim
  |true=>
   rw [hb] at h
   have hm:Hh xs ys:=h _ List.mem_cons_self
   simp only [Bool.and_eq_true] at hb
   have e1:=Nat.eq_of_beq_eq_true hb.1
   have e2:ag=ag':=by simpa using hb.2
   subst e1;subst e2
   cases hr with
   |i _ _ _ v hs hl hr=>
    have h2:=Afx (.inr hm) (⟨hl,hr⟩:Av vis w xs (Fx ag v))
    exact .i _ _ _ v hs h2.1 h2.2
 ·rename_i kn ag dom val kn' ag' dom' val'
  cases hb:(kn.beq kn'&&ag==ag') with
  |false=>rw [hb] at h;exact (h False List.mem_cons_self).elim
  |true=>
   rw [hb] at h
   have hm:MEq dom val dom' val':=h _ List.mem_cons_self
   simp only [Bool.and_eq_true] at hb
   have e1:=Nat.eq_of_beq_eq_true hb.1
   have e2:ag=ag':=by simpa using hb.2
   subst e1;subst e2
   cases hr with
   |m _ _ _ _ b es cl c1 c2 c3 c4 c5=>
    obtain ⟨h1,h2⟩:=Ac0 hm ⟨c3,fun i en k he hk=>⟨(c4 i en k he hk).1,(c4 i en k he hk).2,fun j c u hc hu=>c5 i j en k c u he hk hc hu⟩⟩
    exact .m _ _ _ _ b es cl c1 c2 h1 (fun i en k he hk=>⟨(h2 i en k he hk).1,(h2 i en k he hk).2.1⟩) (fun i j en k c u he hk hc hu=>(h2 i en k he hk).2.2 j c u hc hu)
 ·exact .u _ (Jp hr)
 ·exact (h False List.mem_cons_self).elim
theorem Afy {xs ys:List C} (h:∀ p∈Vg xs ys,p):xs.length=ys.length/\∀ (j:Nat) y,ys[j]?=some y->∃ x,xs[j]?=some x/\∀ p∈leC x y,p:=by
 induction xs generalizing ys with
 |nil=>
  cases ys with
  |nil=>exact ⟨rfl,fun j y hj=>(by simp at hj)⟩
  |cons y ys=>exact (h False List.mem_cons_self).elim
 |cons x xs ih=>
  cases ys with
  |nil=>exact (h False List.mem_cons_self).elim
  |cons y ys=>
   obtain ⟨h1,h2⟩:=ih (ys:=ys) fun p hp=>h p (List.mem_append_right _ hp)
   refine ⟨by simp [h1],fun j z hj=>?_⟩
   cases j with
   |zero=>simp only [List.getElem?_cons_zero,Option.some.injEq] at hj;subst hj;exact ⟨x,rfl,fun p hp=>h p (List.mem_append_left _ hp)⟩
   |succ j=>obtain ⟨z',h3,h4⟩:=h2 j z (by simpa using hj);exact ⟨z',by simpa using h3,h4⟩
theorem Ac1 {vis:Nat->Nat} {w:World} {O:Nat->Prop} {x y:D} {v:Value} (h:∀ p∈leD x y,p) (hr:Aw vis w O x v):Aw vis w O y v:=by
 unfold leD at h
 split at h
 ·exact Xe h hr
 ·obtain ⟨vs,rfl,hl,hc⟩:=hr
  obtain ⟨h1,h2⟩:=Afy h
  refine ⟨vs,rfl,by rw [<-h1];exact hl,fun j c u hj hu=>?_⟩
  obtain ⟨z,h3,h4⟩:=h2 j c hj
  exact Xe h4 (hc j z u h3 hu)
 ·obtain ⟨b,off,rfl,hc,hb⟩:=hr
  obtain ⟨h1,h2⟩:=Afy h
  refine ⟨b,off,rfl,fun j c hj=>?_,by rw [<-h1];exact hb⟩
  obtain ⟨z,h3,h4⟩:=h2 j c hj
  obtain ⟨u,h5,h6⟩:=hc j z h3
  exact ⟨u,h5,Xe h4 h6⟩
 ·exact (h False List.mem_cons_self).elim
theorem Afz {vis:Nat->Nat} {w:World} {O:Nat->Prop}:∀ {xs ys:List D} {vs:List Value},(∀ p∈leDs xs ys,p)->Hy vis w O xs vs->Hy vis w O ys vs
 | [],[],_,_,r=>r
 | [],_::_,_,h,_=>(h False List.mem_cons_self).elim
 |_::_,[],_,h,_=>(h False List.mem_cons_self).elim
 |x::xs,y::ys,[],_,r=>by have:=r.1;simp at this
 |x::xs,y::ys,v::vs,h,r=>by
  have r':Hy vis w O xs vs:=⟨by have:=r.1;simpa using this,fun j z u hz hu=>r.2 (j+1) z u (by simpa using hz) (by simpa using hu)⟩
  have h1:=Ac1 (fun p hp=>h p (List.mem_append_left _ hp)) (r.2 0 x v rfl rfl)
  have h2:=Afz (fun p hp=>h p (List.mem_append_right _ hp)) r'
  refine ⟨by simp [h2.1],fun j z u hz hu=>?_⟩
  cases j with
  |zero=>simp only [List.getElem?_cons_zero,Option.some.injEq] at hz hu;subst hz;subst hu;exact h1
  |succ j=>exact h2.2 j z u (by simpa using hz) (by simpa using hu)
theorem Mh {b:Bool} {ps:List Prop} (h:∀ p∈(bif b then ps else [False]),p):b=true/\∀ p∈ps,p:=by
 cases b with
 |false=>exact (h False List.mem_cons_self).elim
 |true=>exact ⟨rfl,h⟩
theorem Ac2 {G:Gh} {w:World} {O:Nat->Prop} {x y:T} {v:Value} (hfn:∀ f a b,x=.fn f a b->(∀ {ys:List T} {vs:List Value},(∀ p∈Cj a ys,p)->Ab G w O a vs->Ab G w O ys vs)/\∀ {ys:List T} {vs:List Value},(∀ p∈Cj b ys,p)->Ab G w O b vs->Ab G w O ys vs)
  (hag:∀ xs,x=.ag xs->∀ {ys:List T} {vs:List Value},(∀ p∈Cj xs ys,p)->Ab G w O xs vs->Ab G w O ys vs) (h:∀ p∈leT x y,p) (hr:Aa G w O x v):Aa G w O y v:=by
 unfold leT at h
 split at h
 ·simp only [Aa]
 ·simp only [Aa] at hr ⊢;exact Ac1 h hr
 ·obtain ⟨hb,_⟩:=Mh h
  obtain ⟨h1,h2⟩:=and_true hb
  rw [<-Nat.eq_of_beq_eq_true h1,<-Nat.eq_of_beq_eq_true h2]
  exact hr
 ·exact hr
 ·rename_i f a b f' a' b'
  have hb:f=f':=h _ List.mem_cons_self
  replace h:∀ p∈Cj a a'++Cj b b',p:=fun p hp=>h p (List.mem_cons_of_mem _ hp)
  subst hb
  simp only [Aa] at hr ⊢
  obtain ⟨us,vs,h1,h2,h3⟩:=hr
  exact ⟨us,vs,h1,(hfn _ _ _ rfl).1 (fun p hp=>h p (List.mem_append_left _ hp)) h2,(hfn _ _ _ rfl).2 (fun p hp=>h p (List.mem_append_right _ hp)) h3⟩
 ·obtain ⟨hb,h⟩:=Mh h
  have hb:=Nat.eq_of_beq_eq_true hb
  have hn:=h _ List.mem_cons_self
  subst hb;subst hn
  exact hr
 ·obtain ⟨hb,h⟩:=Mh h
  have hb:=Nat.eq_of_beq_eq_true hb
  subst hb
  exact hr
 ·obtain ⟨hb,h⟩:=Mh h
  have hb:=Nat.eq_of_beq_eq_true hb
  subst hb
  exact hr
 ·have hn:=h _ List.mem_cons_self
  subst hn
  exact hr
 ·simp only [Aa] at hr ⊢
  obtain ⟨vs,h1,h2⟩:=hr
  exact ⟨vs,h1,hag _ rfl h h2⟩
 ·simp only [Aa] at hr
 ·simp only [Aa] at hr
 ·simp only [Aa] at hr
 ·simp only [Aa] at hr
 ·simp only [Aa] at hr
 ·simp only [Aa]
 ·have:=h _ List.mem_cons_self;subst this;exact hr
mutual
theorem Xf {G:Gh} {w:World} {O:Nat->Prop}:∀ {x y:T} {v:Value},(∀ p∈leT x y,p)->Aa G w O x v->Aa G w O y v
 | .fn f a b,_,_,h,hr=>Ac2 (fun f' a' b' hx=>by cases hx;exact ⟨fun h r=>Iy h r,fun h r=>Iy h r⟩) (fun _ hx=>by cases hx) h hr
 | .ag xs,_,_,h,hr=>Ac2 (fun _ _ _ hx=>by cases hx) (fun xs' hx=>by cases hx;exact fun h r=>Iy h r) h hr
 | .d _,_,_,h,hr| .tup _,_,_,h,hr| .addr _ _,_,_,h,hr| .may _ _,_,_,h,hr| .any,_,_,h,hr| .tok _,_,_,h,hr| .arr _ _,_,_,h,hr| .elt _ _ _ _,_,_,h,hr| .mp _,_,_,h,hr| .it _,_,_,h,hr| .nx _ _,_,_,h,hr
 | .yl _,_,_,h,hr| .tpl _,_,_,h,hr| .own _ _ _,_,_,h,hr| .tkd _ _ _ _,_,_,h,hr| .arrc _ _ _ _,_,_,h,hr| .mapc _ _ _ _ _,_,_,h,hr| .itc _ _,_,_,h,hr| .mitc _ _ _ _ _ _,_,_,h,hr| .tr _,_,_,h,hr| .arro _ _ _ _ _,_,_,h,hr=>Ac2 (fun _ _ _ hx=>by cases hx) (fun _ hx=>by cases hx) h hr
theorem Iy {G:Gh} {w:World} {O:Nat->Prop}:∀ {xs ys:List T} {vs:List Value},(∀ p∈Cj xs ys,p)->Ab G w O xs vs->Ab G w O ys vs
 | [],[],_,_,r=>r
 | [],_::_,_,h,_=>by unfold Cj at h;exact (h False List.mem_cons_self).elim
 |_::_,[],_,h,_=>by unfold Cj at h;exact (h False List.mem_cons_self).elim
 |x::xs,y::ys,vs,h,r=>by
  unfold Cj at h
  simp only [Ab] at r ⊢
  obtain ⟨v,us,h1,h2,h3⟩:=r
  exact ⟨v,us,h1,Xf (fun p hp=>h p (List.mem_append_left _ hp)) h2,Iy (fun p hp=>h p (List.mem_append_right _ hp)) h3⟩
end
section
variable {P:Program} {Y:TypeId->Ty} {Gl:World->Prop} {X:Cx} {nt:Nat} {ds:List Deferred} {e:Env} {a:Act} {w:World} {G:Gh} {O:Nat->Prop} {Q:Exit->Act->World->Prop} {rd:Option Nat} {fu:Nat} {yd:Yd}
theorem Ac3:∀ {xs ys:List T} {g:Nat->Nat->T} {gv:Gv} {r r':List (Nat×Nat)},(Eu xs).run g r=some ((ys,gv),r')->∀ x∈xs,∀ b y,x≠.may b y
 | [],_,_,_,_,_,_,x,hx=>(by cases hx)
 |x::xs,ys,g,gv,r,r',h,z,hz=>by
  simp only [Eu] at h
  obtain ⟨p,r1,h1,h2⟩:=Ag h
  obtain ⟨q,r2,h3,h4⟩:=Ag h2
  cases hz with
  |head=>
   intro b y hh
   subst hh
   simp only [Kp] at h1
   exact (Ac h1).elim
  |tail _ hz=>exact Ac3 h3 z hz
theorem VOKs.lift {G':Gh} {w':World} {e':Env} {xs:List T} {vs:List Value} (h:VOKs G w O Y e xs vs) (l:∀ x v,VOK G w O Y e x v->VOK G' w' O Y e' x v):VOKs G' w' O Y e' xs vs:=by
 induction h with
 |nil=>exact .nil
 |cons h1 _ ih=>exact .cons (l _ _ h1) ih
theorem Aoj {o:Oper} {c:Call} (ho:o.op=.call c):∀ c,o.op≠.defer c:=fun c' h=>by rw [ho] at h;cases h
theorem Ag0 (S:Set P Y Gl) (hX:∀ p H vi w,X.J p H vi w->Gl w) (R:Rel Y X nt ds e a w G) {o:Oper} {args:Array Operand} {us vs:Array Value}
  {g:FuncId} {fst caps ys xs:List T} (ho:CallAs P a o g us args vs) (hf:VOK G w X.fz Y e (.fn g fst caps) (.func (.func g) us vs)) (hys:VOKs G w X.fz Y e ys (args.toList.map a.eval)) {ps:List Prop} {W:Env} {r r':List (Nat×Nat)}
  (hc:(Eu (fst++ys++caps)).run e.get r=some ((xs,ps,W),r')) (hps:∀ p∈ps,p) {res:Res} (hcomp:Computes P Gl g xs res):
  ∃ G' av,Rel Y X nt ds (W++e) a w G'/\(∀ b,b<w.heap.size->G.vis b<=G'.vis b)/\Bq e W/\(execOp a.eval o).run P w=.ok (.enter g av) w/\
   Calls P g av w fun en w'=>Below w.heap.size w w'/\Gx G'.vis w en w' res:=by
 obtain ⟨hW,hconv⟩:=Mf (Y:=Y) (X:=X) (nt:=nt) (ds:=ds) (a:=a) (w:=w) hc
 obtain ⟨G',R',lift,hvis,_⟩:=Js R hW
 have hfr:=(lift _ _ hf).rel
 simp only [Aa] at hfr
 obtain ⟨us',vs',hv,h1,h2⟩:=hfr
 simp only [Value.func.injEq,true_and] at hv
 obtain ⟨rfl,rfl⟩:=hv
 have hys':VOKs G' w X.fz Y (W++e) ys (args.toList.map a.eval):=hys.lift lift
 obtain ⟨h3,h4⟩:=hys'.rel fun x hx=>Ac3 hc x (List.mem_append_left _ (List.mem_append_right _ hx))
 have hids:=(lift _ _ hf).ids
 have hargs:Ab G' w X.fz (fst++ys++caps) (us++args.map a.eval++vs).toList:=by
  have:=(h1.app h3).app h2
  simpa using this
 have hx:=hconv hW (fun _ h=>h) hps R' hargs (fun id hid=>by
  rw [Abz,Abz] at hid
  simp only [List.mem_append] at hid
  rcases hid with (hid|hid)|hid
  ·exact hids id (by simp only [Ai,List.mem_append];exact .inl hid)
  ·exact h4 id hid
  ·exact hids id (by simp only [Ai,List.mem_append];exact .inr hid))
 exact ⟨G',_,R',fun b _=>hvis b,hW,ho.ex w hcomp.1,hcomp.2 G'.vis w _ R'.fresh (hX _ _ _ _ R'.jj) hx⟩
theorem Aok (S:Set P Y Gl) (hX:∀ p H vi w,X.J p H vi w->Gl w) (R:Rel Y X nt ds e a w G) {o:Oper} {args:Array Operand} {us vs:Array Value}
  {g:FuncId} {fst caps ys xs:List T} (ho:CallAs P a o g us args vs) (hf:VOK G w X.fz Y e (.fn g fst caps) (.func (.func g) us vs)) (hys:VOKs G w X.fz Y e ys (args.toList.map a.eval)) {gv:Gv} {r r':List (Nat×Nat)}
  (hc:(Eu (fst++ys++caps)).run e.get r=some ((xs,gv),r')) (hps:∀ p∈gv.1,p) {res:Res} (hcomp:Computes P Gl g xs res) {bs:List Prop} {orc:Orc} {d:Done} {r1 r2:List (Nat×Nat)}
  (hd:(Vn Y o.dst bs (Computes P Gl g xs res) gv orc res).run e.get r1=some (d,r2)) {K:Act->World->Prop}
  (hK:∀ vc hyp val wr o',d=.go vc hyp val wr o'->∀ v w' G',(∀ p∈hyp,p)->Rel Y X nt ds (wr++e) a w' G'->VOK G' w' X.fz Y (wr++e) val v->K (a.put o.dst v) w')
  (hP:∀ vc v wr o',d=.pan vc v wr o'->∀ w' G',Rel Y X nt ds (wr++e) a w' G'->Q (.panic [{ v,recovered:=false }]) a w'):o.wpIn (Fr rd) fu P a w K Q:=by
 obtain ⟨ps,W⟩:=gv
 obtain ⟨G',av,R',hvis,hW,hrun,hcall⟩:=Ag0 S hX R ho hf hys hc hps hcomp
 refine Xc ho.nd hrun hcall fun en w' ⟨hbel,hans⟩=>?_
 -- plain answers: the objects stay ours
 have flat:∀ {vis':Nat->Nat},(∀ b,w'.heap.size<=b->vis' b=0)->Rel Y X nt ds e a w' { G with vis:=fun b=>if b<w.heap.size then G.vis b else vis' b }:=fun {vis'} hf=>
  (R.after (vis':=fun b=>if b<w.heap.size then G.vis b else vis' b) hbel (fun b hb=>if_pos hb) (fun b hb=>by rw [if_neg (by have:=hbel.size;omega)];exact hf b hb)).1
 unfold Vn at hd
 split at hd
 ·rename_i sz n f _
  obtain ⟨out,r3,h1,h2⟩:=Ag hd
  simp only [M.run,Option.some.injEq,Prod.mk.injEq] at h2
  obtain ⟨rfl,_⟩:=h2
  obtain ⟨dd,hdst,hdd,hdf,rfl⟩:=Gu h1
  obtain ⟨v,vis',rfl,hv1,hv2,b,cs,t,z,c1,c3,c4,c5,c6,c7,cz,c8⟩:=hans
  refine ⟨fun v hv=>?_,fun ch hch=>(by cases hch),fun hh=>(by cases hh)⟩
  simp only [Ending.returned.injEq] at hv
  subst hv
  obtain ⟨R2,lift2⟩:=R'.after hbel hv1 hv2
  have hlt:∀ id,Env.get (W++e) 2 id≠.any->G'.bk id<w.heap.size:=fun id h=>(R'.mem.box id h).2.1
  obtain ⟨G3,q1,q2,R3,lift3⟩:=R2.adopt (d:=dd) (b:=b) (by
    rcases get_frz (t:=2) (k:=dd) hW with ⟨x,_,hm,_⟩|h
    ·obtain ⟨_,_,hx⟩:=hW _ _ _ hm
     rcases hx with ⟨_,_,_,hx|⟨_,_,_,_,hx,_⟩,_⟩|⟨_,_,_,_,hx,_⟩<;>rw [hdd] at hx<;>cases hx
    ·rw [h];exact hdd) hdf (Nat.le_trans R.base c3) c4 (fun h=>by have:=R'.hlt b h;omega) (fun id hid hh=>by have:=hlt id hid;dsimp only at hh;omega) (fun k hk=>by have:=(R'.tks k b hk).2.1;omega)
   (st:=.arrc false sz n f) (by simp) (fun G4 hv=>⟨⟨cs,t,z,c7,cz,by rw [hv];exact c8⟩,c6,fun hh=>(by cases hh),fun _=>by rw [hv];exact c5⟩)
  refine hK _ _ _ _ _ rfl _ w' G3 (fun _ h=>(by cases h)) R3 (VOK.ids_used (id:=dd) (by simp only [Aa];rw [q2];exact c1.imp id fun ⟨cap,d1,d2,d3,d4⟩=>⟨cap,d1,d2,d3,cs,t,z,c7,d4⟩) trivial rfl rfl ?_)
  show Env.get ((2,dd,_)::([]++W++e)) 2 dd≠.any
  rw [Ap,if_pos ⟨rfl,rfl⟩]
  simp
 ·rename_i el sz n f _
  obtain ⟨hsz,hd⟩:=Ak hd
  have hsz:=Nat.eq_of_beq_eq_true hsz
  subst hsz
  obtain ⟨out,r3,h1,h2⟩:=Ag hd
  simp only [M.run,Option.some.injEq,Prod.mk.injEq] at h2
  obtain ⟨rfl,_⟩:=h2
  obtain ⟨dd,hdst,hdd,rfl⟩:=Wn h1
  obtain ⟨v,vis',rfl,hv1,hv2,hrep,hlen,hown⟩:=hans
  refine ⟨fun v hv=>?_,fun ch hch=>(by cases hch),fun hh=>(by cases hh)⟩
  simp only [Ending.returned.injEq] at hv
  subst hv
  obtain ⟨R2,lift2⟩:=R'.after hbel hv1 hv2
  have hdd':Env.get (W++e) 1 dd=.any:=by
   rcases get_frz (t:=1) (k:=dd) hW with ⟨x,hx1,_,_⟩|h
   ·cases hx1
   ·rw [h];exact hdd
  have key:∀ tb:Option Nat,(∀ b,tb=some b->w.heap.size<=b/\b<w'.heap.size/\∃ cs t,w'.heap[b]?=some (.cells cs t (0,0)))->
    (v=.slice none 0 0∨(∃ a,v=.slice a n n)∨∃ b xs,tb=some b/\v.ownBlock=some b/\w'.ownsRow 0 el (Y el).size v n xs/\vis' b=n*(Y el).size)->K (a.put o.dst v) w':=fun tb htb hown=>by
   obtain ⟨f1,f2⟩:=Nr R2 (w':=w') (vis':=vis') (tb:=tb) (el:=el) (d:=dd) (kd:=none) none hdd' (.refl _) (fun _ _ _=>rfl) (fun b hb=>(by cases hb)) (fun _=>Nat.le_refl _) (.refl _ _)
    (fun _ _=>rfl) (fun b hb=>by
     obtain ⟨q1,q2,q3⟩:=htb b hb
     have hb:=R.base
     refine ⟨by omega,q2,fun h=>?_,q3,fun id hid hh=>?_,fun k _ hk=>?_⟩
     ·have:=R'.hlt b h;omega
     ·have:=(R'.mem.box id hid).2.1
      dsimp only at hh
      omega
     ·have:=(R'.tks k b hk).2.1
      omega) (fun _ _ _ _=>⟨rfl,rfl⟩) R2.fresh (fun _ _=>rfl) (fun _ _=>rfl)
   refine hK _ _ _ _ _ rfl _ w' _ (fun _ h=>(by cases h)) f1 (Ns (kd:=none) (d:=dd) (el:=el) (e:=W++e) ?_ ⟨hlen,?_⟩)
   ·cases hrep with
    |nil=>exact .nil _ _
    |e=>exact .e _ _ _
    |s _ n f b off cap sz u a1 a2 a3 a4 a5 a6=>exact .s _ n f b off cap sz u a1 a2 a3 a4 a5 a6
   ·rcases hown with h|h|⟨b,xs,g1,g2,g3,g4⟩
    ·exact .inl h
    ·exact .inr (.inl ⟨.inr hdst,h⟩)
    ·exact .inr (.inr ⟨b,xs,by simp [tkG,g1],g2,g3,g4⟩)
  rcases hown with h|h|⟨b,xs,g1,g2,g3,g4,g5,g6⟩
  ·exact key none (fun b hb=>(by cases hb)) (.inl h)
  ·exact key none (fun b hb=>(by cases hb)) (.inr (.inl h))
  ·exact key (some b) (fun b' hb'=>by obtain rfl:=Option.some.inj hb';exact ⟨g1,g2,g3⟩) (.inr (.inr ⟨b,xs,rfl,g4,g5,g6⟩))
 ·rename_i x _
  simp only [M.run,Aeg,Option.some.injEq,Prod.mk.injEq] at hd
  obtain ⟨rfl,_⟩:=hd
  obtain ⟨v,vis',rfl,hv1,hv2,hv3⟩:=hans
  refine ⟨fun v hv=>?_,fun ch hch=>(by cases hch),fun hh=>(by cases hh)⟩
  simp only [Ending.returned.injEq] at hv
  subst hv
  cases hfl:x.flat with
  |true=>
   have h4:Aw (fun b=>if b<w.heap.size then G.vis b else vis' b) w' (fun _=>False) x v:=Afu hfl hv3
   refine hK _ _ _ _ _ rfl _ w' _ (fun _ h=>(by cases h)) (by rw [hfl];exact flat hv2) ?_
   rw [hfl]
   exact VOK.dem (Aw.weak (fun _ h=>h.elim) h4)
  |false=>
   obtain ⟨R2,lift2⟩:=R'.after hbel hv1 hv2
   refine hK _ _ _ _ _ rfl _ w' _ (fun _ h=>(by cases h)) (by rw [hfl];exact R2) ?_
   rw [hfl]
   exact VOK.dem (Aw.weak (fun _ h=>h.elim) hv3)
 ·rename_i xs' _
  simp only [M.run,Aeg,Option.some.injEq,Prod.mk.injEq] at hd
  obtain ⟨rfl,_⟩:=hd
  obtain ⟨v,vis',rfl,hv1,hv2,hv3⟩:=hans
  refine ⟨fun v hv=>?_,fun ch hch=>(by cases hch),fun hh=>(by cases hh)⟩
  simp only [Ending.returned.injEq] at hv
  subst hv
  cases hfl:Ok xs' with
  |true=>
   have h4:Fz w.heap.size (fun b=>if b<w.heap.size then G.vis b else vis' b) w' (.tup xs') v:=by
    obtain ⟨vs,g1,g2,g3⟩:=hv3
    exact ⟨vs,g1,g2,fun j x u hx hu=>Afu (Afv hfl j x hx) (g3 j x u hx hu)⟩
   refine hK _ _ _ _ _ rfl _ w' _ (fun _ h=>(by cases h)) (by rw [hfl];exact flat hv2) ?_
   rw [hfl]
   exact Pt (G:={ G with vis:=fun b=>if b<w.heap.size then G.vis b else vis' b }) h4 (fun _ _ _ hh=>by cases hh) (fun _ _ _ _ hh=>by cases hh)
  |false=>
   obtain ⟨R2,lift2⟩:=R'.after hbel hv1 hv2
   refine hK _ _ _ _ _ rfl _ w' _ (fun _ h=>(by cases h)) (by rw [hfl];exact R2) ?_
   rw [hfl]
   exact Pt (G:={ G' with vis:=vis' }) (x:=.tup xs') hv3 (fun _ _ _ hh=>by cases hh) (fun _ _ _ _ hh=>by cases hh)
 ·rename_i f p q _
  simp only [M.run,Option.some.injEq,Prod.mk.injEq] at hd
  obtain ⟨rfl,_⟩:=hd
  obtain ⟨v,vis',rfl,hv1,hv2,hv3⟩:=hans
  refine ⟨fun v hv=>?_,fun ch hch=>(by cases hch),fun hh=>(by cases hh)⟩
  simp only [Ending.returned.injEq] at hv
  subst hv
  obtain ⟨R2,lift2⟩:=R'.after hbel hv1 hv2
  exact hK _ _ _ _ _ rfl _ w' _ (fun _ h=>(by cases h)) R2 (Pt (G:={ G' with vis:=vis' }) (x:=.fn f p q) hv3 (fun _ _ _ hh=>by cases hh) (fun _ _ _ _ hh=>by cases hh))
 ·rename_i xs2 _
  simp only [M.run,Option.some.injEq,Prod.mk.injEq] at hd
  obtain ⟨rfl,_⟩:=hd
  obtain ⟨v,vis',rfl,hv1,hv2,hv3⟩:=hans
  refine ⟨fun v hv=>?_,fun ch hch=>(by cases hch),fun hh=>(by cases hh)⟩
  simp only [Ending.returned.injEq] at hv
  subst hv
  obtain ⟨R2,lift2⟩:=R'.after hbel hv1 hv2
  exact hK _ _ _ _ _ rfl _ w' _ (fun _ h=>(by cases h)) R2 (Pt (G:={ G' with vis:=vis' }) (x:=.ag xs2) hv3 (fun _ _ _ hh=>by cases hh) (fun _ _ _ _ hh=>by cases hh))
 ·exact (Ac hd).elim
 ·exact (Ac hd).elim
 ·rename_i v _
  simp only [M.run,Option.some.injEq,Prod.mk.injEq] at hd
  obtain ⟨rfl,_⟩:=hd
  simp only [Gx] at hans
  subst hans
  refine ⟨fun v hv=>(by cases hv),fun ch hch=>?_,fun hh=>(by cases hh)⟩
  simp only [Ending.panicked.injEq] at hch
  subst hch
  exact hP _ _ _ _ rfl w' _ (flat (vis':=fun _=>0) (fun _ _=>rfl))
end
section
variable {P:Program} {Y:TypeId->Ty} {Gl:World->Prop} {X:Cx} {nt:Nat} {ds:List Deferred} {e:Env} {a:Act} {w:World} {G:Gh} {O:Nat->Prop} {Q:Exit->Act->World->Prop} {rd:Option Nat} {fu:Nat} {yd:Yd}
structure Sur (P:Program) (Gl:World->Prop) (X:Cx) (yd:Yd):Prop where
 gl:∀ p H vi w,X.J p H vi w->Gl w
 ok:Sh P X.J yd
 fz:yd.m=0∨∀ b,¬ X.fz b
theorem Aol (U:Sur P Gl X yd) (R:Rel Y X nt ds e a w G) {o:Oper} {fo:Operand} {args:Array Operand} {tys:Array TypeId} (ho:o.op=.call { callee:=.value fo,args:=args,argTypes:=tys })
  {l n:Nat} {ys xs:List T} (hf:VOK G w X.fz Y e (.yl l) (a.eval fo)) (hys:VOKs G w X.fz Y e ys (args.toList.map a.eval)) {ps:List Prop} {W:Env} {r r':List (Nat×Nat)}
  (hc:(Eu ys).run e.get r=some ((xs,ps,W),r')) (hps:∀ p∈ps,p) (hpure:De xs=true) (hn:e.get 0 BIG=.tr n) (hl:l=yd.l) (hm:n<yd.m) (hs:n<=yd.s) (hle:∀ p∈Cj xs (yd.ys n),p) (hpy:De (yd.ys n)=true)
  {K:Act->World->Prop} (hK:∀ v w' G',Rel Y X nt ds ((0,BIG,.tr (n+1))::W++e) a w' G'->VOK G' w' X.fz Y ((0,BIG,.tr (n+1))::W++e) (B (n != yd.s)) v->K (a.put o.dst v) w'):o.wpIn (Fr rd) fu P a w K Q:=by
 obtain ⟨hW,hconv⟩:=Mf (Y:=Y) (X:=X) (nt:=nt) (ds:=ds) (a:=a) (w:=w) hc
 obtain ⟨G',R',lift,hvis,_⟩:=Js R hW
 have hfr:=hf.rel
 simp only [Aa] at hfr
 obtain ⟨h3,h4⟩:=(hys.lift lift).rel fun x hx=>Ac3 hc x hx
 have hx:=hconv hW (fun _ h=>h) hps R' h3 h4
 have hx:=Iy hle hx
 have hx:Ab (Gh0 G'.vis) w (fun _=>False) (yd.ys n) (args.map a.eval).toList:=by
  have:=Ab.pure (G:=Gh0 G'.vis) (G':=Gh0 G'.vis) (O':=fun _=>False) rfl hpy hx
  simpa using this
 have hbig:Env.get (W++e) 0 BIG=.tr n:=by rw [Md hW (by decide)];exact hn
 have hJ:=R'.jj
 rw [hbig] at hJ
 obtain ⟨fn,tmps,assign,body,hrun,hround⟩:=U.ok n G'.H G'.vis w _ hm hs hJ R'.hlt R'.fresh hpy hx
 have hexec:(execOp a.eval o).run P w=.ok (.round l fn tmps assign body) w:=by
  rw [<-hl] at hrun
  simp [execOp,ho,resolve,hfr,Deferred.ofValue,invoke,hrun]
 refine ⟨fun _ _=>trivial,?_⟩
 rw [Oper.semAt_eq _ _ _ (Aoj ho),hexec,Oper.uponIn_round]
 refine ⟨fun h=>by simp [Fence.wide] at h,?_⟩
 rw [hl]
 refine (Aof hround).mono fun en w' ⟨h5,h6,h7,h8,h9⟩=>?_
 subst h5
 dsimp only
 have hnofz:∀ b,¬ X.fz b:=U.fz.resolve_left (by omega)
 -- the ghost behind it
 have hpn:∀ b,b<w.heap.size->(Pr G'.H w w' b↔G'.H b):=fun b hb=>⟨fun h=>h.resolve_right (by omega),.inl⟩
 obtain ⟨R2,lift2⟩:=R'.move' (w':=w') (G':={ G' with H:=Pr G'.H w w' }) (e':=(0,BIG,.tr (n+1))::(W++e)) ⟨fun _=>Nat.le_refl _,h8,fun b hb=>absurd hb (hnofz b)⟩ h9 hpn
  (fun b hb=>hb.elim (fun h=>Nat.lt_of_lt_of_le (R'.hlt b h) h9.size) (fun h=>h.2)) rfl rfl rfl (fun b hb hnH _=>⟨h7 b hb hnH,rfl⟩) (fun t ht=>Ax (fun hh=>ht hh.2.symm)) (.inl (by rw [Ap,if_pos ⟨rfl,rfl⟩];rfl)) (fun k=>Ax (by omega))
  (fun id=>by rw [Ax (by omega)])
  (fun lift id hid=>by
   obtain ⟨q1,q2,q3⟩:=R'.mem.box id hid
   have hsame:=h7 _ q2 q1
   refine ⟨?_,fun hf hl k hk=>?_,fun k hk=>?_⟩
   ·rw [Ax (by omega)]
    exact q3.stay (fun _=>Nat.le_refl _) h8 hsame rfl fun j bb hb=>⟨hb,h7 _ (R'.tks _ bb hb).2.1 (R'.tks _ bb hb).2.2.1,rfl⟩
   ·rw [Ax (by omega)] at hl hk
    rw [World.cell?_of_block hsame]
    exact R'.far id k hf hl hk
   ·rw [Ax (by omega)] at hk ⊢
    rw [Ax (by omega)]
    obtain ⟨g1,g2,u,g3,g4⟩:=R'.mem.cells id k hk
    exact ⟨g1,g2,u,by rw [World.cell?_of_block hsame];exact g3,lift _ _ g4⟩)
  (fun id k hk=>by rw [Ax (by omega)] at hk;rw [(R'.mem.cells id k hk).1];exact Bh)
  (fun b hb=>R'.fresh b (Nat.le_trans h9.size hb)) (fun b _=>rfl) (by rw [Ap,if_pos ⟨rfl,rfl⟩];exact h6)
 exact hK _ w' _ R2 (VOK.v _ rfl)
end
/-! names -/
theorem Ac4 {i:Nat}:∀ {rho:List (Nat×Nat)},inL i rho=true->∃ b,(i,b)∈rho
 | [],h=>by cases h
 |(a,b)::r,h=>by
  simp only [inL,Bool.or_eq_true] at h
  rcases h with h|h
  ·have:=Nat.eq_of_beq_eq_true h;subst this;exact ⟨b,List.mem_cons_self⟩
  ·obtain ⟨b',hb⟩:=Ac4 h;exact ⟨b',List.mem_cons_of_mem _ hb⟩
theorem Ag1 {i b:Nat}:∀ {rho:List (Nat×Nat)},(i,b)∈rho->inL i rho=true
 |(a,c)::r,h=>by
  simp only [inL,Bool.or_eq_true]
  cases h with
  |head=>exact .inl (Nat.beq_refl _)
  |tail _ h=>exact .inr (Ag1 h)
theorem Ac5 {i b:Nat}:∀ {rho:List (Nat×Nat)},(i,b)∈rho->Vl b rho=true
 |(a,c)::r,h=>by
  simp only [Vl,Bool.or_eq_true]
  cases h with
  |head=>exact .inl (Nat.beq_refl _)
  |tail _ h=>exact .inr (Ac5 h)
theorem Ac6 {i b:Nat}:∀ {rho:List (Nat×Nat)},Hi rho=true->(i,b)∈rho->rn rho i=b
 |(a,c)::r,h,hm=>by
  simp only [Hi,Bool.and_eq_true,Bool.not_eq_true'] at h
  unfold rn
  cases hm with
  |head=>rw [Nat.beq_refl];rfl
  |tail _ hm=>
   have:a.beq i=false:=by
    cases hb:a.beq i with
    |false=>rfl
    |true=>
     have:=Nat.eq_of_beq_eq_true hb
     subst this
     rw [Ag1 hm] at h
     exact absurd h.1.1 (by decide)
   rw [this]
   exact Ac6 h.2 hm
theorem Ag2 {i j b:Nat}:∀ {rho:List (Nat×Nat)},Hi rho=true->(i,b)∈rho->(j,b)∈rho->i=j
 |(a,c)::r,h,hi,hj=>by
  simp only [Hi,Bool.and_eq_true,Bool.not_eq_true'] at h
  cases hi with
  |head=>
   cases hj with
   |head=>rfl
   |tail _ hj=>rw [Ac5 hj] at h;exact absurd h.1.2 (by decide)
  |tail _ hi=>
   cases hj with
   |head=>rw [Ac5 hi] at h;exact absurd h.1.2 (by decide)
   |tail _ hj=>exact Ag2 h.2 hi hj
theorem Nw {rho:List (Nat×Nat)} (h:Hi rho=true) {i j:Nat} (hi:inL i rho=true) (hj:inL j rho=true) (he:rn rho i=rn rho j):i=j:=by
 obtain ⟨b,hb⟩:=Ac4 hi
 obtain ⟨c,hc⟩:=Ac4 hj
 rw [Ac6 h hb,Ac6 h hc] at he
 subst he
 exact Ag2 h hb hc
section
variable {P:Program} {Y:TypeId->Ty} {Gl:World->Prop} {X:Cx} {nt:Nat} {ds:List Deferred} {e:Env} {a:Act} {w:World} {G:Gh} {O:Nat->Prop} {Q:Exit->Act->World->Prop} {rd:Option Nat} {fu:Nat} {yd:Yd} {rho:List (Nat×Nat)}
theorem tameE_mem:∀ {m:Env},Df rho m=true->∀ {t k x},(t,k,x)∈m->(t=0/\k=BIG/\Iu x=true)∨(t=2/\inL k rho=true/\Cq x=true)∨∃ i,t=i+3/\inL i rho=true/\Bc rho x=true/\x.one=true
 | [],_,_,_,_,h=>(by cases h)
 |p::m,hm,t,k,x,h=>by
  unfold Df at hm
  split at hm
  ·rename_i hh;cases hh
  ·rename_i hh
   simp only [List.cons.injEq] at hh
   obtain ⟨rfl,rfl⟩:=hh
   simp only [Bool.and_eq_true] at hm
   cases h with
   |head=>exact .inl ⟨rfl,Nat.eq_of_beq_eq_true hm.1.1,hm.1.2⟩
   |tail _ h=>exact tameE_mem hm.2 h
  ·cases hm
  ·rename_i hh
   simp only [List.cons.injEq] at hh
   obtain ⟨rfl,rfl⟩:=hh
   simp only [Bool.and_eq_true] at hm
   cases h with
   |head=>exact .inr (.inl ⟨rfl,hm.1.1,hm.1.2⟩)
   |tail _ h=>exact tameE_mem hm.2 h
  ·rename_i hh
   simp only [List.cons.injEq] at hh
   obtain ⟨rfl,rfl⟩:=hh
   simp only [Bool.and_eq_true] at hm
   cases h with
   |head=>exact .inr (.inr ⟨_,rfl,hm.1.1.1,hm.1.1.2,hm.1.2⟩)
   |tail _ h=>exact tameE_mem hm.2 h
theorem get_mem {t k:Nat}:∀ {e:Env} {x:T},e.get t k=x->x=.any∨(t,k,x)∈e
 | [],x,h=>.inl h.symm
 |(a,b,y)::e,x,h=>by
  rw [Ap] at h
  split at h
  ·rename_i hh
   obtain ⟨rfl,rfl⟩:=hh
   subst h
   exact .inr List.mem_cons_self
  ·exact (get_mem h).imp id (List.mem_cons_of_mem _)
def Cc (rho:List (Nat×Nat)) (t k:Nat):Nat×Nat:=
 match t with
 |0=>(0,k)
 |1=>(1,k)
 |2=>(2,rn rho k)
 |t+3=>(rn rho t+3,k)
theorem Aom (hr:Hi rho=true) {t k t' k':Nat} (h1:t=2->inL k rho=true) (h2:t'=2->inL k' rho=true) (h3:∀ i,t=i+3->inL i rho=true) (h4:∀ i,t'=i+3->inL i rho=true) (h:Cc rho t k=Cc rho t' k'):t=t'/\k=k':=by
 unfold Cc at h
 split at h<;>split at h<;>simp only [Prod.mk.injEq] at h<;>first
  |exact ⟨rfl,h.2⟩
  |(exfalso;omega)
  |exact ⟨rfl,Nw hr (h1 rfl) (h2 rfl) h.2⟩
  |(refine ⟨?_,h.2⟩
    have:=Nw hr (h3 _ rfl) (h4 _ rfl) (by omega)
    omega)
def Pu (rho:List (Nat×Nat)) (t:Nat) (x:T):T:=
 match t with
 |0=>x
 |1=>x
 |_=>Bb rho x
theorem Ac7 (t k:Nat) (x:T) (m:Env):Be rho ((t,k,x)::m)=((Cc rho t k).1,(Cc rho t k).2,Pu rho t x)::Be rho m:=by
 match t with
 |0=>rfl
 |1=>rfl
 |2=>rfl
 |t+3=>rfl
theorem Xg {t k:Nat} {x:T}:∀ {m:Env},(t,k,x)∈m->((Cc rho t k).1,(Cc rho t k).2,Pu rho t x)∈Be rho m
 |(a,b,y)::m,h=>by
  rw [Ac7]
  cases h with
  |head=>exact List.mem_cons_self
  |tail _ h=>exact List.mem_cons_of_mem _ (Xg h)
theorem Nx (hr:Hi rho=true):∀ {m:Env},Df rho m=true->∀ {t k:Nat},(t=2->inL k rho=true)->(∀ i,t=i+3->inL i rho=true)->m.get t k≠.any->
  Env.get (Be rho m++e) (Cc rho t k).1 (Cc rho t k).2=Pu rho t (m.get t k)
 | [],_,_,_,_,_,h=>absurd rfl h
 |(a,b,y)::m,hm,t,k,h1,h2,h=>by
  have hmm:Df rho m=true:=by
   unfold Df at hm
   split at hm
   ·rename_i hh;cases hh
   ·rename_i hh;simp only [List.cons.injEq] at hh;obtain ⟨_,rfl⟩:=hh;simp only [Bool.and_eq_true] at hm;exact hm.2
   ·cases hm
   ·rename_i hh;simp only [List.cons.injEq] at hh;obtain ⟨_,rfl⟩:=hh;simp only [Bool.and_eq_true] at hm;exact hm.2
   ·rename_i hh;simp only [List.cons.injEq] at hh;obtain ⟨_,rfl⟩:=hh;simp only [Bool.and_eq_true] at hm;exact hm.2
  have hab:=tameE_mem hm (List.mem_cons_self (a:=(a,b,y)))
  rw [Ac7,List.cons_append,Ap]
  rw [Ap] at h ⊢
  by_cases hk:a=t/\b=k
  ·obtain ⟨rfl,rfl⟩:=hk
   rw [if_pos ⟨rfl,rfl⟩,if_pos ⟨rfl,rfl⟩]
  ·rw [if_neg hk] at h
   rw [if_neg hk,if_neg]
   ·exact Nx hr hmm h1 h2 h
   ·intro hh
    have he:Cc rho a b=Cc rho t k:=Prod.ext hh.1 hh.2
    refine hk (Aom hr (fun ha=>?_) h1 (fun i hi=>?_) h2 he)
    ·rcases hab with ⟨h3,_⟩|⟨_,h3,_⟩|⟨i,h3,_⟩
     ·omega
     ·exact h3
     ·omega
    ·rcases hab with ⟨h3,_⟩|⟨h3,_⟩|⟨i',h3,h4,_⟩
     ·omega
     ·omega
     ·have:i=i':=by omega
      subst this
      exact h4
theorem Jt {t k:Nat}:∀ {m:Env},(∀ t' k' x,(t',k',x)∈m->Cc rho t' k'≠(t,k))->Env.get (Be rho m++e) t k=e.get t k
 | [],_=>rfl
 |(a,b,y)::m,h=>by
  rw [Ac7,List.cons_append,Ax (fun hh=>h a b y List.mem_cons_self (Prod.ext hh.1 hh.2))]
  exact Jt fun t' k' x hx=>h t' k' x (List.mem_cons_of_mem _ hx)
theorem Ag3:∀ {m:Env} {r r':List (Nat×Nat)} {ps:List Prop},(Vm m).run e.get r=some (ps,r')->(∀ p∈ps,p)->∀ t k x,(t,k,x)∈m->∀ p∈leT (e.get t k) x,p
 | [],_,_,_,_,_,_,_,_,h=>(by cases h)
 |(a,b,y)::m,r,r',ps,h,hp,t,k,x,hx=>by
  simp only [Vm,M.run] at h
  obtain ⟨ps',r1,h1,h2⟩:=Ag h
  simp only [M.run,Option.some.injEq,Prod.mk.injEq] at h2
  obtain ⟨rfl,_⟩:=h2
  cases hx with
  |head=>exact fun p hq=>hp p (List.mem_append_left _ hq)
  |tail _ hx=>exact Ag3 h1 (fun p hq=>hp p (List.mem_append_right _ hq)) t k x hx
def Ny (rho:List (Nat×Nat)) (G:Gh) (H:Nat->Prop):Gh:=⟨G.vis,fun F=>G.bk (rn rho F),fun _=>none,H,⟨[],.nil⟩⟩
mutual
theorem Ag4 {H:Nat->Prop} {O':Nat->Prop}:∀ {x:T} {v:Value},Bc rho x=true->Aa G w O (Bb rho x) v->Aa (Ny rho G H) w O' x v
 | .d x,v,hx,r=>by
  simp only [Bb,Aa] at r ⊢
  refine Aw.pure (?_:Fa (.d x)=true) r
  cases x with
  |rd xs=>simp [Bc] at hx
  |c c=>rfl
  |agg xs=>rfl
 | .addr id k,v,_,r=>by simp only [Bb,Aa] at r ⊢;exact r
 | .fn f p q,v,hx,r=>by
  simp only [Bc,Bool.and_eq_true] at hx
  simp only [Bb,Aa] at r ⊢
  obtain ⟨us,vs,h1,h2,h3⟩:=r
  exact ⟨us,vs,h1,Pv hx.1 h2,Pv hx.2 h3⟩
 | .arr id n,v,_,r=>by simp only [Bb,Aa] at r ⊢;exact r
 | .mp id,v,_,r=>by simp only [Bb,Aa] at r ⊢;exact r
 | .yl l,v,_,r=>by simp only [Bb,Aa] at r ⊢;exact r
 | .ag p,v,hx,r=>by
  simp only [Bc] at hx
  simp only [Bb,Aa] at r ⊢
  obtain ⟨vs,h1,h2⟩:=r
  exact ⟨vs,h1,Pv hx h2⟩
 | .tpl p,v,hx,r=>by
  simp only [Bc] at hx
  simp only [Bb,Aa] at r ⊢
  obtain ⟨vs,h1,h2⟩:=r
  exact ⟨vs,h1,Pv hx h2⟩
 | .tup _,_,hx,_| .may _ _,_,hx,_| .any,_,hx,_| .tok _,_,hx,_| .elt _ _ _ _,_,hx,_| .it _,_,hx,_| .nx _ _,_,hx,_
 | .own _ _ _,_,hx,_| .tkd _ _ _ _,_,hx,_| .arrc _ _ _ _,_,hx,_| .mapc _ _ _ _ _,_,hx,_| .itc _ _,_,hx,_| .mitc _ _ _ _ _ _,_,hx,_| .tr _,_,hx,_| .arro _ _ _ _ _,_,hx,_=>by simp [Bc] at hx
theorem Pv {H:Nat->Prop} {O':Nat->Prop}:∀ {xs:List T} {vs:List Value},Fg rho xs=true->Ab G w O (Du rho xs) vs->Ab (Ny rho G H) w O' xs vs
 | [],vs,_,r=>by simp only [Du,Ab] at r ⊢;exact r
 |x::xs,vs,hx,r=>by
  simp only [Fg,Bool.and_eq_true] at hx
  simp only [Du,Ab] at r ⊢
  obtain ⟨v,us,h1,h2,h3⟩:=r
  exact ⟨v,us,h1,Ag4 hx.1 h2,Pv hx.2 h3⟩
end
mutual
theorem Xh {G2:Gh} {O':Nat->Prop} (hv:G2.vis=G.vis) (hb:∀ F,G2.bk F=G.bk (rn rho F)):∀ {x:T} {v:Value},Bc rho x=true->Aa G2 w O' x v->Aa G w O (Bb rho x) v
 | .d x,v,hx,r=>by
  simp only [Bb,Aa] at r ⊢
  rw [<-hv]
  refine Aw.pure (?_:Fa (.d x)=true) r
  cases x with
  |rd xs=>simp [Bc] at hx
  |c c=>rfl
  |agg xs=>rfl
 | .addr id k,v,_,r=>by simp only [Bb,Aa] at r ⊢;rw [hb] at r;exact r
 | .fn f p q,v,hx,r=>by
  simp only [Bc,Bool.and_eq_true] at hx
  simp only [Bb,Aa] at r ⊢
  obtain ⟨us,vs,h1,h2,h3⟩:=r
  exact ⟨us,vs,h1,Si hv hb hx.1 h2,Si hv hb hx.2 h3⟩
 | .arr id n,v,_,r=>by simp only [Bb,Aa] at r ⊢;rw [hb] at r;exact r
 | .mp id,v,_,r=>by simp only [Bb,Aa] at r ⊢;rw [hb] at r;exact r
 | .yl l,v,_,r=>by simp only [Bb,Aa] at r ⊢;exact r
 | .ag p,v,hx,r=>by
  simp only [Bc] at hx
  simp only [Bb,Aa] at r ⊢
  obtain ⟨vs,h1,h2⟩:=r
  exact ⟨vs,h1,Si hv hb hx h2⟩
 | .tpl p,v,hx,r=>by
  simp only [Bc] at hx
  simp only [Bb,Aa] at r ⊢
  obtain ⟨vs,h1,h2⟩:=r
  exact ⟨vs,h1,Si hv hb hx h2⟩
 | .tup _,_,hx,_| .may _ _,_,hx,_| .any,_,hx,_| .tok _,_,hx,_| .elt _ _ _ _,_,hx,_| .it _,_,hx,_| .nx _ _,_,hx,_
 | .own _ _ _,_,hx,_| .tkd _ _ _ _,_,hx,_| .arrc _ _ _ _,_,hx,_| .mapc _ _ _ _ _,_,hx,_| .itc _ _,_,hx,_| .mitc _ _ _ _ _ _,_,hx,_| .tr _,_,hx,_| .arro _ _ _ _ _,_,hx,_=>by simp [Bc] at hx
theorem Si {G2:Gh} {O':Nat->Prop} (hv:G2.vis=G.vis) (hb:∀ F,G2.bk F=G.bk (rn rho F)):∀ {xs:List T} {vs:List Value},Fg rho xs=true->Ab G2 w O' xs vs->Ab G w O (Du rho xs) vs
 | [],vs,_,r=>by simp only [Du,Ab] at r ⊢;exact r
 |x::xs,vs,hx,r=>by
  simp only [Fg,Bool.and_eq_true] at hx
  simp only [Du,Ab] at r ⊢
  obtain ⟨v,us,h1,h2,h3⟩:=r
  exact ⟨v,us,h1,Xh hv hb hx.1 h2,Si hv hb hx.2 h3⟩
end
mutual
theorem Pw:∀ {x:T},Bc rho x=true->(∀ id,id∈Ai x->inL id rho=true)/\(∀ id,id∈Ai (Bb rho x)->∃ F,inL F rho=true/\F∈Ai x/\id=rn rho F)
 | .d x,_=>⟨fun id h=>(by cases h),fun id h=>(by cases h)⟩
 | .addr id k,hx=>⟨fun i h=>by simp only [Ai,List.mem_singleton] at h;rw [h];exact hx,fun i h=>by simp only [Bb,Ai,List.mem_singleton] at h;exact ⟨id,hx,by simp [Ai],h⟩⟩
 | .fn f p q,hx=>by
  simp only [Bc,Bool.and_eq_true] at hx
  obtain ⟨a1,a2⟩:=Sj hx.1
  obtain ⟨b1,b2⟩:=Sj hx.2
  refine ⟨fun i h=>?_,fun i h=>?_⟩
  ·simp only [Ai,List.mem_append] at h;exact h.elim (a1 i) (b1 i)
  ·simp only [Bb,Ai,List.mem_append] at h ⊢
   rcases h with h|h
   ·obtain ⟨F,h1,h2,h3⟩:=a2 i h;exact ⟨F,h1,.inl h2,h3⟩
   ·obtain ⟨F,h1,h2,h3⟩:=b2 i h;exact ⟨F,h1,.inr h2,h3⟩
 | .arr id n,hx=>⟨fun i h=>by simp only [Ai,List.mem_singleton] at h;rw [h];exact hx,fun i h=>by simp only [Bb,Ai,List.mem_singleton] at h;exact ⟨id,hx,by simp [Ai],h⟩⟩
 | .mp id,hx=>⟨fun i h=>by simp only [Ai,List.mem_singleton] at h;rw [h];exact hx,fun i h=>by simp only [Bb,Ai,List.mem_singleton] at h;exact ⟨id,hx,by simp [Ai],h⟩⟩
 | .yl l,_=>⟨fun id h=>(by cases h),fun id h=>(by cases h)⟩
 | .ag p,hx=>by
  simp only [Bc] at hx
  simpa only [Ai,Bb] using Sj hx
 | .tpl p,hx=>by
  simp only [Bc] at hx
  simpa only [Ai,Bb] using Sj hx
 | .tup _,hx| .may _ _,hx| .any,hx| .tok _,hx| .elt _ _ _ _,hx| .it _,hx| .nx _ _,hx
 | .own _ _ _,hx| .tkd _ _ _ _,hx| .arrc _ _ _ _,hx| .mapc _ _ _ _ _,hx| .itc _ _,hx| .mitc _ _ _ _ _ _,hx| .tr _,hx| .arro _ _ _ _ _,hx=>by simp [Bc] at hx
theorem Sj:∀ {xs:List T},Fg rho xs=true->(∀ id,id∈Bd xs->inL id rho=true)/\(∀ id,id∈Bd (Du rho xs)->∃ F,inL F rho=true/\F∈Bd xs/\id=rn rho F)
 | [],_=>⟨fun id h=>(by cases h),fun id h=>(by cases h)⟩
 |x::xs,hx=>by
  simp only [Fg,Bool.and_eq_true] at hx
  obtain ⟨a1,a2⟩:=Pw hx.1
  obtain ⟨b1,b2⟩:=Sj hx.2
  refine ⟨fun i h=>?_,fun i h=>?_⟩
  ·simp only [Bd,List.mem_append] at h;exact h.elim (a1 i) (b1 i)
  ·simp only [Du,Bd,List.mem_append] at h ⊢
   rcases h with h|h
   ·obtain ⟨F,h1,h2,h3⟩:=a2 i h;exact ⟨F,h1,.inl h2,h3⟩
   ·obtain ⟨F,h1,h2,h3⟩:=b2 i h;exact ⟨F,h1,.inr h2,h3⟩
end
theorem Ag5 {x:T} (h:Bc rho x=true):Ej x=[]:=by
 cases x with
 |d x=>
  cases x with
  |c c=>cases c with
   |s g n f=>cases g with
    |n=>rfl
    |t k=>simp [Bc] at h
   |v _=>rfl
   |m _ _ _ _=>rfl
   |p _=>rfl
   |i _ _ _=>rfl
   |u=>rfl
  |agg _=>rfl
  |rd _=>rfl
 |may b x=>simp [Bc] at h
 |_=>rfl
theorem Ag6 {x:T} {v:Value} (h:Bc rho x=true):Iw G w Y e x v:=by
 cases x with
 |d x=>
  cases x with
  |c c=>cases c with
   |s g n f=>cases g with
    |n=>trivial
    |t k=>simp [Bc] at h
   |v _=>trivial
   |m _ _ _ _=>trivial
   |p _=>trivial
   |i _ _ _=>trivial
   |u=>trivial
  |agg _=>trivial
  |rd _=>trivial
 |may b x=>simp [Bc] at h
 |_=>trivial
theorem Xi {x:T} (h:Bc rho x=true):(Bb rho x).one=x.one:=by
 cases x<;>first|rfl|simp [Bc] at h
theorem Px {x:T} (h:Bc rho x=true):Ej (Bb rho x)=[]/\(∀ {v:Value},Iw G w Y e (Bb rho x) v):=by
 cases x with
 |d x=>
  simp only [Bb]
  exact ⟨Ag5 h,Ag6 h⟩
 |_=>first|exact ⟨rfl,trivial⟩|simp [Bc] at h
theorem Xj {x:T} (h:Cq x=true):Bb rho x=x:=by
 unfold Cq at h
 split at h<;>first|rfl|cases h
theorem Xk {x:T} (h:Bc rho x=true):∀ b y,Bb rho x≠.may b y:=by
 intro b y
 cases x<;>first|(simp only [Bb];intro hh;cases hh;done)|simp [Bc] at h
theorem Ag7 {o o':T} {b:Nat} {H:Nat->Prop} (hle:∀ p∈leT o o',p) (ho:Cq o'=true) (h:Bv G w o b):Bv (Ny rho G H) w o' b:=by
 unfold leT at hle
 split at hle
 ·cases ho
 ·cases ho
 ·cases ho
 ·exact h
 ·cases ho
 ·cases ho
 ·cases ho
 ·cases ho
 ·cases ho
 ·cases ho
 ·replace hle:=Mh hle
  obtain ⟨hb,hle⟩:=hle
  obtain ⟨h1,h2⟩:=and_true hb
  have h2:=Nat.eq_of_beq_eq_true h2
  have h1:=eq_of_beq h1
  subst h1;subst h2
  obtain ⟨e1,e2⟩:SEq _ _ _ _:=hle _ List.mem_cons_self
  subst e1
  obtain ⟨⟨cs,t,z,g1,gz,g2,g3⟩,g4⟩:=h
  refine ⟨⟨cs,t,z,g1,gz,g2,fun i hi=>?_⟩,g4⟩
  obtain ⟨g5,g6⟩:=g3 i hi
  obtain ⟨e3,e4⟩:=Mg (e2 i hi)
  refine ⟨by rw [<-e3];exact g5,fun j c hc=>?_⟩
  obtain ⟨x,hx,hxc⟩:=e4 j c hc
  obtain ⟨u,hu,hr⟩:=g6 j x hx
  exact ⟨u,hu,Xd hxc hr⟩
 ·replace hle:=Mh hle
  obtain ⟨hb,hle⟩:=hle
  obtain ⟨hb,h3⟩:=and_true hb
  obtain ⟨h1,h2⟩:=and_true hb
  have h2:=Nat.eq_of_beq_eq_true h2
  have h1:=eq_of_beq h1
  have h3:=eq_of_beq h3
  subst h1;subst h2;subst h3
  have hm:MEq _ _ _ _:=hle _ List.mem_cons_self
  obtain ⟨⟨es,cl,g1,g2⟩,g4⟩:=h
  exact ⟨⟨es,cl,g1,Ac0 hm g2⟩,g4⟩
 ·cases ho
 ·cases ho
 ·cases ho
 ·cases ho
 ·have:=hle _ List.mem_cons_self
  subst this
  unfold Cq at ho
  split at ho<;>first|exact h|cases ho
end
section
variable {P:Program} {Y:TypeId->Ty} {Gl:World->Prop} {X:Cx} {nt:Nat} {ds:List Deferred} {e:Env} {a:Act} {w:World} {G:Gh} {O:Nat->Prop} {Q:Exit->Act->World->Prop} {rd:Option Nat} {fu:Nat} {yd:Yd} {rho:List (Nat×Nat)}
theorem Sk {t k:Nat}:∀ {l:List (Nat×Nat)},Bu t k l=true↔(t,k)∈l
 | []=>by simp [Bu]
 |(a,b)::r=>by
  simp only [Bu,Bool.or_eq_true,Bool.and_eq_true,List.mem_cons,Prod.mk.injEq,Sk (l:=r)]
  constructor
  ·rintro (⟨h1,h2⟩|h)
   ·exact .inl ⟨Nat.eq_of_beq_eq_true h1,Nat.eq_of_beq_eq_true h2⟩
   ·exact .inr h
  ·rintro (⟨rfl,rfl⟩|h)
   ·exact .inl ⟨Nat.beq_refl _,Nat.beq_refl _⟩
   ·exact .inr h
theorem Ag8 {t k:Nat}:∀ {m n:Env},Bu t k (Bf m)=false->Env.get (m++n) t k=n.get t k
 | [],_,_=>rfl
 |(a,b,x)::m,n,h=>by
  simp only [Bf,Bu,Bool.or_eq_false_iff,Bool.and_eq_false_iff] at h
  rw [List.cons_append,Ax (fun hh=>by
   obtain ⟨rfl,rfl⟩:=hh
   rcases h.1 with h|h<;>rw [Nat.beq_refl] at h<;>cases h)]
  exact Ag8 h.2
theorem Ag9 {t k:Nat}:∀ {m n:Env},Bu t k (Bf m)=true->Env.get (m++n) t k=m.get t k
 | [],_,h=>by cases h
 |(a,b,x)::m,n,h=>by
  rw [List.cons_append,Ap,Ap]
  split
  ·rfl
  ·rename_i hh
   simp only [Bf,Bu,Bool.or_eq_true,Bool.and_eq_true] at h
   exact Ag9 (h.resolve_left fun h=>hh ⟨(Nat.eq_of_beq_eq_true h.1).symm,(Nat.eq_of_beq_eq_true h.2).symm⟩)
theorem Ac8 {t k:Nat} {l:List (Nat×Nat)} (h:Bu t k l=false):∀ {m:Env},Env.get (rest l m) t k=m.get t k
 | []=>rfl
 |(a,b,x)::m=>by
  unfold rest
  cases hh:Bu a b l with
  |true=>
   simp only [cond_true]
   rw [Ax (fun h'=>by rw [<-h'.1,<-h'.2,hh] at h;cases h)]
   exact Ac8 h
  |false=>
   simp only [cond_false]
   rw [Ap,Ap]
   split
   ·rfl
   ·exact Ac8 h
theorem Ee (post pre:Env) (t k:Nat):Env.get (Ah post pre) t k=if Bu t k (Bf post)=true then post.get t k else pre.get t k:=by
 unfold Ah
 cases h:Bu t k (Bf post) with
 |true=>rw [if_pos rfl];exact Ag9 h
 |false=>rw [if_neg (by decide),Ag8 h];exact Ac8 h
theorem Ac9 {l:List (Nat×Nat)} {p:Nat×Nat×T}:∀ {m:Env},p∈rest l m->p∈m
 | [],h=>by cases h
 |(a,b,x)::m,h=>by
  unfold rest at h
  cases hh:Bu a b l with
  |true=>rw [hh] at h;exact List.mem_cons_of_mem _ (Ac9 h)
  |false=>
   rw [hh] at h
   cases h with
   |head=>exact List.mem_cons_self
   |tail _ h=>exact List.mem_cons_of_mem _ (Ac9 h)
theorem Aga:∀ {m:Env},(∀ t k x,(t,k,x)∈m->(t=0/\k=BIG/\Iu x=true)∨(t=2/\inL k rho=true/\Cq x=true)∨∃ i,t=i+3/\inL i rho=true/\Bc rho x=true/\x.one=true)->Df rho m=true
 | [],_=>rfl
 |(t,k,x)::m,h=>by
  have ih:=Aga (m:=m) fun t k x hx=>h t k x (List.mem_cons_of_mem _ hx)
  rcases h t k x List.mem_cons_self with ⟨rfl,rfl,h1⟩|⟨rfl,h1,h2⟩|⟨i,rfl,h1,h2,h3⟩
  ·simp [Df,h1,ih]
  ·simp [Df,h1,h2,ih]
  ·simp [Df,h1,h2,h3,ih]
theorem Aon {post pre:Env} (h1:Df rho post=true) (h2:Df rho pre=true):Df rho (Ah post pre)=true:=
 Aga fun t k x hx=>by
  unfold Ah at hx
  rcases List.mem_append.1 hx with hx|hx
  ·exact tameE_mem h1 hx
  ·exact tameE_mem h2 (Ac9 hx)
theorem Ju:∀ {m:Env} {t k:Nat} {x:T},(t,k,x)∈m->(∀ y,(t,k,y)∈m->y≠.any)->m.get t k≠.any
 |(a,b,z)::m,t,k,x,h,hn=>by
  rw [Ap]
  split
  ·rename_i hh
   obtain ⟨rfl,rfl⟩:=hh
   exact hn z List.mem_cons_self
  ·rename_i hh
   cases h with
   |head=>exact absurd ⟨rfl,rfl⟩ hh
   |tail _ h=>exact Ju h fun y hy=>hn y (List.mem_cons_of_mem _ hy)
theorem Xl {x:T} (h:Cq x=true):x≠.any:=fun hh=>by rw [hh] at h;cases h
theorem Xm {x:T} (h:x.one=true):x≠.any:=fun hh=>by rw [hh] at h;cases h
theorem Xn {x y:T} (h:∀ p∈leT x y,p) (hy:y≠.any):x≠.any:=by
 intro hh
 subst hh
 unfold leT at h
 split at h<;>first
  |(rename_i h1 h2;exact hy h2)
  |exact hy rfl
  |(rename_i h1 h2;cases h1;done)
  |(rename_i h1;cases h1;done)
  |(have:=h _ List.mem_cons_self;exact hy this.symm)
theorem Aca {x:T} (h:∀ p∈leT live x,p) (hx:Cq x=true):x=live:=by
 unfold Cq at hx
 split at hx
 ·rfl
 ·have:live=_:=h _ List.mem_cons_self
  cases this
 ·have:live=_:=h _ List.mem_cons_self
  cases this
 ·cases hx
def Sl (G:Gh) (w:World) (rho:List (Nat×Nat)) (pre:Env) (b:Nat):Prop:=b<w.heap.size/\¬ G.H b/\∀ F,pre.get 2 F≠.any->G.bk (rn rho F)≠b
def J2 (X:Cx) (G:Gh) (w:World) (N:Nat->Prop):Oth:=fun p H vi w'=>∃ H',(∀ b,H b↔H' b∨N b)/\(∀ b,N b->¬ H' b/\b<w.heap.size)/\X.J p H' vi w'/\(∀ b,N b->w'.heap[b]?=w.heap[b]?)/\(∀ b,X.fz b->w'.heap[b]?=w.heap[b]?/\H' b)/\(∀ b,b<w.heap.size->(H' b↔G.H b))/\(∀ b,H' b->b<w'.heap.size)/\Same w w'
theorem Acb {N:Nat->Prop}:(J2 X G w N).Stable:=by
 refine ⟨?_,?_⟩
 ·rintro p H vi w1 w2 ⟨H',h1,h2,h3,h4,h5,h6,h6',h7⟩ hH hk hs
  refine ⟨H',h1,h2,X.st.1 _ _ _ _ _ h3 (fun b hb=>hH b ((h1 b).2 (.inl hb))) hk hs,fun b hb=>by rw [hH b ((h1 b).2 (.inr hb))];exact h4 b hb,fun b hb=>⟨by rw [hH b ((h1 b).2 (.inl (h5 b hb).2))];exact (h5 b hb).1,(h5 b hb).2⟩,h6,fun b hb=>Nat.lt_of_lt_of_le (h6' b hb) hs.size,h7.trans hs⟩
 ·rintro p H vi vi' w1 ⟨H',h1,h2,h3,h4,h5,h6,h6',h7⟩ hle heq
  exact ⟨H',h1,h2,X.st.2 _ _ _ _ _ h3 hle (fun b hb=>heq b ((h1 b).2 (.inl hb))),h4,h5,h6,h6',h7⟩
theorem Agb {N:Nat->Prop} (U:Sur P Gl X yd):Sh P (J2 X G w N) yd:=by
 rintro p H vis w1 vs hm hs ⟨H',h1,h2,h3,h4,h5,h6,h6',h7⟩ hlt hfr hpu hr
 obtain ⟨fn,tmps,assign,body,hrun,hround⟩:=U.ok p H' vis w1 vs hm hs h3 h6' hfr hpu hr
 refine ⟨fn,tmps,assign,body,hrun,hround.mono fun en w2 ⟨g1,g2,g3,g4,g5⟩=>⟨g1,?_,fun b hb hn=>g3 b hb fun hh=>hn ((h1 b).2 (.inl hh)),g4,g5⟩⟩
 have hnofz:∀ b,¬ X.fz b:=U.fz.resolve_left (by omega)
 refine ⟨Pr H' w1 w2,fun b=>?_,fun b hb=>?_,g2,fun b hb=>?_,fun b hb=>absurd hb (hnofz b),fun b hb=>?_,fun b hb=>?_,h7.trans g5⟩
 ·unfold Pr
  rw [h1 b]
  constructor
  ·rintro ((h|h)|h)
   ·exact .inl (.inl h)
   ·exact .inr h
   ·exact .inl (.inr h)
  ·rintro ((h|h)|h)
   ·exact .inl (.inl h)
   ·exact .inr h
   ·exact .inl (.inr h)
 ·obtain ⟨q1,q2⟩:=h2 b hb
  exact ⟨fun hh=>hh.elim q1 fun hh=>by have:=h7.size;omega,q2⟩
 ·obtain ⟨q1,q2⟩:=h2 b hb
  rw [g3 b (Nat.lt_of_lt_of_le q2 h7.size) q1]
  exact h4 b hb
 ·rw [<-h6 b hb]
  exact ⟨fun h=>h.resolve_right (by have:=h7.size;omega),.inl⟩
 ·rcases hb with hb|hb
  ·exact Nat.lt_of_lt_of_le (h6' b hb) g5.size
  ·exact hb.2
end
section
variable {P:Program} {Y:TypeId->Ty} {Gl:World->Prop} {X:Cx} {nt:Nat} {ds:List Deferred} {e:Env} {a:Act} {w:World} {G:Gh} {O:Nat->Prop} {Q:Exit->Act->World->Prop} {rd:Option Nat} {fu:Nat} {yd:Yd} {rho:List (Nat×Nat)}
theorem Mi {e0:Env}:∀ {es:Env},Hx e0 es=true->∀ {t k x},(t,k,x)∈es->∀ id∈Jm t x,e0.get 2 id≠.any
 | [],_,_,_,_,h=>(by cases h)
 |(a,b,y)::es,hp,t,k,x,h=>by
  simp only [Hx,Bool.and_eq_true] at hp
  cases h with
  |head=>
   have hall:∀ (l:List Nat),Ir e0 l=true->∀ id∈l,e0.get 2 id≠.any:=by
    intro l
    induction l with
    |nil=>intro _ id h;cases h
    |cons i l ih=>
     intro h id hid
     simp only [Ir,Bool.and_eq_true] at h
     cases hid with
     |head=>intro hh;rw [hh] at h;exact absurd h.1 (by simp [Gj])
     |tail _ hid=>exact ih h.2 id hid
   exact hall _ hp.1
  |tail _ h=>exact Mi hp.2 h
theorem Agc (R:Rel Y X nt ds e a w G) {pre:Env} (hr:Hi rho=true) (ht:Df rho pre=true) (hids:Hx pre pre=true) (hle:∀ t k x,(t,k,x)∈Be rho pre->∀ p∈leT (e.get t k) x,p):
  (∀ F,pre.get 2 F≠.any->inL F rho=true/\e.get 2 (rn rho F)≠.any/\Cq (pre.get 2 F)=true/\∀ p∈leT (e.get 2 (rn rho F)) (pre.get 2 F),p)/\
  Mem Y (fun _=>False) pre w (Ny rho G fun b=>b<w.heap.size/\∀ F,pre.get 2 F≠.any->G.bk (rn rho F)≠b):=by
 have hnam:∀ F,pre.get 2 F≠.any->inL F rho=true/\e.get 2 (rn rho F)≠.any/\Cq (pre.get 2 F)=true/\∀ p∈leT (e.get 2 (rn rho F)) (pre.get 2 F),p:=by
  intro F hF
  have hm:=(get_mem (rfl:pre.get 2 F=pre.get 2 F)).resolve_left hF
  rcases tameE_mem ht hm with ⟨h,_⟩|⟨_,h1,h2⟩|⟨i,h,_⟩
  ·omega
  ·have h3:=hle _ _ _ (Xg (rho:=rho) hm)
   have h3:∀ p∈leT (e.get 2 (rn rho F)) (Bb rho (pre.get 2 F)),p:=h3
   rw [Xj h2] at h3
   exact ⟨h1,Xn h3 (Xl h2),h2,h3⟩
  ·omega
 refine ⟨hnam,⟨fun F k hk=>?_,fun F hF=>?_,fun F F' hF hF' hh=>?_⟩⟩
 ·have hm:=(get_mem (rfl:pre.get (F+3) k=pre.get (F+3) k)).resolve_left hk
  rcases tameE_mem ht hm with ⟨h,_⟩|⟨h,_⟩|⟨i,h,h1,h2,h3⟩
  ·omega
  ·omega
  ·have hi:i=F:=by omega
   subst hi
   have h4:∀ p∈leT (e.get (rn rho i+3) k) (Bb rho (pre.get (i+3) k)),p:=hle _ _ _ (Xg (rho:=rho) hm)
   have h5:(Bb rho (pre.get (i+3) k)).one=true:=by rw [Xi h2];exact h3
   have h6:=Xn h4 (Xm h5)
   obtain ⟨g1,g2,u,g3,g4⟩:=R.mem.cells (rn rho i) k h6
   have hu:=Mi hids hm
   refine ⟨?_,h3,u,g3,⟨Ag4 h2 (Xf h4 g4.rel),Ag6 h2,Hz fun id hid'=>hu id (by simp [Jm,hid']),by
    have:=Ag5 h2
    cases hx:pre.get (i+3) k with
    |may b x=>rw [hx] at h2;simp [Bc] at h2
    |_=>rw [hx] at this;intro k' hk';rw [this] at hk';cases hk'⟩⟩
   obtain ⟨q1,q2,q3,q4⟩:=hnam i (hu i (by simp [Jm]))
   rw [g1] at q4
   exact Aca q4 q3
 ·obtain ⟨h1,h2,h3,h4⟩:=hnam F hF
  obtain ⟨g1,g2,g3⟩:=R.mem.box (rn rho F) h2
  exact ⟨fun hh=>hh.2 F hF rfl,g2,Ag7 h4 h3 g3⟩
 ·obtain ⟨h1,h2,_⟩:=hnam F hF
  obtain ⟨h1',h2',_⟩:=hnam F' hF'
  exact Nw hr h1 h1' (R.mem.inj _ _ h2 h2' hh)
theorem le_tr {x:T} {p:Nat} (h:∀ q∈leT x (.tr p),q):x=.tr p:=by
 unfold leT at h
 split at h<;>first
  |(rename_i h1 _;cases h1;done)
  |(rename_i h1;cases h1;done)
  |(rename_i _ h1;cases h1;done)
  |(rename_i h1;cases h1;have hq:=h _ List.mem_cons_self;rw [hq])
  |exact h _ List.mem_cons_self
theorem big_eq {pre:Env} (ht:Df rho pre=true) (hle:∀ t k x,(t,k,x)∈Be rho pre->∀ p∈leT (e.get t k) x,p) (hb:Vq pre (e.get 0 BIG)=true):
  (pre.get 0 BIG=.any/\trN (e.get 0 BIG)=0)∨pre.get 0 BIG=e.get 0 BIG:=by
 by_cases h:pre.get 0 BIG=.any
 ·refine .inl ⟨h,?_⟩
  unfold Vq at hb
  split at hb
  ·rename_i p hp
   exfalso
   have hk:=Sk.1 hb
   have:∀ {m:Env},(0,BIG)∈Bf m->∃ x,(0,BIG,x)∈m:=by
    intro m
    induction m with
    |nil=>intro h;cases h
    |cons q m ih=>
     intro h
     obtain ⟨a,b,x⟩:=q
     cases h with
     |head=>exact ⟨x,List.mem_cons_self⟩
     |tail _ h=>obtain ⟨y,hy⟩:=ih h;exact ⟨y,List.mem_cons_of_mem _ hy⟩
   obtain ⟨x,hx⟩:=this hk
   refine Ju hx (fun y hy=>?_) h
   rcases tameE_mem ht hy with ⟨_,_,h1⟩|⟨h1,_⟩|⟨i,h1,_⟩
   ·intro hh;rw [hh] at h1;cases h1
   ·omega
   ·omega
  ·rename_i hno
   cases hx:e.get 0 BIG with
   |tr p=>exact absurd hx (hno p)
   |_=>rfl
 ·have hm:=(get_mem (rfl:pre.get 0 BIG=pre.get 0 BIG)).resolve_left h
  rcases tameE_mem ht hm with ⟨_,_,h1⟩|⟨h1,_⟩|⟨i,h1,_⟩
  ·have h2:∀ p∈leT (e.get 0 BIG) (pre.get 0 BIG),p:=hle _ _ _ (Xg (rho:=rho) hm)
   unfold Iu at h1
   split at h1
   ·rename_i p hp
    rw [hp] at h2 ⊢
    exact .inr (le_tr h2).symm
   ·cases h1
  ·omega
  ·omega
end
section
variable {P:Program} {Y:TypeId->Ty} {Gl:World->Prop} {X:Cx} {nt:Nat} {ds:List Deferred} {e:Env} {a:Act} {w:World} {G:Gh} {O:Nat->Prop} {Q:Exit->Act->World->Prop} {rd:Option Nat} {fu:Nat} {yd:Yd} {rho:List (Nat×Nat)}
theorem Agd:∀ {raw xs:List T},Fg rho xs=true->(∀ p∈Cj raw (Du rho xs),p)->∀ x∈raw,∀ b y,x≠.may b y
 | [],_,_,_,x,hx=>(by cases hx)
 |z::raw,[],_,h,_,_=>by unfold Du Cj at h;exact (h False List.mem_cons_self).elim
 |z::raw,y::xs,ht,h,x,hx=>by
  simp only [Fg,Bool.and_eq_true] at ht
  simp only [Du] at h
  unfold Cj at h
  cases hx with
  |head=>
   intro b u hh
   subst hh
   have h1:∀ p∈leT (.may b u) (Bb rho y),p:=fun p hp=>h p (List.mem_append_left _ hp)
   have h2:=Xk ht.1
   have h3:Bb rho y≠.any:=by
    have:=ht.1
    cases y<;>first|(simp only [Bb];intro hh;cases hh;done)|simp [Bc] at this
   cases hz:Bb rho y with
   |any=>exact h3 hz
   |may b' u'=>exact h2 b' u' hz
   |tup xs=>
    have:=ht.1
    cases y<;>first|(simp only [Bb] at hz;cases hz;done)|simp [Bc] at this
   |arro _ _ _ _ _=>
    have:=ht.1
    cases y<;>first|(simp only [Bb] at hz;cases hz;done)|simp [Bc] at this
   |_=>rw [hz] at h1;simp only [leT,List.mem_singleton,forall_eq] at h1;cases h1
  |tail _ hx=>exact Agd ht.2 (fun p hp=>h p (List.mem_append_right _ hp)) x hx
theorem Aoo (U:Sur P Gl X yd) (R:Rel Y X nt ds e a w G) {pre post:Env} (hr:Hi rho=true) (ht:Df rho pre=true) (ht2:Df rho post=true) (hids:Hx pre pre=true) (hsub:Oy pre post=true)
  (hids2:Hx (Ah post pre) (Ah post pre)=true) (hle:∀ t k x,(t,k,x)∈Be rho pre->∀ p∈leT (e.get t k) x,p) (hbig:Vq pre (e.get 0 BIG)=true) {w':World} {G2:Gh}
  (hsame:Same w w') (hkv:KeepV G.vis w w') (hcells:∀ F k,pre.get 2 F=live->pre.get (F+3) k=.any->w'.cell? ⟨G.bk (rn rho F),k,none⟩=w.cell? ⟨G.bk (rn rho F),k,none⟩)
  (hbk:∀ F,G2.bk F=G.bk (rn rho F)) (hvis:∀ b,b<w.heap.size->G2.vis b=G.vis b) (hfr:∀ b,w'.heap.size<=b->G2.vis b=0) (hJ:J2 X G w (Sl G w rho pre) (trN ((Ah post pre).get 0 BIG)) G2.H G2.vis w') (hmem:Mem Y (fun _=>False) (Ah post pre) w' G2):
  ∃ G',G'.vis=G2.vis/\Rel Y X nt ds (Be rho (Ah post pre)++e) a w' G':=by
 obtain ⟨hnam,_⟩:=Agc R hr ht hids hle
 have hto:=Aon ht2 ht
 obtain ⟨H',j1,j2,j3,j4,j5,j6,j7,j8⟩:=hJ
 -- names
 have hkind:∀ {m:Env},Oy pre m=true->∀ {F x},(2,F,x)∈m->Ev x (pre.get 2 F)=true:=by
  intro m
  induction m with
  |nil=>intro _ F x h;cases h
  |cons q m ih=>
   intro h F x hx
   obtain ⟨t,k,y⟩:=q
   match t,h,hx with
   |0,h,hx=>cases hx with|tail _ hx=>exact ih h hx
   |1,h,hx=>cases hx with|tail _ hx=>exact ih h hx
   |2,h,hx=>
    simp only [Oy,Bool.and_eq_true] at h
    cases hx with
    |head=>exact h.1
    |tail _ hx=>exact ih h.2 hx
   |t+3,h,hx=>cases hx with|tail _ hx=>exact ih h hx
 have hkeys:∀ {m:Env} {t k:Nat},(t,k)∈Bf m->∃ x,(t,k,x)∈m:=by
  intro m t k
  induction m with
  |nil=>intro h;cases h
  |cons q m ih=>
   intro h
   obtain ⟨a,b,x⟩:=q
   cases h with
   |head=>exact ⟨x,List.mem_cons_self⟩
   |tail _ h=>obtain ⟨y,hy⟩:=ih h;exact ⟨y,List.mem_cons_of_mem _ hy⟩
 have hpk:∀ F,(Ah post pre).get 2 F=pre.get 2 F∨Ev ((Ah post pre).get 2 F) (pre.get 2 F)=true:=by
  intro F
  rw [Ee]
  split
  ·rename_i hk
   obtain ⟨x,hx⟩:=hkeys (Sk.1 hk)
   have hne:post.get 2 F≠.any:=Ju hx fun y hy=>by
    rcases tameE_mem ht2 hy with ⟨h1,_⟩|⟨_,_,h1⟩|⟨i,h1,_⟩
    ·omega
    ·exact Xl h1
    ·omega
   exact .inr (hkind hsub ((get_mem (rfl:post.get 2 F=post.get 2 F)).resolve_left hne))
  ·exact .inl rfl
 have hov:∀ F,(Ah post pre).get 2 F≠.any↔pre.get 2 F≠.any:=by
  intro F
  rcases hpk F with h|h
  ·rw [h]
  ·unfold Ev at h
   split at h
   ·rename_i h1 h2;rw [h1,h2]
   ·rename_i h1 h2;rw [h1,h2];simp
   ·rename_i h1 h2;rw [h1,h2];simp
   ·cases h
 have hlv:∀ F,(Ah post pre).get 2 F=live↔pre.get 2 F=live:=by
  intro F
  rcases hpk F with h|h
  ·rw [h]
  ·unfold Ev at h
   split at h
   ·rename_i h1 h2;rw [h1,h2]
   ·rename_i h1 h2;rw [h1,h2];simp [live]
   ·rename_i h1 h2;rw [h1,h2];simp [live]
   ·cases h
 have hin:∀ F,(Ah post pre).get 2 F≠.any->inL F rho=true:=fun F h=>(hnam F ((hov F).1 h)).1
 -- entries of the new environment
 have hobjE:∀ F,(Ah post pre).get 2 F≠.any->Env.get (Be rho (Ah post pre)++e) 2 (rn rho F)=(Ah post pre).get 2 F:=by
  intro F h
  have hm:=(get_mem (rfl:(Ah post pre).get 2 F=(Ah post pre).get 2 F)).resolve_left h
  have:=Nx (e:=e) hr hto (t:=2) (k:=F) (fun _=>hin F h) (fun i hi=>by omega) h
  rcases tameE_mem hto hm with ⟨h1,_⟩|⟨_,_,h1⟩|⟨i,h1,_⟩
  ·omega
  ·rw [show Env.get (Be rho (Ah post pre)++e) 2 (rn rho F)=Pu rho 2 ((Ah post pre).get 2 F) from this]
   exact Xj h1
  ·omega
 have hobjO:∀ id,(∀ F,(Ah post pre).get 2 F≠.any->rn rho F≠id)->Env.get (Be rho (Ah post pre)++e) 2 id=e.get 2 id:=by
  intro id h
  refine Jt fun t' k' x hx hh=>?_
  rcases tameE_mem hto hx with ⟨rfl,_⟩|⟨rfl,h1,h2⟩|⟨i,rfl,_⟩
  ·simp [Cc] at hh
  ·simp only [Cc,Prod.mk.injEq,true_and] at hh
   refine h k' (Ju hx fun y hy=>?_) hh
   rcases tameE_mem hto hy with ⟨h3,_⟩|⟨_,_,h3⟩|⟨i,h3,_⟩
   ·omega
   ·exact Xl h3
   ·omega
  ·simp only [Cc,Prod.mk.injEq] at hh;omega
 have hcellE:∀ F k,inL F rho=true->(Ah post pre).get (F+3) k≠.any->Env.get (Be rho (Ah post pre)++e) (rn rho F+3) k=Bb rho ((Ah post pre).get (F+3) k):=by
  intro F k hF h
  exact Nx (e:=e) hr hto (t:=F+3) (k:=k) (fun h=>by omega) (fun i hi=>by rw [<-show F=i by omega];exact hF) h
 have hcellO:∀ id k,(∀ F,inL F rho=true->(Ah post pre).get (F+3) k≠.any->rn rho F≠id)->Env.get (Be rho (Ah post pre)++e) (id+3) k=e.get (id+3) k:=by
  intro id k h
  refine Jt fun t' k' x hx hh=>?_
  rcases tameE_mem hto hx with ⟨rfl,_⟩|⟨rfl,h1,h2⟩|⟨i,rfl,h1,_⟩
  ·simp only [Cc,Prod.mk.injEq] at hh;omega
  ·simp only [Cc,Prod.mk.injEq] at hh;omega
  ·simp only [Cc,Prod.mk.injEq] at hh
   obtain ⟨h3,rfl⟩:=hh
   refine h i h1 (Ju hx fun y hy=>?_) (by omega)
   rcases tameE_mem hto hy with ⟨h4,_⟩|⟨h4,_⟩|⟨i',h4,_,_,h5⟩
   ·omega
   ·omega
   ·exact Xm h5
 have hslot:∀ t,t≠BIG->Env.get (Be rho (Ah post pre)++e) 0 t=e.get 0 t:=fun t ht'=>Jt fun t' k' x hx hh=>by
  rcases tameE_mem hto hx with ⟨rfl,rfl,_⟩|⟨rfl,_⟩|⟨i,rfl,_⟩
  ·simp only [Cc,Prod.mk.injEq,true_and] at hh;exact ht' hh.symm
  ·simp only [Cc,Prod.mk.injEq] at hh;omega
  ·simp only [Cc,Prod.mk.injEq] at hh;omega
 have htok:∀ k,Env.get (Be rho (Ah post pre)++e) 1 k=e.get 1 k:=fun k=>Jt fun t' k' x hx hh=>by
  rcases tameE_mem hto hx with ⟨rfl,_⟩|⟨rfl,_⟩|⟨i,rfl,_⟩<;>simp only [Cc,Prod.mk.injEq] at hh<;>omega
 have hbigE:(Env.get (Be rho (Ah post pre)++e) 0 BIG=(Ah post pre).get 0 BIG/\Iu ((Ah post pre).get 0 BIG)=true)∨(Env.get (Be rho (Ah post pre)++e) 0 BIG=e.get 0 BIG/\trN ((Ah post pre).get 0 BIG)=trN (e.get 0 BIG)):=by
  by_cases h:(Ah post pre).get 0 BIG=.any
  ·refine .inr ⟨Jt fun t' k' x hx hh=>?_,?_⟩
   ·rcases tameE_mem hto hx with ⟨rfl,rfl,h1⟩|⟨rfl,_⟩|⟨i,rfl,_⟩
    ·refine Ju hx (fun y hy=>?_) h
     rcases tameE_mem hto hy with ⟨_,_,h2⟩|⟨h2,_⟩|⟨i,h2,_⟩
     ·intro hh;rw [hh] at h2;cases h2
     ·omega
     ·omega
    ·simp only [Cc,Prod.mk.injEq] at hh;omega
    ·simp only [Cc,Prod.mk.injEq] at hh;omega
   ·rw [h]
    have hpre:pre.get 0 BIG=.any:=by
     rw [Ee] at h
     split at h
     ·rename_i hk
      exfalso
      have hk:=Sk.1 hk
      obtain ⟨x,hx⟩:=hkeys hk
      refine Ju hx (fun y hy=>?_) h
      rcases tameE_mem ht2 hy with ⟨_,_,h2⟩|⟨h2,_⟩|⟨i,h2,_⟩
      ·intro hh;rw [hh] at h2;cases h2
      ·omega
      ·omega
     ·exact h
    rcases big_eq ht hle hbig with ⟨_,h1⟩|h1
    ·rw [h1];rfl
    ·rw [<-h1,hpre]
  ·have hm:=(get_mem (rfl:(Ah post pre).get 0 BIG=(Ah post pre).get 0 BIG)).resolve_left h
   refine .inl ⟨Nx (e:=e) hr hto (t:=0) (k:=BIG) (fun h=>by omega) (fun i hi=>by omega) h,?_⟩
   rcases tameE_mem hto hm with ⟨_,_,h1⟩|⟨h1,_⟩|⟨i,h1,_⟩
   ·exact h1
   ·omega
   ·omega
 have hu:∀ id,Env.get (Be rho (Ah post pre)++e) 2 id≠.any↔e.get 2 id≠.any:=by
  intro id
  by_cases h:∃ F,(Ah post pre).get 2 F≠.any/\rn rho F=id
  ·obtain ⟨F,h1,rfl⟩:=h
   rw [hobjE F h1]
   exact ⟨fun _=>(hnam F ((hov F).1 h1)).2.1,fun _=>h1⟩
  ·rw [hobjO id fun F h1 h2=>h ⟨F,h1,h2⟩]
 have hpany:∀ F k,(Ah post pre).get (F+3) k=.any->pre.get (F+3) k=.any:=by
  intro F k hno
  rw [Ee] at hno
  split at hno
  ·rename_i hkk
   exfalso
   obtain ⟨x,hx⟩:=hkeys (Sk.1 hkk)
   refine Ju hx (fun y hy=>?_) hno
   rcases tameE_mem ht2 hy with ⟨h3,_⟩|⟨h3,_⟩|⟨i,h3,_,_,h5⟩
   ·omega
   ·omega
   ·exact Xm h5
  ·exact hno
 -- blocks that nobody has touched
 have hkept:∀ b,Sl G w rho pre b->w'.heap[b]?=w.heap[b]?:=j4
 obtain ⟨R',_⟩:=R.move' (w':=w') (G':=⟨G2.vis,G.bk,G.tk,H',G.dm⟩) (e':=Be rho (Ah post pre)++e)
  ⟨fun b=>by
   rcases Nat.lt_or_ge b w.heap.size with h|h
   ·dsimp only;rw [hvis b h];exact Nat.le_refl _
   ·rw [R.fresh b h];exact Nat.zero_le _,hkv,fun b hb=>(j5 b hb).1⟩ hsame j6 j7 rfl rfl rfl
  (fun b h1 h2 h3=>⟨hkept b ⟨h1,h2,fun F hF=>h3 _ (hnam F hF).2.1⟩,hvis b h1⟩) hslot (hbigE.imp (fun h=>by rw [h.1];exact h.2) fun h=>h.1) htok hu
  (fun lift id hid=>by
   by_cases h:∃ F,(Ah post pre).get 2 F≠.any/\rn rho F=id
   ·obtain ⟨F,h1,rfl⟩:=h
    obtain ⟨b1,b2,b3⟩:=hmem.box F h1
    have hF:=hin F h1
    refine ⟨?_,fun hf hl k hk=>?_,fun k hk=>?_⟩
    ·rw [hobjE F h1,<-hbk]
     have hob:Cq ((Ah post pre).get 2 F)=true:=by
      rcases tameE_mem hto ((get_mem (rfl:(Ah post pre).get 2 F=(Ah post pre).get 2 F)).resolve_left h1) with ⟨h3,_⟩|⟨_,_,h3⟩|⟨i,h3,_⟩
      ·omega
      ·exact h3
      ·omega
     generalize (Ah post pre).get 2 F=ob at b3 hob
     unfold Bv at b3 ⊢
     split at b3<;>first|exact b3|exact b3.elim|cases hob
    ·rw [hobjE F h1] at hl
     have hno:(Ah post pre).get (F+3) k=.any:=by
      by_cases hh:(Ah post pre).get (F+3) k=.any
      ·exact hh
      ·exfalso
       rw [hcellE F k hF hh] at hk
       have hm:=(get_mem (rfl:(Ah post pre).get (F+3) k=(Ah post pre).get (F+3) k)).resolve_left hh
       rcases tameE_mem hto hm with ⟨h3,_⟩|⟨h3,_⟩|⟨i,h3,_,h4,h5⟩
       ·omega
       ·omega
       ·rw [<-Xi h4] at h5;rw [hk] at h5;cases h5
     have hpk':pre.get (F+3) k=.any:=hpany F k hno
     have hek:e.get (rn rho F+3) k=.any:=by
      rw [hcellO (rn rho F) k (fun F' hF' hF2 hh=>hF2 (by rw [Nw hr hF' hF hh];exact hno))] at hk
      exact hk
     obtain ⟨_,q2,q3,q4⟩:=hnam F ((hov F).1 h1)
     have hl2:=(hlv F).1 hl
     rw [hl2] at q4
     have hel:e.get 2 (rn rho F)=live:=by
      have:∀ {x:T},(∀ p∈leT x live,p)->x=live:=by
       intro x hx
       cases x with
       |tup xs=>cases xs with
        |nil=>rfl
        |cons _ _=>
         have h9:T.tup _=live:=hx _ List.mem_cons_self
         cases h9
       |_=>
        have h9:_=live:=hx _ List.mem_cons_self
        cases h9
      exact this q4
     rw [hcells F k hl2 hpk']
     exact R.far _ k hf hel hek
    ·by_cases hh:(Ah post pre).get (F+3) k=.any
     ·rw [hcellO (rn rho F) k (fun F' hF' hF2 he=>hF2 (by rw [Nw hr hF' hF he];exact hh))] at hk ⊢
      obtain ⟨g1,g2,u,g3,g4⟩:=R.mem.cells (rn rho F) k hk
      obtain ⟨_,q2,q3,q4⟩:=hnam F ((hov F).1 h1)
      rw [g1] at q4
      have hl2:=Aca q4 q3
      exact ⟨by rw [hobjE F h1];exact (hlv F).2 hl2,g2,u,by rw [hcells F k hl2 (hpany F k hh)];exact g3,lift _ _ g4⟩
     ·rw [hcellE F k hF hh]
      obtain ⟨g1,g2,u,g3,g4⟩:=hmem.cells F k hh
      have hm:=(get_mem (rfl:(Ah post pre).get (F+3) k=(Ah post pre).get (F+3) k)).resolve_left hh
      rcases tameE_mem hto hm with ⟨h3,_⟩|⟨h3,_⟩|⟨i,h3,_,h4,h5⟩
      ·omega
      ·omega
      ·have hi:i=F:=by omega
       subst hi
       rw [hbk] at g3
       refine ⟨by rw [hobjE i h1];exact g1,by rw [Xi h4];exact g2,u,g3,⟨Xh (G:=⟨G2.vis,G.bk,G.tk,H',G.dm⟩) (G2:=G2) rfl hbk h4 g4.rel,(Px h4).2,?_,?_⟩⟩
       ·refine Hz fun id' hid'=>?_
        obtain ⟨F',f1,f2,rfl⟩:=(Pw h4).2 id' hid'
        have:=Mi hids2 hm F' (by simp [Jm,f2])
        rw [hobjE F' this]
        exact this
       ·have:=(Px (G:=G) (w:=w) (Y:=Y) (e:=e) h4).1
        cases hx:Bb rho ((Ah post pre).get (i+3) k) with
        |may b x=>exact absurd hx (Xk h4 b x)
        |_=>rw [hx] at this;intro k' hk';rw [this] at hk';cases hk'
   ·have hoid:=hobjO id fun F h1 h2=>h ⟨F,h1,h2⟩
    obtain ⟨b1,b2,b3⟩:=R.mem.box id hid
    have hk:Sl G w rho pre (G.bk id):=⟨b2,b1,fun F hF hh=>h ⟨F,(hov F).2 hF,R.mem.inj _ _ (hnam F hF).2.1 hid hh⟩⟩
    have hs:=hkept _ hk
    have hco:∀ k,Env.get (Be rho (Ah post pre)++e) (id+3) k=e.get (id+3) k:=fun k=>hcellO id k fun F hF hF2 hh=>by
     have hm:=(get_mem (rfl:(Ah post pre).get (F+3) k=(Ah post pre).get (F+3) k)).resolve_left hF2
     have:=Mi hids2 hm F (by simp [Jm])
     exact h ⟨F,this,hh⟩
    refine ⟨?_,fun hf hl k hk'=>?_,fun k hk'=>?_⟩
    ·rw [hoid]
     generalize e.get 2 id=ob at b3
     have hle:∀ b,G.vis b<=G2.vis b:=fun b=>by
      rcases Nat.lt_or_ge b w.heap.size with h|h
      ·rw [hvis b h];exact Nat.le_refl _
      ·rw [R.fresh b h];exact Nat.zero_le _
     exact b3.stay hle hkv hs (hvis _ b2) fun j bb hb=>⟨hb,hkept _ ⟨(R.tks _ bb hb).2.1,(R.tks _ bb hb).2.2.1,fun F hF=>(R.tks _ bb hb).2.2.2.2 _ (hnam F hF).2.1⟩,hvis _ (R.tks _ bb hb).2.1⟩
    ·rw [hoid] at hl
     rw [hco] at hk'
     rw [World.cell?_of_block hs]
     exact R.far id k hf hl hk'
    ·rw [hco] at hk' ⊢
     obtain ⟨g1,g2,u,g3,g4⟩:=R.mem.cells id k hk'
     exact ⟨by rw [hoid];exact g1,g2,u,by rw [World.cell?_of_block hs];exact g3,lift _ _ g4⟩)
  (fun id k hk=>by
   by_cases h:∃ F,inL F rho=true/\(Ah post pre).get (F+3) k≠.any/\rn rho F=id
   ·obtain ⟨F,h1,h2,rfl⟩:=h
    have hm:=(get_mem (rfl:(Ah post pre).get (F+3) k=(Ah post pre).get (F+3) k)).resolve_left h2
    have:=Mi hids2 hm F (by simp [Jm])
    exact (hnam F ((hov F).1 this)).2.1
   ·rw [hcellO id k fun F h1 h2 h3=>h ⟨F,h1,h2,h3⟩] at hk
    rw [(R.mem.cells id k hk).1];exact Bh)
  hfr (fun b hb=>hvis b (Nat.lt_of_lt_of_le hb R.base)) (by
   rcases hbigE with ⟨h1,_⟩|⟨h1,h2⟩
   ·rw [h1];exact j3
   ·rw [h1,<-h2];exact j3)
 exact ⟨⟨G2.vis,G.bk,G.tk,H',G.dm⟩,rfl,R'⟩
end
section
variable {P:Program} {Y:TypeId->Ty} {Gl:World->Prop} {X:Cx} {nt:Nat} {ds:List Deferred} {e:Env} {a:Act} {w:World} {G:Gh} {O:Nat->Prop} {Q:Exit->Act->World->Prop} {rd:Option Nat} {fu:Nat} {yd:Yd} {rho:List (Nat×Nat)}
theorem Age:∀ {rho:List (Nat×Nat)} {r r':List (Nat×Nat)} {u:Unit},(Vo rho).run e.get r=some (u,r')->∀ F,inL F rho=true->e.get 2 (rn rho F)=.any/\rn rho F<FAR
 | [],_,_,_,_,F,h=>by simp [inL] at h
 |(A,b)::rho,r,r',u,h,F,hF=>by
  unfold Vo at h
  obtain ⟨hb,h⟩:=Ak h
  simp only [M.run] at h
  split at h
  ·rename_i hany
   cases hA:A.beq F with
   |true=>
    have:rn ((A,b)::rho) F=b:=by simp [rn,hA]
    rw [this]
    exact ⟨hany,Bg hb⟩
   |false=>
    have:rn ((A,b)::rho) F=rn rho F:=by simp [rn,hA]
    rw [this]
    refine Age h F ?_
    simp only [inL,hA,Bool.false_or] at hF
    exact hF
  ·exact (Ac h).elim
theorem Agf {E:Env}:∀ {l:List Nat},Ir E l=true->∀ id∈l,E.get 2 id≠.any
 | [],_,_,h=>(by cases h)
 |i::r,h,id,hid=>by
  simp only [Ir,Bool.and_eq_true] at h
  cases hid with
  |head=>intro hh;rw [hh] at h;exact absurd h.1 (by simp [Gj])
  |tail _ hid=>exact Agf h.2 id hid
theorem Agg:∀ {m:Env},no0 m=true->∀ {t k x},(t,k,x)∈m->t≠0
 | [],_,_,_,_,h=>(by cases h)
 |(t0,k0,x0)::m,hm,t,k,x,h=>by
  simp only [no0,Bool.and_eq_true] at hm
  cases h with
  |head=>have:=Bg hm.1;omega
  |tail _ h=>exact Agg hm.2 h
theorem Rel.adoptN (R:Rel Y X nt ds e a w G) {m:Env} (hr:Hi rho=true) (ht:Df rho m=true) (h0:no0 m=true) (hids:Hx m m=true) (hfr:∀ F,inL F rho=true->e.get 2 (rn rho F)=.any/\rn rho F<FAR)
  {base:Nat} (hb:X.base<=base) {bk:Nat->Nat} {Gm:Gh} (hGv:Gm.vis=G.vis) (hGb:Gm.bk=bk) (hob:∀ id,m.get 2 id≠.any->base<=bk id/\bk id<w.heap.size/\Bv Gm w (m.get 2 id) (bk id))
  (hinj:∀ id id',m.get 2 id≠.any->m.get 2 id'≠.any->bk id=bk id'->id=id')
  (hcl:∀ id k,m.get (id+3) k≠.any->m.get 2 id=live/\∃ u,w.cell? ⟨bk id,k,none⟩=some u/\Aa Gm w (fun _=>False) (m.get (id+3) k) u)
  (hold:∀ id,e.get 2 id≠.any->G.bk id<base) (htk:∀ k b,G.tk k=some b->b<base) (hH:∀ b,G.H b->b<base):
  ∃ G',G'.vis=G.vis/\(∀ F,inL F rho=true->G'.bk (rn rho F)=bk F)/\Rel Y X nt ds (Be rho m++e) a w G'/\∀ x v,VOK G w X.fz Y e x v->VOK G' w X.fz Y (Be rho m++e) x v:=by
 classical
 obtain ⟨G',hG⟩:∃ G',({ G with bk:=fun id=>if h:∃ F,inL F rho=true/\rn rho F=id then bk h.choose else G.bk id }:Gh)=G':=⟨_,rfl⟩
 have hvis:G'.vis=G.vis:=by subst hG;rfl
 have htk':G'.tk=G.tk:=by subst hG;rfl
 have hH':G'.H=G.H:=by subst hG;rfl
 have hbn:∀ F,inL F rho=true->G'.bk (rn rho F)=bk F:=fun F hF=>by
  subst hG
  have hex:∃ F',inL F' rho=true/\rn rho F'=rn rho F:=⟨F,hF,rfl⟩
  show (if h:∃ F',inL F' rho=true/\rn rho F'=rn rho F then bk h.choose else G.bk (rn rho F))=bk F
  rw [dif_pos hex]
  rw [Nw hr hex.choose_spec.1 hF hex.choose_spec.2]
 have hbo:∀ id,(∀ F,inL F rho=true->rn rho F≠id)->G'.bk id=G.bk id:=fun id h=>by
  subst hG
  show (if h:∃ F',inL F' rho=true/\rn rho F'=id then bk h.choose else G.bk id)=G.bk id
  rw [dif_neg]
  rintro ⟨F,h1,h2⟩
  exact h F h1 h2
 have hnt:∀ id,e.get 2 id≠.any->∀ F,inL F rho=true->rn rho F≠id:=fun id hid F hF hh=>hid (by rw [<-hh];exact (hfr F hF).1)
 have hmin:∀ {F:Nat},m.get 2 F≠.any->inL F rho=true/\Cq (m.get 2 F)=true:=fun {F} h=>by
  rcases tameE_mem ht ((get_mem (rfl:m.get 2 F=m.get 2 F)).resolve_left h) with ⟨h3,_⟩|⟨_,h3,h4⟩|⟨i,h3,_⟩
  ·omega
  ·exact ⟨h3,h4⟩
  ·omega
 have hminc:∀ {F k:Nat},m.get (F+3) k≠.any->inL F rho=true/\Bc rho (m.get (F+3) k)=true/\(m.get (F+3) k).one=true/\∀ id,id∈Ai (m.get (F+3) k)->m.get 2 id≠.any:=fun {F k} h=>by
  have hm:=(get_mem (rfl:m.get (F+3) k=m.get (F+3) k)).resolve_left h
  rcases tameE_mem ht hm with ⟨h3,_⟩|⟨h3,_⟩|⟨i,h3,h4,h5,h6⟩
  ·omega
  ·omega
  ·have hi:i=F:=by omega
   subst hi
   exact ⟨h4,h5,h6,fun id hid=>Mi hids hm id (by simp [Jm,hid])⟩
 have hobjE:∀ F,m.get 2 F≠.any->Env.get (Be rho m++e) 2 (rn rho F)=m.get 2 F:=fun F h=>by
  have:=Nx (e:=e) hr ht (t:=2) (k:=F) (fun _=>(hmin h).1) (fun i hi=>by omega) h
  rw [show Env.get (Be rho m++e) 2 (rn rho F)=Pu rho 2 (m.get 2 F) from this]
  exact Xj (hmin h).2
 have hobjO:∀ id,(∀ F,m.get 2 F≠.any->rn rho F≠id)->Env.get (Be rho m++e) 2 id=e.get 2 id:=fun id h=>Jt fun t' k' x hx hh=>by
  rcases tameE_mem ht hx with ⟨rfl,_⟩|⟨rfl,h1,h2⟩|⟨i,rfl,_⟩
  ·simp [Cc] at hh
  ·simp only [Cc,Prod.mk.injEq,true_and] at hh
   refine h k' (Ju hx fun y hy=>?_) hh
   rcases tameE_mem ht hy with ⟨h3,_⟩|⟨_,_,h3⟩|⟨i,h3,_⟩
   ·omega
   ·exact Xl h3
   ·omega
  ·simp only [Cc,Prod.mk.injEq] at hh;omega
 have hcellE:∀ F k,m.get (F+3) k≠.any->Env.get (Be rho m++e) (rn rho F+3) k=Bb rho (m.get (F+3) k):=fun F k h=>
  Nx (e:=e) hr ht (t:=F+3) (k:=k) (fun h=>by omega) (fun i hi=>by rw [<-show F=i by omega];exact (hminc h).1) h
 have hcellO:∀ id k,(∀ F,inL F rho=true->m.get (F+3) k≠.any->rn rho F≠id)->Env.get (Be rho m++e) (id+3) k=e.get (id+3) k:=fun id k h=>Jt fun t' k' x hx hh=>by
  rcases tameE_mem ht hx with ⟨rfl,_⟩|⟨rfl,h1,h2⟩|⟨i,rfl,h1,_⟩
  ·simp only [Cc,Prod.mk.injEq] at hh;omega
  ·simp only [Cc,Prod.mk.injEq] at hh;omega
  ·simp only [Cc,Prod.mk.injEq] at hh
   obtain ⟨h3,rfl⟩:=hh
   refine h i h1 (Ju hx fun y hy=>?_) (by omega)
   rcases tameE_mem ht hy with ⟨h4,_⟩|⟨h4,_⟩|⟨i',h4,_,_,h5⟩
   ·omega
   ·omega
   ·exact Xm h5
 have hslot:∀ t,Env.get (Be rho m++e) 0 t=e.get 0 t:=fun t=>Jt fun t' k' x hx hh=>by
  have:=Agg h0 hx
  rcases tameE_mem ht hx with ⟨rfl,_⟩|⟨rfl,_⟩|⟨i,rfl,_⟩
  ·exact this rfl
  ·simp only [Cc,Prod.mk.injEq] at hh;omega
  ·simp only [Cc,Prod.mk.injEq] at hh;omega
 have htok:∀ k,Env.get (Be rho m++e) 1 k=e.get 1 k:=fun k=>Jt fun t' k' x hx hh=>by
  rcases tameE_mem ht hx with ⟨rfl,_⟩|⟨rfl,_⟩|⟨i,rfl,_⟩<;>simp only [Cc,Prod.mk.injEq] at hh<;>omega
 have hkeepO:∀ id,e.get 2 id≠.any->Env.get (Be rho m++e) 2 id=e.get 2 id:=fun id hid=>hobjO id fun F hF hh=>hnt id hid F (hmin hF).1 hh
 -- every object there is either new or was there
 have hcase:∀ id,Env.get (Be rho m++e) 2 id≠.any->(∃ F,m.get 2 F≠.any/\rn rho F=id)∨e.get 2 id≠.any:=fun id hid=>by
  by_cases h:∃ F,m.get 2 F≠.any/\rn rho F=id
  ·exact .inl h
  ·rw [hobjO id fun F h1 h2=>h ⟨F,h1,h2⟩] at hid
   exact .inr hid
 obtain ⟨R',lift⟩:=R.move (w':=w) (G':=G') (e':=Be rho m++e) ⟨fun b=>by rw [hvis];exact Nat.le_refl _,.refl _ _,fun _ _=>rfl⟩ (.refl _) hH' (by subst hG;rfl) (fun _ _=>rfl) (fun _ _=>rfl) hslot
  (fun id h=>⟨hbo id (hnt id h),by rw [hkeepO id h];exact h⟩) (fun k h=>by rw [htok k];exact ⟨h,fun _ h=>h⟩) (fun k c _ hc _=>⟨by rw [htk'];exact hc,rfl,by rw [hvis]⟩)
  (fun lift id hid=>by
   by_cases h:∃ F,m.get 2 F≠.any/\rn rho F=id
   ·obtain ⟨F,hF,rfl⟩:=h
    obtain ⟨hin,hisob⟩:=hmin hF
    obtain ⟨b1,b2,b3⟩:=hob F hF
    obtain ⟨f1,f2⟩:=hfr F hin
    have hbF:=hbn F hin
    refine .inr ⟨fun hh=>?_,by rw [hbF];exact b2,⟨fun _=>by rw [hbF];omega,fun hf'=>absurd f2 (Nat.not_lt.2 hf')⟩,fun id' hid' hh=>?_,fun k hh=>?_,?_,fun hf'=>absurd f2 (Nat.not_lt.2 hf'),fun k hk=>?_⟩
    ·rw [hbF] at hh;have:=hH _ hh;omega
    ·rcases hcase id' hid' with ⟨F',hF',rfl⟩|h'
     ·rw [hbn F' (hmin hF').1,hbF] at hh
      rw [hinj F' F hF' hF hh]
     ·rw [hbF,hbo id' (hnt id' h')] at hh
      have:=hold id' h'
      omega
    ·rw [htk',hbF] at hh
     have:=htk _ _ hh
     omega
    ·rw [hobjE F hF,hbF]
     generalize m.get 2 F=ob at b3 hisob
     unfold Bv at b3 ⊢
     rw [hGv,<-hvis] at b3
     split at b3<;>first|exact b3|exact b3.elim|cases hisob
    ·by_cases hm:m.get (F+3) k≠.any
     ·obtain ⟨g1,u,g2,g3⟩:=hcl F k hm
      obtain ⟨c1,c2,c3,c4⟩:=hminc hm
      rw [hcellE F k hm]
      refine ⟨by rw [hobjE F hF];exact g1,by rw [Xi c2];exact c3,u,by rw [hbF];exact g2,⟨?_,(Px c2).2,?_,?_⟩⟩
      ·refine Xh (O':=fun _=>False) (G:=G') (G2:={ Gm with vis:=G'.vis,bk:=fun F=>G'.bk (rn rho F) }) rfl (fun F=>rfl) c2 ?_
       refine Aa.mono (O:=fun _=>False) (G:=Gm) ⟨fun b=>by dsimp only;rw [hvis,hGv];exact Nat.le_refl _,.refl _ _,fun _ hf=>hf.elim⟩ (Hz fun id hid=>?_) g3
       rw [hGb]
       exact hbn id ((Pw c2).1 id hid)
      ·refine Hz fun id' hid'=>?_
       obtain ⟨F',p1,p2,rfl⟩:=(Pw c2).2 id' hid'
       have:=c4 F' p2
       rw [hobjE F' this]
       exact this
      ·have:=(Px (G:=G) (w:=w) (Y:=Y) (e:=e) c2).1
       cases hx:Bb rho (m.get (F+3) k) with
       |may b x=>exact absurd hx (Xk c2 b x)
       |_=>rw [hx] at this;intro k' hk';rw [this] at hk';cases hk'
     ·have hm':m.get (F+3) k=.any:=Classical.not_not.1 hm
      rw [hcellO (rn rho F) k fun F' hF' hh he=>hh (by rw [Nw hr hF' hin he];exact hm')] at hk
      exact absurd (R.mem.cells _ k hk).1 (by rw [f1];exact fun h=>Bh h.symm)
   ·have hid2:e.get 2 id≠.any:=(hcase id hid).resolve_left h
    exact .inl ⟨hid2,hkeepO id hid2,rfl,by rw [hvis],fun k=>hcellO id k fun F hF _ hh=>hnt id hid2 F hF hh⟩)
  (fun id k hk=>by
   by_cases h:∃ F,inL F rho=true/\m.get (F+3) k≠.any/\rn rho F=id
   ·obtain ⟨F,h1,h2,rfl⟩:=h
    have hl:=(hcl F k h2).1
    have:m.get 2 F≠.any:=by rw [hl];exact Bh
    rw [hobjE F this];exact this
   ·rw [hcellO id k fun F h1 h2 h3=>h ⟨F,h1,h2,h3⟩] at hk
    have hl:e.get 2 id≠.any:=by rw [(R.mem.cells id k hk).1];exact Bh
    rw [hkeepO id hl];exact hl)
  (fun k c hc=>by
   rw [htk'] at hc
   obtain ⟨q1,q2,q3,q4,q5⟩:=R.tks k c hc
   exact ⟨q1,q2,q3,q4,q5,(R.tlive k c hc).mono (fun k hk=>by rw [htok k];exact hk) fun id hid=>⟨by rw [hkeepO id hid];exact hid,hbo id (hnt id hid)⟩⟩)
  (fun k k' c h h'=>by rw [htk'] at h h';exact R.tinj k k' c h h') (fun c hc=>by rw [hvis];exact R.fresh c hc) (fun c _=>by rw [hvis]) (fun c _=>by rw [hvis])
 exact ⟨G',hvis,hbn,R',lift⟩
theorem Aop (S:Set P Y Gl) (hX:∀ p H vi w,X.J p H vi w->Gl w) (R:Rel Y X nt ds e a w G) {o:Oper} {args:Array Operand} {us vs:Array Value}
  {g:FuncId} {fst caps ys xs:List T} (ho:CallAs P a o g us args vs) (hf:VOK G w X.fz Y e (.fn g fst caps) (.func (.func g) us vs)) (hys:VOKs G w X.fz Y e ys (args.toList.map a.eval)) {gv:Gv} {r r':List (Nat×Nat)}
  (hc:(Eu (fst++ys++caps)).run e.get r=some ((xs,gv),r')) (hps:∀ p∈gv.1,p) {res:Res} (hcomp:Computes P Gl g xs res) {bs:List Prop} {orc:Orc} {d:Done} {r1 r2:List (Nat×Nat)}
  (hd:(Vp rho bs (Computes P Gl g xs res) gv orc res).run e.get r1=some (d,r2)) {K:Act->World->Prop}
  (hK:∀ vc hyp val wr o',d=.go vc hyp val wr o'->∀ v w' G',(∀ p∈hyp,p)->Rel Y X nt ds (wr++e) a w' G'->VOK G' w' X.fz Y (wr++e) val v->K (a.put o.dst v) w'):o.wpIn (Fr rd) fu P a w K Q:=by
 obtain ⟨ps,W⟩:=gv
 obtain ⟨G',av,R',hvis,hW,hrun,hcall⟩:=Ag0 S hX R ho hf hys hc hps hcomp
 refine Xc ho.nd hrun hcall fun en w' ⟨hbel,hans⟩=>?_
 unfold Vp at hd
 split at hd
 case h_2=>exact (Ac hd).elim
 rename_i x m _
 obtain ⟨hb,hd⟩:=Ak hd
 obtain ⟨hb,hix⟩:=and_true hb
 obtain ⟨hb,hids⟩:=and_true hb
 obtain ⟨hb,htx⟩:=and_true hb
 obtain ⟨hb,h0⟩:=and_true hb
 obtain ⟨hr,ht⟩:=and_true hb
 obtain ⟨u,r3,h1,h2⟩:=Ag hd
 simp only [M.run,Option.some.injEq,Prod.mk.injEq] at h2
 obtain ⟨rfl,_⟩:=h2
 obtain ⟨v,vis',rfl,hv1,hv2,bk,n1,n2,n3,n4⟩:=hans
 refine ⟨fun v' hv'=>?_,fun ch hch=>(by cases hch),fun hh=>(by cases hh)⟩
 simp only [Ending.returned.injEq] at hv'
 subst hv'
 obtain ⟨R2,lift2⟩:=R'.after hbel hv1 hv2
 have hWe:∀ id,Env.get (W++e) 2 id≠.any->e.get 2 id≠.any:=fun id h hh=>by
  rcases get_frz (t:=2) (k:=id) hW with ⟨x,_,hm,_⟩|h'
  ·obtain ⟨_,_,hx⟩:=hW _ _ _ hm
   rcases hx with ⟨_,_,_,hx|⟨_,_,_,_,hx,_⟩,_⟩|⟨_,_,_,_,hx,_⟩<;>rw [hh] at hx<;>cases hx
  ·rw [h'] at h;exact h hh
 have hfr:=Age h1
 obtain ⟨G3,q1,q2,R3,lift3⟩:=R2.adoptN (rho:=rho) (m:=m) hr ht h0 hids (fun F hF=>⟨Classical.not_not.1 fun h=>hWe _ h (hfr F hF).1,(hfr F hF).2⟩) (base:=w.heap.size) R.base (bk:=bk) (Gm:={ Gh0 vis' with bk:=bk }) rfl rfl n1 n2 n3
  (fun id hid=>(R'.mem.box id hid).2.1) (fun k b hk=>(R'.tks k b hk).2.1) (fun b hb=>R'.hlt b hb)
 have happ:(Be rho m++W)++e=Be rho m++(W++e):=List.append_assoc _ _ _
 refine hK _ _ _ _ _ rfl _ w' G3 (fun _ h=>(by cases h)) (by rw [happ];exact R3) ?_
 rw [happ]
 refine ⟨?_,(Px htx).2,?_,?_⟩
 ·refine Xh (O':=fun _=>False) (G:=G3) (G2:={ Gh0 vis' with vis:=G3.vis,bk:=fun F=>G3.bk (rn rho F) }) rfl (fun F=>rfl) htx ?_
  refine Aa.mono (O:=fun _=>False) (G:={ Gh0 vis' with bk:=bk }) ⟨fun b=>by dsimp only;rw [q1];exact Nat.le_refl _,.refl _ _,fun _ hf=>hf.elim⟩ (Hz fun id hid=>?_) n4
  exact q2 id ((Pw htx).1 id hid)
 ·refine Hz fun id' hid'=>?_
  obtain ⟨F',p1,p2,rfl⟩:=(Pw htx).2 id' hid'
  have hu:m.get 2 F'≠.any:=Agf hix F' p2
  have hmm:=Nx (e:=W++e) hr ht (t:=2) (k:=F') (fun _=>p1) (fun i hi=>by omega) hu
  have hob:Cq (m.get 2 F')=true:=by
   rcases tameE_mem ht ((get_mem (rfl:m.get 2 F'=m.get 2 F')).resolve_left hu) with ⟨h3,_⟩|⟨_,_,h4⟩|⟨i,h3,_⟩
   ·omega
   ·exact h4
   ·omega
  rw [show Env.get (Be rho m++(W++e)) 2 (rn rho F')=Pu rho 2 (m.get 2 F') from hmm]
  show Bb rho (m.get 2 F')≠.any
  rw [Xj hob]
  exact hu
 ·have:=(Px (G:=G) (w:=w) (Y:=Y) (e:=e) htx).1
  cases hx:Bb rho x with
  |may b y=>exact absurd hx (Xk htx b y)
  |_=>rw [hx] at this;intro k' hk';rw [this] at hk';cases hk'
end
section
variable {P:Program} {Y:TypeId->Ty} {Gl:World->Prop} {X:Cx} {nt:Nat} {ds:List Deferred} {e:Env} {a:Act} {w:World} {G:Gh} {O:Nat->Prop} {Q:Exit->Act->World->Prop} {rd:Option Nat} {fu:Nat} {yd:Yd} {rho:List (Nat×Nat)}
theorem Aoq (U:Sur P Gl X yd) (R:Rel Y X nt ds e a w G) {o:Oper} {args:Array Operand} {us vs:Array Value}
  {g:FuncId} {fst caps ys xs:List T} (ho:CallAs P a o g us args vs) (hf:VOK G w X.fz Y e (.fn g fst caps) (.func (.func g) us vs)) (hys:VOKs G w X.fz Y e ys (args.toList.map a.eval)) {pre post:Env} {bs:List Prop} {orc:Orc} {res:Res} {d:Done} {r1 r2:List (Nat×Nat)}
  (hd:(Vr (Does P Y Gl) yd rho bs g (fst++ys++caps) xs pre post orc res).run e.get r1=some (d,r2)) {K:Act->World->Prop}
  (hK:∀ vc hyp val wr o',d=.go vc hyp val wr o'->(∀ p∈vc,p)->∀ v w' G',(∀ p∈hyp,p)->Rel Y X nt ds (wr++e) a w' G'->VOK G' w' X.fz Y (wr++e) val v->K (a.put o.dst v) w')
  (hP:∀ vc v wr o',d=.pan vc v wr o'->(∀ p∈vc,p)->∀ w' G',Rel Y X nt ds (wr++e) a w' G'->Q (.panic [{ v,recovered:=false }]) a w')
  (hvc:∀ p∈(match d with| .go vc _ _ _ _=>vc| .pan vc _ _ _=>vc),p):o.wpIn (Fr rd) fu P a w K Q:=by
 unfold Vr at hd
 replace hd:=Ak hd
 obtain ⟨hb,hd⟩:=hd
 obtain ⟨hb,hids2⟩:=and_true hb
 obtain ⟨hb,hids⟩:=and_true hb
 obtain ⟨hb,hsub⟩:=and_true hb
 obtain ⟨hb,htx⟩:=and_true hb
 obtain ⟨hb,ht2⟩:=and_true hb
 obtain ⟨hr,ht⟩:=and_true hb
 obtain ⟨ps,r3,h1,h2⟩:=Ag hd
 simp only [M.run] at h2
 replace h2:=Ak h2
 obtain ⟨hbig,h2⟩:=h2
 -- all that is asked
 have asked:(∀ p∈Cj (fst++ys++caps) (Du rho xs),p)/\(∀ p∈ps,p)/\Does P Y Gl yd g xs pre res post:=by
  have key:(∀ p∈bs++Cj (fst++ys++caps) (Du rho xs)++ps++[Does P Y Gl yd g xs pre res post],p)->(∀ p∈Cj (fst++ys++caps) (Du rho xs),p)/\(∀ p∈ps,p)/\Does P Y Gl yd g xs pre res post:=fun h=>
   ⟨fun p hp=>h p (List.mem_append_left _ (List.mem_append_left _ (List.mem_append_right _ hp))),fun p hp=>h p (List.mem_append_left _ (List.mem_append_right _ hp)),h _ (List.mem_append_right _ List.mem_cons_self)⟩
  split at h2
  ·simp only [M.run,Option.some.injEq,Prod.mk.injEq] at h2
   obtain ⟨rfl,_⟩:=h2
   exact key hvc
  ·simp only [M.run,Option.some.injEq,Prod.mk.injEq] at h2
   obtain ⟨rfl,_⟩:=h2
   exact key hvc
  ·exact (Ac h2).elim
  ·exact (Ac h2).elim
  ·simp only [M.run,Option.some.injEq,Prod.mk.injEq] at h2
   obtain ⟨rfl,_⟩:=h2
   exact key hvc
 obtain ⟨hargs,hps,hdoes⟩:=asked
 have hle:=Ag3 h1 hps
 obtain ⟨hnam,hmem⟩:=Agc R hr ht hids hle
 have hnm:=Agd htx hargs
 have hfr:=hf.rel
 simp only [Aa] at hfr
 obtain ⟨us',vs',hv,h3,h4⟩:=hfr
 simp only [Value.func.injEq,true_and] at hv
 obtain ⟨rfl,rfl⟩:=hv
 obtain ⟨h5,h6⟩:=hys.rel fun x hx=>hnm x (List.mem_append_left _ (List.mem_append_right _ hx))
 have hraw:Ab G w X.fz (fst++ys++caps) (us++args.map a.eval++vs).toList:=by
  have:=(h3.app h5).app h4
  simpa using this
 have hxs:Ab (Ny rho G fun b=>b<w.heap.size/\∀ F,pre.get 2 F≠.any->G.bk (rn rho F)≠b) w (fun _=>False) xs (us++args.map a.eval++vs).toList:=Pv htx (Iy hargs hraw)
 have hN:∀ b,(b<w.heap.size/\∀ F,pre.get 2 F≠.any->G.bk (rn rho F)≠b)↔G.H b∨Sl G w rho pre b:=by
  intro b
  constructor
  ·rintro ⟨q1,q2⟩
   by_cases h:G.H b
   ·exact .inl h
   ·exact .inr ⟨q1,h,q2⟩
  ·rintro (h|⟨q1,q2,q3⟩)
   ·exact ⟨R.hlt b h,fun F hF hh=>(R.mem.box _ (hnam F hF).2.1).1 (by rw [hh];exact h)⟩
   ·exact ⟨q1,q3⟩
 have hbe:trN (pre.get 0 BIG)=trN (e.get 0 BIG):=by
  rcases big_eq ht hle hbig with ⟨q1,q2⟩|q1
  ·rw [q1,q2];rfl
  ·rw [q1]
 have hcall:=hdoes.2 (J2 X G w (Sl G w rho pre)) (Ny rho G fun b=>b<w.heap.size/\∀ F,pre.get 2 F≠.any->G.bk (rn rho F)≠b) w _ Acb (fun p H vi w' ⟨H',_,_,q,_⟩=>U.gl _ _ _ _ q) (Agb U) R.fresh (fun b hb=>hb.1)
  ⟨G.H,hN,fun b hb=>⟨hb.2.1,hb.1⟩,by rw [hbe];exact R.jj,fun _ _=>rfl,fun b hb=>⟨rfl,R.fzh b hb⟩,fun _ _=>Iff.rfl,R.hlt,.refl _⟩ hmem hxs
 have hexec:=ho.ex w hdoes.1
 refine Xc ho.nd hexec hcall fun en w' ⟨q1,q2,q3,q4,G2,g1,g2,g3,g4,g5,g6,g7,g8⟩=>?_
 obtain ⟨G',hG',R'⟩:=Aoo U R hr ht ht2 hids hsub hids2 hle hbig q1 q2 q4 (fun F=>by rw [g1];rfl) g2 g3 g6 g7
 split at h2
 ·rename_i x _
  simp only [M.run,Option.some.injEq,Prod.mk.injEq] at h2
  obtain ⟨rfl,_⟩:=h2
  obtain ⟨v,rfl,hret⟩:=g8
  refine ⟨fun v' hv'=>?_,fun ch hch=>(by cases hch),fun hh=>(by cases hh)⟩
  simp only [Ending.returned.injEq] at hv'
  subst hv'
  refine hK _ _ _ _ _ rfl hvc v w' G' (fun _ h=>(by cases h)) R' ?_
  rw [<-hG'] at hret
  exact Pt (x:=.d x) hret (fun _ _ _ hh=>by cases hh) (fun _ _ _ _ hh=>by cases hh)
 ·rename_i x _
  simp only [M.run,Option.some.injEq,Prod.mk.injEq] at h2
  obtain ⟨rfl,_⟩:=h2
  obtain ⟨v,rfl,hret⟩:=g8
  refine ⟨fun v' hv'=>?_,fun ch hch=>(by cases hch),fun hh=>(by cases hh)⟩
  simp only [Ending.returned.injEq] at hv'
  subst hv'
  refine hK _ _ _ _ _ rfl hvc v w' G' (fun _ h=>(by cases h)) R' ?_
  rw [<-hG'] at hret
  exact Pt (x:=.tup x) hret (fun _ _ _ hh=>by cases hh) (fun _ _ _ _ hh=>by cases hh)
 ·exact (Ac h2).elim
 ·exact (Ac h2).elim
 ·rename_i v _
  simp only [M.run,Option.some.injEq,Prod.mk.injEq] at h2
  obtain ⟨rfl,_⟩:=h2
  simp only at g8
  subst g8
  refine ⟨fun v hv=>(by cases hv),fun ch hch=>?_,fun hh=>(by cases hh)⟩
  simp only [Ending.panicked.injEq] at hch
  subst hch
  exact hP _ _ _ _ rfl hvc w' G' R'
theorem Aor (hY:YOK P Y) {name:String} {x f:T} {u:Value} (h:Aak Y name x=some f) (hx:VOK G w O Y e x u):
  ∃ t g y v,f=.fn g [y] []/\u=.iface t v/\(∀ w:World,(method (P.types.size+Made.depth) t v name).run P w=.ok (g,v) w)/\Aa G w O y v/\Ai y=[]:=by
 have hmeth:∀ {t g},(bif (Y t).known then Jj (Y t).meth name else none)=some g->∀ (v:Value) (w:World),(method (P.types.size+Made.depth) t v name).run P w=.ok (g,v) w:=by
  intro t g hg
  cases hk:(Y t).known with
  |true=>
   rw [hk] at hg
   obtain ⟨_,_,_,_,_,_,_,_,_,_,_,_,_,_,hm⟩:=hY t hk
   exact hm name g hg
  |false=>rw [hk] at hg;cases hg
 unfold Aak at h
 split at h
 ·rename_i t ag cs
  split at h
  ·rename_i g y hg hy
   obtain rfl:=(Option.some.inj h).symm
   have hr0:Rep G.vis w (.i t ag cs) u:=hx.reld
   cases hr0 with
   |i _ _ _ v hs hl hr=>
    have hyd:∃ d,y=.d d:=by
     unfold asD at hy
     split at hy<;>first|(simp only [Option.some.injEq] at hy;exact ⟨_,hy.symm⟩)|cases hy
    obtain ⟨d,rfl⟩:=hyd
    have h1:=(Abx (O:=O) (Y:=Y) (e:=e) hy hs ⟨hl,hr⟩).1
    exact ⟨t,g,_,v,rfl,rfl,hmeth hg v,by simp only [Aa];exact h1,rfl⟩
  ·cases h
 ·rename_i t v
  split at h
  ·rename_i g y hg hy
   obtain rfl:=(Option.some.inj h).symm
   have hp:=Bs hx
   obtain ⟨d,rfl,h1,_⟩:=Abw (G:=G) (w:=w) (O:=O) (Y:=Y) (e:=e) hy
   exact ⟨t,g,_,v,rfl,hp,hmeth hg v,by simp only [Aa];exact h1,rfl⟩
  ·cases h
 ·cases h
theorem Agh (S:Set P Y Gl) (U:Sur P Gl X yd) (R:Rel Y X nt ds e a w G) {o:Oper} {orc:Orc} {d:Done} {r r':List (Nat×Nat)} {g:FuncId} {fst caps:List T} {us vs:Array Value} {args:Array Operand} (ho:CallAs P a o g us args vs)
  (hf:VOK G w X.fz Y e (.fn g fst caps) (.func (.func g) us vs)) (h:(Oz (Computes P Gl) (Does P Y Gl) Y yd o.dst (.fn g fst caps) args.toList orc).run e.get r=some (d,r'))
  (hvc:∀ p∈(match d with| .go vc _ _ _ _=>vc| .pan vc _ _ _=>vc),p) {K:Act->World->Prop}
  (hK:∀ vc hyp val wr o',d=.go vc hyp val wr o'->∀ v w' G',(∀ p∈hyp,p)->Rel Y X nt ds (wr++e) a w' G'->VOK G' w' X.fz Y (wr++e) val v->K (a.put o.dst v) w')
  (hP:∀ vc v wr o',d=.pan vc v wr o'->∀ w' G',Rel Y X nt ds (wr++e) a w' G'->Q (.panic [{ v,recovered:=false }]) a w'):o.wpIn (Fr rd) fu P a w K Q:=by
 unfold Oz at h
 dsimp only at h
 obtain ⟨⟨ys,bs⟩,r2,h3,h4⟩:=Ag h
 split at h4
 ·rename_i x o'
  obtain ⟨⟨xs,gv⟩,r3,h5,h6⟩:=Ag h4
  have all:(∀ p∈bs,p)/\(∀ p∈gv.1,p)/\Computes P Gl g xs x:=by
   have key:(∀ p∈bs++gv.1++[Computes P Gl g xs x],p)->(∀ p∈bs,p)/\(∀ p∈gv.1,p)/\Computes P Gl g xs x:=fun h=>⟨fun p hp=>h p (List.mem_append_left _ (List.mem_append_left _ hp)),fun p hp=>h p (List.mem_append_left _ (List.mem_append_right _ hp)),h _ (List.mem_append_right _ List.mem_cons_self)⟩
   have h7:=h6
   unfold Vn at h7
   split at h7
   ·obtain ⟨out,_,_,h8⟩:=Ag h7
    simp only [M.run,Option.some.injEq,Prod.mk.injEq] at h8
    obtain ⟨rfl,_⟩:=h8
    exact key hvc
   ·obtain ⟨_,h7⟩:=Ak h7
    obtain ⟨out,_,_,h8⟩:=Ag h7
    simp only [M.run,Option.some.injEq,Prod.mk.injEq] at h8
    obtain ⟨rfl,_⟩:=h8
    exact key hvc
   ·simp only [M.run,Option.some.injEq,Prod.mk.injEq] at h7
    obtain ⟨rfl,_⟩:=h7
    exact key hvc
   ·simp only [M.run,Option.some.injEq,Prod.mk.injEq] at h7
    obtain ⟨rfl,_⟩:=h7
    exact key hvc
   ·simp only [M.run,Option.some.injEq,Prod.mk.injEq] at h7
    obtain ⟨rfl,_⟩:=h7
    exact key hvc
   ·simp only [M.run,Option.some.injEq,Prod.mk.injEq] at h7
    obtain ⟨rfl,_⟩:=h7
    exact key hvc
   ·exact (Ac h7).elim
   ·exact (Ac h7).elim
   ·simp only [M.run,Option.some.injEq,Prod.mk.injEq] at h7
    obtain ⟨rfl,_⟩:=h7
    exact key hvc
  exact Aok S U.gl R ho hf (Hl R h3 all.1) h5 all.2.1 all.2.2 h6 hK hP
 ·rename_i rho xs pre x post o'
  have hbs:∀ p∈bs,p:=by
   have h7:=h4
   unfold Vr at h7
   replace h7:=(Ak h7).2
   obtain ⟨ps,_,_,h8⟩:=Ag h7
   simp only [M.run] at h8
   replace h8:=(Ak h8).2
   split at h8
   ·simp only [M.run,Option.some.injEq,Prod.mk.injEq] at h8
    obtain ⟨rfl,_⟩:=h8
    exact fun p hp=>hvc p (List.mem_append_left _ (List.mem_append_left _ (List.mem_append_left _ hp)))
   ·simp only [M.run,Option.some.injEq,Prod.mk.injEq] at h8
    obtain ⟨rfl,_⟩:=h8
    exact fun p hp=>hvc p (List.mem_append_left _ (List.mem_append_left _ (List.mem_append_left _ hp)))
   ·exact (Ac h8).elim
   ·exact (Ac h8).elim
   ·simp only [M.run,Option.some.injEq,Prod.mk.injEq] at h8
    obtain ⟨rfl,_⟩:=h8
    exact fun p hp=>hvc p (List.mem_append_left _ (List.mem_append_left _ (List.mem_append_left _ hp)))
  exact Aoq U R ho hf (Hl R h3 hbs) h4 (fun vc hyp val wr o' hd _=>hK vc hyp val wr o' hd) (fun vc v wr o' hd _=>hP vc v wr o' hd) hvc
 ·rename_i rho x o'
  obtain ⟨⟨xs,gv⟩,r3,h5,h6⟩:=Ag h4
  have all:(∀ p∈bs,p)/\(∀ p∈gv.1,p)/\Computes P Gl g xs x:=by
   have key:(∀ p∈bs++gv.1++[Computes P Gl g xs x],p)->(∀ p∈bs,p)/\(∀ p∈gv.1,p)/\Computes P Gl g xs x:=fun h=>⟨fun p hp=>h p (List.mem_append_left _ (List.mem_append_left _ hp)),fun p hp=>h p (List.mem_append_left _ (List.mem_append_right _ hp)),h _ (List.mem_append_right _ List.mem_cons_self)⟩
   have h7:=h6
   unfold Vp at h7
   split at h7
   ·obtain ⟨_,h7⟩:=Ak h7
    obtain ⟨_,_,_,h8⟩:=Ag h7
    simp only [M.run,Option.some.injEq,Prod.mk.injEq] at h8
    obtain ⟨rfl,_⟩:=h8
    exact key hvc
   ·exact (Ac h7).elim
  exact Aop S U.gl R ho hf (Hl R h3 all.1) h5 all.2.1 all.2.2 h6 hK
 ·exact (Ac h4).elim
theorem Nz (S:Set P Y Gl) (U:Sur P Gl X yd) (R:Rel Y X nt ds e a w G) {o:Oper} {orc:Orc} {d:Done} {r r':List (Nat×Nat)} (h:(eff (Computes P Gl) (Does P Y Gl) Y yd o orc).run e.get r=some (d,r'))
  (hvc:∀ p∈(match d with| .go vc _ _ _ _=>vc| .pan vc _ _ _=>vc),p) {K:Act->World->Prop}
  (hK:∀ vc hyp val wr o',d=.go vc hyp val wr o'->∀ v w' G',(∀ p∈hyp,p)->Rel Y X nt ds (wr++e) a w' G'->VOK G' w' X.fz Y (wr++e) val v->K (a.put o.dst v) w')
  (hP:∀ vc v wr o',d=.pan vc v wr o'->∀ w' G',Rel Y X nt ds (wr++e) a w' G'->Q (.panic [{ v,recovered:=false }]) a w'):o.wpIn (Fr rd) fu P a w K Q:=by
 unfold eff at h
 split at h
 ·rename_i fo args tys hop
  obtain ⟨fv,r1,h1,h2⟩:=Ag h
  have hfv:=Hk R h1
  unfold Oz at h2
  split at h2
  ·rename_i g fst caps
   have hrel:=hfv.rel
   simp only [Aa] at hrel
   obtain ⟨us,vs,hv,_⟩:=hrel
   rw [hv] at hfv
   exact Agh S U R (.value hop hv) hfv (by unfold Oz;exact h2) hvc hK hP
  ·rename_i l
   obtain ⟨⟨ys,bs⟩,r2,h3,h4⟩:=Ag h2
   obtain ⟨⟨xs,ps,W⟩,r3,h5,h6⟩:=Ag h4
   simp only [M.run] at h6
   split at h6
   ·rename_i n hn
    replace h6:=Ak h6
    obtain ⟨hb,h6⟩:=h6
    obtain ⟨hb1,hb2⟩:=and_true hb
    simp only [M.run,Option.some.injEq,Prod.mk.injEq] at h6
    obtain ⟨rfl,_⟩:=h6
    have hvc:∀ p∈bs++ps++[l=yd.l,n<yd.m,n<=yd.s]++Cj xs (yd.ys n),p:=hvc
    exact Aol U R hop hfv (Hl R h3 fun p hp=>hvc p (List.mem_append_left _ (List.mem_append_left _ (List.mem_append_left _ hp)))) h5 (fun p hp=>hvc p (List.mem_append_left _ (List.mem_append_left _ (List.mem_append_right _ hp)))) hb1 hn (hvc _ (List.mem_append_left _ (List.mem_append_right _ (.head _)))) (hvc _ (List.mem_append_left _ (List.mem_append_right _ (.tail _ (.head _))))) (hvc _ (List.mem_append_left _ (List.mem_append_right _ (.tail _ (.tail _ (.head _)))))) (fun p hp=>hvc p (List.mem_append_right _ hp)) hb2
     (fun v w' G' R' hv=>hK _ _ _ _ _ rfl v w' G' (fun _ h=>(by cases h)) R' hv)
   ·exact (Ac h6).elim
  ·exact (Ac h2).elim
 ·rename_i fo name args tys hop
  obtain ⟨fv,r1,h1,h2⟩:=Ag h
  have hfv:=Abn R h1
  split at h2
  ·rename_i f hrc
   obtain ⟨t,g,y,v,rfl,hv,hm,hy⟩:=Aor S.y hrc hfv
   refine Agh S U R (.invoke hop hv hm) ?_ h2 hvc hK hP
   refine .plain ?_ (by simp [Ai,Bd,hy.2]) rfl trivial
   simp only [Aa,Ab]
   exact ⟨#[v],#[],rfl,⟨v,[],rfl,hy.1,rfl⟩,rfl⟩
  ·exact (Ac h2).elim
 ·rename_i p hop
  obtain ⟨x,r1,h1,h2⟩:=Ag h
  have hx:=Abn R h1
  split at h2
  ·rename_i t v
   simp only [M.run,Option.some.injEq,Prod.mk.injEq] at h2
   obtain ⟨rfl,_⟩:=h2
   have hv:=Bs hx
   refine ⟨fun _ _=>trivial,?_⟩
   rw [Oper.semAt_eq _ _ _ (fun c hc=>by rw [hop] at hc;cases hc)]
   have:(execOp a.eval o).run P w=.halt (.panic (.iface t v)) w:=by simp [execOp,hop,hv,Instr.panic,goPanic]
   rw [this]
   exact hP _ _ _ _ rfl w G R
  ·exact (Ac h2).elim
 ·rename_i hno1 hno2
  have plain:∀ {orc:Orc},((sem Y o.dst o.op).bind fun p=>M.ret (Done.go (p.1++p.2.vc) p.2.hyp p.2.val p.2.wr orc)).run e.get r=some (d,r')->o.wpIn (Fr rd) fu P a w K Q:=by
   intro orc h
   obtain ⟨⟨bs,out⟩,r1,h1,h2⟩:=Ag h
   simp only [M.run,Option.some.injEq,Prod.mk.injEq] at h2
   obtain ⟨rfl,_⟩:=h2
   have hvc:∀ p∈bs++out.vc,p:=hvc
   have hnd:∀ c,o.op≠.defer c:=by
    intro c hc
    rw [hc] at h1
    unfold sem at h1
    simp only [] at h1
    obtain ⟨p,_,_,h3⟩:=Ag h1
    obtain ⟨q,_,h4,_⟩:=Ag h3
    unfold Ve at h4
    exact (Ac h4).elim
   exact (Anz S.y R h1 (fun p hp=>hvc p (List.mem_append_left _ hp)) (fun p hp=>hvc p (List.mem_append_right _ hp))).wp hnd fun v w' G' h1 h2 h3=>hK _ _ _ _ _ rfl v w' G' h1 h2 h3
  split at h
  ·rename_i t o'
   cases hd:Kq (t % FAR) o.dst with
   |true=>
    rw [hd] at h
    simp only [cond_true] at h
    obtain ⟨⟨bs,out⟩,r1,h1,h2⟩:=Ag h
    simp only [M.run,Option.some.injEq,Prod.mk.injEq] at h2
    obtain ⟨rfl,_⟩:=h2
    have hvc:∀ p∈bs++out.vc,p:=hvc
    obtain ⟨k1,k2⟩:=Aoa S.y R h1 (fun p hp=>hvc p (List.mem_append_left _ hp)) (fun p hp=>hvc p (List.mem_append_right _ hp))
    exact k1.wp k2 fun v w' G' h1 h2 h3=>hK _ _ _ _ _ rfl v w' G' h1 h2 h3
   |false=>
    rw [hd] at h
    simp only [cond_false] at h
    exact plain h
  ·exact plain h
end
end Go.Vc
