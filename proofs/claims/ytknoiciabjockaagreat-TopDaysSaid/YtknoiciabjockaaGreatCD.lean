/- A part of the proofs over the layers: the program and the specification; no condition. -/
import Derived.Test.YtknoiciabjockaaGreatCC
import Derived.Deep.Slices
import Derived.Deep.Modes
import Derived.OpenShut
import Derived.RowKit
import Derived.Test.YtknoiciabjockaaGreatProg
import Derived.Test.YtknoiciabjockaaGreatRows
import Derived.ProofKit
import Derived.Deep.DeepHandedRow
import Derived.Lib.LaidTab
import Derived.JoinedOf
import Derived.SevenTiedAt
import Derived.Lib.SlicesCompact
import Derived.Shelf.Small.Bits
import Derived.Shelf.Small.Wraps
import Derived.Shelf.Strconv.Itoa0
import Derived.Shelf.Sort.Plain
import Derived.Ground.Names2Prog
import Derived.Shelf.Slices.Clone
import Derived.Shelf.Slices.CompactI
import Derived.Shelf.Slices.Cells
import Derived.Shelf.Slices.In.SortNone
set_option linter.all false
set_option linter.unusedSimpArgs false
set_option linter.unusedVariables false
namespace Go.Vc
open Go Go.ChangeShapes Go.WideShapes Go.Deep Go.RowKit
abbrev all:Nat->Bool:=fun _=>true
def Ob (P:Program) (t:TypeId) (g:List C->Prop):Prop:=
 ∀ (H:Type) (enc:TypeId×Value->H) (w:World) (base:Nat) (sp:Nat->Bool) (hd:Bool) (fuel:Nat) (cs:List Value) (x:DataW H×List MemPlace),
  DataW.trod enc P w base sp hd fuel t cs=some x->∃ xs,g xs/\∀ vis w',Av vis w' xs cs
theorem Ahk {n:Int} (h:(Lit.int .i64 n).wf=true):inRange IntKind.i64 n:=by
 simp only [Lit.wf,Bool.and_eq_true,decide_eq_true_eq] at h
 exact h
theorem Aq1 (vis:Nat->Nat) (w:World) (n:Int):Av vis w [Ci n] [.int .i64 n]:=
 ⟨rfl,fun j c v hc hv=>by
  match j,hc,hv with
  |0,hc,hv=>
   obtain rfl:=Option.some.inj hc
   obtain rfl:=Option.some.inj hv
   exact .v _ rfl
  |j+1,hc,_=>cases hc⟩
theorem Av.app {vis:Nat->Nat} {w:World} {a b:List C} {u v:List Value} (h1:Av vis w a u) (h2:Av vis w b v):Av vis w (a++b) (u++v):=by
 refine ⟨by rw [List.length_append,List.length_append,h1.1,h2.1],fun j c x hc hx=>?_⟩
 rcases Nat.lt_or_ge j a.length with hj|hj
 ·rw [List.getElem?_append_left hj] at hc
  rw [List.getElem?_append_left (by rw [<-h1.1];exact hj)] at hx
  exact h1.2 j c x hc hx
 ·rw [List.getElem?_append_right hj] at hc
  rw [List.getElem?_append_right (by rw [<-h1.1];exact hj),<-h1.1] at hx
  exact h2.2 _ c x hc hx
theorem Av.nil (vis:Nat->Nat) (w:World):Av vis w [] []:=⟨rfl,fun j c v hc _=>by cases hc⟩
theorem Ob.int {P:Program} {t:TypeId} (ht:P.underlying t=some (.int .i64)):Ob P t fun xs=>∃ n,inRange IntKind.i64 n/\xs=[Ci n]:=by
 intro H enc w base sp hd fuel cs x h
 obtain ⟨n,rfl,_,hw⟩:=DataW.trod_int ht h
 exact ⟨_,⟨n,Ahk hw,rfl⟩,fun vis w'=>Aq1 vis w' n⟩
def Ja (P:Program):List Field->Nat->(List C->Prop)->Prop
 | [],_,g=>∀ xs,xs=[]->g xs
 |f::fs,o,g=>f.offset=o/\∃ g1 g2,Ob P f.type g1/\Ja P fs (o+P.cellsOf f.type) g2/\∀ a b,g1 a->g2 b->g (a++b)
theorem Ja.rep {P:Program} {H:Type} {enc:TypeId×Value->H} {w:World} {base:Nat} {sp:Nat->Bool} {hd:Bool} {fuel:Nat} {cs:List Value}:
  ∀ (fs:List Field) (o:Nat) (g:List C->Prop),Ja P fs o g->(∀ f∈fs,∃ x,DataW.trod enc P w base sp hd fuel f.type ((cs.drop f.offset).take (P.cellsOf f.type))=some x)->
  cs.length=o+(fs.map fun f=>P.cellsOf f.type).sum->∃ xs,g xs/\∀ vis w',Av vis w' xs (cs.drop o)
 | [],o,g,hg,_,hl=>⟨[],hg [] rfl,fun vis w'=>by
   simp at hl
   rw [List.drop_eq_nil_of_le (by omega)]
   exact .nil vis w'⟩
 |f::fs,o,g,⟨ho,g1,g2,h1,h2,hg⟩,hx,hl=>by
  obtain ⟨x,hx0⟩:=hx f List.mem_cons_self
  obtain ⟨xs,hx1,hr1⟩:=h1 H enc w base sp hd fuel _ x hx0
  obtain ⟨ys,hy1,hr2⟩:=Ja.rep fs _ g2 h2 (fun f' hf=>hx f' (List.mem_cons_of_mem _ hf)) (by rw [hl,List.map_cons,List.sum_cons];omega)
  refine ⟨xs++ys,hg _ _ hx1 hy1,fun vis w'=>?_⟩
  have:=(hr1 vis w').app (hr2 vis w')
  rw [ho] at this
  have e:(cs.drop o).take (P.cellsOf f.type)++cs.drop (o+P.cellsOf f.type)=cs.drop o:=by
   rw [<-List.drop_drop,List.take_append_drop]
  rwa [e] at this
theorem Ob.struct {P:Program} {t:TypeId} {fs:Array Field} (ht:P.underlying t=some (.struct fs)) {g:List C->Prop} (hf:Ja P fs.toList 0 g) (hc:P.cellsOf t=(fs.toList.map fun f=>P.cellsOf f.type).sum):Ob P t g:=by
 intro H enc w base sp hd fuel cs x h
 obtain ⟨xs,n,_,_,hl,hlen,hx⟩:=DataW.trod_struct ht h
 have:=Ja.rep (enc:=enc) (w:=w) (base:=base) (sp:=sp) (hd:=hd) (fuel:=n) (cs:=cs) fs.toList 0 g hf (fun f hf=>by
  obtain ⟨i,hi⟩:=List.getElem?_of_mem hf
  have hi':fs[i]?=some f:=by simpa using hi
  have hlt:i<xs.length:=by
   have:=(Array.getElem?_eq_some_iff.1 hi').1
   omega
  exact ⟨xs[i],by rw [hx i f hi',List.getElem?_eq_getElem hlt]⟩) (by rw [hl,hc];omega)
 simpa using this
def Again {H:Type} (enc:TypeId×Value->H) (P:Program) (W:World) (t:TypeId) (cs:List Value) (x:DataW H×List MemPlace):Prop:=
 ∀ W' sp,Below W.heap.size W W'->(∀ p∈x.2,sp p.block=true)->∃ n,DataW.trod enc P W' 0 sp true n t cs=some x
def Gc (P:Program) (W:World) (t:TypeId) (v:Value) (G:C->Prop):Prop:=
 ∀ (H:Type) (enc:TypeId×Value->H) (fuel:Nat) (x:DataW H×List MemPlace),DataW.trod enc P W 0 all true fuel t [v]=some x->
  (∃ c,G c/\∃ K,∀ vis,(∀ b,b<W.heap.size->K<=vis b)->Rep vis W c v)/\Again enc P W t [v] x
structure Plain (P:Program) (e:TypeId):Prop where
 l:laidOutB P=true
 r:P.readableRec e=true
 row:e<P.types.size
 s:P.slicesRec e=false
 i:P.ifacesRec e=false
 v:P.veiledRec e=false
theorem Ahl {W W':World} {B:Nat} (hB:Below B W W') {p:MemPlace} (hp:p.block<B):W.sameAt W' p:=by
 cases p with
 |cell b off=>
  have:=hB.block b hp
  show W'.cell? _=W.cell? _
  unfold World.cell?
  rw [this]
 |map b=>exact hB.block b hp
theorem Aq2 {P:Program} {e:TypeId} (hp:Plain P e) {H:Type} {enc:TypeId×Value->H} {W:World} {sp:Nat->Bool} {hd:Bool} {n:Nat} {cs:List Value} {x:DataW H×List MemPlace}
  (h:DataW.trod enc P W 0 sp hd n e cs=some x) {W':World} {sp':Nat->Bool} {hd':Bool} (hB:Below W.heap.size W W'):DataW.trod enc P W' 0 sp' hd' n e cs=some x:=
 trod_any hp.l hp.r hp.row hp.s hp.i h (fun p hpp=>Ahl hB (DataW.trod_lt n _ _ _ h p hpp)) hp.v
theorem Aq3 {P:Program} {W:World} {b0:Nat} {t e:TypeId} {a:Addr} {len cap:Nat} (ht:P.underlying t=some (.slice e)) (h:Cell.okWide P W .any b0 t (.slice (some a) len cap)):a.spot=none/\a.block<W.heap.size:=by
 unfold Cell.okWide at h
 rw [ht] at h
 simp only at h
 unfold Cell.ok at h
 rw [ht] at h
 simp only at h
 obtain ⟨_,hs,row,cells,hsh,_⟩:=h.2.2
 refine ⟨hs,?_⟩
 unfold World.shape? at hsh
 rcases Nat.lt_or_ge a.block W.heap.size with hlt|hge
 ·exact hlt
 ·rw [Array.getElem?_eq_none hge] at hsh
  cases hsh
theorem Gc.slice {P:Program} {W:World} {b0:Nat} {t e:TypeId} {v:Value} {g:List C->Prop} (ht:P.underlying t=some (.slice e)) (he:Ob P e g) (hpos:0<P.cellsOf e) (hp:Plain P e)
  (hok:Cell.okWide P W .any b0 t v):Gc P W t v fun c=>∃ n f,n<=maxLen/\(∀ i,i<n->g (f i))/\c=.s .n n f:=by
 intro H enc fuel x h
 rcases open_slice ht h with ⟨hv,rfl⟩|⟨a,len,cap,m,n,D,Pl,hv,hb,hl,hcm,hmm,hx,hel⟩
 ·obtain rfl:v=.slice none 0 0:=by simpa using hv
  refine ⟨⟨_,⟨0,fun _=>[],Nat.zero_le _,fun i hi=>absurd hi (Nat.not_lt_zero _),rfl⟩,0,fun vis _=>.nil _ _⟩,fun W' sp _ _=>?_⟩
  have:=shut_slice_nil (enc:=enc) (P:=P) (w:=W') (base:=0) (spare:=sp) (held:=true) ht
  obtain ⟨n,hn⟩:=this
  exact ⟨n,by simpa [Value.cells] using hn⟩
 ·obtain rfl:v=.slice (some a) len cap:=by simpa using hv
  obtain ⟨hs,hblk⟩:=Aq3 ht hok
  have hm:m=cap:=by rw [hmm];rfl
  subst hm
  obtain ⟨b,off,spot⟩:=a
  simp only at hs hblk
  subst hs
  have hcells:∀ i,i<m->∃ q:List C×List Value,g q.1/\(∀ vis w',Av vis w' q.1 q.2)/\q.2.length=P.cellsOf e/\∀ j,j<P.cellsOf e->W.cell? ⟨b,off+i*P.cellsOf e+j,none⟩=q.2[j]?:=by
   intro i hi
   obtain ⟨cs',h1,h2⟩:=hel i hi
   obtain ⟨_,hlen,hcell⟩:=World.cells?_some h1
   obtain ⟨xs,hg,hr⟩:=he H enc W 0 all true n cs' _ h2
   refine ⟨(xs,cs'),hg,hr,hlen,fun j hj=>?_⟩
   have:=hcell j hj
   rw [add_add,add_plain] at this
   rw [Nat.add_assoc]
   exact this
  obtain ⟨q,hq⟩:=choose_lt (α:=List C×List Value) hcells
  refine ⟨⟨_,⟨len,fun i=>(q i).1,by omega,fun i hi=>(hq i (by omega)).1,rfl⟩,off+len*P.cellsOf e,fun vis hvis=>?_⟩,fun W' sp hB hsp=>?_⟩
  ·refine .s _ _ _ b off m (P.cellsOf e) (fun i j=>((q i).2[j]?).getD undef) hl hcm (fun i hi=>?_) (hvis b hblk) (fun i j c hi hc=>?_) fun i j c hi hc=>?_
   ·obtain ⟨_,h2,h3,_⟩:=hq i (by omega)
    have:=(h2 vis W).1
    omega
   ·obtain ⟨_,h2,h3,h4⟩:=hq i (by omega)
    have hlt:j<(q i).1.length:=(List.getElem?_eq_some_iff.1 hc).1
    have hj:j<(q i).2.length:=by rw [<-(h2 vis W).1];exact hlt
    rw [h4 j (by omega),List.getElem?_eq_getElem hj]
    rfl
   ·obtain ⟨_,h2,h3,h4⟩:=hq i (by omega)
    have hlt:j<(q i).1.length:=(List.getElem?_eq_some_iff.1 hc).1
    have hj:j<(q i).2.length:=by rw [<-(h2 vis W).1];exact hlt
    have:=(h2 vis W).2 j c _ hc (List.getElem?_eq_getElem hj)
    rw [List.getElem?_eq_getElem hj]
    exact this
  ·have hel':∀ i,i<m->∃ cs n,W'.cells? 0 ((⟨b,off,none⟩:Addr).add (i*P.cellsOf e)) (P.cellsOf e)=some cs/\DataW.trod enc P W' 0 sp true n e cs=some (D i,Pl i):=by
    intro i hi
    obtain ⟨cs',h1,h2⟩:=hel i hi
    refine ⟨cs',n,World.cells?_carry h1 fun p hp=>?_,Aq2 hp h2 hB⟩
    obtain ⟨j,_,rfl⟩:=MemPlace.mem_row.1 hp
    refine Ahl hB ?_
    show (Addr.add _ _).block<_
    unfold Addr.add
    split<;>exact hblk
   subst hx
   cases hsb:sp b with
   |true=>
    exact shut_slice_whole_cells ht hb hl hcm hsb D Pl hel'
   |false=>
    have h0:m=0:=by
     rcases Nat.eq_zero_or_pos m with h|h
     ·exact h
     ·have:(MemPlace.cell b off)∈(MemPlace.row (⟨b,off,none⟩:Addr) (m*P.cellsOf e)++(List.range m).flatMap Pl):=by
       refine List.mem_append_left _ (MemPlace.mem_row.2 ⟨0,Nat.mul_pos h hpos,rfl⟩)
      have:=hsp _ this
      rw [show (MemPlace.cell b off).block=b from rfl,hsb] at this
      cases this
    subst h0
    obtain rfl:len=0:=by omega
    obtain ⟨k,hk⟩:=shut_slice_cells (enc:=enc) (P:=P) (w:=W') (base:=0) (spare:=sp) (held:=true) (t:=t) (e:=e) (a:=⟨b,off,none⟩) (len:=0) (cap:=0) ht hb (Nat.le_refl _) hcm hsb D Pl (fun i hi=>absurd hi (Nat.not_lt_zero _))
    exact ⟨k,by simpa using hk⟩
def Jx (P:Program) (W:World) (t:TypeId) (v:Value) (G:T->Prop):Prop:=
 ∀ (H:Type) (enc:TypeId×Value->H) (d:DataW H) (ps:List MemPlace),DataW.Trod enc P W 0 all true t v d ps->
  (∃ x,G x/\∃ K,∀ vis,(∀ b,b<W.heap.size->K<=vis b)->Aa (Gh0 vis) W (Lo W.heap.size) x v)/\
  ∀ W' sp,Below W.heap.size W W'->(∀ p∈ps,sp p.block=true)->DataW.Trod enc P W' 0 sp true t v d ps
theorem Gc.arg {P:Program} {W:World} {t:TypeId} {v:Value} {G:C->Prop} (h:Gc P W t v G) (hv:v.cells.toList=[v]):Jx P W t v fun x=>∃ c,G c/\x=.d (.c c):=by
 intro H enc d ps ⟨fuel,hf⟩
 rw [hv] at hf
 obtain ⟨⟨c,hc,K,hK⟩,ha⟩:=h H enc fuel _ hf
 refine ⟨⟨_,⟨c,hc,rfl⟩,K,fun vis hvis=>?_⟩,fun W' sp hB hsp=>?_⟩
 ·exact hK vis hvis
 ·obtain ⟨n,hn⟩:=ha W' sp hB hsp
  exact ⟨n,by rw [hv];exact hn⟩
theorem Gc.int {P:Program} {W:World} {t:TypeId} {v:Value} (ht:P.underlying t=some (.int .i64)):Gc P W t v fun c=>∃ n,inRange IntKind.i64 n/\c=Ci n:=by
 intro H enc fuel x h
 obtain ⟨n,hv,rfl,hw⟩:=DataW.trod_int ht h
 obtain rfl:v=.int .i64 n:=by simpa using hv
 exact ⟨⟨_,⟨n,Ahk hw,rfl⟩,0,fun vis _=>.v _ rfl⟩,fun W' sp _ _=>⟨1,by simp [DataW.trod,ht,hw]⟩⟩
theorem Gc.bool {P:Program} {W:World} {t:TypeId} {v:Value} (ht:P.underlying t=some .bool):Gc P W t v fun c=>∃ b,c=Cb b:=by
 intro H enc fuel x h
 obtain ⟨b,hv,rfl⟩:=DataW.trod_bool ht h
 obtain rfl:v=.bool b:=by simpa using hv
 exact ⟨⟨_,⟨b,rfl⟩,0,fun vis _=>.v _ rfl⟩,fun W' sp _ _=>⟨1,by simp [DataW.trod,ht]⟩⟩
theorem Gc.string {P:Program} {W:World} {t:TypeId} {v:Value} (ht:P.underlying t=some .string):Gc P W t v fun c=>∃ s:ByteArray,s.size<=maxLen/\c=.v (.string s):=by
 intro H enc fuel x h
 obtain ⟨s,hv,rfl,hs⟩:=DataW.trod_string ht h
 obtain rfl:v=.string s:=by simpa using hv
 exact ⟨⟨_,⟨s,hs,rfl⟩,0,fun vis _=>.v _ rfl⟩,fun W' sp _ _=>⟨1,by simp [DataW.trod,ht,hs]⟩⟩
inductive ArgsT (P:Program) (W:World):List TypeId->List Value->(List T->Prop)->Prop
 |nil:ArgsT P W [] [] fun xs=>xs=[]
 |cons {t:TypeId} {ts:List TypeId} {v:Value} {vs:List Value} {G:T->Prop} {Gs:List T->Prop} (h:Jx P W t v G) (hs:ArgsT P W ts vs Gs):ArgsT P W (t::ts) (v::vs) fun xs=>∃ x ys,G x/\Gs ys/\xs=x::ys
theorem ArgsT.open {P:Program} {W:World} {ts:List TypeId} {vs:List Value} {Gs:List T->Prop} (h:ArgsT P W ts vs Gs):
  ∀ (H:Type) (enc:TypeId×Value->H) (ds:List (DataW H)) (ps:List MemPlace),DataW.TrodAll enc P W 0 all true ts vs ds ps->
  (∃ xs,Gs xs/\∃ K,∀ vis,(∀ b,b<W.heap.size->K<=vis b)->Ab (Gh0 vis) W (Lo W.heap.size) xs vs)/\
  ∀ W' sp,Below W.heap.size W W'->(∀ p∈ps,sp p.block=true)->DataW.TrodAll enc P W' 0 sp true ts vs ds ps:=by
 induction h with
 |nil=>
  intro H enc ds ps h
  obtain ⟨_,rfl,rfl⟩:=trodAll_nil h
  exact ⟨⟨[],rfl,0,fun vis _=>rfl⟩,fun W' sp _ _=>trodAll_mk0⟩
 | @cons t ts v vs G Gs h hs ih=>
  intro H enc ds ps ht
  obtain ⟨v',vs',d,ds',p,q,hvs,rfl,rfl,h1,h2⟩:=trodAll_cons ht
  obtain ⟨rfl,rfl⟩:=List.cons.inj hvs
  obtain ⟨⟨x,hx,K1,hK1⟩,A1⟩:=h H enc d p h1
  obtain ⟨⟨xs,hxs,K2,hK2⟩,A2⟩:=ih H enc ds' q h2
  refine ⟨⟨_,⟨x,xs,hx,hxs,rfl⟩,max K1 K2,fun vis hvis=>?_⟩,fun W' sp hB hsp=>?_⟩
  ·exact ⟨_,_,rfl,hK1 vis fun b hb=>by have:=hvis b hb;omega,hK2 vis fun b hb=>by have:=hvis b hb;omega⟩
  ·exact trodAll_cons_mk (A1 W' sp hB fun p hp=>hsp p (List.mem_append_left _ hp)) (A2 W' sp hB fun p hp=>hsp p (List.mem_append_right _ hp))
theorem Jx.struct2 {P:Program} {W:World} {t:TypeId} {f0 f1:Field} {v0 v1:Value} {G0 G1:C->Prop} (ht:P.underlying t=some (.struct #[f0,f1])) (hc:P.cellsOf t=2)
  (o0:f0.offset=0) (o1:f1.offset=1) (c0:P.cellsOf f0.type=1) (c1:P.cellsOf f1.type=1)
  (h0:Gc P W f0.type v0 G0) (h1:Gc P W f1.type v1 G1):
  Jx P W t (.agg #[v0,v1]) fun x=>∃ a b,G0 a/\G1 b/\x=.d (.agg [a,b]):=by
 intro H enc d ps ⟨fuel,hf⟩
 have hv:(Value.agg #[v0,v1]).cells.toList=[v0,v1]:=rfl
 rw [hv] at hf
 obtain ⟨xs,n,_,hx,hl,hlen,hg⟩:=DataW.trod_struct ht hf
 match xs,hlen with
 | [y0,y1],_=>
  have e0:=hg 0 f0 rfl
  have e1:=hg 1 f1 rfl
  simp [o0,o1,c0,c1] at e0 e1
  obtain ⟨⟨a,ha,K0,hK0⟩,A0⟩:=h0 H enc n _ e0
  obtain ⟨⟨b,hb,K1,hK1⟩,A1⟩:=h1 H enc n _ e1
  simp only [Prod.mk.injEq] at hx
  obtain ⟨rfl,rfl⟩:=hx
  refine ⟨⟨_,⟨a,b,ha,hb,rfl⟩,max K0 K1,fun vis hvis=>?_⟩,fun W' sp hB hsp=>?_⟩
  ·have k0:=hK0 vis fun b hb=>by have:=hvis b hb;omega
   have k1:=hK1 vis fun b hb=>by have:=hvis b hb;omega
   refine ⟨_,rfl,rfl,fun j c v hc hv=>?_⟩
   match j,hc,hv with
   |0,hc,hv=>obtain rfl:=Option.some.inj hc;obtain rfl:=Option.some.inj hv;exact k0
   |1,hc,hv=>obtain rfl:=Option.some.inj hc;obtain rfl:=Option.some.inj hv;exact k1
   |j+2,hc,_=>cases hc
  ·obtain ⟨n0,g0⟩:=A0 W' sp hB fun p hp=>hsp p (by simp [hp])
   obtain ⟨n1,g1⟩:=A1 W' sp hB fun p hp=>hsp p (by simp [hp])
   have m0:=DataW.trod_le (Nat.le_max_left n0 n1) g0
   have m1:=DataW.trod_le (Nat.le_max_right n0 n1) g1
   have:=trod_struct_mk (enc:=enc) (w:=W') (base:=0) (spare:=sp) (held:=true) (n:=max n0 n1) (cs:=[v0,v1]) (xs:=[y0,y1]) ht hl (by simp [o0,o1,c0,c1,m0,m1])
   exact ⟨_,by rw [hv];exact this⟩
end Go.Vc
namespace Go.Vc.Zn
open Go Go.Proofs Go.Vc
def tab:List (TypeId×Ty):=[
 (3,Ty.mk (K.int IntKind.i64) 1 8 [Value.int IntKind.i64 0] false []),
 (4,Ty.mk (K.bool) 1 1 [Value.bool false] false []),
 (22,Ty.mk (K.slice 3) 1 24 [Value.slice none 0 0] false []),
 (28,Ty.mk (K.struct [(0,3),(1,3)]) 2 16 [Value.int IntKind.i64 0,Value.int IntKind.i64 0] true []),
 (24,Ty.mk (K.slice 28) 1 24 [Value.slice none 0 0] false []),
 (26,Ty.mk (K.struct [(0,24),(1,3),(2,3)]) 3 40 [Value.slice none 0 0,Value.int IntKind.i64 0,Value.int IntKind.i64 0] false []),
 (30,Ty.mk (K.int IntKind.i64) 1 8 [Value.int IntKind.i64 0] false []),
 (43,Ty.mk (K.int IntKind.i64) 1 8 [Value.int IntKind.i64 0] false []),
 (54,Ty.mk (K.struct [(0,52),(1,22)]) 2 48 [Value.slice none 0 0,Value.slice none 0 0] false []),
 (52,Ty.mk (K.slice 22) 1 24 [Value.slice none 0 0] false []),
 (109,Ty.mk (K.struct [(0,26),(3,22)]) 4 64 [Value.slice none 0 0,Value.int IntKind.i64 0,Value.int IntKind.i64 0,Value.slice none 0 0] false []),
 (206,Ty.mk (K.struct [(0,106),(4,3)]) 5 72 [Value.int IntKind.i64 0,Value.int IntKind.i64 0,Value.slice none 0 0,Value.slice none 0 0,Value.int IntKind.i64 0] false []),
 (9,Ty.mk (K.str) 1 16 [Value.string (ByteArray.mk #[])] false []),
 (257,Ty.mk (K.struct [(0,3),(1,3)]) 2 16 [Value.int IntKind.i64 0,Value.int IntKind.i64 0] true []),
 (138,Ty.mk (K.map 257 4) 1 8 [Value.map none] false []),
 (139,Ty.mk (K.map 3 4) 1 8 [Value.map none] false []),
 (141,Ty.mk (K.struct [(0,54),(2,52),(3,138),(4,139)]) 5 88 [Value.slice none 0 0,Value.slice none 0 0,Value.slice none 0 0,Value.map none,Value.map none] false []),
 (252,Ty.mk (K.map 3 3) 1 8 [Value.map none] false []),
 (106,Ty.mk (K.struct [(0,3),(1,104),(2,22),(3,22)]) 4 64 [Value.int IntKind.i64 0,Value.int IntKind.i64 0,Value.slice none 0 0,Value.slice none 0 0] false []),
 (20,Ty.mk (K.iface) 1 16 [Value.nilIface] false []),
 (212,Ty.mk (K.struct [(0,3)]) 1 8 [Value.int IntKind.i64 0] true []),
 (214,Ty.mk (K.struct [(0,9)]) 1 16 [Value.string (ByteArray.mk #[])] false []),
 (1,Ty.mk (K.func) 1 8 [Value.nilFunc] false []),
 (2,Ty.mk (K.int IntKind.i64) 1 8 [Value.int IntKind.i64 0] false []),
 (5,Ty.mk (K.int IntKind.u8) 1 1 [Value.int IntKind.u8 0] false []),
 (6,Ty.mk (K.int IntKind.u8) 1 1 [Value.int IntKind.u8 0] false []),
 (7,Ty.mk (K.struct [(0,2),(1,3),(2,4),(3,6)]) 4 24 [Value.int IntKind.i64 0,Value.int IntKind.i64 0,Value.bool false,Value.int IntKind.u8 0] false []),
 (8,Ty.mk (K.struct [(0,2),(1,3),(2,4),(3,6)]) 4 24 [Value.int IntKind.i64 0,Value.int IntKind.i64 0,Value.bool false,Value.int IntKind.u8 0] false []),
 (10,Ty.mk (K.str) 1 16 [Value.string (ByteArray.mk #[])] false []),
 (23,Ty.mk (K.func) 1 8 [Value.nilFunc] false []),
 (59,Ty.mk (K.func) 1 8 [Value.nilFunc] false []),
 (62,Ty.mk (K.slice 75) 1 24 [Value.slice none 0 0] false []),
 (64,Ty.mk (K.struct [(0,62),(1,22),(2,22)]) 3 72 [Value.slice none 0 0,Value.slice none 0 0,Value.slice none 0 0] false []),
 (65,Ty.mk (K.slice 241) 1 24 [Value.slice none 0 0] false []),
 (67,Ty.mk (K.struct [(0,3),(1,65)]) 2 32 [Value.int IntKind.i64 0,Value.slice none 0 0] false []),
 (68,Ty.mk (K.slice 194) 1 24 [Value.slice none 0 0] false []),
 (70,Ty.mk (K.struct [(0,3),(1,3),(2,3),(3,3),(4,3),(5,3),(6,68)]) 7 72 [Value.int IntKind.i64 0,Value.int IntKind.i64 0,Value.int IntKind.i64 0,Value.int IntKind.i64 0,Value.int IntKind.i64 0,Value.int IntKind.i64 0,Value.slice none 0 0] false []),
 (75,Ty.mk (K.struct [(0,3),(1,28),(3,28),(5,28)]) 7 56 [Value.int IntKind.i64 0,Value.int IntKind.i64 0,Value.int IntKind.i64 0,Value.int IntKind.i64 0,Value.int IntKind.i64 0,Value.int IntKind.i64 0,Value.int IntKind.i64 0] true []),
 (76,Ty.mk (K.ptr) 1 8 [Value.pointer none] false []),
 (80,Ty.mk (K.int IntKind.i64) 1 8 [Value.int IntKind.i64 0] false []),
 (82,Ty.mk (K.struct [(0,80),(1,22)]) 2 32 [Value.int IntKind.i64 0,Value.slice none 0 0] false []),
 (86,Ty.mk (K.struct [(0,3),(1,3),(2,3)]) 3 24 [Value.int IntKind.i64 0,Value.int IntKind.i64 0,Value.int IntKind.i64 0] true []),
 (87,Ty.mk (K.slice 86) 1 24 [Value.slice none 0 0] false []),
 (100,Ty.mk (K.func) 1 8 [Value.nilFunc] false []),
 (101,Ty.mk (K.func) 1 8 [Value.nilFunc] false []),
 (102,Ty.mk (K.func) 1 8 [Value.nilFunc] false []),
 (103,Ty.mk (K.func) 1 8 [Value.nilFunc] false []),
 (104,Ty.mk (K.int IntKind.i64) 1 8 [Value.int IntKind.i64 0] false []),
 (105,Ty.mk (K.struct [(0,3),(1,104),(2,22),(3,22)]) 4 64 [Value.int IntKind.i64 0,Value.int IntKind.i64 0,Value.slice none 0 0,Value.slice none 0 0] false []),
 (107,Ty.mk (K.func) 1 8 [Value.nilFunc] false []),
 (108,Ty.mk (K.struct [(0,26),(3,22)]) 4 64 [Value.slice none 0 0,Value.int IntKind.i64 0,Value.int IntKind.i64 0,Value.slice none 0 0] false []),
 (110,Ty.mk (K.func) 1 8 [Value.nilFunc] false []),
 (111,Ty.mk (K.func) 1 8 [Value.nilFunc] false []),
 (112,Ty.mk (K.func) 1 8 [Value.nilFunc] false []),
 (114,Ty.mk (K.func) 1 8 [Value.nilFunc] false []),
 (115,Ty.mk (K.func) 1 8 [Value.nilFunc] false []),
 (116,Ty.mk (K.slice 118) 1 24 [Value.slice none 0 0] false []),
 (117,Ty.mk (K.struct [(0,3),(1,3),(2,3)]) 3 24 [Value.int IntKind.i64 0,Value.int IntKind.i64 0,Value.int IntKind.i64 0] true []),
 (118,Ty.mk (K.struct [(0,3),(1,3),(2,3)]) 3 24 [Value.int IntKind.i64 0,Value.int IntKind.i64 0,Value.int IntKind.i64 0] true []),
 (121,Ty.mk (K.func) 1 8 [Value.nilFunc] false []),
 (123,Ty.mk (K.func) 1 8 [Value.nilFunc] false []),
 (147,Ty.mk (K.func) 1 8 [Value.nilFunc] false []),
 (153,Ty.mk (K.slice 82) 1 24 [Value.slice none 0 0] false []),
 (159,Ty.mk (K.ptr) 1 8 [Value.pointer none] false []),
 (162,Ty.mk (K.map 3 402) 1 8 [Value.map none] false []),
 (163,Ty.mk (K.map 287 22) 1 8 [Value.map none] false []),
 (164,Ty.mk (K.map 3 22) 1 8 [Value.map none] false []),
 (165,Ty.mk (K.map 287 4) 1 8 [Value.map none] false []),
 (170,Ty.mk (K.iface) 1 16 [Value.nilIface] false []),
 (173,Ty.mk (K.struct [(0,64),(3,87)]) 4 96 [Value.slice none 0 0,Value.slice none 0 0,Value.slice none 0 0,Value.slice none 0 0] false []),
 (174,Ty.mk (K.int IntKind.i64) 1 8 [Value.int IntKind.i64 0] false []),
 (176,Ty.mk (K.struct [(0,3),(1,174)]) 2 16 [Value.int IntKind.i64 0,Value.int IntKind.i64 0] true []),
 (181,Ty.mk (K.struct [(0,3),(1,3)]) 2 16 [Value.int IntKind.i64 0,Value.int IntKind.i64 0] true []),
 (192,Ty.mk (K.struct [(0,3),(1,3),(2,3),(3,3)]) 4 32 [Value.int IntKind.i64 0,Value.int IntKind.i64 0,Value.int IntKind.i64 0,Value.int IntKind.i64 0] true []),
 (194,Ty.mk (K.struct [(0,3),(1,3),(2,28),(4,3),(5,3),(6,192)]) 10 80 [Value.int IntKind.i64 0,Value.int IntKind.i64 0,Value.int IntKind.i64 0,Value.int IntKind.i64 0,Value.int IntKind.i64 0,Value.int IntKind.i64 0,Value.int IntKind.i64 0,Value.int IntKind.i64 0,Value.int IntKind.i64 0,Value.int IntKind.i64 0] true []),
 (201,Ty.mk (K.struct [(0,70),(7,22)]) 8 96 [Value.int IntKind.i64 0,Value.int IntKind.i64 0,Value.int IntKind.i64 0,Value.int IntKind.i64 0,Value.int IntKind.i64 0,Value.int IntKind.i64 0,Value.slice none 0 0,Value.slice none 0 0] false []),
 (203,Ty.mk (K.func) 1 8 [Value.nilFunc] false []),
 (207,Ty.mk (K.func) 1 8 [Value.nilFunc] false []),
 (210,Ty.mk (K.func) 1 8 [Value.nilFunc] false []),
 (216,Ty.mk (K.struct [(0,3),(1,3),(2,4)]) 3 24 [Value.int IntKind.i64 0,Value.int IntKind.i64 0,Value.bool false] false []),
 (229,Ty.mk (K.func) 1 8 [Value.nilFunc] false []),
 (230,Ty.mk (K.func) 1 8 [Value.nilFunc] false []),
 (241,Ty.mk (K.struct [(0,3),(1,22)]) 2 32 [Value.int IntKind.i64 0,Value.slice none 0 0] false []),
 (271,Ty.mk (K.struct [(0,9),(1,3)]) 2 24 [Value.string (ByteArray.mk #[]),Value.int IntKind.i64 0] false []),
 (275,Ty.mk (K.struct [(0,9)]) 1 16 [Value.string (ByteArray.mk #[])] false []),
 (276,Ty.mk (K.struct [(0,9)]) 1 16 [Value.string (ByteArray.mk #[])] false []),
 (278,Ty.mk (K.func) 1 8 [Value.nilFunc] false []),
 (279,Ty.mk (K.func) 1 8 [Value.nilFunc] false []),
 (282,Ty.mk (K.struct [(0,3)]) 1 8 [Value.int IntKind.i64 0] true []),
 (284,Ty.mk (K.struct [(0,3),(1,86)]) 4 32 [Value.int IntKind.i64 0,Value.int IntKind.i64 0,Value.int IntKind.i64 0,Value.int IntKind.i64 0] true []),
 (287,Ty.mk (K.struct [(0,3),(1,3)]) 2 16 [Value.int IntKind.i64 0,Value.int IntKind.i64 0] true []),
 (289,Ty.mk (K.struct [(0,287),(2,22)]) 3 40 [Value.int IntKind.i64 0,Value.int IntKind.i64 0,Value.slice none 0 0] false []),
 (292,Ty.mk (K.struct [(0,287)]) 2 16 [Value.int IntKind.i64 0,Value.int IntKind.i64 0] true []),
 (293,Ty.mk (K.func) 1 8 [Value.nilFunc] false []),
 (295,Ty.mk (K.struct [(0,3),(1,22)]) 2 32 [Value.int IntKind.i64 0,Value.slice none 0 0] false []),
 (298,Ty.mk (K.struct [(0,3),(1,3),(2,3),(3,192)]) 7 56 [Value.int IntKind.i64 0,Value.int IntKind.i64 0,Value.int IntKind.i64 0,Value.int IntKind.i64 0,Value.int IntKind.i64 0,Value.int IntKind.i64 0,Value.int IntKind.i64 0] true []),
 (301,Ty.mk (K.struct [(0,3),(1,3)]) 2 16 [Value.int IntKind.i64 0,Value.int IntKind.i64 0] true []),
 (303,Ty.mk (K.struct [(0,3),(1,28)]) 3 24 [Value.int IntKind.i64 0,Value.int IntKind.i64 0,Value.int IntKind.i64 0] true []),
 (305,Ty.mk (K.slice 416) 1 24 [Value.slice none 0 0] false []),
 (308,Ty.mk (K.struct [(0,3),(1,3),(2,3)]) 3 24 [Value.int IntKind.i64 0,Value.int IntKind.i64 0,Value.int IntKind.i64 0] true []),
 (314,Ty.mk (K.struct [(0,22),(1,22),(2,22)]) 3 72 [Value.slice none 0 0,Value.slice none 0 0,Value.slice none 0 0] false []),
 (330,Ty.mk (K.arr 4 3) 4 32 [Value.int IntKind.i64 0,Value.int IntKind.i64 0,Value.int IntKind.i64 0,Value.int IntKind.i64 0] false []),
 (334,Ty.mk (K.func) 1 8 [Value.nilFunc] false []),
 (335,Ty.mk (K.func) 1 8 [Value.nilFunc] false []),
 (336,Ty.mk (K.func) 1 8 [Value.nilFunc] false []),
 (340,Ty.mk (K.map 3 28) 1 8 [Value.map none] false []),
 (344,Ty.mk (K.arr 5 147) 5 40 [Value.nilFunc,Value.nilFunc,Value.nilFunc,Value.nilFunc,Value.nilFunc] false []),
 (346,Ty.mk (K.struct [(0,3)]) 1 8 [Value.int IntKind.i64 0] true []),
 (351,Ty.mk (K.func) 1 8 [Value.nilFunc] false []),
 (352,Ty.mk (K.arr 5 351) 5 40 [Value.nilFunc,Value.nilFunc,Value.nilFunc,Value.nilFunc,Value.nilFunc] false []),
 (358,Ty.mk (K.struct [(0,3)]) 1 8 [Value.int IntKind.i64 0] true []),
 (360,Ty.mk (K.struct [(0,9)]) 1 16 [Value.string (ByteArray.mk #[])] false []),
 (394,Ty.mk (K.func) 1 8 [Value.nilFunc] false []),
 (400,Ty.mk (K.func) 1 8 [Value.nilFunc] false []),
 (402,Ty.mk (K.struct [(0,86),(3,3)]) 4 32 [Value.int IntKind.i64 0,Value.int IntKind.i64 0,Value.int IntKind.i64 0,Value.int IntKind.i64 0] true []),
 (411,Ty.mk (K.func) 1 8 [Value.nilFunc] false []),
 (412,Ty.mk (K.func) 1 8 [Value.nilFunc] false []),
 (416,Ty.mk (K.struct [(0,3),(1,3)]) 2 16 [Value.int IntKind.i64 0,Value.int IntKind.i64 0] true []),
 (418,Ty.mk (K.struct [(0,9)]) 1 16 [Value.string (ByteArray.mk #[])] false []),
 (420,Ty.mk (K.struct [(0,64),(3,86)]) 6 96 [Value.slice none 0 0,Value.slice none 0 0,Value.slice none 0 0,Value.int IntKind.i64 0,Value.int IntKind.i64 0,Value.int IntKind.i64 0] false []),
 (421,Ty.mk (K.arr 5 23) 5 40 [Value.nilFunc,Value.nilFunc,Value.nilFunc,Value.nilFunc,Value.nilFunc] false []),
 (425,Ty.mk (K.func) 1 8 [Value.nilFunc] false []),
 (453,Ty.mk (K.int IntKind.u64) 1 8 [Value.int IntKind.u64 0] false []),
 (488,Ty.mk (K.arr 3 147) 3 24 [Value.nilFunc,Value.nilFunc,Value.nilFunc] false []),
 (492,Ty.mk (K.int IntKind.i64) 1 8 [Value.int IntKind.i64 0] false []),
 (499,Ty.mk (K.int IntKind.u32) 1 4 [Value.int IntKind.u32 0] false []),
 (501,Ty.mk (K.int IntKind.u64) 1 8 [Value.int IntKind.u64 0] false []),
 (504,Ty.mk (K.struct [(0,3)]) 1 8 [Value.int IntKind.i64 0] true []),
 (536,Ty.mk (K.int IntKind.u64) 1 8 [Value.int IntKind.u64 0] false []),
 (540,Ty.mk (K.ptr) 1 8 [Value.pointer none] false []),
 (543,Ty.mk (K.struct [(0,9)]) 1 16 [Value.string (ByteArray.mk #[])] false []),
 (548,Ty.mk (K.ptr) 1 8 [Value.pointer none] false []),
 (72,Ty.mk (K.struct [(0,26),(3,64),(6,3),(7,67),(9,70)]) 16 224 [Value.slice none 0 0,Value.int IntKind.i64 0,Value.int IntKind.i64 0,Value.slice none 0 0,Value.slice none 0 0,Value.slice none 0 0,Value.int IntKind.i64 0,Value.int IntKind.i64 0,Value.slice none 0 0,Value.int IntKind.i64 0,Value.int IntKind.i64 0,Value.int IntKind.i64 0,Value.int IntKind.i64 0,Value.int IntKind.i64 0,Value.int IntKind.i64 0,Value.slice none 0 0] false []),
 (155,Ty.mk (K.struct [(0,72),(16,153),(17,4)]) 18 256 [Value.slice none 0 0,Value.int IntKind.i64 0,Value.int IntKind.i64 0,Value.slice none 0 0,Value.slice none 0 0,Value.slice none 0 0,Value.int IntKind.i64 0,Value.int IntKind.i64 0,Value.slice none 0 0,Value.int IntKind.i64 0,Value.int IntKind.i64 0,Value.int IntKind.i64 0,Value.int IntKind.i64 0,Value.int IntKind.i64 0,Value.int IntKind.i64 0,Value.slice none 0 0,Value.slice none 0 0,Value.bool false] false []),
 (167,Ty.mk (K.struct [(0,72),(16,3),(17,162),(18,163),(19,164),(20,165),(21,22)]) 22 288 [Value.slice none 0 0,Value.int IntKind.i64 0,Value.int IntKind.i64 0,Value.slice none 0 0,Value.slice none 0 0,Value.slice none 0 0,Value.int IntKind.i64 0,Value.int IntKind.i64 0,Value.slice none 0 0,Value.int IntKind.i64 0,Value.int IntKind.i64 0,Value.int IntKind.i64 0,Value.int IntKind.i64 0,Value.int IntKind.i64 0,Value.int IntKind.i64 0,Value.slice none 0 0,Value.int IntKind.i64 0,Value.map none,Value.map none,Value.map none,Value.map none,Value.slice none 0 0] false []),
 (272,Ty.mk (K.arr 11 271) 22 264 [Value.string (ByteArray.mk #[]),Value.int IntKind.i64 0,Value.string (ByteArray.mk #[]),Value.int IntKind.i64 0,Value.string (ByteArray.mk #[]),Value.int IntKind.i64 0,Value.string (ByteArray.mk #[]),Value.int IntKind.i64 0,Value.string (ByteArray.mk #[]),Value.int IntKind.i64 0,Value.string (ByteArray.mk #[]),Value.int IntKind.i64 0,Value.string (ByteArray.mk #[]),Value.int IntKind.i64 0,Value.string (ByteArray.mk #[]),Value.int IntKind.i64 0,Value.string (ByteArray.mk #[]),Value.int IntKind.i64 0,Value.string (ByteArray.mk #[]),Value.int IntKind.i64 0,Value.string (ByteArray.mk #[]),Value.int IntKind.i64 0] false [])]
def Y:TypeId->Ty:=Tb tab
theorem plain:Yb tab=Ya Tryz.prog tab:=by kernel_rfl
theorem eqis:Acv Tryz.prog tab=true:=by kernel_rfl
theorem meths:Ahb Tryz.prog tab=true:=by kernel_rfl
theorem yok:YOK Tryz.prog Y:=Apo tab plain (Apv eqis) (Apn meths)
theorem mixed:Tryz.prog.follows .mixedOrders=true:=by kernel_rfl
abbrev CO (Gl:World->Prop):=Computes Tryz.prog Gl
abbrev SP (Gl:World->Prop):=Set Tryz.prog Y Gl
abbrev iR:Int->Prop:=inRange IntKind.i64
abbrev sQ {α:Type} [Inhabited α] (f:α->List C) (l m:List α):Prop:=SEq l.length (fun i=>f (nth l i)) m.length fun i=>f (nth m i)
abbrev sR {α:Type} [Inhabited α] (f:α->List C) (l:List α):Prop:=sQ f l l
theorem func5:Tryz.prog.funcs[5]?=some Tryz.f5:=by kernel_rfl
theorem func7:Tryz.prog.funcs[7]?=some Tryz.f7:=by kernel_rfl
theorem func17:Tryz.prog.funcs[17]?=some Tryz.f17:=by kernel_rfl
theorem func20:Tryz.prog.funcs[20]?=some Tryz.f20:=by kernel_rfl
theorem func21:Tryz.prog.funcs[21]?=some Tryz.f21:=by kernel_rfl
theorem func22:Tryz.prog.funcs[22]?=some Tryz.f22:=by kernel_rfl
theorem func23:Tryz.prog.funcs[23]?=some Tryz.f23:=by kernel_rfl
theorem func24:Tryz.prog.funcs[24]?=some Tryz.f24:=by kernel_rfl
theorem func31:Tryz.prog.funcs[31]?=some Tryz.f31:=by kernel_rfl
theorem func32:Tryz.prog.funcs[32]?=some Tryz.f32:=by kernel_rfl
theorem func33:Tryz.prog.funcs[33]?=some Tryz.f33:=by kernel_rfl
theorem func34:Tryz.prog.funcs[34]?=some Tryz.f34:=by kernel_rfl
theorem func37:Tryz.prog.funcs[37]?=some Tryz.f37:=by kernel_rfl
theorem func38:Tryz.prog.funcs[38]?=some Tryz.f38:=by kernel_rfl
theorem Ahm:(Tryz.f38.name== "runtime.NumGoroutine")=false:=by kernel_rfl
theorem func51:Tryz.prog.funcs[51]?=some Tryz.f51:=by kernel_rfl
theorem func54:Tryz.prog.funcs[54]?=some Tryz.f54:=by kernel_rfl
theorem func55:Tryz.prog.funcs[55]?=some Tryz.f55:=by kernel_rfl
theorem func56:Tryz.prog.funcs[56]?=some Tryz.f56:=by kernel_rfl
theorem func57:Tryz.prog.funcs[57]?=some Tryz.f57:=by kernel_rfl
theorem func58:Tryz.prog.funcs[58]?=some Tryz.f58:=by kernel_rfl
theorem func60:Tryz.prog.funcs[60]?=some Tryz.f60:=by kernel_rfl
theorem func63:Tryz.prog.funcs[63]?=some Tryz.f63:=by kernel_rfl
theorem func64:Tryz.prog.funcs[64]?=some Tryz.f64:=by kernel_rfl
theorem func65:Tryz.prog.funcs[65]?=some Tryz.f65:=by kernel_rfl
theorem func66:Tryz.prog.funcs[66]?=some Tryz.f66:=by kernel_rfl
theorem func67:Tryz.prog.funcs[67]?=some Tryz.f67:=by kernel_rfl
theorem func68:Tryz.prog.funcs[68]?=some Tryz.f68:=by kernel_rfl
theorem func69:Tryz.prog.funcs[69]?=some Tryz.f69:=by kernel_rfl
theorem func70:Tryz.prog.funcs[70]?=some Tryz.f70:=by kernel_rfl
theorem func71:Tryz.prog.funcs[71]?=some Tryz.f71:=by kernel_rfl
theorem Ahn:(Tryz.f71.name== "runtime.NumGoroutine")=false:=by kernel_rfl
theorem func72:Tryz.prog.funcs[72]?=some Tryz.f72:=by kernel_rfl
theorem func73:Tryz.prog.funcs[73]?=some Tryz.f73:=by kernel_rfl
theorem func74:Tryz.prog.funcs[74]?=some Tryz.f74:=by kernel_rfl
theorem func75:Tryz.prog.funcs[75]?=some Tryz.f75:=by kernel_rfl
theorem func76:Tryz.prog.funcs[76]?=some Tryz.f76:=by kernel_rfl
theorem func77:Tryz.prog.funcs[77]?=some Tryz.f77:=by kernel_rfl
theorem func78:Tryz.prog.funcs[78]?=some Tryz.f78:=by kernel_rfl
theorem func79:Tryz.prog.funcs[79]?=some Tryz.f79:=by kernel_rfl
theorem func80:Tryz.prog.funcs[80]?=some Tryz.f80:=by kernel_rfl
theorem func88:Tryz.prog.funcs[88]?=some Tryz.f88:=by kernel_rfl
theorem func89:Tryz.prog.funcs[89]?=some Tryz.f89:=by kernel_rfl
theorem func94:Tryz.prog.funcs[94]?=some Tryz.f94:=by kernel_rfl
theorem func95:Tryz.prog.funcs[95]?=some Tryz.f95:=by kernel_rfl
theorem func96:Tryz.prog.funcs[96]?=some Tryz.f96:=by kernel_rfl
theorem func97:Tryz.prog.funcs[97]?=some Tryz.f97:=by kernel_rfl
theorem func98:Tryz.prog.funcs[98]?=some Tryz.f98:=by kernel_rfl
theorem func99:Tryz.prog.funcs[99]?=some Tryz.f99:=by kernel_rfl
theorem func100:Tryz.prog.funcs[100]?=some Tryz.f100:=by kernel_rfl
theorem func102:Tryz.prog.funcs[102]?=some Tryz.f102:=by kernel_rfl
theorem func103:Tryz.prog.funcs[103]?=some Tryz.f103:=by kernel_rfl
theorem func104:Tryz.prog.funcs[104]?=some Tryz.f104:=by kernel_rfl
theorem func105:Tryz.prog.funcs[105]?=some Tryz.f105:=by kernel_rfl
theorem func106:Tryz.prog.funcs[106]?=some Tryz.f106:=by kernel_rfl
theorem func107:Tryz.prog.funcs[107]?=some Tryz.f107:=by kernel_rfl
theorem func112:Tryz.prog.funcs[112]?=some Tryz.f112:=by kernel_rfl
theorem Aho:(Tryz.f112.name== "runtime.NumGoroutine")=false:=by kernel_rfl
theorem func121:Tryz.prog.funcs[121]?=some Tryz.f121:=by kernel_rfl
theorem func129:Tryz.prog.funcs[129]?=some Tryz.f129:=by kernel_rfl
theorem func130:Tryz.prog.funcs[130]?=some Tryz.f130:=by kernel_rfl
theorem func131:Tryz.prog.funcs[131]?=some Tryz.f131:=by kernel_rfl
theorem func132:Tryz.prog.funcs[132]?=some Tryz.f132:=by kernel_rfl
theorem func133:Tryz.prog.funcs[133]?=some Tryz.f133:=by kernel_rfl
theorem func134:Tryz.prog.funcs[134]?=some Tryz.f134:=by kernel_rfl
theorem func136:Tryz.prog.funcs[136]?=some Tryz.f136:=by kernel_rfl
theorem func137:Tryz.prog.funcs[137]?=some Tryz.f137:=by kernel_rfl
theorem func138:Tryz.prog.funcs[138]?=some Tryz.f138:=by kernel_rfl
theorem func139:Tryz.prog.funcs[139]?=some Tryz.f139:=by kernel_rfl
theorem func140:Tryz.prog.funcs[140]?=some Tryz.f140:=by kernel_rfl
theorem func141:Tryz.prog.funcs[141]?=some Tryz.f141:=by kernel_rfl
theorem func142:Tryz.prog.funcs[142]?=some Tryz.f142:=by kernel_rfl
theorem func143:Tryz.prog.funcs[143]?=some Tryz.f143:=by kernel_rfl
theorem func144:Tryz.prog.funcs[144]?=some Tryz.f144:=by kernel_rfl
theorem func145:Tryz.prog.funcs[145]?=some Tryz.f145:=by kernel_rfl
theorem func146:Tryz.prog.funcs[146]?=some Tryz.f146:=by kernel_rfl
theorem func147:Tryz.prog.funcs[147]?=some Tryz.f147:=by kernel_rfl
theorem func148:Tryz.prog.funcs[148]?=some Tryz.f148:=by kernel_rfl
theorem func149:Tryz.prog.funcs[149]?=some Tryz.f149:=by kernel_rfl
theorem func150:Tryz.prog.funcs[150]?=some Tryz.f150:=by kernel_rfl
theorem func151:Tryz.prog.funcs[151]?=some Tryz.f151:=by kernel_rfl
theorem func152:Tryz.prog.funcs[152]?=some Tryz.f152:=by kernel_rfl
theorem func153:Tryz.prog.funcs[153]?=some Tryz.f153:=by kernel_rfl
theorem func154:Tryz.prog.funcs[154]?=some Tryz.f154:=by kernel_rfl
theorem func159:Tryz.prog.funcs[159]?=some Tryz.f159:=by kernel_rfl
theorem Aq4:(Tryz.f159.name== "runtime.NumGoroutine")=false:=by kernel_rfl
theorem func160:Tryz.prog.funcs[160]?=some Tryz.f160:=by kernel_rfl
theorem func161:Tryz.prog.funcs[161]?=some Tryz.f161:=by kernel_rfl
theorem func162:Tryz.prog.funcs[162]?=some Tryz.f162:=by kernel_rfl
theorem func163:Tryz.prog.funcs[163]?=some Tryz.f163:=by kernel_rfl
theorem func164:Tryz.prog.funcs[164]?=some Tryz.f164:=by kernel_rfl
theorem func165:Tryz.prog.funcs[165]?=some Tryz.f165:=by kernel_rfl
theorem func175:Tryz.prog.funcs[175]?=some Tryz.f175:=by kernel_rfl
theorem func177:Tryz.prog.funcs[177]?=some Tryz.f177:=by kernel_rfl
theorem func178:Tryz.prog.funcs[178]?=some Tryz.f178:=by kernel_rfl
theorem func179:Tryz.prog.funcs[179]?=some Tryz.f179:=by kernel_rfl
theorem func180:Tryz.prog.funcs[180]?=some Tryz.f180:=by kernel_rfl
theorem func181:Tryz.prog.funcs[181]?=some Tryz.f181:=by kernel_rfl
theorem func182:Tryz.prog.funcs[182]?=some Tryz.f182:=by kernel_rfl
theorem func183:Tryz.prog.funcs[183]?=some Tryz.f183:=by kernel_rfl
theorem func184:Tryz.prog.funcs[184]?=some Tryz.f184:=by kernel_rfl
theorem func185:Tryz.prog.funcs[185]?=some Tryz.f185:=by kernel_rfl
theorem func186:Tryz.prog.funcs[186]?=some Tryz.f186:=by kernel_rfl
theorem func187:Tryz.prog.funcs[187]?=some Tryz.f187:=by kernel_rfl
theorem func189:Tryz.prog.funcs[189]?=some Tryz.f189:=by kernel_rfl
theorem func190:Tryz.prog.funcs[190]?=some Tryz.f190:=by kernel_rfl
theorem func191:Tryz.prog.funcs[191]?=some Tryz.f191:=by kernel_rfl
theorem func192:Tryz.prog.funcs[192]?=some Tryz.f192:=by kernel_rfl
theorem func193:Tryz.prog.funcs[193]?=some Tryz.f193:=by kernel_rfl
theorem func197:Tryz.prog.funcs[197]?=some Tryz.f197:=by kernel_rfl
theorem func208:Tryz.prog.funcs[208]?=some Tryz.f208:=by kernel_rfl
theorem func209:Tryz.prog.funcs[209]?=some Tryz.f209:=by kernel_rfl
theorem func210:Tryz.prog.funcs[210]?=some Tryz.f210:=by kernel_rfl
theorem func227:Tryz.prog.funcs[227]?=some Tryz.f227:=by kernel_rfl
theorem func228:Tryz.prog.funcs[228]?=some Tryz.f228:=by kernel_rfl
theorem func229:Tryz.prog.funcs[229]?=some Tryz.f229:=by kernel_rfl
theorem func230:Tryz.prog.funcs[230]?=some Tryz.f230:=by kernel_rfl
theorem func231:Tryz.prog.funcs[231]?=some Tryz.f231:=by kernel_rfl
theorem func232:Tryz.prog.funcs[232]?=some Tryz.f232:=by kernel_rfl
theorem func233:Tryz.prog.funcs[233]?=some Tryz.f233:=by kernel_rfl
theorem func234:Tryz.prog.funcs[234]?=some Tryz.f234:=by kernel_rfl
theorem func235:Tryz.prog.funcs[235]?=some Tryz.f235:=by kernel_rfl
theorem func237:Tryz.prog.funcs[237]?=some Tryz.f237:=by kernel_rfl
theorem func238:Tryz.prog.funcs[238]?=some Tryz.f238:=by kernel_rfl
theorem func239:Tryz.prog.funcs[239]?=some Tryz.f239:=by kernel_rfl
theorem func240:Tryz.prog.funcs[240]?=some Tryz.f240:=by kernel_rfl
theorem func241:Tryz.prog.funcs[241]?=some Tryz.f241:=by kernel_rfl
theorem func242:Tryz.prog.funcs[242]?=some Tryz.f242:=by kernel_rfl
theorem func249:Tryz.prog.funcs[249]?=some Tryz.f249:=by kernel_rfl
theorem func250:Tryz.prog.funcs[250]?=some Tryz.f250:=by kernel_rfl
theorem func251:Tryz.prog.funcs[251]?=some Tryz.f251:=by kernel_rfl
theorem func252:Tryz.prog.funcs[252]?=some Tryz.f252:=by kernel_rfl
theorem func253:Tryz.prog.funcs[253]?=some Tryz.f253:=by kernel_rfl
theorem func254:Tryz.prog.funcs[254]?=some Tryz.f254:=by kernel_rfl
theorem func255:Tryz.prog.funcs[255]?=some Tryz.f255:=by kernel_rfl
theorem func256:Tryz.prog.funcs[256]?=some Tryz.f256:=by kernel_rfl
theorem func257:Tryz.prog.funcs[257]?=some Tryz.f257:=by kernel_rfl
theorem func258:Tryz.prog.funcs[258]?=some Tryz.f258:=by kernel_rfl
theorem func259:Tryz.prog.funcs[259]?=some Tryz.f259:=by kernel_rfl
theorem func260:Tryz.prog.funcs[260]?=some Tryz.f260:=by kernel_rfl
theorem func261:Tryz.prog.funcs[261]?=some Tryz.f261:=by kernel_rfl
theorem func284:Tryz.prog.funcs[284]?=some Tryz.f284:=by kernel_rfl
theorem func285:Tryz.prog.funcs[285]?=some Tryz.f285:=by kernel_rfl
theorem func286:Tryz.prog.funcs[286]?=some Tryz.f286:=by kernel_rfl
theorem func287:Tryz.prog.funcs[287]?=some Tryz.f287:=by kernel_rfl
theorem func288:Tryz.prog.funcs[288]?=some Tryz.f288:=by kernel_rfl
theorem func289:Tryz.prog.funcs[289]?=some Tryz.f289:=by kernel_rfl
theorem func290:Tryz.prog.funcs[290]?=some Tryz.f290:=by kernel_rfl
theorem func291:Tryz.prog.funcs[291]?=some Tryz.f291:=by kernel_rfl
theorem func292:Tryz.prog.funcs[292]?=some Tryz.f292:=by kernel_rfl
theorem func293:Tryz.prog.funcs[293]?=some Tryz.f293:=by kernel_rfl
theorem func294:Tryz.prog.funcs[294]?=some Tryz.f294:=by kernel_rfl
theorem func295:Tryz.prog.funcs[295]?=some Tryz.f295:=by kernel_rfl
theorem func297:Tryz.prog.funcs[297]?=some Tryz.f297:=by kernel_rfl
theorem func299:Tryz.prog.funcs[299]?=some Tryz.f299:=by kernel_rfl
theorem func300:Tryz.prog.funcs[300]?=some Tryz.f300:=by kernel_rfl
theorem func315:Tryz.prog.funcs[315]?=some Tryz.f315:=by kernel_rfl
theorem func316:Tryz.prog.funcs[316]?=some Tryz.f316:=by kernel_rfl
theorem func317:Tryz.prog.funcs[317]?=some Tryz.f317:=by kernel_rfl
theorem func319:Tryz.prog.funcs[319]?=some Tryz.f319:=by kernel_rfl
theorem func323:Tryz.prog.funcs[323]?=some Tryz.f323:=by kernel_rfl
theorem func324:Tryz.prog.funcs[324]?=some Tryz.f324:=by kernel_rfl
theorem func346:Tryz.prog.funcs[346]?=some Tryz.f346:=by kernel_rfl
theorem func347:Tryz.prog.funcs[347]?=some Tryz.f347:=by kernel_rfl
theorem func348:Tryz.prog.funcs[348]?=some Tryz.f348:=by kernel_rfl
theorem func349:Tryz.prog.funcs[349]?=some Tryz.f349:=by kernel_rfl
theorem func350:Tryz.prog.funcs[350]?=some Tryz.f350:=by kernel_rfl
theorem func351:Tryz.prog.funcs[351]?=some Tryz.f351:=by kernel_rfl
theorem func352:Tryz.prog.funcs[352]?=some Tryz.f352:=by kernel_rfl
theorem func356:Tryz.prog.funcs[356]?=some Tryz.f356:=by kernel_rfl
theorem func357:Tryz.prog.funcs[357]?=some Tryz.f357:=by kernel_rfl
theorem func358:Tryz.prog.funcs[358]?=some Tryz.f358:=by kernel_rfl
theorem func359:Tryz.prog.funcs[359]?=some Tryz.f359:=by kernel_rfl
theorem func360:Tryz.prog.funcs[360]?=some Tryz.f360:=by kernel_rfl
theorem func361:Tryz.prog.funcs[361]?=some Tryz.f361:=by kernel_rfl
theorem func362:Tryz.prog.funcs[362]?=some Tryz.f362:=by kernel_rfl
theorem func363:Tryz.prog.funcs[363]?=some Tryz.f363:=by kernel_rfl
theorem func364:Tryz.prog.funcs[364]?=some Tryz.f364:=by kernel_rfl
theorem func365:Tryz.prog.funcs[365]?=some Tryz.f365:=by kernel_rfl
theorem func366:Tryz.prog.funcs[366]?=some Tryz.f366:=by kernel_rfl
theorem func367:Tryz.prog.funcs[367]?=some Tryz.f367:=by kernel_rfl
theorem Ahp:(Tryz.f367.name== "runtime.NumGoroutine")=false:=by kernel_rfl
theorem func368:Tryz.prog.funcs[368]?=some Tryz.f368:=by kernel_rfl
theorem func369:Tryz.prog.funcs[369]?=some Tryz.f369:=by kernel_rfl
theorem func392:Tryz.prog.funcs[392]?=some Tryz.f392:=by kernel_rfl
theorem func393:Tryz.prog.funcs[393]?=some Tryz.f393:=by kernel_rfl
theorem func394:Tryz.prog.funcs[394]?=some Tryz.f394:=by kernel_rfl
theorem func395:Tryz.prog.funcs[395]?=some Tryz.f395:=by kernel_rfl
theorem func396:Tryz.prog.funcs[396]?=some Tryz.f396:=by kernel_rfl
theorem func397:Tryz.prog.funcs[397]?=some Tryz.f397:=by kernel_rfl
theorem func398:Tryz.prog.funcs[398]?=some Tryz.f398:=by kernel_rfl
end Go.Vc.Zn
namespace Go.Vc
theorem Aq5:((0:Nat):Int)=0:=rfl
theorem Acz (b:Bool):eqB b true=b:=rfl
theorem Ad0 (b:Bool):eqB b false=!b:=rfl
theorem Ahq (n:Nat) (f:Nat->List C):SEq n f n f↔True:=⟨fun _=>trivial,fun _=>⟨rfl,fun _ _=>.inl rfl⟩⟩
theorem SEq.of {n m:Nat} {f g:Nat->List C} (h:Vf n f m g):SEq n f m g:=⟨h.1,fun i hi=>.inl (h.2 i hi)⟩
theorem Aq6 (a b:Bool):(bif a then b else false)=(a&&b):=by cases a<;>rfl
theorem Yf (a b:Bool):(bif a then true else b)=(a||b):=by cases a<;>rfl
theorem Aq7 (a b:Bool):(bif a then false else b)=(!a&&b):=by cases a<;>rfl
theorem Aq8 (a b:Bool):(bif a then b else true)=(!a||b):=by cases a<;>rfl
theorem Af (n:Int):inRange IntKind.i64 n↔-9223372036854775808<=n/\n<=9223372036854775807:=Iff.rfl
theorem stdS:(((0:Nat):Int)=0)/\(∀ b,eqB b true=b)/\(∀ b,eqB b false=!b)/\(∀ p:Prop,(True/\p)=p)/\(∀ p:Prop,(p/\p)=p)/\
  (∀ a b:Bool,(bif a then b else false)=(a&&b))/\(∀ a b:Bool,(bif a then true else b)=(a||b))/\(∀ a b:Bool,(bif a then false else b)=(!a&&b))/\(∀ a b:Bool,(bif a then b else true)=(!a||b))/\
  (∀ a b c:Bool,(a&&b&&c)=(a&&(b&&c)))/\(∀ a b:Bool,((!a)=b)=(a=!b))/\((!true)=false)/\((!false)=true)/\(∀ (n:Nat) (f:Nat->List C),SEq n f n f↔True):=
 ⟨Aq5,Acz,Ad0,_root_.true_and,_root_.and_self,Aq6,Yf,Aq7,Aq8,Bool.and_assoc,fun a b=>by simp,Bool.not_true,Bool.not_false,Ahq⟩
theorem Bi:maxLen=9223372036854775807:=by kernel_rfl
section
variable {α:Type} [Inhabited α]
theorem Ex {l:List α} {k:Nat} (h:k<l.length):nth l k=l[k]:=by unfold nth;simp [h]
theorem Tf {l m:List α} {i:Nat} (h:i<l.length):nth (l++m) i=nth l i:=by
 unfold nth;simp [List.getD_eq_getElem?_getD,List.getElem?_append,h]
theorem Mm {l m:List α} {i:Nat} (h:l.length<=i):nth (l++m) i=nth m (i - l.length):=by
 unfold nth;simp [List.getD_eq_getElem?_getD,List.getElem?_append,Nat.not_lt.2 h]
theorem Qh {l:List α} {i k:Nat}:nth (l.drop k) i=nth l (k+i):=by
 unfold nth;simp [List.getD_eq_getElem?_getD,List.getElem?_drop]
theorem Ep {β:Type} [Inhabited β] {l:List α} {f:α->β} {i:Nat} (h:i<l.length):nth (l.map f) i=f (nth l i):=by
 unfold nth;simp [List.getD_eq_getElem?_getD,h]
theorem Er {l:List α} {k:Nat} (h:k<l.length):nth l k∈l:=by rw [Ex h];exact List.getElem_mem h
theorem Lf {l:List α} {k:Nat} (h:k<l.length):l.take (k+1)=l.take k++[nth l k]:=by
 rw [Ex h,List.take_succ_eq_append_getElem h]
def Bm (p:α->Bool):List α->Nat
 | []=>0
 |x::l=>bif p x then Bm p l+1 else 0
omit [Inhabited α] in
theorem Lg {p:α->Bool}:∀ {l:List α},Bm p l<=l.length
 | []=>Nat.le_refl _
 |x::l=>by
  have:=Lg (p:=p) (l:=l)
  unfold Bm
  cases p x<;>simp<;>omega
theorem Jy {p:α->Bool}:∀ {l:List α} {i:Nat},i<Bm p l->p (nth l i)=true
 | [],i,h=>by simp [Bm] at h
 |x::l,i,h=>by
  unfold Bm at h
  cases hp:p x with
  |false=>simp [hp] at h
  |true=>
   simp only [hp,cond_true] at h
   cases i with
   |zero=>exact hp
   |succ i=>exact Jy (p:=p) (l:=l) (by omega)
theorem Yg {p:α->Bool}:∀ {l:List α},Bm p l<l.length->p (nth l (Bm p l))=false
 | [],h=>by simp at h
 |x::l,h=>by
  unfold Bm at h ⊢
  cases hp:p x with
  |false=>exact hp
  |true=>
   simp only [hp,cond_true,List.length_cons] at h ⊢
   exact Yg (p:=p) (l:=l) (by omega)
theorem Id {p:α->Bool} {l:List α} {k:Nat} (h1:k<=Bm p l) (h2:k<l.length) (h3:p (nth l k)=true):k<Bm p l:=by
 rcases Nat.lt_or_ge k (Bm p l) with h|h
 ·exact h
 ·have:k=Bm p l:=by omega
  subst this
  rw [Yg h2] at h3
  cases h3
omit [Inhabited α] in
theorem Lh {p:α->Bool}:∀ {l:List α},l.length<=Bm p l->l.all p=true
 | [],_=>rfl
 |x::l,h=>by
  unfold Bm at h
  cases hp:p x with
  |false=>simp [hp] at h
  |true=>
   simp only [hp,cond_true,List.length_cons] at h
   rw [List.all_cons,hp,Lh (p:=p) (l:=l) (by omega)]
   rfl
theorem Qi {p:α->Bool} {l:List α} {k:Nat} (h2:k<l.length) (h3:p (nth l k)=false):l.all p=false:=by
 rw [Bool.eq_false_iff]
 intro h
 have:=List.all_eq_true.1 h _ (Er h2)
 rw [h3] at this
 cases this
theorem Ahr {f:α->List C} {l m r:List α} (h:r=l++m):Vf (l.length+m.length) (Ar l.length (fun i=>f (nth l i)) fun i=>f (nth m i)) r.length (fun i=>f (nth r i)):=by
 subst h
 refine ⟨by simp,fun i _=>?_⟩
 unfold Ar
 cases hi:Nat.blt i l.length with
 |true=>
  have hi:=Nat.le_of_ble_eq_true hi
  simp only [cond_true]
  rw [Tf hi]
 |false=>
  have hi:¬ i<l.length:=fun h=>by
   have:Nat.blt i l.length=true:=Nat.ble_eq_true_of_le h
   rw [hi] at this;cases this
  simp only [cond_false]
  rw [Mm (by omega)]
theorem Ad1 {f:α->List C} {l m r:List α} (h:r=l++m):SEq (l.length+m.length) (Ar l.length (fun i=>f (nth l i)) fun i=>f (nth m i)) r.length (fun i=>f (nth r i)):=.of (Ahr h)
theorem Ad2 {f:α->List C} {l:List α} {css:List (List C)} {m r:List α} (h:r=l++m) (hc:css=m.map f):SEq (l.length+css.length) (Ar l.length (fun i=>f (nth l i)) fun i=>css.getD i []) r.length (fun i=>f (nth r i)):=by
 subst hc
 have:=Ahr (f:=f) h
 rw [List.length_map]
 refine .of ⟨this.1,fun i hi=>?_⟩
 rw [<-this.2 i hi]
 unfold Ar
 cases hb:Nat.blt i l.length with
 |true=>rfl
 |false=>
  simp only [cond_false]
  have hi2:i - l.length<m.length:=by
   have:¬ i<l.length:=fun h=>by
    have:Nat.blt i l.length=true:=Nat.ble_eq_true_of_le h
    rw [hb] at this;cases this
   omega
  rw [List.getD_eq_getElem?_getD,List.getElem?_map,Ex hi2,List.getElem?_eq_getElem hi2]
  rfl
theorem Jb {f:α->List C} {l:List α} {k:Nat} (h:k<l.length) {cs:List C} (hc:cs=f (nth l k)):
  SEq ((l.take k).length+1) (Ar (l.take k).length (fun i=>f (nth (l.take k) i)) fun i=>[cs].getD i []) (l.take (k+1)).length (fun i=>f (nth (l.take (k+1)) i)):=
 Ad2 (css:=[cs]) (m:=[nth l k]) (Lf h) (by rw [hc];rfl)
theorem Oc {f:α->List C} {l r:List α} {x:α} {cs:List C} (h:r=l++[x]) (hc:cs=f x):
  SEq (l.length+1) (Ar l.length (fun i=>f (nth l i)) fun i=>[cs].getD i []) r.length (fun i=>f (nth r i)):=
 Ad2 (css:=[cs]) (m:=[x]) h (by rw [hc];rfl)
theorem Cr {n k:Nat} (h:k<n):nth (List.range n) k=k:=by
 rw [Ex (by rw [List.length_range];exact h),List.getElem_range]
theorem Bn {f:α->List C} {l r:List α} (h:r=l):SEq l.length (fun i=>f (nth l i)) r.length (fun i=>f (nth r i)):=by subst h;exact .of ⟨rfl,fun _ _=>rfl⟩
end
end Go.Vc
namespace Go.Vc.Zn
open Go Go.Vc
structure Sheet where
 cols:List (List Int)
 errs:List Int
deriving DecidableEq
instance:Inhabited Sheet:=⟨⟨[],[]⟩⟩
structure Err where
 row:Int
 kind:Int
deriving DecidableEq
instance:Inhabited Err:=⟨⟨0,0⟩⟩
structure Rt where
 n:Int
 next:Int
 last:Bool
def eI (x:Int):List C:=[Ci x]
def Au (l:List Int):List C:=[.l eI l]
def Cg (s:Sheet):List C:=[.l Au s.cols,.l eI s.errs]
def cRt (r:Rt):List C:=[Ci r.n,Ci r.next,.v (.bool r.last)]
def v (t:Nat) (x:T):Nat×Nat×T:=(0,t,x)
def bx (id:Nat) (xs:List C):Env:=(2,id,live)::Dp id 0 xs
def ad (id:Nat):T:=.addr id 0
def tk (k:Nat) (el:TypeId):Nat×Nat×T:=(1,k,Ay el)
def Dr (s:Sheet):T:=.d (.agg (Cg s))
def tRt (r:Rt):T:=.d (.agg (cRt r))
def inR (x lo hi:Int):Bool:=decide (lo<=x)&&decide (x<=hi)
theorem Bo {x lo hi:Int}:inR x lo hi=true↔lo<=x/\x<=hi:=by simp [inR]
def num (n:Int):Bool:=inR n (-999) 999
theorem Jz {n:Int}:num n=true↔-999<=n/\n<=999:=Bo
def Fc (l:List Int):Bool:=l.all num&&inR l.length 1 6
def ab (n:Int):Int:=max n (-n)
def fA (n:Int):Int:=ab n / 100
def fB (n:Int):Int:=ab n / 10 % 10
def fC (n:Int):Int:=ab n % 10
def sg (like a b c:Int):Int:=if like<0 then -(100*a+10*b+c) else 100*a+10*b+c
def Mn (n:Int):List Int:=[sg n (fB n) (fA n) (fC n),sg n (fA n) (fC n) (fB n)]
def isTurned (r n:Int):Bool:=n==sg r (fB r) (fA r) (fC r)||n==sg r (fA r) (fC r) (fB r)
def isCarried (r n:Int):Bool:=(decide (0<fA r)&&n==sg r (fA r - 1) (fB r) (fC r))||(decide (0<fB r)&&n==sg r (fA r) (fB r - 1) (fC r))
def Ka (r n:Int):Int:=bif isTurned r n then 1 else bif isCarried r n then 2 else bif n==-r then 3 else 0
def Rt.kind (r:Rt) (n:Int):Int:=bif isTurned r.n n then 1 else bif isCarried r.n n then 2 else bif n==-r.n then 3 else bif !r.last&&n==r.next then 4 else 0
def Bl (l:List Int) (i:Nat):Rt:=bif (i+1).beq l.length then ⟨nth l i,0,true⟩ else ⟨nth l i,nth l (i+1),false⟩
end Go.Vc.Zn
namespace Go.Vc
open Go Go.ChangeShapes Go.WideShapes Go.Deep Go.RowKit
theorem Ja.none {P:Program} {o:Nat}:Ja P [] o fun xs=>xs=[]:=fun _ h=>h
theorem Ja.cons {P:Program} {f:Field} {fs:List Field} {o o':Nat} {g1 g2 g:List C->Prop} (ho:f.offset=o) (hc:o+P.cellsOf f.type=o') (h1:Ob P f.type g1) (h2:Ja P fs o' g2) (hg:∀ a b,g1 a->g2 b->g (a++b)):Ja P (f::fs) o g:=by
 subst hc
 exact ⟨ho,g1,g2,h1,h2,hg⟩
theorem Jx.weak {P:Program} {W:World} {t:TypeId} {v:Value} {G G':T->Prop} (h:Jx P W t v G) (hw:∀ x,G x->∃ y,G' y/\∀ p∈leT x y,p):Jx P W t v G':=by
 intro H enc d ps hd
 obtain ⟨⟨x,hx,K,hK⟩,ha⟩:=h H enc d ps hd
 obtain ⟨y,hy,hl⟩:=hw x hx
 exact ⟨⟨y,hy,K,fun vis hvis=>Xf hl (hK vis hvis)⟩,ha⟩
section
variable {α:Type} [Inhabited α]
end
theorem Aq9 {P:Program} {Gl:World->Prop} {H:Type} {enc:TypeId×Value->H} {W:World} {args:Array Value} {ds gs:List (DataW H)} {before:List MemPlace} {f:FuncId} {fn:Func} {s:ChangeSpec} {Gs:List T->Prop} {tb:TypeId} {ts:List TypeId}
  (hb:P.underlying tb=some .bool) (hr:fn.resultTypes=#[tb]) (hv:s.vars=[]) (hs:∀ ds:List (DataW H),ds.length=fn.params.size->s.fn H ds={ results:=[.lit (.bool true)],args:=ds })
  (hW:DataW.Whole enc P fn.params.toList s.vars false W args.toList ds gs before) (ht:fn.params.toList=ts) (hA:ArgsT P W ts args.toList Gs) (hl:∀ xs,Gs xs->Computes P Gl f xs (.ret (B true))) (hG:Gl W):
  Calls P f args W fun e W'=>∃ v,e=.returned v/\s.post enc P fn false true false false W args v W':=by
 subst ht
 have hW':=hW
 obtain ⟨p,q,hA0,hV,rfl,hfz,hnd⟩:=hW
 rw [hv] at hV
 obtain ⟨rfl,rfl⟩:=trodVars_none hV
 obtain ⟨⟨xs,hxs,K,hK⟩,again⟩:=hA.open H enc ds p hA0
 have hlen:ds.length=fn.params.size:=by
  have:∀ (ts:List TypeId) (vs:List Value) (ds:List (DataW H)) (p:List MemPlace),DataW.TrodAll enc P W 0 all true ts vs ds p->ds.length=ts.length:=by
   intro ts
   induction ts with
   |nil=>intro vs ds p h;obtain ⟨_,rfl,_⟩:=trodAll_nil h;rfl
   |cons t ts ih=>
    intro vs ds p h
    obtain ⟨v,vs',d,ds',a,b,rfl,rfl,rfl,_,h2⟩:=trodAll_cons h
    rw [List.length_cons,List.length_cons,ih _ _ _ h2]
  rw [this _ _ _ _ hA0]
  simp
 have hsp:=hs ds hlen
 have hc:=(hl xs hxs).2 (fun b=>if b<W.heap.size then K else 0) W args (fun b hb=>if_neg (by omega)) hG (hK _ fun b hb=>by rw [if_pos hb];exact Nat.le_refl _)
 refine hc.mono fun e W' ⟨hB,v,vis',he,_,_,hr'⟩=>?_
 have hv':v=.bool true:=by
  have hr'':Rep vis' W' (.v (.bool true)) v:=hr'
  cases hr''
  rfl
 subst hv'
 refine ⟨_,he,ds,[],p++[],[],p,[],hW',?_,?_,?_,?_,fun h=>by cases h⟩
 ·rw [List.append_nil,hsp,hr]
  exact trodAll_cons_mk (shut_bool hb _) trodAll_mk0
 ·rw [List.append_nil,hsp]
  refine again W' _ hB fun x hx=>?_
  have:=hW'.lt x (by simpa using hx)
  simpa using this
 ·rw [List.append_nil,hsp,hv]
  rfl
 ·have:=hB.frame (fun x=>x∈p++[]/\(x∈([]:List MemPlace)∨x∈p∨x∈([]:List MemPlace)))
  exact this
end Go.Vc
set_option maxRecDepth 100000
namespace Go.Vc.Zn
open Go Go.Proofs Go.Vc Go.Proofs.YtknoiciabjockaaGreat Go.ChangeShapes Go.WideShapes Go.ChangeAt Go.RowKit Go.Deep
theorem Ahs:Tryz.prog.cellsOf 3=1:=by kernel_rfl
theorem Aqa:laidOutB Tryz.prog=true:=by kernel_rfl
section
variable {W:World} {b0:Nat} {v:Value}
theorem Aqb {t:TypeId} {d:TypeDesc} (hu:Tryz.prog.underlying t=some d) (hd:(∃ e,d=.slice e)∨(∃ k,d=.int k)∨d=.bool∨d=.string) (h:Value.okWide Tryz.prog W .any b0 t v):Cell.okWide Tryz.prog W .any b0 t v:=by
 unfold Value.okWide at h
 rw [hu] at h
 rcases hd with ⟨e,rfl⟩|⟨k,rfl⟩|rfl|rfl<;>exact h
theorem Aqc (h:Value.okWide Tryz.prog W .any b0 3 v):Jx Tryz.prog W 3 v fun x=>∃ n,iR n/\x=I n:=by
 have hk:=Aqb Tryz.underlying3 (.inr (.inl ⟨_,rfl⟩)) h
 have hcell:v.cells.toList=[v]:=by
  unfold Cell.okWide at hk
  rw [Tryz.underlying3] at hk
  cases v<;>first|rfl|(exfalso;simpa [Cell.ok,Tryz.underlying3] using hk)
 intro H enc d ps hd
 obtain ⟨⟨x,⟨c,⟨n,hn,rfl⟩,rfl⟩,K,hK⟩,ha⟩:=(Gc.int (W:=W) (v:=v) Tryz.underlying3).arg hcell H enc d ps hd
 exact ⟨⟨_,⟨n,hn,rfl⟩,K,hK⟩,ha⟩
end
end Go.Vc.Zn
set_option maxRecDepth 100000
namespace Go.Vc.Zn
open Go Go.Proofs Go.Vc Go.Proofs.YtknoiciabjockaaGreat Go.ChangeShapes Go.WideShapes Go.ChangeAt Go.RowKit Go.Deep
theorem own:ownKnob Tryz.prog.godebug=none:=by kernel_rfl
noncomputable def Ad3 (os:Os):World:=World.holding Tryz.prog os ⟨#[],#[],[]⟩
def GlW (_:World):Prop:=True
theorem setW:Set Tryz.prog Y GlW:=⟨yok,fun _ _ _ _=>trivial,mixed⟩
end Go.Vc.Zn
set_option maxRecDepth 100000
namespace Go.Vc.Zn
open Go Go.Proofs Go.Proofs.YtknoiciabjockaaGreat
def chs (l:List Nat):List Char:=l.map Char.ofNat
def Qj:List Char:=chs [104,97,114,110,101,115,115]
def kfSum:List Char:=chs [101,53,97,100,53,56,54,50,99,51,53,52,102,99,55,102,51,50,55,53,100,97,56,101,50,48,54,98,55,50,52,57,53,48,97,53,97,52,48,55,48,50,49,102,51,53,53,48,52,49,56,50,57,53,102,50,55,54,55,50,97,50,55,99]
def Tg:List Char:=chs [99,117,116]
def Th:List (List Char):=chs [97,116]::([[70,111,117,110,100],[84,119,105,99,101],[68,97,121,115],[77,111,110,116,104]]:List (List Nat)).map fun l=>chs ([101,112,104,101,109,101,114,105,115,116,47,101,112,104,101,109,101,114,105,115,116,116,111,112,46,84,111,112]++l)
def Aht:List Char:=Qj++(kfSum::Tg::Th).flatMap fun l=>Char.ofNat 32::l
theorem io:Tryz.prog.initOrder=String.ofList Aht:=by kernel_rfl
theorem io2:Tryz.prog.initOrder.toList=Aht:=by rw [io,String.toList_ofList]
theorem words:wordsSigns Tryz.prog.initOrder.toList=Qj::kfSum::Tg::Th:=by rw [io2];kernel_rfl
theorem sumOK:isSumSigns kfSum=true:=by kernel_rfl
theorem harOK:(Qj== "harness".toList)=true:=by kernel_rfl
theorem Ahu:behindMainWord (wordsSigns Tryz.prog.initOrder.toList)=Tg::Th:=by
 rw [words]
 show (if ((Qj== "harness".toList||Qj== "ownmain".toList)&&isSumSigns kfSum)=true then Tg::Th else Qj::kfSum::Tg::Th)=_
 rw [harOK,sumOK]
 rfl
theorem Aqd {P:Program} {c:List Char} {r:List (List Char)} (hw:behindMainWord (wordsSigns P.initOrder.toList)=c::r) (h1:(c== "gc".toList)=false) (h2:(c== "spec".toList)=false) (h3:(c== "cut".toList)=true):P.make=some .cut:=by
 unfold Program.make
 rw [hw]
 simp only [h1,h2,h3,Bool.or_false,Bool.true_or,Bool.false_eq_true,if_false,if_true]
theorem Aqe {P:Program} {c:List Char} {r:List (List Char)} (hw:behindMainWord (wordsSigns P.initOrder.toList)=c::r) (h1:((stripLifts liftWords (c::r)).2.head?==some "cut".toList)=true) (h2:P.laysLater=false) (h3:P.bearsReflect=false)
  (h4:(stripLifts liftWords (c::r)).1.contains "leanrows"=false) (h5:P.doorFits (stripLifts liftWords (c::r)).1=true):P.mayEnter=true:=by
 unfold Program.mayEnter
 rw [hw]
 simp only [h1,h2,h3,h4,h5,Bool.not_false,Bool.or_true,Bool.and_self]
theorem Aqf:Tryz.prog.mayEnter=true:=Aqe Ahu (by kernel_rfl) (by kernel_rfl) (by kernel_rfl) (by kernel_rfl) (by kernel_rfl)
theorem makes:Tryz.prog.make=some .cut:=Aqd Ahu (by kernel_rfl) (by kernel_rfl) (by kernel_rfl)
theorem lifts:Tryz.prog.headLifts.contains "finals"=false:=by
 unfold Program.headLifts
 rw [io2]
 kernel_rfl
theorem final:Tryz.prog.liftsFinal=false:=by
 unfold Program.liftsFinal
 rw [lifts,io2]
 kernel_rfl
open Go Go.Proofs Go.Vc Go.RowKit
theorem Yh {Gl} (S:SP Gl) (x lo hi:Int):CO Gl 60 [I x,I lo,I hi] (.ret (B (inR x lo hi))):=by
 refine An S (.nil) Tryz.func60 (by kernel_rfl) ((eqB (decide (lo<=x)) true=true->eqB (decide (lo<=x)) true=true)/\(eqB (decide (lo<=x)) true=true->eqB (decide (lo<=x)) true=true)/\(decide (lo<=x)=true->eqB (decide (lo<=x)) true=true)/\(bif decide (lo<=x) then decide (x<=hi) else false)=inR x lo hi) (by kernel_rfl) ?_
 simp only [stdS,imp_self,implies_true,and_true,inR]
theorem Aqg {Gl} (S:SP Gl) (x:Int):CO Gl 104 [I x] (.ret (B (num x))):=by
 refine An S (.r (.ret (B (inR x (-999:Int) (999:Int)))) .nil) Tryz.func104 (by kernel_rfl) (CO Gl 60 [I x,I (-999:Int),I 999] (.ret (B (inR x (-999:Int) (999:Int))))/\inR x (-999:Int) (999:Int)=num x) (by kernel_rfl) ?_
 simp only [stdS,imp_self,implies_true,and_true,Yh S,num]
theorem Aqh {Gl} (S:SP Gl) (x:Int):CO Gl 103 [I x] (.ret (B (!num x))):=by
 refine An S (.r (.ret (B (num x))) .nil) Tryz.func103 (by kernel_rfl) (CO Gl 104 [I x] (.ret (B (num x)))/\(!num x)=!num x) (by kernel_rfl) ?_
 simp only [stdS,imp_self,implies_true,and_true,Aqg S]
theorem Qk {Gl} (S:SP Gl) (like a b c:Int) (ha:0<=a) (ha2:a<=99) (hb:0<=b) (hb2:b<=99) (hc:0<=c) (hc2:c<=99):CO Gl 300 [I like,I a,I b,I c] (.ret (I (sg like a b c))):=by
 refine Ao S (let A0:=((100:Int)*a+(10:Int)*b+c);((.br .nil .nil),(iR ((100:Int)*a)/\iR ((10:Int)*b)/\iR ((100:Int)*a+(10:Int)*b)/\iR A0/\(decide (like<(0:Int))=true->iR (-A0)/\-A0=sg like a b c)/\(decide (like<(0:Int))=false->(100:Int)*a+(10:Int)*b+c=sg like a b c)))) Tryz.func300 (by kernel_rfl) (by kernel_rfl) ?_
 simp only [Af,sg,decide_eq_true_eq,decide_eq_false_iff_not]
 exact ⟨by omega,by omega,by omega,by omega,fun h=>⟨by omega,by rw [if_pos h]⟩,fun h=>by rw [if_neg h]⟩
theorem Ad4 {Gl} (S:SP Gl) (r:Rt) (h:num r.n=true):CO Gl 299 [tRt r] (.ret (.tup [.c (Ci (fA r.n)),.c (Ci (fB r.n)),.c (Ci (fC r.n))])):=by
 refine Ao S (let A0:=(max r.1 (-r.1));((.nil),(iR (-r.1)/\((100:Int)≠(0:Int)/\iR (Int.tdiv A0 (100:Int)))/\((10:Int)≠(0:Int)/\iR (Int.tdiv A0 (10:Int)))/\(10:Int)≠(0:Int)/\(10:Int)≠(0:Int)/\Int.tdiv A0 (100:Int)=fA r.1/\Int.tmod (Int.tdiv A0 (10:Int)) (10:Int)=fB r.1/\Int.tmod A0 (10:Int)=fC r.1))) Tryz.func299 (by kernel_rfl) (by kernel_rfl) ?_
 have h:=Jz.1 h
 have h0:0<=max r.n (-r.n):=by omega
 have h1:max r.n (-r.n)<=999:=by omega
 have e1:Int.tdiv (max r.n (-r.n)) 100=fA r.n:=Int.tdiv_eq_ediv_of_nonneg h0
 have e2:Int.tdiv (max r.n (-r.n)) 10=ab r.n / 10:=Int.tdiv_eq_ediv_of_nonneg h0
 have e3:Int.tmod (ab r.n / 10) 10=fB r.n:=Int.tmod_eq_emod_of_nonneg (by unfold ab;omega)
 have e4:Int.tmod (max r.n (-r.n)) 10=fC r.n:=Int.tmod_eq_emod_of_nonneg h0
 simp only [Af]
 rw [e1,e2,e3,e4]
 refine ⟨by omega,⟨by decide,?_⟩,⟨by decide,?_⟩,by decide,by decide,rfl,rfl,rfl⟩
 ·unfold fA ab;omega
 ·unfold ab;omega
theorem Ad5 {Gl} (S:SP Gl) (r:Rt) (n:Int) (h:num r.n=true):CO Gl 190 [tRt r,I n] (.ret (B (isTurned r.n n))):=by
 refine Ao S (let A0:=(eqB (n==sg r.1 (fB r.1) (fA r.1) (fC r.1)) false=true->eqB (n==sg r.1 (fB r.1) (fA r.1) (fC r.1)) false=true);let A1:=(Rt.mk (Rt.n r) (Rt.next r) (Rt.last r));let A2:=[D.c (Ci (fA (Rt.n A1))),D.c (Ci (fB (Rt.n A1))),D.c (Ci (fC (Rt.n A1)))];let A3:=(n==sg r.1 (fB r.1) (fA r.1) (fC r.1));let A4:=(I (sg (Rt.n r) (fB (Rt.n r)) (fA (Rt.n r)) (fC (Rt.n r))));let A5:=(I (sg (Rt.n r) (fA (Rt.n r)) (fC (Rt.n r)) (fB (Rt.n r))));((.r (.ret (.tup A2)) (.r (.ret A4) (.r (.ret A5) .nil))),(CO Gl 299 [tRt A1] (.ret (.tup A2))/\CO Gl 300 [I (Rt.n r),I (fB (Rt.n r)),I (fA (Rt.n r)),I (fC (Rt.n r))] (.ret A4)/\A0/\A0/\A0/\A0/\A0/\(eqB A3 false=true->CO Gl 300 [I (Rt.n r),I (fA (Rt.n r)),I (fC (Rt.n r)),I (fB (Rt.n r))] (.ret A5))/\A0/\A0/\(A3=false->eqB A3 false=true)/\(bif n==sg r.1 (fB r.1) (fA r.1) (fC r.1) then true else n==sg r.1 (fA r.1) (fC r.1) (fB r.1))=isTurned r.1 n))) Tryz.func190 (by kernel_rfl) (by kernel_rfl) ?_
 have h':=Jz.1 h
 have fa:0<=fA r.n/\fA r.n<=9:=by unfold fA ab;omega
 have fb:0<=fB r.n/\fB r.n<=9:=by unfold fB ab;omega
 have fc:0<=fC r.n/\fC r.n<=9:=by unfold fC ab;omega
 simp only [stdS,imp_self,implies_true,and_true]
 refine ⟨Ad4 S r h,Qk S _ _ _ _ fb.1 (by omega) fa.1 (by omega) fc.1 (by omega),fun _=>Qk S _ _ _ _ fa.1 (by omega) fc.1 (by omega) fb.1 (by omega),?_⟩
 simp only [isTurned]
theorem Ad6 {Gl} (S:SP Gl) (r:Rt) (n:Int) (h:num r.n=true):CO Gl 191 [tRt r,I n] (.ret (B (isCarried r.n n))):=by
 refine Ao S (let A0:=(eqB (bif decide ((0:Int)<fA r.1) then n==sg r.1 (fA r.1-(1:Int)) (fB r.1) (fC r.1) else false) false&&eqB (decide ((0:Int)<fB r.1)) true);let A1:=(bif decide ((0:Int)<fA r.1) then n==sg r.1 (fA r.1-(1:Int)) (fB r.1) (fC r.1) else false);let A2:=(eqB (decide ((0:Int)<fA r.1)) true=true->eqB (decide ((0:Int)<fA r.1)) true=true);let A3:=(Rt.mk (Rt.n r) (Rt.next r) (Rt.last r));let A4:=(A0=true->A0=true);let A5:=(eqB A1 false=true->eqB A1 false=true);let A6:=[D.c (Ci (fA (Rt.n A3))),D.c (Ci (fB (Rt.n A3))),D.c (Ci (fC (Rt.n A3)))];let A7:=(I (sg (Rt.n r) (fA (Rt.n r)-(1:Int)) (fB (Rt.n r)) (fC (Rt.n r))));let A8:=(I (sg (Rt.n r) (fA (Rt.n r)) (fB (Rt.n r)-(1:Int)) (fC (Rt.n r))));((.r (.ret (.tup A6)) (.r (.ret A7) (.r (.ret A8) .nil))),(CO Gl 299 [tRt A3] (.ret (.tup A6))/\A2/\A2/\(eqB (decide ((0:Int)<fA r.1)) true=true->iR (fA r.1-(1:Int)))/\A2/\A2/\A2/\A2/\(eqB (decide ((0:Int)<fA r.1)) true=true->CO Gl 300 [I (Rt.n r),I (fA (Rt.n r)-(1:Int)),I (fB (Rt.n r)),I (fC (Rt.n r))] (.ret A7))/\A2/\A2/\(decide ((0:Int)<fA r.1)=true->eqB (decide ((0:Int)<fA r.1)) true=true)/\A5/\A5/\A4/\A4/\(A0=true->iR (fB r.1-(1:Int)))/\A4/\A4/\A4/\A4/\(A0=true->CO Gl 300 [I (Rt.n r),I (fA (Rt.n r)),I (fB (Rt.n r)-(1:Int)),I (fC (Rt.n r))] (.ret A8))/\A4/\A4/\A5/\(eqB A1 false=true->decide ((0:Int)<fB r.1)=true->A0=true)/\(A1=false->eqB A1 false=true)/\(bif bif decide ((0:Int)<fA r.1) then n==sg r.1 (fA r.1-(1:Int)) (fB r.1) (fC r.1) else false then true else bif decide ((0:Int)<fB r.1) then n==sg r.1 (fA r.1) (fB r.1-(1:Int)) (fC r.1) else false)=isCarried r.1 n))) Tryz.func191 (by kernel_rfl) (by kernel_rfl) ?_
 have h':=Jz.1 h
 have fa:0<=fA r.n/\fA r.n<=9:=by unfold fA ab;omega
 have fb:0<=fB r.n/\fB r.n<=9:=by unfold fB ab;omega
 have fc:0<=fC r.n/\fC r.n<=9:=by unfold fC ab;omega
 have pa:decide (0<fA r.n)=true->0<=fA r.n - 1:=fun h=>by have:=of_decide_eq_true h;omega
 have pb:decide (0<fB r.n)=true->0<=fB r.n - 1:=fun h=>by have:=of_decide_eq_true h;omega
 simp only [stdS,imp_self,implies_true,and_true,Bool.and_eq_true]
 repeat' first|with_reducible apply And.intro|with_reducible intro _
 all_goals first
  |contradiction
  |with_reducible exact Ad4 S r h
  |with_reducible exact (Af _).2 (by omega)
  |with_reducible exact Qk S _ _ _ _ (pa ‹_›) (by omega) fb.1 (by omega) fc.1 (by omega)
  |with_reducible exact Qk S _ _ _ _ fa.1 (by omega) (pb (by simp_all)) (by omega) fc.1 (by omega)
  |with_reducible exact rfl
  |exact Ad4 S r h
  |exact (Af _).2 (by omega)
  |exact Qk S _ _ _ _ (pa ‹_›) (by omega) fb.1 (by omega) fc.1 (by omega)
  |exact Qk S _ _ _ _ fa.1 (by omega) (pb (by simp_all)) (by omega) fc.1 (by omega)
  |exact rfl
  |exact trivial
  |rfl
  |omega
theorem Ad7 {Gl} (S:SP Gl) (r:Rt) (n:Int) (h:num r.n=true):CO Gl 192 [tRt r,I n] (.ret (B (n==-r.n))):=by
 refine An S (.nil) Tryz.func192 (by kernel_rfl) (iR (-r.1)/\(n==-r.1)=(n==-r.1)) (by kernel_rfl) ?_
 have h:=Jz.1 h
 simp only [Af]
 exact ⟨by omega,trivial⟩
theorem Ahv {Gl} (S:SP Gl) (r:Rt) (n:Int):CO Gl 193 [tRt r,I n] (.ret (B (!r.last&&n==r.next))):=by
 refine An S (.nil) Tryz.func193 (by kernel_rfl) ((eqB (!r.3) true=true->eqB (!r.3) true=true)/\(eqB (!r.3) true=true->eqB (!r.3) true=true)/\(eqB (!r.3) true=true->eqB (!r.3) true=true)/\((!r.3)=true->eqB (!r.3) true=true)/\(bif !r.3 then n==r.2 else false)=(!r.3&&n==r.2)) (by kernel_rfl) ?_
 simp only [stdS,imp_self,implies_true,and_true]
theorem Aqi {Gl} (S:SP Gl) (r:Rt) (n:Int) (h:num r.n=true):CO Gl 107 [tRt r,I n] (.ret (I (r.kind n))):=by
 refine Ao S (let A0:=(↑(5:Nat):Int);((.un (6:Nat) (.tt (.skip (17:Nat) (.skip (18:Nat) (.skip (19:Nat) (.skip (20:Nat) (.ff (.tt (.sure 17 (.sure 18 (.sure 19 (.sure 20 (.r (.ret (B (isTurned (Rt.n r) n))) (.br .nil (.tt (.sure 17 (.sure 18 (.sure 19 (.sure 20 (.r (.ret (B (isCarried (Rt.n r) n))) (.br .nil (.tt (.sure 17 (.sure 18 (.sure 19 (.sure 20 (.r (.ret (B (n==-Rt.n r))) (.br .nil (.tt (.sure 17 (.sure 18 (.sure 19 (.sure 20 (.r (.ret (B (!Rt.last r&&n==Rt.next r))) (.br .nil (.ff .nil)))))))))))))))))))))))))))))))))))),(true=true/\((0:Int)<=0/\0<A0)/\false=false/\false=false/\false=false/\false=false/\(false=true->false=true)/\false=false/\iR ((0:Int)+1)/\true=true/\((0:Int)<=0+(1:Int)/\(0:Int)+1<A0)/\true=true/\true=true/\true=true/\true=true/\CO Gl 190 [tRt r,I n] (.ret (B (isTurned (Rt.n r) n)))/\((bif true then isTurned r.1 n else false)=true->(0:Int)+1=Rt.kind r n)/\((bif true then isTurned r.1 n else false)=false->iR ((0:Int)+1+(1:Int))/\true=true/\((0:Int)<=0+(1:Int)+1/\(0:Int)+1+1<A0)/\true=true/\true=true/\true=true/\true=true/\CO Gl 191 [tRt r,I n] (.ret (B (isCarried (Rt.n r) n)))/\((bif true then isCarried r.1 n else false)=true->(0:Int)+1+(1:Int)=Rt.kind r n)/\((bif true then isCarried r.1 n else false)=false->iR ((0:Int)+1+(1:Int)+1)/\true=true/\((0:Int)<=0+(1:Int)+1+(1:Int)/\(0:Int)+1+(1:Int)+1<A0)/\true=true/\true=true/\true=true/\true=true/\CO Gl 192 [tRt r,I n] (.ret (B (n==-Rt.n r)))/\((bif true then n==-r.1 else false)=true->(0:Int)+1+(1:Int)+1=Rt.kind r n)/\((bif true then n==-r.1 else false)=false->iR ((0:Int)+1+(1:Int)+1+(1:Int))/\true=true/\((0:Int)<=0+(1:Int)+1+(1:Int)+1/\(0:Int)+1+(1:Int)+1+1<A0)/\true=true/\true=true/\true=true/\true=true/\CO Gl 193 [tRt r,I n] (.ret (B (!Rt.last r&&n==Rt.next r)))/\((bif true then !r.3&&n==r.2 else false)=true->(0:Int)+1+(1:Int)+1+(1:Int)=Rt.kind r n)/\((bif true then !r.3&&n==r.2 else false)=false->iR ((0:Int)+1+(1:Int)+1+(1:Int)+1)/\false=false/\(0:Int)=Rt.kind r n))))))) Tryz.func107 (by kernel_rfl) (by kernel_rfl) ?_
 dsimp only
 have h':=Jz.1 h
 repeat' first|with_reducible apply And.intro|with_reducible intro _
 all_goals first
  |contradiction
  |with_reducible exact Ad5 S r n h
  |with_reducible exact Ad6 S r n h
  |with_reducible exact Ad7 S r n h
  |with_reducible exact Ahv S r n
  |with_reducible exact (Af _).2 (by omega)
  |with_reducible exact by simp_all [Rt.kind,Bool.cond_eq_ite]
  |exact Ad5 S r n h
  |exact Ad6 S r n h
  |exact Ad7 S r n h
  |exact Ahv S r n
  |exact (Af _).2 (by omega)
  |exact by simp_all [Rt.kind,Bool.cond_eq_ite]
  |exact trivial
  |rfl
  |omega
def upIdx {α:Type} [Inhabited α] (p:α->Bool) (l:List α):Nat:=Bm (fun x=>!p x) l
def idxI {α:Type} [Inhabited α] (p:α->Bool) (l:List α):Int:=bif l.all (fun x=>!p x) then -1 else upIdx p l
theorem idxI_spec {α:Type} [Inhabited α] (p:α->Bool) (l:List α):decide (0<=idxI p l)=!l.all (fun x=>!p x):=by
 unfold idxI
 cases l.all (fun x=>!p x) with
 |true=>rfl
 |false=>
  simp only [cond_false]
  exact decide_eq_true (Int.natCast_nonneg _)
theorem idx_loop {α:Type} [Inhabited α] (p:α->Bool) (l:List α) (C:Nat->Prop) (hC:∀ k,k<l.length->C k):l.length<=9223372036854775807->∀ k:Nat,k<=upIdx p l->
  ((k:Int)<(l.length:Int)->(0<=(k:Int)/\(k:Int)<(l.length:Int))/\C k/\(p (nth l k)=true->(k:Int)=idxI p l)/\
   (p (nth l k)=false->(-9223372036854775808<=(k:Int)+1/\(k:Int)+1<=9223372036854775807)/\k<upIdx p l/\(k:Int)+1=((k+1:Nat):Int)/\True))/\
  (¬ (k:Int)<(l.length:Int)->-1=idxI p l):=by
 intro hm k hk
 refine ⟨fun hl=>⟨by omega,hC k (by omega),fun h=>?_,fun h=>⟨by omega,Id hk (by omega) (by rw [h];rfl),by omega,trivial⟩⟩,fun hl=>?_⟩
 ·have ha:l.all (fun x=>!p x)=false:=Qi (p:=fun x=>!p x) (k:=k) (by omega) (by rw [h];rfl)
  have he:upIdx p l=k:=by
   rcases Nat.lt_or_ge k (upIdx p l) with h2|h2
   ·have:=Jy (p:=fun x=>!p x) h2
    rw [h] at this
    cases this
   ·omega
  unfold idxI
  rw [ha,he]
  rfl
 ·have ha:l.all (fun x=>!p x)=true:=Lh (by unfold upIdx at hk;omega)
  unfold idxI
  rw [ha]
  rfl
def sameL {α:Type} [Inhabited α] (eq:α->α->Bool) (a b:List α):Bool:=a.length==b.length&&(List.range a.length).all fun i=>eq (nth a i) (nth b i)
theorem same_loop {α:Type} [Inhabited α] (eq:α->α->Bool) (a b:List α):a.length<=9223372036854775807->b.length<=9223372036854775807->
  (((a.length:Int) != (b.length:Int))=true->false=sameL eq a b)/\
  (((a.length:Int) != (b.length:Int))=false->∀ k:Nat,k<=Bm (fun i=>eq (nth a i) (nth b i)) (List.range a.length)->a.length<=9223372036854775807->
   ((k:Int)<(a.length:Int)->(0<=(k:Int)/\(k:Int)<(a.length:Int))/\(0<=(k:Int)/\(k:Int)<(b.length:Int))/\
    ((!eq (nth a k) (nth b k))=true->false=sameL eq a b)/\
    ((!eq (nth a k) (nth b k))=false->(-9223372036854775808<=(k:Int)+1/\(k:Int)+1<=9223372036854775807)/\k<Bm (fun i=>eq (nth a i) (nth b i)) (List.range a.length)/\(k:Int)+1=((k+1:Nat):Int)/\True))/\
   (¬ (k:Int)<(a.length:Int)->true=sameL eq a b)):=by
 intro h1 h2
 refine ⟨fun h=>?_,fun h k hk _=>⟨fun hl=>⟨⟨by omega,hl⟩,?_,fun hne=>?_,fun he=>?_⟩,fun hl=>?_⟩⟩
 ·simp only [bne_iff_ne,ne_eq,Int.natCast_inj] at h
  unfold sameL
  simp [h]
 ·simp only [bne_eq_false_iff_eq,Int.natCast_inj] at h
  omega
 ·have hlt:k<(List.range a.length).length:=by rw [List.length_range];omega
  have:(fun i=>eq (nth a i) (nth b i)) (nth (List.range a.length) k)=false:=by
   rw [Cr (by omega)]
   simpa using hne
  unfold sameL
  rw [Qi hlt this]
  simp
 ·have hlt:k<(List.range a.length).length:=by rw [List.length_range];omega
  refine ⟨by omega,Id hk hlt ?_,by omega,trivial⟩
  rw [Cr (by omega)]
  simpa using he
 ·simp only [bne_eq_false_iff_eq,Int.natCast_inj] at h
  have:=Lh (p:=fun i=>eq (nth a i) (nth b i)) (l:=List.range a.length) (by rw [List.length_range];omega)
  unfold sameL
  rw [this,h]
  simp
theorem Aqj {Gl} (S:SP Gl) (a b:List Int):CO Gl 20 [L eI a,L eI b] (.ret (B (sameL (·==·) a b))):=by
 refine Ao S (let A0:=(fun (i:Nat)=>nth a i==nth b i);((.br .nil (.loop (Bm A0 (List.range a.length)) (fun k=>[v 5 (I k),v 0 (L eI a),v 1 (L eI b)]) fun k0=>.br (.br .nil .nil) .nil)),(a.length<=maxLen->b.length<=maxLen->(((a.length:Int) != (b.length:Int))=true->false=sameL (fun x1 x2=>x1==x2) a b)/\(((a.length:Int) != (b.length:Int))=false->(0=(↑(0:Nat):Int)/\(sR eI a)/\sR eI b)/\∀ (k0:Nat),k0<=Bm A0 (List.range a.length)->a.length<=maxLen->(decide ((k0:Int)<(a.length:Int))=true->(0<=(k0:Int)/\(k0:Int)<(a.length:Int))/\(0<=(k0:Int)/\(k0:Int)<(b.length:Int))/\((nth a k0 != nth b k0)=true->false=sameL (fun x1 x2=>x1==x2) a b)/\((nth a k0 != nth b k0)=false->iR ((k0:Int)+1)/\k0<Bm A0 (List.range a.length)/\(k0:Int)+1=(↑(k0+1):Int)/\(sR eI a)/\sR eI b))/\(decide ((k0:Int)<(a.length:Int))=false->true=sameL (fun x1 x2=>x1==x2) a b))))) Tryz.func20 (by kernel_rfl) (by kernel_rfl) ?_
 simp only [stdS,imp_self,implies_true,and_true,decide_eq_true_eq,decide_eq_false_iff_not,Bi,Af]
 exact same_loop (·==·) a b
def ltL:List Int->List Int->Bool
 | [],[]=>false
 | [],_::_=>true
 |_::_,[]=>false
 |x::a,y::b=>bif x==y then ltL a b else decide (x<y)
def sameTo (a b:List Int):Nat:=Bm (fun i=>nth a i==nth b i) (List.range (min a.length b.length))
theorem Aqk {Gl} (S:SP Gl) (l:List Int) (f:FuncId) (p:Int->Bool) (hf:∀ i,i<l.length->CO Gl f [I (nth l i)] (.ret (B (p (nth l i))))):CO Gl 189 [L eI l,.fn f [] []] (.ret (I (idxI p l))):=by
 refine An S (.loop (upIdx p l) (fun k=>[v 8 (I k),v 7 (I l.length),v 0 (L eI l),v 1 (T.fn f [] [])]) fun k0=>.br (.r (.ret (B (p (nth l k0)))) (.br .nil .nil)) .nil) Tryz.func189 (by kernel_rfl) (l.length<=maxLen->(0=(↑(0:Nat):Int)/\(l.length:Int)=(l.length:Int)/\(sR eI l)/\f=f)/\∀ (k0:Nat),k0<=upIdx p l->(decide ((k0:Int)<(l.length:Int))=true->(0<=(k0:Int)/\(k0:Int)<(l.length:Int))/\CO Gl f [I (nth l k0)] (.ret (B (p (nth l k0))))/\(p (nth l k0)=true->(k0:Int)=idxI p l)/\(p (nth l k0)=false->iR ((k0:Int)+1)/\k0<upIdx p l/\(k0:Int)+1=(↑(k0+1):Int)/\(l.length:Int)=(l.length:Int)/\(sR eI l)/\f=f))/\(decide ((k0:Int)<(l.length:Int))=false->(-1:Int)=idxI p l)) (by kernel_rfl) ?_
 simp only [stdS,imp_self,implies_true,and_true,decide_eq_true_eq,decide_eq_false_iff_not,Bi,Af]
 exact idx_loop p l _ hf
theorem Ti {Gl} (S:SP Gl) (l:List Int) (f:FuncId) (p:Int->Bool) (hf:∀ i,i<l.length->CO Gl f [I (nth l i)] (.ret (B (p (nth l i))))):CO Gl 102 [L eI l,.fn f [] []] (.ret (B (!l.all (fun x=>!p x)))):=by
 refine An S (.r (.ret (I (idxI p l))) .nil) Tryz.func102 (by kernel_rfl) (CO Gl 189 [L eI l,T.fn f [] []] (.ret (I (idxI p l)))/\decide ((0:Int)<=idxI p l)=!List.all l fun x=>!p x) (by kernel_rfl) ?_
 exact ⟨Aqk S l f p hf,idxI_spec p l⟩
theorem Aql {Gl} (S:SP Gl) (l:List Int):CO Gl 37 [L eI l] (.ret (B (Fc l))):=by
 refine Ao S (let A0:=(inR (l.length:Int) (1:Int) (6:Int));((.r (.ret (B A0)) (.r (.ret (B !List.all l fun x=>!!num x)) .nil)),(l.length<=maxLen->CO Gl 60 [I l.length,I 1,I 6] (.ret (B A0))/\(eqB A0 true=true->eqB A0 true=true)/\(eqB A0 true=true->CO Gl 102 [L eI l,T.fn (103:FuncId) [] []] (.ret (B !List.all l fun x=>!!num x)))/\(eqB A0 true=true->eqB A0 true=true)/\(inR (l.length:Int) (1:Int) (6:Int)=true->eqB A0 true=true)/\(bif inR (l.length:Int) (1:Int) (6:Int) then !!List.all l fun x=>!!num x else false)=Fc l))) Tryz.func37 (by kernel_rfl) (by kernel_rfl) ?_
 dsimp only
 intro hm
 have hc:∀ i,i<l.length->CO Gl 103 [I (nth l i)] (.ret (B (!num (nth l i)))):=fun i _=>Aqh S _
 have h1:=Ti S l 103 (fun n=>!num n) hc
 refine ⟨Yh S _ _ _,fun h=>h,fun _=>h1,fun h=>h,fun h=>by rw [Acz];exact h,?_⟩
 unfold Fc
 simp only [Bool.not_not]
 cases l.all num<;>cases inR (l.length:Int) 1 6<;>rfl
theorem rt_n (l:List Int) (i:Nat):(Bl l i).n=nth l i:=by unfold Bl;cases (i+1).beq l.length<;>rfl
def okRow (r l:List Int) (i:Nat):Bool:=nth l i==nth r i||(Bl r i).kind (nth l i) != 0
def Yi (r l:List Int):Nat->List Err
 |0=>[]
 |k+1=>Yi r l k++bif nth l k==nth r k then [] else [⟨k,(Bl r k).kind (nth l k)⟩]
def Yj (r l:List Int):Bool:=(List.range r.length).all (okRow r l)
def errL (r l:List Int):List Err:=bif Yj r l then Yi r l r.length else []
theorem Ahw {l:List Int} (h:l.all num=true) (i:Nat) (hi:i<l.length):num (nth l i)=true:=List.all_eq_true.1 h _ (Er hi)
def col (s:Sheet) (i:Nat):List Int:=nth s.cols i
def rows (s:Sheet):Nat:=(col s 0).length
def Mo (s:Sheet) (i:Nat):Bool:=Fc (col s i)&&((col s i).length==rows s&&inR (nth s.errs i) 0 2)
def Sheet.ok (s:Sheet):Bool:=inR s.cols.length 1 3&&(s.errs.length==s.cols.length&&(List.range s.cols.length).all (Mo s))
theorem Ahx (a b:Nat):((a:Int) != (b:Int))=!(a==b):=by
 rw [Bool.eq_iff_iff];simp only [bne_iff_ne,Bool.not_eq_true',beq_eq_false_iff_ne,ne_eq];omega
theorem Kb {s:Sheet} (h:s.ok=true):1<=s.cols.length/\s.cols.length<=3/\s.errs.length=s.cols.length/\∀ i,i<s.cols.length->Mo s i=true:=by
 unfold Sheet.ok at h
 simp only [Bool.and_eq_true,beq_iff_eq,Bo,List.all_eq_true,List.mem_range] at h
 exact ⟨by omega,by omega,h.2.1,h.2.2⟩
theorem Kc {s:Sheet} {i:Nat} (h:Mo s i=true):(col s i).length=rows s/\(col s i).all num=true/\1<=rows s/\rows s<=6/\0<=nth s.errs i/\nth s.errs i<=2:=by
 unfold Mo Fc at h
 simp only [Bool.and_eq_true,beq_iff_eq,Bo] at h
 obtain ⟨⟨h1,h2⟩,h3,h4⟩:=h
 exact ⟨h3,h1,by omega,by omega,h4.1,h4.2⟩
def Ad9 (s:Sheet) (r:List Int) (i:Nat):Bool:=Yj r (col s i)&&decide ((errL r (col s i)).length<=nth s.errs i)
def agrees (s:Sheet) (r:List Int):Bool:=(List.range s.cols.length).all (Ad9 s r)
def listed (l:List Int) (n:Int):Bool:=!l.all (fun x=>!(x==n))
def Mp (l:List Int) (n:Int):Nat:=Bm (fun x=>decide (x<n)) l
def Jc (l:List Int) (n:Int):List Int:=bif listed l n then l else l.take (Mp l n)++[n]++l.drop (Mp l n)
def wordOf (n many:Int):Int:=bif n==0 then 1 else bif n==many then 3 else 2
theorem Mq {i k:Nat} (h:i<k):Nat.blt i k=true:=Nat.ble_eq_true_of_le h
theorem Od {i k:Nat} (h:¬ i<k):Nat.blt i k=false:=by
 rw [Bool.eq_false_iff];exact fun hb=>h (Nat.le_of_ble_eq_true hb)
def Jd (c:Int):List Int:=Mn c++[c+10,c - 10,c+100,c - 100,-c]
def isSrc (c x:Int):Bool:=num x&&Ka x c != 0
def Kd (out:List Int) (c:Int):Nat->List Int
 |0=>out
 |k+1=>bif isSrc c (nth (Jd c) k) then Jc (Kd out c k) (nth (Jd c) k) else Kd out c k
def cell (s:Sheet) (i row:Nat):Int:=nth (nth s.cols i) row
def Mr (s:Sheet) (row:Nat) (out:List Int) (i:Nat):List Int:=bif Nat.blt 0 row then Jc (Jc out (cell s i row)) (cell s i (row - 1)) else Jc out (cell s i row)
def Ie (s:Sheet) (row:Nat):Nat->List Int
 |0=>[]
 |i+1=>Kd (Mr s row (Ie s row i) i) (cell s i row) 7
def Ct (s:Sheet) (row:Nat):List Int:=Ie s row s.cols.length
theorem Yk (l:List Int) (n:Int):(Jc l n).length<=l.length+1:=by
 unfold Jc
 cases listed l n with
 |true=>simp
 |false=>simp [List.length_take,List.length_drop];omega
theorem Ahy (out:List Int) (c:Int):∀ k,(Kd out c k).length<=out.length+k
 |0=>Nat.le_refl _
 |k+1=>by
  have h1:=Ahy out c k
  have h2:=Yk (Kd out c k) (nth (Jd c) k)
  unfold Kd
  cases isSrc c (nth (Jd c) k)<;>simp only [cond_true,cond_false]<;>omega
theorem Aqm (s:Sheet) (row:Nat) (out:List Int) (i:Nat):(Mr s row out i).length<=out.length+2:=by
 have h1:=Yk out (cell s i row)
 have h2:=Yk (Jc out (cell s i row)) (cell s i (row - 1))
 unfold Mr
 cases Nat.blt 0 row<;>simp only [cond_true,cond_false]<;>omega
theorem Ahz (s:Sheet) (row:Nat):∀ i,(Ie s row i).length<=9*i
 |0=>Nat.le_refl _
 |i+1=>by
  have h1:=Ahz s row i
  have h2:=Aqm s row (Ie s row i) i
  have h3:=Ahy (Mr s row (Ie s row i) i) (cell s i row) 7
  unfold Ie
  omega
theorem Aqn (c:Int):(Jd c).length=7:=rfl
def Am:Int:=-999
def Ek (l:List Int):Nat:=Bm (fun k:Nat=>listed l (Am+(k:Int))) (List.range (l.length+1))
def Bw (l:List Int):Int:=Am+Ek l
theorem Ai0:∀ (n:Nat) (l:List Int),(∀ i:Nat,i<n->Am+(i:Int)∈l)->n<=l.length
 |0,_,_=>Nat.zero_le _
 |n+1,l,h=>by
  have hm:=h n (by omega)
  have:=Ai0 n (l.erase (Am+(n:Int))) fun i hi=>(List.mem_erase_of_ne (by omega)).2 (h i (by omega))
  rw [List.length_erase_of_mem hm] at this
  have:=List.length_pos_of_mem hm
  omega
theorem Tj {l:List Int} {n:Int}:listed l n=true↔n∈l:=by
 unfold listed
 rw [Bool.not_eq_true',List.all_eq_false]
 constructor
 ·rintro ⟨x,hx,h⟩
  have:x=n:=by simpa using h
  subst this;exact hx
 ·intro h
  exact ⟨n,h,by simp⟩
theorem Ada {l:List Int} {k:Nat} (h:k<Ek l):listed l (Am+(k:Int))=true:=by
 have hu:Ek l<=l.length+1:=by have:=Lg (p:=fun k:Nat=>listed l (Am+(k:Int))) (l:=List.range (l.length+1));rw [List.length_range] at this;exact this
 have:=Jy (p:=fun k:Nat=>listed l (Am+(k:Int))) (l:=List.range (l.length+1)) h
 rw [Cr (by omega)] at this
 exact this
theorem Yl (l:List Int):listed l (Bw l)=false/\Ek l<=l.length:=by
 have hu:Ek l<=l.length+1:=by have:=Lg (p:=fun k:Nat=>listed l (Am+(k:Int))) (l:=List.range (l.length+1));rw [List.length_range] at this;exact this
 rcases Nat.lt_or_ge (Ek l) (l.length+1) with h|h
 ·have:=Yg (p:=fun k:Nat=>listed l (Am+(k:Int))) (l:=List.range (l.length+1)) (by rw [List.length_range];exact h)
  have hn:nth (List.range (l.length+1)) (Bm (fun k:Nat=>listed l (Am+(k:Int))) (List.range (l.length+1)))=Ek l:=Cr h
  rw [hn] at this
  exact ⟨this,by omega⟩
 ·have:=Ai0 (l.length+1) l fun i hi=>Tj.1 (Ada (by omega))
  omega
def Fk (s:Sheet) (r:Nat):List Int:=Jc (Ct s r) (Bw (Ct s r))
def Dn (s:Sheet):List (List Int):=(List.range (rows s)).map (Fk s)
theorem Ai1 {s:Sheet} (hs:s.ok=true) (r:Nat):(Ct s r).length<=27:=by
 obtain ⟨l1,l2,l3,l4⟩:=Kb hs
 have:=Ahz s r s.cols.length
 unfold Ct
 omega
def Ql (l:List (List Int)):Nat->List Int
 |0=>nth l 0
 |k+1=>bif ltL (nth l k) (Ql l k) then nth l k else Ql l k
def Tm (l:List (List Int)):List Int:=Ql l l.length
def okH (s:Sheet) (now:List Int) (r:Nat) (left:List Int) (i:Nat):Bool:=nth (nth s.cols i) r==nth now 0||(decide (1<=nth left i)&&(Bl now 0).kind (nth (nth s.cols i) r) != 0)
def Ig (s:Sheet) (now:List Int) (r:Nat) (left:List Int) (i:Nat):Int:=nth left i - bif nth (nth s.cols i) r==nth now 0 then 0 else 1
def Bx (s:Sheet) (now:List Int) (r:Nat) (left:List Int):List Int:=(List.range left.length).map (Ig s now r left)
def okAll (s:Sheet) (now:List Int) (r:Nat) (left:List Int):Bool:=(List.range left.length).all (okH s now r left)
def Ms (s:Sheet) (now:List Int) (r:Nat) (left:List Int):Nat:=Bm (okH s now r left) (List.range left.length)
def El (s:Sheet) (all:List (List Int)):Nat->List Int->List Int->List (List Int)
 |0,e,_=>[e]
 |r+1,e,left=>(nth all r).flatMap fun x=>bif okAll s (x::e) r left then El s all r (x::e) (Bx s (x::e) r left) else []
def Ke (s:Sheet) (all:List (List Int)) (r:Nat) (e left:List Int) (x:Int):List (List Int):=bif okAll s (x::e) r left then El s all r (x::e) (Bx s (x::e) r left) else []
def Eg (s:Sheet) (all:List (List Int)) (r:Nat) (e left:List Int) (k:Nat):List (List Int):=((nth all r).take k).flatMap (Ke s all r e left)
theorem Aqo {s:Sheet} {all:List (List Int)} {r:Nat} {e left:List Int} {k:Nat} (hk:k<(nth all r).length):Eg s all r e left (k+1)=Eg s all r e left k++Ke s all r e left (nth (nth all r) k):=by
 unfold Eg
 rw [Lf hk,List.flatMap_append,List.flatMap_singleton]
theorem Aqp (s:Sheet) (all:List (List Int)) (r:Nat) (e left:List Int):Eg s all r e left (nth all r).length=El s all (r+1) e left:=by
 unfold Eg
 rw [List.take_length]
 rfl
theorem Ai2 {α:Type} {f:Int->List α} {c:Nat}:∀ {l:List Int},(∀ x,(f x).length<=c)->(l.flatMap f).length<=l.length*c
 | [],_=>by simp
 |x::l,h=>by
  have h1:=Ai2 (l:=l) h
  have h2:=h x
  rw [List.flatMap_cons,List.length_append,List.length_cons,Nat.succ_mul]
  omega
theorem Ai3 {s:Sheet} {all:List (List Int)} (hall:∀ r,(nth all r).length<=28):∀ (r:Nat) (e left:List Int),(El s all r e left).length<=28 ^ r
 |0,_,_=>Nat.le_refl _
 |r+1,e,left=>by
  have h1:(El s all (r+1) e left).length<=(nth all r).length*28 ^ r:=Ai2 fun x=>by
   cases okAll s (x::e) r left with
   |true=>exact Ai3 hall r _ _
   |false=>exact Nat.zero_le _
  have h2:=Nat.mul_le_mul_right (28 ^ r) (hall r)
  rw [Nat.pow_succ,Nat.mul_comm (28 ^ r) 28]
  omega
def Ba (s:Sheet) (row:Nat):List Int:=s.cols.map fun l=>nth l row
def Li (s:Sheet) (l:List Int):Bool:=!Fc l||!(l.length==rows s)
theorem Ai4 {Gl} (S:SP Gl) (s:Sheet) (row:Nat) (h:∀ i,i<s.cols.length->row<(nth s.cols i).length) (hl:s.cols.length<=1000):CO Gl 227 [Dr s,I row] (.ret (L eI (Ba s row))):=by
 refine Ao S (let A0:=(Ba s row);let A1:=(s.1.length:Int);((.loop (List.length (Sheet.cols s)) (fun k=>[v 11 (I k),v 10 (I (List.length (Sheet.cols s):Int)),v 9 (L Au (Sheet.cols s)),v 1 (I row),tk 100 3,v 5 (Lt 100 eI (List.take k A0))]) fun k0=>.br .nil .nil),(s.1.length<=maxLen->(0=(↑(0:Nat):Int)/\A1=A1/\(sR Au s.1)/\(row:Int)=(row:Int)/\(0:Nat)=(0:Nat))/\∀ (k0:Nat),k0<=List.length (Sheet.cols s)->(decide ((k0:Int)<(s.1.length:Int))=true->(0<=(k0:Int)/\(k0:Int)<A1)/\(0<=(row:Int)/\(row:Int)<(List.length (nth s.1 k0):Int))/\(List.length (List.take k0 A0)+1)*8<=140737488355328/\List.length (List.take k0 A0)+1<=140737488355328/\iR ((k0:Int)+1)/\k0<List.length (Sheet.cols s)/\(k0:Int)+1=(↑(k0+1):Int)/\A1=A1/\(sR Au s.1)/\(row:Int)=(row:Int)/\SEq (List.length (List.take k0 A0)+1) (Ar (List.length (List.take k0 A0)) (fun i=>eI (nth (List.take k0 A0) i)) fun i=>List.getD [List.map C.dem [C.v (Value.int IntKind.i64 (nth (nth s.1 k0) row))]] i []) (List.length (List.take (k0+1) A0)) fun i=>eI (nth (List.take (k0+1) A0) i))/\(decide ((k0:Int)<(s.1.length:Int))=false->sQ eI (List.take k0 A0) A0)))) Tryz.func227 (by kernel_rfl) (by kernel_rfl) ?_
 simp only [stdS,imp_self,implies_true,and_true]
 refine fun hm k hk=>⟨fun hd=>?_,fun hd=>?_⟩
 ·have hlt:k<s.cols.length:=by have:=of_decide_eq_true hd;omega
  have hn:(Ba s row).length=s.cols.length:=by unfold Ba;exact List.length_map ..
  have ht:((Ba s row).take k).length<=1000:=by rw [List.length_take];omega
  have hr:=h k hlt
  refine ⟨⟨by omega,by omega⟩,⟨by omega,by omega⟩,by omega,by omega,(Af _).2 (by omega),hlt,by omega,Jb (by omega) (by unfold Ba;rw [Ep hlt];rfl)⟩
 ·have hke:k=s.cols.length:=by have:=of_decide_eq_false hd;omega
  have hn:(Ba s row).length=s.cols.length:=by unfold Ba;exact List.length_map ..
  exact Bn (by rw [hke,<-hn,List.take_length])
theorem Aqq {Gl} (S:SP Gl) (n:Int):CO Gl 133 [I n] (.ret (B (!inR n 0 2))):=by
 refine An S (.r (.ret (B (inR n (0:Int) (2:Int)))) .nil) Tryz.func133 (by kernel_rfl) (CO Gl 60 [I n,I 0,I 2] (.ret (B (inR n (0:Int) (2:Int))))/\(!inR n (0:Int) (2:Int))=!inR n (0:Int) (2:Int)) (by kernel_rfl) ?_
 simp only [stdS,imp_self,implies_true,and_true,Yh S]
theorem Aqr {Gl} (S:SP Gl) (s:Sheet) (l:List Int) (h:0<s.cols.length):CO Gl 131 [L eI l,.d (.rd (Cg s))] (.ret (B (Li s l))):=by
 refine Ao S (let A0:=(eqB (!Fc l) false=true->eqB (!Fc l) false=true);((.r (.ret (B (Fc l))) .nil),(CO Gl 37 [L eI l] (.ret (B (Fc l)))/\A0/\((eqB (!Fc l) false=true->l.length<=maxLen)->A0/\A0/\(eqB (!Fc l) false=true->(0:Int)<=0/\0<(s.1.length:Int))/\A0/\A0/\((eqB (!Fc l) false=true->List.length (nth s.1 (Int.toNat (0:Int)))<=maxLen)->A0/\A0/\((!Fc l)=false->eqB (!Fc l) false=true)/\(bif !Fc l then true else (l.length:Int) != (↑(List.length (nth s.1 (Int.toNat (0:Int)))):Int))=Li s l))))) Tryz.func131 (by kernel_rfl) (by kernel_rfl) ?_
 simp only [stdS,imp_self,implies_true,and_true,Ahx]
 exact ⟨Aql S l,fun _=>⟨fun _=>⟨by omega,by omega⟩,fun _=>rfl⟩⟩
theorem Aqs {Gl} (S:SP Gl) (l:List (List Int)) (f:FuncId) (d:Sheet) (p:List Int->Bool) (hf:∀ i,i<l.length->CO Gl f [L eI (nth l i),.d (.rd (Cg d))] (.ret (B (p (nth l i))))):CO Gl 234 [L Au l,.fn f [] [.d (.rd (Cg d))]] (.ret (I (idxI p l))):=by
 refine An S (.loop (upIdx p l) (fun k=>[v 8 (I k),v 7 (I l.length),v 0 (L Au l),v 1 (T.fn f [] [T.d (D.rd (Cg d))])]) fun k0=>.br (.r (.ret (B (p (nth l k0)))) (.br .nil .nil)) .nil) Tryz.func234 (by kernel_rfl) (l.length<=maxLen->(0=(↑(0:Nat):Int)/\(l.length:Int)=(l.length:Int)/\(sR Au l)/\f=f/\(sR Au d.1)/\sR eI d.2)/\∀ (k0:Nat),k0<=upIdx p l->(decide ((k0:Int)<(l.length:Int))=true->(0<=(k0:Int)/\(k0:Int)<(l.length:Int))/\CO Gl f [L eI (nth l k0),T.d (D.rd (Cg d))] (.ret (B (p (nth l k0))))/\(p (nth l k0)=true->(k0:Int)=idxI p l)/\(p (nth l k0)=false->iR ((k0:Int)+1)/\k0<upIdx p l/\(k0:Int)+1=(↑(k0+1):Int)/\(l.length:Int)=(l.length:Int)/\(sR Au l)/\f=f/\(sR Au d.1)/\sR eI d.2))/\(decide ((k0:Int)<(l.length:Int))=false->(-1:Int)=idxI p l)) (by kernel_rfl) ?_
 simp only [stdS,imp_self,implies_true,and_true,decide_eq_true_eq,decide_eq_false_iff_not,Bi,Af]
 exact idx_loop p l _ hf
theorem Aqt {Gl} (S:SP Gl) (l:List (List Int)) (f:FuncId) (d:Sheet) (p:List Int->Bool) (hf:∀ i,i<l.length->CO Gl f [L eI (nth l i),.d (.rd (Cg d))] (.ret (B (p (nth l i))))):CO Gl 132 [L Au l,.fn f [] [.d (.rd (Cg d))]] (.ret (B (!l.all (fun x=>!p x)))):=by
 refine An S (.r (.ret (I (idxI p l))) .nil) Tryz.func132 (by kernel_rfl) (CO Gl 234 [L Au l,T.fn f [] [T.d (D.rd (Cg d))]] (.ret (I (idxI p l)))/\decide ((0:Int)<=idxI p l)=!List.all l fun x=>!p x) (by kernel_rfl) ?_
 exact ⟨Aqs S l f d p hf,idxI_spec p l⟩
theorem Aqu (s:Sheet) (h:s.errs.length=s.cols.length):(List.range s.cols.length).all (Mo s)=(s.cols.all (fun l=>!Li s l)&&s.errs.all (fun n=>inR n 0 2)):=by
 rw [Bool.eq_iff_iff,Bool.and_eq_true,List.all_eq_true,List.all_eq_true,List.all_eq_true]
 constructor
 ·intro hc
  refine ⟨fun l hl=>?_,fun n hn=>?_⟩
  ·obtain ⟨i,hi,rfl⟩:=List.mem_iff_getElem.1 hl
   have:=hc i (List.mem_range.2 hi)
   unfold Mo col at this
   rw [Ex hi] at this
   simp only [Bool.and_eq_true] at this
   unfold Li
   rw [this.1,this.2.1]
   rfl
  ·obtain ⟨i,hi,rfl⟩:=List.mem_iff_getElem.1 hn
   have:=hc i (List.mem_range.2 (by omega))
   unfold Mo at this
   rw [Ex hi] at this
   simp only [Bool.and_eq_true] at this
   exact this.2.2
 ·rintro ⟨h1,h2⟩ i hi
  have hi:=List.mem_range.1 hi
  have a1:=h1 _ (Er hi)
  have a2:=h2 (nth s.errs i) (Er (by omega))
  unfold Li at a1
  unfold Mo col
  rw [a2]
  cases hx:Fc (nth s.cols i)<;>cases hy:(nth s.cols i).length==rows s<;>rw [hx,hy] at a1<;>first|rfl|cases a1
theorem Ai5 {Gl} (S:SP Gl) (s:Sheet):CO Gl 55 [Dr s] (.ret (B s.ok)):=by
 refine Ao S (let A0:=(eqB (!inR (s.1.length:Int) (1:Int) (3:Int)) false=true->eqB (!inR (s.1.length:Int) (1:Int) (3:Int)) false=true);let A1:=(!!List.all s.1 fun x=>!Li s x);let A2:=(s.1.length:Int);let A3:=(eqB A1 true=true->eqB A1 true=true);let A4:=(!inR A2 (1:Int) (3:Int));let A5:=(bif !inR A2 (1:Int) (3:Int) then true else (s.2.length:Int) != A2);let A6:=(B !List.all (Sheet.errs s) fun x=>!!inR x (0:Int) (2:Int));let A7:=(B !List.all (Sheet.cols s) fun x=>!Li s x);((.r (.ret (B (inR A2 (1:Int) (3:Int)))) (.br .nil (.r (.ret A7) (.r (.ret A6) .nil)))),(s.1.length<=maxLen->CO Gl 60 [I s.1.length,I 1,I 3] (.ret (B (inR A2 (1:Int) (3:Int))))/\A0/\A0/\((eqB A4 false=true->s.2.length<=maxLen)->A0/\A0/\((eqB A4 false=true->s.1.length<=maxLen)->A0/\A0/\(A4=false->eqB A4 false=true)/\(A5=true->false=Sheet.ok s)/\(A5=false->CO Gl 132 [L Au (Sheet.cols s),T.fn (131:FuncId) [] [T.d (D.rd (Cg s))]] (.ret A7)/\A3/\A3/\(eqB A1 true=true->CO Gl 102 [L eI (Sheet.errs s),T.fn (133:FuncId) [] []] (.ret A6))/\A3/\(A1=true->eqB A1 true=true)/\(bif !!List.all s.1 fun x=>!Li s x then !!List.all s.2 fun x=>!!inR x (0:Int) (2:Int) else false)=Sheet.ok s)))))) Tryz.func55 (by kernel_rfl) (by kernel_rfl) ?_
 simp only [stdS,imp_self,implies_true,and_true,Ahx]
 refine fun hm=>⟨Yh S _ _ _,fun _ _=>⟨fun h=>?_,fun h=>?_⟩⟩
 ·unfold Sheet.ok
  cases hx:inR (s.cols.length:Int) 1 3<;>cases hy:s.errs.length==s.cols.length<;>rw [hx,hy] at h<;>first|rfl|cases h
 ·have hxy:inR (s.cols.length:Int) 1 3=true/\(s.errs.length==s.cols.length)=true:=by
   cases hx:inR (s.cols.length:Int) 1 3<;>cases hy:s.errs.length==s.cols.length<;>rw [hx,hy] at h<;>first|exact ⟨rfl,rfl⟩|cases h
  obtain ⟨hx,hy⟩:=hxy
  have hp:=Bo.1 hx
  have h0:0<s.cols.length:=by omega
  refine ⟨Aqt S s.cols 131 s (Li s) (fun i _=>Aqr S s (nth s.cols i) h0),fun _=>Ti S s.errs 133 (fun n=>!inR n 0 2) (fun i _=>Aqq S (nth s.errs i)),?_⟩
  have hc:=Aqu s (by simpa using hy)
  simp only [Bool.not_not]
  unfold Sheet.ok
  rw [hx,hy,hc]
  rfl
open Go Go.Vc
def Hp (zs:List Int):List Int:=Lib.compact (zs.mergeSort fun x y=>decide (x<=y))
theorem Aqv (zs:List Int):(Lib.compact zs).length<=zs.length:=by
 unfold Lib.compact Lib.compactUpTo
 rw [List.length_map]
 have:=List.length_filter_le (Lib.keeps zs.toArray) (List.range zs.length)
 simpa using this
theorem Ai6:∀ {a b:List Int},a.Pairwise (·<·)->b.Pairwise (·<·)->(∀ x,x∈a↔x∈b)->a=b
 | [],[],_,_,_=>rfl
 | [],y::b,_,_,h=>absurd ((h y).2 List.mem_cons_self) (by simp)
 |x::a,[],_,_,h=>absurd ((h x).1 List.mem_cons_self) (by simp)
 |x::a,y::b,ha,hb,h=>by
  obtain ⟨ha1,ha2⟩:=List.pairwise_cons.1 ha
  obtain ⟨hb1,hb2⟩:=List.pairwise_cons.1 hb
  have hxy:x=y:=by
   rcases List.mem_cons.1 ((h x).1 List.mem_cons_self) with h1|h1
   ·exact h1
   ·rcases List.mem_cons.1 ((h y).2 List.mem_cons_self) with h2|h2
    ·exact h2.symm
    ·have:=ha1 y h2
     have:=hb1 x h1
     omega
  subst hxy
  congr 1
  refine Ai6 ha2 hb2 fun z=>⟨fun hz=>?_,fun hz=>?_⟩
  ·rcases List.mem_cons.1 ((h z).1 (List.mem_cons_of_mem _ hz)) with h1|h1
   ·subst h1;exact absurd (ha1 z hz) (Int.lt_irrefl _)
   ·exact h1
  ·rcases List.mem_cons.1 ((h z).2 (List.mem_cons_of_mem _ hz)) with h1|h1
   ·subst h1;exact absurd (hb1 z hz) (Int.lt_irrefl _)
   ·exact h1
theorem Ai7 {d:Array Int} (hs:∀ i j,i<=j->j<d.size->d[i]!<=d[j]!):∀ m,m<=d.size->
  (Lib.compactUpTo d m).Pairwise (·<·)/\(∀ x,x∈Lib.compactUpTo d m↔∃ i,i<m/\d[i]! =x)/\(0<m->∀ x∈Lib.compactUpTo d m,x<=d[m - 1]!)
 |0,_=>by
  refine ⟨by simp [Lib.compactUpTo],fun x=>?_,fun h=>absurd h (Nat.lt_irrefl _)⟩
  simp [Lib.compactUpTo]
 |m+1,hm=>by
  obtain ⟨h1,h2,h3⟩:=Ai7 hs m (by omega)
  rw [Lib.compactUpTo_succ]
  cases hk:Lib.keeps d m with
  |true=>
   simp only [if_true]
   refine ⟨?_,fun x=>?_,fun _ x hx=>?_⟩
   ·rw [List.pairwise_append]
    refine ⟨h1,List.pairwise_singleton _ _,fun x hx y hy=>?_⟩
    rw [List.mem_singleton.1 hy]
    rcases Nat.eq_zero_or_pos m with h0|h0
    ·subst h0;obtain ⟨i,hi,_⟩:=(h2 x).1 hx;omega
    ·have ha:=h3 h0 x hx
     have hb:=hs (m - 1) m (by omega) (by omega)
     have hne:d[m]!≠d[m - 1]!:=by
      unfold Lib.keeps at hk
      rcases of_decide_eq_true hk with h|h
      ·omega
      ·exact h
     omega
   ·rw [List.mem_append,h2,List.mem_singleton]
    constructor
    ·rintro (⟨i,hi,h⟩|h)
     ·exact ⟨i,by omega,h⟩
     ·exact ⟨m,by omega,h.symm⟩
    ·rintro ⟨i,hi,h⟩
     rcases Nat.lt_or_ge i m with hlt|hge
     ·exact .inl ⟨i,hlt,h⟩
     ·have:i=m:=by omega
      subst this;exact .inr h.symm
   ·obtain ⟨i,hi,rfl⟩:∃ i,i<m+1/\d[i]! =x:=by
     rcases List.mem_append.1 hx with hx|hx
     ·obtain ⟨i,hi,h⟩:=(h2 x).1 hx
      exact ⟨i,by omega,h⟩
     ·exact ⟨m,by omega,(List.mem_singleton.1 hx).symm⟩
    exact hs i _ (by omega) (by omega)
  |false=>
   simp only [Bool.false_eq_true,if_false,List.append_nil]
   have hm0:m≠0/\d[m]! =d[m - 1]!:=by
    unfold Lib.keeps at hk
    have:=of_decide_eq_false hk
    exact ⟨fun h=>this (.inl h),Classical.byContradiction fun h=>this (.inr h)⟩
   refine ⟨h1,fun x=>?_,fun _ x hx=>?_⟩
   ·rw [h2]
    constructor
    ·rintro ⟨i,hi,h⟩;exact ⟨i,by omega,h⟩
    ·rintro ⟨i,hi,h⟩
     rcases Nat.lt_or_ge i m with hlt|hge
     ·exact ⟨i,hlt,h⟩
     ·have:i=m:=by omega
      subst this
      exact ⟨i - 1,by omega,by rw [<-hm0.2];exact h⟩
   ·have:=h3 (by omega) x hx
    rw [Nat.add_sub_cancel,hm0.2]
    exact this
theorem Aqw (zs:List Int):(Hp zs).Pairwise (·<·)/\∀ x,x∈Hp zs↔x∈zs:=by
 unfold Hp Lib.compact
 have hp:(zs.mergeSort fun x y=>decide (x<=y)).Pairwise fun x y=>decide (x<=y)=true:=
  List.pairwise_mergeSort (fun a b c h1 h2=>by simp at *;omega) (fun a b=>by simp;omega) zs
 have hmem:∀ x,x∈zs.mergeSort (fun x y=>decide (x<=y))↔x∈zs:=fun x=>(List.mergeSort_perm zs _).mem_iff
 generalize hl:(zs.mergeSort fun x y=>decide (x<=y))=l at hp hmem
 have hget:∀ i,i<l.length->l.toArray[i]! =nth l i:=fun i hi=>by rw [Ex hi,getElem!_pos _ i (by simpa using hi)];simp
 have hs:∀ i j,i<=j->j<l.toArray.size->l.toArray[i]!<=l.toArray[j]!:=by
  intro i j hij hj
  have hj:j<l.length:=by simpa using hj
  rw [hget i (by omega),hget j hj]
  rcases Nat.lt_or_ge i j with h|h
  ·rw [Ex (by omega),Ex hj]
   have:=List.pairwise_iff_getElem.1 hp i j (by omega) hj h
   simpa using this
  ·have:i=j:=by omega
   subst this;exact Int.le_refl _
 obtain ⟨h1,h2,_⟩:=Ai7 hs l.length (by simp)
 refine ⟨h1,fun x=>?_⟩
 rw [h2,<-hmem]
 constructor
 ·rintro ⟨i,hi,rfl⟩
  rw [hget i hi]
  exact Er hi
 ·intro hx
  obtain ⟨i,hi,rfl⟩:=List.getElem_of_mem hx
  exact ⟨i,hi,by rw [hget i hi,Ex hi]⟩
theorem mem_ins {l:List Int} {k:Nat} {n x:Int}:x∈l.take k++[n]++l.drop k↔x∈l∨x=n:=by
 have h:x∈l↔x∈l.take k∨x∈l.drop k:=by rw [<-List.mem_append,List.take_append_drop]
 rw [h,List.mem_append,List.mem_append,List.mem_singleton]
 constructor
 ·rintro ((h|h)|h)
  ·exact .inl (.inl h)
  ·exact .inr h
  ·exact .inl (.inr h)
 ·rintro ((h|h)|h)
  ·exact .inl (.inl h)
  ·exact .inr h
  ·exact .inl (.inr h)
theorem Ai8 {n:Int}:∀ {l:List Int},l.Pairwise (·<·)->n ∉ l->(l.take (Mp l n)++[n]++l.drop (Mp l n)).Pairwise (·<·)
 | [],_,_=>by simp
 |y::l,h,hn=>by
  obtain ⟨h1,h2⟩:=List.pairwise_cons.1 h
  have hy:n≠y:=fun hh=>hn (by rw [hh];exact List.mem_cons_self)
  by_cases hc:y<n
  ·have e:Mp (y::l) n=bif decide (y<n) then Mp l n+1 else 0:=rfl
   rw [decide_eq_true hc,cond_true] at e
   rw [e,List.take_succ_cons,List.drop_succ_cons,List.cons_append,List.cons_append,List.pairwise_cons]
   refine ⟨fun z hz=>?_,Ai8 h2 fun hh=>hn (List.mem_cons_of_mem _ hh)⟩
   rcases mem_ins.1 hz with h3|h3
   ·exact h1 z h3
   ·rw [h3];exact hc
  ·have e:Mp (y::l) n=bif decide (y<n) then Mp l n+1 else 0:=rfl
   rw [decide_eq_false hc,cond_false] at e
   rw [e,List.take_zero,List.drop_zero,List.nil_append,List.singleton_append,List.pairwise_cons]
   refine ⟨fun z hz=>?_,h⟩
   rcases List.mem_cons.1 hz with h3|h3
   ·rw [h3];omega
   ·have:=h1 z h3;omega
theorem Tn {l:List Int} (h:l.Pairwise (·<·)) (n:Int):(Jc l n).Pairwise (·<·)/\∀ x,x∈Jc l n↔x∈l∨x=n:=by
 unfold Jc
 cases hl:listed l n with
 |true=>
  have hm:=Tj.1 hl
  exact ⟨h,fun x=>⟨.inl,fun hx=>hx.elim id fun hx=>by rw [hx];exact hm⟩⟩
 |false=>
  have hm:n ∉ l:=fun hh=>by rw [Tj.2 hh] at hl;cases hl
  exact ⟨Ai8 h hm,fun x=>mem_ins⟩
theorem Ai9 {out:List Int} (h:out.Pairwise (·<·)) (c:Int):∀ k,(Kd out c k).Pairwise (·<·)/\∀ x,x∈Kd out c k↔x∈out∨∃ j,j<k/\nth (Jd c) j=x/\isSrc c x=true
 |0=>⟨h,fun x=>⟨.inl,fun hx=>hx.elim id fun ⟨j,hj,_⟩=>absurd hj (Nat.not_lt_zero _)⟩⟩
 |k+1=>by
  obtain ⟨h1,h2⟩:=Ai9 h c k
  unfold Kd
  cases hs:isSrc c (nth (Jd c) k) with
  |true=>
   obtain ⟨h3,h4⟩:=Tn h1 (nth (Jd c) k)
   refine ⟨h3,fun x=>?_⟩
   rw [cond_true,h4,h2]
   constructor
   ·rintro ((hx|⟨j,hj,hx⟩)|hx)
    ·exact .inl hx
    ·exact .inr ⟨j,by omega,hx⟩
    ·exact .inr ⟨k,by omega,hx.symm,by rw [hx];exact hs⟩
   ·rintro (hx|⟨j,hj,hx,hy⟩)
    ·exact .inl (.inl hx)
    ·rcases Nat.lt_or_ge j k with hjk|hjk
     ·exact .inl (.inr ⟨j,hjk,hx,hy⟩)
     ·have:j=k:=by omega
      subst this;exact .inr hx.symm
  |false=>
   refine ⟨h1,fun x=>?_⟩
   rw [cond_false,h2]
   constructor
   ·rintro (hx|⟨j,hj,hx⟩)
    ·exact .inl hx
    ·exact .inr ⟨j,by omega,hx⟩
   ·rintro (hx|⟨j,hj,hx,hy⟩)
    ·exact .inl hx
    ·rcases Nat.lt_or_ge j k with hjk|hjk
     ·exact .inr ⟨j,hjk,hx,hy⟩
     ·have:j=k:=by omega
      subst this;rw [hx,hy] at hs;cases hs
def Ym (s:Sheet) (row j:Nat) (x:Int):Prop:=x=cell s j row∨(0<row/\x=cell s j (row - 1))∨∃ k,k<7/\nth (Jd (cell s j row)) k=x/\isSrc (cell s j row) x=true
theorem Adb (s:Sheet) (row:Nat):∀ i,(Ie s row i).Pairwise (·<·)/\∀ x,x∈Ie s row i↔∃ j,j<i/\Ym s row j x
 |0=>⟨List.Pairwise.nil,fun x=>⟨fun h=>absurd h List.not_mem_nil,fun ⟨j,hj,_⟩=>absurd hj (Nat.not_lt_zero _)⟩⟩
 |i+1=>by
  obtain ⟨h1,h2⟩:=Adb s row i
  have h3:(Mr s row (Ie s row i) i).Pairwise (·<·)/\∀ x,x∈Mr s row (Ie s row i) i↔x∈Ie s row i∨x=cell s i row∨(0<row/\x=cell s i (row - 1)):=by
   obtain ⟨g1,g2⟩:=Tn h1 (cell s i row)
   unfold Mr
   by_cases hr:0<row
   ·obtain ⟨g3,g4⟩:=Tn g1 (cell s i (row - 1))
    rw [Mq hr]
    refine ⟨g3,fun x=>?_⟩
    rw [cond_true,g4,g2]
    constructor
    ·rintro ((hx|hx)|hx)
     ·exact .inl hx
     ·exact .inr (.inl hx)
     ·exact .inr (.inr ⟨hr,hx⟩)
    ·rintro (hx|hx|⟨_,hx⟩)
     ·exact .inl (.inl hx)
     ·exact .inl (.inr hx)
     ·exact .inr hx
   ·rw [Od hr]
    refine ⟨g1,fun x=>?_⟩
    rw [cond_false,g2]
    constructor
    ·rintro (hx|hx)
     ·exact .inl hx
     ·exact .inr (.inl hx)
    ·rintro (hx|hx|⟨hx,_⟩)
     ·exact .inl hx
     ·exact .inr hx
     ·exact absurd hx hr
  obtain ⟨h4,h5⟩:=h3
  obtain ⟨h6,h7⟩:=Ai9 h4 (cell s i row) 7
  refine ⟨h6,fun x=>?_⟩
  show x∈Kd (Mr s row (Ie s row i) i) (cell s i row) 7↔_
  rw [h7,h5,h2]
  constructor
  ·rintro ((⟨j,hj,hx⟩|hx|hx)|hx)
   ·exact ⟨j,by omega,hx⟩
   ·exact ⟨i,by omega,.inl hx⟩
   ·exact ⟨i,by omega,.inr (.inl hx)⟩
   ·exact ⟨i,by omega,.inr (.inr hx)⟩
  ·rintro ⟨j,hj,hx⟩
   rcases Nat.lt_or_ge j i with h|h
   ·exact .inl (.inl ⟨j,h,hx⟩)
   ·have:j=i:=by omega
    subst this
    rcases hx with hx|hx|hx
    ·exact .inl (.inr (.inl hx))
    ·exact .inl (.inr (.inr hx))
    ·exact .inr hx
theorem Aia (s:Sheet) (row:Nat):(Ct s row).Pairwise (·<·):=(Adb s row _).1
theorem To (s:Sheet) (row:Nat) (x:Int):x∈Ct s row↔∃ j,j<s.cols.length/\Ym s row j x:=(Adb s row _).2 x
/-! from which numbers one can have been written -/
theorem Aib {x c:Int}:(Ka x c != 0)=(isTurned x c||isCarried x c||c==-x):=by
 unfold Ka
 cases isTurned x c<;>cases isCarried x c<;>cases c==-x<;>rfl
theorem dig {m p q r:Int} (hp:0<=p/\p<=9) (hq:0<=q/\q<=9) (hr:0<=r/\r<=9) (h:m=100*p+10*q+r):m / 100=p/\m / 10 % 10=q/\m % 10=r:=by
 omega
theorem Aic {m:Int} (h0:0<=m) (h:m<=999):∃ p q r:Int,(0<=p/\p<=9)/\(0<=q/\q<=9)/\(0<=r/\r<=9)/\m=100*p+10*q+r:=
 ⟨m / 100,m / 10 % 10,m % 10,by omega,by omega,by omega,by omega⟩
theorem Qm {n p q r:Int} (hp:0<=p/\p<=9) (hq:0<=q/\q<=9) (hr:0<=r/\r<=9) (h:ab n=100*p+10*q+r):fA n=p/\fB n=q/\fC n=r:=dig hp hq hr h
theorem Oe {like a b c:Int} (h:like<0):sg like a b c=-(100*a+10*b+c):=by unfold sg;rw [if_pos h]
theorem Of {like a b c:Int} (h:¬ like<0):sg like a b c=100*a+10*b+c:=by unfold sg;rw [if_neg h]
theorem Aqx {x c:Int} (hx:num x=true) (h:isTurned x c=true):c∈Mn x/\x∈Mn c:=by
 have hx:=Jz.1 hx
 have h0:0<=ab x:=by unfold ab;omega
 have h1:ab x<=999:=by unfold ab;omega
 obtain ⟨p,q,r,hp,hq,hr,he⟩:=Aic h0 h1
 obtain ⟨e1,e2,e3⟩:=Qm hp hq hr he
 unfold isTurned at h
 rw [e1,e2,e3,Bool.or_eq_true,beq_iff_eq,beq_iff_eq] at h
 refine ⟨by unfold Mn;rw [e1,e2,e3];simpa using h,?_⟩
 by_cases hn:x<0
 ·have hxe:x=-(100*p+10*q+r):=by unfold ab at he;omega
  rw [Oe hn,Oe hn] at h
  rcases h with h|h
  ·have hc:c<0:=by omega
   obtain ⟨f1,f2,f3⟩:=Qm (n:=c) hq hp hr (by unfold ab;omega)
   unfold Mn
   rw [f1,f2,f3,Oe hc,<-hxe]
   exact List.mem_cons_self
  ·have hc:c<0:=by omega
   obtain ⟨f1,f2,f3⟩:=Qm (n:=c) hp hr hq (by unfold ab;omega)
   unfold Mn
   rw [f1,f2,f3,Oe hc,Oe hc,<-hxe]
   exact List.mem_cons_of_mem _ List.mem_cons_self
 ·have hxe:x=100*p+10*q+r:=by unfold ab at he;omega
  rw [Of hn,Of hn] at h
  rcases h with h|h
  ·have hc:¬ c<0:=by omega
   obtain ⟨f1,f2,f3⟩:=Qm (n:=c) hq hp hr (by unfold ab;omega)
   unfold Mn
   rw [f1,f2,f3,Of hc,<-hxe]
   exact List.mem_cons_self
  ·have hc:¬ c<0:=by omega
   obtain ⟨f1,f2,f3⟩:=Qm (n:=c) hp hr hq (by unfold ab;omega)
   unfold Mn
   rw [f1,f2,f3,Of hc,Of hc,<-hxe]
   exact List.mem_cons_of_mem _ List.mem_cons_self
theorem carry_back {x c:Int} (hx:num x=true) (h:isCarried x c=true):x=c+10∨x=c - 10∨x=c+100∨x=c - 100:=by
 have hx:=Jz.1 hx
 have h0:0<=ab x:=by unfold ab;omega
 have h1:ab x<=999:=by unfold ab;omega
 obtain ⟨p,q,r,hp,hq,hr,he⟩:=Aic h0 h1
 obtain ⟨e1,e2,e3⟩:=Qm hp hq hr he
 unfold isCarried at h
 rw [e1,e2,e3,Bool.or_eq_true,Bool.and_eq_true,Bool.and_eq_true,decide_eq_true_eq,decide_eq_true_eq,beq_iff_eq,beq_iff_eq] at h
 by_cases hn:x<0
 ·rw [Oe hn,Oe hn] at h
  unfold ab at he
  omega
 ·rw [Of hn,Of hn] at h
  unfold ab at he
  omega
theorem Aqy {x c:Int} (hx:num x=true) (h:(Ka x c != 0)=true):x∈Jd c:=by
 rw [Aib,Bool.or_eq_true,Bool.or_eq_true,beq_iff_eq] at h
 unfold Jd
 rw [List.mem_append]
 rcases h with (h|h)|h
 ·exact .inl (Aqx hx h).2
 ·rcases carry_back hx h with h|h|h|h<;>rw [h]<;>simp
 ·have:x=-c:=by omega
  rw [this];simp
theorem Adc {α:Type} [Inhabited α] {l:List α} {x:α} (h:x∈l):∃ k,k<l.length/\nth l k=x:=by
 obtain ⟨k,hk,rfl⟩:=List.getElem_of_mem h
 exact ⟨k,hk,Ex hk⟩
theorem Tp (s:Sheet) (row j:Nat) (x:Int):Ym s row j x↔x=cell s j row∨(0<row/\x=cell s j (row - 1))∨isSrc (cell s j row) x=true:=by
 unfold Ym
 constructor
 ·rintro (h|h|⟨_,_,_,h⟩)
  ·exact .inl h
  ·exact .inr (.inl h)
  ·exact .inr (.inr h)
 ·rintro (h|h|h)
  ·exact .inl h
  ·exact .inr (.inl h)
  ·refine .inr (.inr ?_)
   have h':=h
   unfold isSrc at h'
   rw [Bool.and_eq_true] at h'
   obtain ⟨k,hk,he⟩:=Adc (Aqy h'.1 h'.2)
   exact ⟨k,by rw [Aqn] at hk;exact hk,he,h⟩
/-! the program's -/
def nums:List Int:=(List.range 1999).map fun k:Nat=>Am+(k:Int)
theorem Aqz {x:Int}:x∈nums↔num x=true:=by
 unfold nums Am
 rw [Jz,List.mem_map]
 constructor
 ·rintro ⟨k,hk,rfl⟩
  have:=List.mem_range.1 hk
  omega
 ·intro h
  exact ⟨(x+999).toNat,List.mem_range.2 (by omega),by omega⟩
def Mt (n x:Int):Bool:=x != n&&(isTurned x n||isCarried x n||n==-x)
def Fl (n:Int):List Int:=n::nums.filter (Mt n)
theorem mem_srcP {n x:Int}:x∈Fl n↔x=n∨isSrc n x=true:=by
 unfold Fl isSrc
 rw [List.mem_cons,List.mem_filter,Aqz,Bool.and_eq_true,Aib]
 unfold Mt
 constructor
 ·rintro (h|⟨h1,h2⟩)
  ·exact .inl h
  ·rw [Bool.and_eq_true] at h2
   exact .inr ⟨h1,h2.2⟩
 ·rintro (h|⟨h1,h2⟩)
  ·exact .inl h
  ·by_cases hx:x=n
   ·exact .inl hx
   ·refine .inr ⟨h1,?_⟩
    rw [h2,Bool.and_true,bne_iff_ne]
    exact hx
def As (s:Sheet) (row:Nat):List Int:=(Ba s row).flatMap Fl++bif Nat.blt 0 row then Ba s (row - 1) else []
theorem Tq {s:Sheet} {row:Nat} {x:Int}:x∈Ba s row↔∃ j,j<s.cols.length/\x=cell s j row:=by
 unfold Ba cell
 rw [List.mem_map]
 constructor
 ·rintro ⟨l,hl,rfl⟩
  obtain ⟨k,hk,rfl⟩:=Adc hl
  exact ⟨k,hk,rfl⟩
 ·rintro ⟨j,hj,rfl⟩
  exact ⟨_,Er hj,rfl⟩
theorem Aid {s:Sheet} {row:Nat} {x:Int}:x∈As s row↔x∈Ct s row:=by
 unfold As
 rw [List.mem_append,List.mem_flatMap,To]
 constructor
 ·rintro (⟨n,hn,hx⟩|hx)
  ·obtain ⟨j,hj,rfl⟩:=Tq.1 hn
   refine ⟨j,hj,(Tp ..).2 ?_⟩
   rcases mem_srcP.1 hx with h|h
   ·exact .inl h
   ·exact .inr (.inr h)
  ·by_cases hr:0<row
   ·rw [Mq hr,cond_true] at hx
    obtain ⟨j,hj,rfl⟩:=Tq.1 hx
    exact ⟨j,hj,(Tp ..).2 (.inr (.inl ⟨hr,rfl⟩))⟩
   ·rw [Od hr,cond_false] at hx
    exact absurd hx List.not_mem_nil
 ·rintro ⟨j,hj,hx⟩
  rcases (Tp ..).1 hx with h|⟨hr,h⟩|h
  ·exact .inl ⟨_,Tq.2 ⟨j,hj,rfl⟩,mem_srcP.2 (.inl h)⟩
  ·refine .inr ?_
   rw [Mq hr,cond_true]
   exact Tq.2 ⟨j,hj,h⟩
  ·exact .inl ⟨_,Tq.2 ⟨j,hj,rfl⟩,mem_srcP.2 (.inr h)⟩
theorem Aie {l m:List Int} (h:∀ x,x∈l->x∈m):Bw l<=Bw m:=by
 rcases Nat.lt_or_ge (Ek m) (Ek l) with hlt|hge
 ·have h1:=Tj.2 (h _ (Tj.1 (Ada hlt)))
  have h2:=(Yl m).1
  unfold Bw at h2
  rw [h1] at h2
  cases h2
 ·unfold Bw
  omega
theorem Ar0 {l m:List Int} (h:∀ x,x∈l↔x∈m):Bw l=Bw m:=
 Int.le_antisymm (Aie fun x hx=>(h x).1 hx) (Aie fun x hx=>(h x).2 hx)
theorem Aif (s:Sheet) (row:Nat):Bw (As s row)=Bw (Ct s row):=Ar0 fun _=>Aid
theorem mem_listAt {s:Sheet} {row:Nat} {x:Int}:x∈Fk s row↔x∈Ct s row∨x=Bw (Ct s row):=(Tn (Aia s row) _).2 x
theorem Ar1 (s:Sheet) (row:Nat):(Fk s row).Pairwise (·<·):=(Tn (Aia s row) _).1
theorem listP (s:Sheet) (row:Nat):Hp (As s row++[Bw (As s row)])=Fk s row:=by
 obtain ⟨h1,h2⟩:=Aqw (As s row++[Bw (As s row)])
 refine Ai6 h1 (Ar1 s row) fun x=>?_
 rw [h2,mem_listAt,List.mem_append,List.mem_singleton,Aid,Aif]
def wrongTo (c own:List Int):Nat->Nat
 |0=>0
 |k+1=>wrongTo c own k+bif nth own k != nth c k then 1 else 0
def Hc (l:List Int):Nat->Int
 |0=>0
 |k+1=>Hc l k+nth l k
theorem Ar2 {Gl} (S:SP Gl) (s:Sheet):CO Gl 242 [Dr s] (.ret (I (bif s.ok then 0 else 2))):=by
 refine An S (.r (.ret (B (Sheet.ok s))) (.br .nil .nil)) Tryz.func242 (by kernel_rfl) (CO Gl 55 [Dr s] (.ret (B (Sheet.ok s)))/\((!Sheet.ok s)=true->(2:Int)=bif Sheet.ok s then (0:Int) else (2:Int))/\((!Sheet.ok s)=false->(0:Int)=bif Sheet.ok s then (0:Int) else (2:Int))) (by kernel_rfl) ?_
 simp only [stdS,imp_self,implies_true,and_true]
 exact ⟨Ai5 S s,fun h=>by rw [h];rfl,fun h=>by rw [h];rfl⟩
theorem Aig:∀ (p:List Int) (x:Int) (e:List Int),Bl (p++x::e) p.length=Bl (x::e) 0:=by
 intro p x e
 have h1:nth (p++x::e) p.length=x:=by rw [Mm (Nat.le_refl _),Nat.sub_self];rfl
 have h2:nth (p++x::e) (p.length+1)=nth (x::e) 1:=by rw [Mm (by omega)];congr 1;omega
 have h3:(p.length+1).beq (p++x::e).length=(0+1).beq (x::e).length:=by
  rw [List.length_append,List.length_cons,Bool.eq_iff_iff]
  constructor
  ·intro h
   have:=Nat.eq_of_beq_eq_true h
   rw [show e.length=0 by omega];rfl
  ·intro h
   have:=Nat.eq_of_beq_eq_true h
   rw [show e.length=0 by omega]
   exact Nat.beq_refl _
 unfold Bl
 rw [h1,h2,h3]
 rfl
def Lj (c own:List Int) (k:Nat) (m:Int):Prop:=(∀ i,i<k->okRow c own i=true)/\(wrongTo c own k:Int)<=m
theorem Add {s:Sheet} {p e left:List Int} {x:Int} {h r:Nat} (hp:p.length=r) (hh:h<left.length):
  (okH s (x::e) r left h=true/\Lj (p++x::e) (nth s.cols h) r (nth (Bx s (x::e) r left) h))↔Lj (p++x::e) (nth s.cols h) (r+1) (nth left h):=by
 have h1:nth (p++x::e) r=x:=by rw [<-hp,Mm (Nat.le_refl _),Nat.sub_self];rfl
 have h2:Bl (p++x::e) r=Bl (x::e) 0:=by rw [<-hp];exact Aig p x e
 have h3:nth (Bx s (x::e) r left) h=Ig s (x::e) r left h:=by
  unfold Bx
  rw [Ep (by rw [List.length_range];exact hh),Cr hh]
 have h4:wrongTo (p++x::e) (nth s.cols h) (r+1)=wrongTo (p++x::e) (nth s.cols h) r+bif nth (nth s.cols h) r != x then 1 else 0:=by
  show wrongTo (p++x::e) (nth s.cols h) r+(bif nth (nth s.cols h) r != nth (p++x::e) r then 1 else 0)=_
  rw [h1]
 have h5:okRow (p++x::e) (nth s.cols h) r=(nth (nth s.cols h) r==x||(Bl (x::e) 0).kind (nth (nth s.cols h) r) != 0):=by
  unfold okRow
  rw [h1,h2]
 have h6:okH s (x::e) r left h=(nth (nth s.cols h) r==x||(decide (1<=nth left h)&&(Bl (x::e) 0).kind (nth (nth s.cols h) r) != 0)):=rfl
 have h7:Ig s (x::e) r left h=nth left h - bif nth (nth s.cols h) r==x then 0 else 1:=rfl
 have hall:(∀ i,i<r+1->okRow (p++x::e) (nth s.cols h) i=true)↔(∀ i,i<r->okRow (p++x::e) (nth s.cols h) i=true)/\okRow (p++x::e) (nth s.cols h) r=true:=by
  constructor
  ·intro g
   exact ⟨fun i hi=>g i (by omega),g r (by omega)⟩
  ·rintro ⟨g1,g2⟩ i hi
   rcases Nat.lt_or_ge i r with hl|hl
   ·exact g1 i hl
   ·have:i=r:=by omega
    rw [this];exact g2
 unfold Lj
 rw [hall,h3,h4,h5,h6,h7]
 cases hx:nth (nth s.cols h) r==x with
 |true=>
  have hx':(nth (nth s.cols h) r != x)=false:=by unfold bne;rw [hx];rfl
  simp only [hx',Bool.true_or,cond_true,cond_false,true_and,Int.sub_zero,Nat.add_zero]
  exact ⟨fun g=>⟨⟨g.1,trivial⟩,g.2⟩,fun g=>⟨g.1.1,g.2⟩⟩
 |false=>
  have hx':(nth (nth s.cols h) r != x)=true:=by unfold bne;rw [hx];rfl
  simp only [hx',Bool.false_or,cond_true,cond_false,Bool.and_eq_true,decide_eq_true_eq]
  constructor
  ·rintro ⟨⟨g1,g2⟩,g3,g4⟩
   exact ⟨⟨g3,g2⟩,by omega⟩
  ·rintro ⟨⟨g3,g2⟩,g4⟩
   exact ⟨⟨by omega,g2⟩,g3,by omega⟩
theorem Qn (s:Sheet) (now:List Int) (r:Nat) (left:List Int):(Bx s now r left).length=left.length:=by
 unfold Bx
 rw [List.length_map,List.length_range]
theorem Aih {s:Sheet} {now left:List Int} {r:Nat} (hok:okAll s now r left=true) (h0:∀ h,h<left.length->0<=nth left h):∀ h,h<(Bx s now r left).length->0<=nth (Bx s now r left) h:=by
 intro h hh
 rw [Qn] at hh
 have h3:nth (Bx s now r left) h=Ig s now r left h:=by
  unfold Bx
  rw [Ep (by rw [List.length_range];exact hh),Cr hh]
 have h1:okH s now r left h=true:=List.all_eq_true.1 hok h (List.mem_range.2 hh)
 have h2:=h0 h hh
 rw [h3]
 unfold Ig
 unfold okH at h1
 cases hx:nth (nth s.cols h) r==nth now 0 with
 |true=>simp only [cond_true];omega
 |false=>
  rw [hx] at h1
  simp only [Bool.false_or,Bool.and_eq_true,decide_eq_true_eq] at h1
  simp only [cond_false];omega
theorem Ade (s:Sheet) (all:List (List Int)):∀ (r:Nat) (e left c:List Int),(∀ h,h<left.length->0<=nth left h)->
  (c∈El s all r e left↔∃ p:List Int,c=p++e/\p.length=r/\(∀ i,i<r->nth p i∈nth all i)/\∀ h,h<left.length->Lj c (nth s.cols h) r (nth left h))
 |0,e,left,c,h0=>by
  show c∈[e]↔_
  rw [List.mem_singleton]
  constructor
  ·rintro rfl
   exact ⟨[],rfl,rfl,fun i hi=>absurd hi (Nat.not_lt_zero _),fun h hh=>⟨fun i hi=>absurd hi (Nat.not_lt_zero _),h0 h hh⟩⟩
  ·rintro ⟨p,rfl,hp,_⟩
   rw [List.eq_nil_of_length_eq_zero hp]
   rfl
 |r+1,e,left,c,h0=>by
  show c∈(nth all r).flatMap (fun x=>bif okAll s (x::e) r left then El s all r (x::e) (Bx s (x::e) r left) else [])↔_
  rw [List.mem_flatMap]
  constructor
  ·rintro ⟨x,hx,hc⟩
   cases hok:okAll s (x::e) r left with
   |false=>rw [hok] at hc;exact absurd hc List.not_mem_nil
   |true=>
    rw [hok,cond_true,Ade s all r (x::e) _ c (Aih hok h0)] at hc
    obtain ⟨p,rfl,hp,hm,hcan⟩:=hc
    refine ⟨p++[x],by rw [List.append_assoc];rfl,by simp [hp],fun i hi=>?_,fun h hh=>?_⟩
    ·rcases Nat.lt_or_ge i r with hl|hl
     ·rw [Tf (by omega)];exact hm i hl
     ·have:i=r:=by omega
      subst this
      rw [Mm (by omega),hp,Nat.sub_self]
      exact hx
    ·exact (Add hp hh).1 ⟨List.all_eq_true.1 hok h (List.mem_range.2 hh),hcan h (by rw [Qn];exact hh)⟩
  ·rintro ⟨q,rfl,hq,hm,hcan⟩
   obtain ⟨p,x,rfl⟩:∃ p x,q=p++[x]:=by
    rcases List.eq_nil_or_concat q with h|⟨p,x,h⟩
    ·rw [h] at hq;cases hq
    ·exact ⟨p,x,by rw [h,List.concat_eq_append]⟩
   have hp:p.length=r:=by simpa using hq
   have hxr:nth (p++[x]) r=x:=by rw [Mm (by omega),hp,Nat.sub_self];rfl
   have e1:p++[x]++e=p++x::e:=by rw [List.append_assoc];rfl
   rw [e1] at hcan ⊢
   have hok:okAll s (x::e) r left=true:=List.all_eq_true.2 fun h hh=>((Add hp (List.mem_range.1 hh)).2 (hcan h (List.mem_range.1 hh))).1
   refine ⟨x,by have:=hm r (by omega);rw [hxr] at this;exact this,?_⟩
   rw [hok,cond_true,Ade s all r (x::e) _ _ (Aih hok h0)]
   refine ⟨p,rfl,hp,fun i hi=>?_,fun h hh=>?_⟩
   ·have:=hm i (by omega)
    rw [Tf (by omega)] at this
    exact this
   ·rw [Qn] at hh
    exact ((Add hp hh).2 (hcan h hh)).2
def Ae (s:Sheet):List (List Int):=El s (Dn s) (rows s) [] s.errs
theorem Yn {s:Sheet} {r:Nat} (h:r<rows s):nth (Dn s) r=Fk s r:=by
 unfold Dn
 rw [Ep (by rw [List.length_range];exact h),Cr h]
theorem Adf (r l:List Int):∀ k,(Yi r l k).length=wrongTo r l k
 |0=>rfl
 |k+1=>by
  have ih:=Adf r l k
  show (Yi r l k++bif nth l k==nth r k then [] else _).length=wrongTo r l k+bif nth l k != nth r k then 1 else 0
  rw [List.length_append,ih]
  unfold bne
  cases nth l k==nth r k<;>rfl
theorem Aii {s:Sheet} {c:List Int} (hc:c.length=rows s) (h:Nat):Ad9 s c h=true↔Lj c (nth s.cols h) (rows s) (nth s.errs h):=by
 unfold Ad9 Lj
 rw [Bool.and_eq_true,decide_eq_true_eq]
 have h1:Yj c (col s h)=true↔∀ i,i<rows s->okRow c (nth s.cols h) i=true:=by
  unfold Yj
  rw [List.all_eq_true,hc]
  exact ⟨fun g i hi=>g i (List.mem_range.2 hi),fun g i hi=>g i (List.mem_range.1 hi)⟩
 rw [<-h1]
 constructor
 ·rintro ⟨g1,g2⟩
  refine ⟨g1,?_⟩
  unfold errL at g2
  rw [g1,cond_true,Adf,hc] at g2
  exact g2
 ·rintro ⟨g1,g2⟩
  refine ⟨g1,?_⟩
  unfold errL
  rw [g1,cond_true,Adf,hc]
  exact g2
theorem Yo {s:Sheet} {c:List Int} (hc:c.length=rows s):agrees s c=true↔∀ h,h<s.cols.length->Lj c (nth s.cols h) (rows s) (nth s.errs h):=by
 unfold agrees
 rw [List.all_eq_true]
 exact ⟨fun g h hh=>(Aii hc h).1 (g h (List.mem_range.2 hh)),fun g h hh=>(Aii hc h).2 (g h (List.mem_range.1 hh))⟩
theorem Ar3 {s:Sheet} (hs:s.ok=true) (c:List Int):c∈Ae s↔c.length=rows s/\(∀ i,i<rows s->nth c i∈Fk s i)/\agrees s c=true:=by
 obtain ⟨l1,l2,l3,l4⟩:=Kb hs
 unfold Ae
 rw [Ade s _ _ _ _ _ fun h hh=>(Kc (l4 h (by omega))).2.2.2.2.1]
 constructor
 ·rintro ⟨p,rfl,hp,hm,hc⟩
  rw [List.append_nil] at hc ⊢
  refine ⟨hp,fun i hi=>?_,(Yo hp).2 fun h hh=>hc h (by omega)⟩
  have:=hm i hi
  rw [Yn hi] at this
  exact this
 ·rintro ⟨hp,hm,hc⟩
  refine ⟨c,(List.append_nil _).symm,hp,fun i hi=>?_,fun h hh=>(Yo hp).1 hc h (by omega)⟩
  rw [Yn hi]
  exact hm i hi
/-! other numbers in place of those that are no candidates -/
theorem Ar4 {s:Sheet} {h i:Nat} (hh:h<s.cols.length):cell s h i∈Ct s i:=(To s i _).2 ⟨h,hh,.inl rfl⟩
theorem Ar5 {s:Sheet} {h i:Nat} (hh:h<s.cols.length):cell s h i∈Ct s (i+1):=(To s (i+1) _).2 ⟨h,hh,.inr (.inl ⟨by omega,rfl⟩)⟩
theorem Aij {s:Sheet} {h i:Nat} {x:Int} (hh:h<s.cols.length) (hx:num x=true) (hc:x ∉ Ct s i):Ka x (cell s h i)=0:=by
 cases ha:Ka x (cell s h i) != 0 with
 |false=>simpa using ha
 |true=>exact absurd ((To s i _).2 ⟨h,hh,(Tp ..).2 (.inr (.inr (by unfold isSrc;rw [hx,ha];rfl)))⟩) hc
theorem Aik (r:Rt) (n:Int):(r.kind n != 0)=(Ka r.n n != 0||(!r.last&&n==r.next)):=by
 unfold Rt.kind Ka
 cases isTurned r.n n<;>cases isCarried r.n n<;>cases n==-r.n<;>cases r.last<;>cases n==r.next<;>rfl
def Hq (s:Sheet) (c d:List Int):Prop:=c.length=rows s/\d.length=rows s/\∀ i,i<rows s->nth c i=nth d i∨(nth c i ∉ Ct s i/\nth d i ∉ Ct s i/\num (nth c i)=true/\num (nth d i)=true)
theorem Hq.symm {s:Sheet} {c d:List Int} (h:Hq s c d):Hq s d c:=
 ⟨h.2.1,h.1,fun i hi=>(h.2.2 i hi).elim (fun g=>.inl g.symm) fun ⟨a,b,x,y⟩=>.inr ⟨b,a,y,x⟩⟩
theorem Hq.same {s:Sheet} {c d:List Int} (A:Hq s c d) {h i:Nat} (hh:h<s.cols.length) (hi:i<rows s):(cell s h i==nth c i)=(cell s h i==nth d i):=by
 rcases A.2.2 i hi with g|⟨g1,g2,_⟩
 ·rw [g]
 ·have hm:=Ar4 (s:=s) (i:=i) hh
  have e1:(cell s h i==nth c i)=false:=by rw [beq_eq_false_iff_ne];intro hx;rw [hx] at hm;exact g1 hm
  have e2:(cell s h i==nth d i)=false:=by rw [beq_eq_false_iff_ne];intro hx;rw [hx] at hm;exact g2 hm
  rw [e1,e2]
theorem Hq.okRow {s:Sheet} {c d:List Int} (A:Hq s c d) {h i:Nat} (hh:h<s.cols.length) (hi:i<rows s):okRow c (nth s.cols h) i=okRow d (nth s.cols h) i:=by
 have h1:=A.same hh hi
 unfold Zn.okRow
 show ((cell s h i==nth c i)||((Bl c i).kind (cell s h i) != 0))=((cell s h i==nth d i)||((Bl d i).kind (cell s h i) != 0))
 rw [h1,Aik,Aik]
 have hl:∀ l:List Int,(Bl l i).n=nth l i/\(Bl l i).last=(i+1).beq l.length/\((Bl l i).last=false->(Bl l i).next=nth l (i+1)):=fun l=>by
  unfold Bl
  cases (i+1).beq l.length<;>exact ⟨rfl,rfl,fun h=>by first|rfl|cases h⟩
 obtain ⟨a1,a2,a3⟩:=hl c
 obtain ⟨b1,b2,b3⟩:=hl d
 have hal:(Ka (nth c i) (cell s h i) != 0)=(Ka (nth d i) (cell s h i) != 0):=by
  rcases A.2.2 i hi with g|⟨g1,g2,n1,n2⟩
  ·rw [g]
  ·rw [Aij hh n1 g1,Aij hh n2 g2]
 rw [a1,b1,hal]
 congr 2
 rw [a2,b2,A.1,A.2.1] at *
 cases hb:(i+1).beq (rows s) with
 |true=>rfl
 |false=>
  rw [a3 hb,b3 hb]
  have hi1:i+1<rows s:=by
   rcases Nat.lt_or_ge (i+1) (rows s) with hlt|hge
   ·exact hlt
   ·have:i+1=rows s:=by omega
    rw [this,Nat.beq_refl] at hb;cases hb
  congr 1
  rcases A.2.2 (i+1) hi1 with g|⟨g1,g2,_⟩
  ·rw [g]
  ·have hm:=Ar5 (s:=s) (i:=i) hh
   have e1:(cell s h i==nth c (i+1))=false:=by rw [beq_eq_false_iff_ne];intro hx;rw [hx] at hm;exact g1 hm
   have e2:(cell s h i==nth d (i+1))=false:=by rw [beq_eq_false_iff_ne];intro hx;rw [hx] at hm;exact g2 hm
   rw [e1,e2]
theorem Hq.wrongTo {s:Sheet} {c d:List Int} (A:Hq s c d) {h:Nat} (hh:h<s.cols.length):∀ k,k<=rows s->wrongTo c (nth s.cols h) k=wrongTo d (nth s.cols h) k
 |0,_=>rfl
 |k+1,hk=>by
  have ih:=A.wrongTo hh k (by omega)
  have h1:=A.same hh (i:=k) (by omega)
  show Zn.wrongTo c (nth s.cols h) k+(bif cell s h k != nth c k then 1 else 0)=Zn.wrongTo d (nth s.cols h) k+bif cell s h k != nth d k then 1 else 0
  unfold bne
  rw [ih,h1]
theorem Hq.can {s:Sheet} {c d:List Int} (A:Hq s c d) {h:Nat} (hh:h<s.cols.length) {m:Int} (g:Lj c (nth s.cols h) (rows s) m):Lj d (nth s.cols h) (rows s) m:=
 ⟨fun i hi=>by rw [<-A.okRow hh hi];exact g.1 i hi,by rw [<-A.wrongTo hh _ (Nat.le_refl _)];exact g.2⟩
theorem Hq.agrees {s:Sheet} {c d:List Int} (A:Hq s c d):agrees s c=agrees s d:=by
 rw [Bool.eq_iff_iff,Yo A.1,Yo A.2.1]
 exact ⟨fun g h hh=>A.can hh (g h hh),fun g h hh=>A.symm.can hh (g h hh)⟩
theorem Ar6 {s:Sheet} (hs:s.ok=true) (r:Nat):num (Bw (Ct s r))=true:=by
 have h1:=(Yl (Ct s r)).2
 have h2:=Ai1 hs r
 rw [Jz]
 unfold Bw Am
 omega
def isR (s:Sheet) (c:List Int):Prop:=c.length=rows s/\c.all num=true/\agrees s c=true
theorem Ar7 {s:Sheet} (hs:s.ok=true) {r:Nat} (hr:r<rows s) {x:Int} (hx:x∈Ct s r):num x=true:=by
 obtain ⟨l1,l2,l3,l4⟩:=Kb hs
 obtain ⟨h,hh,hc⟩:=(To s r x).1 hx
 obtain ⟨c1,c2,_⟩:=Kc (l4 h hh)
 have hcell:∀ i,i<rows s->num (cell s h i)=true:=fun i hi=>Ahw c2 i (by rw [c1];exact hi)
 rcases (Tp ..).1 hc with g|⟨_,g⟩|g
 ·rw [g];exact hcell r hr
 ·rw [g];exact hcell _ (by omega)
 ·unfold isSrc at g
  rw [Bool.and_eq_true] at g
  exact g.1
theorem Ail {s:Sheet} (hs:s.ok=true) {r:Nat} (hr:r<rows s) {x:Int} (hx:x∈Fk s r):num x=true:=by
 rcases mem_listAt.1 hx with h|h
 ·exact Ar7 hs hr h
 ·rw [h];exact Ar6 hs r
theorem Ar8 {s:Sheet} (hs:s.ok=true) {c:List Int} (h:c∈Ae s):isR s c:=by
 obtain ⟨h1,h2,h3⟩:=(Ar3 hs c).1 h
 refine ⟨h1,List.all_eq_true.2 fun x hx=>?_,h3⟩
 obtain ⟨i,hi,rfl⟩:=Adc hx
 exact Ail hs (by omega) (h2 i (by omega))
def bestTo {α:Type} [Inhabited α] (better:α->α->Bool) (l:List α):Nat->α
 |0=>nth l 0
 |k+1=>bif better (nth l (k+1)) (bestTo better l k) then nth l (k+1) else bestTo better l k
def Cd {α:Type} [Inhabited α] (better:α->α->Bool) (l:List α):α:=bestTo better l (l.length - 1)
theorem Aim (l:List (List Int)):∀ k,Ql l (k+1)=bestTo ltL l k
 |0=>by
  show (bif ltL (nth l 0) (nth l 0) then nth l 0 else nth l 0)=nth l 0
  cases ltL (nth l 0) (nth l 0)<;>rfl
 |k+1=>by
  have ih:=Aim l k
  show (bif ltL (nth l (k+1)) (Ql l (k+1)) then nth l (k+1) else Ql l (k+1))=_
  rw [ih]
  rfl
theorem Ar9 {l:List (List Int)} (h:0<l.length):Cd ltL l=Tm l:=by
 unfold Cd Tm
 rw [<-Aim,Nat.sub_add_cancel h]
theorem Ara {s:Sheet} (hs:s.ok=true) (r:Nat):(Fk s r).length<=28:=by
 have h1:=Yk (Ct s r) (Bw (Ct s r))
 have h2:=Ai1 hs r
 unfold Fk
 omega
theorem Arb {s:Sheet} (hs:s.ok=true) {i:Nat} (hi:i<(Ae s).length):(nth (Ae s) i).length=rows s/\(nth (Ae s) i).all num=true:=by
 have:=Ar8 hs (Er hi)
 exact ⟨this.1,this.2.1⟩
theorem Ain {s:Sheet} (hs:s.ok=true) (r:Nat):(nth (Dn s) r).length<=28/\(nth (Dn s) r).all num=true:=by
 by_cases hr:r<rows s
 ·rw [Yn hr]
  exact ⟨Ara hs r,List.all_eq_true.2 fun x hx=>Ail hs hr hx⟩
 ·have:nth (Dn s) r=[]:=by
   unfold nth Dn
   rw [List.getD_eq_getElem?_getD,List.getElem?_eq_none (by rw [List.length_map,List.length_range];omega)]
   rfl
  rw [this]
  exact ⟨by decide,rfl⟩
def Dw (n:Int) (k:Nat):List Int:=n::(nums.take k).filter (Mt n)
theorem Aio (n:Int) (k:Nat):(Dw n k).length<=2000:=by
 unfold Dw
 rw [List.length_cons]
 have h1:=List.length_filter_le (Mt n) (nums.take k)
 have h2:(nums.take k).length<=1999:=by rw [List.length_take];unfold nums;rw [List.length_map,List.length_range];omega
 omega
theorem Aip:nums.length=1999:=by unfold nums;rw [List.length_map,List.length_range]
theorem Arc {k:Nat} (h:k<1999):nth nums k=Am+(k:Int):=by
 unfold nums
 rw [Ep (by rw [List.length_range];exact h),Cr h]
theorem Ard {n:Int} {k:Nat} (h:k<1999):Dw n (k+1)=Dw n k++bif Mt n (Am+(k:Int)) then [Am+(k:Int)] else []:=by
 unfold Dw
 rw [Lf (by rw [Aip];exact h),List.filter_append,Arc h]
 cases hb:Mt n (Am+(k:Int)) with
 |true=>rw [List.filter_cons_of_pos hb];rfl
 |false=>rw [List.filter_cons_of_neg (by rw [hb];exact Bool.false_ne_true)];rfl
theorem Aiq (n:Int):Dw n 1999=Fl n:=by
 unfold Dw Fl
 rw [List.take_of_length_le (by rw [Aip];exact Nat.le_refl _)]
theorem Are {Gl} (S:SP Gl) (n:Int):CO Gl 228 [I n] (.ret (L eI (Fl n))):=by
 refine Ao S (let A0:=fun (k0:Nat)=>(eqB (Am+(k0:Int) != n) true&&eqB (bif isTurned (Am+(k0:Int)) n then true else isCarried (Am+(k0:Int)) n) false);let A1:=fun (k0:Nat)=>(eqB (Am+(k0:Int) != n) true=true->eqB (Am+(k0:Int) != n) true=true);let A2:=fun (k0:Nat)=>(eqB (Am+(k0:Int) != n) true&&eqB (isTurned (Am+(k0:Int)) n) false);let A3:=fun (k0:Nat)=>(Rt.mk (Am+(k0:Int)) (0:Int) true);let A4:=fun (k0:Nat)=>(bif Am+(k0:Int) != n then bif bif isTurned (Am+(k0:Int)) n then true else isCarried (Am+(k0:Int)) n then true else n==-(Am+(k0:Int)) else false);((.loop (1999:Nat) (fun k=>[v 4 (I (Am+(k:Int))),tk 7 3,v 3 (Lt 7 eI (Dw n k)),v 0 (I n)]) fun k0=>.br (.r (.ret (B (isTurned (Rt.n (A3 k0)) n))) (.r (.ret (B (isCarried (Rt.n (A3 k0)) n))) (.r (.ret (B (n==-Rt.n (A3 k0)))) (.br .nil .nil)))) .nil),(((-999:Int)=Am+(↑(0:Nat):Int)/\(SEq (1:Nat) (fun i=>List.getD [List.map C.dem [C.v (Value.int IntKind.i64 n)]] i []) (List.length (Dw n (0:Nat))) fun i=>eI (nth (Dw n (0:Nat)) i))/\n=n)/\∀ (k0:Nat),k0<=(1999:Nat)->(decide (Am+(k0:Int)<=999)=true->(A1 k0)/\(A1 k0)/\(eqB (Am+(k0:Int) != n) true=true->CO Gl 190 [tRt (A3 k0),I n] (.ret (B (isTurned (Rt.n (A3 k0)) n))))/\(A1 k0)/\((A2 k0)=true->(A2 k0)=true)/\((A2 k0)=true->(A2 k0)=true)/\((A2 k0)=true->CO Gl 191 [tRt (A3 k0),I n] (.ret (B (isCarried (Rt.n (A3 k0)) n))))/\(A1 k0)/\(eqB (Am+(k0:Int) != n) true=true->isTurned (Am+(k0:Int)) n=false->(A2 k0)=true)/\(A1 k0)/\((A0 k0)=true->(A0 k0)=true)/\((A0 k0)=true->(A0 k0)=true)/\((A0 k0)=true->CO Gl 192 [tRt (A3 k0),I n] (.ret (B (n==-Rt.n (A3 k0)))))/\(A1 k0)/\(eqB (Am+(k0:Int) != n) true=true->(bif isTurned (Am+(k0:Int)) n then true else isCarried (Am+(k0:Int)) n)=false->(A0 k0)=true)/\((Am+(k0:Int) != n)=true->eqB (Am+(k0:Int) != n) true=true)/\((A4 k0)=true->(List.length (Dw n k0)+1)*8<=140737488355328/\List.length (Dw n k0)+1<=140737488355328/\iR (Am+(k0:Int)+1)/\k0<(1999:Nat)/\Am+(k0:Int)+1=Am+(↑(k0+1):Int)/\(SEq (List.length (Dw n k0)+1) (Ar (List.length (Dw n k0)) (fun i=>eI (nth (Dw n k0) i)) fun i=>List.getD [List.map C.dem [C.v (Value.int IntKind.i64 (Am+(k0:Int)))]] i []) (List.length (Dw n (k0+1))) fun i=>eI (nth (Dw n (k0+1)) i))/\n=n)/\((A4 k0)=false->iR (Am+(k0:Int)+1)/\k0<(1999:Nat)/\Am+(k0:Int)+1=Am+(↑(k0+1):Int)/\(sQ eI (Dw n k0) (Dw n (k0+1)))/\n=n))/\(decide (Am+(k0:Int)<=999)=false->sQ eI (Dw n k0) (Fl n))))) Tryz.func228 (by kernel_rfl) (by kernel_rfl) ?_
 simp only [stdS,imp_self,implies_true,and_true]
 have h0:Dw n 0=[n]:=by unfold Dw;rw [List.take_zero];rfl
 refine ⟨⟨rfl,.of ⟨by rw [h0];rfl,fun i hi=>by
  have:i=0:=by omega
  subst this
  rw [h0]
  rfl⟩,trivial⟩,fun k hk=>⟨fun hd=>?_,fun hd=>?_⟩⟩
 ·have hd:=of_decide_eq_true hd
  have e0:Am=-999:=rfl
  have hlt:k<1999:=by omega
  have hx:num (Am+(k:Int))=true:=Jz.2 (by omega)
  have hsl:=Aio n k
  have hss:=Ard (n:=n) hlt
  refine ⟨fun _=>Ad5 S ⟨Am+(k:Int),0,true⟩ n hx,fun _=>Ad6 S ⟨Am+(k:Int),0,true⟩ n hx,fun h1 h2=>by rw [h1,h2];rfl,fun _=>Ad7 S ⟨Am+(k:Int),0,true⟩ n hx,fun h1 h2=>by rw [h1,h2];rfl,fun hb=>?_,fun hb=>?_⟩
  ·have hb':Mt n (Am+(k:Int))=true:=hb
   exact ⟨by omega,by omega,(Af _).2 (by omega),hlt,by omega,Oc (f:=eI) (by rw [hss,hb'];rfl) rfl,trivial⟩
  ·have hb':Mt n (Am+(k:Int))=false:=hb
   exact ⟨(Af _).2 (by omega),hlt,by omega,Bn (by rw [hss,hb'];exact List.append_nil _),trivial⟩
 ·have hd:=of_decide_eq_false hd
  have e0:Am=-999:=rfl
  have hke:k=1999:=by omega
  rw [hke,Aiq]
  exact Bn rfl
theorem Arf {Gl} (S:SP Gl) (l:List Int) (n:Int):CO Gl 315 [L eI l,I n] (.ret (I (idxI (fun x=>n==x) l))):=by
 refine An S (.loop (upIdx (fun x=>n==x) l) (fun k=>[v 8 (I k),v 7 (I l.length),v 0 (L eI l),v 1 (I n)]) fun k0=>.br (.br .nil .nil) .nil) Tryz.func315 (by kernel_rfl) (l.length<=maxLen->(0=(↑(0:Nat):Int)/\(l.length:Int)=(l.length:Int)/\(sR eI l)/\n=n)/\∀ (k0:Nat),k0<=upIdx (fun x=>n==x) l->(decide ((k0:Int)<(l.length:Int))=true->(0<=(k0:Int)/\(k0:Int)<(l.length:Int))/\((n==nth l k0)=true->(k0:Int)=idxI (fun x=>n==x) l)/\((n==nth l k0)=false->iR ((k0:Int)+1)/\k0<upIdx (fun x=>n==x) l/\(k0:Int)+1=(↑(k0+1):Int)/\(l.length:Int)=(l.length:Int)/\(sR eI l)/\n=n))/\(decide ((k0:Int)<(l.length:Int))=false->(-1:Int)=idxI (fun x=>n==x) l)) (by kernel_rfl) ?_
 simp only [stdS,imp_self,implies_true,and_true]
 intro hm k hk
 have:=idx_loop (fun x=>n==x) l (fun _=>True) (fun _ _=>trivial) (by rw [Bi] at hm;exact hm) k hk
 exact ⟨fun hd=>⟨(this.1 (of_decide_eq_true hd)).1,(this.1 (of_decide_eq_true hd)).2.2.1,fun h=>⟨(Af _).2 ((this.1 (of_decide_eq_true hd)).2.2.2 h).1,((this.1 (of_decide_eq_true hd)).2.2.2 h).2⟩⟩,fun hd=>this.2 (of_decide_eq_false hd)⟩
theorem Arg {Gl} (S:SP Gl) (l:List Int) (n:Int):CO Gl 229 [L eI l,I n] (.ret (B (listed l n))):=by
 refine An S (.r (.ret (I (idxI (fun x=>n==x) l))) .nil) Tryz.func229 (by kernel_rfl) (CO Gl 315 [L eI l,I n] (.ret (I (idxI (fun x=>n==x) l)))/\decide ((0:Int)<=idxI (fun x=>n==x) l)=listed l n) (by kernel_rfl) ?_
 refine ⟨Arf S l n,?_⟩
 rw [idxI_spec]
 unfold listed
 congr 2
 funext x
 rw [Bool.eq_iff_iff,Bool.not_eq_true',Bool.not_eq_true',beq_eq_false_iff_ne,beq_eq_false_iff_ne]
 exact ⟨fun h hh=>h hh.symm,fun h hh=>h hh.symm⟩
end Go.Vc.Zn
namespace Go.Proofs
open Go.Shelf
def Tryz.lays189_ren:Go.Shelf.Ren:=⟨fun|189=>230|125=>317|257=>316|128=>365|129=>366|294=>356|295=>357|296=>358|297=>359|298=>360|299=>361|216=>362|300=>363|301=>364|328=>392|329=>393|330=>394|331=>395|332=>396|215=>235|343=>407|n=>n,fun|28=>22|3=>3|46=>453|0=>0|51=>499|53=>501|4=>4|183=>493|182=>492|131=>93|5=>5|9=>9|218=>536|222=>540|228=>548|229=>342|n=>n,fun|n=>n⟩
theorem Tryz.lays189:Go.Proofs.Lays.n189 Tryz.prog Tryz.lays189_ren:={
 mixed:=by kernel_rfl
 f125:=Tryz.func317.trans (congrArg some (by kernel_rfl))
 f128:=Tryz.func365.trans (congrArg some (by kernel_rfl))
 f129:=Tryz.func366.trans (congrArg some (by kernel_rfl))
 f189:=Tryz.func230.trans (congrArg some (by kernel_rfl))
 f215:=Tryz.func235.trans (congrArg some (by kernel_rfl))
 f216:=Tryz.func362.trans (congrArg some (by kernel_rfl))
 f257:=Tryz.func316.trans (congrArg some (by kernel_rfl))
 f294:=Tryz.func356.trans (congrArg some (by kernel_rfl))
 f295:=Tryz.func357.trans (congrArg some (by kernel_rfl))
 f296:=Tryz.func358.trans (congrArg some (by kernel_rfl))
 f297:=Tryz.func359.trans (congrArg some (by kernel_rfl))
 f298:=Tryz.func360.trans (congrArg some (by kernel_rfl))
 f299:=Tryz.func361.trans (congrArg some (by kernel_rfl))
 f300:=Tryz.func363.trans (congrArg some (by kernel_rfl))
 f301:=Tryz.func364.trans (congrArg some (by kernel_rfl))
 f328:=Tryz.func392.trans (congrArg some (by kernel_rfl))
 f329:=Tryz.func393.trans (congrArg some (by kernel_rfl))
 f330:=Tryz.func394.trans (congrArg some (by kernel_rfl))
 f331:=Tryz.func395.trans (congrArg some (by kernel_rfl))
 f332:=Tryz.func396.trans (congrArg some (by kernel_rfl))
 f343:=Tryz.func407.trans (congrArg some (by kernel_rfl))
 t0:=Tryz.underlying0
 a0:=Tryz.isAgg0
 z0:=Tryz.sizeOf0
 v0:=Tryz.zeroValue0
 t3:=Tryz.underlying3
 a3:=Tryz.isAgg3
 z3:=Tryz.sizeOf3
 v3:=Tryz.zeroValue3
 t4:=Tryz.underlying4
 a4:=Tryz.isAgg4
 z4:=Tryz.sizeOf4
 v4:=Tryz.zeroValue4
 t5:=Tryz.underlying5
 a5:=Tryz.isAgg5
 z5:=Tryz.sizeOf5
 v5:=Tryz.zeroValue5
 t9:=Tryz.underlying9
 a9:=Tryz.isAgg9
 z9:=Tryz.sizeOf9
 v9:=Tryz.zeroValue9
 t28:=Tryz.underlying22
 a28:=Tryz.isAgg22
 z28:=Tryz.sizeOf22
 v28:=Tryz.zeroValue22
 t46:=Tryz.underlying453
 a46:=Tryz.isAgg453
 z46:=Tryz.sizeOf453
 v46:=Tryz.zeroValue453
 t51:=Tryz.underlying499
 a51:=Tryz.isAgg499
 z51:=Tryz.sizeOf499
 v51:=Tryz.zeroValue499
 t53:=Tryz.underlying501
 a53:=Tryz.isAgg501
 z53:=Tryz.sizeOf501
 v53:=Tryz.zeroValue501
 t131:=Tryz.underlying93
 a131:=Tryz.isAgg93
 z131:=Tryz.sizeOf93
 v131:=Tryz.zeroValue93
 t182:=Tryz.underlying492
 a182:=Tryz.isAgg492
 z182:=Tryz.sizeOf492
 v182:=Tryz.zeroValue492
 t183:=Tryz.underlying493
 a183:=Tryz.isAgg493
 z183:=Tryz.sizeOf493
 v183:=Tryz.zeroValue493
 t218:=Tryz.underlying536
 a218:=Tryz.isAgg536
 z218:=Tryz.sizeOf536
 v218:=Tryz.zeroValue536
 t222:=Tryz.underlying540
 a222:=Tryz.isAgg540
 z222:=Tryz.sizeOf540
 v222:=Tryz.zeroValue540
 t228:=Tryz.underlying548
 a228:=Tryz.isAgg548
 z228:=Tryz.sizeOf548
 v228:=Tryz.zeroValue548
 t229:=Tryz.underlying342
 a229:=Tryz.isAgg342
 z229:=Tryz.sizeOf342
 v229:=Tryz.zeroValue342 }
open Go.Sort Go.RowKit in
theorem Tryz.slices_Sort_int (blk off cap:Nat) (zs:List Int) (w:World) (hH:Holds (Value.int .i64) w blk off zs.toArray) (hblk:blk<w.heap.size) (hsz:zs.length<4611686018427387904):
  Calls Tryz.prog 230 #[.slice (some ⟨blk,off,none⟩) zs.length cap] w fun e w'=>
   e=.returned (.tuple #[])/\∃ n os,w'=grow (putRow (Value.int .i64) (Sort.ahead w n) blk off (zs.mergeSort fun x y=>decide (x<=y)).toArray) os:=Any.slices_Sort_int Tryz.lays189 blk off cap zs w hH hblk hsz
def Tryz.laysNm215_ren:Go.Shelf.Ren:=⟨fun|15=>69|n=>n,fun|22=>22|3=>3|4=>4|n=>n,fun|n=>n⟩
theorem Tryz.laysNm215:Go.Proofs.Lays2.n15 Tryz.prog Tryz.laysNm215_ren:={
 mixed:=by kernel_rfl
 f15:=Tryz.func69.trans (congrArg some (by kernel_rfl))
 t3:=Tryz.underlying3
 a3:=Tryz.isAgg3
 z3:=Tryz.sizeOf3
 v3:=Tryz.zeroValue3
 t4:=Tryz.underlying4
 a4:=Tryz.isAgg4
 z4:=Tryz.sizeOf4
 v4:=Tryz.zeroValue4
 t22:=Tryz.underlying22
 a22:=Tryz.isAgg22
 z22:=Tryz.sizeOf22
 v22:=Tryz.zeroValue22
 i3:=by kernel_rfl }
open Go.RowKit Go.Lib in
theorem Tryz.slices_Clone_int (b off n c:Nat) (zs:List Int) (w:World) (hz:n<=zs.length) (hbig:n*8<=140737488355328) (hc:∀ j,j<zs.length->w.cell? ⟨b,off+j,none⟩=some (.int .i64 (zs.getD j 0))):
  Calls Tryz.prog 69 #[.slice (some ⟨b,off,none⟩) n c] w fun e w'=>∃ v',e=.returned v'/\w'.ownsRow w.heap.size 3 1 v' n ((zs.take n).map (Value.int .i64))/\v'≠.slice none 0 0/\Below w.heap.size w w':=Any.slices_Clone_int Tryz.laysNm215 b off n c zs w hz hbig hc
def Tryz.laysNm220_ren:Go.Shelf.Ren:=⟨fun|20=>231|n=>n,fun|22=>22|3=>3|4=>4|0=>0|n=>n,fun|n=>n⟩
theorem Tryz.laysNm220:Go.Proofs.Lays2.n20 Tryz.prog Tryz.laysNm220_ren:={
 mixed:=by kernel_rfl
 f20:=Tryz.func231.trans (congrArg some (by kernel_rfl))
 t0:=Tryz.underlying0
 a0:=Tryz.isAgg0
 z0:=Tryz.sizeOf0
 v0:=Tryz.zeroValue0
 t3:=Tryz.underlying3
 a3:=Tryz.isAgg3
 z3:=Tryz.sizeOf3
 v3:=Tryz.zeroValue3
 t4:=Tryz.underlying4
 a4:=Tryz.isAgg4
 z4:=Tryz.sizeOf4
 v4:=Tryz.zeroValue4
 t22:=Tryz.underlying22
 a22:=Tryz.isAgg22
 z22:=Tryz.sizeOf22
 v22:=Tryz.zeroValue22
 i3:=by kernel_rfl }
open Go.RowKit Go.Lib Go.Sort in
theorem Tryz.slices_Compact_int (blk off cap:Nat) (zs:List Int) (w:World) (hH:Holds (Value.int .i64) w blk off zs.toArray) (hsz:zs.length<=9223372036854775807) (hcap:zs.length<=cap):
  Calls Tryz.prog 231 #[.slice (some ⟨blk,off,none⟩) zs.length cap] w fun e w'=>e=.returned (.slice (some ⟨blk,off,none⟩) (Lib.compact zs).length cap)/\∃ q,w'=putRow (Value.int .i64) (Sort.ahead w q) blk off (Lib.compact zs++List.replicate (zs.length - (Lib.compact zs).length) 0).toArray:=Any.slices_Compact_int Tryz.laysNm220 blk off cap zs w hH hsz hcap
open Go.RowKit Go.Lib Go.Sort in
theorem Tryz.slices_Compact_int_empty (a:Option Addr) (cap:Nat) (w:World):
  Calls Tryz.prog 231 #[.slice a 0 cap] w fun e w'=>e=.returned (.slice a 0 cap)/\w'=w:=Any.slices_Compact_int_empty Tryz.laysNm220 a cap w
open Go.RowKit Go.Sort in
theorem Tryz.slices_Sort_int_none (p:Option Addr) (cap:Nat) (w:World):
  Calls Tryz.prog 230 #[.slice p 0 cap] w fun e w'=>e=.returned (.tuple #[])/\w'=w:=Any.slices_Sort_int_none Tryz.lays189 p cap w
end Go.Proofs
namespace Go.Vc.Zn
open Go Go.Proofs Go.Vc Go.RowKit
theorem fn149:Gy Tryz.prog 69:=⟨Tryz.f69,by kernel_rfl,by kernel_rfl,by kernel_rfl⟩
theorem Arh {Gl:World->Prop} (l:List Int) (h1:1<=l.length) (h2:l.length<=1000):CO Gl 69 [L eI l] (.ret (.own 1 l.length fun i=>eI (nth l i))):=by
 refine ⟨fn149,fun vis w vs hvis hgl hargs=>?_⟩
 simp only [Ab] at hargs
 obtain ⟨v,us,hvs,hv,rfl⟩:=hargs
 have hv1:vs=#[v]:=by apply Array.ext';rw [hvs]
 subst hv1
 simp only [Aa,Aw] at hv
 have hrep:Rep vis w (.s .n l.length fun i=>eI (nth l i)) v:=hv
 generalize hn:l.length=n at hrep
 generalize hf:(fun i=>eI (nth l i))=f at hrep
 cases hrep with
 |nil=>omega
 |e=>omega
 |s _ n f b off cap sz u a1 a2 a3 a4 a5 a6=>
  subst hf
  have hcell:∀ j,j<l.length->w.cell? ⟨b,off+j,none⟩=some (.int .i64 (l.getD j 0)):=fun j hj=>by
   have hsz:sz=1:=(a3 j (by omega)).symm
   subst hsz
   have h5:=a5 j 0 _ (by omega) rfl
   have h6:=a6 j 0 _ (by omega) rfl
   rw [Nat.mul_one,Nat.add_zero] at h5
   rw [h5]
   generalize u j 0=uv at h6
   cases h6
   rfl
  refine (Tryz.slices_Clone_int b off n cap l w (by omega) (by omega) hcell).mono fun en w' he=>?_
  obtain ⟨v',rfl,⟨hxl,hrow⟩,hne,hbel⟩:=he
  refine ⟨hbel,v',vis,rfl,fun _ _=>rfl,fun b hb=>hvis b (Nat.le_trans hbel.size hb),?_⟩
  rcases hrow with ⟨h,_⟩|⟨g,cap',cur,rfl,g1,g2,g3,g4,g5,g6⟩
  ·exact absurd h hne
  ·have hlt:g<w'.heap.size:=(Array.getElem?_eq_some_iff.1 g2).1
   refine ⟨g,cur,3,(0,0),.inr ⟨cap',rfl,g3,g4,by omega⟩,g1,hlt,hvis g g1,by decide,g2,.inl rfl,by omega,fun i hi=>⟨rfl,fun j c hj=>?_⟩⟩
   have hj0:j=0:=by
    have:j<1:=(List.getElem?_eq_some_iff.1 hj).1
    omega
   subst hj0
   have hi':i<l.length:=by omega
   obtain rfl:C.v (.int .i64 (nth l i))=c:=Option.some.inj hj
   refine ⟨_,?_,.v _ rfl⟩
   have ht:cur.toList[i]?=some (.int .i64 (nth l i)):=by
    have h7:(cur.toList.take (n*1))[i]?=some (.int .i64 (nth l i)):=by
     rw [g6,List.getElem?_map,List.getElem?_take,if_pos (by omega),List.getElem?_eq_getElem hi',Ex hi']
     rfl
    rw [List.getElem?_take,if_pos (by omega)] at h7
    exact h7
   rw [Nat.mul_one,Nat.add_zero,<-Array.getElem?_toList]
   exact ht
end Go.Vc.Zn
namespace Go.Vc
open Go Go.RowKit
section
variable {P:Program} {Y:TypeId->Ty} {a:Act} {w:World}
end
end Go.Vc
namespace Go.Vc.Zn
open Go Go.Proofs Go.Vc Go.RowKit
theorem Air {α:Type} [Inhabited α] (enc:α->Value) (w:World) (blk off:Nat) (d:Array α) {b:Nat} (h:b≠blk):(Sort.putRow enc w blk off d).heap[b]?=w.heap[b]?:=by
 simp only [Sort.putRow,Sort.mapBlock,Array.getElem?_modify]
 rw [if_neg (fun hh=>h hh.symm)]
theorem Ari {vis:Nat->Nat} {w:World} {b off cap:Nat} {zs:List Int} {g:Tag} {n:Nat} {f:Nat->List C} (hn:n=zs.length) (hf:f=fun i=>eI (nth zs i)) (hrep:Rep vis w (.s g n f) (.slice (some ⟨b,off,none⟩) n cap)) {cs:Array Value} {t:TypeId} (hh:w.heap[b]?=some (.cells cs t (0,0))):
  Sort.Holds (Value.int .i64) w b off zs.toArray:=by
 intro j hj
 have hj:j<zs.length:=by simpa using hj
 rw [<-hn] at hj
 cases hrep with
 |e=>omega
 |s _ n f b off cap sz u a1 a2 a3 a4 a5 a6=>
  subst hf
  have hsz:sz=1:=(a3 j hj).symm
  subst hsz
  have h5:=a5 j 0 _ hj rfl
  have h6:=a6 j 0 _ hj rfl
  rw [Nat.mul_one,Nat.add_zero] at h5
  refine ⟨?_,by simp [World.frozen?,hh]⟩
  rw [h5]
  have hnth:zs.toArray[j]! =nth zs j:=by
   rw [Ex (by omega),getElem!_pos _ j (by simp;omega)]
   simp
  rw [hnth]
  generalize u j 0=uv at h6
  cases h6
  rfl
def Ts (zs:List Int):List Int:=zs.mergeSort fun x y=>decide (x<=y)
structure Once (X:Cx) (w w3:World) (zs:List Int) (u:Value) (vis':Nat->Nat):Prop where
 size:w.heap.size<=w3.heap.size
 os:w3.os=w.os
 tape:w3.tape=w.tape
 output:w3.output=w.output
 mark:∀ D:Nat,w.heap[D]?=some (.deferred (some []))->w3.heap[D]?=w.heap[D]?
 old:∀ b:Nat,b<X.base->w3.heap[b]?=w.heap[b]?
 vold:∀ b,b<X.base->vis' b=X.vis b
 fresh:∀ b,w3.heap.size<=b->vis' b=0
 rep:Rep vis' w3 (.l eI zs) u
variable {X:Cx} {a:Act} {w:World} {G:Gh} {e:Env} {nt:Nat}
theorem Arj (R:Rel Y X nt [] e a w G) {zs:List Int} {u:Value} {k:Nat} (hk:k<FAR) (hlen:zs.length<=1000000)
  (hrep:Rep G.vis w (.s (.t k) zs.length fun i=>eI (nth zs i)) u) (hown:Own G w Y k 3 zs.length (fun i=>eI (nth zs i)) u):
  ∃ Q:World->Prop,Calls Tryz.prog 230 #[u] w (fun en w1=>en=.returned (.tuple #[])/\Q w1)/\∀ w1,Q w1->(∀ b',G.tk k≠some b'->b'<w.heap.size->w1.heap[b']?=w.heap[b']?)/\(∃ vis',Once X w w1 (Ts zs) u vis')/\
   Calls Tryz.prog 231 #[u] w1 (fun en w3=>∃ u' vis',en=.returned u'/\Once X w w3 (Hp zs) u' vis'):=by
 have triv:∀ (p:Option Addr) (cap:Nat),zs=[]->u=.slice p 0 cap->∃ Q:World->Prop,Calls Tryz.prog 230 #[u] w (fun en w1=>en=.returned (.tuple #[])/\Q w1)/\∀ w1,Q w1->(∀ b',G.tk k≠some b'->b'<w.heap.size->w1.heap[b']?=w.heap[b']?)/\(∃ vis',Once X w w1 (Ts zs) u vis')/\
   Calls Tryz.prog 231 #[u] w1 (fun en w3=>∃ u' vis',en=.returned u'/\Once X w w3 (Hp zs) u' vis'):=by
  intro p cap hz hu
  subst hz
  subst hu
  have h1:Hp []=[]:=by unfold Hp;rw [List.mergeSort_nil];rfl
  have h2:Ts []=[]:=by unfold Ts;rw [List.mergeSort_nil]
  refine ⟨fun w1=>w1=w,(Tryz.slices_Sort_int_none p cap w).mono fun en w1 h=>h,fun w1 hw=>?_⟩
  subst hw
  refine ⟨fun _ _ _=>rfl,⟨G.vis,Nat.le_refl _,rfl,rfl,rfl,fun _ _=>rfl,fun _ _=>rfl,R.old,R.fresh,by rw [h2];exact Rep.dem hrep⟩,(Tryz.slices_Compact_int_empty p cap w1).mono fun en w3 h=>?_⟩
  obtain ⟨h3,rfl⟩:=h
  refine ⟨_,G.vis,h3,Nat.le_refl _,rfl,rfl,rfl,fun _ _=>rfl,fun _ _=>rfl,R.old,R.fresh,?_⟩
  rw [h1]
  exact Rep.dem hrep
 rcases hown.2 with h|⟨h,p,hu⟩|⟨b,xs,hb,hob,hrow,hvis⟩
 ·have hz:zs=[]:=by
   subst h
   generalize hn:zs.length=n at hrep
   cases hrep
   exact List.eq_nil_of_length_eq_zero hn
  subst hz
  exact triv none 0 rfl h
 ·have hz:zs=[]:=by
   rcases h with h|h
   ·exact List.eq_nil_of_length_eq_zero h
   ·omega
  subst hz
  exact triv p 0 rfl hu
 ·obtain ⟨cap,cur,rfl,hcell,hnc,hcm,hcs⟩:∃ cap cur,u=.slice (some ⟨b,0,none⟩) zs.length cap/\w.heap[b]?=some (.cells cur 3 (0,0))/\zs.length<=cap/\cap<=maxLen/\cur.size=cap*(Y 3).size:=by
   rcases hrow.2 with ⟨h,_⟩|⟨g,cap,cur,hu,_,h2,h3,h4,h5,_⟩
   ·rw [h] at hob;cases hob
   ·rw [hu] at hob
    simp only [Value.ownBlock,Option.some.injEq] at hob
    subst hob
    exact ⟨cap,cur,hu,h2,h3,h4,h5⟩
  obtain ⟨t1,t2,t3,t4,t5⟩:=R.tks k b hb
  have hH:=Ari rfl rfl hrep hcell
  refine ⟨fun w1=>∃ n os,w1=Sort.grow (Sort.putRow (Value.int .i64) (Sort.ahead w n) b 0 (zs.mergeSort fun x y=>decide (x<=y)).toArray) os,(Tryz.slices_Sort_int b 0 cap zs w hH t2 (by omega)).mono fun en w1 h=>h,fun w1 hw=>?_⟩
  obtain ⟨n,os,rfl⟩:=hw
  generalize hys:(zs.mergeSort fun x y=>decide (x<=y))=ys
  have hyl:ys.length=zs.length:=by rw [<-hys,List.length_mergeSort]
  have hne:∀ b':Nat,b'≠b->b'<w.heap.size->(Sort.grow (Sort.putRow (Value.int .i64) (Sort.ahead w n) b 0 ys.toArray) os).heap[b']?=w.heap[b']?:=fun b' h1 h2=>by
   rw [Sort.heap_grow_old _ _ (by simpa using h2),Air _ _ _ _ _ h1]
   rfl
  have hH1:Sort.Holds (Value.int .i64) (Sort.grow (Sort.putRow (Value.int .i64) (Sort.ahead w n) b 0 ys.toArray) os) b 0 ys.toArray:=
   Sort.holds_grow _ _ _ _ _ _ (by simpa using t2) (Sort.holds_putRow _ _ _ _ zs.toArray _ (Sort.holds_ahead _ _ _ _ _ _ hH) (by simpa using hyl))
  generalize hW:Sort.grow (Sort.putRow (Value.int .i64) (Sort.ahead w n) b 0 ys.toArray) os=W at *
  have hWs:w.heap.size<=W.heap.size:=by rw [<-hW];simp
  refine ⟨fun b' h1 h2=>hne b' (fun hh=>h1 (by rw [hh];exact hb)) h2,⟨fun x=>if x=b then ys.length else G.vis x,hWs,by rw [<-hW];rfl,by rw [<-hW];rfl,by rw [<-hW];rfl,fun D hD=>?_,fun b' hb'=>hne b' (by omega) (by have:=R.base;omega),fun b' hb'=>?_,fun b' hb'=>?_,?_⟩,?_⟩
  ·refine hne D (fun hh=>?_) (Array.getElem?_eq_some_iff.1 hD).1
   rw [hh,hcell] at hD
   cases hD
  ·rw [if_neg (by omega)]
   exact R.old b' hb'
  ·rw [if_neg (by omega)]
   exact R.fresh b' (by omega)
  ·unfold Ts
   rw [hys]
   have hrow:∀ i,i<ys.length->W.cell? ⟨b,0+i,none⟩=some (.int .i64 (nth ys i)):=fun i hi=>by
    rw [(hH1 i (by simpa using hi)).1,Ex hi,getElem!_pos _ i (by simpa using hi)]
    simp
   refine Eq.subst (motive:=fun n=>Rep _ W (.l eI ys) (.slice (some ⟨b,0,none⟩) n cap)) hyl ?_
   refine .s _ _ _ b 0 cap 1 (fun i _=>.int .i64 (nth ys i)) (by omega) hcm (fun i hi=>rfl) (by simp) (fun i j c hi hj=>?_) (fun i j c hi hj=>?_)
   ·have hj0:j=0:=by
     have:=(List.getElem?_eq_some_iff.1 hj).1
     have h1:(eI (nth ys i)).length=1:=rfl
     omega
    subst hj0
    rw [Nat.mul_one,Nat.add_zero]
    exact hrow i hi
   ·have hj0:j=0:=by
     have:=(List.getElem?_eq_some_iff.1 hj).1
     have h1:(eI (nth ys i)).length=1:=rfl
     omega
    subst hj0
    obtain rfl:C.v (.int .i64 (nth ys i))=c:=Option.some.inj hj
    exact .v _ rfl
  ·rw [<-hyl]
   refine (Tryz.slices_Compact_int b 0 cap ys _ hH1 (by omega) (by omega)).mono fun en w3 h=>?_
   obtain ⟨h1,q,h2⟩:=h
   have hne3:∀ b':Nat,b'≠b->b'<w.heap.size->w3.heap[b']?=w.heap[b']?:=fun b' g1 g2=>by
    rw [h2,Air _ _ _ _ _ g1]
    exact hne b' g1 g2
   have hcl:=Aqv ys
   have h3s:w3.heap.size=W.heap.size:=by rw [h2];simp
   refine ⟨_,fun x=>if x=b then (Lib.compact ys).length else G.vis x,h1,⟨by omega,?_,?_,?_,fun D hD=>?_,fun b' hb'=>hne3 b' (by omega) (by have:=R.base;omega),fun b' hb'=>?_,fun b' hb'=>?_,?_⟩⟩
   ·rw [h2,<-hW];rfl
   ·rw [h2,<-hW];rfl
   ·rw [h2,<-hW];rfl
   ·refine hne3 D (fun hh=>?_) (by have:=(Array.getElem?_eq_some_iff.1 hD).1;exact this)
    rw [hh,hcell] at hD
    cases hD
   ·rw [if_neg (by omega)]
    exact R.old b' hb'
   ·rw [if_neg (by omega)]
    exact R.fresh b' (by omega)
   ·unfold Hp
    rw [hys]
    have hrow:∀ i,i<(Lib.compact ys).length->w3.cell? ⟨b,0+i,none⟩=some (.int .i64 (nth (Lib.compact ys) i)):=fun i hi=>by
     have:=Sort.cell?_putRow (Value.int .i64) (Sort.ahead W q) b 0 ys.toArray (Lib.compact ys++List.replicate (ys.length - (Lib.compact ys).length) 0).toArray (Sort.holds_ahead _ _ _ _ _ _ hH1) (by simp;omega) i (by simp;omega)
     rw [<-h2] at this
     rw [this,getElem!_pos _ i (by simp;omega),Ex hi]
     simp [hi]
    refine .s _ _ _ b 0 cap 1 (fun i _=>.int .i64 (nth (Lib.compact ys) i)) (by omega) hcm (fun i hi=>rfl) (by simp) (fun i j c hi hj=>?_) (fun i j c hi hj=>?_)
    ·have hj0:j=0:=by
      have:=(List.getElem?_eq_some_iff.1 hj).1
      have h1:(eI (nth (Lib.compact ys) i)).length=1:=rfl
      omega
     subst hj0
     rw [Nat.mul_one,Nat.add_zero]
     exact hrow i hi
    ·have hj0:j=0:=by
      have:=(List.getElem?_eq_some_iff.1 hj).1
      have h1:(eI (nth (Lib.compact ys) i)).length=1:=rfl
      omega
     subst hj0
     obtain rfl:C.v (.int .i64 (nth (Lib.compact ys) i))=c:=Option.some.inj hj
     exact .v _ rfl
theorem fn130:Gy Tryz.prog 230:=⟨Tryz.f230,by kernel_rfl,by kernel_rfl,by kernel_rfl⟩
theorem fn146:Gy Tryz.prog 231:=⟨Tryz.f231,by kernel_rfl,by kernel_rfl,by kernel_rfl⟩
theorem Ais {P:Program} {a:Act} {n:Nat} {f:Nat->Value} {ds:List Deferred} {w:World} {o:Oper} {g:FuncId} {t:Nat} {tys:Array TypeId} (S:SL a n f ds) (ho:o.op=.call { callee:=.value (.func g),args:=#[.tmp t],argTypes:=tys }) (ht:t<n) (hfn:Gy P g):
  (execOp a.eval o).run P w=.ok (.enter g #[f t]) w:=by
 have:=Nv (P:=P) (w:=w) (a:=a) ho (us:=#[]) (cvs:=#[]) rfl hfn
 have he:#[Operand.tmp t].map a.eval=#[f t]:=by simp [S.eval ht]
 rw [he] at this
 simpa using this
noncomputable def Mu:List Code×Code:=match Tryz.f129.body with|some c=>Xx 7 c|none=>([],.skip)
theorem Ark:Tryz.f129.body=some (Lb Mu.1 Mu.2):=by kernel_rfl
noncomputable def Hr:Nat->Array Oper
 |0=>match Mu.2 with| .seq (.region _ o _) _=>o|_=>#[]
 |_=>match Mu.2 with| .seq _ (.seq (.region _ o _) _)=>o|_=>#[]
theorem Arl:Mu.2=.seq (.region 13 (Hr 0) false) (.seq (.region 14 (Hr 1) false) .ret):=by kernel_rfl
noncomputable def Cu (r i:Nat):Oper:=((Hr r)[i]?).getD default
theorem Arm:(Hr 0)[0]?=some (Cu 0 0)/\(Cu 0 0).guard=none/\(Cu 0 0).op=.move (.tmp 6)/\(Cu 0 0).dst=some 40:=⟨by kernel_rfl,by kernel_rfl,by kernel_rfl,by kernel_rfl⟩
theorem Arn:(Hr 0)[1]?=some (Cu 0 1)/\(Cu 0 1).guard=none/\(Cu 0 1).op=.call { callee:=.value (.func 230),args:=#[.tmp 40],argTypes:=#[22] }/\(Cu 0 1).dst=some 41:=⟨by kernel_rfl,by kernel_rfl,by kernel_rfl,by kernel_rfl⟩
theorem Aro:(Hr 1)[0]?=some (Cu 1 0)/\(Cu 1 0).guard=none/\(Cu 1 0).op=.move (.tmp 6)/\(Cu 1 0).dst=some 42:=⟨by kernel_rfl,by kernel_rfl,by kernel_rfl,by kernel_rfl⟩
theorem Arp:(Hr 1)[1]?=some (Cu 1 1)/\(Cu 1 1).guard=none/\(Cu 1 1).op=.call { callee:=.value (.func 231),args:=#[.tmp 42],argTypes:=#[22] }/\(Cu 1 1).dst=some 43:=⟨by kernel_rfl,by kernel_rfl,by kernel_rfl,by kernel_rfl⟩
theorem Arq:(Hr 1)[2]?=some (Cu 1 2)/\(Cu 1 2).guard=none/\(Cu 1 2).op=.move (.tmp 9)/\(Cu 1 2).dst=some 44:=⟨by kernel_rfl,by kernel_rfl,by kernel_rfl,by kernel_rfl⟩
theorem Arr:(Hr 1)[3]?=some (Cu 1 3)/\(Cu 1 3).guard=none/\(Cu 1 3).op=.assign (.tmp 43)/\(Cu 1 3).dst=some 4:=⟨by kernel_rfl,by kernel_rfl,by kernel_rfl,by kernel_rfl⟩
theorem Ars:(Hr 1)[4]?=some (Cu 1 4)/\(Cu 1 4).guard=none/\(Cu 1 4).op=.assign (.tmp 44)/\(Cu 1 4).dst=some 5:=⟨by kernel_rfl,by kernel_rfl,by kernel_rfl,by kernel_rfl⟩
theorem Art:List.range (Hr 0).size=[0,1]:=by kernel_rfl
theorem Aru:List.range (Hr 1).size=[0,1,2,3,4]:=by kernel_rfl
def Ait (zs:List Int) (o:Int):Env:=v 6 (Lt 100 eI zs)::v 9 (I o)::tk 100 3::[]
theorem Arv {Gl} (S:SP Gl) {zs:List Int} {o:Int} (hz:zs.length<=1000000) {X:Cx} {vis:Nat->Nat} {w0:World} {a:Act} {w:World} {G:Gh} (Tl:Tail Tryz.prog Gl Y X Tryz.f129 (Ait zs o) vis w0 a w G):
  Mu.2.wpIn (Fr none) 0 Tryz.prog (bodyPostM (Fr none) 0 Tryz.prog Tryz.f129 fun en w'=>Below w0.heap.size w0 w'/\Gx vis w0 en w' (.ret (.tup [.c (.l eI (Hp zs)),.c (Ci o)]))) a w:=by
 have R:=Tl.rel
 have hv6:=R.slots 6
 have hv9:=R.slots 9
 obtain ⟨u,hu⟩:∃ u,a.tmps.getD 6 undef=u:=⟨_,rfl⟩
 unfold Dg at hv6 hv9
 rw [if_pos (by decide)] at hv6 hv9
 rw [hu] at hv6
 have hrep:Rep G.vis w (.s (.t 100) zs.length fun i=>eI (nth zs i)) u:=hv6.reld
 have hown:Own G w Y 100 3 zs.length (fun i=>eI (nth zs i)) u:=hv6.own 3 rfl
 have ho:a.tmps.getD 9 undef=.int .i64 o:=by
  have h:Rep G.vis w (Ci o) (a.tmps.getD 9 undef):=hv9.reld
  generalize a.tmps.getD 9 undef=q at h
  cases h
  rfl
 obtain ⟨Q,hsort,hcomp⟩:=Arj R (by decide) hz hrep hown
 have hsz:a.tmps.size=45:=R.size
 have S0:SL a 45 (fun t=>a.tmps.getD t undef) a.defers:=⟨hsz,rfl,fun _ _=>rfl⟩
 rw [Arl]
 refine wpIn_seq (wpIn_region ?_)
 rw [Art]
 obtain ⟨o1,o2,o3,o4⟩:=Arm
 refine Lc o1 o2 (by rw [o3];intro c hc;cases hc) (v:=u) (w':=w) (by simp [execOp,o3,S0.eval,hu]) ?_
 rw [o4]
 have S1:=S0.put (d:=40) (by decide) u
 obtain ⟨o1,o2,o3,o4⟩:=Arn
 refine Ah7 o1 o2 (by rw [o3];intro c hc;cases hc) (Ais S1 o3 (by decide) fn130) hsort ?_
 rintro _ w1 ⟨rfl,hQ⟩
 refine ⟨_,rfl,?_⟩
 rw [o4]
 have S2:=S1.put (d:=41) (by decide) (.tuple #[])
 obtain ⟨_,_,hc⟩:=hcomp w1 hQ
 show (Code.seq (.region 14 (Hr 1) false) .ret).wpIn (Fr none) 0 Tryz.prog _ _ w1
 refine wpIn_seq (wpIn_region ?_)
 rw [Aru]
 obtain ⟨o1,o2,o3,o4⟩:=Aro
 refine Lc o1 o2 (by rw [o3];intro c hc;cases hc) (v:=u) (w':=w1) (by simp [execOp,o3,S2.eval,upd,hu]) ?_
 rw [o4]
 have S3:=S2.put (d:=42) (by decide) u
 obtain ⟨o1,o2,o3,o4⟩:=Arp
 refine Ah7 o1 o2 (by rw [o3];intro c hc;cases hc) (Ais S3 o3 (by decide) fn146) hc ?_
 rintro _ w3 ⟨u',vis',rfl,hO⟩
 refine ⟨_,rfl,?_⟩
 rw [o4]
 have S4:=S3.put (d:=43) (by decide) u'
 obtain ⟨o1,o2,o3,o4⟩:=Arq
 refine Lc o1 o2 (by rw [o3];intro c hc;cases hc) (v:=.int .i64 o) (w':=w3) (by simp [execOp,o3,S4.eval,upd,ho]) ?_
 rw [o4]
 have S5:=S4.put (d:=44) (by decide) (.int .i64 o)
 obtain ⟨o1,o2,o3,o4⟩:=Arr
 refine Lc o1 o2 (by rw [o3];intro c hc;cases hc) (v:=u') (w':=w3) (by simp [execOp,o3,S5.eval,upd]) ?_
 rw [o4]
 have S6:=S5.put (d:=4) (by decide) u'
 obtain ⟨o1,o2,o3,o4⟩:=Ars
 refine Lc o1 o2 (by rw [o3];intro c hc;cases hc) (v:=.int .i64 o) (w':=w3) (by simp [execOp,o3,S6.eval,upd]) ?_
 rw [o4]
 have S7:=S6.put (d:=5) (by decide) (.int .i64 o)
 refine wpIn_ret ?_
 have hj:=R.jj
 rw [Tl.J] at hj
 have R':=R.anew (a':=Act.put (Act.put (Act.put (Act.put (Act.put (Act.put (Act.put a (some 40) u) (some 41) (.tuple #[])) (some 42) u) (some 43) u') (some 44) (.int .i64 o)) (some 4) u') (some 5) (.int .i64 o)) (w':=w3) (vis':=vis') (e':=[(0,4,.d (.c (.l eI (Hp zs)))),(0,5,I o)]) (fun _=>rfl) (fun _=>rfl) (fun _ _=>rfl)
  (by rw [S7.size,hsz]) S7.defers hO.size (fun D hD=>hO.mark D (R.marks D hD).2.1) (fun t ht=>?_) hO.fresh hO.vold (by
   rw [Tl.J]
   refine ⟨hj.1,hj.2.trans ⟨hO.os,hO.tape,hO.output,hO.size,fun b hb=>hO.old b (by rw [Tl.base];exact hb)⟩⟩)
 ·exact Tl.leave S R' ⟨Bn rfl,rfl⟩
 ·by_cases h4:t=4
  ·subst h4
   refine VOK.dem (x:=.c (.l eI (Hp zs))) ?_
   have:=S7.get 4 (by decide)
   unfold Dg
   rw [if_pos (by decide),this]
   exact hO.rep
  ·by_cases h5:t=5
   ·subst h5
    refine VOK.dem (x:=.c (Ci o)) ?_
    have:=S7.get 5 (by decide)
    unfold Dg
    rw [if_pos (by decide),this]
    exact .v _ rfl
   ·refine absurd ?_ ht
    rw [Ax (fun hh=>h4 hh.2.symm),Ax (fun hh=>h5 hh.2.symm)]
    rfl
theorem Yp (s:Sheet) (r:Nat):(Ba s r).length=s.cols.length:=List.length_map ..
def Ds (s:Sheet) (row k:Nat):List Int:=((Ba s row).take k).flatMap Fl
theorem Aiu (n:Int):(Fl n).length<=2000:=by rw [<-Aiq];exact Aio n 1999
theorem Aiv {s:Sheet} {row k:Nat} (h:k<(Ba s row).length):Ds s row (k+1)=Ds s row k++Fl (nth (Ba s row) k):=by
 unfold Ds
 rw [Lf h,List.flatMap_append,List.flatMap_singleton]
theorem Yq (s:Sheet) (row:Nat):∀ k,k<=(Ba s row).length->(Ds s row k).length<=2000*k
 |0,_=>by simp [Ds]
 |k+1,h=>by
  have:=Yq s row k (by omega)
  have h2:=Aiu (nth (Ba s row) k)
  rw [Aiv (by omega),List.length_append]
  omega
theorem Aiw {s:Sheet} {row:Nat} (h:0<row):As s row=Ds s row (Ba s row).length++Ba s (row - 1):=by
 unfold As Ds
 rw [Mq h,cond_true,List.take_length]
theorem Aix {s:Sheet} {row:Nat} (h:¬ 0<row):As s row=Ds s row (Ba s row).length:=by
 unfold As Ds
 rw [Od h,cond_false,List.take_length,List.append_nil]
theorem Arw {Gl} (S:SP Gl) (s:Sheet) (row:Nat) (h0:0<row) (h:∀ i,i<s.cols.length->row - 1<(nth s.cols i).length) (hl:s.cols.length<=1000):CO Gl 227 [Dr s,I ((row:Int) - 1)] (.ret (L eI (Ba s (row - 1)))):=by
 have:=Ai4 S s (row - 1) h hl
 rw [show (((row - 1:Nat)):Int)=(row:Int) - 1 by omega] at this
 exact this
theorem Aiy {s:Sheet} (hs:s.ok=true) (row:Nat):(As s row).length<=6003:=by
 have hn:=Yp s row
 have hn2:=Yp s (row - 1)
 have h3:=(Kb hs).2.1
 have h1:=Yq s row _ (Nat.le_refl _)
 by_cases h:0<row
 ·rw [Aiw h,List.length_append];omega
 ·rw [Aix h];omega
theorem Arx {l:List Int} {k:Nat} (hk:k<=Ek l) (h:listed l (Am+(k:Int))=true):k<Ek l:=by
 have:=(Yl l).2
 exact Id (p:=fun k:Nat=>listed l (Am+(k:Int))) hk (by rw [List.length_range];omega) (by rw [Cr (by omega)];exact h)
theorem Aiz {l:List Int} {k:Nat} (hk:k<=Ek l) (h:listed l (Am+(k:Int))=false):k=Ek l:=by
 rcases Nat.lt_or_ge k (Ek l) with h1|h1
 ·rw [Ada h1] at h;cases h
 ·omega
theorem Ary {Gl} (S:SP Gl) (s:Sheet) (row:Nat) (hs:s.ok=true) (hr:row<rows s):CO Gl 129 [Dr s,I row] (.ret (.tup [.c (.l eI (Hp (As s row++[Bw (As s row)]))),.c (Ci (Bw (As s row)))])):=by
 refine Ah6 S (E:=Ait (As s row++[Bw (As s row)]) (Bw (As s row))) (xs:=Mu.1) (tl:=Mu.2) (.r (.ret (L eI (Ba s row))) (.loop (List.length (Ba s row)) (fun k=>v 14 (I k)::v 13 (I (List.length (Ba s row):Int))::v 12 (L eI (Ba s row))::tk 100 3::v 6 (Lt 100 eI (Ds s row k))::v 2 (ad 2)::v 1 (I row)::bx 2 (Cg s)) fun k0=>.br (.r (.ret (L eI (Fl (nth (Ba s row) k0)))) .nil) (.br (.r (.ret (L eI (Ba s (row-(1:Nat))))) (.loop (Ek (As s row)) (fun k=>[v 9 (I (Am+(k:Int))),tk 100 3,v 6 (Lt 100 eI (As s row))]) fun k1=>.r (.ret (B (listed (As s row) (Am+(k1:Int))))) (.br .nil .nil))) (.loop (Ek (As s row)) (fun k=>[v 9 (I (Am+(k:Int))),tk 100 3,v 6 (Lt 100 eI (As s row))]) fun k2=>.r (.ret (B (listed (As s row) (Am+(k2:Int))))) (.br .nil .nil))))) Tryz.func129 (by kernel_rfl) Ark rfl (CO Gl 227 [Dr s,I row] (.ret (L eI (Ba s row)))/\(List.length (Ba s row)<=maxLen->(0=(↑(0:Nat):Int)/\(List.length (Ba s row):Int)=(List.length (Ba s row):Int)/\(sR eI (Ba s row))/\(0:Nat)=(0:Nat)/\(row:Int)=(row:Int)/\(sR Au s.1)/\sR eI s.2)/\∀ (k0:Nat),k0<=List.length (Ba s row)->(decide ((k0:Int)<(List.length (Ba s row):Int))=true->(0<=(k0:Int)/\(k0:Int)<(List.length (Ba s row):Int))/\CO Gl 228 [I (nth (Ba s row) k0)] (.ret (L eI (Fl (nth (Ba s row) k0))))/\(List.length (Ds s row k0)+List.length (Fl (nth (Ba s row) k0)))*8<=140737488355328/\List.length (Ds s row k0)+List.length (Fl (nth (Ba s row) k0))<=(140737488355328:Nat)/\iR ((k0:Int)+1)/\k0<List.length (Ba s row)/\(k0:Int)+1=(↑(k0+1):Int)/\(List.length (Ba s row):Int)=(List.length (Ba s row):Int)/\(sR eI (Ba s row))/\(SEq (List.length (Ds s row k0)+List.length (Fl (nth (Ba s row) k0))) (Ar (List.length (Ds s row k0)) (fun i=>eI (nth (Ds s row k0) i)) fun i=>eI (nth (Fl (nth (Ba s row) k0)) i)) (List.length (Ds s row (k0+1))) fun i=>eI (nth (Ds s row (k0+1)) i))/\(row:Int)=(row:Int)/\(sR Au s.1)/\sR eI s.2)/\(decide ((k0:Int)<(List.length (Ba s row):Int))=false->(decide (0<(row:Int))=true->iR ((row:Int)-1)/\CO Gl 227 [Dr s,I ((row:Int)-1)] (.ret (L eI (Ba s (row-(1:Nat)))))/\(List.length (Ds s row k0)+List.length (Ba s (row-(1:Nat))))*8<=140737488355328/\List.length (Ds s row k0)+List.length (Ba s (row-(1:Nat)))<=(140737488355328:Nat)/\((-999:Int)=Am+(↑(0:Nat):Int)/\SEq (List.length (Ds s row k0)+List.length (Ba s (row-(1:Nat)))) (Ar (List.length (Ds s row k0)) (fun i=>eI (nth (Ds s row k0) i)) fun i=>eI (nth (Ba s (row-(1:Nat))) i)) (List.length (As s row)) fun i=>eI (nth (As s row) i))/\∀ (k1:Nat),k1<=Ek (As s row)->CO Gl 229 [L eI (As s row),I (Am+(k1:Int))] (.ret (B (listed (As s row) (Am+(k1:Int)))))/\(listed (As s row) (Am+(k1:Int))=true->iR (Am+(k1:Int)+1)/\k1<Ek (As s row)/\Am+(k1:Int)+1=Am+(↑(k1+1):Int)/\sR eI (As s row))/\(listed (As s row) (Am+(k1:Int))=false->(List.length (As s row)+1)*8<=140737488355328/\List.length (As s row)+1<=140737488355328/\(SEq (List.length (As s row)+1) (Ar (List.length (As s row)) (fun i=>eI (nth (As s row) i)) fun i=>List.getD [List.map C.dem [C.v (Value.int IntKind.i64 (Am+(k1:Int)))]] i []) (List.length (As s row++[Bw (As s row)])) fun i=>eI (nth (As s row++[Bw (As s row)]) i))/\Am+(k1:Int)=Bw (As s row)))/\(decide (0<(row:Int))=false->((-999:Int)=Am+(↑(0:Nat):Int)/\sQ eI (Ds s row k0) (As s row))/\∀ (k2:Nat),k2<=Ek (As s row)->CO Gl 229 [L eI (As s row),I (Am+(k2:Int))] (.ret (B (listed (As s row) (Am+(k2:Int)))))/\(listed (As s row) (Am+(k2:Int))=true->iR (Am+(k2:Int)+1)/\k2<Ek (As s row)/\Am+(k2:Int)+1=Am+(↑(k2+1):Int)/\sR eI (As s row))/\(listed (As s row) (Am+(k2:Int))=false->(List.length (As s row)+1)*8<=140737488355328/\List.length (As s row)+1<=140737488355328/\(SEq (List.length (As s row)+1) (Ar (List.length (As s row)) (fun i=>eI (nth (As s row) i)) fun i=>List.getD [List.map C.dem [C.v (Value.int IntKind.i64 (Am+(k2:Int)))]] i []) (List.length (As s row++[Bw (As s row)])) fun i=>eI (nth (As s row++[Bw (As s row)]) i))/\Am+(k2:Int)=Bw (As s row)))))) (by kernel_rfl) ?_ (fun X vis w0 a w G T=>Arv S (by have:=Aiy hs row;rw [List.length_append,List.length_singleton];omega) T)
 obtain ⟨l1,l2,l3,l4⟩:=Kb hs
 have hn:=Yp s row
 have hn2:=Yp s (row - 1)
 have hrl:=Aiy hs row
 have hrk:=(Yl (As s row)).2
 have hcl:∀ i,i<s.cols.length->(nth s.cols i).length=rows s:=fun i hi=>(Kc (l4 i hi)).1
 have hrs:=(Kc (l4 0 (by omega))).2.2.2.1
 simp only [stdS,imp_self,implies_true,and_true]
 refine ⟨Ai4 S s row (fun i hi=>by rw [hcl i hi];exact hr) (by omega),fun _ k0 hk0=>⟨fun hd=>?_,fun hd=>?_⟩⟩
 ·have hlt:k0<(Ba s row).length:=by have:=of_decide_eq_true hd;omega
  have h1:=Yq s row k0 (by omega)
  have h2:=Aiu (nth (Ba s row) k0)
  exact ⟨⟨by omega,by omega⟩,Are S _,by omega,by omega,(Af _).2 (by omega),hlt,by omega,Ad1 (Aiv hlt),trivial⟩
 ·have hke:k0=(Ba s row).length:=by have:=of_decide_eq_false hd;omega
  subst hke
  have h1:=Yq s row _ (Nat.le_refl _)
  refine ⟨fun hp=>⟨(Af _).2 (by omega),Arw S s row (by have:=of_decide_eq_true hp;omega) (fun i hi=>by rw [hcl i hi];omega) (by omega),by omega,by omega,⟨rfl,Ad1 (Aiw (by have:=of_decide_eq_true hp;omega))⟩,fun k1 hk1=>?_⟩,fun hp=>⟨⟨rfl,Bn (Aix (by have:=of_decide_eq_false hp;omega))⟩,fun k1 hk1=>?_⟩⟩
  all_goals
   refine ⟨Arg S _ _,fun hl=>⟨(Af _).2 (by unfold Am;omega),Arx hk1 hl,by push_cast;omega,trivial⟩,fun hl=>⟨by omega,by omega,Oc (by rw [Aiz hk1 hl];rfl) rfl,by rw [Aiz hk1 hl];rfl⟩⟩
theorem Aj0 {Gl} (S:SP Gl) (s:Sheet) (row:Nat) (hs:s.ok=true) (hr:row<rows s):CO Gl 129 [Dr s,I row] (.ret (.tup [.c (.l eI (Fk s row)),.c (Ci (Bw (Ct s row)))])):=by
 have:=Ary S s row hs hr
 rw [listP,Aif] at this
 exact this
def Gd (s:Sheet) (all:List (List Int)):Nat->List Int->List Int->List Int->List Int
 |0,now,_,_=>now
 |r+1,now,e,left=>(nth all r).foldl (fun n x=>bif okAll s (x::e) r left then Gd s all r (n.set r x) (x::e) (Bx s (x::e) r left) else n.set r x) now
def Tt (s:Sheet) (all:List (List Int)) (r:Nat) (e left n:List Int) (x:Int):List Int:=bif okAll s (x::e) r left then Gd s all r (n.set r x) (x::e) (Bx s (x::e) r left) else n.set r x
def nowTo (s:Sheet) (all:List (List Int)) (r:Nat) (now e left:List Int) (k:Nat):List Int:=((nth all r).take k).foldl (Tt s all r e left) now
theorem Arz {s:Sheet} {all:List (List Int)} {r:Nat} {now e left:List Int} {k:Nat} (hk:k<(nth all r).length):nowTo s all r now e left (k+1)=Tt s all r e left (nowTo s all r now e left k) (nth (nth all r) k):=by
 unfold nowTo
 rw [Lf hk,List.foldl_append]
 rfl
theorem As0 (s:Sheet) (all:List (List Int)) (r:Nat) (now e left:List Int):nowTo s all r now e left (nth all r).length=Gd s all (r+1) now e left:=by
 unfold nowTo
 rw [List.take_length]
 rfl
def Ge (r:Nat) (a b:List Int):Prop:=a.length=b.length/\a.drop r=b.drop r
theorem Ge.up {r:Nat} {a b:List Int} (h:Ge r a b):Ge (r+1) a b:=⟨h.1,by rw [<-List.drop_drop,h.2,List.drop_drop]⟩
theorem Ge.set {r:Nat} {a b:List Int} (h:Ge (r+1) a b) (x:Int):Ge (r+1) (a.set r x) b:=⟨by rw [List.length_set];exact h.1,by rw [List.drop_set_of_lt (Nat.lt_succ_self r)];exact h.2⟩
theorem Adg {r:Nat} {b:List Int} {g:List Int->Int->List Int} (hg:∀ n x,Ge (r+1) n b->Ge (r+1) (g n x) b):∀ (l:List Int) (n:List Int),Ge (r+1) n b->Ge (r+1) (l.foldl g n) b
 | [],_,h=>h
 |x::l,n,h=>Adg hg l (g n x) (hg n x h)
theorem Aj1 (s:Sheet) (all:List (List Int)):∀ (r:Nat) (now e left:List Int),Ge r (Gd s all r now e left) now
 |0,_,_,_=>⟨rfl,rfl⟩
 |r+1,now,e,left=>by
  refine Adg (fun n x h=>?_) _ _ ⟨rfl,rfl⟩
  show Ge (r+1) (bif okAll s (x::e) r left then Gd s all r (n.set r x) (x::e) (Bx s (x::e) r left) else n.set r x) now
  have h1:=h.set x
  cases okAll s (x::e) r left with
  |false=>exact h1
  |true=>
   have h2:=(Aj1 s all r (n.set r x) (x::e) (Bx s (x::e) r left)).up
   exact ⟨h2.1.trans h1.1,h2.2.trans h1.2⟩
theorem Aj2 (s:Sheet) (all:List (List Int)) (r:Nat) (now e left:List Int) (k:Nat):Ge (r+1) (nowTo s all r now e left k) now:=by
 refine Adg (fun n x h=>?_) _ _ ⟨rfl,rfl⟩
 have h1:=h.set x
 unfold Tt
 cases okAll s (x::e) r left with
 |false=>exact h1
 |true=>
  have h2:=(Aj1 s all r (n.set r x) (x::e) (Bx s (x::e) r left)).up
  exact ⟨h2.1.trans h1.1,h2.2.trans h1.2⟩
theorem Ge.cons {r:Nat} {n now e:List Int} (h:Ge (r+1) n now) (he:now.drop (r+1)=e) (hr:r<now.length) (x:Int):(n.set r x).length=now.length/\(n.set r x).drop r=x::e:=by
 refine ⟨by rw [List.length_set];exact h.1,?_⟩
 have hl:r<(n.set r x).length:=by rw [List.length_set,h.1];exact hr
 rw [List.drop_eq_getElem_cons hl,List.getElem_set_self,List.drop_set_of_lt (Nat.lt_succ_self r),h.2,he]
theorem As1 {n:List Int} {r:Nat} {x:Int} {e:List Int} (h:n.drop r=x::e) (hr:r<n.length):Bl n r=Bl (x::e) 0:=by
 have h1:=Aig (n.take r) x e
 have h2:n.take r++x::e=n:=by rw [<-h,List.take_append_drop]
 rw [h2,List.length_take,Nat.min_eq_left (by omega)] at h1
 exact h1
theorem Aj3 {l:List Int} {i:Nat} {x:Int} (h:i<l.length):nth (l.set i x) i=x:=by
 unfold nth
 rw [List.getD_eq_getElem?_getD,List.getElem?_set_self h]
 rfl
theorem As2 {l:List Int} {i j:Nat} {x:Int} (h:i≠j):nth (l.set i x) j=nth l j:=by
 unfold nth
 rw [List.getD_eq_getElem?_getD,List.getD_eq_getElem?_getD,List.getElem?_set_ne h]
def restTo (s:Sheet) (now:List Int) (r:Nat) (left:List Int) (i:Nat):List Int:=(List.range left.length).map fun j=>bif j.blt i then Ig s now r left j else nth left j
theorem Adh {a b:Nat} (h:a≠b):a.beq b=false:=by
 cases hb:a.beq b with
 |false=>rfl
 |true=>exact absurd (Nat.eq_of_beq_eq_true hb) h
theorem Tu {s:Sheet} {now:List Int} {r:Nat} {left:List Int} {i j:Nat} (hj:j<left.length):nth (restTo s now r left i) j=bif j.blt i then Ig s now r left j else nth left j:=by
 unfold restTo
 rw [Ep (by rw [List.length_range];exact hj),Cr hj]
theorem Aj4 {s:Sheet} {now:List Int} {r:Nat} {left:List Int} {j:Nat} (hj:j<left.length):nth (Bx s now r left) j=Ig s now r left j:=by
 unfold Bx
 rw [Ep (by rw [List.length_range];exact hj),Cr hj]
theorem Aj5 {s:Sheet} {now:List Int} {r:Nat} {left:List Int} {i j:Nat} (hj:j<left.length):nth (restTo s now r left (i+1)) j=bif j.beq i then Ig s now r left j else nth (restTo s now r left i) j:=by
 rw [Tu hj,Tu hj]
 rcases Nat.lt_trichotomy j i with h|h|h
 ·rw [Mq (show j<i+1 by omega),Mq h,show j.beq i=false from Adh (by omega)];rfl
 ·subst h
  rw [Mq (Nat.lt_succ_self j),show j.beq j=true from Nat.beq_refl j];rfl
 ·rw [Od (show ¬ j<i+1 by omega),Od (show ¬ j<i by omega),show j.beq i=false from Adh (by omega)];rfl
theorem SEq_upd {l m:List Int} {n k:Nat} {z:Int} (h:∀ j,j<n->nth m j=bif j.beq k then z else nth l j):SEq n (Dq (fun j=>eI (nth l j)) k (List.map C.dem [C.v (Value.int .i64 z)])) n (fun j=>eI (nth m j)):=.of ⟨rfl,fun j hj=>by
 show [C.v (Value.int .i64 (bif j.beq k then z else nth l j))]=_
 rw [<-h j hj]
 rfl⟩
theorem Lk {l m:List Int} {n:Nat} (h:∀ j,j<n->nth l j=nth m j):SEq n (fun j=>eI (nth l j)) n (fun j=>eI (nth m j)):=.of ⟨rfl,fun j hj=>congrArg eI (h j hj)⟩
theorem As3 {l:List Int} {r j:Nat} {x:Int} (hr:r<l.length):nth (l.set r x) j=bif j.beq r then x else nth l j:=by
 by_cases h:j=r
 ·subst h
  rw [Aj3 hr,show j.beq j=true from Nat.beq_refl j];rfl
 ·rw [As2 (fun hh=>h hh.symm),show j.beq r=false from Adh h];rfl
def Mv (s:Sheet) (all:List (List Int)) (l p:Nat) (now:List Int):Env:=
 [(0,BIG,.tr p),(2,FAR,live),(FAR+3,0,.yl l),(2,FAR+1,live),(FAR+4,0,.arr (FAR+4) (rows s)),(2,FAR+2,live),(FAR+5,0,L Au all),(2,FAR+3,live),(FAR+6,0,.fn 233 [] [.addr FAR 0,.addr (FAR+1) 0,.addr (FAR+2) 0,.d (.c (.p (Cg s))),.addr (FAR+3) 0]),(2,FAR+4,.arrc false 1 (rows s) fun i=>eI (nth now i))]
def Mw (s:Sheet) (p:Nat) (now:List Int):Env:=[(0,BIG,.tr p),(2,FAR+4,.arrc false 1 (rows s) fun i=>eI (nth now i))]
def Gf (P:List (List Int)) (l m:Nat):Yd:=⟨l,m,m,fun q=>[L eI (nth P q)]⟩
theorem As4 {Gl} (S:SP Gl) (l:List Int) (yd:Yd) (p:Nat) (h1:1<=l.length) (h2:l.length<=1000):Does Tryz.prog Y Gl yd 69 [.arr FAR l.length] [(0,BIG,.tr p),(2,FAR,.arrc false 1 l.length fun i=>eI (nth l i))] (.ret (L eI l)) []:=by
 refine Qf S (.ff .nil) Tryz.func69 (by kernel_rfl) ((0:Nat)<l.length/\false=false/\l.length=l.length/\((0:Nat)+l.length)*8<=140737488355328/\(0:Nat)+l.length<=(140737488355328:Nat)/\(SEq ((0:Nat)+l.length) (Ar 0 (fun x=>[]) fun i=>eI (nth l i)) l.length fun i=>eI (nth l i))/\p=p/\sR eI l) (by kernel_rfl) ?_
 simp only [stdS,imp_self,implies_true,and_true]
 refine ⟨h1,by omega,by omega,?_,trivial⟩
 have:=Ad1 (f:=eI) (l:=([]:List Int)) (m:=l) (r:=l) rfl
 exact this
theorem As5 {Gl} (S:SP Gl) (l:List Int) (i:Nat) (yd:Yd) (p:Nat) (h:i<l.length):Does Tryz.prog Y Gl yd 106 [.arr FAR l.length,I i] [(0,BIG,.tr p),(2,FAR,.arrc false 1 l.length fun i=>eI (nth l i))] (.ret (tRt (Bl l i))) []:=by
 refine Ef S (let A0:=(l.length:Int);((.br .nil .nil),(l.length<=maxLen->iR (A0-1)/\(((i:Int)==A0-1)=true->(0<=(i:Int)/\(i:Int)<A0)/\i<l.length/\(nth l i=(Bl l i).1/\(0:Int)=(Bl l i).2/\true=(Bl l i).3)/\p=p/\sR eI l)/\(((i:Int)==A0-1)=false->(0<=(i:Int)/\(i:Int)<A0)/\i<l.length/\iR ((i:Int)+1)/\(0<=(i:Int)+1/\(i:Int)+1<A0)/\Int.toNat ((i:Int)+1)<l.length/\(nth l i=(Bl l i).1/\nth l (Int.toNat ((i:Int)+1))=(Bl l i).2/\false=(Bl l i).3)/\p=p/\sR eI l)))) Tryz.func106 (by kernel_rfl) (by kernel_rfl) ?_
 simp only [stdS,imp_self,implies_true,and_true]
 intro hm
 rw [Bi] at hm
 have et:((i:Int)+1).toNat=i+1:=by omega
 refine ⟨(Af _).2 (by omega),fun hi=>?_,fun hi=>?_⟩
 ·have hi:=eq_of_beq hi
  have hb:(i+1).beq l.length=true:=by rw [show i+1=l.length by omega];exact Nat.beq_refl _
  unfold Bl
  rw [hb]
  exact ⟨⟨by omega,by omega⟩,h,⟨rfl,rfl,rfl⟩,trivial⟩
 ·have hi:=beq_eq_false_iff_ne.1 hi
  have hb:(i+1).beq l.length=false:=by rw [Bool.eq_false_iff];intro hb;have:=Nat.eq_of_beq_eq_true hb;omega
  unfold Bl
  rw [hb,et]
  exact ⟨⟨by omega,by omega⟩,h,(Af _).2 (by omega),⟨by omega,by omega⟩,by omega,⟨rfl,rfl,rfl⟩,trivial⟩
theorem As6 {Gl} (S:SP Gl) (now:List Int) (n:Nat) (hn:now.length=n) (h1:1<=n) (h2:n<=1000) (yd:Yd) (p:Nat):Does Tryz.prog Y Gl yd 69 [.arr FAR n] [(0,BIG,.tr p),(2,FAR,.arrc false 1 n fun i=>eI (nth now i))] (.ret (L eI now)) []:=by
 subst hn
 exact As4 S now yd p h1 h2
theorem ofN {Gl} (S:SP Gl) (now:List Int) (n i:Nat) (hn:now.length=n) (h:i<n) (yd:Yd) (p:Nat):Does Tryz.prog Y Gl yd 106 [.arr FAR n,I i] [(0,BIG,.tr p),(2,FAR,.arrc false 1 n fun i=>eI (nth now i))] (.ret (tRt (Bl now i))) []:=by
 subst hn
 exact As5 S now i yd p h
theorem As7 {Gl} (S:SP Gl) (s:Sheet) (all P:List (List Int)) (left now:List Int) (l m p:Nat) (hn:now.length=rows s) (h1:1<=rows s) (h2:rows s<=6) (hm:p<m) (hP:nth P p=now):Does Tryz.prog Y Gl (Gf P l m) 233 [I (-1),L eI left,.addr FAR 0,.addr (FAR+1) 0,.addr (FAR+2) 0,.d (.c (.p (Cg s))),.addr (FAR+3) 0] (Mv s all l p now) (.ret (B true)) (Mw s (p+1) now):=by
 refine Ef S (let A0:=(SEq (rows s) (fun i=>eI (nth now i)) (rows s) fun i=>eI (nth now i));let A1:=((2:Nat),FAR,T.arrc false (1:Nat) (rows s) fun i=>eI (nth now i));((.tt (.w [(nat_lit 100000,nat_lit 100004)] [T.arr FAR (rows s)] [((0:Nat),BIG,T.tr p),A1] (.ret (L eI now)) [] .nil)),(true=true/\rows s=rows s/\p=p/\A0/\Does Tryz.prog Y Gl (Gf P l m) (69:FuncId) [T.arr FAR (rows s)] [((0:Nat),BIG,T.tr p),A1] (.ret (L eI now)) []/\l=l/\p<m/\p<=m/\(sQ eI now (nth P p))/\(p != m)=true/\p+(1:Nat)=p+(1:Nat)/\A0/\l=l/\rows s=rows s/\(sR Au all)/\(233:Nat)=(233:Nat)/\[C.l Au s.1,C.l eI s.2]=[C.l Au s.1,C.l eI s.2]))) Tryz.func233 (by kernel_rfl) (by kernel_rfl) ?_
 simp only [stdS,imp_self,implies_true,and_true]
 have hne:(p != m)=true:=by rw [bne_iff_ne];omega
 exact ⟨As6 S now (rows s) hn h1 (by omega) (Gf P l m) p,by omega,by omega,by rw [hP];exact Bn rfl,hne,trivial⟩
theorem As8 {Gl} (S:SP Gl) (s:Sheet) (all P:List (List Int)) (now e left:List Int) (l m p r:Nat) (hs:s.ok=true) (hn:now.length=rows s) (hr:r<rows s) (he:now.drop (r+1)=e) (hall:all.length=rows s) (hal:∀ r,(nth all r).length<=28/\(nth all r).all num=true) (hl:left.length=s.cols.length) (hlr:∀ i,i<left.length->0<=nth left i/\nth left i<=2) (ih:∀ (k n:Nat) (f:Nat->List C),k<(nth all r).length->okAll s (nth (nth all r) k::e) r left=true->SEq n f left.length (fun i=>eI (nth (Bx s (nth (nth all r) k::e) r left) i))->Does Tryz.prog Y Gl (Gf P l m) 233 [I ((r:Int) - 1),.d (.c (.s .n n f)),.addr FAR 0,.addr (FAR+1) 0,.addr (FAR+2) 0,.d (.c (.p (Cg s))),.addr (FAR+3) 0] (Mv s all l (p+(Eg s all r e left k).length) ((nowTo s all r now e left k).set r (nth (nth all r) k))) (.ret (B true)) (Mw s (p+(Eg s all r e left k).length+(El s all r (nth (nth all r) k::e) (Bx s (nth (nth all r) k::e) r left)).length) (Gd s all r ((nowTo s all r now e left k).set r (nth (nth all r) k)) (nth (nth all r) k::e) (Bx s (nth (nth all r) k::e) r left)))):Does Tryz.prog Y Gl (Gf P l m) 233 [I r,L eI left,.addr FAR 0,.addr (FAR+1) 0,.addr (FAR+2) 0,.d (.c (.p (Cg s))),.addr (FAR+3) 0] (Mv s all l p now) (.ret (B true)) (Mw s (p+(El s all (r+1) e left).length) (Gd s all (r+1) now e left)):=by
 refine Ef S (let A0:=fun (k0:Nat)=>(List.set (nowTo s all r now e left k0) r (nth (nth all r) k0));let A1:=[C.l Au s.1,C.l eI s.2];let A2:=fun (k0 k1:Nat)=>((nth (nth s.1 k1) r==nth (nth all r) k0)=true->iR ((k1:Int)+1)/\k1<Ms s (nth (nth all r) k0::e) r left/\(k1:Int)+1=(↑(k1+1):Int)/\(s.1.length:Int)=(s.1.length:Int)/\(sR Au s.1)/\left.length=left.length/\(SEq left.length (fun j=>eI (nth (restTo s (nth (nth all r) k0::e) r left k1) j)) left.length fun j=>eI (nth (restTo s (nth (nth all r) k0::e) r left (k1+1)) j))/\nth (nth all r) k0=nth (nth all r) k0/\(k0:Int)=(k0:Int)/\(List.length (nth all r):Int)=(List.length (nth all r):Int)/\(sR eI (nth all r))/\(r:Int)=(r:Int)/\(sR eI left)/\A1=A1/\p+List.length (Eg s all r e left k0)=p+List.length (Eg s all r e left k0)/\l=l/\rows s=rows s/\(sR Au all)/\(233:Nat)=(233:Nat)/\A1=A1/\SEq (rows s) (fun i=>eI (nth (A0 k0) i)) (rows s) fun i=>eI (nth (A0 k0) i));let A3:=fun (k0:Nat)=>(Mw s (p+List.length (Eg s all r e left k0)+List.length (El s all r (nth (nth all r) k0::e) (Bx s (nth (nth all r) k0::e) r left))) (Gd s all r (A0 k0) (nth (nth all r) k0::e) (Bx s (nth (nth all r) k0::e) r left)));let A4:=fun (k0 k1:Nat)=>[I ((r:Int)-1),T.d (D.c (C.s Tag.n left.length fun j=>eI (nth (restTo s (nth (nth all r) k0::e) r left k1) j))),T.addr FAR (0:Nat),T.addr (FAR+1) (0:Nat),T.addr (FAR+2) (0:Nat),T.d (D.c (C.p (Cg s))),T.addr (FAR+3) (0:Nat)];let A5:=(nth all r);let A6:=fun (k0:Nat)=>(Eg s all r e left k0);let A7:=(List.length A5:Int);let A8:=fun (k1:Nat)=>(0<=(k1:Int)/\(k1:Int)<(left.length:Int));let A9:=fun (k0 k1:Nat)=>(restTo s (nth A5 k0::e) r left k1);let A10:=fun (k0:Nat)=>(SEq (rows s) (fun i=>eI (nth (A0 k0) i)) (rows s) fun i=>eI (nth (A0 k0) i));let A11:=fun (k0:Nat)=>(Mv s all l (p+List.length (A6 k0)) (A0 k0));let A12:=(sR Au all);let A13:=fun (k1:Nat)=>(0<=(r:Int)/\(r:Int)<(List.length (nth s.1 k1):Int));let A14:=fun (i k0:Nat)=>(nth (nowTo s all r now e left (k0+1)) i);let A15:=fun (k0:Nat)=>(fun (i:Nat)=>eI (nth (Gd s all r (A0 k0) (nth A5 k0::e) (Bx s (nth A5 k0::e) r left)) i));let A16:=(s.1.length:Int);let A17:=fun (k0 k1:Nat)=>(SEq left.length (fun j=>eI (nth (A9 k0 k1) j)) left.length fun j=>eI (nth (A9 k0 k1) j));let A18:=fun (k0:Nat)=>(Eg s all r e left (k0+1));let A19:=fun (k0 k1:Nat)=>(bif false then true else Rt.kind (Bl (A0 k0) r) (nth (nth s.1 k1) r)==(0:Int));let A20:=(sR eI left);let A21:=(T.own (1:Nat) left.length fun i=>eI (nth left i));let A22:=fun (k0:Nat)=>((2:Nat),FAR,T.arrc false (1:Nat) (rows s) fun i=>eI (nth (A0 k0) i));((.ff (.loop (List.length A5) (fun k=>v 26 (I k)::v 25 (I A7)::v 24 (L eI A5)::v 0 (I r)::v 1 (L eI left)::v 2 (T.addr FAR (0:Nat))::v 3 (T.addr (FAR+1) (0:Nat))::v 4 (T.addr (FAR+2) (0:Nat))::v 5 (T.d (D.c (C.p (Cg s))))::v 6 (T.addr (FAR+3) (0:Nat))::Mv s all l (p+List.length (Eg s all r e left k)) (nowTo s all r now e left k)) fun k0=>.br (.r (.ret A21) (.loop (Ms s (nth A5 k0::e) r left) (fun i=>v 39 (I i)::v 38 (I (List.length (Sheet.cols s):Int))::v 37 (L Au (Sheet.cols s))::v 12 (T.arr 35 left.length)::((2:Nat),(35:Nat),T.arrc false (1:Nat) left.length fun j=>eI (nth (restTo s (nth A5 k0::e) r left i) j))::v 11 (I (nth A5 k0))::v 26 (I k0)::v 25 (I A7)::v 24 (L eI A5)::v 0 (I r)::v 1 (L eI left)::v 2 (T.addr FAR (0:Nat))::v 3 (T.addr (FAR+1) (0:Nat))::v 4 (T.addr (FAR+2) (0:Nat))::v 5 (T.d (D.c (C.p (Cg s))))::v 6 (T.addr (FAR+3) (0:Nat))::Mv s all l (p+List.length (A6 k0)) (A0 k0)) fun k1=>.ite (decide ((1:Int)<=nth left k1)) (.br (.br .nil (.val 60 false (.sure 62 (.sure 63 (.sure 64 (.w [(nat_lit 100000,nat_lit 100004)] [T.arr FAR (rows s),I r] [((0:Nat),BIG,T.tr (p+List.length (A6 k0))),(A22 k0)] (.ret (tRt (Bl (A0 k0) r))) [] (.sure 65 (.sure 66 (.sure 67 (.sure 68 (.sure 69 (.r (.ret (I (Rt.kind (Bl (A0 k0) r) (nth (nth s.1 k1) r)))) (.sure 70 (.br .nil .nil)))))))))))))) (.arrA (76:Nat) (.w [(nat_lit 100000,nat_lit 100000),(nat_lit 100001,nat_lit 100001),(nat_lit 100002,nat_lit 100002),(nat_lit 100003,nat_lit 100003),(nat_lit 100004,nat_lit 100004)] (A4 k0 k1) (A11 k0) (.ret (B true)) (A3 k0) (.ff .nil)))) (.br (.br .nil (.val 60 true (.skip (62:Nat) (.skip (63:Nat) (.skip (64:Nat) (.skip (65:Nat) (.skip (66:Nat) (.skip (67:Nat) (.skip (68:Nat) (.skip (69:Nat) (.skip (70:Nat) (.tt .nil)))))))))))) (.arrA (76:Nat) (.w [(nat_lit 100000,nat_lit 100000),(nat_lit 100001,nat_lit 100001),(nat_lit 100002,nat_lit 100002),(nat_lit 100003,nat_lit 100003),(nat_lit 100004,nat_lit 100004)] (A4 k0 k1) (A11 k0) (.ret (B true)) (A3 k0) (.ff .nil)))))) .nil)),(false=false/\(0<=(r:Int)/\(r:Int)<(all.length:Int))/\(List.length A5<=maxLen->(0=(↑(0:Nat):Int)/\A7=A7/\(sR eI A5)/\(r:Int)=(r:Int)/\A20/\A1=A1/\p=p+List.length (Eg s all r e left (0:Nat))/\l=l/\rows s=rows s/\A12/\(233:Nat)=(233:Nat)/\A1=A1/\SEq (rows s) (fun i=>eI (nth now i)) (rows s) fun i=>eI (nth (nowTo s all r now e left (0:Nat)) i))/\∀ (k0:Nat),k0<=List.length A5->(decide ((k0:Int)<(List.length (nth all r):Int))=true->(0<=(k0:Int)/\(k0:Int)<A7)/\(0<=(r:Int)/\(r:Int)<(↑(rows s):Int))/\r<rows s/\CO Gl 69 [L eI left] (.ret A21)/\(s.1.length<=maxLen->(0=(↑(0:Nat):Int)/\A16=A16/\(sR Au s.1)/\left.length=left.length/\(SEq left.length (fun i=>eI (nth left i)) left.length fun j=>eI (nth (restTo s (nth A5 k0::e) r left (0:Nat)) j))/\nth A5 k0=nth A5 k0/\(k0:Int)=(k0:Int)/\A7=A7/\(sR eI A5)/\(r:Int)=(r:Int)/\A20/\A1=A1/\p+List.length (A6 k0)=p+List.length (A6 k0)/\l=l/\rows s=rows s/\A12/\(233:Nat)=(233:Nat)/\A1=A1/\SEq (rows s) (Dq (fun i=>eI (nth (nowTo s all r now e left k0) i)) r (List.map C.dem [C.v (Value.int IntKind.i64 (nth A5 k0))])) (rows s) fun i=>eI (nth (A0 k0) i))/\∀ (k1:Nat),k1<=Ms s (nth A5 k0::e) r left->(decide ((1:Int)<=nth left k1)=true->(decide ((k1:Int)<(s.1.length:Int))=true->(0<=(k1:Int)/\(k1:Int)<A16)/\(A13 k1)/\(A2 k0 k1)/\((nth (nth s.1 k1) r==nth A5 k0)=false->(A8 k1)/\k1<left.length/\iR (nth (A9 k0 k1) k1-(1:Int))/\(A8 k1)/\k1<left.length/\(A8 k1)/\k1<left.length/\decide ((bif Nat.beq k1 k1 then nth (restTo s (nth (nth all r) k0::e) r left k1) k1-(1:Int) else nth (restTo s (nth (nth all r) k0::e) r left k1) k1)<(0:Int))=false/\true=true/\true=true/\true=true/\rows s=rows s/\(r:Int)=(r:Int)/\p+List.length (A6 k0)=p+List.length (A6 k0)/\(A10 k0)/\Does Tryz.prog Y Gl (Gf P l m) (106:FuncId) [T.arr FAR (rows s),I r] [((0:Nat),BIG,T.tr (p+List.length (A6 k0))),(A22 k0)] (.ret (tRt (Bl (A0 k0) r))) []/\true=true/\true=true/\true=true/\(A13 k1)/\true=true/\true=true/\CO Gl 107 [tRt (Bl (A0 k0) r),I (nth (nth s.1 k1) r)] (.ret (I (Rt.kind (Bl (A0 k0) r) (nth (nth s.1 k1) r))))/\true=true/\((A19 k0 k1)=true->iR ((k0:Int)+1)/\k0<List.length A5/\(k0:Int)+1=(↑(k0+1):Int)/\A7=A7/\(sR eI A5)/\(r:Int)=(r:Int)/\A20/\A1=A1/\p+List.length (A6 k0)=p+List.length (A18 k0)/\l=l/\rows s=rows s/\A12/\(233:Nat)=(233:Nat)/\A1=A1/\SEq (rows s) (fun i=>eI (nth (A0 k0) i)) (rows s) fun i=>eI (A14 i k0))/\((A19 k0 k1)=false->iR ((k1:Int)+1)/\k1<Ms s (nth A5 k0::e) r left/\(k1:Int)+1=(↑(k1+1):Int)/\A16=A16/\(sR Au s.1)/\left.length=left.length/\(SEq left.length (Dq (fun j=>eI (nth (A9 k0 k1) j)) k1 (List.map C.dem [C.v (Value.int IntKind.i64 (nth (A9 k0 k1) k1-(1:Int)))])) left.length fun j=>eI (nth (restTo s (nth A5 k0::e) r left (k1+1)) j))/\nth A5 k0=nth A5 k0/\(k0:Int)=(k0:Int)/\A7=A7/\(sR eI A5)/\(r:Int)=(r:Int)/\A20/\A1=A1/\p+List.length (A6 k0)=p+List.length (A6 k0)/\l=l/\rows s=rows s/\A12/\(233:Nat)=(233:Nat)/\A1=A1/\SEq (rows s) (fun i=>eI (nth (A0 k0) i)) (rows s) fun i=>eI (nth (A0 k0) i))))/\(decide ((k1:Int)<(s.1.length:Int))=false->iR ((r:Int)-1)/\left.length=left.length/\(r:Int)-1=(r:Int)-1/\(A17 k0 k1)/\A1=A1/\p+List.length (A6 k0)=p+List.length (A6 k0)/\l=l/\rows s=rows s/\A12/\(233:Nat)=(233:Nat)/\A1=A1/\(A10 k0)/\Does Tryz.prog Y Gl (Gf P l m) (233:FuncId) (A4 k0 k1) (A11 k0) (.ret (B true)) (A3 k0)/\false=false/\iR ((k0:Int)+1)/\k0<List.length A5/\(k0:Int)+1=(↑(k0+1):Int)/\A7=A7/\(sR eI A5)/\(r:Int)=(r:Int)/\A20/\A1=A1/\p+List.length (A6 k0)+List.length (El s all r (nth A5 k0::e) (Bx s (nth A5 k0::e) r left))=p+List.length (A18 k0)/\l=l/\rows s=rows s/\A12/\(233:Nat)=(233:Nat)/\A1=A1/\SEq (rows s) (A15 k0) (rows s) fun i=>eI (A14 i k0)))/\(decide ((1:Int)<=nth left k1)=false->(decide ((k1:Int)<(s.1.length:Int))=true->(0<=(k1:Int)/\(k1:Int)<A16)/\(A13 k1)/\(A2 k0 k1)/\((nth (nth s.1 k1) r==nth A5 k0)=false->(A8 k1)/\k1<left.length/\iR (nth (A9 k0 k1) k1-(1:Int))/\(A8 k1)/\k1<left.length/\(A8 k1)/\k1<left.length/\decide ((bif Nat.beq k1 k1 then nth (restTo s (nth (nth all r) k0::e) r left k1) k1-(1:Int) else nth (restTo s (nth (nth all r) k0::e) r left k1) k1)<(0:Int))=true/\false=false/\false=false/\false=false/\false=false/\false=false/\false=false/\false=false/\false=false/\false=false/\(true=false->false=true)/\true=true/\iR ((k0:Int)+1)/\k0<List.length A5/\(k0:Int)+1=(↑(k0+1):Int)/\A7=A7/\(sR eI A5)/\(r:Int)=(r:Int)/\A20/\A1=A1/\p+List.length (A6 k0)=p+List.length (A18 k0)/\l=l/\rows s=rows s/\A12/\(233:Nat)=(233:Nat)/\A1=A1/\SEq (rows s) (fun i=>eI (nth (A0 k0) i)) (rows s) fun i=>eI (A14 i k0)))/\(decide ((k1:Int)<(s.1.length:Int))=false->iR ((r:Int)-1)/\left.length=left.length/\(r:Int)-1=(r:Int)-1/\(A17 k0 k1)/\A1=A1/\p+List.length (A6 k0)=p+List.length (A6 k0)/\l=l/\rows s=rows s/\A12/\(233:Nat)=(233:Nat)/\A1=A1/\(A10 k0)/\Does Tryz.prog Y Gl (Gf P l m) (233:FuncId) (A4 k0 k1) (A11 k0) (.ret (B true)) (A3 k0)/\false=false/\iR ((k0:Int)+1)/\k0<List.length A5/\(k0:Int)+1=(↑(k0+1):Int)/\A7=A7/\(sR eI A5)/\(r:Int)=(r:Int)/\A20/\A1=A1/\p+List.length (A6 k0)+List.length (El s all r (nth A5 k0::e) (Bx s (nth A5 k0::e) r left))=p+List.length (A18 k0)/\l=l/\rows s=rows s/\A12/\(233:Nat)=(233:Nat)/\A1=A1/\SEq (rows s) (A15 k0) (rows s) fun i=>eI (A14 i k0)))))/\(decide ((k0:Int)<(List.length (nth all r):Int))=false->true=true/\p+List.length (A6 k0)=p+List.length (El s all (r+1) e left)/\(SEq (rows s) (fun i=>eI (nth (nowTo s all r now e left k0) i)) (rows s) fun i=>eI (nth (Gd s all (r+1) now e left) i))/\l=l/\rows s=rows s/\A12/\(233:Nat)=(233:Nat)/\A1=A1))))) Tryz.func233 (by kernel_rfl) (by kernel_rfl) ?_
 simp only [stdS,imp_self,implies_true,and_true]
 obtain ⟨l1,l2,l3,l4⟩:=Kb hs
 have h28:=hal r
 have hrs:rows s<=6:=(Kc (l4 0 (by omega))).2.2.2.1
 have ecast:∀ a:Nat,(a:Int)+1=((a+1:Nat):Int):=fun a=>by omega
 refine ⟨by omega,fun hmx=>⟨⟨rfl,Lk fun _ _=>rfl⟩,fun k0 hk0=>⟨fun hd=>?_,fun hd=>?_⟩⟩⟩
 ·have hlt:k0<(nth all r).length:=by have:=of_decide_eq_true hd;omega
  have hx:num (nth (nth all r) k0)=true:=Ahw h28.2 k0 hlt
  have hcs:=Aqo (s:=s) (e:=e) (left:=left) hlt
  have hns:=Arz (s:=s) (now:=now) (e:=e) (left:=left) hlt
  have hkp:=Aj2 s all r now e left k0
  have ihk:=fun f=>ih k0 left.length f hlt
  clear ih
  generalize nth (nth all r) k0=x at *
  generalize nowTo s all r now e left k0=N at *
  generalize nowTo s all r now e left (k0+1)=N1 at *
  obtain ⟨hNl,hNd⟩:=hkp.cons he (by omega) x
  rw [hn] at hNl
  have hNl2:N.length=rows s:=by rw [hkp.1];exact hn
  have hrt:=As1 hNd (by omega)
  have hnum:num (Bl (N.set r x) r).n=true:=by rw [rt_n,Aj3 (by omega)];exact hx
  have hbadC:okAll s (x::e) r left=false->(Eg s all r e left (k0+1)).length=(Eg s all r e left k0).length/\N1=N.set r x:=fun hb=>by
   rw [hcs,hns]
   unfold Ke Tt
   rw [hb]
   exact ⟨by rw [List.length_append];rfl,rfl⟩
  have hgoodC:okAll s (x::e) r left=true->(Eg s all r e left (k0+1)).length=(Eg s all r e left k0).length+(El s all r (x::e) (Bx s (x::e) r left)).length/\N1=Gd s all r (N.set r x) (x::e) (Bx s (x::e) r left):=fun hb=>by
   rw [hcs,hns]
   unfold Ke Tt
   rw [hb]
   exact ⟨by rw [List.length_append];rfl,rfl⟩
  have hkx:nth (x::e) 0=x:=rfl
  have hbad:∀ k1,k1<left.length->okH s (x::e) r left k1=false->okAll s (x::e) r left=false:=fun k1 hk1 hb=>Qi (k:=k1) (by rw [List.length_range];exact hk1) (by rw [Cr hk1];exact hb)
  have hgood:∀ k1,k1<=Ms s (x::e) r left->k1<left.length->okH s (x::e) r left k1=true->k1<Ms s (x::e) r left:=fun k1 hk1 hlt1 hb=>Id hk1 (by rw [List.length_range];exact hlt1) (by rw [Cr hlt1];exact hb)
  have hrest:∀ k1,k1<left.length->nth (restTo s (x::e) r left k1) k1=nth left k1:=fun k1 hk1=>by rw [Tu hk1,Od (Nat.lt_irrefl k1)];rfl
  have hsame:∀ k1,(nth (nth s.cols k1) r==x)=true->SEq left.length (fun j=>eI (nth (restTo s (x::e) r left k1) j)) left.length (fun j=>eI (nth (restTo s (x::e) r left (k1+1)) j)):=fun k1 h=>Lk fun j hj=>by
   rw [Aj5 hj]
   cases hb:j.beq k1 with
   |false=>rfl
   |true=>
    have:=Nat.eq_of_beq_eq_true hb
    subst this
    rw [hrest j hj]
    unfold Ig
    rw [hkx,h]
    exact (Int.sub_zero _).symm
  have hless:∀ k1,k1<left.length->(nth (nth s.cols k1) r==x)=false->SEq left.length (Dq (fun j=>eI (nth (restTo s (x::e) r left k1) j)) k1 (List.map C.dem [C.v (Value.int IntKind.i64 (nth (restTo s (x::e) r left k1) k1 - 1))])) left.length (fun j=>eI (nth (restTo s (x::e) r left (k1+1)) j)):=fun k1 hk1 h=>SEq_upd fun j hj=>by
   rw [Aj5 hj,hrest k1 hk1]
   cases hb:j.beq k1 with
   |false=>rfl
   |true=>
    have:=Nat.eq_of_beq_eq_true hb
    subst this
    unfold Ig
    rw [hkx,h]
    rfl
  have hok0:∀ k1,(nth (nth s.cols k1) r==x)=true->okH s (x::e) r left k1=true:=fun k1 h=>by
   unfold okH
   rw [hkx,h];rfl
  have hok1:∀ k1,(nth (nth s.cols k1) r==x)=false->okH s (x::e) r left k1=(decide (1<=nth left k1)&&(Bl (x::e) 0).kind (nth (nth s.cols k1) r) != 0):=fun k1 h=>by
   unfold okH
   rw [hkx,h];rfl
  have hcl:∀ k1,k1<s.cols.length->(nth s.cols k1).length=rows s:=fun k1 h=>(Kc (l4 k1 h)).1
  have hbeq:∀ k1,k1<left.length->(bif k1.beq k1 then nth (restTo s (x::e) r left k1) k1 - 1 else nth (restTo s (x::e) r left k1) k1)=nth left k1 - 1:=fun k1 h=>by
   rw [show k1.beq k1=true from Nat.beq_refl k1,hrest k1 h];rfl
  have hlk:∀ k1,k1<left.length->0<=nth (restTo s (x::e) r left k1) k1/\nth (restTo s (x::e) r left k1) k1<=2:=fun k1 h=>by
   rw [hrest k1 h];exact hlr k1 h
  have hend:∀ k1,k1<=Ms s (x::e) r left->¬ k1<s.cols.length->okAll s (x::e) r left=true/\SEq left.length (fun j=>eI (nth (restTo s (x::e) r left k1) j)) left.length (fun i=>eI (nth (Bx s (x::e) r left) i)):=fun k1 hk1 hk=>by
   refine ⟨Lh (by rw [List.length_range];unfold Ms at hk1;omega),Lk fun j hj=>?_⟩
   rw [Tu hj,Aj4 hj,Mq (show j<k1 by omega)]
   rfl
  have hks:=Aqi S (Bl (N.set r x) r)
  refine ⟨by omega,by omega,hr,Arh left (by omega) (by omega),fun hmc=>⟨⟨Lk fun j hj=>by rw [Tu hj,Od (Nat.not_lt_zero j)];rfl,SEq_upd fun j _=>As3 (by omega)⟩,fun k1 hk1=>⟨fun h1=>⟨fun hk=>?_,fun hk=>?_⟩,fun h1=>⟨fun hk=>?_,fun hk=>?_⟩⟩⟩⟩
  ·have hk2:k1<s.cols.length:=by have:=of_decide_eq_true hk;omega
   have hk3:k1<left.length:=by omega
   have hc:=hcl k1 hk2
   have hlk:=hlk k1 hk3
   have h1':=of_decide_eq_true h1
   refine ⟨by omega,by omega,fun hq=>⟨(Af _).2 (by omega),hgood k1 hk1 hk3 (hok0 k1 hq),ecast k1,hsame k1 hq,trivial⟩,fun hq=>⟨by omega,hk3,(Af _).2 (by omega),by omega,hk3,by omega,hk3,by rw [hbeq k1 hk3];exact decide_eq_false (by omega),ofN S (N.set r x) (rows s) r hNl hr (Gf P l m) _,by omega,hks _ hnum,fun hz=>?_,fun hz=>?_⟩⟩
   ·rw [Bool.false_or,hrt] at hz
    have hb:=hok1 k1 hq
    unfold bne at hb
    rw [hz,Bool.not_true,Bool.and_false] at hb
    obtain ⟨q1,q2⟩:=hbadC (hbad k1 hk3 hb)
    exact ⟨(Af _).2 (by omega),hlt,ecast k0,by rw [q1],Lk fun _ _=>by rw [q2]⟩
   ·rw [Bool.false_or,hrt] at hz
    have hb:=hok1 k1 hq
    unfold bne at hb
    rw [hz,h1,Bool.not_false,Bool.and_true] at hb
    exact ⟨(Af _).2 (by omega),hgood k1 hk1 hk3 hb,ecast k1,hless k1 hk3 hq,trivial⟩
  ·have hk2:¬ k1<s.cols.length:=by have:=of_decide_eq_false hk;omega
   obtain ⟨q0,q3⟩:=hend k1 hk1 hk2
   obtain ⟨q1,q2⟩:=hgoodC q0
   exact ⟨(Af _).2 (by omega),ihk _ q0 q3,(Af _).2 (by omega),hlt,ecast k0,by rw [q1];omega,Lk fun _ _=>by rw [q2]⟩
  ·have hk2:k1<s.cols.length:=by have:=of_decide_eq_true hk;omega
   have hk3:k1<left.length:=by omega
   have hc:=hcl k1 hk2
   have hlk:=hlk k1 hk3
   have h1':=of_decide_eq_false h1
   refine ⟨by omega,by omega,fun hq=>⟨(Af _).2 (by omega),hgood k1 hk1 hk3 (hok0 k1 hq),ecast k1,hsame k1 hq,trivial⟩,fun hq=>⟨by omega,hk3,(Af _).2 (by omega),by omega,hk3,by omega,hk3,by rw [hbeq k1 hk3];exact decide_eq_true (by omega),fun h=>(by cases h),?_⟩⟩
   have hb:=hok1 k1 hq
   rw [h1,Bool.false_and] at hb
   obtain ⟨q1,q2⟩:=hbadC (hbad k1 hk3 hb)
   exact ⟨(Af _).2 (by omega),hlt,ecast k0,by rw [q1],Lk fun _ _=>by rw [q2]⟩
  ·have hk2:¬ k1<s.cols.length:=by have:=of_decide_eq_false hk;omega
   obtain ⟨q0,q3⟩:=hend k1 hk1 hk2
   obtain ⟨q1,q2⟩:=hgoodC q0
   exact ⟨(Af _).2 (by omega),ihk _ q0 q3,(Af _).2 (by omega),hlt,ecast k0,by rw [q1];omega,Lk fun _ _=>by rw [q2]⟩
 ·have hke:k0=(nth all r).length:=by have:=of_decide_eq_false hd;omega
  subst hke
  rw [Aqp,As0]
  exact ⟨rfl,Lk fun _ _=>rfl,trivial⟩
theorem Adi {f:Int->List (List Int)}:∀ {l:List Int} {k i:Nat},k<l.length->i<(f (nth l k)).length->nth (l.flatMap f) (((l.take k).flatMap f).length+i)=nth (f (nth l k)) i
 | [],k,i,h,_=>by simp at h
 |x::l,0,i,_,h=>by
  rw [List.flatMap_cons,List.take_zero,show ((List.flatMap f []).length+i)=i by simp]
  exact Tf (show i<(f x).length from h)
 |x::l,k+1,i,hk,h=>by
  rw [List.flatMap_cons,List.take_succ_cons,List.flatMap_cons,List.length_append,Nat.add_assoc,Mm (by omega),Nat.add_sub_cancel_left]
  exact Adi (by simpa using hk) h
theorem Aj6 {f:Int->List (List Int)} {l:List Int} {k:Nat} (h:k<l.length):((l.take k).flatMap f).length+(f (nth l k)).length<=(l.flatMap f).length:=by
 have h1:l.flatMap f=(l.take (k+1)).flatMap f++(l.drop (k+1)).flatMap f:=by rw [<-List.flatMap_append,List.take_append_drop]
 rw [h1,Lf h,List.flatMap_append,List.flatMap_singleton,List.length_append,List.length_append]
 omega
theorem Aj7 {Gl} (S:SP Gl) (s:Sheet) (all P:List (List Int)) (l m:Nat) (hs:s.ok=true) (hall:all.length=rows s) (hal:∀ r,(nth all r).length<=28/\(nth all r).all num=true):∀ (r:Nat) (now e left:List Int) (p:Nat),r<=rows s->now.length=rows s->now.drop r=e->left.length=s.cols.length->(∀ i,i<left.length->0<=nth left i/\nth left i<=2)->
  (∀ i,i<(El s all r e left).length->p+i<m/\nth P (p+i)=nth (El s all r e left) i)->
  Does Tryz.prog Y Gl (Gf P l m) 233 [I ((r:Int) - 1),L eI left,.addr FAR 0,.addr (FAR+1) 0,.addr (FAR+2) 0,.d (.c (.p (Cg s))),.addr (FAR+3) 0] (Mv s all l p now) (.ret (B true)) (Mw s (p+(El s all r e left).length) (Gd s all r now e left))
 |0,now,e,left,p,hr,hn,he,hl,hlr,hP=>by
  obtain ⟨l1,l2,l3,l4⟩:=Kb hs
  have hrs:=(Kc (l4 0 (by omega))).2.2
  obtain ⟨h1,h2⟩:=hP 0 (show 0<1 by decide)
  have he:now=e:=he
  subst he
  exact As7 S s all P left now l m p hn hrs.1 hrs.2.1 h1 h2
 |r+1,now,e,left,p,hr,hn,he,hl,hlr,hP=>by
  have e1:((r+1:Nat):Int) - 1=(r:Int):=by omega
  rw [e1]
  refine As8 S s all P now e left l m p r hs hn (by omega) he hall hal hl hlr fun k n f hk hok hseq=>?_
  generalize hx:nth (nth all r) k=x at *
  have hkp:=Aj2 s all r now e left k
  obtain ⟨hNl,hNd⟩:=hkp.cons he (by omega) x
  have hst:Ke s all r e left x=El s all r (x::e) (Bx s (x::e) r left):=by unfold Ke;rw [hok];rfl
  have ih:=Aj7 S s all P l m hs hall hal r ((nowTo s all r now e left k).set r x) (x::e) (Bx s (x::e) r left) (p+(Eg s all r e left k).length) (by omega) (by rw [hNl,hn]) hNd (by rw [Qn];exact hl) (fun i hi=>?_) (fun i hi=>?_)
  ·exact ih.args (show ((r:Int) - 1=(r:Int) - 1)/\SEq n f (Bx s (x::e) r left).length (fun i=>eI (nth (Bx s (x::e) r left) i))/\Cg s=Cg s from ⟨rfl,by rw [Qn];exact hseq,rfl⟩)
  ·rw [Qn] at hi
   have h1:okH s (x::e) r left i=true:=List.all_eq_true.1 hok i (List.mem_range.2 hi)
   have h2:=hlr i hi
   rw [Aj4 hi]
   unfold Ig
   unfold okH at h1
   cases hy:nth (nth s.cols i) r==nth (x::e) 0 with
   |true=>simp only [cond_true];omega
   |false=>
    rw [hy] at h1
    simp only [Bool.false_or,Bool.and_eq_true,decide_eq_true_eq] at h1
    simp only [cond_false];omega
  ·rw [<-hst] at hi ⊢
   have hb:=Aj6 (f:=Ke s all r e left) hk
   have hn1:=Adi (f:=Ke s all r e left) (i:=i) hk (by rw [hx];exact hi)
   rw [hx] at hb hn1
   have e2:El s all (r+1) e left=(nth all r).flatMap (Ke s all r e left):=rfl
   have hP2:=hP ((Eg s all r e left k).length+i) (by
    rw [e2]
    have:(Eg s all r e left k).length=(((nth all r).take k).flatMap (Ke s all r e left)).length:=rfl
    omega)
   rw [Nat.add_assoc]
   refine ⟨hP2.1,?_⟩
   rw [hP2.2,e2]
   exact hn1
structure Span where
 lo:Int
 hi:Int
deriving DecidableEq
instance:Inhabited Span:=⟨⟨0,0⟩⟩
def Ad (s:Span):List C:=[Ci s.lo,Ci s.hi]
structure Plan where
 starts:List Span
 rows:Int
 guard:Int
def cPlan (p:Plan):List C:=[.l Ad p.starts,Ci p.rows,Ci p.guard]
def Tv (p:Plan):T:=.d (.agg (cPlan p))
def Cv (s:Span):Bool:=inR s.lo (-99999) 99999&&(inR s.hi s.lo 99999&&decide (s.hi<=s.lo+6))
def Em (p:Plan):Bool:=inR p.starts.length 1 4&&(inR p.rows 1 12&&(inR p.guard 0 3&&p.starts.all Cv))
def bnd (B:Int) (l:List Int):Prop:=∀ i,i<l.length->-B<=nth l i/\nth l i<=B
theorem Tw {Gl} (S:SP Gl) (x lo hi:Int):CO Gl 97 [I x,I lo,I hi] (.ret (B (inR x lo hi))):=by
 refine An S (.nil) Tryz.func97 (by kernel_rfl) ((eqB (decide (lo<=x)) true=true->eqB (decide (lo<=x)) true=true)/\(eqB (decide (lo<=x)) true=true->eqB (decide (lo<=x)) true=true)/\(decide (lo<=x)=true->eqB (decide (lo<=x)) true=true)/\(bif decide (lo<=x) then decide (x<=hi) else false)=inR x lo hi) (by kernel_rfl) ?_
 simp only [stdS,imp_self,implies_true,and_true,inR]
theorem As9 {Gl} (S:SP Gl) (s:Span):CO Gl 100 [.d (.agg (Ad s))] (.ret (B (Cv s))):=by
 refine Ao S (let A0:=(bif inR s.1 (-99999:Int) (99999:Int) then inR s.2 s.1 (99999:Int) else false);let A1:=(inR s.1 (-99999:Int) (99999:Int));let A2:=(eqB A0 true=true->eqB A0 true=true);let A3:=(eqB A1 true=true->eqB A1 true=true);((.r (.ret (B A1)) (.r (.ret (B (inR s.2 s.1 (99999:Int)))) .nil)),(CO Gl 97 [I s.1,I (-99999:Int),I 99999] (.ret (B A1))/\A3/\A3/\A3/\A3/\(eqB A1 true=true->CO Gl 97 [I s.2,I s.1,I 99999] (.ret (B (inR s.2 s.1 (99999:Int)))))/\(inR s.1 (-99999:Int) (99999:Int)=true->eqB A1 true=true)/\A2/\A2/\A2/\(eqB A0 true=true->iR (s.1+(6:Int)))/\A2/\A2/\(A0=true->eqB A0 true=true)/\(bif bif inR s.1 (-99999:Int) (99999:Int) then inR s.2 s.1 (99999:Int) else false then decide (s.2<=s.1+(6:Int)) else false)=Cv s))) Tryz.func100 (by kernel_rfl) (by kernel_rfl) ?_
 dsimp only
 have h0:=Tw S s.lo (-99999) 99999
 have h1:=Tw S s.hi s.lo 99999
 cases ha:inR s.lo (-99999) 99999 with
 |false=>rw [ha] at h0;simp [eqB,Cv,ha];exact h0
 |true=>
  have:=Bo.1 ha
  rw [ha] at h0
  simp only [stdS,imp_self,implies_true,and_true,cond_true,eqB,Cv,ha,Af,Bool.true_and]
  refine ⟨h0,fun _=>h1,fun _=>by omega,?_⟩
  cases inR s.hi s.lo 99999<;>simp
theorem bad99 {Gl} (S:SP Gl) (s:Span):CO Gl 99 [.d (.agg (Ad s))] (.ret (B (!Cv s))):=by
 refine An S (.r (.ret (B (Cv s))) .nil) Tryz.func99 (by kernel_rfl) (CO Gl 100 [T.d (D.agg (Ad s))] (.ret (B (Cv s)))/\(!Cv s)=!Cv s) (by kernel_rfl) ?_
 simp only [stdS,imp_self,implies_true,and_true]
 exact ⟨As9 S s,trivial⟩
theorem Asa {Gl} (S:SP Gl) (l:List Span):CO Gl 187 [L Ad l,.fn 99 [] []] (.ret (I (idxI (fun s=>!Cv s) l))):=by
 refine Ao S (let A0:=(fun s=>!Cv s);((.loop (upIdx A0 l) (fun k=>[v 8 (I k),v 7 (I l.length),v 0 (L Ad l),v 1 (T.fn (99:FuncId) [] [])]) fun k0=>.br (.r (.ret (B !Cv (nth l k0))) (.br .nil .nil)) .nil),(l.length<=maxLen->(0=(↑(0:Nat):Int)/\(l.length:Int)=(l.length:Int)/\(sR Ad l)/\(99:Nat)=(99:Nat))/\∀ (k0:Nat),k0<=upIdx A0 l->(decide ((k0:Int)<(l.length:Int))=true->(0<=(k0:Int)/\(k0:Int)<(l.length:Int))/\CO Gl 99 [T.d (D.agg (Ad (nth l k0)))] (.ret (B !Cv (nth l k0)))/\((!Cv (nth l k0))=true->(k0:Int)=idxI A0 l)/\((!Cv (nth l k0))=false->iR ((k0:Int)+1)/\k0<upIdx A0 l/\(k0:Int)+1=(↑(k0+1):Int)/\(l.length:Int)=(l.length:Int)/\(sR Ad l)/\(99:Nat)=(99:Nat)))/\(decide ((k0:Int)<(l.length:Int))=false->(-1:Int)=idxI A0 l)))) Tryz.func187 (by kernel_rfl) (by kernel_rfl) ?_
 have h:=idx_loop (fun s=>!Cv s) l _ fun k _=>bad99 S (nth l k)
 simp only [stdS,imp_self,implies_true,and_true,decide_eq_true_eq,decide_eq_false_iff_not,Bi,Af,Bool.not_eq_true',Bool.not_eq_false'] at h ⊢
 exact h
theorem has98 {Gl} (S:SP Gl) (l:List Span):CO Gl 98 [L Ad l,.fn 99 [] []] (.ret (B (!l.all Cv))):=by
 refine An S (.r (.ret (I (idxI (fun s=>!Cv s) l))) .nil) Tryz.func98 (by kernel_rfl) (CO Gl 187 [L Ad l,T.fn (99:FuncId) [] []] (.ret (I (idxI (fun s=>!Cv s) l)))/\decide ((0:Int)<=idxI (fun s=>!Cv s) l)=!List.all l Cv) (by kernel_rfl) ?_
 have h:=idxI_spec (fun s=>!Cv s) l
 simp only [Bool.not_not] at h
 exact ⟨Asa S l,h⟩
theorem Asb {Gl} (S:SP Gl) (p:Plan):CO Gl 34 [Tv p] (.ret (B (Em p))):=by
 refine Ao S (let A0:=(bif bif inR (p.1.length:Int) (1:Int) (4:Int) then inR p.2 (1:Int) (12:Int) else false then inR p.3 (0:Int) (3:Int) else false);let A1:=(bif inR (p.1.length:Int) (1:Int) (4:Int) then inR p.2 (1:Int) (12:Int) else false);let A2:=(inR (p.1.length:Int) (1:Int) (4:Int));let A3:=(eqB A0 true=true->eqB A0 true=true);((.r (.ret (B A2)) (.r (.ret (B (inR p.2 (1:Int) (12:Int)))) (.r (.ret (B (inR p.3 (0:Int) (3:Int)))) (.r (.ret (B !List.all p.1 Cv)) .nil)))),(p.1.length<=maxLen->CO Gl 97 [I p.1.length,I 1,I 4] (.ret (B A2))/\(eqB A2 true=true->eqB A2 true=true)/\(eqB A2 true=true->eqB A2 true=true)/\(eqB A2 true=true->CO Gl 97 [I p.2,I 1,I 12] (.ret (B (inR p.2 (1:Int) (12:Int)))))/\(inR (p.1.length:Int) (1:Int) (4:Int)=true->eqB A2 true=true)/\(eqB A1 true=true->eqB A1 true=true)/\(eqB A1 true=true->eqB A1 true=true)/\(eqB A1 true=true->CO Gl 97 [I p.3,I 0,I 3] (.ret (B (inR p.3 (0:Int) (3:Int)))))/\(A1=true->eqB A1 true=true)/\A3/\A3/\(eqB A0 true=true->CO Gl 98 [L Ad p.1,T.fn (99:FuncId) [] []] (.ret (B !List.all p.1 Cv)))/\A3/\(A0=true->eqB A0 true=true)/\(bif bif bif inR (p.1.length:Int) (1:Int) (4:Int) then inR p.2 (1:Int) (12:Int) else false then inR p.3 (0:Int) (3:Int) else false then !!List.all p.1 Cv else false)=Em p))) Tryz.func34 (by kernel_rfl) (by kernel_rfl) ?_
 dsimp only
 intro hm
 have h0:=Tw S p.starts.length 1 4
 have h1:=Tw S p.rows 1 12
 have h2:=Tw S p.guard 0 3
 have h3:=has98 S p.starts
 unfold Em
 generalize inR p.starts.length 1 4=a at *
 generalize inR p.rows 1 12=b at *
 generalize inR p.guard 0 3=c at *
 generalize p.starts.all Cv=d at *
 cases a<;>cases b<;>cases c<;>cases d<;>simp [eqB]<;>simp_all
theorem plan_len {p:Plan} (h:Em p=true):(1<=p.starts.length/\p.starts.length<=4)/\(1<=p.rows/\p.rows<=12)/\(0<=p.guard/\p.guard<=3)/\∀ i,i<p.starts.length->Cv (nth p.starts i)=true:=by
 unfold Em at h
 simp only [Bool.and_eq_true,Bo,List.all_eq_true] at h
 exact ⟨by omega,by omega,by omega,fun i hi=>h.2.2.2 _ (Er hi)⟩
end Go.Vc.Zn
namespace Go.Vc.Zn.Py
open Go Go.Proofs Go.Vc Go.RowKit
structure Line where
 hand:Int
 sheets:Int
 errs:Span
 morn:Int
 posts:Int
 p0:Int
 p1:Int
 p2:Int
 p3:Int
deriving DecidableEq
instance:Inhabited Line:=⟨⟨0,0,default,0,0,0,0,0,0⟩⟩
structure PBook where
 hands:Int
 unit:Int
 sheet:Int
 error:Int
 morn:Int
 post:Int
 lines:List Line
def Tx (l:Line):List C:=[Ci l.p0,Ci l.p1,Ci l.p2,Ci l.p3]
def eLine (l:Line):List C:=[Ci l.hand,Ci l.sheets,Ci l.errs.lo,Ci l.errs.hi,Ci l.morn,Ci l.posts,Ci l.p0,Ci l.p1,Ci l.p2,Ci l.p3]
def cPB (b:PBook):List C:=[Ci b.hands,Ci b.unit,Ci b.sheet,Ci b.error,Ci b.morn,Ci b.post,.l eLine b.lines]
def Ih (l:Line):Bool:=inR l.p0 0 999&&inR l.p1 0 19&&inR l.p2 0 11&&inR l.p3 0 3
def Ch (h:Int) (l:Line):Bool:=inR l.errs.lo 0 20&&inR l.errs.hi l.errs.lo (min 20 (l.errs.lo+3))&&inR l.hand 0 (h - 1)&&inR l.sheets 0 20&&inR l.morn 0 10&&inR l.posts 0 10&&Ih l
def Hs (n:Int):Bool:=inR n 0 800
def okPB (b:PBook):Bool:=inR b.hands 1 3&&inR b.unit 1 48&&inR b.lines.length 1 5&&[b.sheet,b.error,b.morn,b.post].all Hs&&b.lines.all (Ch b.hands)
theorem Mx {Gl} (S:SP Gl) (x lo hi:Int):CO Gl 89 [I x,I lo,I hi] (.ret (B (inR x lo hi))):=by
 refine An S (.nil) Tryz.func89 (by kernel_rfl) ((eqB (decide (lo<=x)) true=true->eqB (decide (lo<=x)) true=true)/\(eqB (decide (lo<=x)) true=true->eqB (decide (lo<=x)) true=true)/\(decide (lo<=x)=true->eqB (decide (lo<=x)) true=true)/\(bif decide (lo<=x) then decide (x<=hi) else false)=inR x lo hi) (by kernel_rfl) ?_
 simp only [stdS,imp_self,implies_true,and_true,inR]
theorem Asc {Gl} (S:SP Gl) (l:Line):CO Gl 286 [.d (.agg (Tx l))] (.ret (B (Ih l))):=by
 refine Ao S (let A0:=(bif bif inR l.6 (0:Int) (999:Int) then inR l.7 (0:Int) (19:Int) else false then inR l.8 (0:Int) (11:Int) else false);let A1:=(bif inR l.6 (0:Int) (999:Int) then inR l.7 (0:Int) (19:Int) else false);let A2:=(inR l.6 (0:Int) (999:Int));((.r (.ret (B A2)) (.r (.ret (B (inR l.7 (0:Int) (19:Int)))) (.r (.ret (B (inR l.8 (0:Int) (11:Int)))) (.r (.ret (B (inR l.9 (0:Int) (3:Int)))) .nil)))),(CO Gl 89 [I l.6,I 0,I 999] (.ret (B A2))/\(eqB A2 true=true->eqB A2 true=true)/\(eqB A2 true=true->eqB A2 true=true)/\(eqB A2 true=true->CO Gl 89 [I l.7,I 0,I 19] (.ret (B (inR l.7 (0:Int) (19:Int)))))/\(inR l.6 (0:Int) (999:Int)=true->eqB A2 true=true)/\(eqB A1 true=true->eqB A1 true=true)/\(eqB A1 true=true->eqB A1 true=true)/\(eqB A1 true=true->CO Gl 89 [I l.8,I 0,I 11] (.ret (B (inR l.8 (0:Int) (11:Int)))))/\(A1=true->eqB A1 true=true)/\(eqB A0 true=true->eqB A0 true=true)/\(eqB A0 true=true->eqB A0 true=true)/\(eqB A0 true=true->CO Gl 89 [I l.9,I 0,I 3] (.ret (B (inR l.9 (0:Int) (3:Int)))))/\(A0=true->eqB A0 true=true)/\(bif bif bif inR l.6 (0:Int) (999:Int) then inR l.7 (0:Int) (19:Int) else false then inR l.8 (0:Int) (11:Int) else false then inR l.9 (0:Int) (3:Int) else false)=Ih l))) Tryz.func286 (by kernel_rfl) (by kernel_rfl) ?_
 dsimp only
 repeat' first
  |with_reducible exact fun h=>h
  |with_reducible exact fun _=>Mx S _ _ _
  |with_reducible exact Mx S _ _ _
  |with_reducible rfl
  |(intro h;rw [h];rfl)
  |with_reducible apply And.intro
 unfold Ih
 cases inR l.p0 0 999<;>cases inR l.p1 0 19<;>cases inR l.p2 0 11<;>cases inR l.p3 0 3<;>rfl
theorem Asd {Gl} (S:SP Gl) (b:PBook) (l:Line) (hh:-1000000<=b.hands/\b.hands<=1000000):CO Gl 181 [.d (.agg (cPB b)),.d (.agg (eLine l))] (.ret (B (Ch b.hands l))):=by
 refine Ao S (let A0:=(bif bif bif bif bif inR l.3.1 (0:Int) (20:Int) then inR l.3.2 l.3.1 (min (20:Int) (l.3.1+(3:Int))) else false then inR l.1 (0:Int) (b.1-(1:Int)) else false then inR l.2 (0:Int) (20:Int) else false then inR l.4 (0:Int) (10:Int) else false then inR l.5 (0:Int) (10:Int) else false);let A1:=(bif bif bif bif inR l.3.1 (0:Int) (20:Int) then inR l.3.2 l.3.1 (min (20:Int) (l.3.1+(3:Int))) else false then inR l.1 (0:Int) (b.1-(1:Int)) else false then inR l.2 (0:Int) (20:Int) else false then inR l.4 (0:Int) (10:Int) else false);let A2:=(bif inR l.3.1 (0:Int) (20:Int) then inR l.3.2 l.3.1 (min (20:Int) (l.3.1+(3:Int))) else false);let A3:=(bif bif bif inR l.3.1 (0:Int) (20:Int) then inR l.3.2 l.3.1 (min (20:Int) (l.3.1+(3:Int))) else false then inR l.1 (0:Int) (b.1-(1:Int)) else false then inR l.2 (0:Int) (20:Int) else false);let A4:=(bif bif inR l.3.1 (0:Int) (20:Int) then inR l.3.2 l.3.1 (min (20:Int) (l.3.1+(3:Int))) else false then inR l.1 (0:Int) (b.1-(1:Int)) else false);let A5:=(eqB (inR l.3.1 (0:Int) (20:Int)) true=true->eqB (inR l.3.1 (0:Int) (20:Int)) true=true);let A6:=(eqB A2 true=true->eqB A2 true=true);let A7:=(inR l.3.1 (0:Int) (20:Int));let A8:=(min (20:Int) (l.3.1+(3:Int)));((.r (.ret (B A7)) (.r (.ret (B (inR l.3.2 l.3.1 A8))) (.r (.ret (B (inR l.1 (0:Int) (b.1-(1:Int))))) (.r (.ret (B (inR l.2 (0:Int) (20:Int)))) (.r (.ret (B (inR l.4 (0:Int) (10:Int)))) (.r (.ret (B (inR l.5 (0:Int) (10:Int)))) (.r (.ret (B (Ih l))) .nil))))))),(CO Gl 89 [I l.3.1,I 0,I 20] (.ret (B A7))/\A5/\A5/\A5/\A5/\(eqB A7 true=true->iR (l.3.1+(3:Int)))/\A5/\A5/\A5/\A5/\(eqB A7 true=true->CO Gl 89 [I l.3.2,I l.3.1,I A8] (.ret (B (inR l.3.2 l.3.1 A8))))/\(inR l.3.1 (0:Int) (20:Int)=true->eqB A7 true=true)/\A6/\A6/\A6/\(eqB A2 true=true->iR (b.1-(1:Int)))/\A6/\A6/\(eqB A2 true=true->CO Gl 89 [I l.1,I 0,I (b.1-(1:Int))] (.ret (B (inR l.1 (0:Int) (b.1-(1:Int))))))/\(A2=true->eqB A2 true=true)/\(eqB A4 true=true->eqB A4 true=true)/\(eqB A4 true=true->eqB A4 true=true)/\(eqB A4 true=true->CO Gl 89 [I l.2,I 0,I 20] (.ret (B (inR l.2 (0:Int) (20:Int)))))/\(A4=true->eqB A4 true=true)/\(eqB A3 true=true->eqB A3 true=true)/\(eqB A3 true=true->eqB A3 true=true)/\(eqB A3 true=true->CO Gl 89 [I l.4,I 0,I 10] (.ret (B (inR l.4 (0:Int) (10:Int)))))/\(A3=true->eqB A3 true=true)/\(eqB A1 true=true->eqB A1 true=true)/\(eqB A1 true=true->eqB A1 true=true)/\(eqB A1 true=true->CO Gl 89 [I l.5,I 0,I 10] (.ret (B (inR l.5 (0:Int) (10:Int)))))/\(A1=true->eqB A1 true=true)/\(eqB A0 true=true->eqB A0 true=true)/\(eqB A0 true=true->eqB A0 true=true)/\(eqB A0 true=true->CO Gl 286 [T.d (D.agg (Tx l))] (.ret (B (Ih l))))/\(A0=true->eqB A0 true=true)/\(bif bif bif bif bif bif inR l.3.1 (0:Int) (20:Int) then inR l.3.2 l.3.1 A8 else false then inR l.1 (0:Int) (b.1-(1:Int)) else false then inR l.2 (0:Int) (20:Int) else false then inR l.4 (0:Int) (10:Int) else false then inR l.5 (0:Int) (10:Int) else false then Ih l else false)=Ch b.1 l))) Tryz.func181 (by kernel_rfl) (by kernel_rfl) ?_
 dsimp only
 have hr:eqB (inR l.errs.lo 0 20) true=true->iR (l.errs.lo+3):=fun h=>by
  rw [Acz] at h
  have:=Bo.1 h
  exact (Af _).2 (by omega)
 repeat' first
  |with_reducible exact fun h=>h
  |with_reducible exact fun _=>Mx S _ _ _
  |with_reducible exact Mx S _ _ _
  |with_reducible exact fun _=>Asc S l
  |with_reducible exact hr
  |with_reducible exact fun _=>(Af _).2 (by omega)
  |with_reducible rfl
  |(intro h;rw [h];rfl)
  |with_reducible apply And.intro
 unfold Ch
 cases inR l.errs.lo 0 20<;>cases inR l.errs.hi l.errs.lo (min 20 (l.errs.lo+3))<;>cases inR l.hand 0 (b.hands - 1)<;>cases inR l.sheets 0 20<;>cases inR l.morn 0 10<;>cases inR l.posts 0 10<;>rfl
theorem Ase {Gl} (S:SP Gl) (b:PBook) (l:Line) (hh:-1000000<=b.hands/\b.hands<=1000000):CO Gl 180 [.d (.agg (eLine l)),.d (.rd (cPB b))] (.ret (B (!Ch b.hands l))):=by
 refine An S (.r (.ret (B (Ch (PBook.hands b) l))) .nil) Tryz.func180 (by kernel_rfl) (CO Gl 181 [T.d (D.agg (cPB b)),T.d (D.agg (eLine l))] (.ret (B (Ch (PBook.hands b) l)))/\(!Ch b.1 l)=!Ch b.1 l) (by kernel_rfl) ?_
 exact ⟨Asd S b l hh,rfl⟩
theorem Asf {Gl} (S:SP Gl) (n:Int):CO Gl 178 [I n] (.ret (B (!Hs n))):=by
 refine An S (.r (.ret (B (inR n (0:Int) (800:Int)))) .nil) Tryz.func178 (by kernel_rfl) (CO Gl 89 [I n,I 0,I 800] (.ret (B (inR n (0:Int) (800:Int))))/\(!inR n (0:Int) (800:Int))=!Hs n) (by kernel_rfl) ?_
 exact ⟨Mx S _ _ _,rfl⟩
theorem Asg {Gl} (S:SP Gl) (b:PBook) (l:List Line) (hh:-1000000<=b.hands/\b.hands<=1000000):CO Gl 285 [L eLine l,.fn 180 [] [.d (.rd (cPB b))]] (.ret (I (idxI (fun x=>!Ch b.hands x) l))):=by
 refine Ao S (let A0:=(fun x=>!Ch (PBook.hands b) x);((.loop (upIdx A0 l) (fun k=>[v 8 (I k),v 7 (I l.length),v 0 (L eLine l),v 1 (T.fn (180:FuncId) [] [T.d (D.rd (cPB b))])]) fun k0=>.br (.r (.ret (B !Ch (PBook.hands b) (nth l k0))) (.br .nil .nil)) .nil),(l.length<=maxLen->(0=(↑(0:Nat):Int)/\(l.length:Int)=(l.length:Int)/\(sR eLine l)/\(180:Nat)=(180:Nat)/\b.1=b.1/\b.2=b.2/\b.3=b.3/\b.4=b.4/\b.5=b.5/\b.6=b.6/\sR eLine b.7)/\∀ (k0:Nat),k0<=upIdx A0 l->(decide ((k0:Int)<(l.length:Int))=true->(0<=(k0:Int)/\(k0:Int)<(l.length:Int))/\CO Gl 180 [T.d (D.agg (eLine (nth l k0))),T.d (D.rd (cPB b))] (.ret (B !Ch (PBook.hands b) (nth l k0)))/\((!Ch b.1 (nth l k0))=true->(k0:Int)=idxI (fun x=>!Ch b.1 x) l)/\((!Ch b.1 (nth l k0))=false->iR ((k0:Int)+1)/\k0<upIdx A0 l/\(k0:Int)+1=(↑(k0+1):Int)/\(l.length:Int)=(l.length:Int)/\(sR eLine l)/\(180:Nat)=(180:Nat)/\b.1=b.1/\b.2=b.2/\b.3=b.3/\b.4=b.4/\b.5=b.5/\b.6=b.6/\sR eLine b.7))/\(decide ((k0:Int)<(l.length:Int))=false->(-1:Int)=idxI (fun x=>!Ch b.1 x) l)))) Tryz.func285 (by kernel_rfl) (by kernel_rfl) ?_
 have h:=idx_loop (fun x=>!Ch b.hands x) l _ fun k _=>Ase S b (nth l k) hh
 simp only [stdS,imp_self,implies_true,and_true,decide_eq_true_eq,decide_eq_false_iff_not,Bi,Af,Bool.not_eq_true',Bool.not_eq_false'] at h ⊢
 exact h
theorem Ash {Gl} (S:SP Gl) (b:PBook) (l:List Line) (hh:-1000000<=b.hands/\b.hands<=1000000):CO Gl 179 [L eLine l,.fn 180 [] [.d (.rd (cPB b))]] (.ret (B (!l.all (Ch b.hands)))):=by
 refine An S (.r (.ret (I (idxI (fun x=>!Ch (PBook.hands b) x) l))) .nil) Tryz.func179 (by kernel_rfl) (CO Gl 285 [L eLine l,T.fn (180:FuncId) [] [T.d (D.rd (cPB b))]] (.ret (I (idxI (fun x=>!Ch (PBook.hands b) x) l)))/\decide ((0:Int)<=idxI (fun x=>!Ch b.1 x) l)=!List.all l (Ch b.1)) (by kernel_rfl) ?_
 have h:=idxI_spec (fun x=>!Ch b.hands x) l
 simp only [Bool.not_not] at h
 exact ⟨Asg S b l hh,h⟩
theorem hasR {Gl} (S:SP Gl) (a b c d:Int):CO Gl 102 [.d (.c (.s .n 4 fun i=>[List.map C.dem [C.v (.int .i64 a)],List.map C.dem [C.v (.int .i64 b)],List.map C.dem [C.v (.int .i64 c)],List.map C.dem [C.v (.int .i64 d)]].getD i [])),.fn 178 [] []] (.ret (B (![a,b,c,d].all Hs))):=by
 have h:=Ti S [a,b,c,d] 178 (fun x=>!Hs x) fun i _=>Asf S _
 simp only [Bool.not_not] at h
 exact h.args ⟨.of ⟨rfl,fun i hi=>by match i,hi with|0,_=>rfl|1,_=>rfl|2,_=>rfl|3,_=>rfl⟩,rfl⟩
theorem Adj {Gl} (S:SP Gl) (b:PBook):CO Gl 88 [.d (.agg (cPB b))] (.ret (B (okPB b))):=by
 refine Ao S (let A0:=(bif !inR b.1 (1:Int) (3:Int) then true else !inR b.2 (1:Int) (48:Int));let A1:=(!inR b.1 (1:Int) (3:Int));let A2:=(bif bif !inR b.1 (1:Int) (3:Int) then true else !inR b.2 (1:Int) (48:Int) then true else !inR (b.7.length:Int) (1:Int) (5:Int));let A3:=(eqB A0 false=true->eqB A0 false=true);let A4:=(B !List.all [PBook.sheet b,PBook.error b,PBook.morn b,PBook.post b] Hs);let A5:=(eqB A1 false=true->eqB A1 false=true);let A6:=(B !List.all (PBook.lines b) (Ch (PBook.hands b)));((.r (.ret (B (inR b.1 (1:Int) (3:Int)))) (.r (.ret (B (inR b.2 (1:Int) (48:Int)))) (.r (.ret (B (inR (b.7.length:Int) (1:Int) (5:Int)))) (.br .nil (.r (.ret A4) (.br .nil (.r (.ret A6) .nil))))))),(CO Gl 89 [I b.1,I 1,I 3] (.ret (B (inR b.1 (1:Int) (3:Int))))/\A5/\A5/\(eqB A1 false=true->CO Gl 89 [I b.2,I 1,I 48] (.ret (B (inR b.2 (1:Int) (48:Int)))))/\A5/\(A1=false->eqB A1 false=true)/\A3/\A3/\((eqB A0 false=true->b.7.length<=maxLen)->A3/\(eqB A0 false=true->CO Gl 89 [I b.7.length,I 1,I 5] (.ret (B (inR (b.7.length:Int) (1:Int) (5:Int)))))/\A3/\(A0=false->eqB A0 false=true)/\(A2=true->false=okPB b)/\(A2=false->CO Gl 102 [T.d (D.c (C.s Tag.n (4:Nat) fun i=>List.getD [List.map C.dem [C.v (Value.int IntKind.i64 (PBook.sheet b))],List.map C.dem [C.v (Value.int IntKind.i64 (PBook.error b))],List.map C.dem [C.v (Value.int IntKind.i64 (PBook.morn b))],List.map C.dem [C.v (Value.int IntKind.i64 (PBook.post b))]] i [])),T.fn (178:FuncId) [] []] (.ret A4)/\((!List.all [b.3,b.4,b.5,b.6] Hs)=true->false=okPB b)/\((!List.all [b.3,b.4,b.5,b.6] Hs)=false->CO Gl 179 [L eLine (PBook.lines b),T.fn (180:FuncId) [] [T.d (D.rd (cPB b))]] (.ret A6)/\(!!List.all b.7 (Ch b.1))=okPB b)))))) Tryz.func88 (by kernel_rfl) (by kernel_rfl) ?_
 dsimp only
 have hbad:∀ x y z v w:Bool,(bif bif !x then true else !y then true else !z)=true->false=(x&&y&&z&&v&&w):=by decide
 refine ⟨Mx S _ _ _,fun h=>h,fun h=>h,fun _=>Mx S _ _ _,fun h=>h,fun h=>by rw [h];rfl,fun h=>h,fun h=>h,fun _=>⟨fun h=>h,fun _=>Mx S _ _ _,fun h=>h,fun h=>by rw [h];rfl,fun h=>hbad _ _ _ _ _ h,fun h=>⟨hasR S _ _ _ _,fun h2=>?_,fun h2=>⟨Ash S b b.lines ?_,?_⟩⟩⟩⟩
 ·unfold okPB
  have h2:[b.sheet,b.error,b.morn,b.post].all Hs=false:=by
   cases h3:[b.sheet,b.error,b.morn,b.post].all Hs with
   |true=>rw [h3] at h2;cases h2
   |false=>rfl
  rw [h2,Bool.and_false,Bool.false_and]
 ·cases h1:inR b.hands 1 3 with
  |true=>have:=Bo.1 h1;omega
  |false=>
   rw [h1] at h
   cases inR b.unit 1 48<;>cases inR b.lines.length 1 5<;>cases h
 ·unfold okPB
  have h2:[b.sheet,b.error,b.morn,b.post].all Hs=true:=by
   cases h3:[b.sheet,b.error,b.morn,b.post].all Hs with
   |true=>rfl
   |false=>rw [h3] at h2;cases h2
  rw [h2,Bool.not_not]
  cases h1:inR b.hands 1 3<;>cases h3:inR b.unit 1 48<;>cases h4:inR b.lines.length 1 5<;>rw [h1,h3,h4] at h<;>first|rfl|cases h
theorem check141 {Gl} (S:SP Gl) (b:PBook):CO Gl 141 [.d (.agg (cPB b))] (.ret (I (bif okPB b then 0 else 2))):=by
 refine An S (.r (.ret (B (okPB b))) (.br .nil .nil)) Tryz.func141 (by kernel_rfl) (CO Gl 88 [T.d (D.agg (cPB b))] (.ret (B (okPB b)))/\((!okPB b)=true->(2:Int)=bif okPB b then (0:Int) else (2:Int))/\((!okPB b)=false->(0:Int)=bif okPB b then (0:Int) else (2:Int))) (by kernel_rfl) ?_
 refine ⟨Adj S b,fun h=>?_,fun h=>?_⟩
 ·cases h2:okPB b with
  |true=>rw [h2] at h;cases h
  |false=>rfl
 ·cases h2:okPB b with
  |true=>rfl
  |false=>rw [h2] at h;cases h
abbrev DS:=List Int->Bool
def cAc (b:PBook) (er:List Int):List C:=[Ci b.hands,Ci b.unit,Ci b.sheet,Ci b.error,Ci b.morn,Ci b.post,.l eLine b.lines,.l eI er]
def tAc (b:PBook) (er:List Int):T:=.d (.agg (cAc b er))
theorem okPB_facts {b:PBook} (h:okPB b=true):(1<=b.hands/\b.hands<=3)/\(1<=b.unit/\b.unit<=48)/\(1<=b.lines.length/\b.lines.length<=5)/\(0<=b.sheet/\b.sheet<=800)/\(0<=b.error/\b.error<=800)/\(0<=b.morn/\b.morn<=800)/\(0<=b.post/\b.post<=800)/\∀ i,i<b.lines.length->Ch b.hands (nth b.lines i)=true:=by
 unfold okPB at h
 simp only [Bool.and_eq_true,Bo,List.all_cons,List.all_nil,Bool.and_true,Hs,List.all_eq_true] at h
 obtain ⟨⟨⟨⟨h1,h2⟩,h3⟩,h4,h5,h6,h7⟩,h8⟩:=h
 exact ⟨h1,h2,by omega,h4,h5,h6,h7,fun i hi=>h8 _ (Er hi)⟩
theorem Tz {h:Int} {l:Line} (hl:Ch h l=true):(0<=l.errs.lo/\l.errs.lo<=20)/\(l.errs.lo<=l.errs.hi/\l.errs.hi<=20)/\(0<=l.hand/\l.hand<=h - 1)/\(0<=l.sheets/\l.sheets<=20)/\(0<=l.morn/\l.morn<=10)/\(0<=l.posts/\l.posts<=10)/\(0<=l.p0/\l.p0<=999)/\(0<=l.p1/\l.p1<=19)/\(0<=l.p2/\l.p2<=11)/\(0<=l.p3/\l.p3<=3):=by
 unfold Ch Ih at hl
 simp only [Bool.and_eq_true,Bo] at hl
 omega
theorem mul_rng {x y a c:Int} (h1:0<=x/\x<=a) (h2:0<=y/\y<=c):0<=x*y/\x*y<=a*c:=
 ⟨Int.mul_nonneg h1.1 h2.1,Int.mul_le_mul h1.2 h2.2 h2.1 (by omega)⟩
def Hd (b:PBook) (er:List Int) (i:Nat):Int:=max 0 (b.sheet*(nth b.lines i).sheets - b.error*nth er i)+b.morn*(nth b.lines i).morn+b.post*(nth b.lines i).posts
theorem Adk {b:PBook} {er:List Int} {i:Nat} (h:okPB b=true) (hi:i<b.lines.length) (hx:inR (nth er i) 0 20=true):(0<=b.sheet*(nth b.lines i).sheets/\b.sheet*(nth b.lines i).sheets<=16000)/\(0<=b.error*nth er i/\b.error*nth er i<=16000)/\(0<=b.morn*(nth b.lines i).morn/\b.morn*(nth b.lines i).morn<=8000)/\(0<=b.post*(nth b.lines i).posts/\b.post*(nth b.lines i).posts<=8000)/\0<=Hd b er i/\Hd b er i<=32000:=by
 obtain ⟨a1,a2,a3,a4,a5,a6,a7,a8⟩:=okPB_facts h
 obtain ⟨b1,b2,b3,b4,b5,b6,_⟩:=Tz (a8 i hi)
 have c1:=mul_rng a4 b4
 have c2:=mul_rng a5 (Bo.1 hx)
 have c3:=mul_rng a6 b5
 have c4:=mul_rng a7 b6
 unfold Hd
 omega
theorem Asi {Gl} (S:SP Gl)  :CO Gl 177 [] (.ret (.d (.agg [Ci 960,Ci 48,Ci 4,Ci 1]))):=by
 refine An S (.nil) Tryz.func177 (by kernel_rfl) ((960:Int)=960/\(48:Int)=48/\(4:Int)=4/\(1:Int)=1) (by kernel_rfl) ?_
 exact ⟨rfl,rfl,rfl,rfl⟩
theorem Asj {Gl} (S:SP Gl) (l:List Int) (hl:l.length<=1000) (hb:∀ k,k<=l.length->-1000000000<=Hc l k/\Hc l k<=1000000000):CO Gl 398 [L eI l] (.ret (I (Hc l l.length))):=by
 refine An S (.loop l.length (fun k=>[v 8 (I k),v 7 (I l.length),v 6 (L eI l),v 3 (I (Hc l k))]) fun k0=>.br .nil .nil) Tryz.func398 (by kernel_rfl) (l.length<=maxLen->(0=(↑(0:Nat):Int)/\(l.length:Int)=(l.length:Int)/\(sR eI l)/\(0:Int)=Hc l (0:Nat))/\∀ (k0:Nat),k0<=l.length->(decide ((k0:Int)<(l.length:Int))=true->(0<=(k0:Int)/\(k0:Int)<(l.length:Int))/\iR (Hc l k0+nth l k0)/\iR ((k0:Int)+1)/\k0<l.length/\(k0:Int)+1=(↑(k0+1):Int)/\(l.length:Int)=(l.length:Int)/\(sR eI l)/\Hc l k0+nth l k0=Hc l (k0+1))/\(decide ((k0:Int)<(l.length:Int))=false->Hc l k0=Hc l l.length)) (by kernel_rfl) ?_
 refine fun _=>⟨⟨rfl,rfl,.of ⟨rfl,fun _ _=>rfl⟩,rfl⟩,fun k hk=>⟨fun hd=>?_,fun hd=>?_⟩⟩
 ·have hlt:k<l.length:=by have:=of_decide_eq_true hd;omega
  have h1:=hb k hk
  have h2:=hb (k+1) (by omega)
  have h3:Hc l (k+1)=Hc l k+nth l k:=rfl
  exact ⟨by omega,(Af _).2 (by omega),(Af _).2 (by omega),hlt,by omega,rfl,.of ⟨rfl,fun _ _=>rfl⟩,rfl⟩
 ·have:k=l.length:=by have:=of_decide_eq_false hd;omega
  rw [this]
theorem Ask {Gl} (S:SP Gl) (b:PBook) (er:List Int) (i:Nat) (h:okPB b=true) (hi:i<b.lines.length) (he:er.length=b.lines.length) (hx:inR (nth er i) 0 20=true):CO Gl 346 [tAc b er,I i] (.ret (I (max 0 (b.sheet*(nth b.lines i).sheets - b.error*nth er i)))):=by
 refine An S (.nil) Tryz.func346 (by kernel_rfl) ((0<=(i:Int)/\(i:Int)<(b.7.length:Int))/\iR (b.3*(nth b.7 i).2)/\(0<=(i:Int)/\(i:Int)<(er.length:Int))/\iR (b.4*nth er i)/\iR (b.3*(nth b.7 i).2-b.4*nth er i)/\max (0:Int) (b.3*(nth b.7 i).2-b.4*nth er i)=max (0:Int) (b.3*(nth b.7 i).2-b.4*nth er i)) (by kernel_rfl) ?_
 obtain ⟨c1,c2,c3,c4,_⟩:=Adk h hi hx
 exact ⟨by omega,(Af _).2 (by omega),by omega,(Af _).2 (by omega),(Af _).2 (by omega),rfl⟩
theorem Asl {Gl} (S:SP Gl) (b:PBook) (er:List Int) (i:Nat) (h:okPB b=true) (hi:i<b.lines.length):CO Gl 347 [tAc b er,I i] (.ret (I (b.morn*(nth b.lines i).morn))):=by
 refine An S (.nil) Tryz.func347 (by kernel_rfl) ((0<=(i:Int)/\(i:Int)<(b.7.length:Int))/\iR (b.5*(nth b.7 i).4)/\b.5*(nth b.7 i).4=b.5*(nth b.7 i).4) (by kernel_rfl) ?_
 obtain ⟨a1,a2,a3,a4,a5,a6,a7,a8⟩:=okPB_facts h
 obtain ⟨b1,b2,b3,b4,b5,b6,_⟩:=Tz (a8 i hi)
 have c3:=mul_rng a6 b5
 exact ⟨by omega,(Af _).2 (by omega),rfl⟩
theorem Asm {Gl} (S:SP Gl) (b:PBook) (er:List Int) (i:Nat) (h:okPB b=true) (hi:i<b.lines.length):CO Gl 348 [tAc b er,I i] (.ret (I (b.post*(nth b.lines i).posts))):=by
 refine An S (.nil) Tryz.func348 (by kernel_rfl) ((0<=(i:Int)/\(i:Int)<(b.7.length:Int))/\iR (b.6*(nth b.7 i).5)/\b.6*(nth b.7 i).5=b.6*(nth b.7 i).5) (by kernel_rfl) ?_
 obtain ⟨a1,a2,a3,a4,a5,a6,a7,a8⟩:=okPB_facts h
 obtain ⟨b1,b2,b3,b4,b5,b6,_⟩:=Tz (a8 i hi)
 have c4:=mul_rng a7 b6
 exact ⟨by omega,(Af _).2 (by omega),rfl⟩
theorem Asn {Gl} (S:SP Gl) (b:PBook) (er:List Int) (i:Nat) (h:okPB b=true) (hi:i<b.lines.length) (he:er.length=b.lines.length) (hx:inR (nth er i) 0 20=true):CO Gl 284 [tAc b er,I i] (.ret (I (Hd b er i))):=by
 refine Ao S (let A0:=(nth (PBook.lines b) i);let A1:=(b.3*(nth b.7 i).2-b.4*nth er i);let A2:=(I (max (0:Int) (PBook.sheet b*Line.sheets A0-PBook.error b*nth er i)));((.un (4:Nat) (.tt (.r (.ret A2) (.tt (.r (.ret (I (PBook.morn b*Line.morn A0))) (.tt (.r (.ret (I (PBook.post b*Line.posts A0))) (.ff .nil)))))))),(true=true/\((0:Int)<=0/\0<(↑(3:Nat):Int))/\CO Gl 346 [tAc b er,I i] (.ret A2)/\iR ((0:Int)+max (0:Int) A1)/\iR ((0:Int)+1)/\true=true/\((0:Int)<=0+(1:Int)/\(0:Int)+1<(↑(3:Nat):Int))/\CO Gl 347 [tAc b er,I i] (.ret (I (PBook.morn b*Line.morn A0)))/\iR ((0:Int)+max (0:Int) A1+b.5*(nth b.7 i).4)/\iR ((0:Int)+1+(1:Int))/\true=true/\((0:Int)<=0+(1:Int)+1/\(0:Int)+1+1<(↑(3:Nat):Int))/\CO Gl 348 [tAc b er,I i] (.ret (I (PBook.post b*Line.posts A0)))/\iR ((0:Int)+max (0:Int) A1+b.5*(nth b.7 i).4+b.6*(nth b.7 i).5)/\iR ((0:Int)+1+(1:Int)+1)/\false=false/\(0:Int)+max (0:Int) A1+b.5*(nth b.7 i).4+b.6*(nth b.7 i).5=Hd b er i))) Tryz.func284 (by kernel_rfl) (by kernel_rfl) ?_
 dsimp only
 obtain ⟨c1,c2,c3,c4,c5⟩:=Adk h hi hx
 exact ⟨rfl,by decide,Ask S b er i h hi he hx,(Af _).2 (by omega),(Af _).2 (by omega),rfl,by decide,Asl S b er i h hi,(Af _).2 (by omega),(Af _).2 (by omega),rfl,by decide,Asm S b er i h hi,(Af _).2 (by omega),(Af _).2 (by omega),rfl,by unfold Hd;rw [Int.zero_add]⟩
def restTo (b:PBook) (er:List Int):Nat->Int->Int
 |0,_=>0
 |k+1,h=>bif h==(nth b.lines k).hand then (Hd b er k+restTo b er k (nth b.lines k).hand) % b.unit else restTo b er k h
def Dh (b:PBook):Nat->DS
 |0=>fun _=>false
 |k+1=>Ca (Dh b k) [(nth b.lines k).hand]
def Ii (b:PBook) (er:List Int) (k:Nat) (key:List Int):List C:=vsC [.int .i64 (bif Dh b k key then restTo b er k (nth key 0) else 0)]
def Ht (b:PBook) (er:List Int) (k:Nat):Int:=Hd b er k+restTo b er k (nth b.lines k).hand
def Di (b:PBook) (er:List Int):Nat->List Int
 |0=>[]
 |k+1=>Di b er k++[Ht b er k - Ht b er k % b.unit]
theorem Aj8 (b:PBook):∀ (k:Nat) (key:List Int),Dh b k key=true->∃ h,key=[h]
 |0,_,h=>by cases h
 |k+1,key,h=>by
  rcases (Gw _ _ _).1 h with h|h
  ·exact ⟨_,h⟩
  ·exact Aj8 b k key h
theorem Adl (b:PBook) (er:List Int):∀ (k:Nat) (h:Int),Dh b k [h]=false->restTo b er k h=0
 |0,_,_=>rfl
 |k+1,h,hd=>by
  have h1:¬ (Ca (Dh b k) [(nth b.lines k).hand] [h]=true):=by
   show ¬ (Dh b (k+1) [h]=true)
   rw [hd];simp
  rw [Gw] at h1
  have h2:h≠(nth b.lines k).hand:=fun e=>h1 (.inl (by rw [e]))
  have h3:Dh b k [h]=false:=Bool.eq_false_iff.2 fun e=>h1 (.inr e)
  unfold restTo
  rw [beq_eq_false_iff_ne.2 h2,cond_false]
  exact Adl b er k h h3
theorem Aso (b:PBook) (er:List Int) (k:Nat) (h:Int):(bif Dh b k [h] then restTo b er k (nth [h] 0) else 0)=restTo b er k h:=by
 cases hd:Dh b k [h] with
 |true=>rfl
 |false=>rw [Adl b er k h hd];rfl
theorem Aj9 {b:PBook} {er:List Int} (hu:1<=b.unit/\b.unit<=48):∀ (k:Nat) (h:Int),0<=restTo b er k h/\restTo b er k h<=47
 |0,_=>by unfold restTo;omega
 |k+1,h=>by
  unfold restTo
  cases h==(nth b.lines k).hand with
  |true=>
   have h1:=Int.emod_nonneg (Hd b er k+restTo b er k (nth b.lines k).hand) (show b.unit≠0 by omega)
   have h2:=Int.emod_lt_of_pos (Hd b er k+restTo b er k (nth b.lines k).hand) (show 0<b.unit by omega)
   simp only [cond_true];omega
  |false=>exact Aj9 hu k h
theorem Asp (b:PBook) (er:List Int) (k:Nat):MEq (Ca (Dh b k) [(nth b.lines k).hand]) (Dl (Ii b er k) [(nth b.lines k).hand] (List.map C.dem [C.v (.int .i64 (Ht b er k % b.unit))])) (Dh b (k+1)) (Ii b er (k+1)):=fun key=>⟨rfl,fun hd=>.inl (by
 have hd':Dh b (k+1) key=true:=hd
 rw [Nu]
 unfold Ii
 rw [hd',cond_true]
 by_cases he:key=[(nth b.lines k).hand]
 ·rw [if_pos he,he]
  show [C.v (Value.int .i64 _)]=[C.v (Value.int .i64 (bif (nth b.lines k).hand==(nth b.lines k).hand then _ else _))]
  rw [beq_self_eq_true]
  rfl
 ·rw [if_neg he]
  have h1:Dh b k key=true:=((Gw _ _ _).1 hd).resolve_left he
  obtain ⟨h,rfl⟩:=Aj8 b k key h1
  rw [h1,cond_true]
  show vsC [Value.int .i64 (restTo b er k h)]=vsC [Value.int .i64 (bif h==(nth b.lines k).hand then _ else restTo b er k h)]
  rw [beq_eq_false_iff_ne.2 (fun e=>he (by rw [e]))]
  rfl)⟩
theorem Yr (b:PBook) (er:List Int):∀ k,(Di b er k).length=k
 |0=>rfl
 |k+1=>by unfold Di;rw [List.length_append,Yr b er k];rfl
theorem Aja {Gl} (S:SP Gl) (b:PBook) (er:List Int) (h:okPB b=true) (he:er.length=b.lines.length) (hx:∀ i,i<er.length->inR (nth er i) 0 20=true):CO Gl 175 [tAc b er] (.ret (.tup [.c (.l eI (Di b er b.lines.length)),.c (.m 0 false (Dh b b.lines.length) (Ii b er b.lines.length))])):=by
 refine Ao S (let A0:=fun (k0:Nat)=>(Hd b er k0+bif Dh b k0 [(nth b.7 k0).1] then restTo b er k0 (nth [(nth b.7 k0).1] (0:Nat)) else (0:Int));let A1:=(b.7.length:Int);let A2:=(PBook.lines b);((.loop (List.length A2) (fun k=>v 14 (I k)::v 13 (I (List.length A2:Int))::v 12 (L eLine A2)::v 4 (T.mp (9:Nat))::((2:Nat),(9:Nat),T.mapc false (0:Nat) false (Dh b k) (Ii b er k))::v 5 (Lt 900 eI (Di b er k))::tk 900 3::v 1 (ad 1)::bx 1 (cAc b er)) fun k0=>.br (.r (.ret (I (Hd b er k0))) .nil) .nil),(b.7.length<=maxLen->(0=(↑(0:Nat):Int)/\A1=A1/\(sR eLine b.7)/\MEq (fun x=>false) (fun x=>vsC [Value.int IntKind.i64 (0:Int)]) (Dh b (0:Nat)) (Ii b er (0:Nat))/\(0:Nat)=(0:Nat)/\b.1=b.1/\b.2=b.2/\b.3=b.3/\b.4=b.4/\b.5=b.5/\b.6=b.6/\(sR eLine b.7)/\sR eI er)/\∀ (k0:Nat),k0<=List.length A2->(decide ((k0:Int)<(b.7.length:Int))=true->(0<=(k0:Int)/\(k0:Int)<A1)/\CO Gl 284 [tAc b er,I k0] (.ret (I (Hd b er k0)))/\(Dh b k0 [(nth b.7 k0).1]=false->[C.v (Value.int IntKind.i64 (bif Dh b k0 [(nth b.7 k0).1] then restTo b er k0 (nth [(nth b.7 k0).1] (0:Nat)) else (0:Int)))]=[C.v (Value.int IntKind.i64 (0:Int))])/\iR (A0 k0)/\b.2≠(0:Int)/\b.2≠(0:Int)/\iR ((A0 k0)-Int.tmod (A0 k0) b.2)/\(List.length (Di b er k0)+1)*8<=140737488355328/\List.length (Di b er k0)+1<=140737488355328/\iR ((k0:Int)+1)/\k0<List.length A2/\(k0:Int)+1=(↑(k0+1):Int)/\A1=A1/\(sR eLine b.7)/\MEq (Ca (Dh b k0) [(nth b.7 k0).1]) (Dl (Ii b er k0) [(nth b.7 k0).1] (List.map C.dem [C.v (Value.int IntKind.i64 (Int.tmod (A0 k0) b.2))])) (Dh b (k0+1)) (Ii b er (k0+1))/\(SEq (List.length (Di b er k0)+1) (Ar (List.length (Di b er k0)) (fun i=>eI (nth (Di b er k0) i)) fun i=>List.getD [List.map C.dem [C.v (Value.int IntKind.i64 ((A0 k0)-Int.tmod (A0 k0) b.2))]] i []) (List.length (Di b er (k0+1))) fun i=>eI (nth (Di b er (k0+1)) i))/\b.1=b.1/\b.2=b.2/\b.3=b.3/\b.4=b.4/\b.5=b.5/\b.6=b.6/\(sR eLine b.7)/\sR eI er)/\(decide ((k0:Int)<(b.7.length:Int))=false->(sQ eI (Di b er k0) (Di b er b.7.length))/\MEq (Dh b k0) (Ii b er k0) (Dh b b.7.length) (Ii b er b.7.length))))) Tryz.func175 (by kernel_rfl) (by kernel_rfl) ?_
 dsimp only
 have hr:∀ (n:Nat) (f:Nat->List C),SEq n f n f:=fun _ _=>.of ⟨rfl,fun _ _=>rfl⟩
 have hu:=(okPB_facts h).2.1
 refine fun hm=>⟨⟨rfl,rfl,hr _ _,fun key=>⟨rfl,fun hh=>(by cases hh)⟩,rfl,rfl,rfl,rfl,rfl,rfl,rfl,hr _ _,hr _ _⟩,fun k hk=>⟨fun hd=>?_,fun hd=>?_⟩⟩
 ·have hlt:k<b.lines.length:=by have:=of_decide_eq_true hd;exact Int.ofNat_lt.1 this
  obtain ⟨_,_,_,_,c5⟩:=Adk (er:=er) h hlt (hx k (by omega))
  have c6:=Aj9 (er:=er) hu k (nth b.lines k).hand
  have hat:=Aso b er k (nth b.lines k).hand
  have hlb:=(okPB_facts h).2.2.1
  have hpl:=Yr b er k
  have hs0:0<=Ht b er k/\Ht b er k<=33000:=by unfold Ht;omega
  have htm:Int.tmod (Ht b er k) b.unit=Ht b er k % b.unit:=Int.tmod_eq_emod_of_nonneg hs0.1
  have hm1:=Int.emod_nonneg (Ht b er k) (show b.unit≠0 by omega)
  have hm2:=Int.emod_lt_of_pos (Ht b er k) (show 0<b.unit by omega)
  have hsum:Hd b er k+restTo b er k (nth b.lines k).hand=Ht b er k:=rfl
  rw [hat,hsum,htm]
  refine ⟨⟨by omega,Int.ofNat_lt.2 hlt⟩,Asn S b er k h hlt he (hx k (by omega)),fun h0=>?_,(Af _).2 (by omega),by omega,by omega,(Af _).2 (by omega),by omega,by omega,(Af _).2 (by omega),hlt,by omega,rfl,hr _ _,Asp b er k,Oc (x:=Ht b er k - Ht b er k % b.unit) rfl rfl,rfl,rfl,rfl,rfl,rfl,rfl,hr _ _,hr _ _⟩
  rw [Adl b er k _ h0]
 ·have hke:k=b.lines.length:=by have:=of_decide_eq_false hd;omega
  subst hke
  exact ⟨hr _ _,fun key=>⟨rfl,fun _=>.inl rfl⟩⟩
end Go.Vc.Zn.Py
namespace Go.Vc.Zn
open Go Go.Proofs Go.Vc Go.RowKit
theorem Asq {Gl} (S:SP Gl) (s:Sheet) (l:Nat) (hs:s.ok=true):Does Tryz.prog Y Gl (Gf (Ae s) l (Ae s).length) 233 [I ((rows s:Int) - 1),L eI s.errs,.addr FAR 0,.addr (FAR+1) 0,.addr (FAR+2) 0,.d (.c (.p (Cg s))),.addr (FAR+3) 0] (Mv s (Dn s) l 0 (List.replicate (rows s) 0)) (.ret (B true)) (Mw s (Ae s).length (Gd s (Dn s) (rows s) (List.replicate (rows s) 0) [] s.errs)):=by
 obtain ⟨l1,l2,l3,l4⟩:=Kb hs
 have h:=Aj7 S s (Dn s) (Ae s) l (Ae s).length hs (by unfold Dn;rw [List.length_map,List.length_range]) (Ain hs) (rows s) (List.replicate (rows s) 0) [] s.errs 0 (Nat.le_refl _) (List.length_replicate ..) (by simp) l3 (fun i hi=>by
  have:=Kc (l4 i (by omega))
  exact ⟨this.2.2.2.2.1,this.2.2.2.2.2⟩) fun i hi=>⟨by rw [Nat.zero_add];exact hi,by rw [Nat.zero_add];rfl⟩
 rw [Nat.zero_add] at h
 exact h
theorem Asr (n:Nat):(fun _:Nat=>vsC [Value.int IntKind.i64 0])=fun i=>eI (nth (List.replicate n (0:Int)) i):=by
 funext i
 have:nth (List.replicate n (0:Int)) i=0:=by
  unfold nth
  rw [List.getD_eq_getElem?_getD,List.getElem?_replicate]
  split<;>rfl
 rw [this]
 rfl
theorem Ass {Gl} (S:SP Gl) (s:Sheet) (l k:Nat) (hs:s.ok=true) (hk:k=rows s):Does Tryz.prog Y Gl (Gf (Ae s) l (Ae s).length) 233 [I ((rows s:Int) - 1),L eI s.errs,.addr FAR 0,.addr (FAR+1) 0,.addr (FAR+2) 0,.d (.c (.p (Cg s))),.addr (FAR+3) 0]
  [(0,BIG,.tr 0),(2,FAR,live),(FAR+3,0,.yl l),(2,FAR+1,live),(FAR+4,0,.arr (FAR+4) (rows s)),(2,FAR+2,live),(FAR+5,0,L Au ((Dn s).take k)),(2,FAR+3,live),(FAR+6,0,.fn 233 [] [.addr FAR 0,.addr (FAR+1) 0,.addr (FAR+2) 0,.d (.c (.p (Cg s))),.addr (FAR+3) 0]),(2,FAR+4,.arrc false 1 (rows s) fun _=>vsC [Value.int IntKind.i64 0])]
  (.ret (B true)) (Mw s (Ae s).length (Gd s (Dn s) (rows s) (List.replicate (rows s) 0) [] s.errs)):=by
 have h:=Asq S s l hs
 have hl:(Dn s).take k=Dn s:=List.take_of_length_le (by unfold Dn;rw [List.length_map,List.length_range];omega)
 rw [hl,Asr (rows s)]
 exact h
theorem Ast {Gl} (S:SP Gl) (s:Sheet) (l:Nat) (hs:s.ok=true):Does Tryz.prog Y Gl (Gf (Ae s) l (Ae s).length) 232 [.yl l,.d (.c (.p (Cg s)))] [(0,BIG,.tr 0)] (.ret (.tup [])) [(0,BIG,.tr (Ae s).length)]:=by
 refine Ef S (let A0:=(↑(rows s):Int);let A1:=(FAR+(6:Nat),(0:Nat),T.fn (233:FuncId) [] [T.addr FAR (0:Nat),T.addr (FAR+1) (0:Nat),T.addr (FAR+2) (0:Nat),T.d (D.c (C.p (Cg s))),T.addr (FAR+3) (0:Nat)]);let A2:=[C.l Au s.1,C.l eI s.2];let A3:=[I (A0-1),L eI (Sheet.errs s),T.addr FAR (0:Nat),T.addr (FAR+1) (0:Nat),T.addr (FAR+2) (0:Nat),T.d (D.c (C.p (Cg s))),T.addr (FAR+3) (0:Nat)];let A4:=fun (k0:Nat)=>(List.take k0 (Dn s));let A5:=(Mw s (List.length (Ae s)) (Gd s (Dn s) (rows s) (List.replicate (rows s) (0:Int)) [] (Sheet.errs s)));let A6:=((2:Nat),FAR+(4:Nat),T.arrc false (1:Nat) (rows s) fun x=>vsC [Value.int IntKind.i64 (0:Int)]);let A7:=(nth s.1 (Int.toNat (0:Int)));let A8:=((0:Nat),BIG,T.tr (0:Nat));let A9:=fun (k0:Nat)=>[A8,((2:Nat),FAR,live),(FAR+(3:Nat),(0:Nat),T.yl l),((2:Nat),FAR+(1:Nat),live),(FAR+(4:Nat),(0:Nat),T.arr (FAR+4) (rows s)),((2:Nat),FAR+(2:Nat),live),(FAR+(5:Nat),(0:Nat),L Au (A4 k0)),((2:Nat),FAR+(3:Nat),live),A1,A6];((.loop (rows s) (fun k=>v 16 (I k)::v 15 (I A0)::v 3 (I A0)::v 2 (ad 2)::v 4 (ad 4)::tk 100 22::v 0 (T.yl l)::v 1 (T.d (D.c (C.p (Cg s))))::((2:Nat),(2:Nat),live)::((5:Nat),(0:Nat),T.yl l)::A8::bx 4 [C.lt (100:Nat) Au (List.take k (Dn s))]) fun k0=>.br (.r (.ret (.tup [D.c (C.l eI (Fk s k0)),D.c (Ci (Bw (Ct s k0)))])) .nil) (.w [(nat_lit 100000,nat_lit 2),(nat_lit 100001,nat_lit 8),(nat_lit 100002,nat_lit 4),(nat_lit 100003,nat_lit 9),(nat_lit 100004,nat_lit 31)] A3 (A9 k0) (.ret (B true)) A5 .nil)),(((0:Int)<=0/\0<(s.1.length:Int))/\(List.length A7<=maxLen->(0=(↑(0:Nat):Int)/\(↑(List.length A7):Int)=A0/\(↑(List.length A7):Int)=A0/\l=l/\A2=A2/\l=l/\(0:Nat)=(0:Nat)/\(0:Nat)=(0:Nat))/\∀ (k0:Nat),k0<=rows s->(decide ((k0:Int)<(↑(rows s):Int))=true->CO Gl 129 [Dr s,I k0] (.ret (.tup [D.c (C.l eI (Fk s k0)),D.c (Ci (Bw (Ct s k0)))]))/\(List.length (A4 k0)+1)*24<=140737488355328/\List.length (A4 k0)+1<=140737488355328/\iR ((k0:Int)+1)/\k0<rows s/\(k0:Int)+1=(↑(k0+1):Int)/\A0=A0/\A0=A0/\l=l/\A2=A2/\l=l/\(0:Nat)=(0:Nat)/\SEq (List.length (A4 k0)+1) (Ar (List.length (A4 k0)) (fun i=>Au (nth (A4 k0) i)) fun i=>List.getD [List.map C.dem [C.s Tag.n (List.length (Fk s k0)) fun i=>eI (nth (Fk s k0) i)]] i []) (List.length (List.take (k0+1) (Dn s))) fun i=>Au (nth (List.take (k0+1) (Dn s)) i))/\(decide ((k0:Int)<(↑(rows s):Int))=false->A0=A0/\0<=A0/\rows s*8<=140737488355328/\rows s<=(140737488355328:Nat)/\iR (A0-1)/\A0-1=A0-1/\(sR eI s.2)/\A2=A2/\(0:Nat)=(0:Nat)/\l=l/\rows s=rows s/\(sR Au (A4 k0))/\(233:Nat)=(233:Nat)/\A2=A2/\(SEq (rows s) (fun x=>vsC [Value.int IntKind.i64 (0:Int)]) (rows s) fun x=>vsC [Value.int IntKind.i64 (0:Int)])/\Does Tryz.prog Y Gl (Gf (Ae s) l (List.length (Ae s))) (233:FuncId) A3 (A9 k0) (.ret (B true)) A5/\True/\List.length (Ae s)=List.length (Ae s)))))) Tryz.func232 (by kernel_rfl) (by kernel_rfl) ?_
 simp only [stdS,imp_self,implies_true,and_true]
 obtain ⟨l1,l2,l3,l4⟩:=Kb hs
 have hrs:=(Kc (l4 0 (by omega))).2.2
 have hll:(Dn s).length=rows s:=by unfold Dn;rw [List.length_map,List.length_range]
 refine ⟨by omega,fun hm=>⟨⟨rfl,rfl,trivial⟩,fun k hk=>⟨fun hd=>?_,fun hd=>?_⟩⟩⟩
 ·have hlt:k<rows s:=by have:=of_decide_eq_true hd;omega
  have ht:((Dn s).take k).length<=6:=by rw [List.length_take];omega
  exact ⟨Aj0 S s k hs hlt,by omega,by omega,(Af _).2 (by omega),hlt,by omega,Jb (by omega) (by rw [Yn hlt];rfl)⟩
 ·have hke:k=rows s:=by have:=of_decide_eq_false hd;omega
  exact ⟨by omega,by omega,by omega,(Af _).2 (by omega),Ass S s l k hs hke,trivial⟩
theorem Asu {Gl} (S:SP Gl) (s:Sheet):CO Gl 130 [Dr s] (.ret (.fn 232 [] [.d (.c (.p (Cg s)))])):=by
 refine Acr S (t:=2) (id:=1) .nil Tryz.func130 (by kernel_rfl) Tryz.results130 (by decide) (by decide) (T.fn 232 [] [.addr 1 0]=T.fn 232 [] [.addr 1 0]/\live=live/\(.d (.c (.l Au s.cols)):T)=.d (.c (.l Au s.cols))/\(.d (.c (.l eI s.errs)):T)=.d (.c (.l eI s.errs))/\True) (by kernel_rfl) ?_
 exact ⟨rfl,rfl,rfl,rfl,trivial⟩
def Cw (P:List (List Int)) (p:Nat) (key:List Int):Bool:=(P.take p).any fun c=>(List.range c.length).any fun i=>key==[(i:Int),nth c i]
def Dj (P:List (List Int)) (p k:Nat) (key:List Int):Bool:=Cw P p key||(List.range k).any fun i=>key==[(i:Int),nth (nth P p) i]
def rowD (k:Nat) (key:List Int):Bool:=(List.range k).any fun i=>key==[(i:Int)]
def Ll (key:List Int):Nat:=(key.headD 0).toNat
def Qo (s:Sheet) (r:Nat):Int:=Bw (Ct s r)
def Fm (s:Sheet) (key:List Int):List C:=[Ci (Qo s (Ll key))]
def Fo (s:Sheet) (p:Nat) (key:List Int):Bool:=decide (0<p)&&rowD (rows s) key
def Fd (s:Sheet) (P:List (List Int)) (p:Nat) (key:List Int):Bool:=rowD (rows s) key&&(P.take p).any fun c=>nth c (Ll key)==Qo s (Ll key)
def Fp (s:Sheet) (p k:Nat) (key:List Int):Bool:=Fo s p key||rowD k key
def Eh (s:Sheet) (P:List (List Int)) (p k:Nat) (key:List Int):Bool:=Fd s P p key||(rowD k key&&nth (nth P p) (Ll key)==Qo s (Ll key))
def cBook (s:Sheet) (P:List (List Int)):List C:=[.l Au s.cols,.l eI s.errs,.l Au P,.m 2 false (Cw P P.length) (fun key=>[Cb (Cw P P.length key)]),.m 0 false (Fo s P.length) (fun key=>[Cb (Fd s P P.length key)])]
def Ajb:List C:=[.v (.slice none 0 0),.v (.slice none 0 0),.v (.slice none 0 0),.v (.map none),.v (.map none)]
def readE (s:Sheet) (P:List (List Int)) (p k o:Nat):Env:=
 v 4 (ad 4)::v 6 (ad 6)::v 7 (ad 7)::v 100004 (ad 4)::v 100006 (ad 6)::v 100007 (ad 7)::tk 100 22::(2,6,live)::(9,0,L Au s.cols)::(9,1,L eI s.errs)::(9,2,Lt 100 Au (P.take p))::(9,3,.mp 16)::(9,4,.mp 17)::(2,7,live)::(10,0,.mp 19)::
 (2,16,.mapc false 2 false (Dj P (p - 1) k) fun key=>[Cb (Dj P (p - 1) k key)])::(2,17,.mapc false 0 false (Fp s (p - 1) k) fun key=>[Cb (Eh s P (p - 1) k key)])::(2,19,.mapc false 0 false (rowD o) (Fm s))::bx 4 Ajb
def Ajc (s:Sheet) (P:List (List Int)) (p o:Nat):Env:=
 v 4 (ad 4)::v 6 (ad 6)::v 7 (ad 7)::tk 100 22::(2,6,live)::(9,0,L Au s.cols)::(9,1,L eI s.errs)::(9,2,Lt 100 Au (P.take p))::(9,3,.mp 16)::(9,4,.mp 17)::(2,7,live)::(10,0,.mp 19)::
 (2,16,.mapc false 2 false (Cw P p) fun key=>[Cb (Cw P p key)])::(2,17,.mapc false 0 false (Fo s p) fun key=>[Cb (Fd s P p key)])::(2,19,.mapc false 0 false (rowD o) (Fm s))::bx 4 Ajb
theorem Asv {Gl} (S:SP Gl) (s:Sheet) (l:Nat) (hs:s.ok=true):Does Tryz.prog Y Gl (Gf (Ae s) l (Ae s).length) 232 [.yl l,.d (.c (.p (Cg s)))] [(0,BIG,.tr 0)] (.ret (.tup [])) [(0,BIG,.tr (min (Ae s).length ((Ae s).length+1)))]:=by
 have e:min (Ae s).length ((Ae s).length+1)=(Ae s).length:=by omega
 rw [e]
 exact Ast S s l hs
theorem Adm (k:Nat) (key:List Int):rowD (k+1) key=(rowD k key||key==[(k:Int)]):=by
 unfold rowD
 rw [List.range_succ,List.any_append]
 simp
theorem Ajd {k:Nat} {key:List Int}:rowD k key=true↔∃ i:Nat,i<k/\key=[(i:Int)]:=by
 unfold rowD
 rw [List.any_eq_true]
 exact ⟨fun ⟨i,h1,h2⟩=>⟨i,List.mem_range.1 h1,eq_of_beq h2⟩,fun ⟨i,h1,h2⟩=>⟨i,List.mem_range.2 h1,beq_iff_eq.2 h2⟩⟩
theorem Adn {k i:Nat} (h:i<k):rowD k [(i:Int)]=true:=Ajd.2 ⟨i,h,rfl⟩
theorem Asw (k:Nat):rowD k [(k:Int)]=false:=by
 rw [Bool.eq_false_iff]
 intro h
 obtain ⟨i,h1,h2⟩:=Ajd.1 h
 have:(k:Int)=(i:Int):=(List.cons.inj h2).1
 omega
theorem Asx (k:Nat):Ll [(k:Int)]=k:=rfl
theorem Ado (P:List (List Int)) (p k:Nat) (key:List Int):Dj P p (k+1) key=(Dj P p k key||key==[(k:Int),nth (nth P p) k]):=by
 unfold Dj
 rw [List.range_succ,List.any_append,Bool.or_assoc]
 simp
theorem Aje (P:List (List Int)) (p:Nat) (key:List Int):Dj P p 0 key=Cw P p key:=by
 unfold Dj
 rw [show List.range 0=[] from rfl]
 simp
theorem Ajf {P:List (List Int)} {p:Nat} (hp:p<P.length) (key:List Int):Dj P p (nth P p).length key=Cw P (p+1) key:=by
 unfold Dj Cw
 rw [Lf hp,List.any_append]
 simp
theorem Adp (dom:List Int->Bool) (key k:List Int):Ca dom key k=(dom k||k==key):=by
 rw [Bool.eq_iff_iff,Gw,Bool.or_eq_true,beq_iff_eq]
 exact ⟨fun h=>h.symm,fun h=>h.symm⟩
theorem Bt {dom:List Int->Bool} {val:List Int->List C}:MEq dom val dom val:=fun _=>⟨rfl,fun _=>.inl rfl⟩
theorem Kf {dom dom':List Int->Bool} {val val':List Int->List C} (h1:∀ k,dom k=dom' k) (h2:∀ k,dom k=true->val k=val' k):MEq dom val dom' val':=fun k=>⟨h1 k,fun h=>.inl (h2 k h)⟩
theorem Asy (s:Sheet) (k:Nat):MEq (Ca (rowD k) [(k:Int)]) (Dl (Fm s) [(k:Int)] (List.map C.dem [C.v (Value.int IntKind.i64 (Bw (Ct s k)))])) (rowD (k+1)) (Fm s):=
 Kf (fun key=>by rw [Adp,Adm]) fun key _=>by
  rw [Nu]
  split
  ·rename_i h;subst h;rfl
  ·rfl
theorem Asz (P:List (List Int)) (p:Nat):MEq (Cw P p) (fun key=>[Cb (Cw P p key)]) (Dj P p 0) fun key=>[Cb (Dj P p 0 key)]:=
 Kf (fun key=>(Aje P p key).symm) fun key _=>by rw [Aje]
theorem At0 (P:List (List Int)) (p k:Nat):MEq (Ca (Dj P p k) [(k:Int),nth (nth P p) k]) (Dl (fun key=>[Cb (Dj P p k key)]) [(k:Int),nth (nth P p) k] (List.map C.dem [C.v (Value.bool true)])) (Dj P p (k+1)) fun key=>[Cb (Dj P p (k+1) key)]:=
 Kf (fun key=>by rw [Adp,Ado]) fun key _=>by
  rw [Nu]
  split
  ·rename_i h
   subst h
   rw [Ado,beq_self_eq_true,Bool.or_true]
   rfl
  ·rename_i h
   rw [Ado,beq_eq_false_iff_ne.2 h,Bool.or_false]
theorem At1 {P:List (List Int)} {p:Nat} (hp:p<P.length):MEq (Dj P p (nth P p).length) (fun key=>[Cb (Dj P p (nth P p).length key)]) (Cw P (p+1)) fun key=>[Cb (Cw P (p+1) key)]:=
 Kf (fun key=>Ajf hp key) fun key _=>by rw [Ajf hp]
theorem At2 (s:Sheet) (P:List (List Int)) (p:Nat) (key:List Int):Eh s P p 0 key=Fd s P p key:=by
 unfold Eh
 rw [show rowD 0 key=false from rfl,Bool.false_and,Bool.or_false]
theorem At3 (s:Sheet) (p:Nat) (key:List Int):Fp s p 0 key=Fo s p key:=by
 unfold Fp
 rw [show rowD 0 key=false from rfl,Bool.or_false]
theorem At4 (s:Sheet) (P:List (List Int)) (p:Nat):MEq (Fo s p) (fun key=>[Cb (Fd s P p key)]) (Fp s p 0) fun key=>[Cb (Eh s P p 0 key)]:=
 Kf (fun key=>(At3 s p key).symm) fun key _=>by rw [At2]
theorem Ajg (s:Sheet) (P:List (List Int)) (p k:Nat):Eh s P p k [(k:Int)]=Fd s P p [(k:Int)]:=by
 unfold Eh
 rw [Asw,Bool.false_and,Bool.or_false]
theorem At5 (s:Sheet) (P:List (List Int)) (p k:Nat):MEq (Ca (Fp s p k) [(k:Int)]) (Dl (fun key=>[Cb (Eh s P p k key)]) [(k:Int)] (List.map C.dem [C.v (Value.bool (bif Eh s P p k [(k:Int)] then true else nth (nth P p) k==Qo s (Ll [(k:Int)])))])) (Fp s p (k+1)) fun key=>[Cb (Eh s P p (k+1) key)]:=
 Kf (fun key=>by unfold Fp;rw [Adp,Adm,Bool.or_assoc]) fun key _=>by
  rw [Nu]
  split
  ·rename_i h
   subst h
   rw [Ajg,Yf]
   unfold Eh
   rw [Adn (Nat.lt_succ_self k),Bool.true_and,Asx]
   rfl
  ·rename_i h
   unfold Eh
   rw [Adm,beq_eq_false_iff_ne.2 h,Bool.or_false]
theorem At6 {s:Sheet} {P:List (List Int)} {p:Nat} (hp:p<P.length) (hl:(nth P p).length=rows s):MEq (Fp s p (nth P p).length) (fun key=>[Cb (Eh s P p (nth P p).length key)]) (Fo s (p+1)) fun key=>[Cb (Fd s P (p+1) key)]:=by
 rw [hl]
 refine Kf (fun key=>?_) fun key _=>?_
 ·unfold Fp Fo
  rw [decide_eq_true (show 0<p+1 by omega),Bool.true_and]
  cases decide (0<p)<;>cases rowD (rows s) key<;>rfl
 ·unfold Eh Fd
  rw [Lf hp,List.any_append]
  cases rowD (rows s) key<;>simp
theorem At7 {s:Sheet} {P:List (List Int)} {p k:Nat} (hk:k<rows s) (h:Fp s p k [(k:Int)]=false):Eh s P p k [(k:Int)]=false:=by
 unfold Fp Fo at h
 rw [Adn hk,Bool.and_true,Bool.or_eq_false_iff,decide_eq_false_iff_not] at h
 have hp:p=0:=by omega
 rw [Ajg]
 unfold Fd
 rw [hp,List.take_zero]
 simp
theorem At8 {Gl} (S:SP Gl) (s:Sheet) (hs:s.ok=true) (h0:0<(Ae s).length):CO Gl 54 [Dr s,B true] (.ret (.tup [.agg (cBook s (Ae s)),.c (Ci 0)])):=by
 refine Ao S (let A0:=fun (k1 k2:Nat)=>(Eh s (Ae s) (k1+(1:Nat)-(1:Nat)) k2 [(k2:Int)]);let A1:=(List.length (Ae s));let A2:=fun (k1:Nat)=>(k1+(1:Nat)-(1:Nat));let A3:=fun (k1:Nat)=>(nth (Ae s) k1);let A4:=(MEq (Cw (Ae s) (0:Nat)) (fun key=>[Cb (Cw (Ae s) (0:Nat) key)]) (Cw (Ae s) (0:Nat)) fun key=>[Cb (Cw (Ae s) (0:Nat) key)]);let A5:=(MEq (Fo s (0:Nat)) (fun key=>[Cb (Fd s (Ae s) (0:Nat) key)]) (Fo s (0:Nat)) fun key=>[Cb (Fd s (Ae s) (0:Nat) key)]);let A6:=fun (k1 k2:Nat)=>(eqB (A0 k1 k2) false=true->eqB (A0 k1 k2) false=true);let A7:=fun (k1:Nat)=>(↑(List.length (A3 k1)):Int);let A8:=(sR Au s.1);let A9:=(rowD (rows s));let A10:=(List.take A1 (Ae s));let A11:=(sR eI s.2);let A12:=(T.fn (232:FuncId) [] [T.d (D.c (C.p (Cg s)))]);let A13:=fun (k1:Nat)=>(List.take k1 (Ae s));((.ff (.loop (rows s) (fun k=>v 25 (I k)::v 24 (I (↑(rows s):Int))::v 2 (ad 2)::(bx 2 (Cg s)++Ajc s (Ae s) (0:Nat) k)) fun k0=>.br (.r (.ret (.tup [D.c (C.l eI (Fk s k0)),D.c (Ci (Bw (Ct s k0)))])) .nil) (.r (.ret A12) (.rf A1 A1 (fun p=>[L eI (nth (Ae s) p)]) (fun p=>Ajc s (Ae s) p (rows s)) (fun k1=>.loop (List.length (A3 k1)) (fun k=>v 48 (I k)::v 47 (I (A7 k1))::v 46 (L eI (A3 k1))::readE s (Ae s) (k1+1) k (rows s)) fun k2=>.br .nil .nil) (.br .nil .nil))))),(false=false/\((0:Int)<=0/\0<(s.1.length:Int))/\(List.length (nth s.1 (Int.toNat (0:Int)))<=maxLen->(0=(↑(0:Nat):Int)/\(↑(List.length (nth s.1 (Int.toNat (0:Int)))):Int)=(↑(rows s):Int)/\A8/\A11/\A8/\A11/\(0:Nat)=(0:Nat)/\(MEq (fun x=>false) (fun x=>vsC [Value.bool false]) (Cw (Ae s) (0:Nat)) fun key=>[Cb (Cw (Ae s) (0:Nat) key)])/\(MEq (fun x=>false) (fun x=>vsC [Value.bool false]) (Fo s (0:Nat)) fun key=>[Cb (Fd s (Ae s) (0:Nat) key)])/\MEq (fun x=>false) (fun x=>vsC [Value.int IntKind.i64 (0:Int)]) (rowD (0:Nat)) (Fm s)/\Value.slice none 0 0=Value.slice none 0 0/\Value.slice none 0 0=Value.slice none 0 0/\Value.slice none 0 0=Value.slice none 0 0/\Value.map none=Value.map none/\Value.map none=Value.map none)/\∀ (k0:Nat),k0<=rows s->(decide ((k0:Int)<(↑(rows s):Int))=true->CO Gl 129 [Dr s,I k0] (.ret (.tup [D.c (C.l eI (Fk s k0)),D.c (Ci (Bw (Ct s k0)))]))/\iR ((k0:Int)+1)/\k0<rows s/\(k0:Int)+1=(↑(k0+1):Int)/\(↑(rows s):Int)=(↑(rows s):Int)/\A8/\A11/\A8/\A11/\(sR Au (List.take (0:Nat) (Ae s)))/\A4/\A5/\MEq (Ca (rowD k0) [(k0:Int)]) (Dl (Fm s) [(k0:Int)] (List.map C.dem [C.v (Value.int IntKind.i64 (Bw (Ct s k0)))])) (rowD (k0+1)) (Fm s)/\Value.slice none 0 0=Value.slice none 0 0/\Value.slice none 0 0=Value.slice none 0 0/\Value.slice none 0 0=Value.slice none 0 0/\Value.map none=Value.map none/\Value.map none=Value.map none)/\(decide ((k0:Int)<(↑(rows s):Int))=false->CO Gl 130 [Dr s] (.ret A12)/\Yd.m yd0=(0:Nat)/\Pi (Does Tryz.prog Y Gl) (232:Nat) [] [T.d (D.c (C.p [C.l Au s.1,C.l eI s.2]))] (fun l=>Yd.mk l A1 A1 fun p=>[L eI (nth (Ae s) p)]) A1 A1/\(A8/\A11/\(sR Au (List.take (0:Nat) (Ae s)))/\A4/\A5/\MEq (rowD k0) (Fm s) A9 (Fm s)/\Value.slice none 0 0=Value.slice none 0 0/\Value.slice none 0 0=Value.slice none 0 0/\Value.slice none 0 0=Value.slice none 0 0/\Value.map none=Value.map none/\Value.map none=Value.map none)/\(∀ (k1:Nat),k1<List.length (Ae s)->k1<=List.length (Ae s)->(List.length (A13 k1)+1)*24<=140737488355328/\List.length (A13 k1)+1<=140737488355328/\(List.length (A3 k1)<=maxLen->(0=(↑(0:Nat):Int)/\(A7 k1)=(A7 k1)/\(sR eI (A3 k1))/\A8/\A11/\(SEq (List.length (A13 k1)+1) (Ar (List.length (A13 k1)) (fun i=>Au (nth (A13 k1) i)) fun i=>List.getD [List.map C.dem [C.s Tag.n (List.length (A3 k1)) fun i=>eI (nth (A3 k1) i)]] i []) (List.length (List.take (k1+1) (Ae s))) fun i=>Au (nth (List.take (k1+1) (Ae s)) i))/\(MEq (Cw (Ae s) k1) (fun key=>[Cb (Cw (Ae s) k1 key)]) (Dj (Ae s) (A2 k1) (0:Nat)) fun key=>[Cb (Dj (Ae s) (A2 k1) (0:Nat) key)])/\(MEq (Fo s k1) (fun key=>[Cb (Fd s (Ae s) k1 key)]) (Fp s (A2 k1) (0:Nat)) fun key=>[Cb (Eh s (Ae s) (A2 k1) (0:Nat) key)])/\MEq A9 (Fm s) A9 (Fm s)/\Value.slice none 0 0=Value.slice none 0 0/\Value.slice none 0 0=Value.slice none 0 0/\Value.slice none 0 0=Value.slice none 0 0/\Value.map none=Value.map none/\Value.map none=Value.map none)/\∀ (k2:Nat),k2<=List.length (A3 k1)->(decide ((k2:Int)<(↑(List.length (nth (Ae s) k1)):Int))=true->(0<=(k2:Int)/\(k2:Int)<(A7 k1))/\(Fp s (A2 k1) k2 [(k2:Int)]=false->[C.v (Value.bool (A0 k1 k2))]=[C.v (Value.bool false)])/\(A6 k1 k2)/\(A6 k1 k2)/\(eqB (A0 k1 k2) false=true->rowD (rows s) [(k2:Int)]=false->[C.v (Value.int IntKind.i64 (Qo s (Ll [(k2:Int)])))]=[C.v (Value.int IntKind.i64 (0:Int))])/\(A6 k1 k2)/\(A6 k1 k2)/\(Eh s (Ae s) (A2 k1) k2 [(k2:Int)]=false->eqB (A0 k1 k2) false=true)/\iR ((k2:Int)+1)/\k2<List.length (A3 k1)/\(k2:Int)+1=(↑(k2+1):Int)/\(A7 k1)=(A7 k1)/\(sR eI (A3 k1))/\A8/\A11/\(sR Au (List.take (k1+1) (Ae s)))/\(MEq (Ca (Dj (Ae s) (A2 k1) k2) [(k2:Int),nth (A3 k1) k2]) (Dl (fun key=>[Cb (Dj (Ae s) (A2 k1) k2 key)]) [(k2:Int),nth (A3 k1) k2] (List.map C.dem [C.v (Value.bool true)])) (Dj (Ae s) (A2 k1) (k2+1)) fun key=>[Cb (Dj (Ae s) (A2 k1) (k2+1) key)])/\(MEq (Ca (Fp s (A2 k1) k2) [(k2:Int)]) (Dl (fun key=>[Cb (Eh s (Ae s) (A2 k1) k2 key)]) [(k2:Int)] (List.map C.dem [C.v (Value.bool (bif Eh s (Ae s) (A2 k1) k2 [(k2:Int)] then true else nth (A3 k1) k2==Qo s (Ll [(k2:Int)])))])) (Fp s (A2 k1) (k2+1)) fun key=>[Cb (Eh s (Ae s) (A2 k1) (k2+1) key)])/\MEq A9 (Fm s) A9 (Fm s)/\Value.slice none 0 0=Value.slice none 0 0/\Value.slice none 0 0=Value.slice none 0 0/\Value.slice none 0 0=Value.slice none 0 0/\Value.map none=Value.map none/\Value.map none=Value.map none)/\(decide ((k2:Int)<(↑(List.length (nth (Ae s) k1)):Int))=false->k1<List.length (Ae s)/\A8/\A11/\(sR Au (List.take (k1+1) (Ae s)))/\(MEq (Dj (Ae s) (A2 k1) k2) (fun key=>[Cb (Dj (Ae s) (A2 k1) k2 key)]) (Cw (Ae s) (k1+1)) fun key=>[Cb (Cw (Ae s) (k1+1) key)])/\(MEq (Fp s (A2 k1) k2) (fun key=>[Cb (Eh s (Ae s) (A2 k1) k2 key)]) (Fo s (k1+1)) fun key=>[Cb (Fd s (Ae s) (k1+1) key)])/\MEq A9 (Fm s) A9 (Fm s)/\Value.slice none 0 0=Value.slice none 0 0/\Value.slice none 0 0=Value.slice none 0 0/\Value.slice none 0 0=Value.slice none 0 0/\Value.map none=Value.map none/\Value.map none=Value.map none)))/\(List.length (Ae s)<=List.length (Ae s)->List.length A10<=maxLen->(((↑(List.length A10):Int)==0)=true->s.1.length=(0:Nat)/\s.2.length=(0:Nat)/\List.length (Ae s)=(0:Nat)/\False/\False/\(5:Int)=0)/\(((↑(List.length A10):Int)==0)=false->A8/\A11/\(sQ Au A10 (Ae s))/\(MEq (Cw (Ae s) A1) (fun key=>[Cb (Cw (Ae s) A1 key)]) (Cw (Ae s) A1) fun key=>[Cb (Cw (Ae s) A1 key)])/\(MEq (Fo s A1) (fun key=>[Cb (Fd s (Ae s) A1 key)]) (Fo s A1) fun key=>[Cb (Fd s (Ae s) A1 key)])/\(0:Int)=0))))))) Tryz.func54 (by kernel_rfl) (by kernel_rfl) ?_
 simp only [stdS,imp_self,implies_true,and_true,Ad0]
 obtain ⟨l1,l2,l3,l4⟩:=Kb hs
 have hrs:=(Kc (l4 0 (by omega))).2.2
 have hlen:∀ k,k<(Ae s).length->(nth (Ae s) k).length=rows s:=fun k hk=>(Arb hs hk).1
 have hall:(Ae s).length<=481890304:=by
  have h1:=Ai3 (s:=s) (fun r=>(Ain hs r).1) (rows s) [] s.errs
  have h2:28 ^ rows s<=28 ^ 6:=Nat.pow_le_pow_right (by decide) (by omega)
  unfold Ae
  omega
 have hm0:MEq (fun _=>false) (fun _=>vsC [Value.bool false]) (Cw (Ae s) 0) fun key=>[Cb (Cw (Ae s) 0 key)]:=Kf (fun _=>rfl) fun _ h=>(by cases h)
 have hm1:MEq (fun _=>false) (fun _=>vsC [Value.bool false]) (Fo s 0) fun key=>[Cb (Fd s (Ae s) 0 key)]:=Kf (fun _=>rfl) fun _ h=>(by cases h)
 have hm2:MEq (fun _=>false) (fun _=>vsC [Value.int IntKind.i64 0]) (rowD 0) (Fm s):=Kf (fun _=>rfl) fun _ h=>(by cases h)
 refine ⟨by omega,fun hm=>⟨⟨rfl,hm0,hm1,hm2,trivial⟩,fun k0 hk0=>⟨fun hd=>?_,fun hd=>?_⟩⟩⟩
 ·have hlt:k0<rows s:=by have:=of_decide_eq_true hd;omega
  exact ⟨Aj0 S s k0 hs hlt,(Af _).2 (by omega),hlt,by omega,Bt,Bt,Asy s k0,trivial⟩
 ·have hke:k0=rows s:=by have:=of_decide_eq_false hd;omega
  subst hke
  refine ⟨Asu S s,fun l=>Asv S s l hs,⟨Bt,Bt,Bt,trivial⟩,fun k1 hk1 _=>?_,fun _ hmx=>?_⟩
  ·have hl1:=hlen k1 hk1
   have ht:((Ae s).take k1).length<=481890304:=by rw [List.length_take];omega
   refine ⟨by omega,by omega,fun hm=>⟨⟨Jb hk1 rfl,Asz _ _,At4 _ _ _,Bt,trivial⟩,fun k2 hk2=>⟨fun hd=>?_,fun hd=>?_⟩⟩⟩
   ·have hlt:k2<(nth (Ae s) k1).length:=by have:=of_decide_eq_true hd;omega
    refine ⟨by omega,fun h=>by rw [At7 (by omega) h],fun _ h=>?_,(Af _).2 (by omega),hlt,by omega,At0 _ _ _,?_,Bt,trivial⟩
    ·rw [Adn (by omega)] at h;cases h
    ·have:=At5 s (Ae s) k1 k2
     rw [Yf] at this
     exact this
   ·have hke:k2=(nth (Ae s) k1).length:=by have:=of_decide_eq_false hd;omega
    subst hke
    exact ⟨hk1,At1 hk1,At6 hk1 hl1,Bt,trivial⟩
  ·rw [List.take_length]
   refine ⟨fun h=>?_,fun _=>⟨Bn rfl,Bt,Bt,trivial⟩⟩
   have:=eq_of_beq h
   omega
end Go.Vc.Zn
namespace Go.Vc
open Go Go.RowKit
section
variable {P:Program} {Y:TypeId->Ty} {a:Act} {w:World} {rd:Option Nat} {fu:Nat}
end
end Go.Vc
namespace Go.Vc.Zn
open Go Go.Proofs Go.Vc Go.RowKit Go.ChangeMaps
open Go Go.Proofs Go.Vc Go.RowKit
def pick (row:Int) (h:List (List Int)):List Int:=(h.filter fun k=>nth k 0==row).map fun k=>nth k 1
def Fe (a b:Int):Int:=bif decide (a<b) then -1 else bif decide (b<a) then 1 else 0
def Ey:List Int->List Int->Int
 | [],[]=>0
 | [],_::_=>-1
 |_::_,[]=>1
 |x::a,y::b=>bif x==y then Ey a b else Fe x y
theorem Ajh:∀ {a b:List Int} {k:Nat},(∀ i,i<k->nth a i=nth b i)->k<a.length->k<b.length->nth a k≠nth b k->Ey a b=Fe (nth a k) (nth b k)
 | [],_,k,_,h,_,_=>by simp at h
 |_::_,[],k,_,_,h,_=>by simp at h
 |x::a,y::b,0,_,_,_,hne=>by
  have h:x≠y:=hne
  unfold Ey
  rw [beq_eq_false_iff_ne.2 h]
  rfl
 |x::a,y::b,k+1,he,h1,h2,hne=>by
  have h0:x=y:=he 0 (by omega)
  unfold Ey
  rw [beq_iff_eq.2 h0]
  exact Ajh (a:=a) (b:=b) (k:=k) (fun i hi=>he (i+1) (by omega)) (by simpa using h1) (by simpa using h2) hne
theorem Ys:∀ {a b:List Int},(∀ i,i<min a.length b.length->nth a i=nth b i)->Ey a b=bif decide (a.length<b.length) then -1 else bif decide (b.length<a.length) then 1 else 0
 | [],[],_=>rfl
 | [],_::_,_=>by simp [Ey]
 |_::_,[],_=>by simp [Ey]
 |x::a,y::b,h=>by
  have h0:x=y:=h 0 (by simp)
  unfold Ey
  rw [beq_iff_eq.2 h0,cond_true,Ys (a:=a) (b:=b) fun i hi=>h (i+1) (by simp only [List.length_cons];omega)]
  simp
theorem Aji:∀ a b:List Int,decide (Ey a b<0)=ltL a b
 | [],[]=>rfl
 | [],_::_=>rfl
 |_::_,[]=>rfl
 |x::a,y::b=>by
  unfold Ey ltL
  cases h:x==y
  ·simp only [cond_false]
   have hne:x≠y:=by intro h2;subst h2;simp at h
   unfold Fe
   by_cases h1:x<y
   ·rw [decide_eq_true h1];rfl
   ·rw [decide_eq_false h1,decide_eq_true (show y<x by omega)];rfl
  ·simp only [cond_true]
   exact Aji a b
theorem Ajj {Gl} (S:SP Gl) (n:Int):CO Gl 235 [I n] (.ret (B false)):=by
 refine An S (.nil) Tryz.func235 (by kernel_rfl) ((n != n)=false) (by kernel_rfl) ?_
 exact bne_self_eq_false n
theorem At9 {Gl} (S:SP Gl) (a b:Int):CO Gl 134 [I a,I b] (.ret (I (Fe a b))):=by
 refine An S (.r (.ret (B false)) (.r (.ret (B false)) (.ff (.ff (.br .nil (.br .nil .nil)))))) Tryz.func134 (by kernel_rfl) (CO Gl 235 [I a] (.ret (B false))/\CO Gl 235 [I b] (.ret (B false))/\false=false/\false=false/\(decide (a<b)=true->(-1:Int)=Fe a b)/\(decide (a<b)=false->(decide (b<a)=true->(1:Int)=Fe a b)/\(decide (b<a)=false->(0:Int)=Fe a b))) (by kernel_rfl) ?_
 unfold Fe
 exact ⟨Ajj S a,Ajj S b,rfl,rfl,fun h=>by rw [h];rfl,fun h=>⟨fun h2=>by rw [h,h2];rfl,fun h2=>by rw [h,h2];rfl⟩⟩
theorem Ata {Gl} (S:SP Gl) (a b:List Int):CO Gl 58 [L eI a,L eI b] (.ret (I (Ey a b))):=by
 refine An S (.loop (sameTo a b) (fun k=>[v 11 (I k),v 10 (I a.length),v 9 (L eI a),v 0 (L eI a),v 1 (L eI b)]) fun k0=>.br (.br .nil (.r (.ret (I (Fe (nth a k0) (nth b k0)))) (.br .nil .nil))) (.br .nil .nil)) Tryz.func58 (by kernel_rfl) (a.length<=maxLen->(0=(↑(0:Nat):Int)/\(a.length:Int)=(a.length:Int)/\(sR eI a)/\(sR eI a)/\sR eI b)/\∀ (k0:Nat),k0<=sameTo a b->(decide ((k0:Int)<(a.length:Int))=true->(0<=(k0:Int)/\(k0:Int)<(a.length:Int))/\(b.length<=maxLen->(decide ((b.length:Int)<=(k0:Int))=true->(1:Int)=Ey a b)/\(decide ((b.length:Int)<=(k0:Int))=false->(0<=(k0:Int)/\(k0:Int)<(b.length:Int))/\CO Gl 134 [I (nth a k0),I (nth b k0)] (.ret (I (Fe (nth a k0) (nth b k0))))/\((Fe (nth a k0) (nth b k0) != (0:Int))=true->Fe (nth a k0) (nth b k0)=Ey a b)/\((Fe (nth a k0) (nth b k0) != (0:Int))=false->iR ((k0:Int)+1)/\k0<sameTo a b/\(k0:Int)+1=(↑(k0+1):Int)/\(a.length:Int)=(a.length:Int)/\(sR eI a)/\(sR eI a)/\sR eI b))))/\(decide ((k0:Int)<(a.length:Int))=false->a.length<=maxLen->b.length<=maxLen->(decide ((a.length:Int)<(b.length:Int))=true->(-1:Int)=Ey a b)/\(decide ((a.length:Int)<(b.length:Int))=false->(0:Int)=Ey a b))) (by kernel_rfl) ?_
 simp only [stdS,imp_self,implies_true,and_true,decide_eq_true_eq,decide_eq_false_iff_not,Bi,Af]
 have hmin:(List.range (min a.length b.length)).length=min a.length b.length:=List.length_range
 have hle:sameTo a b<=min a.length b.length:=by have:=Lg (p:=fun i=>nth a i==nth b i) (l:=List.range (min a.length b.length));unfold sameTo;omega
 have hbef:∀ k,k<=sameTo a b->∀ i,i<k->nth a i=nth b i:=fun k hk i hi=>by
  have h1:i<(List.range (min a.length b.length)).length:=Nat.lt_of_lt_of_le (Nat.lt_of_lt_of_le hi hk) Lg
  have:=Jy (p:=fun i=>nth a i==nth b i) (l:=List.range (min a.length b.length)) (i:=i) (by unfold sameTo at hk;omega)
  rw [Cr (by omega)] at this
  exact eq_of_beq this
 have hne:∀ x y:Int,x≠y->Fe x y≠0:=fun x y h=>by
  unfold Fe
  by_cases h1:x<y
  ·rw [decide_eq_true h1,cond_true];omega
  ·rw [decide_eq_false h1,decide_eq_true (show y<x by omega),cond_false,cond_true];omega
 have heq:∀ x:Int,Fe x x=0:=fun x=>by
  unfold Fe
  rw [decide_eq_false (show ¬ x<x by omega)];rfl
 refine fun hm k hk=>⟨fun hl=>⟨by omega,fun hmb=>⟨fun hb=>?_,fun hb=>⟨by omega,At9 S _ _,fun h=>?_,fun h=>⟨by omega,Id hk (by omega) ?_,by omega,trivial⟩⟩⟩⟩,fun hl _ _=>⟨fun hb=>?_,fun hb=>?_⟩⟩
 ·rw [Ys fun i hi=>hbef k hk i (by omega),decide_eq_false (show ¬ a.length<b.length by omega),decide_eq_true (show b.length<a.length by omega)];rfl
 ·refine (Ajh (hbef k hk) (by omega) (by omega) ?_).symm
  intro he
  rw [he,heq] at h
  exact absurd h (by decide)
 ·rw [Cr (by omega)]
  by_cases he:nth a k=nth b k
  ·simp [he]
  ·have:=hne _ _ he
   simp at h
   exact absurd h this
 ·rw [Ys fun i hi=>hbef k hk i (by omega),decide_eq_true (show a.length<b.length by omega)];rfl
 ·rw [Ys fun i hi=>hbef k hk i (by omega),decide_eq_false (show ¬ a.length<b.length by omega),decide_eq_false (show ¬ b.length<a.length by omega)];rfl
theorem Atb {Gl} (S:SP Gl) (a b:List Int):CO Gl 57 [L eI a,L eI b] (.ret (B (ltL a b))):=by
 refine An S (.r (.ret (I (Ey a b))) .nil) Tryz.func57 (by kernel_rfl) (CO Gl 58 [L eI a,L eI b] (.ret (I (Ey a b)))/\decide (Ey a b<(0:Int))=ltL a b) (by kernel_rfl) ?_
 exact ⟨Ata S a b,Aji a b⟩
theorem Atc {Gl} (S:SP Gl) (l:List (List Int)) (h:0<l.length):CO Gl 56 [.d (.c (.l Au l)),.fn 57 [] []] (.ret (L eI (Cd ltL l))):=by
 refine Ao S (let A0:=(List.drop (1:Nat) l);let A1:=(l.length:Int);let A2:=fun (k0:Nat)=>(bestTo ltL l k0);((.loop (List.length l-(1:Nat)) (fun k=>[v 14 (I k),v 13 (I (A1-1)),v 12 (T.d (D.c (C.l Au A0))),v 1 (T.fn (57:FuncId) [] []),v 5 (L eI (bestTo ltL l k))]) fun k0=>.br (.r (.ret (B (ltL (nth A0 k0) (A2 k0)))) (.br .nil .nil)) .nil),(((0:Int)<=0/\0<A1)/\((0:Int)<=1/\1<=A1/\A1<=A1)/\(Int.toNat (A1-1)<=maxLen->(0=(↑(0:Nat):Int)/\(↑(Int.toNat (A1-1)):Int)=A1-1/\(SEq (Int.toNat (A1-1)) (fun i=>Au (nth l (Int.toNat (1:Int)+i))) (List.length A0) fun i=>Au (nth A0 i))/\(57:Nat)=(57:Nat)/\sQ eI (nth l (Int.toNat (0:Int))) (bestTo ltL l (0:Nat)))/\∀ (k0:Nat),k0<=List.length l-(1:Nat)->(decide ((k0:Int)<(l.length:Int)-1)=true->(0<=(k0:Int)/\(k0:Int)<(↑(List.length A0):Int))/\CO Gl 57 [L eI (nth A0 k0),L eI (A2 k0)] (.ret (B (ltL (nth A0 k0) (A2 k0))))/\(ltL (nth A0 k0) (A2 k0)=true->iR ((k0:Int)+1)/\k0<List.length l-(1:Nat)/\(k0:Int)+1=(↑(k0+1):Int)/\A1-1=A1-1/\(sR Au A0)/\(57:Nat)=(57:Nat)/\sQ eI (nth A0 k0) (bestTo ltL l (k0+1)))/\(ltL (nth A0 k0) (A2 k0)=false->iR ((k0:Int)+1)/\k0<List.length l-(1:Nat)/\(k0:Int)+1=(↑(k0+1):Int)/\A1-1=A1-1/\(sR Au A0)/\(57:Nat)=(57:Nat)/\sQ eI (A2 k0) (bestTo ltL l (k0+1))))/\(decide ((k0:Int)<(l.length:Int)-1)=false->sQ eI (A2 k0) (Cd ltL l)))))) Tryz.func56 (by kernel_rfl) (by kernel_rfl) ?_
 simp only [stdS,imp_self,implies_true,and_true,decide_eq_true_eq,decide_eq_false_iff_not,Bi,Af]
 have hd:(l.drop 1).length=l.length - 1:=List.length_drop
 have hn:∀ k,nth (l.drop 1) k=nth l (k+1):=fun k=>by rw [Qh,Nat.add_comm]
 have hst:∀ k,bestTo ltL l (k+1)=bif ltL (nth l (k+1)) (bestTo ltL l k) then nth l (k+1) else bestTo ltL l k:=fun k=>rfl
 refine ⟨by omega,by omega,fun hm=>⟨⟨by omega,.of ⟨by omega,fun i _=>congrArg Au (Qh (l:=l) (i:=i) (k:=1)).symm⟩,Bn rfl⟩,fun k hk=>⟨fun hl=>⟨by omega,Atb S _ _,fun hb=>⟨by omega,by omega,by omega,?_⟩,fun hb=>⟨by omega,by omega,by omega,?_⟩⟩,fun hl=>?_⟩⟩⟩
 ·rw [hn] at hb ⊢
  rw [hst,hb]
  exact Bn rfl
 ·rw [hn] at hb
  rw [hst,hb]
  exact Bn rfl
 ·have:k=l.length - 1:=by omega
  subst this
  exact Bn rfl
theorem Atd {Gl} (S:SP Gl) (s:Sheet) (hs:s.ok=true):CO Gl 55 [Dr s] (.ret (B true)):=by
 have h:=Ai5 S s
 rw [hs] at h
 exact h
theorem Ate {Gl} (S:SP Gl) (s:Sheet) (hs:s.ok=true) (h0:0<(Ae s).length):CO Gl 17 [Dr s] (.ret (.tup [.c (.l eI (Tm (Ae s))),.c (Ci 0)])):=by
 refine An S (.r (.ret (B true)) (.r (.ret (.tup [D.agg (cBook s (Ae s)),D.c (Ci 0)])) (.ff (.r (.ret (L eI (Cd ltL (Ae s)))) .nil)))) Tryz.func17 (by kernel_rfl) (CO Gl 55 [Dr s] (.ret (B true))/\CO Gl 54 [Dr s,B true] (.ret (.tup [D.agg (cBook s (Ae s)),D.c (Ci 0)]))/\false=false/\CO Gl 56 [T.d (D.c (C.l Au (Ae s))),T.fn (57:FuncId) [] []] (.ret (L eI (Cd ltL (Ae s))))/\(sQ eI (Cd ltL (Ae s)) (Tm (Ae s)))/\(0:Int)=0) (by kernel_rfl) ?_
 exact ⟨Atd S s hs,At8 S s hs h0,rfl,Atc S (Ae s) h0,Bn (Ar9 h0).symm,rfl⟩
end Go.Vc.Zn
