/- A part of the proofs over the layers: the program and the specification; no condition. -/
import Derived.Test.YtknoiciabjockaaGreatMC
import Derived.Deep.Slices
import Derived.Deep.Modes
import Derived.OpenShut
import Derived.RowKit
import Derived.Test.YtknoiciabjockaaGreatProg
import Derived.Test.YtknoiciabjockaaGreatRows
import Derived.ProofKit
import Derived.Deep.DeepHandedRow
import Derived.Lib.LaidTab
import Derived.JoinedOf
import Derived.SevenTiedAt
import Derived.Lib.SlicesCompact
import Derived.Shelf.Small.Bits
import Derived.Shelf.Small.Wraps
import Derived.Shelf.Strconv.Itoa0
import Derived.Shelf.Sort.Plain
import Derived.Ground.Names2Prog
import Derived.Shelf.Slices.Clone
import Derived.Shelf.Slices.CompactI
import Derived.Shelf.Slices.Cells
import Derived.Shelf.Slices.In.SortNone
import Derived.RangeFuncBox
set_option linter.all false
namespace Go
abbrev aB:=@implies_true
abbrev aL:=@imp_self
abbrev aN:=@decide_eq_true_eq
abbrev aR:=@Go.wp_region_list
abbrev bY:=@of_decide_eq_true
abbrev cE:=@Go.wp_seq
abbrev cJ:=@Int.tdiv_eq_ediv_of_nonneg
abbrev cR:=@List.length_range
abbrev cZ:=@Bool.not_eq_false'
abbrev dC:=@Go.Ending.panicked.inj
abbrev dF:=@Go.callsD_of_wpS
abbrev dG:=@Go.wp_cond_false
abbrev dM:=@Go.wp_cond_true
abbrev dN:=@beq_eq_false_iff_ne
abbrev dR:=@List.mem_flatMap
abbrev dS:=@of_decide_eq_false
abbrev dT:=@beq_self_eq_true
abbrev eC:=@Go.World.size_alloc
abbrev eD:=@Int.tmod_eq_emod_of_nonneg
abbrev eE:=@Go.wpS_region
abbrev eR:=@decide_eq_true
abbrev eS:=@Go.wpS_of_wp
abbrev fI:=@Bool.eq_false_iff
abbrev fM:=@Int.mul_nonneg
abbrev fN:=@Go.wp_block
abbrev fO:=@Go.leaves_cons
abbrev fT:=@Bool.eq_iff_iff
abbrev fW:=@List.pairwise_cons
abbrev fY:=@List.getElem?_replicate
abbrev gF:=@Go.Deep.shut_slice_whole_cells
abbrev gG:=@Int.mul_le_mul
abbrev gI:=@Go.wpS_seq
abbrev gL:=@Go.MemPlace.mem_row
abbrev gY:=@Nat.eq_zero_or_pos
abbrev gZ:=@Int.emod_lt_of_pos
abbrev iC:=@Go.World.cells?_some
abbrev iJ:=@List.length_drop
abbrev iL:=@Go.ChangeShapes.trodAll_cons
abbrev iM:=@Int.ofNat_lt
end Go
namespace Go.Vc
open Go Go.ChangeShapes Go.WideShapes Go.Deep Go.RowKit
abbrev all:Nat->Bool:=λ_=>true
def Uh (P:Program) (t:TypeId) (g:List C->Prop):Prop:=
 ∀(H:Type) (enc:TypeId×Value->H) (w:World) (base:Nat) (sp:Nat->Bool) (hd:Bool) (cr:Nat) (cs:List Value) (x:DataW H×List MemPlace),
  DataW.trod enc P w base sp hd cr t cs=some x->∃xs,g xs/\∀vis w',Aw vis w' xs cs
def Ax0 {n:Int} (h:(Lit.int .i64 n).wf=true):inRange .i64 n:=by
 simp only[Lit.wf,aE,aN]at h;exact h
def Ax1 (vis:Nat->Nat) (w:World) (n:Int):Aw vis w [Ci n] [.int .i64 n]:=
 ⟨rfl,λj c v hc hv=>by
  match j,hc,hv with
  |0,hc,hv=>
   obtain rfl:=bS hc;obtain rfl:=bS hv;exact .v _ rfl
  |j+1,hc,_=>cases hc⟩
def Uh.int {P:Program} {t:TypeId} (ht:P.underlying t=some (.int .i64)):Uh P t λxs=>∃n,inRange .i64 n/\xs=[Ci n]:=by
 intro H enc w base sp hd cr cs x h;obtain⟨n,rfl,_,hw⟩:=DataW.trod_int ht h;exact⟨_,⟨n,Ax0 hw,rfl⟩,λvis w'=>Ax1 vis w' n⟩
def Again {H:Type} (enc:TypeId×Value->H) (P:Program) (W:World) (t:TypeId) (cs:List Value) (x:DataW H×List MemPlace):Prop:=
 ∀W' sp,Below W.heap.size W W'->(∀p∈x.2,sp p.block=true)->∃n,DataW.trod enc P W' 0 sp true n t cs=some x
def Po (P:Program) (W:World) (t:TypeId) (v:Value) (G:C->Prop):Prop:=
 ∀(H:Type) (enc:TypeId×Value->H) (cr:Nat) (x:DataW H×List MemPlace),DataW.trod enc P W 0 all true cr t [v]=some x->
  (∃c,G c/\∃K,∀vis,(∀b,b<W.heap.size->K<=vis b)->Rep vis W c v)/\Again enc P W t [v] x
structure Plain (P:Program) (e:TypeId):Prop where
 l:laidOutB P=true
 r:P.readableRec e=true
 row:e<P.types.size
 s:P.slicesRec e=false
 i:P.ifacesRec e=false
 v:P.veiledRec e=false
def Ah6 {W W':World} {B:Nat} (hB:Below B W W') {p:MemPlace} (hp:p.block<B):W.sameAt W' p:=by
 cases p with
 |cell b off=>
  have:=hB.block b hp
  show W'.cell? _=W.cell? _
  grind[World.cell?]
 |map b=>exact hB.block b hp
def Ane {P:Program} {e:TypeId} (hp:Plain P e) {H:Type} {enc:TypeId×Value->H} {W:World} {sp:Nat->Bool} {hd:Bool} {n:Nat} {cs:List Value} {x:DataW H×List MemPlace}
  (h:DataW.trod enc P W 0 sp hd n e cs=some x) {W':World} {sp':Nat->Bool} {qp:Bool} (hB:Below W.heap.size W W'):DataW.trod enc P W' 0 sp' qp n e cs=some x:=
 trod_any hp.l hp.r hp.row hp.s hp.i h (λp qq=>Ah6 hB (DataW.trod_lt n _ _ _ h p qq)) hp.v
def Ax2 {P:Program} {W:World} {b0:Nat} {t e:TypeId} {a:Addr} {len cap:Nat} (ht:P.underlying t=some (.slice e)) (h:Cell.okWide P W .any b0 t (.slice (some a) len cap)):a.spot=none/\a.block<W.heap.size:=by
 unfold Cell.okWide at h;rw[ht]at h;simp only at h;unfold Cell.ok at h;rw[ht]at h;simp only at h;obtain⟨_,hs,row,cells,hsh,_⟩:=h.2.2;grind[World.shape?]
theorem Po.slice {P:Program} {W:World} {b0:Nat} {t e:TypeId} {v:Value} {g:List C->Prop} (ht:P.underlying t=some (.slice e)) (he:Uh P e g) (z8:0<P.cellsOf e) (hp:Plain P e)
  (n6:Cell.okWide P W .any b0 t v):Po P W t v λc=>∃n f,n<=maxLen/\(∀i,i<n->g (f i))/\c=.s .n n f:=by
 intro H enc cr x h;rcases open_slice ht h with ⟨hv,rfl⟩|⟨a,len,cap,m,n,D,Pl,hv,hb,hl,fy,lm,hx,w9⟩
 ·obtain rfl:v=.slice none 0 0:=by grind
  refine⟨⟨_,⟨0,λ_=>[],bV _,λi hi=>absurd hi (aV _),rfl⟩,0,λvis _=>.nil _ _⟩,λW' sp _ _=>?_⟩;have:=shut_slice_nil (enc:=enc) (P:=P) (w:=W') (base:=0) (spare:=sp) (held:=true) ht;trivial
 ·obtain rfl:v=.slice (some a) len cap:=by grind
  obtain⟨hs,mg⟩:=Ax2 ht n6;have hm:m=cap:=by trivial
  subst hm;obtain⟨b,off,spot⟩:=a;simp only at hs mg;subst hs;have fd:∀i,i<m->∃q:List C×List Value,g q.1/\(∀vis w',Aw vis w' q.1 q.2)/\q.2.length=P.cellsOf e/\∀j,j<P.cellsOf e->W.cell? ⟨b,off+i*P.cellsOf e+j,none⟩=q.2[j]?:=by
   intro i hi;obtain⟨az,h1,h2⟩:=w9 i hi;obtain⟨_,i9,e9⟩:=iC h1;obtain⟨xs,hg,hr⟩:=he H enc W 0 all true n az _ h2;refine⟨(xs,az),hg,hr,i9,λj hj=>?_⟩;have:=e9 j hj;rw[add_add,add_plain]at this;rw[Nat.add_assoc];exact this
  obtain⟨q,hq⟩:=choose_lt (α:=List C×List Value) fd;refine⟨⟨_,⟨len,λi=>(q i).1,by omega,λi hi=>(hq i (by omega)).1,rfl⟩,off+len*P.cellsOf e,λvis d8=>?_⟩,λW' sp hB mh=>?_⟩
  ·refine .s _ _ _ b off m (P.cellsOf e) (λi j=>((q i).2[j]?).getD undef) hl fy (λi hi=>?_) (d8 b mg) (λi j c hi hc=>?_) λi j c hi hc=>?_
   ·obtain⟨_,h2,h3,_⟩:=hq i (by omega);have:=(h2 vis W).1;omega
   ·obtain⟨_,h2,h3,h4⟩:=hq i (by omega);have hlt:j<(q i).1.length:=(cA.1 hc).1;have hj:j<(q i).2.length:=by rw[<-(h2 vis W).1];exact hlt
    grind
   ·obtain⟨_,h2,h3,h4⟩:=hq i (by omega);have hlt:j<(q i).1.length:=(cA.1 hc).1;have hj:j<(q i).2.length:=by rw[<-(h2 vis W).1];exact hlt
    have:=(h2 vis W).2 j c _ hc (aQ hj);grind
  ·have mt:∀i,i<m->∃cs n,W'.cells? 0 ((⟨b,off,none⟩:Addr).add (i*P.cellsOf e)) (P.cellsOf e)=some cs/\DataW.trod enc P W' 0 sp true n e cs=some (D i,Pl i):=by
    intro i hi;obtain⟨az,h1,h2⟩:=w9 i hi;refine⟨az,n,World.cells?_carry h1 λp hp=>?_,Ane hp h2 hB⟩;obtain⟨j,_,rfl⟩:=gL.1 hp;refine Ah6 hB ?_
    show (Addr.add _ _).block<_
    unfold Addr.add;grind
   subst hx;cases rh:sp b with
   |true=>
    exact gF ht hb hl fy rh D Pl mt
   |false=>
    have h0:m=0:=by
     rcases gY m with h|h
     ·exact h
     ·have:(MemPlace.cell b off)∈(MemPlace.row (⟨b,off,none⟩:Addr) (m*P.cellsOf e)++(List.range m).flatMap Pl):=by
       refine aJ _ (gL.2 ⟨0,Nat.mul_pos h z8,rfl⟩)
      have:=mh _ this;rw[show (MemPlace.cell b off).block=b from rfl,rh]at this;cases this
    subst h0;obtain rfl:len=0:=by omega
    obtain⟨k,hk⟩:=shut_slice_cells (enc:=enc) (P:=P) (w:=W') (base:=0) (spare:=sp) (held:=true) (t:=t) (e:=e) (a:=⟨b,off,none⟩) (len:=0) (cap:=0) ht hb (aI _) fy rh D Pl (λi hi=>absurd hi (aV _));grind
def Rl (P:Program) (W:World) (t:TypeId) (v:Value) (G:T->Prop):Prop:=
 ∀(H:Type) (enc:TypeId×Value->H) (d:DataW H) (ps:List MemPlace),DataW.Trod enc P W 0 all true t v d ps->
  (∃x,G x/\∃K,∀vis,(∀b,b<W.heap.size->K<=vis b)->Aa (Gh0 vis) W (Lo W.heap.size) x v)/\
  ∀W' sp,Below W.heap.size W W'->(∀p∈ps,sp p.block=true)->DataW.Trod enc P W' 0 sp true t v d ps
def Po.arg {P:Program} {W:World} {t:TypeId} {v:Value} {G:C->Prop} (h:Po P W t v G) (hv:v.cells.toList=[v]):Rl P W t v λx=>∃c,G c/\x=.d (.c c):=by
 intro H enc d ps ⟨cr,hf⟩;rw[hv]at hf;obtain⟨⟨c,hc,K,hK⟩,ha⟩:=h H enc cr _ hf;refine⟨⟨_,⟨c,hc,rfl⟩,K,λvis d8=>?_⟩,λW' sp hB mh=>?_⟩
 ·exact hK vis d8
 ·obtain⟨n,hn⟩:=ha W' sp hB mh;exact⟨n,by grind⟩
inductive ArgsT (P:Program) (W:World):List TypeId->List Value->(List T->Prop)->Prop
 |nil:ArgsT P W [] [] λxs=>xs=[]
 |cons {t:TypeId} {ts:List TypeId} {v:Value} {vs:List Value} {G:T->Prop} {Gs:List T->Prop} (h:Rl P W t v G) (hs:ArgsT P W ts vs Gs):ArgsT P W (t::ts) (v::vs) λxs=>∃x ys,G x/\Gs ys/\xs=x::ys
def ArgsT.open {P:Program} {W:World} {ts:List TypeId} {vs:List Value} {Gs:List T->Prop} (h:ArgsT P W ts vs Gs):
  ∀(H:Type) (enc:TypeId×Value->H) (ds:List (DataW H)) (ps:List MemPlace),DataW.TrodAll enc P W 0 all true ts vs ds ps->
  (∃xs,Gs xs/\∃K,∀vis,(∀b,b<W.heap.size->K<=vis b)->Ac (Gh0 vis) W (Lo W.heap.size) xs vs)/\
  ∀W' sp,Below W.heap.size W W'->(∀p∈ps,sp p.block=true)->DataW.TrodAll enc P W' 0 sp true ts vs ds ps:=by
 induction h with
 |nil=>
  intro H enc ds ps h;obtain⟨_,rfl,rfl⟩:=trodAll_nil h;exact⟨⟨[],rfl,0,λvis _=>rfl⟩,λW' sp _ _=>trodAll_mk0⟩
 | @cons t ts v vs G Gs h hs ih=>
  intro H enc ds ps ht;obtain⟨v',vt,d,ds',p,q,ai,rfl,rfl,h1,h2⟩:=iL ht;obtain⟨rfl,rfl⟩:=iD ai;obtain⟨⟨x,hx,K1,hK1⟩,A1⟩:=h H enc d p h1;obtain⟨⟨xs,nw,K2,hK2⟩,A2⟩:=ih H enc ds' q h2;refine⟨⟨_,⟨x,xs,hx,nw,rfl⟩,max K1 K2,λvis d8=>?_⟩,λW' sp hB mh=>?_⟩
  ·exact⟨_,_,rfl,hK1 vis λb hb=>by grind,hK2 vis λb hb=>by grind⟩
  grind[trodAll_cons_mk]
theorem Po.slice0 {P:Program} {W:World} {t e:TypeId} {v:Value} {g:List C->Prop} (ht:P.underlying t=some (.slice e)) (he:Uh P e g) (z8:0<P.cellsOf e) (hp:Plain P e):
  Po P W t v λc=>∃n f,n<=maxLen/\(∀i,i<n->g (f i))/\c=.s .n n f:=by
 intro H enc cr x h;rcases open_slice ht h with ⟨hv,rfl⟩|⟨a,len,cap,m,n,D,Pl,hv,hb,hl,fy,lm,hx,w9⟩
 ·obtain rfl:v=.slice none 0 0:=by grind
  refine⟨⟨_,⟨0,λ_=>[],bV _,λi hi=>absurd hi (aV _),rfl⟩,0,λvis _=>.nil _ _⟩,λW' sp _ _=>?_⟩;have:=shut_slice_nil (enc:=enc) (P:=P) (w:=W') (base:=0) (spare:=sp) (held:=true) ht;trivial
 ·obtain rfl:v=.slice (some a) len cap:=by grind
  have hm:m=cap:=by trivial
  subst hm;rcases gY m with h0|h0
  ·subst h0;obtain rfl:len=0:=by omega
   refine⟨⟨_,⟨0,λ_=>[],bV _,λi hi=>absurd hi (aV _),rfl⟩,0,λvis _=>.e _ _ a⟩,λW' sp _ _=>?_⟩;subst hx;cases rh:sp a.block with
   |true=>
    obtain⟨k,hk⟩:=gF (enc:=enc) (P:=P) (w:=W') (base:=0) (spare:=sp) (held:=true) (t:=t) (e:=e) (a:=a) (len:=0) (cap:=0) ht hb (aI _) fy rh D Pl (λi hi=>absurd hi (aV _));grind
   |false=>
    obtain⟨k,hk⟩:=shut_slice_cells (enc:=enc) (P:=P) (w:=W') (base:=0) (spare:=sp) (held:=true) (t:=t) (e:=e) (a:=a) (len:=0) (cap:=0) ht hb (aI _) fy rh D Pl (λi hi=>absurd hi (aV _));grind
  ·obtain⟨b,off,spot⟩:=a;have hfst:∃c0,W.cell? (⟨b,off,spot⟩:Addr)=some c0:=by
    obtain⟨az,h1,_⟩:=w9 0 h0;obtain⟨_,i9,e9⟩:=iC h1;have:=e9 0 z8;rw[gB]at this;refine⟨az[0]'(by omega),?_⟩;rw[<-aQ];simpa[Addr.add]using this
   obtain⟨c0,qn⟩:=hfst;have hs:spot=none:=World.cell?_spot qn;have mg:b<W.heap.size:=World.block_lt_of_cell? W _ qn;subst hs;have fd:∀i,i<m->∃q:List C×List Value,g q.1/\(∀vis w',Aw vis w' q.1 q.2)/\q.2.length=P.cellsOf e/\∀j,j<P.cellsOf e->W.cell? ⟨b,off+i*P.cellsOf e+j,none⟩=q.2[j]?:=by
    intro i hi;obtain⟨az,h1,h2⟩:=w9 i hi;obtain⟨_,i9,e9⟩:=iC h1;obtain⟨xs,hg,hr⟩:=he H enc W 0 all true n az _ h2;refine⟨(xs,az),hg,hr,i9,λj hj=>?_⟩;have:=e9 j hj;rw[add_add,add_plain]at this;rw[Nat.add_assoc];exact this
   obtain⟨q,hq⟩:=choose_lt (α:=List C×List Value) fd;refine⟨⟨_,⟨len,λi=>(q i).1,by omega,λi hi=>(hq i (by omega)).1,rfl⟩,off+len*P.cellsOf e,λvis d8=>?_⟩,λW' sp hB mh=>?_⟩
   ·refine .s _ _ _ b off m (P.cellsOf e) (λi j=>((q i).2[j]?).getD undef) hl fy (λi hi=>?_) (d8 b mg) (λi j c hi hc=>?_) λi j c hi hc=>?_
    ·obtain⟨_,h2,h3,_⟩:=hq i (by omega);have:=(h2 vis W).1;omega
    ·obtain⟨_,h2,h3,h4⟩:=hq i (by omega);have hlt:j<(q i).1.length:=(cA.1 hc).1;have hj:j<(q i).2.length:=by rw[<-(h2 vis W).1];exact hlt
     grind
    ·obtain⟨_,h2,h3,h4⟩:=hq i (by omega);have hlt:j<(q i).1.length:=(cA.1 hc).1;have hj:j<(q i).2.length:=by rw[<-(h2 vis W).1];exact hlt
     have:=(h2 vis W).2 j c _ hc (aQ hj);grind
   ·have mt:∀i,i<m->∃cs n,W'.cells? 0 ((⟨b,off,none⟩:Addr).add (i*P.cellsOf e)) (P.cellsOf e)=some cs/\DataW.trod enc P W' 0 sp true n e cs=some (D i,Pl i):=by
     intro i hi;obtain⟨az,h1,h2⟩:=w9 i hi;refine⟨az,n,World.cells?_carry h1 λp hp=>?_,Ane hp h2 hB⟩;obtain⟨j,_,rfl⟩:=gL.1 hp;refine Ah6 hB ?_
     show (Addr.add _ _).block<_
     unfold Addr.add;grind
    subst hx;have rh:sp b=true:=by
     have:(MemPlace.cell b off)∈(MemPlace.row (⟨b,off,none⟩:Addr) (m*P.cellsOf e)++(List.range m).flatMap Pl):=by
      refine aJ _ (gL.2 ⟨0,Nat.mul_pos h0 z8,rfl⟩)
     exact mh _ this
    exact gF ht hb hl fy rh D Pl mt
end Go.Vc
namespace Go.Vc.Zn
open Go Go.Proofs Go.Vc
def tab:List (TypeId×Ty):=[
 (3,Ty.mk (K.int IntKind.i64) 1 8 [Value.int .i64 0] false []),
 (4,Ty.mk (K.bool) 1 1 [Value.bool false] false []),
 (22,Ty.mk (K.slice 3) 1 24 [Value.slice none 0 0] false []),
 (28,Ty.mk (K.struct [(0,3),(1,3)]) 2 16 [Value.int .i64 0,Value.int .i64 0] true []),
 (24,Ty.mk (K.slice 28) 1 24 [Value.slice none 0 0] false []),
 (26,Ty.mk (K.struct [(0,24),(1,3),(2,3)]) 3 40 [Value.slice none 0 0,Value.int .i64 0,Value.int .i64 0] false []),
 (30,Ty.mk (K.int IntKind.i64) 1 8 [Value.int .i64 0] false []),
 (45,Ty.mk (K.struct [(0,3),(1,43)]) 2 16 [Value.int .i64 0,Value.int .i64 0] true []),
 (43,Ty.mk (K.int IntKind.i64) 1 8 [Value.int .i64 0] false []),
 (54,Ty.mk (K.struct [(0,52),(1,22)]) 2 48 [Value.slice none 0 0,Value.slice none 0 0] false []),
 (52,Ty.mk (K.slice 22) 1 24 [Value.slice none 0 0] false []),
 (109,Ty.mk (K.struct [(0,26),(3,22)]) 4 64 [Value.slice none 0 0,Value.int .i64 0,Value.int .i64 0,Value.slice none 0 0] false []),
 (206,Ty.mk (K.struct [(0,106),(4,3)]) 5 72 [Value.int .i64 0,Value.int .i64 0,Value.slice none 0 0,Value.slice none 0 0,Value.int .i64 0] false []),
 (9,Ty.mk (K.str) 1 16 [Value.string (ByteArray.mk #[])] false []),
 (257,Ty.mk (K.struct [(0,3),(1,3)]) 2 16 [Value.int .i64 0,Value.int .i64 0] true []),
 (33,Ty.mk (K.slice 45) 1 24 [Value.slice none 0 0] false []),
 (138,Ty.mk (K.map 257 4) 1 8 [Value.map none] false []),
 (139,Ty.mk (K.map 3 4) 1 8 [Value.map none] false []),
 (141,Ty.mk (K.struct [(0,54),(2,52),(3,138),(4,139)]) 5 88 [Value.slice none 0 0,Value.slice none 0 0,Value.slice none 0 0,Value.map none,Value.map none] false []),
 (252,Ty.mk (K.map 3 3) 1 8 [Value.map none] false []),
 (106,Ty.mk (K.struct [(0,3),(1,104),(2,22),(3,22)]) 4 64 [Value.int .i64 0,Value.int .i64 0,Value.slice none 0 0,Value.slice none 0 0] false []),
 (20,Ty.mk (K.iface) 1 16 [Value.nilIface] false []),
 (212,Ty.mk (K.struct [(0,3)]) 1 8 [Value.int .i64 0] true []),
 (214,Ty.mk (K.struct [(0,9)]) 1 16 [Value.string (ByteArray.mk #[])] false []),
 (1,Ty.mk (K.func) 1 8 [Value.nilFunc] false []),
 (2,Ty.mk (K.int IntKind.i64) 1 8 [Value.int .i64 0] false []),
 (5,Ty.mk (K.int IntKind.u8) 1 1 [Value.int IntKind.u8 0] false []),
 (6,Ty.mk (K.int IntKind.u8) 1 1 [Value.int IntKind.u8 0] false []),
 (7,Ty.mk (K.struct [(0,2),(1,3),(2,4),(3,6)]) 4 24 [Value.int .i64 0,Value.int .i64 0,Value.bool false,Value.int IntKind.u8 0] false []),
 (8,Ty.mk (K.struct [(0,2),(1,3),(2,4),(3,6)]) 4 24 [Value.int .i64 0,Value.int .i64 0,Value.bool false,Value.int IntKind.u8 0] false []),
 (10,Ty.mk (K.str) 1 16 [Value.string (ByteArray.mk #[])] false []),
 (11,Ty.mk (K.str) 1 16 [Value.string (ByteArray.mk #[])] false []),
 (12,Ty.mk (K.int IntKind.u64) 1 8 [Value.int IntKind.u64 0] false []),
 (13,Ty.mk (K.struct [(0,9),(1,12)]) 2 24 [Value.string (ByteArray.mk #[]),Value.int IntKind.u64 0] false []),
 (14,Ty.mk (K.struct [(0,9),(1,12)]) 2 24 [Value.string (ByteArray.mk #[]),Value.int IntKind.u64 0] false []),
 (15,Ty.mk (K.ptr) 1 8 [Value.pointer none] false []),
 (16,Ty.mk (K.ptr) 1 8 [Value.pointer none] false []),
 (17,Ty.mk (K.ptr) 1 8 [Value.pointer none] false []),
 (18,Ty.mk (K.struct [(0,17)]) 1 8 [Value.pointer none] false []),
 (19,Ty.mk (K.struct [(0,17)]) 1 8 [Value.pointer none] false []),
 (21,Ty.mk (K.int IntKind.i32) 1 4 [Value.int IntKind.i32 0] false []),
 (23,Ty.mk (K.func) 1 8 [Value.nilFunc] false []),
 (59,Ty.mk (K.func) 1 8 [Value.nilFunc] false []),
 (62,Ty.mk (K.slice 75) 1 24 [Value.slice none 0 0] false []),
 (64,Ty.mk (K.struct [(0,62),(1,22),(2,22)]) 3 72 [Value.slice none 0 0,Value.slice none 0 0,Value.slice none 0 0] false []),
 (65,Ty.mk (K.slice 241) 1 24 [Value.slice none 0 0] false []),
 (67,Ty.mk (K.struct [(0,3),(1,65)]) 2 32 [Value.int .i64 0,Value.slice none 0 0] false []),
 (68,Ty.mk (K.slice 194) 1 24 [Value.slice none 0 0] false []),
 (70,Ty.mk (K.struct [(0,3),(1,3),(2,3),(3,3),(4,3),(5,3),(6,68)]) 7 72 [Value.int .i64 0,Value.int .i64 0,Value.int .i64 0,Value.int .i64 0,Value.int .i64 0,Value.int .i64 0,Value.slice none 0 0] false []),
 (75,Ty.mk (K.struct [(0,3),(1,28),(3,28),(5,28)]) 7 56 [Value.int .i64 0,Value.int .i64 0,Value.int .i64 0,Value.int .i64 0,Value.int .i64 0,Value.int .i64 0,Value.int .i64 0] true []),
 (76,Ty.mk (K.ptr) 1 8 [Value.pointer none] false []),
 (80,Ty.mk (K.int IntKind.i64) 1 8 [Value.int .i64 0] false []),
 (82,Ty.mk (K.struct [(0,80),(1,22)]) 2 32 [Value.int .i64 0,Value.slice none 0 0] false []),
 (86,Ty.mk (K.struct [(0,3),(1,3),(2,3)]) 3 24 [Value.int .i64 0,Value.int .i64 0,Value.int .i64 0] true []),
 (87,Ty.mk (K.slice 86) 1 24 [Value.slice none 0 0] false []),
 (89,Ty.mk (K.slice 4) 1 24 [Value.slice none 0 0] false []),
 (96,Ty.mk (K.int IntKind.i64) 1 8 [Value.int .i64 0] false []),
 (98,Ty.mk (K.func) 1 8 [Value.nilFunc] false []),
 (100,Ty.mk (K.func) 1 8 [Value.nilFunc] false []),
 (101,Ty.mk (K.func) 1 8 [Value.nilFunc] false []),
 (102,Ty.mk (K.func) 1 8 [Value.nilFunc] false []),
 (103,Ty.mk (K.func) 1 8 [Value.nilFunc] false []),
 (104,Ty.mk (K.int IntKind.i64) 1 8 [Value.int .i64 0] false []),
 (105,Ty.mk (K.struct [(0,3),(1,104),(2,22),(3,22)]) 4 64 [Value.int .i64 0,Value.int .i64 0,Value.slice none 0 0,Value.slice none 0 0] false []),
 (107,Ty.mk (K.func) 1 8 [Value.nilFunc] false []),
 (108,Ty.mk (K.struct [(0,26),(3,22)]) 4 64 [Value.slice none 0 0,Value.int .i64 0,Value.int .i64 0,Value.slice none 0 0] false []),
 (110,Ty.mk (K.func) 1 8 [Value.nilFunc] false []),
 (111,Ty.mk (K.func) 1 8 [Value.nilFunc] false []),
 (112,Ty.mk (K.func) 1 8 [Value.nilFunc] false []),
 (114,Ty.mk (K.func) 1 8 [Value.nilFunc] false []),
 (115,Ty.mk (K.func) 1 8 [Value.nilFunc] false []),
 (116,Ty.mk (K.slice 118) 1 24 [Value.slice none 0 0] false []),
 (117,Ty.mk (K.struct [(0,3),(1,3),(2,3)]) 3 24 [Value.int .i64 0,Value.int .i64 0,Value.int .i64 0] true []),
 (118,Ty.mk (K.struct [(0,3),(1,3),(2,3)]) 3 24 [Value.int .i64 0,Value.int .i64 0,Value.int .i64 0] true []),
 (120,Ty.mk (K.func) 1 8 [Value.nilFunc] false []),
 (121,Ty.mk (K.func) 1 8 [Value.nilFunc] false []),
 (123,Ty.mk (K.func) 1 8 [Value.nilFunc] false []),
 (147,Ty.mk (K.func) 1 8 [Value.nilFunc] false []),
 (153,Ty.mk (K.slice 82) 1 24 [Value.slice none 0 0] false []),
 (159,Ty.mk (K.ptr) 1 8 [Value.pointer none] false []),
 (162,Ty.mk (K.map 3 402) 1 8 [Value.map none] false []),
 (163,Ty.mk (K.map 287 22) 1 8 [Value.map none] false []),
 (164,Ty.mk (K.map 3 22) 1 8 [Value.map none] false []),
 (165,Ty.mk (K.map 287 4) 1 8 [Value.map none] false []),
 (170,Ty.mk (K.iface) 1 16 [Value.nilIface] false []),
 (173,Ty.mk (K.struct [(0,64),(3,87)]) 4 96 [Value.slice none 0 0,Value.slice none 0 0,Value.slice none 0 0,Value.slice none 0 0] false []),
 (174,Ty.mk (K.int IntKind.i64) 1 8 [Value.int .i64 0] false []),
 (176,Ty.mk (K.struct [(0,3),(1,174)]) 2 16 [Value.int .i64 0,Value.int .i64 0] true []),
 (181,Ty.mk (K.struct [(0,3),(1,3)]) 2 16 [Value.int .i64 0,Value.int .i64 0] true []),
 (184,Ty.mk (K.func) 1 8 [Value.nilFunc] false []),
 (185,Ty.mk (K.func) 1 8 [Value.nilFunc] false []),
 (190,Ty.mk (K.struct [(0,96),(1,22)]) 2 32 [Value.int .i64 0,Value.slice none 0 0] false []),
 (192,Ty.mk (K.struct [(0,3),(1,3),(2,3),(3,3)]) 4 32 [Value.int .i64 0,Value.int .i64 0,Value.int .i64 0,Value.int .i64 0] true []),
 (194,Ty.mk (K.struct [(0,3),(1,3),(2,28),(4,3),(5,3),(6,192)]) 10 80 [Value.int .i64 0,Value.int .i64 0,Value.int .i64 0,Value.int .i64 0,Value.int .i64 0,Value.int .i64 0,Value.int .i64 0,Value.int .i64 0,Value.int .i64 0,Value.int .i64 0] true []),
 (201,Ty.mk (K.struct [(0,70),(7,22)]) 8 96 [Value.int .i64 0,Value.int .i64 0,Value.int .i64 0,Value.int .i64 0,Value.int .i64 0,Value.int .i64 0,Value.slice none 0 0,Value.slice none 0 0] false []),
 (202,Ty.mk (K.func) 1 8 [Value.nilFunc] false []),
 (203,Ty.mk (K.func) 1 8 [Value.nilFunc] false []),
 (207,Ty.mk (K.func) 1 8 [Value.nilFunc] false []),
 (210,Ty.mk (K.func) 1 8 [Value.nilFunc] false []),
 (216,Ty.mk (K.struct [(0,3),(1,3),(2,4)]) 3 24 [Value.int .i64 0,Value.int .i64 0,Value.bool false] false []),
 (229,Ty.mk (K.func) 1 8 [Value.nilFunc] false []),
 (230,Ty.mk (K.func) 1 8 [Value.nilFunc] false []),
 (241,Ty.mk (K.struct [(0,3),(1,22)]) 2 32 [Value.int .i64 0,Value.slice none 0 0] false []),
 (271,Ty.mk (K.struct [(0,9),(1,3)]) 2 24 [Value.string (ByteArray.mk #[]),Value.int .i64 0] false []),
 (275,Ty.mk (K.struct [(0,9)]) 1 16 [Value.string (ByteArray.mk #[])] false []),
 (276,Ty.mk (K.struct [(0,9)]) 1 16 [Value.string (ByteArray.mk #[])] false []),
 (278,Ty.mk (K.func) 1 8 [Value.nilFunc] false []),
 (279,Ty.mk (K.func) 1 8 [Value.nilFunc] false []),
 (282,Ty.mk (K.struct [(0,3)]) 1 8 [Value.int .i64 0] true []),
 (284,Ty.mk (K.struct [(0,3),(1,86)]) 4 32 [Value.int .i64 0,Value.int .i64 0,Value.int .i64 0,Value.int .i64 0] true []),
 (287,Ty.mk (K.struct [(0,3),(1,3)]) 2 16 [Value.int .i64 0,Value.int .i64 0] true []),
 (289,Ty.mk (K.struct [(0,287),(2,22)]) 3 40 [Value.int .i64 0,Value.int .i64 0,Value.slice none 0 0] false []),
 (292,Ty.mk (K.struct [(0,287)]) 2 16 [Value.int .i64 0,Value.int .i64 0] true []),
 (293,Ty.mk (K.func) 1 8 [Value.nilFunc] false []),
 (295,Ty.mk (K.struct [(0,3),(1,22)]) 2 32 [Value.int .i64 0,Value.slice none 0 0] false []),
 (298,Ty.mk (K.struct [(0,3),(1,3),(2,3),(3,192)]) 7 56 [Value.int .i64 0,Value.int .i64 0,Value.int .i64 0,Value.int .i64 0,Value.int .i64 0,Value.int .i64 0,Value.int .i64 0] true []),
 (301,Ty.mk (K.struct [(0,3),(1,3)]) 2 16 [Value.int .i64 0,Value.int .i64 0] true []),
 (303,Ty.mk (K.struct [(0,3),(1,28)]) 3 24 [Value.int .i64 0,Value.int .i64 0,Value.int .i64 0] true []),
 (305,Ty.mk (K.slice 416) 1 24 [Value.slice none 0 0] false []),
 (308,Ty.mk (K.struct [(0,3),(1,3),(2,3)]) 3 24 [Value.int .i64 0,Value.int .i64 0,Value.int .i64 0] true []),
 (314,Ty.mk (K.struct [(0,22),(1,22),(2,22)]) 3 72 [Value.slice none 0 0,Value.slice none 0 0,Value.slice none 0 0] false []),
 (316,Ty.mk (K.func) 1 8 [Value.nilFunc] false []),
 (318,Ty.mk (K.func) 1 8 [Value.nilFunc] false []),
 (324,Ty.mk (K.func) 1 8 [Value.nilFunc] false []),
 (330,Ty.mk (K.arr 4 3) 4 32 [Value.int .i64 0,Value.int .i64 0,Value.int .i64 0,Value.int .i64 0] false []),
 (334,Ty.mk (K.func) 1 8 [Value.nilFunc] false []),
 (335,Ty.mk (K.func) 1 8 [Value.nilFunc] false []),
 (336,Ty.mk (K.func) 1 8 [Value.nilFunc] false []),
 (340,Ty.mk (K.map 3 28) 1 8 [Value.map none] false []),
 (344,Ty.mk (K.arr 5 147) 5 40 [Value.nilFunc,Value.nilFunc,Value.nilFunc,Value.nilFunc,Value.nilFunc] false []),
 (346,Ty.mk (K.struct [(0,3)]) 1 8 [Value.int .i64 0] true []),
 (351,Ty.mk (K.func) 1 8 [Value.nilFunc] false []),
 (352,Ty.mk (K.arr 5 351) 5 40 [Value.nilFunc,Value.nilFunc,Value.nilFunc,Value.nilFunc,Value.nilFunc] false []),
 (394,Ty.mk (K.func) 1 8 [Value.nilFunc] false []),
 (400,Ty.mk (K.func) 1 8 [Value.nilFunc] false []),
 (402,Ty.mk (K.struct [(0,86),(3,3)]) 4 32 [Value.int .i64 0,Value.int .i64 0,Value.int .i64 0,Value.int .i64 0] true []),
 (411,Ty.mk (K.func) 1 8 [Value.nilFunc] false []),
 (412,Ty.mk (K.func) 1 8 [Value.nilFunc] false []),
 (416,Ty.mk (K.struct [(0,3),(1,3)]) 2 16 [Value.int .i64 0,Value.int .i64 0] true []),
 (418,Ty.mk (K.struct [(0,9)]) 1 16 [Value.string (ByteArray.mk #[])] false []),
 (420,Ty.mk (K.struct [(0,64),(3,86)]) 6 96 [Value.slice none 0 0,Value.slice none 0 0,Value.slice none 0 0,Value.int .i64 0,Value.int .i64 0,Value.int .i64 0] false []),
 (421,Ty.mk (K.arr 5 23) 5 40 [Value.nilFunc,Value.nilFunc,Value.nilFunc,Value.nilFunc,Value.nilFunc] false []),
 (425,Ty.mk (K.func) 1 8 [Value.nilFunc] false []),
 (453,Ty.mk (K.int IntKind.u64) 1 8 [Value.int IntKind.u64 0] false []),
 (455,Ty.mk (K.slice 109) 1 24 [Value.slice none 0 0] false []),
 (488,Ty.mk (K.arr 3 147) 3 24 [Value.nilFunc,Value.nilFunc,Value.nilFunc] false []),
 (492,Ty.mk (K.int IntKind.i64) 1 8 [Value.int .i64 0] false []),
 (499,Ty.mk (K.int IntKind.u32) 1 4 [Value.int IntKind.u32 0] false []),
 (501,Ty.mk (K.int IntKind.u64) 1 8 [Value.int IntKind.u64 0] false []),
 (504,Ty.mk (K.struct [(0,3)]) 1 8 [Value.int .i64 0] true []),
 (506,Ty.mk (K.func) 1 8 [Value.nilFunc] false []),
 (507,Ty.mk (K.func) 1 8 [Value.nilFunc] false []),
 (508,Ty.mk (K.func) 1 8 [Value.nilFunc] false []),
 (536,Ty.mk (K.int IntKind.u64) 1 8 [Value.int IntKind.u64 0] false []),
 (540,Ty.mk (K.ptr) 1 8 [Value.pointer none] false []),
 (543,Ty.mk (K.struct [(0,9)]) 1 16 [Value.string (ByteArray.mk #[])] false []),
 (545,Ty.mk (K.func) 1 8 [Value.nilFunc] false []),
 (548,Ty.mk (K.ptr) 1 8 [Value.pointer none] false []),
 (72,Ty.mk (K.struct [(0,26),(3,64),(6,3),(7,67),(9,70)]) 16 224 [Value.slice none 0 0,Value.int .i64 0,Value.int .i64 0,Value.slice none 0 0,Value.slice none 0 0,Value.slice none 0 0,Value.int .i64 0,Value.int .i64 0,Value.slice none 0 0,Value.int .i64 0,Value.int .i64 0,Value.int .i64 0,Value.int .i64 0,Value.int .i64 0,Value.int .i64 0,Value.slice none 0 0] false []),
 (155,Ty.mk (K.struct [(0,72),(16,153),(17,4)]) 18 256 [Value.slice none 0 0,Value.int .i64 0,Value.int .i64 0,Value.slice none 0 0,Value.slice none 0 0,Value.slice none 0 0,Value.int .i64 0,Value.int .i64 0,Value.slice none 0 0,Value.int .i64 0,Value.int .i64 0,Value.int .i64 0,Value.int .i64 0,Value.int .i64 0,Value.int .i64 0,Value.slice none 0 0,Value.slice none 0 0,Value.bool false] false []),
 (167,Ty.mk (K.struct [(0,72),(16,3),(17,162),(18,163),(19,164),(20,165),(21,22)]) 22 288 [Value.slice none 0 0,Value.int .i64 0,Value.int .i64 0,Value.slice none 0 0,Value.slice none 0 0,Value.slice none 0 0,Value.int .i64 0,Value.int .i64 0,Value.slice none 0 0,Value.int .i64 0,Value.int .i64 0,Value.int .i64 0,Value.int .i64 0,Value.int .i64 0,Value.int .i64 0,Value.slice none 0 0,Value.int .i64 0,Value.map none,Value.map none,Value.map none,Value.map none,Value.slice none 0 0] false []),
 (272,Ty.mk (K.arr 11 271) 22 264 [Value.string (ByteArray.mk #[]),Value.int .i64 0,Value.string (ByteArray.mk #[]),Value.int .i64 0,Value.string (ByteArray.mk #[]),Value.int .i64 0,Value.string (ByteArray.mk #[]),Value.int .i64 0,Value.string (ByteArray.mk #[]),Value.int .i64 0,Value.string (ByteArray.mk #[]),Value.int .i64 0,Value.string (ByteArray.mk #[]),Value.int .i64 0,Value.string (ByteArray.mk #[]),Value.int .i64 0,Value.string (ByteArray.mk #[]),Value.int .i64 0,Value.string (ByteArray.mk #[]),Value.int .i64 0,Value.string (ByteArray.mk #[]),Value.int .i64 0] false []),
 (321,Ty.mk (K.arr 22 271) 44 528 [Value.string (ByteArray.mk #[]),Value.int .i64 0,Value.string (ByteArray.mk #[]),Value.int .i64 0,Value.string (ByteArray.mk #[]),Value.int .i64 0,Value.string (ByteArray.mk #[]),Value.int .i64 0,Value.string (ByteArray.mk #[]),Value.int .i64 0,Value.string (ByteArray.mk #[]),Value.int .i64 0,Value.string (ByteArray.mk #[]),Value.int .i64 0,Value.string (ByteArray.mk #[]),Value.int .i64 0,Value.string (ByteArray.mk #[]),Value.int .i64 0,Value.string (ByteArray.mk #[]),Value.int .i64 0,Value.string (ByteArray.mk #[]),Value.int .i64 0,Value.string (ByteArray.mk #[]),Value.int .i64 0,Value.string (ByteArray.mk #[]),Value.int .i64 0,Value.string (ByteArray.mk #[]),Value.int .i64 0,Value.string (ByteArray.mk #[]),Value.int .i64 0,Value.string (ByteArray.mk #[]),Value.int .i64 0,Value.string (ByteArray.mk #[]),Value.int .i64 0,Value.string (ByteArray.mk #[]),Value.int .i64 0,Value.string (ByteArray.mk #[]),Value.int .i64 0,Value.string (ByteArray.mk #[]),Value.int .i64 0,Value.string (ByteArray.mk #[]),Value.int .i64 0,Value.string (ByteArray.mk #[]),Value.int .i64 0] false []),
 (325,Ty.mk (K.arr 22 324) 22 176 [Value.nilFunc,Value.nilFunc,Value.nilFunc,Value.nilFunc,Value.nilFunc,Value.nilFunc,Value.nilFunc,Value.nilFunc,Value.nilFunc,Value.nilFunc,Value.nilFunc,Value.nilFunc,Value.nilFunc,Value.nilFunc,Value.nilFunc,Value.nilFunc,Value.nilFunc,Value.nilFunc,Value.nilFunc,Value.nilFunc,Value.nilFunc,Value.nilFunc] false [])]
def Y:TypeId->Ty:=Abl tab
def plain:Abn tab=Abm Tryz.prog tab:=by kernel_rfl
def eqis:Agy Tryz.prog tab=true:=by kernel_rfl
def meths:Amx Tryz.prog tab=true:=by kernel_rfl
def yok:YOK Tryz.prog Y:=Awg tab plain (Awn eqis) (Awf meths)
def mixed:Tryz.prog.follows .mixedOrders=true:=by kernel_rfl
abbrev CO (Gl:World->Prop):=Computes Tryz.prog Gl
abbrev SP (Gl:World->Prop):=Set Tryz.prog Y Gl
abbrev iR:Int->Prop:=inRange .i64
abbrev CR (Gl:World->Prop) (f:FuncId) (a:List T) (x:T):=CO Gl f a (.ret x)
abbrev DO (Gl:World->Prop):=Does Tryz.prog Y Gl
abbrev vI (x:Int):Value:=.int .i64 x
abbrev mI (x:Int):List C:=List.map C.dem [Ci x]
abbrev cN:C:=.v (.slice none 0 0)
abbrev FAS:Nat:=100001
abbrev FAT:Nat:=100002
abbrev FAU:Nat:=100003
abbrev sQ {α:Type} [Inhabited α] (f:α->List C) (l m:List α):Prop:=SEq l.length (fun i=>f (nth l i)) m.length fun i=>f (nth m i)
abbrev sR {α:Type} [Inhabited α] (f:α->List C) (l:List α):Prop:=sQ f l l
end Go.Vc.Zn
namespace Go.Vc
def Ax3:((0:Nat):Int)=0:=rfl
theorem Abs (b:Bool):eqB b true=b:=rfl
theorem Yc (b:Bool):eqB b false=!b:=rfl
def Anf (n:Nat) (f:Nat->List C):SEq n f n f↔True:=⟨λ_=>trivial,λ_=>⟨rfl,λ_ _=>.inl rfl⟩⟩
def SEq.of {n m:Nat} {f g:Nat->List C} (h:Wf n f m g):SEq n f m g:=⟨h.1,λi hi=>.inl (h.2 i hi)⟩
def Ax4 (a b:Bool):(bif a then b else false)=(a&&b):=by grind
def Ah7 (a b:Bool):(bif a then true else b)=(a||b):=by trivial
def Ax5 (a b:Bool):(bif a then false else b)=(!a&&b):=by grind
def Ax6 (a b:Bool):(bif a then b else true)=(!a||b):=by grind
theorem Ad (n:Int):inRange .i64 n↔-9223372036854775808<=n/\n<=9223372036854775807:=gU
def lq (k n:Nat) (p:Prop):Prop:=inRange .i64 ((k:Int)+1)/\k<n/\(k:Int)+1=((k+1:Nat):Int)/\p
def lz (m:Nat) (p:Prop):Prop:=0=((0:Nat):Int)/\(m:Int)=m/\p
def cp (m:Nat) (p:Prop):Prop:=m*8<=140737488355328/\m<=140737488355328/\p
def ix (k n:Int):Prop:=0<=k/\k<n
def dt (k n:Int):Prop:=decide (k<n)=true
def df (k n:Int):Prop:=decide (k<n)=false
def ln {α:Type} (l:List α):Nat:=l.length
abbrev gD (l:List (List C)):Nat->List C:=λi=>l.getD i []
abbrev aF (k:Nat):T:=.addr FAR k
abbrev tA (l:List C):T:=.d (.agg l)
abbrev tS (n:Nat) (f:Nat->List C):T:=.d (.c (.s .n n f))
abbrev rt (x:T) (o:Orc):Orc:=.r (.ret x) o
def rs:List T->Orc->Orc
 | [],o=>o
 |x::l,o=>.r (.ret x) (rs l o)
def Ah8:C->List Prop
 | .v x=>leC (.v x) (.v x)
 | .s t n f=>leC (.s t n f) (.s t n f)
 |_=>[]
def Ax7 (c:C):∀q∈Ah8 c,q:=by
 intro q hq;unfold Ah8 at hq;split at hq
 ·unfold leC at hq;split at hq<;>simp_all
 ·simp only[leC,aZ]at hq;subst hq;exact⟨rfl,λ_ _=>.inl rfl⟩
 ·cases hq
def zC:List C->Prop->Prop
 | [],p=>p
 |c::l,p=>(Ah8 c).foldr And (zC l p)
theorem Ang:∀l p,zC l p=p
 | [],p=>rfl
 |c::l,p=>by
  have h:∀(m:List Prop) (r:Prop),(∀q∈m,q)->m.foldr And r=r:=λm r hm=>by
   induction m with
   |nil=>rfl
   |cons a m ih=>
    have ha:=hm a aC;have:=ih λq hq=>hm q (aU _ hq);simp only[List.foldr_cons,this];exact propext ⟨λx=>x.2,λx=>⟨ha,x⟩⟩
  rw[zC,h _ _ (Ax7 c),Ang l p]
def tt:Nat->Prop->Prop
 |0,p=>p
 |n+1,p=>true=true/\tt n p
theorem Anh:∀n p,tt n p=p
 |0,_=>rfl
 |n+1,p=>by rw[tt,Anh n p];exact propext ⟨λx=>x.2,λx=>⟨rfl,x⟩⟩
def zM (d:List Int->Bool) (v:List Int->List C) (p:Prop):Prop:=MEq d v d v/\p
def zM_eq (d:List Int->Bool) (v:List Int->List C) (p:Prop):zM d v p=p:=propext ⟨λx=>x.2,λx=>⟨λk=>⟨rfl,λ_=>.inl rfl⟩,x⟩⟩
def stdS:(∀l p,zC l p=p)/\(∀n p,tt n p=p)/\(∀d v p,zM d v p=p)/\(∀k n p,lq k n p=(inRange .i64 ((k:Int)+1)/\k<n/\(k:Int)+1=((k+1:Nat):Int)/\p))/\(∀m p,lz m p=(0=((0:Nat):Int)/\(m:Int)=m/\p))/\(∀m p,cp m p=(m*8<=140737488355328/\m<=140737488355328/\p))/\(∀k n,ix k n=(0<=k/\k<n))/\(∀k n,dt k n=(decide (k<n)=true))/\(∀k n,df k n=(decide (k<n)=false))/\(∀(α:Type) (l:List α),ln l=l.length)/\(((0:Nat):Int)=0)/\(∀b,eqB b true=b)/\(∀b,eqB b false=!b)/\(∀p:Prop,(True/\p)=p)/\(∀p:Prop,(p/\p)=p)/\
  (∀a b:Bool,(bif a then b else false)=(a&&b))/\(∀a b:Bool,(bif a then true else b)=(a||b))/\(∀a b:Bool,(bif a then false else b)=(!a&&b))/\(∀a b:Bool,(bif a then b else true)=(!a||b))/\
  (∀a b c:Bool,(a&&b&&c)=(a&&(b&&c)))/\(∀a b:Bool,((!a)=b)=(a=!b))/\((!true)=false)/\((!false)=true)/\(∀(n:Nat) (f:Nat->List C),SEq n f n f↔True):=
 ⟨Ang,Anh,zM_eq,λ_ _ _=>rfl,λ_ _=>rfl,λ_ _=>rfl,λ_ _=>rfl,λ_ _=>rfl,λ_ _=>rfl,λ_ _=>rfl,Ax3,Abs,Yc,_root_.true_and,_root_.and_self,Ax4,Ah7,Ax5,Ax6,Bool.and_assoc,λa b=>by simp,gM,Bool.not_false,Anf⟩
theorem Ap:maxLen=9223372036854775807:=by kernel_rfl
section
variable {α:Type} [Inhabited α]
theorem Ge {l:List α} {k:Nat} (h:k<l.length):nth l k=l[k]:=by unfold nth;simp[h]
theorem Mn {l m:List α} {i:Nat} (h:i<l.length):nth (l++m) i=nth l i:=by
 grind[nth]
theorem Km {l m:List α} {i:Nat} (h:l.length<=i):nth (l++m) i=nth m (i - l.length):=by
 grind[nth]
theorem Ax8 {l:List α} {i k:Nat} (h:i<k):nth (l.take k) i=nth l i:=by
 grind[nth]
theorem Rn {l:List α} {i k:Nat}:nth (l.drop k) i=nth l (k+i):=by
 grind[nth]
theorem Hq {β:Type} [Inhabited β] {l:List α} {f:α->β} {i:Nat} (h:i<l.length):nth (l.map f) i=f (nth l i):=by
 grind[nth]
theorem Fj {l:List α} {k:Nat} (h:k<l.length):nth l k∈l:=by grind[Ge]
theorem take_succ {l:List α} {k:Nat} (h:k<l.length):l.take (k+1)=l.take k++[nth l k]:=by
 rw[Ge h,List.take_succ_eq_append_getElem h]
def Bl (p:α->Bool):List α->Nat
 | []=>0
 |x::l=>bif p x then Bl p l+1 else 0
omit [Inhabited α] in
theorem Kn {p:α->Bool}:∀{l:List α},Bl p l<=l.length
 | []=>aI _
 |x::l=>by
  have:=Kn (p:=p) (l:=l);grind[Bl]
theorem Io {p:α->Bool}:∀{l:List α} {i:Nat},i<Bl p l->p (nth l i)=true
 | [],i,h=>by trivial
 |x::l,i,h=>by
  unfold Bl at h;cases hp:p x with
  |false=>grind
  |true=>
   simp only[hp,bA]at h;cases i with
   |zero=>exact hp
   |succ i=>exact Io (p:=p) (l:=l) (by omega)
theorem Abt {p:α->Bool}:∀{l:List α},Bl p l<l.length->p (nth l (Bl p l))=false
 | [],h=>by simp at h
 |x::l,h=>by
  unfold Bl at h ⊢;cases hp:p x with
  |false=>exact hp
  |true=>
   simp only[hp,bA,cQ]at h ⊢;exact Abt (p:=p) (l:=l) (by omega)
theorem Fq {p:α->Bool} {l:List α} {k:Nat} (h1:k<=Bl p l) (h2:k<l.length) (h3:p (nth l k)=true):k<Bl p l:=by
 grind[Abt]
omit [Inhabited α] in
theorem Jg {p:α->Bool}:∀{l:List α},l.length<=Bl p l->l.all p=true
 | [],_=>rfl
 |x::l,h=>by
  unfold Bl at h;cases hp:p x with
  |false=>grind
  |true=>
   simp only[hp,bA,cQ]at h;rw[iE,hp,Jg (p:=p) (l:=l) (by omega)]
   rfl
theorem Ui {p:α->Bool} {l:List α} {k:Nat} (h2:k<l.length) (h3:p (nth l k)=false):l.all p=false:=by
 grind[Fj]
def Ani {f:α->List C} {l m r:List α} (h:r=l++m):Wf (l.length+m.length) (An l.length (λi=>f (nth l i)) λi=>f (nth m i)) r.length (λi=>f (nth r i)):=by
 subst h;refine⟨by simp,λi _=>?_⟩;grind[An,Nat.blt,Nat.le_of_ble_eq_true,Mn,Nat.ble_eq_true_of_le,Km]
def Ah9 {f:α->List C} {l m r:List α} (h:r=l++m):SEq (l.length+m.length) (An l.length (λi=>f (nth l i)) λi=>f (nth m i)) r.length (λi=>f (nth r i)):=.of (Ani h)
def Aha {f:α->List C} {l:List α} {css:List (List C)} {m r:List α} (h:r=l++m) (hc:css=m.map f):SEq (l.length+css.length) (An l.length (λi=>f (nth l i)) λi=>css.getD i []) r.length (λi=>f (nth r i)):=by
 subst hc;have:=Ani (f:=f) h;rw[List.length_map];refine .of ⟨this.1,λi hi=>?_⟩;rw[<-this.2 i hi];grind[An,Nat.blt,Nat.ble_eq_true_of_le,Ge]
def Rr {f:α->List C} {l:List α} {k:Nat} (h:k<l.length) {cs:List C} (hc:cs=f (nth l k)):
  SEq ((l.take k).length+1) (An (l.take k).length (λi=>f (nth (l.take k) i)) λi=>[cs].getD i []) (l.take (k+1)).length (λi=>f (nth (l.take (k+1)) i)):=
 Aha (css:=[cs]) (m:=[nth l k]) (take_succ h) (by rw[hc];rfl)
def Eb {f:α->List C} {l r:List α} {x:α} {cs:List C} (h:r=l++[x]) (hc:cs=f x):
  SEq (l.length+1) (An l.length (λi=>f (nth l i)) λi=>[cs].getD i []) r.length (λi=>f (nth r i)):=
 Aha (css:=[cs]) (m:=[x]) h (by rw[hc];rfl)
theorem Cc {n k:Nat} (h:k<n):nth (List.range n) k=k:=by
 grind[Ge]
def Ax {f:α->List C} {l r:List α} (h:r=l):SEq l.length (λi=>f (nth l i)) r.length (λi=>f (nth r i)):=by subst h;exact .of ⟨rfl,λ_ _=>rfl⟩
end
end Go.Vc
namespace Go.Vc.Zn
open Go Go.Vc
structure Sheet where
 cols:List (List Int)
 errs:List Int
deriving DecidableEq
instance:Inhabited Sheet:=⟨⟨[],[]⟩⟩
structure Err where
 row:Int
 kind:Int
deriving DecidableEq
instance:Inhabited Err:=⟨⟨0,0⟩⟩
structure Rt where
 n:Int
 next:Int
 last:Bool
def eI (x:Int):List C:=[Ci x]
def Ar (l:List Int):List C:=[.l eI l]
def Dj (e:Err):List C:=[Ci e.row,Ci e.kind]
def Cw (s:Sheet):List C:=[.l Ar s.cols,.l eI s.errs]
def cRt (r:Rt):List C:=[Ci r.n,Ci r.next,.v (.bool r.last)]
def v (t:Nat) (x:T):Nat×Nat×T:=(0,t,x)
def bx (id:Nat) (xs:List C):Env:=(2,id,live)::Dt id 0 xs
def ad (id:Nat):T:=.addr id 0
def tk (k:Nat) (el:TypeId):Nat×Nat×T:=(1,k,As el)
def Dr (s:Sheet):T:=.d (.agg (Cw s))
def tRt (r:Rt):T:=.d (.agg (cRt r))
def inR (x lo hi:Int):Bool:=decide (lo<=x)&&decide (x<=hi)
theorem Bi {x lo hi:Int}:inR x lo hi=true↔lo<=x/\x<=hi:=by simp[inR]
def num (n:Int):Bool:=inR n (-999) 999
theorem Ka {n:Int}:num n=true↔-999<=n/\n<=999:=Bi
def Bu (l:List Int):Bool:=l.all num&&inR l.length 1 6
def ab (n:Int):Int:=max n (-n)
def fA (n:Int):Int:=ab n / 100
def fB (n:Int):Int:=ab n / 10 % 10
def fC (n:Int):Int:=ab n % 10
def sg (ah a b c:Int):Int:=if ah<0 then -(100*a+10*b+c) else 100*a+10*b+c
def Ip (n:Int):List Int:=[sg n (fB n) (fA n) (fC n),sg n (fA n) (fC n) (fB n)]
def Gf (n:Int):List Int:=(if 0<fA n then [sg n (fA n - 1) (fB n) (fC n)] else [])++(if 0<fB n then [sg n (fA n) (fB n - 1) (fC n)] else [])
def Hb (r n:Int):Bool:=n==sg r (fB r) (fA r) (fC r)||n==sg r (fA r) (fC r) (fB r)
def Iq (r n:Int):Bool:=(decide (0<fA r)&&n==sg r (fA r - 1) (fB r) (fC r))||(decide (0<fB r)&&n==sg r (fA r) (fB r - 1) (fC r))
def Abu (r n:Int):Int:=bif Hb r n then 1 else bif Iq r n then 2 else bif n==-r then 3 else 0
def Rt.kind (r:Rt) (n:Int):Int:=bif Hb r.n n then 1 else bif Iq r.n n then 2 else bif n==-r.n then 3 else bif !r.last&&n==r.next then 4 else 0
def Bm (l:List Int) (i:Nat):Rt:=bif (i+1).beq l.length then ⟨nth l i,0,true⟩ else ⟨nth l i,nth l (i+1),false⟩
end Go.Vc.Zn
namespace Go.Vc
open Go Go.ChangeShapes Go.WideShapes Go.Deep Go.RowKit
theorem Rl.weak {P:Program} {W:World} {t:TypeId} {v:Value} {G G':T->Prop} (h:Rl P W t v G) (hw:∀x,G x->∃y,G' y/\∀p∈leT x y,p):Rl P W t v G':=by
 intro H enc d ps hd;obtain⟨⟨x,hx,K,hK⟩,ha⟩:=h H enc d ps hd;obtain⟨y,hy,hl⟩:=hw x hx;exact⟨⟨y,hy,K,λvis d8=>Ab0 hl (hK vis d8)⟩,ha⟩
section
variable {α:Type} [Inhabited α]
def Ax9 {enc:α->List C} {n:Nat} {f:Nat->List C} (h:∀i,i<n->∃a,f i=enc a):∃l:List α,SEq n f l.length λi=>enc (nth l i):=by
 obtain⟨g,hg⟩:=choose_lt h;refine⟨(List.range n).map g,by simp,λi hi=>.inl ?_⟩;grind[nth]
end
def Axa {P:Program} {Gl:World->Prop} {H:Type} {enc:TypeId×Value->H} {W:World} {args:Array Value} {ds gs:List (DataW H)} {cc:List MemPlace} {f:FuncId} {fn:Func} {s:ChangeSpec} {Gs:List T->Prop} {tb:TypeId} {ts:List TypeId}
  (hb:P.underlying tb=some .bool) (hr:fn.resultTypes=#[tb]) (hv:s.vars=[]) (hs:∀ds:List (DataW H),ds.length=fn.params.size->s.fn H ds={ results:=[.lit (.bool true)],args:=ds })
  (hW:DataW.Whole enc P fn.params.toList s.vars false W args.toList ds gs cc) (ht:fn.params.toList=ts) (hA:ArgsT P W ts args.toList Gs) (hl:∀xs,Gs xs->Computes P Gl f xs (.ret (B true))) (hG:Gl W):
  Calls P f args W λe W'=>∃v,e=.returned v/\s.post enc P fn false true false false W args v W':=by
 subst ht;have hW':=hW;obtain⟨p,q,hA0,hV,rfl,hfz,ip⟩:=hW;rw[hv]at hV;obtain⟨rfl,rfl⟩:=trodVars_none hV;obtain⟨⟨xs,nw,K,hK⟩,tw⟩:=hA.open H enc ds p hA0;have i9:ds.length=fn.params.size:=by
  have:∀(ts:List TypeId) (vs:List Value) (ds:List (DataW H)) (p:List MemPlace),DataW.TrodAll enc P W 0 all true ts vs ds p->ds.length=ts.length:=by
   intro ts
   induction ts with
   |nil=>grind[trodAll_nil]
   |cons t ts ih=>
    grind[trodAll_cons]
  rw[this _ _ _ _ hA0];simp
 have mh:=hs ds i9;have hc:=(hl xs nw).2 (λb=>if b<W.heap.size then K else 0) W args (λb hb=>bI (by omega)) hG (hK _ λb hb=>by grind);refine hc.mono λe W' ⟨hB,v,vis',he,_,_,hr'⟩=>?_;have ak:v=.bool true:=by
  have hr'':Rep vis' W' (.v (.bool true)) v:=hr';cases hr''
  rfl
 subst ak;refine⟨_,he,ds,[],p++[],[],p,[],hW',?_,?_,?_,?_,λh=>by cases h⟩
 ·rw[dO,mh,hr];exact trodAll_cons_mk (shut_bool hb _) trodAll_mk0
 ·rw[dO,mh];refine tw W' _ hB λx hx=>?_;have:=hW'.lt x (by grind);grind
 ·rw[dO,mh,hv]
  rfl
 ·have:=hB.frame (λx=>x∈p++[]/\(x∈([]:List MemPlace)∨x∈p∨x∈([]:List MemPlace)));exact this
end Go.Vc
set_option maxRecDepth 100000
namespace Go.Vc.Zn
open Go Go.Proofs Go.Vc Go.Proofs.YtknoiciabjockaaGreat Go.ChangeShapes Go.WideShapes Go.ChangeAt Go.RowKit Go.Deep
def Ahb:laidOutB Tryz.prog=true:=by kernel_rfl
def Axb:Plain Tryz.prog 3:=⟨Ahb,by kernel_rfl,aH (by kernel_rfl),by kernel_rfl,by kernel_rfl,by kernel_rfl⟩
def Axc:Plain Tryz.prog 4:=⟨Ahb,by kernel_rfl,aH (by kernel_rfl),by kernel_rfl,by kernel_rfl,by kernel_rfl⟩
def flatI:Uh Tryz.prog 3 λxs=>∃n,iR n/\xs=[Ci n]:=.int Tryz.underlying3
def flatB:Uh Tryz.prog 4 λxs=>∃b,xs=[Cb b]:=by
 intro H enc w base sp hd cr cs x h;obtain⟨b,rfl,_⟩:=DataW.trod_bool Tryz.underlying4 h;exact⟨_,⟨b,rfl⟩,λvis w'=>⟨rfl,λj c v hc hv=>by
  match j,hc,hv with
  |0,hc,hv=>
   obtain rfl:=bS hc;obtain rfl:=bS hv;exact .v _ rfl
  |j+1,hc,_=>cases hc⟩⟩
section
variable {W:World} {b0:Nat} {v:Value}
def Axd:Po Tryz.prog W 22 v λc=>∃n f,n<=maxLen/\(∀i,i<n->∃k,iR k/\f i=[Ci k])/\c=.s .n n f:=.slice0 Tryz.underlying22 flatI (by trivial) Axb
def Axe {n:Nat} {f:Nat->List C} (h:∀i,i<n->∃k,iR k/\f i=[Ci k]):∃l:List Int,Wf n f l.length λi=>eI (nth l i):=by
 obtain⟨g,hg⟩:=choose_lt h;refine⟨(List.range n).map g,by simp,λi hi=>?_⟩;grind[nth,eI]
def Anj {t:TypeId} {d:TypeDesc} (hu:Tryz.prog.underlying t=some d) (hd:(∃e,d=.slice e)∨(∃k,d=.int k)∨d=.bool∨d=.string) (h:Value.okWide Tryz.prog W .any b0 t v):Cell.okWide Tryz.prog W .any b0 t v:=by
 grind[Value.okWide]
def argL (h:Value.okWide Tryz.prog W .any b0 22 v):Rl Tryz.prog W 22 v λx=>∃p:List Int,x=L eI p:=by
 have hk:=Anj Tryz.underlying22 (.inl ⟨_,rfl⟩) h;have e9:v.cells.toList=[v]:=by
  unfold Cell.okWide at hk;rw[Tryz.underlying22]at hk;cases v<;>trivial
 refine (Axd.arg e9).weak ?_;rintro x ⟨_,⟨n,f,_,hf,rfl⟩,rfl⟩;obtain⟨l,e⟩:=Axe hf;refine⟨L eI l,⟨_,rfl⟩,λp hp=>?_⟩;change p∈[SEq n f l.length λi=>eI (nth l i)]at hp;rw[aZ]at hp;subst hp;exact .of e
end
end Go.Vc.Zn
set_option maxRecDepth 100000
namespace Go.Vc.Zn
open Go Go.Proofs Go.Vc Go.Proofs.YtknoiciabjockaaGreat Go.ChangeShapes Go.WideShapes Go.ChangeAt Go.RowKit Go.Deep
def own:ownKnob Tryz.prog.godebug=none:=by kernel_rfl
noncomputable def Ahc (os:Os):World:=World.holding Tryz.prog os ⟨#[],#[],[]⟩
def GlW (_:World):Prop:=True
def setW:Set Tryz.prog Y GlW:=⟨yok,λ_ _ _ _=>trivial,mixed⟩
end Go.Vc.Zn
set_option maxRecDepth 100000
namespace Go.Vc.Zn
open Go Go.Proofs Go.Proofs.YtknoiciabjockaaGreat
def chs (l:List Nat):List Char:=l.map Char.ofNat
def Uj:List Char:=chs [104,97,114,110,101,115,115]
def kfSum:List Char:=chs [101,53,97,100,53,56,54,50,99,51,53,52,102,99,55,102,51,50,55,53,100,97,56,101,50,48,54,98,55,50,52,57,53,48,97,53,97,52,48,55,48,50,49,102,51,53,53,48,52,49,56,50,57,53,102,50,55,54,55,50,97,50,55,99]
def Ye:List Char:=chs [99,117,116]
def Yf:List (List Char):=chs [97,116]::([[70,111,117,110,100],[84,119,105,99,101],[68,97,121,115],[77,111,110,116,104]]:List (List Nat)).map λl=>chs ([101,112,104,101,109,101,114,105,115,116,47,101,112,104,101,109,101,114,105,115,116,116,111,112,46,84,111,112]++l)
def Ank:List Char:=Uj++(kfSum::Ye::Yf).flatMap λl=>Char.ofNat 32::l
def io:Tryz.prog.initOrder=String.ofList Ank:=by kernel_rfl
def io2:Tryz.prog.initOrder.toList=Ank:=by rw[io,String.toList_ofList]
def words:wordsSigns Tryz.prog.initOrder.toList=Uj::kfSum::Ye::Yf:=by rw[io2];kernel_rfl
def sumOK:isSumSigns kfSum=true:=by kernel_rfl
def harOK:(Uj== "harness".toList)=true:=by kernel_rfl
def Anl:behindMainWord (wordsSigns Tryz.prog.initOrder.toList)=Ye::Yf:=by
 rw[words]
 show (if ((Uj== "harness".toList||Uj== "ownmain".toList)&&isSumSigns kfSum)=true then Ye::Yf else Uj::kfSum::Ye::Yf)=_
 rw[harOK,sumOK]
 rfl
def Axf {P:Program} {c:List Char} {r:List (List Char)} (hw:behindMainWord (wordsSigns P.initOrder.toList)=c::r) (h1:(c== "gc".toList)=false) (h2:(c== "spec".toList)=false) (h3:(c== "cut".toList)=true):P.make=some .cut:=by
 unfold Program.make;rw[hw];simp only[h1,h2,h3,Bool.or_false,Bool.true_or,dH,iH,eV]
def Axg {P:Program} {c:List Char} {r:List (List Char)} (hw:behindMainWord (wordsSigns P.initOrder.toList)=c::r) (h1:((stripLifts liftWords (c::r)).2.head?==some "cut".toList)=true) (h2:P.laysLater=false) (h3:P.bearsReflect=false)
  (h4:(stripLifts liftWords (c::r)).1.contains "leanrows"=false) (h5:P.doorFits (stripLifts liftWords (c::r)).1=true):P.mayEnter=true:=by
 unfold Program.mayEnter;rw[hw];simp only[h1,h2,h3,h4,h5,Bool.not_false,Bool.or_true,Bool.and_self]
def Axh:Tryz.prog.mayEnter=true:=Axg Anl (by kernel_rfl) (by kernel_rfl) (by kernel_rfl) (by kernel_rfl) (by kernel_rfl)
def makes:Tryz.prog.make=some .cut:=Axf Anl (by kernel_rfl) (by kernel_rfl) (by kernel_rfl)
def lifts:Tryz.prog.headLifts.contains "finals"=false:=by
 unfold Program.headLifts;rw[io2]
 kernel_rfl
def final:Tryz.prog.liftsFinal=false:=by
 unfold Program.liftsFinal;rw[lifts,io2]
 kernel_rfl
open Go Go.Proofs Go.Vc Go.RowKit
theorem in93 {Gl} (S:SP Gl) (x lo hi:Int):CR Gl 60 [I x,I lo,I hi] (B (inR x lo hi)):=by
 refine Ag S (let A0:=eqB (decide (lo<=x)) true=true->eqB (decide (lo<=x)) true=true;((.nil),(A0/\A0/\(decide (lo<=x)=true->eqB (decide (lo<=x)) true=true)/\(bif decide (lo<=x) then decide (x<=hi) else false)=inR x lo hi))) Tryz.func60 ?_;simp only[stdS,aL,aB,and_true,inR]
def Axi {Gl} (S:SP Gl) (x:Int):CR Gl 104 [I x] (B (num x)):=by
 refine Ao S (rt (B (inR x (-999:Int) 999)) .nil) (CR Gl 60 [I x,I (-999:Int),I 999] (B (inR x (-999:Int) 999))/\inR x (-999:Int) 999=num x) Tryz.func104 ?_;simp only[stdS,aL,aB,and_true,in93 S,num]
def Axj {Gl} (S:SP Gl) (x:Int):CR Gl 103 [I x] (B (!num x)):=by
 refine Ao S (rt (B (num x)) .nil) (CR Gl 104 [I x] (B (num x))/\(!num x)=!num x) Tryz.func103 ?_;simp only[stdS,aL,aB,and_true,Axi S]
def Uk {Gl} (S:SP Gl) (ah a b c:Int) (ha:0<=a) (ha2:a<=99) (hb:0<=b) (w6:b<=99) (hc:0<=c) (hc2:c<=99):CR Gl 300 [I ah,I a,I b,I c] (I (sg ah a b c)):=by
 refine Ag S (let A0:=(100:Int)*a+10*b+c;((.br .nil .nil),(iR ((100:Int)*a)/\iR ((10:Int)*b)/\iR ((100:Int)*a+10*b)/\iR A0/\(decide (ah<(0:Int))=true->iR (-A0)/\-A0=sg ah a b c)/\(decide (ah<(0:Int))=false->(100:Int)*a+10*b+c=sg ah a b c)))) Tryz.func300 ?_;dsimp only;grind[Ad,sg]
theorem Ahd {Gl} (S:SP Gl) (ah a b c:Int) (ha:0<=a) (ha2:a<=99) (hb:0<=b) (w6:b<=99) (hc:0<=c) (hc2:c<=99):CR Gl 170 [I ah,I a,I b,I c] (I (sg ah a b c)):=by
 refine Ag S (let A0:=(100:Int)*a+10*b+c;let P0:=λ(zz:Prop)=>iR ((100:Int)*a)/\iR ((10:Int)*b)/\iR ((100:Int)*a+10*b)/\iR A0/\zz;((.br .nil .nil),((decide (ah<(0:Int))=true->P0 (iR (-A0)/\-A0=sg ah a b c))/\(decide (ah<(0:Int))=false->P0 ((100:Int)*a+10*b+c=sg ah a b c))))) Tryz.func170 ?_;dsimp only;grind[Ad,sg]
def Ahe {Gl} (S:SP Gl) (r:Rt) (h:num r.n=true):CR Gl 299 [tRt r] (.tup [.c (Ci (fA r.n)),.c (Ci (fB r.n)),.c (Ci (fC r.n))]):=by
 refine Ag S (let A0:=max r.1 (-r.1);((.nil),(iR (-r.1)/\((100:Int)≠(0:Int)/\iR (Int.tdiv A0 100))/\((10:Int)≠(0:Int)/\iR (Int.tdiv A0 10))/\(10:Int)≠(0:Int)/\(10:Int)≠(0:Int)/\Int.tdiv A0 100=fA r.1/\Int.tmod (Int.tdiv A0 10) 10=fB r.1/\Int.tmod A0 10=fC r.1))) Tryz.func299 ?_;dsimp only;have h:=Ka.1 h;have h0:0<=max r.n (-r.n):=by omega
 have h1:max r.n (-r.n)<=999:=by omega
 have e1:Int.tdiv (max r.n (-r.n)) 100=fA r.n:=cJ h0;have e2:Int.tdiv (max r.n (-r.n)) 10=ab r.n / 10:=cJ h0;grind[ab,fB,fC,Ad]
def Anm {Gl} (S:SP Gl) (l:List Int) (i:Nat) (h:i<l.length):CR Gl 106 [.d (.c (.l eI l)),I i] (tRt (Bm l i)):=by
 refine Ag S (let A1:=0<=(i:Int)/\(i:Int)<l.length;let A0:=Bm l i;((.br .nil .nil),(l.length<=maxLen->iR ((l.length:Int)-1)/\(((i:Int)==l.length-1)=true->A1/\nth l i=A0.1/\(0:Int)=A0.2/\true=A0.3)/\(((i:Int)==l.length-1)=false->A1/\iR ((i:Int)+1)/\(0<=(i:Int)+1/\(i:Int)+1<l.length)/\nth l i=A0.1/\nth l (Int.toNat ((i:Int)+1))=A0.2/\false=A0.3)))) Tryz.func106 ?_;dsimp only;intro hm;rw[Ap]at hm;simp only[Ad,dI,dN,ne_eq];refine⟨by omega,λhi=>?_,λhi=>?_⟩
 ·have hb:(i+1).beq l.length=true:=by rw[show i+1=l.length by omega];exact fP _
  grind[Bm]
 grind[Nat.eq_of_beq_eq_true,Bm]
theorem Ann {Gl} (S:SP Gl) (r:Rt) (n:Int) (h:num r.n=true):CR Gl 190 [tRt r,I n] (B (Hb r.n n)):=by
 refine Ag S (let A3:=Rt.n r;let A6:=sg A3 (fA A3) (fC A3) (fB A3);let A5:=sg A3 (fB A3) (fA A3) (fC A3);let A2:=n==sg r.1 (fB r.1) (fA r.1) (fC r.1);let A1:=Rt.mk A3 (Rt.next r) (Rt.last r);let A4:=[D.c (Ci (fA (Rt.n A1))),D.c (Ci (fB (Rt.n A1))),D.c (Ci (fC (Rt.n A1)))];let A0:=eqB A2 false=true->eqB A2 false=true;((rs [.tup A4,I A5,I A6] .nil),(CR Gl 299 [tRt A1] (.tup A4)/\CR Gl 300 [I A3,I (fB A3),I (fA A3),I (fC A3)] (I A5)/\A0/\A0/\A0/\A0/\A0/\(eqB A2 false=true->CR Gl 300 [I A3,I (fA A3),I (fC A3),I (fB A3)] (I A6))/\A0/\A0/\(A2=false->eqB A2 false=true)/\(bif n==sg r.1 (fB r.1) (fA r.1) (fC r.1) then true else n==sg r.1 (fA r.1) (fC r.1) (fB r.1))=Hb r.1 n))) Tryz.func190 ?_;have h':=Ka.1 h;have fa:0<=fA r.n/\fA r.n<=9:=by unfold fA ab;omega
 have fb:0<=fB r.n/\fB r.n<=9:=by unfold fB ab;omega
 have fc:0<=fC r.n/\fC r.n<=9:=by unfold fC ab;omega
 simp only[stdS,aL,aB,and_true];refine⟨Ahe S r h,Uk S _ _ _ _ fb.1 (by omega) fa.1 (by omega) fc.1 (by omega),λ_=>Uk S _ _ _ _ fa.1 (by omega) fc.1 (by omega) fb.1 (by omega),?_⟩;trivial
theorem Ano {Gl} (S:SP Gl) (r:Rt) (n:Int) (h:num r.n=true):CR Gl 191 [tRt r,I n] (B (Iq r.n n)):=by
 refine Ag S (let o7:=(1:Int);let A5:=Rt.n r;let A9:=sg A5 (fA A5) (fB A5-o7) (fC A5);let A8:=sg A5 (fA A5-o7) (fB A5) (fC A5);let A3:=Rt.mk A5 (Rt.next r) (Rt.last r);let A6:=[D.c (Ci (fA (Rt.n A3))),D.c (Ci (fB (Rt.n A3))),D.c (Ci (fC (Rt.n A3)))];let A2:=eqB (decide ((0:Int)<fA r.1)) true=true->eqB (decide ((0:Int)<fA r.1)) true=true;let A1:=bif decide ((0:Int)<fA r.1) then n==sg r.1 (fA r.1-o7) (fB r.1) (fC r.1) else false;let A7:=eqB A1 false=true->eqB A1 false=true;let A0:=eqB A1 false&&eqB (decide ((0:Int)<fB r.1)) true;let A4:=A0=true->A0=true;((rs [.tup A6,I A8,I A9] .nil),(CR Gl 299 [tRt A3] (.tup A6)/\A2/\A2/\(eqB (decide ((0:Int)<fA r.1)) true=true->iR (fA r.1-o7))/\A2/\A2/\A2/\A2/\(eqB (decide ((0:Int)<fA r.1)) true=true->CR Gl 300 [I A5,I (fA A5-o7),I (fB A5),I (fC A5)] (I A8))/\A2/\A2/\(decide ((0:Int)<fA r.1)=true->eqB (decide ((0:Int)<fA r.1)) true=true)/\A7/\A7/\A4/\A4/\(A0=true->iR (fB r.1-o7))/\A4/\A4/\A4/\A4/\(A0=true->CR Gl 300 [I A5,I (fA A5),I (fB A5-o7),I (fC A5)] (I A9))/\A4/\A4/\A7/\(eqB A1 false=true->decide ((0:Int)<fB r.1)=true->A0=true)/\(A1=false->eqB A1 false=true)/\(bif bif decide ((0:Int)<fA r.1) then n==sg r.1 (fA r.1-o7) (fB r.1) (fC r.1) else false then true else bif decide ((0:Int)<fB r.1) then n==sg r.1 (fA r.1) (fB r.1-o7) (fC r.1) else false)=Iq r.1 n))) Tryz.func191 ?_;have h':=Ka.1 h;have fa:0<=fA r.n/\fA r.n<=9:=by unfold fA ab;omega
 have fb:0<=fB r.n/\fB r.n<=9:=by unfold fB ab;omega
 have fc:0<=fC r.n/\fC r.n<=9:=by unfold fC ab;omega
 have pa:decide (0<fA r.n)=true->0<=fA r.n - 1:=λh=>by grind
 have pb:decide (0<fB r.n)=true->0<=fB r.n - 1:=λh=>by grind
 simp only[stdS,aL,aB,and_true,aE]
 repeat' first|with_reducible apply And.intro|with_reducible intro _
 all_goals first
  |contradiction
  |with_reducible exact Ahe S r h
  |with_reducible exact (Ad _).2 (by omega)
  |with_reducible exact Uk S _ _ _ _ (pa ‹_›) (by omega) fb.1 (by omega) fc.1 (by omega)
  |with_reducible exact Uk S _ _ _ _ fa.1 (by omega) (pb (by simp_all)) (by omega) fc.1 (by omega)
  |with_reducible exact rfl
  |exact Ahe S r h
  |exact (Ad _).2 (by omega)
  |exact Uk S _ _ _ _ (pa ‹_›) (by omega) fb.1 (by omega) fc.1 (by omega)
  |exact Uk S _ _ _ _ fa.1 (by omega) (pb (by simp_all)) (by omega) fc.1 (by omega)
  |exact rfl
  |exact trivial
  |rfl
  |omega
theorem Anp {Gl} (S:SP Gl) (r:Rt) (n:Int) (h:num r.n=true):CR Gl 192 [tRt r,I n] (B (n==-r.n)):=by
 refine Ao S .nil (iR (-r.1)/\(n==-r.1)=(n==-r.1)) Tryz.func192 ?_;grind[Ka,Ad]
theorem Axk {Gl} (S:SP Gl) (r:Rt) (n:Int):CR Gl 193 [tRt r,I n] (B (!r.last&&n==r.next)):=by
 refine Ag S (let A0:=eqB (!r.3) true=true->eqB (!r.3) true=true;((.nil),(A0/\A0/\A0/\((!r.3)=true->eqB (!r.3) true=true)/\(bif !r.3 then n==r.2 else false)=(!r.3&&n==r.2)))) Tryz.func193 ?_;dsimp only;grind[Abs]
def Ahf {Gl} (S:SP Gl) (r:Rt) (n:Int) (h:num r.n=true):CR Gl 107 [tRt r,I n] (I (r.kind n)):=by
 refine Ag S (let A6:=B (!Rt.last r&&n==Rt.next r);let A5:=bif true then n==-r.1 else false;let A4:=bif true then !r.3&&n==r.2 else false;let A3:=bif true then Hb r.1 n else false;let A2:=bif true then Iq r.1 n else false;let A1:=(↑(5:Nat):Int);let A0:=(0:Int);let P0:=λ(zz:Prop)=>true=true/\true=true/\zz;((.un 6 (.tt (.skip 17 (.skip 18 (.skip 19 (.skip 20 (.ff (.tt (.sure 17 (.sure 18 (.sure 19 (.sure 20 (rt (B (Hb (Rt.n r) n)) (.br .nil (.tt (.sure 17 (.sure 18 (.sure 19 (.sure 20 (rt (B (Iq (Rt.n r) n)) (.br .nil (.tt (.sure 17 (.sure 18 (.sure 19 (.sure 20 (rt (B (n==-Rt.n r)) (.br .nil (.tt (.sure 17 (.sure 18 (.sure 19 (.sure 20 (rt A6 (.br .nil (.ff .nil)))))))))))))))))))))))))))))))))))),(true=true/\(A0<=0/\0<A1)/\false=false/\false=false/\false=false/\false=false/\(false=true->false=true)/\false=false/\iR (A0+1)/\true=true/\(A0<=0+1/\A0+1<A1)/\P0 (P0 (CR Gl 190 [tRt r,I n] (B (Hb (Rt.n r) n))/\(A3=true->A0+1=Rt.kind r n)/\(A3=false->iR (A0+1+1)/\true=true/\(A0<=0+1+1/\A0+1+1<A1)/\P0 (P0 (CR Gl 191 [tRt r,I n] (B (Iq (Rt.n r) n))/\(A2=true->A0+1+1=Rt.kind r n)/\(A2=false->iR (A0+1+1+1)/\true=true/\(A0<=0+1+1+1/\A0+1+1+1<A1)/\P0 (P0 (CR Gl 192 [tRt r,I n] (B (n==-Rt.n r))/\(A5=true->A0+1+1+1=Rt.kind r n)/\(A5=false->iR (A0+1+1+1+1)/\true=true/\(A0<=0+1+1+1+1/\A0+1+1+1+1<A1)/\P0 (P0 (CR Gl 193 [tRt r,I n] A6/\(A4=true->A0+1+1+1+1=Rt.kind r n)/\(A4=false->iR (A0+1+1+1+1+1)/\false=false/\A0=Rt.kind r n))))))))))))))) Tryz.func107 ?_;dsimp only
 grind[Ann,Ano,Anp,Axk,Ad,Rt.kind]
def upIdx {α:Type} [Inhabited α] (p:α->Bool) (l:List α):Nat:=Bl (λx=>!p x) l
def idxI {α:Type} [Inhabited α] (p:α->Bool) (l:List α):Int:=bif l.all (λx=>!p x) then -1 else upIdx p l
theorem idxI_spec {α:Type} [Inhabited α] (p:α->Bool) (l:List α):decide (0<=idxI p l)=!l.all (λx=>!p x):=by
 grind[idxI]
def idx_loop {α:Type} [Inhabited α] (p:α->Bool) (l:List α) (C:Nat->Prop) (hC:∀k,k<l.length->C k):l.length<=9223372036854775807->∀k:Nat,k<=upIdx p l->
  ((k:Int)<(l.length:Int)->(0<=(k:Int)/\(k:Int)<(l.length:Int))/\C k/\(p (nth l k)=true->(k:Int)=idxI p l)/\
   (p (nth l k)=false->(-9223372036854775808<=(k:Int)+1/\(k:Int)+1<=9223372036854775807)/\k<upIdx p l/\(k:Int)+1=((k+1:Nat):Int)/\True))/\
  (¬(k:Int)<(l.length:Int)->-1=idxI p l):=by
 grind[Fq,Ui,upIdx,Io,idxI,Jg]
def Ko {α:Type} [Inhabited α] (eq:α->α->Bool) (a b:List α):Bool:=a.length==b.length&&(List.range a.length).all λi=>eq (nth a i) (nth b i)
def Axl {α:Type} [Inhabited α] (eq:α->α->Bool) (a b:List α):a.length<=9223372036854775807->b.length<=9223372036854775807->
  (((a.length:Int) != (b.length:Int))=true->false=Ko eq a b)/\
  (((a.length:Int) != (b.length:Int))=false->∀k:Nat,k<=Bl (λi=>eq (nth a i) (nth b i)) (List.range a.length)->a.length<=9223372036854775807->
   ((k:Int)<(a.length:Int)->(0<=(k:Int)/\(k:Int)<(a.length:Int))/\(0<=(k:Int)/\(k:Int)<(b.length:Int))/\
    ((!eq (nth a k) (nth b k))=true->false=Ko eq a b)/\
    ((!eq (nth a k) (nth b k))=false->(-9223372036854775808<=(k:Int)+1/\(k:Int)+1<=9223372036854775807)/\k<Bl (λi=>eq (nth a i) (nth b i)) (List.range a.length)/\(k:Int)+1=((k+1:Nat):Int)/\True))/\
   (¬(k:Int)<(a.length:Int)->true=Ko eq a b)):=by
 intro h1 h2;refine⟨λh=>?_,λh k hk _=>⟨λhl=>⟨⟨by omega,hl⟩,?_,λs7=>?_,λhe=>?_⟩,λhl=>?_⟩⟩
 ·grind[Ko]
 ·grind
 ·grind[Ko]
 ·have hlt:k<(List.range a.length).length:=by grind
  refine⟨by omega,Fq hk hlt ?_,by omega,trivial⟩;grind[Cc]
 grind[Jg,Ko]
def Anq {Gl} (S:SP Gl) (a b:List Int):CR Gl 20 [L eI a,L eI b] (B (Ko (·==·) a b)):=by
 refine Ag S (let A2:=λx1 x2=>x1==x2;let A1:=((a.length:Int) != (b.length:Int));let A0:=Bl (λi=>nth a i==nth b i) (List.range a.length);((.br .nil (.loop A0 (λk=>[v 5 (I k),v 0 (L eI a),v 1 (L eI b)]) λk0=>.br (.br .nil .nil) .nil)),(a.length<=maxLen->b.length<=maxLen->(A1=true->false=Ko A2 a b)/\(A1=false->(0=(↑(0:Nat):Int)/\sR eI a/\sR eI b)/\∀(k0:Nat),k0<=Bl (λi=>nth a i==nth b i) (List.range a.length)->a.length<=maxLen->(dt k0 a.length->(ix k0 a.length)/\(ix k0 b.length)/\((nth a k0 != nth b k0)=true->false=Ko A2 a b)/\((nth a k0 != nth b k0)=false->lq k0 A0 (sR eI a/\sR eI b)))/\(df k0 a.length->true=Ko A2 a b))))) Tryz.func20 ?_;simp only[stdS,aL,aB,and_true,aN,aK,Ap,Ad];exact Axl (·==·) a b
def ltL:List Int->List Int->Bool
 | [],[]=>false
 | [],_::_=>true
 |_::_,[]=>false
 |x::a,y::b=>bif x==y then ltL a b else decide (x<y)
def Rs (a b:List Int):Nat:=Bl (λi=>nth a i==nth b i) (List.range (min a.length b.length))
theorem Axm {Gl} (S:SP Gl) (l:List Int) (f:FuncId) (p:Int->Bool) (hf:∀i,i<l.length->CR Gl f [I (nth l i)] (B (p (nth l i)))):CR Gl 189 [L eI l,.fn f [] []] (I (idxI p l)):=by
 refine Ao S (.loop (upIdx p l) (λk=>[v 8 (I k),v 7 (I l.length),v 0 (L eI l),v 1 (T.fn f [] [])]) λk0=>.br (rt (B (p (nth l k0))) (.br .nil .nil)) .nil) (l.length<=maxLen->(lz l.length (sR eI l/\f=f))/\∀(k0:Nat),k0<=upIdx p l->(dt k0 l.length->(ix k0 l.length)/\CR Gl f [I (nth l k0)] (B (p (nth l k0)))/\(p (nth l k0)=true->(k0:Int)=idxI p l)/\(p (nth l k0)=false->lq k0 (upIdx p l) ((l.length:Int)=l.length/\sR eI l/\f=f)))/\(df k0 l.length->(-1:Int)=idxI p l)) Tryz.func189 ?_;simp only[stdS,aL,aB,and_true,aN,aK,Ap,Ad];exact idx_loop p l _ hf
def Yg {Gl} (S:SP Gl) (l:List Int) (f:FuncId) (p:Int->Bool) (hf:∀i,i<l.length->CR Gl f [I (nth l i)] (B (p (nth l i)))):CR Gl 102 [L eI l,.fn f [] []] (B (!l.all (λx=>!p x))):=by
 refine Ao S (rt (I (idxI p l)) .nil) (CR Gl 189 [L eI l,T.fn f [] []] (I (idxI p l))/\decide ((0:Int)<=idxI p l)=!List.all l λx=>!p x) Tryz.func102 ?_;grind[Axm,idxI_spec]
theorem Ahg {Gl} (S:SP Gl) (l:List Int):CR Gl 37 [L eI l] (B (Bu l)):=by
 refine Ag S (let A0:=inR l.length 1 6;let A1:=eqB A0 true=true->eqB A0 true=true;((rs [B A0,B !List.all l λx=>!!num x] .nil),(l.length<=maxLen->CR Gl 60 [I l.length,I 1,I 6] (B A0)/\A1/\(eqB A0 true=true->CR Gl 102 [L eI l,T.fn 103 [] []] (B !List.all l λx=>!!num x))/\A1/\(inR l.length 1 6=true->eqB A0 true=true)/\(bif inR (l.length:Int) (1:Int) (6:Int) then !!List.all l λx=>!!num x else false)=Bu l))) Tryz.func37 ?_;dsimp only;intro hm;have hc:∀i,i<l.length->CR Gl 103 [I (nth l i)] (B (!num (nth l i))):=λi _=>Axj S _;have h1:=Yg S l 103 (λn=>!num n) hc;grind[in93,Abs,Bu]
def abT {n:Int}:0<=max n (-n):=by omega
theorem Ul {n:Int}:Int.tdiv (max n (-n)) 100=fA n:=cJ abT
theorem Pp {n:Int}:Int.tmod (Int.tdiv (max n (-n)) 10) 10=fB n:=by
 rw[cJ abT,eD (by omega)];rfl
theorem fC_t {n:Int}:Int.tmod (max n (-n)) 10=fC n:=eD abT
def fABC {n:Int} (h:num n=true):(0<=fA n/\fA n<=9)/\(0<=fB n/\fB n<=9)/\(0<=fC n/\fC n<=9):=by
 grind[Ka,fA,fB,fC,ab]
def Anr {Gl} (S:SP Gl) (ah:Int) {a b c a' b' c':Int} (ha:a=a') (hb:b=b') (hc:c=c') (h1:0<=a') (h2:a'<=99) (h3:0<=b') (h4:b'<=99) (h5:0<=c') (h6:c'<=99):
  CR Gl 170 [I ah,I a,I b,I c] (I (sg ah a' b' c')):=by
 grind[Ahd]
def carT1 {Gl} (S:SP Gl) {n:Int} (h:num n=true) (h1:0<fA n):
  CR Gl 170 [I n,I (Int.tdiv (max n (-n)) 100 - 1),I (Int.tmod (Int.tdiv (max n (-n)) 10) 10),I (Int.tmod (max n (-n)) 10)] (I (sg n (fA n - 1) (fB n) (fC n))):=by
 obtain⟨a,b,c⟩:=fABC h;grind[Ul,Pp,fC_t,Ahd]
def Ans {Gl} (S:SP Gl) {n:Int} (h:num n=true) (h1:0<fB n):
  CR Gl 170 [I n,I (Int.tdiv (max n (-n)) 100),I (Int.tmod (Int.tdiv (max n (-n)) 10) 10 - 1),I (Int.tmod (max n (-n)) 10)] (I (sg n (fA n) (fB n - 1) (fC n))):=by
 obtain⟨a,b,c⟩:=fABC h;grind[Ul,Pp,fC_t,Ahd]
def Axn {Gl} (S:SP Gl) (n:Int) (h:num n=true):CR Gl 83 [I n] (.tkd 3 1 (Ip n).length λi=>eI (nth (Ip n) i)):=by
 refine Ag S (let A2:=sg n (fA n) (fC n) (fB n);let A1:=sg n (fB n) (fA n) (fC n);let A0:=max n (-n);let A4:=Int.tmod (Int.tdiv A0 10) 10;let A3:=Int.tdiv A0 100;((rs [I A1,I A2] .nil),(iR (-n)/\((100:Int)≠(0:Int)/\iR A3)/\((10:Int)≠(0:Int)/\iR (Int.tdiv A0 10))/\(10:Int)≠(0:Int)/\(10:Int)≠(0:Int)/\CR Gl 170 [I n,I A4,I A3,I (Int.tmod A0 10)] (I A1)/\CR Gl 170 [I n,I A3,I (Int.tmod A0 10),I A4] (I A2)/\SEq 2 (gD [mI A1,mI A2]) (List.length (Ip n)) λi=>eI (nth (Ip n) i)))) Tryz.func83 ?_;dsimp only;obtain⟨a,b,c⟩:=fABC h;have h':=Ka.1 h;have h0:=abT (n:=n);refine⟨(Ad _).2 (by omega),⟨by decide,(Ad _).2 ?_⟩,⟨by decide,(Ad _).2 ?_⟩,by decide,by decide,Anr S _ Pp Ul fC_t (by omega) (by omega) (by omega) (by omega) (by omega) (by omega),Anr S _ Ul fC_t Pp (by omega) (by omega) (by omega) (by omega) (by omega) (by omega),rfl,λi hi=>.inl ?_⟩
 ·grind
 ·grind
 ·match i,hi with
  |0,_=>rfl
  |1,_=>rfl
def Axo {Gl} (S:SP Gl) (n:Int) (h:num n=true):CR Gl 84 [I n] (L eI (Gf n)):=by
 refine Ag S (let A4:=Gf n;let A7:=List.length A4;let A3:=max n (-n);let A6:=Int.tdiv A3 10;let A2:=sg n (fA n-(1:Int)) (fB n) (fC n);let A1:=Int.tmod A6 10-1;let A5:=[I n,I (Int.tdiv A3 100),I A1,I (Int.tmod A3 10)];let A0:=sg n (fA n) (fB n-(1:Int)) (fC n);((.br (rt (I A2) (.br (rt (I A0) .nil) .nil)) (.br (rt (I A0) .nil) .nil)),(iR (-n)/\((100:Int)≠(0:Int)/\iR (Int.tdiv A3 100))/\((10:Int)≠(0:Int)/\iR A6)/\(10:Int)≠(0:Int)/\(10:Int)≠(0:Int)/\(decide ((0:Int)<Int.tdiv (max n (-n)) 100)=true->iR (Int.tdiv A3 100-1)/\CR Gl 170 [I n,I (Int.tdiv A3 100-1),I (Int.tmod A6 10),I (Int.tmod A3 10)] (I A2)/\1*8<=140737488355328/\1<=140737488355328/\(decide ((0:Int)<Int.tmod (Int.tdiv (max n (-n)) 10) 10)=true->iR A1/\CR Gl 170 A5 (I A0)/\(1+1)*8<=140737488355328/\1+1<=140737488355328/\SEq 2 (An 1 (gD [mI A2]) (gD [mI A0])) A7 λi=>eI (nth A4 i))/\(decide ((0:Int)<Int.tmod (Int.tdiv (max n (-n)) 10) 10)=false->SEq 1 (gD [mI A2]) A7 λi=>eI (nth A4 i)))/\(decide ((0:Int)<Int.tdiv (max n (-n)) 100)=false->(decide ((0:Int)<Int.tmod (Int.tdiv (max n (-n)) 10) 10)=true->iR A1/\CR Gl 170 A5 (I A0)/\1*8<=140737488355328/\1<=140737488355328/\SEq 1 (gD [mI A0]) A7 λi=>eI (nth A4 i))/\(decide ((0:Int)<Int.tmod (Int.tdiv (max n (-n)) 10) 10)=false->List.length A4=0))))) Tryz.func84 ?_;dsimp only;obtain⟨a,b,c⟩:=fABC h;have h':=Ka.1 h;have h0:=abT (n:=n);have r1:inRange .i64 (Int.tdiv (max n (-n)) 10):=(Ad _).2 (by grind)
 refine⟨(Ad _).2 (by omega),⟨by decide,(Ad _).2 (by grind)⟩,⟨by decide,r1⟩,by decide,by decide,λha=>?_,λha=>?_⟩
 ·have ha:0<fA n:=by grind[Ul]
  refine⟨(Ad _).2 (by grind),carT1 S h ha,by decide,by decide,λhb=>?_,λhb=>?_⟩
  ·have hb:0<fB n:=by grind[Pp]
   refine⟨(Ad _).2 (by grind),Ans S h hb,by decide,by decide,?_⟩;have e:Gf n=[sg n (fA n - 1) (fB n) (fC n),sg n (fA n) (fB n - 1) (fC n)]:=by grind[Gf]
   rw[e];exact⟨rfl,λi hi=>.inl (match i,hi with|0,_=>rfl|1,_=>rfl)⟩
  ·have hb:¬0<fB n:=by grind[Pp]
   have e:Gf n=[sg n (fA n - 1) (fB n) (fC n)]:=by grind[Gf]
   rw[e];exact⟨rfl,λi hi=>.inl (match i,hi with|0,_=>rfl)⟩
 ·have ha:¬0<fA n:=by grind[Ul]
  refine⟨λhb=>?_,λhb=>?_⟩
  ·have hb:0<fB n:=by grind[Pp]
   refine⟨(Ad _).2 (by grind),Ans S h hb,by decide,by decide,?_⟩;have e:Gf n=[sg n (fA n) (fB n - 1) (fC n)]:=by grind[Gf]
   rw[e];exact⟨rfl,λi hi=>.inl (match i,hi with|0,_=>rfl)⟩
  grind[Pp,Gf]
theorem rt_n (l:List Int) (i:Nat):(Bm l i).n=nth l i:=by grind[Bm]
def Jh (r l:List Int) (i:Nat):Bool:=nth l i==nth r i||(Bm r i).kind (nth l i) != 0
def Ct (r l:List Int):Nat->List Err
 |0=>[]
 |k+1=>Ct r l k++bif nth l k==nth r k then [] else [⟨k,(Bm r k).kind (nth l k)⟩]
def Dw (r l:List Int):Bool:=(List.range r.length).all (Jh r l)
def errUp (r l:List Int):Nat:=Bl (Jh r l) (List.range r.length)
def Cd (r l:List Int):List Err:=bif Dw r l then Ct r l r.length else []
theorem Um (r l:List Int):∀k,(Ct r l k).length<=k
 |0=>aI _
 |k+1=>by
  have:=Um r l k;grind[Ct]
theorem Aby {l:List Int} (h:l.all num=true) (i:Nat) (hi:i<l.length):num (nth l i)=true:=by grind[Fj]
def rt_num {l:List Int} (h:l.all num=true) (i:Nat) (hi:i<l.length):num (Bm l i).n=true:=by grind[rt_n,Aby]
def Ant {r l:List Int} {k:Nat} (h:(nth l k==nth r k)=true):Ct r l (k+1)=Ct r l k:=by
 grind[Ct]
def Anu {r l:List Int} {k:Nat} (h:(nth l k==nth r k)=false):Ct r l (k+1)=Ct r l k++[⟨k,(Bm r k).kind (nth l k)⟩]:=by
 grind[Ct]
def Anv {r l:List Int} {k:Nat} (hk:k<=errUp r l) (hlt:k<r.length) (h:Jh r l k=true):k<errUp r l:=
 Fq hk (by grind) (by grind[Cc])
theorem Axp {r l:List Int} (h:r.length<=errUp r l):Dw r l=true:=Jg (by rw[cR];exact h)
theorem Axq {r l:List Int} {k:Nat} (hk:k<=errUp r l) (hlt:k<r.length) (h:Jh r l k=false):errUp r l=k:=by
 rcases bL k (errUp r l) with h1|h1
 ·have:=Io (p:=Jh r l) (l:=List.range r.length) h1;grind[Cc]
 ·omega
def Axr {r l:List Int} (h:Dw r l=true) {k:Nat} (hlt:k<r.length):Jh r l k=true:=aS.1 h k (bB.2 hlt)
theorem Axs {Gl} (S:SP Gl) (r l:List Int) (hr:r.all num=true) (hl:l.length=r.length) (hm:r.length<=1000) (n6:Dw r l=true):CR Gl 40 [L eI r,L eI l] (L Dj (Ct r l r.length)):=by
 refine Ag S (let A1:=λ(k0:Nat)=>Ct r l k0;let A0:=λ(k0:Nat)=>Rt.kind (Bm r k0) (nth l k0);((.loop l.length (λk=>[v 11 (I k),v 10 (I l.length),v 9 (L eI l),v 0 (L eI r),tk 100 45,v 5 (Lt 100 Dj (Ct r l k))]) λk0=>.br (.br .nil (rs [tRt (Bm r k0),I (A0 k0)] (.br .nil .nil))) .nil),(l.length<=maxLen->(lz l.length (sR eI l/\sR eI r/\0=0))/\∀(k0:Nat),k0<=l.length->(dt k0 l.length->(ix k0 l.length)/\(ix k0 r.length)/\((nth l k0==nth r k0)=true->lq k0 l.length ((l.length:Int)=l.length/\sR eI l/\sR eI r/\sQ Dj (A1 k0) (Ct r l (k0+1))))/\((nth l k0==nth r k0)=false->CR Gl 106 [L eI r,I k0] (tRt (Bm r k0))/\CR Gl 107 [tRt (Bm r k0),I (nth l k0)] (I (A0 k0))/\((Rt.kind (Bm r k0) (nth l k0)==(0:Int))=true->False)/\((Rt.kind (Bm r k0) (nth l k0)==(0:Int))=false->(ln (A1 k0)+1)*16<=140737488355328/\ln (A1 k0)+1<=140737488355328/\lq k0 l.length ((l.length:Int)=l.length/\sR eI l/\sR eI r/\SEq (ln (A1 k0)+1) (An (ln (A1 k0)) (λi=>Dj (nth (A1 k0) i)) (gD [List.map C.dem (List.map C.dem [Ci k0,Ci (A0 k0)])])) (ln (Ct r l (k0+1))) λi=>Dj (nth (Ct r l (k0+1)) i)))))/\(df k0 l.length->sQ Dj (A1 k0) (Ct r l r.length))))) Tryz.func40 ?_;simp only[stdS,aL,aB,and_true,aN,aK,Ap,Ad];intro jh;refine λk hk=>⟨λhlt=>⟨⟨by omega,hlt⟩,⟨by omega,by omega⟩,λhe=>?_,λhe=>⟨Anm S r k (by omega),Ahf S (Bm r k) _ (rt_num hr k (by omega)),λhz=>?_,λhz=>?_⟩⟩,λdr=>?_⟩
 ·refine⟨by omega,by omega,by omega,?_⟩;rw[Ant he];exact Ax rfl
 ·have:=Axr n6 (k:=k) (by omega);grind[Jh]
 ·have:=Um r l k;refine⟨by omega,by omega,by omega,by omega,by omega,?_⟩;exact Eb (f:=Dj) (Anu he) rfl
 ·have bf:k=r.length:=by omega
  subst bf;exact Ax rfl
theorem Axt {Gl} (S:SP Gl) (r l:List Int) (hr:r.all num=true) (hl:l.length=r.length) (hm:r.length<=1000) (n6:Dw r l=false):CO Gl 40 [L eI r,L eI l] (.pan (.iface 212 (.agg #[.int .i64 (errUp r l:Nat)]))):=by
 refine Ao S (.loop (errUp r l) (λk=>[v 11 (I k),v 10 (I l.length),v 9 (L eI l),v 0 (L eI r),tk 100 45,v 5 (Lt 100 Dj (Ct r l k))]) λk0=>.br (.br .nil (rs [tRt (Bm r k0),I (Rt.kind (Bm r k0) (nth l k0))] (.br .nil .nil))) .nil) (l.length<=maxLen->(lz l.length (sR eI l/\sR eI r/\0=0))/\∀(k0:Nat),k0<=errUp r l->(dt k0 l.length->(ix k0 l.length)/\(ix k0 r.length)/\((nth l k0==nth r k0)=true->lq k0 (errUp r l) ((l.length:Int)=l.length/\sR eI l/\sR eI r/\sQ Dj (Ct r l k0) (Ct r l (k0+1))))/\((nth l k0==nth r k0)=false->CR Gl 106 [L eI r,I k0] (tRt (Bm r k0))/\CR Gl 107 [tRt (Bm r k0),I (nth l k0)] (I (Rt.kind (Bm r k0) (nth l k0)))/\((Rt.kind (Bm r k0) (nth l k0)==(0:Int))=true->Value.iface 212 (Value.agg (Array.mk [vI k0]))=Value.iface 212 (Value.agg (Array.mk [vI (↑(errUp r l):Int)])))/\((Rt.kind (Bm r k0) (nth l k0)==(0:Int))=false->(ln (Ct r l k0)+1)*16<=140737488355328/\ln (Ct r l k0)+1<=140737488355328/\lq k0 (errUp r l) ((l.length:Int)=l.length/\sR eI l/\sR eI r/\SEq (ln (Ct r l k0)+1) (An (ln (Ct r l k0)) (λi=>Dj (nth (Ct r l k0) i)) (gD [List.map C.dem (List.map C.dem [Ci k0,Ci (Rt.kind (Bm r k0) (nth l k0))])])) (ln (Ct r l (k0+1))) λi=>Dj (nth (Ct r l (k0+1)) i)))))/\(df k0 l.length->False)) Tryz.func40 ?_;simp only[stdS,aL,aB,and_true,aN,aK,Ap,Ad];intro jh;refine λk hk=>⟨λhlt=>⟨⟨by omega,hlt⟩,⟨by omega,by omega⟩,λhe=>?_,λhe=>⟨Anm S r k (by omega),Ahf S (Bm r k) _ (rt_num hr k (by omega)),λhz=>?_,λhz=>?_⟩⟩,λdr=>?_⟩
 ·refine⟨by omega,Anv hk (by omega) (by grind[Jh]),by omega,?_⟩;rw[Ant he];exact Ax rfl
 ·grind[Axq,Jh]
 ·have:=Um r l k;refine⟨by omega,by omega,by omega,Anv hk (by omega) (by grind[Jh]),by omega,?_⟩;exact Eb (f:=Dj) (Anu he) rfl
 grind[Axp]
def col (s:Sheet) (i:Nat):List Int:=nth s.cols i
def rows (s:Sheet):Nat:=(col s 0).length
def Kb (s:Sheet) (i:Nat):Bool:=Bu (col s i)&&((col s i).length==rows s&&inR (nth s.errs i) 0 2)
def Sheet.ok (s:Sheet):Bool:=inR s.cols.length 1 3&&(s.errs.length==s.cols.length&&(List.range s.cols.length).all (Kb s))
def Anw (a b:Nat):((a:Int) != (b:Int))=!(a==b):=by
 grind
theorem Ll {s:Sheet} (h:s.ok=true):1<=s.cols.length/\s.cols.length<=3/\s.errs.length=s.cols.length/\∀i,i<s.cols.length->Kb s i=true:=by
 grind[Sheet.ok,Bi]
def Kp {s:Sheet} {i:Nat} (h:Kb s i=true):(col s i).length=rows s/\(col s i).all num=true/\1<=rows s/\rows s<=6/\0<=nth s.errs i/\nth s.errs i<=2:=by
 grind[Kb,Bu,Bi]
def Kq (s:Sheet) (r:List Int) (i:Nat):Bool:=Dw r (col s i)&&decide ((Cd r (col s i)).length<=nth s.errs i)
def Lm (s:Sheet) (r:List Int):Bool:=(List.range s.cols.length).all (Kq s r)
def agUp (s:Sheet) (r:List Int):Nat:=Bl (Kq s r) (List.range s.cols.length)
theorem Axu (s:Sheet) (r:List Int) (k:Nat):(!Dw r (nth s.cols k)||decide (nth s.errs k<((Cd r (nth s.cols k)).length:Int)))=!Kq s r k:=by
 grind[Kq,col]
def listed (l:List Int) (n:Int):Bool:=!l.all (λx=>!(x==n))
def Pq (l:List Int) (n:Int):Nat:=Bl (λx=>decide (x<n)) l
def Ln (l:List Int) (n:Int):List Int:=bif listed l n then l else l.take (Pq l n)++[n]++l.drop (Pq l n)
theorem Kr {i k:Nat} (h:i<k):Nat.blt i k=true:=fF h
theorem Mp {i k:Nat} (h:¬i<k):Nat.blt i k=false:=by
 rw[fI];exact λhb=>h (aH hb)
def Ru (c:Int):List Int:=Ip c++[c+10,c - 10,c+100,c - 100,-c]
def Pr (c x:Int):Bool:=num x&&Abu x c != 0
def Oh (out:List Int) (c:Int):Nat->List Int
 |0=>out
 |k+1=>bif Pr c (nth (Ru c) k) then Ln (Oh out c k) (nth (Ru c) k) else Oh out c k
def cell (s:Sheet) (i row:Nat):Int:=nth (nth s.cols i) row
def Rv (s:Sheet) (row:Nat) (out:List Int) (i:Nat):List Int:=bif Nat.blt 0 row then Ln (Ln out (cell s i row)) (cell s i (row - 1)) else Ln out (cell s i row)
def Ms (s:Sheet) (row:Nat):Nat->List Int
 |0=>[]
 |i+1=>Oh (Rv s row (Ms s row i) i) (cell s i row) 7
def Gg (s:Sheet) (row:Nat):List Int:=Ms s row s.cols.length
theorem Anx (l:List Int) (n:Int):(Ln l n).length<=l.length+1:=by
 grind[Ln]
theorem Anz (out:List Int) (c:Int):∀k,(Oh out c k).length<=out.length+k
 |0=>aI _
 |k+1=>by
  have h1:=Anz out c k;grind[Anx,Oh]
theorem Axv (s:Sheet) (row:Nat) (out:List Int) (i:Nat):(Rv s row out i).length<=out.length+2:=by
 grind[Ln,Rv]
theorem Ao0 (s:Sheet) (row:Nat):∀i,(Ms s row i).length<=9*i
 |0=>aI _
 |i+1=>by
  have h1:=Ao0 s row i;grind[Axv,Ms,Anz]
theorem Axw (c:Int):(Ru c).length=7:=rfl
def Au:Int:=-999
def Fs (l:List Int):Nat:=Bl (λk:Nat=>listed l (Au+(k:Int))) (List.range (l.length+1))
def Dk (l:List Int):Int:=Au+Fs l
theorem Ao1:∀(n:Nat) (l:List Int),(∀i:Nat,i<n->Au+(i:Int)∈l)->n<=l.length
 |0,_,_=>bV _
 |n+1,l,h=>by
  have hm:=h n (by omega);have:=Ao1 n (l.erase (Au+(n:Int))) λi hi=>(List.mem_erase_of_ne (by omega)).2 (h i (by omega));grind
theorem Ac0 {l:List Int} {n:Int}:listed l n=true↔n∈l:=by
 grind[listed]
theorem Ahh {l:List Int} {k:Nat} (h:k<Fs l):listed l (Au+(k:Int))=true:=by
 have hu:Fs l<=l.length+1:=by have:=Kn (p:=λk:Nat=>listed l (Au+(k:Int))) (l:=List.range (l.length+1));rw[cR]at this;exact this
 have:=Io (p:=λk:Nat=>listed l (Au+(k:Int))) (l:=List.range (l.length+1)) h;grind[Cc]
theorem Ac1 (l:List Int):listed l (Dk l)=false/\Fs l<=l.length:=by
 have hu:Fs l<=l.length+1:=by have:=Kn (p:=λk:Nat=>listed l (Au+(k:Int))) (l:=List.range (l.length+1));rw[cR]at this;exact this
 rcases bL (Fs l) (l.length+1) with h|h
 ·have:=Abt (p:=λk:Nat=>listed l (Au+(k:Int))) (l:=List.range (l.length+1)) (by rw[cR];exact h);have hn:nth (List.range (l.length+1)) (Bl (λk:Nat=>listed l (Au+(k:Int))) (List.range (l.length+1)))=Fs l:=Cc h;rw[hn]at this;exact⟨this,by omega⟩
 ·have:=Ao1 (l.length+1) l λi hi=>Ac0.1 (Ahh (by omega));omega
def Ji (s:Sheet) (r:Nat):List Int:=Ln (Gg s r) (Dk (Gg s r))
def Fk (s:Sheet):List (List Int):=(List.range (rows s)).map (Ji s)
theorem Ao2 {s:Sheet} (hs:s.ok=true) (r:Nat):(Gg s r).length<=27:=by
 grind[Ll,Ao0,Gg]
def Un (l:List (List Int)):Nat->List Int
 |0=>nth l 0
 |k+1=>bif ltL (nth l k) (Un l k) then nth l k else Un l k
def Yh (l:List (List Int)):List Int:=Un l l.length
def okH (s:Sheet) (now:List Int) (r:Nat) (left:List Int) (i:Nat):Bool:=nth (nth s.cols i) r==nth now 0||(decide (1<=nth left i)&&(Bm now 0).kind (nth (nth s.cols i) r) != 0)
def Ks (s:Sheet) (now:List Int) (r:Nat) (left:List Int) (i:Nat):Int:=nth left i - bif nth (nth s.cols i) r==nth now 0 then 0 else 1
def Cy (s:Sheet) (now:List Int) (r:Nat) (left:List Int):List Int:=(List.range left.length).map (Ks s now r left)
def okAll (s:Sheet) (now:List Int) (r:Nat) (left:List Int):Bool:=(List.range left.length).all (okH s now r left)
def Ps (s:Sheet) (now:List Int) (r:Nat) (left:List Int):Nat:=Bl (okH s now r left) (List.range left.length)
def Gj (s:Sheet) (all:List (List Int)):Nat->List Int->List Int->List (List Int)
 |0,e,_=>[e]
 |r+1,e,left=>(nth all r).flatMap λx=>bif okAll s (x::e) r left then Gj s all r (x::e) (Cy s (x::e) r left) else []
def Oi (s:Sheet) (all:List (List Int)) (r:Nat) (e left:List Int) (x:Int):List (List Int):=bif okAll s (x::e) r left then Gj s all r (x::e) (Cy s (x::e) r left) else []
def Gk (s:Sheet) (all:List (List Int)) (r:Nat) (e left:List Int) (k:Nat):List (List Int):=((nth all r).take k).flatMap (Oi s all r e left)
def Axx {s:Sheet} {all:List (List Int)} {r:Nat} {e left:List Int} {k:Nat} (hk:k<(nth all r).length):Gk s all r e left (k+1)=Gk s all r e left k++Oi s all r e left (nth (nth all r) k):=by
 grind[Gk,take_succ]
def Axy (s:Sheet) (all:List (List Int)) (r:Nat) (e left:List Int):Gk s all r e left (nth all r).length=Gj s all (r+1) e left:=by
 unfold Gk;rw[fQ]
 rfl
theorem Ao3 {α:Type} {f:Int->List α} {c:Nat}:∀{l:List Int},(∀x,(f x).length<=c)->(l.flatMap f).length<=l.length*c
 | [],_=>by simp
 |x::l,h=>by
  have h1:=Ao3 (l:=l) h;grind[Nat.succ_mul]
theorem Ao4 {s:Sheet} {all:List (List Int)} (o6:∀r,(nth all r).length<=28):∀(r:Nat) (e left:List Int),(Gj s all r e left).length<=28 ^ r
 |0,_,_=>aI _
 |r+1,e,left=>by
  have h1:(Gj s all (r+1) e left).length<=(nth all r).length*28 ^ r:=Ao3 λx=>by
   cases okAll s (x::e) r left with
   |true=>exact Ao4 o6 r _ _
   |false=>grind
  have h2:=aY (28 ^ r) (o6 r);omega
def Dg (s:Sheet) (row:Nat):List Int:=s.cols.map λl=>nth l row
def Mt (s:Sheet) (l:List Int):Bool:=!Bu l||!(l.length==rows s)
theorem Ao5 {Gl} (S:SP Gl) (s:Sheet) (row:Nat) (h:∀i,i<s.cols.length->row<(nth s.cols i).length) (hl:s.cols.length<=1000):CR Gl 227 [Dr s,I row] (L eI (Dg s row)):=by
 refine Ag S (let A1:=Sheet.cols s;let A0:=Dg s row;let A2:=λ(k0:Nat)=>List.take k0 A0;((.loop (List.length A1) (λk=>[v 11 (I k),v 10 (I (List.length A1:Int)),v 9 (L Ar A1),v 1 (I row),tk 100 3,v 5 (Lt 100 eI (List.take k A0))]) λk0=>.br .nil .nil),(s.1.length<=maxLen->(lz s.1.length (sR Ar s.1/\(row:Int)=row/\0=0))/\∀(k0:Nat),k0<=ln A1->(dt k0 s.1.length->(ix k0 s.1.length)/\(0<=(row:Int)/\(row:Int)<(ln (nth s.1 k0):Int))/\cp (ln (A2 k0)+1) (lq k0 (ln A1) ((s.1.length:Int)=s.1.length/\sR Ar s.1/\(row:Int)=row/\SEq (ln (A2 k0)+1) (An (ln (A2 k0)) (λi=>eI (nth (A2 k0) i)) (gD [mI (nth (nth s.1 k0) row)])) (ln (List.take (k0+1) A0)) λi=>eI (nth (List.take (k0+1) A0) i))))/\(df k0 s.1.length->sQ eI (A2 k0) A0)))) Tryz.func227 ?_;simp only[stdS,aL,aB,and_true];refine λhm k hk=>⟨λhd=>?_,λhd=>?_⟩
 ·have hlt:k<s.cols.length:=by grind
  have hn:(Dg s row).length=s.cols.length:=by grind[Dg]
  have ht:((Dg s row).take k).length<=1000:=by grind
  have hr:=h k hlt;refine⟨⟨by omega,by omega⟩,⟨by omega,by omega⟩,by omega,by omega,(Ad _).2 (by omega),hlt,by omega,Rr (by omega) (by unfold Dg;rw[Hq hlt];rfl)⟩
 ·have bf:k=s.cols.length:=by grind
  have hn:(Dg s row).length=s.cols.length:=by grind[Dg]
  exact Ax (by grind)
def Axz {Gl} (S:SP Gl) (n:Int):CR Gl 133 [I n] (B (!inR n 0 2)):=by
 refine Ao S (rt (B (inR n 0 2)) .nil) (CR Gl 60 [I n,I 0,I 2] (B (inR n 0 2))/\(!inR n (0:Int) (2:Int))=!inR n (0:Int) (2:Int)) Tryz.func133 ?_;simp only[stdS,aL,aB,and_true,in93 S]
def Ay0 {Gl} (S:SP Gl) (s:Sheet) (l:List Int) (h:0<s.cols.length):CR Gl 131 [L eI l,.d (.rd (Cw s))] (B (Mt s l)):=by
 refine Ag S (let A1:=!Bu l;let A0:=eqB A1 false=true->eqB A1 false=true;((rt (B (Bu l)) .nil),(CR Gl 37 [L eI l] (B (Bu l))/\A0/\((eqB A1 false=true->l.length<=maxLen)->A0/\A0/\(eqB A1 false=true->(0:Int)<=0/\0<(s.1.length:Int))/\A0/\A0/\((eqB A1 false=true->ln (nth s.1 (Int.toNat 0))<=maxLen)->A0/\A0/\(A1=false->eqB A1 false=true)/\(bif !Bu l then true else (l.length:Int) != (↑(ln (nth s.1 (Int.toNat 0))):Int))=Mt s l))))) Tryz.func131 ?_;simp only[stdS,aL,aB,and_true,Anw];exact⟨Ahg S l,λ_=>⟨λ_=>⟨by omega,by omega⟩,λ_=>rfl⟩⟩
theorem Ay1 {Gl} (S:SP Gl) (l:List (List Int)) (f:FuncId) (d:Sheet) (p:List Int->Bool) (hf:∀i,i<l.length->CR Gl f [L eI (nth l i),.d (.rd (Cw d))] (B (p (nth l i)))):CR Gl 234 [L Ar l,.fn f [] [.d (.rd (Cw d))]] (I (idxI p l)):=by
 refine Ao S (.loop (upIdx p l) (λk=>[v 8 (I k),v 7 (I l.length),v 0 (L Ar l),v 1 (T.fn f [] [T.d (D.rd (Cw d))])]) λk0=>.br (rt (B (p (nth l k0))) (.br .nil .nil)) .nil) (l.length<=maxLen->(lz l.length (sR Ar l/\f=f/\sR Ar d.1/\sR eI d.2))/\∀(k0:Nat),k0<=upIdx p l->(dt k0 l.length->(ix k0 l.length)/\CR Gl f [L eI (nth l k0),T.d (D.rd (Cw d))] (B (p (nth l k0)))/\(p (nth l k0)=true->(k0:Int)=idxI p l)/\(p (nth l k0)=false->lq k0 (upIdx p l) ((l.length:Int)=l.length/\sR Ar l/\f=f/\sR Ar d.1/\sR eI d.2)))/\(df k0 l.length->(-1:Int)=idxI p l)) Tryz.func234 ?_;simp only[stdS,aL,aB,and_true,aN,aK,Ap,Ad];exact idx_loop p l _ hf
def Ay2 {Gl} (S:SP Gl) (l:List (List Int)) (f:FuncId) (d:Sheet) (p:List Int->Bool) (hf:∀i,i<l.length->CR Gl f [L eI (nth l i),.d (.rd (Cw d))] (B (p (nth l i)))):CR Gl 132 [L Ar l,.fn f [] [.d (.rd (Cw d))]] (B (!l.all (λx=>!p x))):=by
 refine Ao S (rt (I (idxI p l)) .nil) (CR Gl 234 [L Ar l,T.fn f [] [T.d (D.rd (Cw d))]] (I (idxI p l))/\decide ((0:Int)<=idxI p l)=!List.all l λx=>!p x) Tryz.func132 ?_;grind[Ay1,idxI_spec]
theorem Ay3 (s:Sheet) (h:s.errs.length=s.cols.length):(List.range s.cols.length).all (Kb s)=(s.cols.all (λl=>!Mt s l)&&s.errs.all (λn=>inR n 0 2)):=by
 rw[fT,aE,aS,aS,aS];constructor
 ·intro hc;refine⟨λl hl=>?_,λn hn=>?_⟩
  ·obtain⟨i,hi,rfl⟩:=bM.1 hl;have:=hc i (bB.2 hi);grind[Kb,col,Ge,Mt]
  ·obtain⟨i,hi,rfl⟩:=bM.1 hn;have:=hc i (bB.2 (by omega));grind[Kb,Ge]
 grind[Fj,Mt,Kb,col]
theorem Ao6 {Gl} (S:SP Gl) (s:Sheet):CR Gl 55 [Dr s] (B s.ok):=by
 refine Ag S (let A5:=(s.1.length:Int);let A3:=(bif !inR A5 (1:Int) (3:Int) then true else (s.2.length:Int) != A5);let A2:=(!inR A5 (1:Int) (3:Int));let A1:=!!List.all s.1 λx=>!Mt s x;let A4:=eqB A1 true=true->eqB A1 true=true;let A0:=eqB A2 false=true->eqB A2 false=true;((rt (B (inR s.1.length 1 3)) (.br .nil (rs [B !List.all (Sheet.cols s) λx=>!Mt s x,B !List.all (Sheet.errs s) λx=>!!inR x (0:Int) (2:Int)] .nil))),(s.1.length<=maxLen->CR Gl 60 [I s.1.length,I 1,I 3] (B (inR s.1.length 1 3))/\A0/\A0/\((eqB A2 false=true->s.2.length<=maxLen)->A0/\A0/\((eqB A2 false=true->s.1.length<=maxLen)->A0/\A0/\(A2=false->eqB A2 false=true)/\(A3=true->false=Sheet.ok s)/\(A3=false->CR Gl 132 [L Ar (Sheet.cols s),T.fn 131 [] [T.d (D.rd (Cw s))]] (B !List.all (Sheet.cols s) λx=>!Mt s x)/\A4/\A4/\(eqB A1 true=true->CR Gl 102 [L eI (Sheet.errs s),T.fn 133 [] []] (B !List.all (Sheet.errs s) λx=>!!inR x (0:Int) (2:Int)))/\A4/\(A1=true->eqB A1 true=true)/\(bif !!List.all s.1 λx=>!Mt s x then !!List.all s.2 λx=>!!inR x (0:Int) (2:Int) else false)=Sheet.ok s)))))) Tryz.func55 ?_;simp only[stdS,aL,aB,and_true,Anw];refine λhm=>⟨in93 S _ _ _,λ_ _=>⟨λh=>?_,λh=>?_⟩⟩
 ·grind[Sheet.ok]
 ·have qw:inR (s.cols.length:Int) 1 3=true/\(s.errs.length==s.cols.length)=true:=by grind
  obtain⟨hx,hy⟩:=qw;have hp:=Bi.1 hx;have h0:0<s.cols.length:=by omega
  refine⟨Ay2 S s.cols 131 s (Mt s) (λi _=>Ay0 S s (nth s.cols i) h0),λ_=>Yg S s.errs 133 (λn=>!inR n 0 2) (λi _=>Axz S (nth s.errs i)),?_⟩;grind[Ay3,Sheet.ok]
open Go Go.Vc
def Kc (zs:List Int):List Int:=Lib.compact (zs.mergeSort λx y=>decide (x<=y))
def Ay4 (zs:List Int):(Lib.compact zs).length<=zs.length:=by
 grind[Lib.compact,Lib.compactUpTo]
theorem Ao7:∀{a b:List Int},a.Pairwise (·<·)->b.Pairwise (·<·)->(∀x,x∈a↔x∈b)->a=b
 | [],[],_,_,_=>rfl
 | [],y::b,_,_,h=>absurd ((h y).2 aC) (by simp)
 |x::a,[],_,_,h=>absurd ((h x).1 aC) (by simp)
 |x::a,y::b,ha,hb,h=>by
  obtain⟨ha1,ha2⟩:=fW.1 ha;obtain⟨ar,w6⟩:=fW.1 hb;have qw:x=y:=by grind[List.mem_cons_self]
  subst qw;congr 1;refine Ao7 ha2 w6 λz=>⟨λhz=>?_,λhz=>?_⟩
  ·grind
  grind
theorem Ahi {d:Array Int} (hs:∀i j,i<=j->j<d.size->d[i]!<=d[j]!):∀m,m<=d.size->
  (Lib.compactUpTo d m).Pairwise (·<·)/\(∀x,x∈Lib.compactUpTo d m↔∃i,i<m/\d[i]! =x)/\(0<m->∀x∈Lib.compactUpTo d m,x<=d[m - 1]!)
 |0,_=>by
  refine⟨by simp[Lib.compactUpTo],λx=>?_,λh=>absurd h (gN _)⟩;simp[Lib.compactUpTo]
 |m+1,hm=>by
  obtain⟨h1,h2,h3⟩:=Ahi hs m (by omega);rw[Lib.compactUpTo_succ];cases hk:Lib.keeps d m with
  |true=>
   simp only[eV];refine⟨?_,λx=>?_,λ_ x hx=>?_⟩
   ·rw[List.pairwise_append];refine⟨h1,List.pairwise_singleton _ _,λx hx y hy=>?_⟩;rw[aZ.1 hy];rcases gY m with h0|h0
    ·grind
    ·have ha:=h3 h0 x hx;have hb:=hs (m - 1) m (by omega) (by omega);grind[Lib.keeps]
   ·grind
   ·obtain⟨i,hi,rfl⟩:∃i,i<m+1/\d[i]! =x:=by
     grind
    grind
  |false=>
   grind[Lib.keeps]
def Ay5 (zs:List Int):(Kc zs).Pairwise (·<·)/\∀x,x∈Kc zs↔x∈zs:=by
 unfold Kc Lib.compact;have hp:(zs.mergeSort λx y=>decide (x<=y)).Pairwise λx y=>decide (x<=y)=true:=
  List.pairwise_mergeSort (λa b c h1 h2=>by grind) (λa b=>by simp;omega) zs
 have v6:∀x,x∈zs.mergeSort (λx y=>decide (x<=y))↔x∈zs:=λx=>(List.mergeSort_perm zs _).mem_iff;generalize hl:(zs.mergeSort λx y=>decide (x<=y))=l at hp v6
 grind[Nat.lt_or_ge,List.pairwise_iff_getElem,Ahi,List.getElem_of_mem]
theorem Ay6 {l:List Int} {k:Nat} {n x:Int}:x∈l.take k++[n]++l.drop k↔x∈l∨x=n:=by
 grind[List.take_append_drop]
theorem Ao8 {n:Int}:∀{l:List Int},l.Pairwise (·<·)->n ∉ l->(l.take (Pq l n)++[n]++l.drop (Pq l n)).Pairwise (·<·)
 | [],_,_=>by simp
 |y::l,h,hn=>by
  obtain⟨h1,h2⟩:=fW.1 h;have hy:n≠y:=λhh=>hn (by grind)
  by_cases hc:y<n
  ·have e:Pq (y::l) n=bif decide (y<n) then Pq l n+1 else 0:=rfl;rw[eR hc,bA]at e;rw[e,List.take_succ_cons,List.drop_succ_cons,bZ,bZ,fW];refine⟨λz hz=>?_,Ao8 h2 λhh=>hn (aU _ hh)⟩;grind
  ·have e:Pq (y::l) n=bif decide (y<n) then Pq l n+1 else 0:=rfl;grind
theorem Ac2 {l:List Int} (h:l.Pairwise (·<·)) (n:Int):(Ln l n).Pairwise (·<·)/\∀x,x∈Ln l n↔x∈l∨x=n:=by
 grind[Ln,Ac0,Ao8,Ay6]
theorem Ao9 {out:List Int} (h:out.Pairwise (·<·)) (c:Int):∀k,(Oh out c k).Pairwise (·<·)/\∀x,x∈Oh out c k↔x∈out∨∃j,j<k/\nth (Ru c) j=x/\Pr c x=true
 |0=>⟨h,λx=>⟨.inl,λhx=>hx.elim id λ⟨j,hj,_⟩=>absurd hj (aV _)⟩⟩
 |k+1=>by
  obtain⟨h1,h2⟩:=Ao9 h c k;grind[Oh,Ac2]
def Ac3 (s:Sheet) (row j:Nat) (x:Int):Prop:=x=cell s j row∨(0<row/\x=cell s j (row - 1))∨∃k,k<7/\nth (Ru (cell s j row)) k=x/\Pr (cell s j row) x=true
theorem Ahj (s:Sheet) (row:Nat):∀i,(Ms s row i).Pairwise (·<·)/\∀x,x∈Ms s row i↔∃j,j<i/\Ac3 s row j x
 |0=>⟨List.Pairwise.nil,λx=>⟨λh=>absurd h eP,λ⟨j,hj,_⟩=>absurd hj (aV _)⟩⟩
 |i+1=>by
  obtain⟨h1,h2⟩:=Ahj s row i;have h3:(Rv s row (Ms s row i) i).Pairwise (·<·)/\∀x,x∈Rv s row (Ms s row i) i↔x∈Ms s row i∨x=cell s i row∨(0<row/\x=cell s i (row - 1)):=by grind[Ac2,Rv,Kr]
  obtain⟨h4,h5⟩:=h3;obtain⟨h6,h7⟩:=Ao9 h4 (cell s i row) 7;refine⟨h6,λx=>?_⟩
  show x∈Oh (Rv s row (Ms s row i) i) (cell s i row) 7↔_
  rw[h7,h5,h2];constructor
  ·rintro ((⟨j,hj,hx⟩|hx|hx)|hx)
   ·grind
   ·exact⟨i,by omega,.inl hx⟩
   ·exact⟨i,by omega,.inr (.inl hx)⟩
   ·exact⟨i,by omega,.inr (.inr hx)⟩
  ·rintro⟨j,hj,hx⟩;rcases bL j i with h|h
   ·grind
   ·have:j=i:=by omega
    subst this;rcases hx with hx|hx|hx
    ·omega
    ·omega
    grind
def Aoa (s:Sheet) (row:Nat):(Gg s row).Pairwise (·<·):=(Ahj s row _).1
def Aob (s:Sheet) (row:Nat) (x:Int):x∈Gg s row↔∃j,j<s.cols.length/\Ac3 s row j x:=(Ahj s row _).2 x
theorem Aoc {x c:Int}:(Abu x c != 0)=(Hb x c||Iq x c||c==-x):=by
 grind[Abu]
def dig {m p q r:Int} (hp:0<=p/\p<=9) (hq:0<=q/\q<=9) (hr:0<=r/\r<=9) (h:m=100*p+10*q+r):m / 100=p/\m / 10 % 10=q/\m % 10=r:=by
 omega
def Aod {m:Int} (h0:0<=m) (h:m<=999):∃p q r:Int,(0<=p/\p<=9)/\(0<=q/\q<=9)/\(0<=r/\r<=9)/\m=100*p+10*q+r:=
 ⟨m / 100,m / 10 % 10,m % 10,by omega,by omega,by omega,by omega⟩
theorem Uo {n p q r:Int} (hp:0<=p/\p<=9) (hq:0<=q/\q<=9) (hr:0<=r/\r<=9) (h:ab n=100*p+10*q+r):fA n=p/\fB n=q/\fC n=r:=dig hp hq hr h
theorem Yi {ah a b c:Int} (h:ah<0):sg ah a b c=-(100*a+10*b+c):=by unfold sg;omega
theorem Yj {ah a b c:Int} (h:¬ah<0):sg ah a b c=100*a+10*b+c:=by unfold sg;omega
theorem Ay7 {x c:Int} (hx:num x=true) (h:Hb x c=true):c∈Ip x/\x∈Ip c:=by
 have hx:=Ka.1 hx;have h0:0<=ab x:=by unfold ab;omega
 have h1:ab x<=999:=by unfold ab;omega
 obtain⟨p,q,r,hp,hq,hr,he⟩:=Aod h0 h1;obtain⟨e1,e2,e3⟩:=Uo hp hq hr he;unfold Hb at h;rw[e1,e2,e3,bW,dI,dI]at h;refine⟨by grind[Ip],?_⟩
 by_cases hn:x<0
 ·have wd:x=-(100*p+10*q+r):=by grind[ab]
  rw[Yi hn,Yi hn]at h;rcases h with h|h
  ·have hc:c<0:=by omega
   grind[Uo,ab,Ip,Yi]
  ·have hc:c<0:=by omega
   grind[Uo,ab,Ip,Yi]
 ·have wd:x=100*p+10*q+r:=by grind[ab]
  rw[Yj hn,Yj hn]at h;rcases h with h|h
  ·have hc:¬c<0:=by omega
   obtain⟨f1,f2,f3⟩:=Uo (n:=c) hq hp hr (by unfold ab;omega);grind[Ip,Yj]
  ·have hc:¬c<0:=by omega
   obtain⟨f1,f2,f3⟩:=Uo (n:=c) hp hr hq (by unfold ab;omega);grind[Ip,Yj]
theorem Ay8 {x c:Int} (hx:num x=true) (h:Iq x c=true):x=c+10∨x=c - 10∨x=c+100∨x=c - 100:=by
 have hx:=Ka.1 hx;have h0:0<=ab x:=by unfold ab;omega
 have h1:ab x<=999:=by unfold ab;omega
 obtain⟨p,q,r,hp,hq,hr,he⟩:=Aod h0 h1;grind[Uo,Iq,Yi,ab,Yj]
def Ay9 {x c:Int} (hx:num x=true) (h:(Abu x c != 0)=true):x∈Ru c:=by
 grind[Aoc,Ru,Ay7,Ay8]
theorem Ahk {α:Type} [Inhabited α] {l:List α} {x:α} (h:x∈l):∃k,k<l.length/\nth l k=x:=by
 obtain⟨k,hk,rfl⟩:=List.getElem_of_mem h;exact⟨k,hk,Ge hk⟩
theorem Ac4 (s:Sheet) (row j:Nat) (x:Int):Ac3 s row j x↔x=cell s j row∨(0<row/\x=cell s j (row - 1))∨Pr (cell s j row) x=true:=by
 unfold Ac3;constructor
 ·grind
 ·rintro (h|h|h)
  ·exact .inl h
  ·omega
  ·refine .inr (.inr ?_);have h':=h;unfold Pr at h';rw[aE]at h';obtain⟨k,hk,he⟩:=Ahk (Ay9 h'.1 h'.2);grind[Axw]
def nums:List Int:=(List.range 1999).map λk:Nat=>Au+(k:Int)
theorem Aya {x:Int}:x∈nums↔num x=true:=by
 unfold nums Au;rw[Ka,dL];constructor
 ·grind
 ·intro h;exact⟨(x+999).toNat,bB.2 (by omega),by omega⟩
def Up (n x:Int):Bool:=x != n&&(Hb x n||Iq x n||n==-x)
def Ir (n:Int):List Int:=n::nums.filter (Up n)
theorem Ahl {n x:Int}:x∈Ir n↔x=n∨Pr n x=true:=by
 grind[Ir,Pr,Aya,Aoc,Up]
def Ew (s:Sheet) (row:Nat):List Int:=(Dg s row).flatMap Ir++bif Nat.blt 0 row then Dg s (row - 1) else []
theorem Yk {s:Sheet} {row:Nat} {x:Int}:x∈Dg s row↔∃j,j<s.cols.length/\x=cell s j row:=by
 unfold Dg cell;grind[Ahk,Fj]
theorem Aoe {s:Sheet} {row:Nat} {x:Int}:x∈Ew s row↔x∈Gg s row:=by
 unfold Ew;rw[cP,dR,Aob];constructor
 ·rintro (⟨n,hn,hx⟩|hx)
  ·obtain⟨j,hj,rfl⟩:=Yk.1 hn;refine⟨j,hj,(Ac4 ..).2 ?_⟩;grind[Ahl]
  ·by_cases hr:0<row
   ·rw[Kr hr,bA]at hx;obtain⟨j,hj,rfl⟩:=Yk.1 hx;exact⟨j,hj,(Ac4 ..).2 (.inr (.inl ⟨hr,rfl⟩))⟩
   grind[Mp]
 ·rintro⟨j,hj,hx⟩;rcases (Ac4 ..).1 hx with h|⟨hr,h⟩|h
  ·exact .inl ⟨_,Yk.2 ⟨j,hj,rfl⟩,Ahl.2 (.inl h)⟩
  ·grind[Kr,Yk]
  ·exact .inl ⟨_,Yk.2 ⟨j,hj,rfl⟩,Ahl.2 (.inr h)⟩
def Aof {l m:List Int} (h:∀x,x∈l->x∈m):Dk l<=Dk m:=by
 rcases bL (Fs m) (Fs l) with hlt|dr
 ·have h1:=Ac0.2 (h _ (Ac0.1 (Ahh hlt)));grind[Ac1,Dk]
 grind[Dk]
theorem Ayb {l m:List Int} (h:∀x,x∈l↔x∈m):Dk l=Dk m:=
 Int.le_antisymm (Aof λx hx=>(h x).1 hx) (Aof λx hx=>(h x).2 hx)
theorem Aog (s:Sheet) (row:Nat):Dk (Ew s row)=Dk (Gg s row):=by grind[Ayb,Aoe]
theorem Aoh {s:Sheet} {row:Nat} {x:Int}:x∈Ji s row↔x∈Gg s row∨x=Dk (Gg s row):=(Ac2 (Aoa s row) _).2 x
theorem Ayc (s:Sheet) (row:Nat):(Ji s row).Pairwise (·<·):=(Ac2 (Aoa s row) _).1
theorem listP (s:Sheet) (row:Nat):Kc (Ew s row++[Dk (Ew s row)])=Ji s row:=by
 obtain⟨h1,h2⟩:=Ay5 (Ew s row++[Dk (Ew s row)]);grind[Ao7,Ayc,Aoh,Aoe,Aog]
def wrongTo (c own:List Int):Nat->Nat
 |0=>0
 |k+1=>wrongTo c own k+bif nth own k != nth c k then 1 else 0
def Jj (l:List Int):Nat->Int
 |0=>0
 |k+1=>Jj l k+nth l k
def Ayd {Gl} (S:SP Gl) (s:Sheet):CR Gl 242 [Dr s] (I (bif s.ok then 0 else 2)):=by
 refine Ao S (rt (B (Sheet.ok s)) (.br .nil .nil)) (CR Gl 55 [Dr s] (B (Sheet.ok s))/\((!Sheet.ok s)=true->(2:Int)=bif Sheet.ok s then (0:Int) else (2:Int))/\((!Sheet.ok s)=false->(0:Int)=bif Sheet.ok s then (0:Int) else (2:Int))) Tryz.func242 ?_;simp only[stdS,aL,aB,and_true];grind[Ao6]
theorem Aoi:∀(p:List Int) (x:Int) (e:List Int),Bm (p++x::e) p.length=Bm (x::e) 0:=by
 grind[nth,Nat.eq_of_beq_eq_true,Nat.beq_refl,Bm]
def Rw (c own:List Int) (k:Nat) (m:Int):Prop:=(∀i,i<k->Jh c own i=true)/\(wrongTo c own k:Int)<=m
def Ahm {s:Sheet} {p e left:List Int} {x:Int} {h r:Nat} (hp:p.length=r) (hh:h<left.length):
  (okH s (x::e) r left h=true/\Rw (p++x::e) (nth s.cols h) r (nth (Cy s (x::e) r left) h))↔Rw (p++x::e) (nth s.cols h) (r+1) (nth left h):=by
 have h1:nth (p++x::e) r=x:=by rw[<-hp,Km (aI _),eK];rfl
 have h2:Bm (p++x::e) r=Bm (x::e) 0:=by grind[Aoi]
 have h3:nth (Cy s (x::e) r left) h=Ks s (x::e) r left h:=by grind[Cy,Hq,Cc]
 have h4:wrongTo (p++x::e) (nth s.cols h) (r+1)=wrongTo (p++x::e) (nth s.cols h) r+bif nth (nth s.cols h) r != x then 1 else 0:=by grind[wrongTo]
 grind[Jh,nth,okH,Ks,Nat.lt_or_ge,Rw]
theorem Uq (s:Sheet) (now:List Int) (r:Nat) (left:List Int):(Cy s now r left).length=left.length:=by
 grind[Cy]
def Aoj {s:Sheet} {now left:List Int} {r:Nat} (n6:okAll s now r left=true) (h0:∀h,h<left.length->0<=nth left h):∀h,h<(Cy s now r left).length->0<=nth (Cy s now r left) h:=by
 intro h hh;rw[Uq]at hh;have h3:nth (Cy s now r left) h=Ks s now r left h:=by grind[Cy,Hq,Cc]
 have h1:okH s now r left h=true:=aS.1 n6 h (bB.2 hh);grind[Ks,okH]
theorem Ahn (s:Sheet) (all:List (List Int)):∀(r:Nat) (e left c:List Int),(∀h,h<left.length->0<=nth left h)->
  (c∈Gj s all r e left↔∃p:List Int,c=p++e/\p.length=r/\(∀i,i<r->nth p i∈nth all i)/\∀h,h<left.length->Rw c (nth s.cols h) r (nth left h))
 |0,e,left,c,h0=>by
  show c∈[e]↔_
  rw[aZ];constructor
  ·rintro rfl;exact⟨[],rfl,rfl,λi hi=>absurd hi (aV _),λh hh=>⟨λi hi=>absurd hi (aV _),h0 h hh⟩⟩
  grind
 |r+1,e,left,c,h0=>by
  show c∈(nth all r).flatMap (λx=>bif okAll s (x::e) r left then Gj s all r (x::e) (Cy s (x::e) r left) else [])↔_
  rw[dR];constructor
  ·rintro⟨x,hx,hc⟩;cases n6:okAll s (x::e) r left with
   |false=>grind
   |true=>
    rw[n6,bA,Ahn s all r (x::e) _ c (Aoj n6 h0)]at hc;obtain⟨p,rfl,hp,hm,ox⟩:=hc;refine⟨p++[x],by grind,by simp[hp],λi hi=>?_,λh hh=>?_⟩
    ·rcases bL i r with hl|hl
     ·grind[Mn]
     ·have:i=r:=by omega
      subst this;rw[Km (by omega),hp,eK];exact hx
    ·exact (Ahm hp hh).1 ⟨aS.1 n6 h (bB.2 hh),ox h (by rw[Uq];exact hh)⟩
  ·rintro⟨q,rfl,hq,hm,ox⟩;obtain⟨p,x,rfl⟩:∃p x,q=p++[x]:=by
    rcases List.eq_nil_or_concat q with h|⟨p,x,h⟩
    ·grind
    grind
   have hp:p.length=r:=by grind
   have hxr:nth (p++[x]) r=x:=by rw[Km (by omega),hp,eK];rfl
   have e1:p++[x]++e=p++x::e:=by grind
   rw[e1]at ox ⊢;have n6:okAll s (x::e) r left=true:=aS.2 λh hh=>((Ahm hp (bB.1 hh)).2 (ox h (bB.1 hh))).1;refine⟨x,by grind,?_⟩;rw[n6,bA,Ahn s all r (x::e) _ _ (Aoj n6 h0)];refine⟨p,rfl,hp,λi hi=>?_,λh hh=>?_⟩
   ·grind[Mn]
   ·rw[Uq]at hh;exact ((Ahm hp hh).2 (ox h hh)).2
def Be (s:Sheet):List (List Int):=Gj s (Fk s) (rows s) [] s.errs
theorem Aho {s:Sheet} {r:Nat} (h:r<rows s):nth (Fk s) r=Ji s r:=by
 grind[Fk,Hq,Cc]
theorem Ahp (r l:List Int):∀k,(Ct r l k).length=wrongTo r l k
 |0=>rfl
 |k+1=>by
  have ih:=Ahp r l k;grind[Ct,wrongTo]
def Aok {s:Sheet} {c:List Int} (hc:c.length=rows s) (h:Nat):Kq s c h=true↔Rw c (nth s.cols h) (rows s) (nth s.errs h):=by
 unfold Kq Rw;rw[aE,aN];have h1:Dw c (col s h)=true↔∀i,i<rows s->Jh c (nth s.cols h) i=true:=by
  unfold Dw;rw[aS,hc];exact⟨λg i hi=>g i (bB.2 hi),λg i hi=>g i (bB.1 hi)⟩
 rw[<-h1];constructor
 ·rintro⟨g1,g2⟩;refine⟨g1,?_⟩;unfold Cd at g2;rw[g1,bA,Ahp,hc]at g2;exact g2
 ·rintro⟨g1,g2⟩;refine⟨g1,?_⟩;unfold Cd;rw[g1,bA,Ahp,hc];exact g2
theorem Aye {s:Sheet} {c:List Int} (hc:c.length=rows s):Lm s c=true↔∀h,h<s.cols.length->Rw c (nth s.cols h) (rows s) (nth s.errs h):=by
 unfold Lm;rw[aS];exact⟨λg h hh=>(Aok hc h).1 (g h (bB.2 hh)),λg h hh=>(Aok hc h).2 (g h (bB.1 hh))⟩
def Ayf {s:Sheet} (hs:s.ok=true) (c:List Int):c∈Be s↔c.length=rows s/\(∀i,i<rows s->nth c i∈Ji s i)/\Lm s c=true:=by
 obtain⟨l1,l2,l3,l4⟩:=Ll hs;unfold Be;rw[Ahn s _ _ _ _ _ λh hh=>(Kp (l4 h (by omega))).2.2.2.2.1];grind[Aye,Aho]
theorem Ayg {s:Sheet} (hs:s.ok=true) (r:Nat):num (Dk (Gg s r))=true:=by
 grind[Ac1,Ao2,Ka,Dk,Au]
def isR (s:Sheet) (c:List Int):Prop:=c.length=rows s/\c.all num=true/\Lm s c=true
theorem Ayh {s:Sheet} (hs:s.ok=true) {r:Nat} (hr:r<rows s) {x:Int} (hx:x∈Gg s r):num x=true:=by
 obtain⟨l1,l2,l3,l4⟩:=Ll hs;obtain⟨h,hh,hc⟩:=(Aob s r x).1 hx;obtain⟨c1,c2,_⟩:=Kp (l4 h hh);have e9:∀i,i<rows s->num (cell s h i)=true:=λi hi=>Aby c2 i (by omega);grind[Ac4,Pr]
theorem Aol {s:Sheet} (hs:s.ok=true) {r:Nat} (hr:r<rows s) {x:Int} (hx:x∈Ji s r):num x=true:=by
 grind[Aoh,Ayh,Ayg]
def Ayi {s:Sheet} (hs:s.ok=true) {c:List Int} (h:c∈Be s):isR s c:=by
 obtain⟨h1,h2,h3⟩:=(Ayf hs c).1 h;refine⟨h1,aS.2 λx hx=>?_,h3⟩;grind[Ahk,Aol]
def Bq {α:Type} [Inhabited α] (fi:α->α->Bool) (l:List α):Nat->α
 |0=>nth l 0
 |k+1=>bif fi (nth l (k+1)) (Bq fi l k) then nth l (k+1) else Bq fi l k
def Cz {α:Type} [Inhabited α] (fi:α->α->Bool) (l:List α):α:=Bq fi l (l.length - 1)
theorem Aom (l:List (List Int)):∀k,Un l (k+1)=Bq ltL l k
 |0=>by
  show (bif ltL (nth l 0) (nth l 0) then nth l 0 else nth l 0)=nth l 0
  grind
 |k+1=>by
  have ih:=Aom l k
  show (bif ltL (nth l (k+1)) (Un l (k+1)) then nth l (k+1) else Un l (k+1))=_
  rw[ih]
  rfl
def Ayj {l:List (List Int)} (h:0<l.length):Cz ltL l=Yh l:=by
 grind[Cz,Yh,Aom,Nat.sub_add_cancel]
theorem Ayk {s:Sheet} (hs:s.ok=true) (r:Nat):(Ji s r).length<=28:=by
 grind[Anx,Ao2,Ji]
def Ayl {s:Sheet} (hs:s.ok=true) {i:Nat} (hi:i<(Be s).length):(nth (Be s) i).length=rows s/\(nth (Be s) i).all num=true:=by
 have:=Ayi hs (Fj hi);exact⟨this.1,this.2.1⟩
def Aon {s:Sheet} (hs:s.ok=true) (r:Nat):(nth (Fk s) r).length<=28/\(nth (Fk s) r).all num=true:=by
 by_cases hr:r<rows s
 ·grind[Aho,Ayk,Aol]
 ·have:nth (Fk s) r=[]:=by
   unfold nth Fk;rw[bU,gK (by grind)]
   rfl
  grind
def Hd (l:List Int) (row:Nat) (kind:Int):List Int:=
 bif kind==1 then Ip (nth l row) else bif kind==2 then Gf (nth l row) else bif kind==3 then [-nth l row] else bif kind==4 then (bif decide (row+1<l.length) then [nth l (row+1)] else []) else []
def Gn (l:List Int) (row:Nat) (kind:Int) (l9:Bool):Int:=bif l9 then nth (Hd l row kind) ((Hd l row kind).length - 1) else nth (Hd l row kind) 0
def Ch (l:List Int) (row:Nat) (kind:Int):Bool:=!((Hd l row kind).length==0)
theorem Aym {Gl} (S:SP Gl) (l:List Int) (row:Nat) (kind:Int) (l9:Bool) (hr:row<l.length) (hl:l.length<=1000) (hn:l.all num=true):CR Gl 27 [L eI l,I row,I kind,B l9] (.tup [.c (Ci (bif Ch l row kind then Gn l row kind l9 else 0)),.c (Cb (Ch l row kind))]):=by
 refine Ag S (let A9:=(row:Int);let A8:=(0:Int);let A7:=false=Ch l row kind;let A5:=true=Ch l row kind;let A4:=(↑(2:Nat):Int);let A3:=(↑(1:Nat):Int);let A2:=Ip (nth l row);let A6:=T.tkd 3 1 (List.length A2) λi=>eI (nth A2 i);let A1:=Gf (nth l row);let A0:=(↑(List.length A1):Int);let P0:=λ(zz:Prop)=>(A8=bif Ch l row kind then Gn l row kind l9 else A8)/\zz;let P1:=λ(zz:Prop)=>(nth l (Int.toNat (A9+1))=bif Ch l row kind then Gn l row kind l9 else A8)/\zz;let P2:=λ(zz:Prop)=>iR (A3-1)/\(0<=A3-1/\A3-1<A3)/\zz;let P3:=λ(zz:Prop)=>(-nth l row=bif Ch l row kind then Gn l row kind l9 else A8)/\zz;let P4:=λ(zz:Prop)=>(0<=A9/\A9<l.length)/\zz;((.br (rt A6 (.ff (.br .nil .nil))) (.br (rt (L eI A1) (.br .nil (.br .nil .nil))) (.br (.ff (.br .nil .nil)) (.br (.br (.ff (.br .nil .nil)) (.tt .nil)) (.tt .nil))))),(((kind==(1:Int))=true->P4 (CR Gl 83 [I (nth l row)] A6/\(2<=maxLen->false=false/\(l9=true->2<=maxLen->iR (A4-1)/\(0<=A4-1/\A4-1<A4)/\(nth A2 (Int.toNat (A4-1))=bif Ch l row kind then Gn l row kind l9 else A8)/\true=Ch l row kind)/\(l9=false->(A8<=0/\0<A4)/\(nth A2 (Int.toNat 0)=bif Ch l row kind then Gn l row kind l9 else A8)/\true=Ch l row kind))))/\((kind==(1:Int))=false->((kind==(2:Int))=true->P4 (CR Gl 84 [I (nth l row)] (L eI A1)/\(List.length A1<=maxLen->((A0==0)=true->P0 A7)/\((A0==0)=false->(l9=true->List.length A1<=maxLen->iR (A0-1)/\(0<=A0-1/\A0-1<A0)/\(nth A1 (Int.toNat (A0-1))=bif Ch l row kind then Gn l row kind l9 else A8)/\true=Ch l row kind)/\(l9=false->(A8<=0/\0<A0)/\(nth A1 (Int.toNat 0)=bif Ch l row kind then Gn l row kind l9 else A8)/\true=Ch l row kind)))))/\((kind==(2:Int))=false->((kind==(3:Int))=true->P4 (iR (-nth l row)/\(1<=maxLen->false=false/\(l9=true->1<=maxLen->P2 (P3 A5))/\(l9=false->(A8<=0/\0<A3)/\P3 A5))))/\((kind==(3:Int))=false->((kind==(4:Int))=true->iR (A9+1)/\(l.length<=maxLen->(decide ((row:Int)+1<l.length)=true->iR (A9+1)/\(0<=A9+1/\A9+1<l.length)/\(1<=maxLen->false=false/\(l9=true->1<=maxLen->P2 (P1 A5))/\(l9=false->(A8<=0/\0<A3)/\P1 A5)))/\(decide ((row:Int)+1<l.length)=false->0<=maxLen->true=true/\P0 A7)))/\((kind==(4:Int))=false->0<=maxLen->true=true/\P0 A7))))))) Tryz.func27 ?_
 dsimp only;have hx:=Aby hn row hr;have gq:=Ka.1 hx;have w1:(kind==1)=true->Hd l row kind=Ip (nth l row):=λh=>by grind[Hd]
 have w2:(kind==1)=false->(kind==2)=true->Hd l row kind=Gf (nth l row):=λh h2=>by grind[Hd]
 have w3:(kind==1)=false->(kind==2)=false->(kind==3)=true->Hd l row kind=[-nth l row]:=λh h2 h3=>by grind[Hd]
 have w4:(kind==1)=false->(kind==2)=false->(kind==3)=false->(kind==4)=true->Hd l row kind=bif decide (row+1<l.length) then [nth l (row+1)] else []:=λh h2 h3 h4=>by grind[Hd]
 have w5:(kind==1)=false->(kind==2)=false->(kind==3)=false->(kind==4)=false->Hd l row kind=[]:=λh h2 h3 h4=>by grind[Hd]
 have key:∀X,Hd l row kind=X->0<X.length->true=Ch l row kind/\(l9=true->nth X (X.length - 1)=bif Ch l row kind then Gn l row kind l9 else 0)/\(l9=false->nth X 0=bif Ch l row kind then Gn l row kind l9 else 0):=λX hX h0=>by
  grind[Ch,Gn]
 have key0:Hd l row kind=[]->(0:Int)=(bif Ch l row kind then Gn l row kind l9 else 0)/\false=Ch l row kind:=λh=>by
  grind[Ch]
 simp only[stdS,aL,aB,and_true];have e1:((row:Int)+1).toNat=row+1:=by omega
 refine⟨λh1=>⟨⟨by omega,by omega⟩,Axn S _ hx,λ_=>?_⟩,λh1=>⟨λh2=>⟨⟨by omega,by omega⟩,Axo S _ hx,λ_=>⟨λhz=>?_,λhz=>?_⟩⟩,λh2=>⟨λh3=>⟨⟨by omega,by omega⟩,(Ad _).2 (by omega),λ_=>?_⟩,λh3=>⟨λh4=>⟨(Ad _).2 (by omega),λhm=>⟨λhd=>⟨(Ad _).2 (by omega),⟨by omega,bY hd⟩,λ_=>?_⟩,λhd _=>?_⟩⟩,λh4=>?_⟩⟩⟩⟩
 ·obtain⟨k1,k2,k3⟩:=key _ (w1 h1) (by show 0<2;decide);exact⟨λhs _=>⟨(Ad _).2 (by decide),by decide,k2 hs,k1⟩,λhs=>⟨by decide,k3 hs,k1⟩⟩
 ·have:Gf (nth l row)=[]:=bX (by grind);grind
 ·have h0:0<(Gf (nth l row)).length:=by grind
  have i9:(Gf (nth l row)).length<=2:=by grind[Gf]
  obtain⟨k1,k2,k3⟩:=key _ (w2 h1 h2) h0;have et:(((Gf (nth l row)).length:Int) - 1).toNat=(Gf (nth l row)).length - 1:=by omega
  grind[Ad]
 ·obtain⟨k1,k2,k3⟩:=key _ (w3 h1 h2 h3) (by grind);exact⟨λhs _=>⟨(Ad _).2 (by decide),by decide,k2 hs,k1⟩,λhs=>⟨by decide,k3 hs,k1⟩⟩
 ·have hlt:decide (row+1<l.length)=true:=by grind
  have hw:=w4 h1 h2 h3 h4;rw[hlt,bA]at hw;obtain⟨k1,k2,k3⟩:=key _ hw (by grind);rw[e1];exact⟨λhs _=>⟨(Ad _).2 (by decide),by decide,k2 hs,k1⟩,λhs=>⟨by decide,k3 hs,k1⟩⟩
 ·grind
 grind
def Fl (n:Int) (k:Nat):List Int:=n::(nums.take k).filter (Up n)
def Aoo (n:Int) (k:Nat):(Fl n k).length<=2000:=by
 grind[Fl,nums]
theorem Aop:nums.length=1999:=by grind[nums]
theorem Ayn {k:Nat} (h:k<1999):nth nums k=Au+(k:Int):=by
 grind[nums,Hq,Cc]
def Ayo {n:Int} {k:Nat} (h:k<1999):Fl n (k+1)=Fl n k++bif Up n (Au+(k:Int)) then [Au+(k:Int)] else []:=by
 grind[Fl,take_succ,Aop,Ayn,List.filter_cons_of_pos]
def Aoq (n:Int):Fl n 1999=Ir n:=by
 grind[Fl,Ir,Aop]
theorem Ayp {Gl} (S:SP Gl) (n:Int):CR Gl 228 [I n] (L eI (Ir n)):=by
 refine Ag S (let A6:=λ(k0:Nat)=>(Au+(k0:Int));let A7:=λ(k0:Nat)=>bif Hb (A6 k0) n then true else Iq (A6 k0) n;let A5:=λ(k0:Nat)=>Au+(k0:Int) != n;let A4:=λ(k0:Nat)=>bif Au+(k0:Int) != n then bif bif Hb (A6 k0) n then true else Iq (A6 k0) n then true else n==-(A6 k0) else false;let A3:=λ(k0:Nat)=>Rt.mk (A6 k0) 0 true;let A2:=λ(k0:Nat)=>eqB (A5 k0) true&&eqB (Hb (A6 k0) n) false;let A1:=λ(k0:Nat)=>eqB (A5 k0) true=true->eqB (A5 k0) true=true;let A0:=λ(k0:Nat)=>eqB (A5 k0) true&&eqB (A7 k0) false;((.loop 1999 (λk=>[v 4 (I (Au+(k:Int))),tk 7 3,v 3 (Lt 7 eI (Fl n k)),v 0 (I n)]) λk0=>.br (rs [B (Hb (Rt.n (A3 k0)) n),B (Iq (Rt.n (A3 k0)) n),B (n==-Rt.n (A3 k0))] (.br .nil .nil)) .nil),(((-999:Int)=Au+(↑(0:Nat):Int)/\(SEq 1 (gD [mI n]) (ln (Fl n 0)) λi=>eI (nth (Fl n 0) i))/\n=n)/\∀(k0:Nat),k0<=1999->(decide (Au+(k0:Int)<=999)=true->(A1 k0)/\(A1 k0)/\(eqB (A5 k0) true=true->CR Gl 190 [tRt (A3 k0),I n] (B (Hb (Rt.n (A3 k0)) n)))/\(A1 k0)/\((A2 k0)=true->(A2 k0)=true)/\((A2 k0)=true->(A2 k0)=true)/\((A2 k0)=true->CR Gl 191 [tRt (A3 k0),I n] (B (Iq (Rt.n (A3 k0)) n)))/\(A1 k0)/\(eqB (A5 k0) true=true->Hb (A6 k0) n=false->(A2 k0)=true)/\(A1 k0)/\((A0 k0)=true->(A0 k0)=true)/\((A0 k0)=true->(A0 k0)=true)/\((A0 k0)=true->CR Gl 192 [tRt (A3 k0),I n] (B (n==-Rt.n (A3 k0))))/\(A1 k0)/\(eqB (A5 k0) true=true->(A7 k0)=false->(A0 k0)=true)/\((A5 k0)=true->eqB (A5 k0) true=true)/\((A4 k0)=true->cp (ln (Fl n k0)+1) (iR (Au+(k0:Int)+1)/\k0<1999/\Au+(k0:Int)+1=Au+(↑(k0+1):Int)/\(SEq (ln (Fl n k0)+1) (An (ln (Fl n k0)) (λi=>eI (nth (Fl n k0) i)) (gD [mI (A6 k0)])) (ln (Fl n (k0+1))) λi=>eI (nth (Fl n (k0+1)) i))/\n=n))/\((A4 k0)=false->iR (Au+(k0:Int)+1)/\k0<1999/\Au+(k0:Int)+1=Au+(↑(k0+1):Int)/\(sQ eI (Fl n k0) (Fl n (k0+1)))/\n=n))/\(decide (Au+(k0:Int)<=999)=false->sQ eI (Fl n k0) (Ir n))))) Tryz.func228 ?_
 simp only[stdS,aL,aB,and_true];have h0:Fl n 0=[n]:=by trivial
 refine⟨⟨rfl,.of ⟨by rw[h0];rfl,λi hi=>by
  have:i=0:=by omega
  subst this;trivial⟩,trivial⟩,λk hk=>⟨λhd=>?_,λhd=>?_⟩⟩
 ·have hd:=bY hd;have e0:Au=-999:=rfl;have hlt:k<1999:=by omega
  have hx:num (Au+(k:Int))=true:=Ka.2 (by omega);have gx:=Aoo n k;have hss:=Ayo (n:=n) hlt;refine⟨λ_=>Ann S ⟨Au+(k:Int),0,true⟩ n hx,λ_=>Ano S ⟨Au+(k:Int),0,true⟩ n hx,λh1 h2=>by grind,λ_=>Anp S ⟨Au+(k:Int),0,true⟩ n hx,λh1 h2=>by grind,λhb=>?_,λhb=>?_⟩
  ·have fj:Up n (Au+(k:Int))=true:=hb;exact⟨by omega,by omega,(Ad _).2 (by omega),hlt,by omega,Eb (f:=eI) (by grind) rfl,trivial⟩
  ·have fj:Up n (Au+(k:Int))=false:=hb;exact⟨(Ad _).2 (by omega),hlt,by omega,Ax (by grind),trivial⟩
 ·have hd:=dS hd;have e0:Au=-999:=rfl;have bf:k=1999:=by omega
  rw[bf,Aoq];exact Ax rfl
theorem Ayq {Gl} (S:SP Gl) (l:List Int) (n:Int):CR Gl 315 [L eI l,I n] (I (idxI (λx=>n==x) l)):=by
 refine Ag S (let A0:=λx=>n==x;((.loop (upIdx A0 l) (λk=>[v 8 (I k),v 7 (I l.length),v 0 (L eI l),v 1 (I n)]) λk0=>.br (.br .nil .nil) .nil),(l.length<=maxLen->(lz l.length (sR eI l/\n=n))/\∀(k0:Nat),k0<=upIdx A0 l->(dt k0 l.length->(ix k0 l.length)/\((n==nth l k0)=true->(k0:Int)=idxI A0 l)/\((n==nth l k0)=false->lq k0 (upIdx A0 l) ((l.length:Int)=l.length/\sR eI l/\n=n)))/\(df k0 l.length->(-1:Int)=idxI A0 l)))) Tryz.func315 ?_;simp only[stdS,aL,aB,and_true];intro hm k hk;have:=idx_loop (λx=>n==x) l (λ_=>True) (λ_ _=>trivial) (by trivial) k hk;grind[Ad]
def Ayr {Gl} (S:SP Gl) (l:List Int) (n:Int):CR Gl 229 [L eI l,I n] (B (listed l n)):=by
 refine Ao S (rt (I (idxI (λx=>n==x) l)) .nil) (CR Gl 315 [L eI l,I n] (I (idxI (λx=>n==x) l))/\decide ((0:Int)<=idxI (λx=>n==x) l)=listed l n) Tryz.func229 ?_;grind[Ayq,idxI_spec,listed]
end Go.Vc.Zn
namespace Go.Proofs
open Go.Shelf
def Tryz.lays189_ren:Go.Shelf.Ren:=⟨λ|189=>230|125=>317|257=>316|128=>365|129=>366|294=>356|295=>357|296=>358|297=>359|298=>360|299=>361|216=>362|300=>363|301=>364|328=>392|329=>393|330=>394|331=>395|332=>396|215=>235|343=>407|n=>n,λ|28=>22|3=>3|46=>453|0=>0|51=>499|53=>501|4=>4|183=>493|182=>492|131=>93|5=>5|9=>9|218=>536|222=>540|228=>548|229=>342|n=>n,λ|n=>n⟩
theorem Tryz.lays189:Go.Proofs.Lays.n189 Tryz.prog Tryz.lays189_ren:={
 mixed:=by kernel_rfl
 f125:=Tryz.func317.trans (cD some (by kernel_rfl))
 f128:=Tryz.func365.trans (cD some (by kernel_rfl))
 f129:=Tryz.func366.trans (cD some (by kernel_rfl))
 f189:=Tryz.func230.trans (cD some (by kernel_rfl))
 f215:=Tryz.func235.trans (cD some (by kernel_rfl))
 f216:=Tryz.func362.trans (cD some (by kernel_rfl))
 f257:=Tryz.func316.trans (cD some (by kernel_rfl))
 f294:=Tryz.func356.trans (cD some (by kernel_rfl))
 f295:=Tryz.func357.trans (cD some (by kernel_rfl))
 f296:=Tryz.func358.trans (cD some (by kernel_rfl))
 f297:=Tryz.func359.trans (cD some (by kernel_rfl))
 f298:=Tryz.func360.trans (cD some (by kernel_rfl))
 f299:=Tryz.func361.trans (cD some (by kernel_rfl))
 f300:=Tryz.func363.trans (cD some (by kernel_rfl))
 f301:=Tryz.func364.trans (cD some (by kernel_rfl))
 f328:=Tryz.func392.trans (cD some (by kernel_rfl))
 f329:=Tryz.func393.trans (cD some (by kernel_rfl))
 f330:=Tryz.func394.trans (cD some (by kernel_rfl))
 f331:=Tryz.func395.trans (cD some (by kernel_rfl))
 f332:=Tryz.func396.trans (cD some (by kernel_rfl))
 f343:=Tryz.func407.trans (cD some (by kernel_rfl))
 t0:=Tryz.underlying0
 a0:=Tryz.isAgg0
 z0:=Tryz.sizeOf0
 v0:=Tryz.zeroValue0
 t3:=Tryz.underlying3
 a3:=Tryz.isAgg3
 z3:=Tryz.sizeOf3
 v3:=Tryz.zeroValue3
 t4:=Tryz.underlying4
 a4:=Tryz.isAgg4
 z4:=Tryz.sizeOf4
 v4:=Tryz.zeroValue4
 t5:=Tryz.underlying5
 a5:=Tryz.isAgg5
 z5:=Tryz.sizeOf5
 v5:=Tryz.zeroValue5
 t9:=Tryz.underlying9
 a9:=Tryz.isAgg9
 z9:=Tryz.sizeOf9
 v9:=Tryz.zeroValue9
 t28:=Tryz.underlying22
 a28:=Tryz.isAgg22
 z28:=Tryz.sizeOf22
 v28:=Tryz.zeroValue22
 t46:=Tryz.underlying453
 a46:=Tryz.isAgg453
 z46:=Tryz.sizeOf453
 v46:=Tryz.zeroValue453
 t51:=Tryz.underlying499
 a51:=Tryz.isAgg499
 z51:=Tryz.sizeOf499
 v51:=Tryz.zeroValue499
 t53:=Tryz.underlying501
 a53:=Tryz.isAgg501
 z53:=Tryz.sizeOf501
 v53:=Tryz.zeroValue501
 t131:=Tryz.underlying93
 a131:=Tryz.isAgg93
 z131:=Tryz.sizeOf93
 v131:=Tryz.zeroValue93
 t182:=Tryz.underlying492
 a182:=Tryz.isAgg492
 z182:=Tryz.sizeOf492
 v182:=Tryz.zeroValue492
 t183:=Tryz.underlying493
 a183:=Tryz.isAgg493
 z183:=Tryz.sizeOf493
 v183:=Tryz.zeroValue493
 t218:=Tryz.underlying536
 a218:=Tryz.isAgg536
 z218:=Tryz.sizeOf536
 v218:=Tryz.zeroValue536
 t222:=Tryz.underlying540
 a222:=Tryz.isAgg540
 z222:=Tryz.sizeOf540
 v222:=Tryz.zeroValue540
 t228:=Tryz.underlying548
 a228:=Tryz.isAgg548
 z228:=Tryz.sizeOf548
 v228:=Tryz.zeroValue548
 t229:=Tryz.underlying342
 a229:=Tryz.isAgg342
 z229:=Tryz.sizeOf342
 v229:=Tryz.zeroValue342 }
open Go.Sort Go.RowKit in
def Tryz.slices_Sort_int (blk off cap:Nat) (zs:List Int) (w:World) (hH:Holds (Value.int .i64) w blk off zs.toArray) (mg:blk<w.heap.size) (j9:zs.length<4611686018427387904):
  Calls Tryz.prog 230 #[.slice (some ⟨blk,off,none⟩) zs.length cap] w λe w'=>
   e=.returned (.tuple #[])/\∃n os,w'=grow (putRow (Value.int .i64) (Sort.ahead w n) blk off (zs.mergeSort λx y=>decide (x<=y)).toArray) os:=Any.slices_Sort_int Tryz.lays189 blk off cap zs w hH mg j9
def Tryz.laysNm215_ren:Go.Shelf.Ren:=⟨λ|15=>69|n=>n,λ|22=>22|3=>3|4=>4|n=>n,λ|n=>n⟩
def Tryz.laysNm215:Go.Proofs.Lays2.n15 Tryz.prog Tryz.laysNm215_ren:={
 mixed:=by kernel_rfl
 f15:=Tryz.func69.trans (cD some (by kernel_rfl))
 t3:=Tryz.underlying3
 a3:=Tryz.isAgg3
 z3:=Tryz.sizeOf3
 v3:=Tryz.zeroValue3
 t4:=Tryz.underlying4
 a4:=Tryz.isAgg4
 z4:=Tryz.sizeOf4
 v4:=Tryz.zeroValue4
 t22:=Tryz.underlying22
 a22:=Tryz.isAgg22
 z22:=Tryz.sizeOf22
 v22:=Tryz.zeroValue22
 i3:=by kernel_rfl }
open Go.RowKit Go.Lib in
def Tryz.slices_Clone_int (b off n c:Nat) (zs:List Int) (w:World) (hz:n<=zs.length) (bj:n*8<=140737488355328) (hc:∀j,j<zs.length->w.cell? ⟨b,off+j,none⟩=some (.int .i64 (zs.getD j 0))):
  Calls Tryz.prog 69 #[.slice (some ⟨b,off,none⟩) n c] w λe w'=>∃v',e=.returned v'/\w'.ownsRow w.heap.size 3 1 v' n ((zs.take n).map (Value.int .i64))/\v'≠.slice none 0 0/\Below w.heap.size w w':=Any.slices_Clone_int Tryz.laysNm215 b off n c zs w hz bj hc
def Tryz.laysNm220_ren:Go.Shelf.Ren:=⟨λ|20=>231|n=>n,λ|22=>22|3=>3|4=>4|0=>0|n=>n,λ|n=>n⟩
def Tryz.laysNm220:Go.Proofs.Lays2.n20 Tryz.prog Tryz.laysNm220_ren:={
 mixed:=by kernel_rfl
 f20:=Tryz.func231.trans (cD some (by kernel_rfl))
 t0:=Tryz.underlying0
 a0:=Tryz.isAgg0
 z0:=Tryz.sizeOf0
 v0:=Tryz.zeroValue0
 t3:=Tryz.underlying3
 a3:=Tryz.isAgg3
 z3:=Tryz.sizeOf3
 v3:=Tryz.zeroValue3
 t4:=Tryz.underlying4
 a4:=Tryz.isAgg4
 z4:=Tryz.sizeOf4
 v4:=Tryz.zeroValue4
 t22:=Tryz.underlying22
 a22:=Tryz.isAgg22
 z22:=Tryz.sizeOf22
 v22:=Tryz.zeroValue22
 i3:=by kernel_rfl }
open Go.RowKit Go.Lib Go.Sort in
def Tryz.slices_Compact_int (blk off cap:Nat) (zs:List Int) (w:World) (hH:Holds (Value.int .i64) w blk off zs.toArray) (j9:zs.length<=9223372036854775807) (ko:zs.length<=cap):
  Calls Tryz.prog 231 #[.slice (some ⟨blk,off,none⟩) zs.length cap] w λe w'=>e=.returned (.slice (some ⟨blk,off,none⟩) (Lib.compact zs).length cap)/\∃q,w'=putRow (Value.int .i64) (Sort.ahead w q) blk off (Lib.compact zs++List.replicate (zs.length - (Lib.compact zs).length) 0).toArray:=Any.slices_Compact_int Tryz.laysNm220 blk off cap zs w hH j9 ko
open Go.RowKit Go.Lib Go.Sort in
def Tryz.slices_Compact_int_empty (a:Option Addr) (cap:Nat) (w:World):
  Calls Tryz.prog 231 #[.slice a 0 cap] w λe w'=>e=.returned (.slice a 0 cap)/\w'=w:=Any.slices_Compact_int_empty Tryz.laysNm220 a cap w
open Go.RowKit Go.Sort in
def Tryz.slices_Sort_int_none (p:Option Addr) (cap:Nat) (w:World):
  Calls Tryz.prog 230 #[.slice p 0 cap] w λe w'=>e=.returned (.tuple #[])/\w'=w:=Any.slices_Sort_int_none Tryz.lays189 p cap w
end Go.Proofs
namespace Go.Vc.Zn
open Go Go.Proofs Go.Vc Go.RowKit
def fn149:Ha Tryz.prog 69:=⟨Tryz.f69,by kernel_rfl,by kernel_rfl,by kernel_rfl⟩
def Aor {Gl:World->Prop} (l:List Int) (h1:1<=l.length) (h2:l.length<=1000):CR Gl 69 [L eI l] (.own 1 l.length λi=>eI (nth l i)):=by
 refine⟨fn149,λvis w vs d8 cb f7=>?_⟩;simp only[Ac]at f7;obtain⟨v,us,ai,hv,rfl⟩:=f7;have bq:vs=#[v]:=by grind
 subst bq;simp only[Aa,Av]at hv;have i6:Rep vis w (.s .n l.length λi=>eI (nth l i)) v:=hv;generalize hn:l.length=n at i6;generalize hf:(λi=>eI (nth l i))=f at i6;cases i6 with
 |nil=>omega
 |e=>omega
 |s _ n f b off cap sz u a1 a2 a3 a4 a5 a6=>
  subst hf;have e9:∀j,j<l.length->w.cell? ⟨b,off+j,none⟩=some (.int .i64 (l.getD j 0)):=λj hj=>by
   have j9:sz=1:=(a3 j (by omega)).symm;subst j9;have h5:=a5 j 0 _ (by omega) rfl;have h6:=a6 j 0 _ (by omega) rfl;rw[fX,eB]at h5;rw[h5];generalize u j 0=uv at h6;cases h6
   rfl
  refine (Tryz.slices_Clone_int b off n cap l w (by omega) (by omega) e9).mono λen w' he=>?_;obtain⟨v',rfl,⟨gn,au⟩,s7,p8⟩:=he;refine⟨p8,v',vis,rfl,λ_ _=>rfl,λb hb=>d8 b (bJ p8.size hb),?_⟩;rcases au with ⟨h,_⟩|⟨g,cap',cur,rfl,g1,g2,g3,g4,g5,g6⟩
  ·trivial
  ·have hlt:g<w'.heap.size:=(aP.1 g2).1;refine⟨g,cur,3,(0,0),.inr ⟨cap',rfl,g3,g4,by omega⟩,g1,hlt,d8 g g1,by decide,g2,.inl rfl,by omega,λi hi=>⟨rfl,λj c hj=>?_⟩⟩;have hj0:j=0:=by
    have:j<1:=(cA.1 hj).1;omega
   subst hj0;have gh:i<l.length:=by omega
   obtain rfl:C.v (.int .i64 (nth l i))=c:=bS hj;refine⟨_,?_,.v _ rfl⟩;have ht:cur.toList[i]?=some (.int .i64 (nth l i)):=by
    have h7:(cur.toList.take (n*1))[i]?=some (.int .i64 (nth l i)):=by grind[Ge]
    rw[fU,bG (by omega)]at h7;exact h7
   grind
end Go.Vc.Zn
namespace Go.Vc
open Go Go.RowKit
section
variable {P:Program} {Y:TypeId->Ty} {a:Act} {w:World}
def raw_load1 (hY:YOK P Y) {o:Oper} {p:Operand} {t:TypeId} {b k:Nat} {u:Value} (ho:o.op=.load t p) (l8:(Y t).agg=some false) (hp:a.eval p=.pointer (some ⟨b,k,none⟩)) (hu:w.cell? ⟨b,k,none⟩=some u):
  (execOp a.eval o).run P w=.ok (.value u) w:=by
 have:=Nt hY l8 hu;simp[execOp,ho,hp,Instr.loadAt,Instr.sureAddr,this]
end
end Go.Vc
namespace Go.Vc.Zn
open Go Go.Proofs Go.Vc Go.RowKit Tryz
variable {Gl:World->Prop}
def Aos {α:Type} [Inhabited α] (enc:α->Value) (w:World) (blk off:Nat) (d:Array α) {b:Nat} (h:b≠blk):(Sort.putRow enc w blk off d).heap[b]?=w.heap[b]?:=by
 grind[Sort.putRow,Sort.mapBlock]
def Ays {vis:Nat->Nat} {w:World} {b off cap:Nat} {zs:List Int} {g:Tag} {n:Nat} {f:Nat->List C} (hn:n=zs.length) (hf:f=λi=>eI (nth zs i)) (i6:Rep vis w (.s g n f) (.slice (some ⟨b,off,none⟩) n cap)) {cs:Array Value} {t:TypeId} (hh:w.heap[b]?=some (.cells cs t (0,0))):
  Sort.Holds (Value.int .i64) w b off zs.toArray:=by
 intro j hj;have hj:j<zs.length:=by trivial
 rw[<-hn]at hj;cases i6 with
 |e=>omega
 |s _ n f b off cap sz u a1 a2 a3 a4 a5 a6=>
  subst hf;have j9:sz=1:=(a3 j hj).symm;subst j9;have h5:=a5 j 0 _ hj rfl;have h6:=a6 j 0 _ hj rfl;rw[fX,eB]at h5;refine⟨?_,by simp[World.frozen?,hh]⟩;rw[h5];have hnth:zs.toArray[j]! =nth zs j:=by grind[Ge]
  rw[hnth];generalize u j 0=uv at h6;cases h6
  rfl
def Yl (zs:List Int):List Int:=zs.mergeSort λx y=>decide (x<=y)
structure Once (X:Cx) (w w3:World) (zs:List Int) (u:Value) (vis':Nat->Nat):Prop where
 size:w.heap.size<=w3.heap.size
 os:w3.os=w.os
 tape:w3.tape=w.tape
 output:w3.output=w.output
 mark:∀D:Nat,w.heap[D]?=some (.deferred (some []))->w3.heap[D]?=w.heap[D]?
 old:∀b:Nat,b<X.base->w3.heap[b]?=w.heap[b]?
 vold:∀b,b<X.base->vis' b=X.vis b
 fresh:∀b,w3.heap.size<=b->vis' b=0
 rep:Rep vis' w3 (.l eI zs) u
variable {X:Cx} {a:Act} {w:World} {G:Gh} {e:Env} {nt:Nat}
theorem Ayt (R:Rel Y X nt [] e a w G) {zs:List Int} {u:Value} {k:Nat} (hk:k<FAR) (i9:zs.length<=1000000)
  (i6:Rep G.vis w (.s (.t k) zs.length λi=>eI (nth zs i)) u) (l7:Own G w Y k 3 zs.length (λi=>eI (nth zs i)) u):
  ∃Q:World->Prop,Calls Tryz.prog 230 #[u] w (λen w1=>en=.returned (.tuple #[])/\Q w1)/\∀w1,Q w1->(∀b',G.tk k≠some b'->b'<w.heap.size->w1.heap[b']?=w.heap[b']?)/\(∃vis',Once X w w1 (Yl zs) u vis')/\
   Calls Tryz.prog 231 #[u] w1 (λen w3=>∃u' vis',en=.returned u'/\Once X w w3 (Kc zs) u' vis'):=by
 have triv:∀(p:Option Addr) (cap:Nat),zs=[]->u=.slice p 0 cap->∃Q:World->Prop,Calls Tryz.prog 230 #[u] w (λen w1=>en=.returned (.tuple #[])/\Q w1)/\∀w1,Q w1->(∀b',G.tk k≠some b'->b'<w.heap.size->w1.heap[b']?=w.heap[b']?)/\(∃vis',Once X w w1 (Yl zs) u vis')/\
   Calls Tryz.prog 231 #[u] w1 (λen w3=>∃u' vis',en=.returned u'/\Once X w w3 (Kc zs) u' vis'):=by
  intro p cap hz hu;subst hz;subst hu;have h1:Kc []=[]:=by unfold Kc;rw[List.mergeSort_nil];rfl
  have h2:Yl []=[]:=by grind[Yl,List.mergeSort_nil]
  refine⟨λw1=>w1=w,(Tryz.slices_Sort_int_none p cap w).mono λen w1 h=>h,λw1 hw=>?_⟩;subst hw;refine⟨λ_ _ _=>rfl,⟨G.vis,aI _,rfl,rfl,rfl,λ_ _=>rfl,λ_ _=>rfl,R.old,R.fresh,by rw[h2];exact Rep.dem i6⟩,(Tryz.slices_Compact_int_empty p cap w1).mono λen w3 h=>?_⟩;obtain⟨h3,rfl⟩:=h;refine⟨_,G.vis,h3,aI _,rfl,rfl,rfl,λ_ _=>rfl,λ_ _=>rfl,R.old,R.fresh,?_⟩;rw[h1];exact Rep.dem i6
 rcases l7.2 with h|⟨h,p,hu⟩|⟨b,xs,hb,qk,au,d8⟩
 ·have hz:zs=[]:=by
   subst h;generalize hn:zs.length=n at i6;cases i6;exact bX hn
  subst hz;exact triv none 0 rfl h
 ·have hz:zs=[]:=by grind
  subst hz;exact triv p 0 rfl hu
 ·obtain⟨cap,cur,rfl,e9,hnc,fy,aw⟩:∃cap cur,u=.slice (some ⟨b,0,none⟩) zs.length cap/\w.heap[b]?=some (.cells cur 3 (0,0))/\zs.length<=cap/\cap<=maxLen/\cur.size=cap*(Y 3).size:=by
   rcases au.2 with ⟨h,_⟩|⟨g,cap,cur,hu,_,h2,h3,h4,h5,_⟩
   ·rw[h]at qk;cases qk
   grind[Value.ownBlock]
  obtain⟨t1,t2,t3,t4,t5⟩:=R.tks k b hb;have hH:=Ays rfl rfl i6 e9;refine⟨λw1=>∃n os,w1=Sort.grow (Sort.putRow (Value.int .i64) (Sort.ahead w n) b 0 (zs.mergeSort λx y=>decide (x<=y)).toArray) os,(Tryz.slices_Sort_int b 0 cap zs w hH t2 (by omega)).mono λen w1 h=>h,λw1 hw=>?_⟩;obtain⟨n,os,rfl⟩:=hw;generalize jf:(zs.mergeSort λx y=>decide (x<=y))=ys;have sm:ys.length=zs.length:=by grind[List.length_mergeSort]
  have s7:∀b':Nat,b'≠b->b'<w.heap.size->(Sort.grow (Sort.putRow (Value.int .i64) (Sort.ahead w n) b 0 ys.toArray) os).heap[b']?=w.heap[b']?:=λb' h1 h2=>by
   rw[Sort.heap_grow_old _ _ (by simpa using h2),Aos _ _ _ _ _ h1]
   rfl
  have wc:Sort.Holds (Value.int .i64) (Sort.grow (Sort.putRow (Value.int .i64) (Sort.ahead w n) b 0 ys.toArray) os) b 0 ys.toArray:=
   Sort.holds_grow _ _ _ _ _ _ (by simpa using t2) (Sort.holds_putRow _ _ _ _ zs.toArray _ (Sort.holds_ahead _ _ _ _ _ _ hH) (by trivial))
  generalize hW:Sort.grow (Sort.putRow (Value.int .i64) (Sort.ahead w n) b 0 ys.toArray) os=W at *
  have hWs:w.heap.size<=W.heap.size:=by rw[<-hW];simp
  refine⟨λb' h1 h2=>s7 b' (λhh=>h1 (by grind)) h2,⟨λx=>if x=b then ys.length else G.vis x,hWs,by rw[<-hW];rfl,by rw[<-hW];rfl,by rw[<-hW];rfl,λD hD=>?_,λb' fj=>s7 b' (by omega) (by omega),λb' fj=>?_,λb' fj=>?_,?_⟩,?_⟩
  ·grind
  ·rw[bI (by omega)];exact R.old b' fj
  ·rw[bI (by omega)];exact R.fresh b' (by omega)
  ·unfold Yl;rw[jf];have au:∀i,i<ys.length->W.cell? ⟨b,0+i,none⟩=some (.int .i64 (nth ys i)):=λi hi=>by
    rw[(wc i (by trivial)).1,Ge hi,getElem!_pos _ i (by trivial)];simp
   refine Eq.subst (motive:=λn=>Rep _ W (.l eI ys) (.slice (some ⟨b,0,none⟩) n cap)) sm ?_;refine .s _ _ _ b 0 cap 1 (λi _=>.int .i64 (nth ys i)) (by omega) fy (λi hi=>rfl) (by simp) (λi j c hi hj=>?_) (λi j c hi hj=>?_)
   ·grind[eI]
   ·have hj0:j=0:=by grind[eI]
    subst hj0;obtain rfl:C.v (.int .i64 (nth ys i))=c:=bS hj;exact .v _ rfl
  ·rw[<-sm];refine (Tryz.slices_Compact_int b 0 cap ys _ wc (by omega) (by omega)).mono λen w3 h=>?_;obtain⟨h1,q,h2⟩:=h;have hne3:∀b':Nat,b'≠b->b'<w.heap.size->w3.heap[b']?=w.heap[b']?:=λb' g1 g2=>by
    rw[h2,Aos _ _ _ _ _ g1];exact s7 b' g1 g2
   have eu:=Ay4 ys;have h3s:w3.heap.size=W.heap.size:=by rw[h2];simp
   refine⟨_,λx=>if x=b then (Lib.compact ys).length else G.vis x,h1,⟨by omega,?_,?_,?_,λD hD=>?_,λb' fj=>hne3 b' (by omega) (by omega),λb' fj=>?_,λb' fj=>?_,?_⟩⟩
   ·rw[h2,<-hW];rfl
   ·rw[h2,<-hW];rfl
   ·rw[h2,<-hW];rfl
   ·grind
   ·rw[bI (by omega)];exact R.old b' fj
   ·rw[bI (by omega)];exact R.fresh b' (by omega)
   ·unfold Kc;rw[jf];have au:∀i,i<(Lib.compact ys).length->w3.cell? ⟨b,0+i,none⟩=some (.int .i64 (nth (Lib.compact ys) i)):=λi hi=>by
     have:=Sort.cell?_putRow (Value.int .i64) (Sort.ahead W q) b 0 ys.toArray (Lib.compact ys++List.replicate (ys.length - (Lib.compact ys).length) 0).toArray (Sort.holds_ahead _ _ _ _ _ _ wc) (by simp;omega) i (by simp;omega);grind[Ge]
    refine .s _ _ _ b 0 cap 1 (λi _=>.int .i64 (nth (Lib.compact ys) i)) (by omega) fy (λi hi=>rfl) (by simp) (λi j c hi hj=>?_) (λi j c hi hj=>?_)
    ·grind[eI]
    ·have hj0:j=0:=by grind[eI]
     subst hj0;obtain rfl:C.v (.int .i64 (nth (Lib.compact ys) i))=c:=bS hj;exact .v _ rfl
def fn130:Ha Tryz.prog 230:=⟨Tryz.f230,by kernel_rfl,by kernel_rfl,by kernel_rfl⟩
def fn146:Ha Tryz.prog 231:=⟨Tryz.f231,by kernel_rfl,by kernel_rfl,by kernel_rfl⟩
def Aot {P:Program} {a:Act} {n:Nat} {f:Nat->Value} {ds:List Deferred} {w:World} {o:Oper} {g:FuncId} {t:Nat} {ek:Array TypeId} (S:SL a n f ds) (ho:o.op=.call { callee:=.value (.func g),args:=#[.tmp t],argTypes:=ek }) (ht:t<n) (lj:Ha P g):
  (execOp a.eval o).run P w=.ok (.enter g #[f t]) w:=by
 have:=Rb (P:=P) (w:=w) (a:=a) ho (us:=#[]) (cvs:=#[]) rfl lj;have he:#[Operand.tmp t].map a.eval=#[f t]:=by simp[S.eval ht]
 grind
noncomputable def Pt:List Code×Code:=match Tryz.f129.body with|some c=>Pn 7 c|none=>([],.skip)
def Ayu:Tryz.f129.body=some (Hm Pt.1 Pt.2):=by kernel_rfl
noncomputable def Kd:Nat->Array Oper
 |0=>match Pt.2 with| .seq (.region _ o _) _=>o|_=>#[]
 |_=>match Pt.2 with| .seq _ (.seq (.region _ o _) _)=>o|_=>#[]
def Ayv:Pt.2=.seq (.region 13 (Kd 0) false) (.seq (.region 14 (Kd 1) false) .ret):=by kernel_rfl
noncomputable def Dl (r i:Nat):Oper:=((Kd r)[i]?).getD default
def Ayw:(Kd 0)[0]?=some (Dl 0 0)/\(Dl 0 0).guard=none/\(Dl 0 0).op=.move (.tmp 6)/\(Dl 0 0).dst=some 40:=by trivial
def Ayx:(Kd 0)[1]?=some (Dl 0 1)/\(Dl 0 1).guard=none/\(Dl 0 1).op=.call { callee:=.value (.func 230),args:=#[.tmp 40],argTypes:=#[22] }/\(Dl 0 1).dst=some 41:=by trivial
def Ayy:(Kd 1)[0]?=some (Dl 1 0)/\(Dl 1 0).guard=none/\(Dl 1 0).op=.move (.tmp 6)/\(Dl 1 0).dst=some 42:=by trivial
def Ayz:(Kd 1)[1]?=some (Dl 1 1)/\(Dl 1 1).guard=none/\(Dl 1 1).op=.call { callee:=.value (.func 231),args:=#[.tmp 42],argTypes:=#[22] }/\(Dl 1 1).dst=some 43:=by trivial
def Az0:(Kd 1)[2]?=some (Dl 1 2)/\(Dl 1 2).guard=none/\(Dl 1 2).op=.move (.tmp 9)/\(Dl 1 2).dst=some 44:=by trivial
def Az1:(Kd 1)[3]?=some (Dl 1 3)/\(Dl 1 3).guard=none/\(Dl 1 3).op=.assign (.tmp 43)/\(Dl 1 3).dst=some 4:=by trivial
def Az2:(Kd 1)[4]?=some (Dl 1 4)/\(Dl 1 4).guard=none/\(Dl 1 4).op=.assign (.tmp 44)/\(Dl 1 4).dst=some 5:=by trivial
def Az3:List.range (Kd 0).size=[0,1]:=by kernel_rfl
def Az4:List.range (Kd 1).size=[0,1,2,3,4]:=by kernel_rfl
def Aou (zs:List Int) (o:Int):Env:=v 6 (Lt 100 eI zs)::v 9 (I o)::tk 100 3::[]
theorem Az5 (S:SP Gl) {zs:List Int} {o:Int} (hz:zs.length<=1000000) {X:Cx} {vis:Nat->Nat} {w0:World} {a:Act} {w:World} {G:Gh} (Tl:Tail Tryz.prog Gl Y X Tryz.f129 (Aou zs o) vis w0 a w G):
  Pt.2.wpIn (Fr none) 0 Tryz.prog (bodyPostM (Fr none) 0 Tryz.prog Tryz.f129 λen w'=>Below w0.heap.size w0 w'/\Ik vis w0 en w' (.ret (.tup [.c (.l eI (Kc zs)),.c (Ci o)]))) a w:=by
 have R:=Tl.rel;have hv6:=R.slots 6;have hv9:=R.slots 9;obtain⟨u,hu⟩:∃u,a.tmps.getD 6 undef=u:=⟨_,rfl⟩
 unfold De at hv6 hv9;rw[bG (by decide)]at hv6 hv9;rw[hu]at hv6;have i6:Rep G.vis w (.s (.t 100) zs.length λi=>eI (nth zs i)) u:=hv6.reld;have l7:Own G w Y 100 3 zs.length (λi=>eI (nth zs i)) u:=hv6.own 3 rfl;have ho:a.tmps.getD 9 undef=.int .i64 o:=by
  have h:Rep G.vis w (Ci o) (a.tmps.getD 9 undef):=hv9.reld;generalize a.tmps.getD 9 undef=q at h;cases h
  rfl
 obtain⟨Q,hsort,ck⟩:=Ayt R (by decide) hz i6 l7;have j9:a.tmps.size=45:=R.size;have S0:SL a 45 (λt=>a.tmps.getD t undef) a.defers:=⟨j9,rfl,λ_ _=>rfl⟩
 rw[Ayv];refine eZ (iB ?_);rw[Az3];obtain⟨o1,o2,o3,o4⟩:=Ayw;refine Ml o1 o2 (by grind) (v:=u) (w':=w) (by simp[execOp,o3,S0.eval,hu]) ?_;rw[o4];have S1:=S0.put (d:=40) (by decide) u;obtain⟨o1,o2,o3,o4⟩:=Ayx;refine Ams o1 o2 (by grind) (Aot S1 o3 (by decide) fn130) hsort ?_;rintro _ w1 ⟨rfl,hQ⟩;refine⟨_,rfl,?_⟩;rw[o4];have S2:=S1.put (d:=41) (by decide) (.tuple #[]);obtain⟨_,_,hc⟩:=ck w1 hQ
 show (Code.seq (.region 14 (Kd 1) false) .ret).wpIn (Fr none) 0 Tryz.prog _ _ w1
 refine eZ (iB ?_);rw[Az4];obtain⟨o1,o2,o3,o4⟩:=Ayy;refine Ml o1 o2 (by grind) (v:=u) (w':=w1) (by simp[execOp,o3,S2.eval,upd,hu]) ?_;rw[o4];have S3:=S2.put (d:=42) (by decide) u;obtain⟨o1,o2,o3,o4⟩:=Ayz;refine Ams o1 o2 (by grind) (Aot S3 o3 (by decide) fn146) hc ?_;rintro _ w3 ⟨u',vis',rfl,hO⟩;refine⟨_,rfl,?_⟩;rw[o4];have S4:=S3.put (d:=43) (by decide) u';obtain⟨o1,o2,o3,o4⟩:=Az0;refine Ml o1 o2 (by grind) (v:=.int .i64 o) (w':=w3) (by simp[execOp,o3,S4.eval,upd,ho]) ?_;rw[o4];have S5:=S4.put (d:=44) (by decide) (.int .i64 o);obtain⟨o1,o2,o3,o4⟩:=Az1;refine Ml o1 o2 (by grind) (v:=u') (w':=w3) (by simp[execOp,o3,S5.eval,upd]) ?_;rw[o4];have S6:=S5.put (d:=4) (by decide) u';obtain⟨o1,o2,o3,o4⟩:=Az2;refine Ml o1 o2 (by grind) (v:=.int .i64 o) (w':=w3) (by simp[execOp,o3,S6.eval,upd]) ?_;rw[o4];have S7:=S6.put (d:=5) (by decide) (.int .i64 o);refine wpIn_ret ?_;have hj:=R.jj;rw[Tl.J]at hj;have R':=R.anew (a':=Act.put (Act.put (Act.put (Act.put (Act.put (Act.put (Act.put a (some 40) u) (some 41) (.tuple #[])) (some 42) u) (some 43) u') (some 44) (.int .i64 o)) (some 4) u') (some 5) (.int .i64 o)) (w':=w3) (vis':=vis') (e':=[(0,4,.d (.c (.l eI (Kc zs)))),(0,5,I o)]) (λ_=>rfl) (λ_=>rfl) (λ_ _=>rfl)
  (by rw[S7.size,j9]) S7.defers hO.size (λD hD=>hO.mark D (R.marks D hD).2.1) (λt ht=>?_) hO.fresh hO.vold (by
   rw[Tl.J];refine⟨hj.1,hj.2.trans ⟨hO.os,hO.tape,hO.output,hO.size,λb hb=>hO.old b (by rw[Tl.base];exact hb)⟩⟩)
 ·exact Tl.leave S R' ⟨Ax rfl,rfl⟩
 ·by_cases h4:t=4
  ·subst h4;refine VOK.dem (x:=.c (.l eI (Kc zs))) ?_;have:=S7.get 4 (by decide);unfold De;rw[bG (by decide),this];exact hO.rep
  ·by_cases h5:t=5
   ·subst h5;refine VOK.dem (x:=.c (Ci o)) ?_;have:=S7.get 5 (by decide);unfold De;rw[bG (by decide),this];exact .v _ rfl
   ·refine absurd ?_ ht;rw[Bb (λhh=>h4 hh.2.symm),Bb (λhh=>h5 hh.2.symm)]
    rfl
theorem Ahq (s:Sheet) (r:Nat):(Dg s r).length=s.cols.length:=List.length_map ..
def Ke (s:Sheet) (row k:Nat):List Int:=((Dg s row).take k).flatMap Ir
theorem Aov (n:Int):(Ir n).length<=2000:=by rw[<-Aoq];exact Aoo n 1999
theorem Aow {s:Sheet} {row k:Nat} (h:k<(Dg s row).length):Ke s row (k+1)=Ke s row k++Ir (nth (Dg s row) k):=by
 grind[Ke,take_succ]
theorem Ac5 (s:Sheet) (row:Nat):∀k,k<=(Dg s row).length->(Ke s row k).length<=2000*k
 |0,_=>by simp[Ke]
 |k+1,h=>by
  have:=Ac5 s row k (by omega);grind[Aov,Aow]
theorem Aox {s:Sheet} {row:Nat} (h:0<row):Ew s row=Ke s row (Dg s row).length++Dg s (row - 1):=by
 grind[Ew,Ke,Kr]
theorem Aoy {s:Sheet} {row:Nat} (h:¬0<row):Ew s row=Ke s row (Dg s row).length:=by
 grind[Ew,Ke,Mp]
def Az6 (S:SP Gl) (s:Sheet) (row:Nat) (h0:0<row) (h:∀i,i<s.cols.length->row - 1<(nth s.cols i).length) (hl:s.cols.length<=1000):CR Gl 227 [Dr s,I ((row:Int) - 1)] (L eI (Dg s (row - 1))):=by
 grind[Ao5]
theorem Aoz {s:Sheet} (hs:s.ok=true) (row:Nat):(Ew s row).length<=6003:=by
 grind[Ahq,Ll,Ac5,Aox,Aoy]
def Az7 {l:List Int} {k:Nat} (hk:k<=Fs l) (h:listed l (Au+(k:Int))=true):k<Fs l:=by
 have:=(Ac1 l).2;exact Fq (p:=λk:Nat=>listed l (Au+(k:Int))) hk (by grind) (by grind[Cc])
def Ap0 {l:List Int} {k:Nat} (hk:k<=Fs l) (h:listed l (Au+(k:Int))=false):k=Fs l:=by
 grind[Ahh]
theorem Az8 (S:SP Gl) (s:Sheet) (row:Nat) (hs:s.ok=true) (hr:row<rows s):CR Gl 129 [Dr s,I row] (.tup [.c (.l eI (Kc (Ew s row++[Dk (Ew s row)]))),.c (Ci (Dk (Ew s row)))]):=by
 refine Amr S (E:=Aou (Ew s row++[Dk (Ew s row)]) (Dk (Ew s row))) (xs:=Pt.1) (tl:=Pt.2) (let A2:=Ew s row;let A1:=Dg s row;let A0:=λ(k:Nat)=>[v 9 (I (Au+(k:Int))),tk 100 3,v 6 (Lt 100 eI A2)];.r (.ret (L eI A1)) (.loop (List.length A1) (λk=>v 14 (I k)::v 13 (I (List.length A1:Int))::v 12 (L eI A1)::tk 100 3::v 6 (Lt 100 eI (Ke s row k))::v 2 (ad 2)::v 1 (I row)::bx 2 (Cw s)) λk0=>.br (.r (.ret (L eI (Ir (nth A1 k0)))) .nil) (.br (.r (.ret (L eI (Dg s (row-(1:Nat))))) (.loop (Fs A2) A0 λk1=>.r (.ret (B (listed A2 (Au+(k1:Int))))) (.br .nil .nil))) (.loop (Fs A2) A0 λk2=>.r (.ret (B (listed A2 (Au+(k2:Int))))) (.br .nil .nil))))) func129 (by kernel_rfl) Ayu rfl (let A8:=(↑(0:Nat):Int);let A3:=λ(k0:Nat)=>Ke s row k0;let A2:=(Dg s (row-(1:Nat)));let A1:=Dg s row;let A6:=λ(k0:Nat)=>List.length (A3 k0)+List.length (Ir (nth A1 k0));let A5:=(List.length A1:Int);let A0:=Ew s row;let A9:=List.length A0;let A7:=List.length A0+1;let A4:=Ew s row++[Dk A0];let P0:=λ(zz:Prop)=>A5=A5/\(sR eI A1)/\zz;let P1:=λ(zz:Prop)=>A7*8<=140737488355328/\List.length A0+1<=140737488355328/\zz;CR Gl 227 [Dr s,I row] (L eI A1)/\(List.length A1<=maxLen->(0=A8/\P0 ((0:Nat)=0/\(row:Int)=row/\(sR Ar s.1)/\sR eI s.2))/\∀(k0:Nat),k0<=List.length A1->(decide ((k0:Int)<(List.length (Dg s row):Int))=true->(0<=(k0:Int)/\(k0:Int)<A5)/\CR Gl 228 [I (nth A1 k0)] (L eI (Ir (nth A1 k0)))/\(A6 k0)*8<=140737488355328/\List.length (A3 k0)+List.length (Ir (nth A1 k0))<=(140737488355328:Nat)/\iR ((k0:Int)+1)/\k0<List.length A1/\(k0:Int)+1=(↑(k0+1):Int)/\P0 ((SEq (A6 k0) (An (List.length (A3 k0)) (λi=>eI (nth (A3 k0) i)) λi=>eI (nth (Ir (nth A1 k0)) i)) (List.length (Ke s row (k0+1))) λi=>eI (nth (Ke s row (k0+1)) i))/\(row:Int)=row/\(sR Ar s.1)/\sR eI s.2))/\(decide ((k0:Int)<(List.length (Dg s row):Int))=false->(decide (0<(row:Int))=true->iR ((row:Int)-1)/\CR Gl 227 [Dr s,I ((row:Int)-1)] (L eI A2)/\(List.length (A3 k0)+List.length A2)*8<=140737488355328/\List.length (A3 k0)+List.length A2<=(140737488355328:Nat)/\((-999:Int)=Au+A8/\SEq (List.length (A3 k0)+List.length A2) (An (List.length (A3 k0)) (λi=>eI (nth (A3 k0) i)) λi=>eI (nth A2 i)) A9 λi=>eI (nth A0 i))/\∀(k1:Nat),k1<=Fs A0->CR Gl 229 [L eI A0,I (Au+(k1:Int))] (B (listed A0 (Au+(k1:Int))))/\(listed A0 (Au+(k1:Int))=true->iR (Au+(k1:Int)+1)/\k1<Fs A0/\Au+(k1:Int)+1=Au+(↑(k1+1):Int)/\sR eI A0)/\(listed A0 (Au+(k1:Int))=false->P1 ((SEq A7 (An A9 (λi=>eI (nth A0 i)) λi=>List.getD [mI (Au+(k1:Int))] i []) (List.length A4) λi=>eI (nth A4 i))/\Au+(k1:Int)=Dk A0)))/\(decide (0<(row:Int))=false->((-999:Int)=Au+A8/\sQ eI (A3 k0) A0)/\∀(k2:Nat),k2<=Fs A0->CR Gl 229 [L eI A0,I (Au+(k2:Int))] (B (listed A0 (Au+(k2:Int))))/\(listed A0 (Au+(k2:Int))=true->iR (Au+(k2:Int)+1)/\k2<Fs A0/\Au+(k2:Int)+1=Au+(↑(k2+1):Int)/\sR eI A0)/\(listed A0 (Au+(k2:Int))=false->P1 ((SEq A7 (An A9 (λi=>eI (nth A0 i)) λi=>List.getD [mI (Au+(k2:Int))] i []) (List.length A4) λi=>eI (nth A4 i))/\Au+(k2:Int)=Dk A0)))))) (by kernel_rfl) ?_ (λX vis w0 a w G T=>Az5 S (by grind[Aoz]) T)
 obtain⟨l1,l2,l3,l4⟩:=Ll hs;have hn:=Ahq s row;have hn2:=Ahq s (row - 1);have vp:=Aoz hs row;have hrk:=(Ac1 (Ew s row)).2;have eu:∀i,i<s.cols.length->(nth s.cols i).length=rows s:=λi hi=>(Kp (l4 i hi)).1;have jp:=(Kp (l4 0 (by omega))).2.2.2.1;simp only[stdS,aL,aB,and_true];refine⟨Ao5 S s row (λi hi=>by grind) (by omega),λ_ k0 hk0=>⟨λhd=>?_,λhd=>?_⟩⟩
 ·have hlt:k0<(Dg s row).length:=by grind
  have h1:=Ac5 s row k0 (by omega);have h2:=Aov (nth (Dg s row) k0);exact⟨⟨by omega,by omega⟩,Ayp S _,by omega,by omega,(Ad _).2 (by omega),hlt,by omega,Ah9 (Aow hlt),trivial⟩
 ·have bf:k0=(Dg s row).length:=by grind
  subst bf;have h1:=Ac5 s row _ (aI _);refine⟨λhp=>⟨(Ad _).2 (by omega),Az6 S s row (by grind) (λi hi=>by grind) (by omega),by omega,by omega,⟨rfl,Ah9 (Aox (by grind))⟩,λk1 al=>?_⟩,λhp=>⟨⟨rfl,Ax (Aoy (by grind))⟩,λk1 al=>?_⟩⟩
  all_goals
   refine⟨Ayr S _ _,λhl=>⟨(Ad _).2 (by unfold Au;omega),Az7 al hl,by omega,trivial⟩,λhl=>⟨by omega,by omega,Eb (by rw[Ap0 al hl];rfl) rfl,by rw[Ap0 al hl];rfl⟩⟩
theorem Ap1 (S:SP Gl) (s:Sheet) (row:Nat) (hs:s.ok=true) (hr:row<rows s):CR Gl 129 [Dr s,I row] (.tup [.c (.l eI (Ji s row)),.c (Ci (Dk (Gg s row)))]):=by
 have:=Az8 S s row hs hr;grind[listP,Aog]
def Jk (s:Sheet) (all:List (List Int)):Nat->List Int->List Int->List Int->List Int
 |0,now,_,_=>now
 |r+1,now,e,left=>(nth all r).foldl (λn x=>bif okAll s (x::e) r left then Jk s all r (n.set r x) (x::e) (Cy s (x::e) r left) else n.set r x) now
def Ym (s:Sheet) (all:List (List Int)) (r:Nat) (e left n:List Int) (x:Int):List Int:=bif okAll s (x::e) r left then Jk s all r (n.set r x) (x::e) (Cy s (x::e) r left) else n.set r x
def nowTo (s:Sheet) (all:List (List Int)) (r:Nat) (now e left:List Int) (k:Nat):List Int:=((nth all r).take k).foldl (Ym s all r e left) now
def Az9 {s:Sheet} {all:List (List Int)} {r:Nat} {now e left:List Int} {k:Nat} (hk:k<(nth all r).length):nowTo s all r now e left (k+1)=Ym s all r e left (nowTo s all r now e left k) (nth (nth all r) k):=by
 grind[nowTo,take_succ]
def Aza (s:Sheet) (all:List (List Int)) (r:Nat) (now e left:List Int):nowTo s all r now e left (nth all r).length=Jk s all (r+1) now e left:=by
 unfold nowTo;rw[fQ]
 rfl
def It (r:Nat) (a b:List Int):Prop:=a.length=b.length/\a.drop r=b.drop r
def It.up {r:Nat} {a b:List Int} (h:It r a b):It (r+1) a b:=⟨h.1,by rw[<-List.drop_drop,h.2,List.drop_drop]⟩
def It.set {r:Nat} {a b:List Int} (h:It (r+1) a b) (x:Int):It (r+1) (a.set r x) b:=⟨by rw[List.length_set];exact h.1,by rw[List.drop_set_of_lt (eQ r)];exact h.2⟩
theorem Ahr {r:Nat} {b:List Int} {g:List Int->Int->List Int} (hg:∀n x,It (r+1) n b->It (r+1) (g n x) b):∀(l:List Int) (n:List Int),It (r+1) n b->It (r+1) (l.foldl g n) b
 | [],_,h=>h
 |x::l,n,h=>Ahr hg l (g n x) (hg n x h)
theorem Ap2 (s:Sheet) (all:List (List Int)):∀(r:Nat) (now e left:List Int),It r (Jk s all r now e left) now
 |0,_,_,_=>⟨rfl,rfl⟩
 |r+1,now,e,left=>by
  refine Ahr (λn x h=>?_) _ _ ⟨rfl,rfl⟩
  show It (r+1) (bif okAll s (x::e) r left then Jk s all r (n.set r x) (x::e) (Cy s (x::e) r left) else n.set r x) now
  have h1:=h.set x;cases okAll s (x::e) r left with
  |false=>exact h1
  |true=>
   have h2:=(Ap2 s all r (n.set r x) (x::e) (Cy s (x::e) r left)).up;exact⟨h2.1.trans h1.1,h2.2.trans h1.2⟩
def Ap3 (s:Sheet) (all:List (List Int)) (r:Nat) (now e left:List Int) (k:Nat):It (r+1) (nowTo s all r now e left k) now:=by
 refine Ahr (λn x h=>?_) _ _ ⟨rfl,rfl⟩;have h1:=h.set x;unfold Ym;cases okAll s (x::e) r left with
 |false=>exact h1
 |true=>
  have h2:=(Ap2 s all r (n.set r x) (x::e) (Cy s (x::e) r left)).up;exact⟨h2.1.trans h1.1,h2.2.trans h1.2⟩
def It.cons {r:Nat} {n now e:List Int} (h:It (r+1) n now) (he:now.drop (r+1)=e) (hr:r<now.length) (x:Int):(n.set r x).length=now.length/\(n.set r x).drop r=x::e:=by
 refine⟨by rw[List.length_set];exact h.1,?_⟩;have hl:r<(n.set r x).length:=by rw[List.length_set,h.1];exact hr
 rw[dP hl,List.getElem_set_self,List.drop_set_of_lt (eQ r),h.2,he]
def Azb {n:List Int} {r:Nat} {x:Int} {e:List Int} (h:n.drop r=x::e) (hr:r<n.length):Bm n r=Bm (x::e) 0:=by
 have h1:=Aoi (n.take r) x e;grind[List.take_append_drop]
theorem Ap4 {l:List Int} {i:Nat} {x:Int} (h:i<l.length):nth (l.set i x) i=x:=by
 grind[nth]
theorem Azc {l:List Int} {i j:Nat} {x:Int} (h:i≠j):nth (l.set i x) j=nth l j:=by
 grind[nth]
def restTo (s:Sheet) (now:List Int) (r:Nat) (left:List Int) (i:Nat):List Int:=(List.range left.length).map λj=>bif j.blt i then Ks s now r left j else nth left j
theorem Ac6 {a b:Nat} (h:a≠b):a.beq b=false:=by
 grind[Nat.eq_of_beq_eq_true]
theorem Ac7 {s:Sheet} {now:List Int} {r:Nat} {left:List Int} {i j:Nat} (hj:j<left.length):nth (restTo s now r left i) j=bif j.blt i then Ks s now r left j else nth left j:=by
 grind[restTo,Hq,Cc]
theorem Ap5 {s:Sheet} {now:List Int} {r:Nat} {left:List Int} {j:Nat} (hj:j<left.length):nth (Cy s now r left) j=Ks s now r left j:=by
 grind[Cy,Hq,Cc]
theorem Ap6 {s:Sheet} {now:List Int} {r:Nat} {left:List Int} {i j:Nat} (hj:j<left.length):nth (restTo s now r left (i+1)) j=bif j.beq i then Ks s now r left j else nth (restTo s now r left i) j:=by
 grind[Ac7,Kr,Ac6,Nat.beq_refl,Mp]
def Ahs {l m:List Int} {n k:Nat} {z:Int} (h:∀j,j<n->nth m j=bif j.beq k then z else nth l j):SEq n (Es (λj=>eI (nth l j)) k (List.map C.dem [C.v (Value.int .i64 z)])) n (λj=>eI (nth m j)):=.of ⟨rfl,λj hj=>by
 show [C.v (Value.int .i64 (bif j.beq k then z else nth l j))]=_
 rw[<-h j hj]
 rfl⟩
def Lp {l m:List Int} {n:Nat} (h:∀j,j<n->nth l j=nth m j):SEq n (λj=>eI (nth l j)) n (λj=>eI (nth m j)):=.of ⟨rfl,λj hj=>cD eI (h j hj)⟩
def Azd {l:List Int} {r j:Nat} {x:Int} (hr:r<l.length):nth (l.set r x) j=bif j.beq r then x else nth l j:=by
 grind[Ap4,Nat.beq_refl,Azc,Ac6]
def Mu (s:Sheet) (all:List (List Int)) (l p:Nat) (now:List Int):Env:=
 [(0,BIG,.tr p),(2,FAR,live),(FAR+3,0,.yl l),(2,FAR+1,live),(FAR+4,0,.arr (FAR+4) (rows s)),(2,FAR+2,live),(FAR+5,0,L Ar all),(2,FAR+3,live),(FAR+6,0,.fn 233 [] [.addr FAR 0,.addr (FAR+1) 0,.addr (FAR+2) 0,.d (.c (.p (Cw s))),.addr (FAR+3) 0]),(2,FAR+4,.arrc false 1 (rows s) λi=>eI (nth now i))]
def Mv (s:Sheet) (p:Nat) (now:List Int):Env:=[(0,BIG,.tr p),(2,FAR+4,.arrc false 1 (rows s) λi=>eI (nth now i))]
def Jl (P:List (List Int)) (l m:Nat):Yd:=⟨l,m,m,λq=>[L eI (nth P q)]⟩
theorem Aze (S:SP Gl) (l:List Int) (yd:Yd) (p:Nat) (h1:1<=l.length) (h2:l.length<=1000):DO Gl yd 69 [.arr FAR l.length] [(0,BIG,.tr p),(2,FAR,.arrc false 1 l.length λi=>eI (nth l i))] (.ret (L eI l)) []:=by
 refine Fp S (.ff .nil) (0<l.length/\false=false/\l.length=l.length/\cp (0+l.length) ((SEq (0+l.length) (An 0 (λx=>[]) λi=>eI (nth l i)) l.length λi=>eI (nth l i))/\p=p/\sR eI l)) func69 ?_;simp only[stdS,aL,aB,and_true];refine⟨h1,by omega,by omega,?_,trivial⟩;have:=Ah9 (f:=eI) (l:=([]:List Int)) (m:=l) (r:=l) rfl;exact this
theorem Azf (S:SP Gl) (l:List Int) (i:Nat) (yd:Yd) (p:Nat) (h:i<l.length):DO Gl yd 106 [.arr FAR l.length,I i] [(0,BIG,.tr p),(2,FAR,.arrc false 1 l.length λi=>eI (nth l i))] (.ret (tRt (Bm l i))) []:=by
 refine Bs S (let A1:=0<=(i:Int)/\(i:Int)<l.length;let A0:=Bm l i;((.br .nil .nil),(l.length<=maxLen->iR ((l.length:Int)-1)/\(((i:Int)==l.length-1)=true->A1/\i<l.length/\(nth l i=A0.1/\(0:Int)=A0.2/\true=A0.3)/\p=p/\sR eI l)/\(((i:Int)==l.length-1)=false->A1/\i<l.length/\iR ((i:Int)+1)/\(0<=(i:Int)+1/\(i:Int)+1<l.length)/\Int.toNat ((i:Int)+1)<l.length/\(nth l i=A0.1/\nth l (Int.toNat ((i:Int)+1))=A0.2/\false=A0.3)/\p=p/\sR eI l)))) func106 ?_;simp only[stdS,aL,aB,and_true];intro hm;rw[Ap]at hm;have et:((i:Int)+1).toNat=i+1:=by omega
 refine⟨(Ad _).2 (by omega),λhi=>?_,λhi=>?_⟩
 ·have hi:=iO hi;have hb:(i+1).beq l.length=true:=by rw[show i+1=l.length by omega];exact fP _
  grind[Bm]
 grind[Nat.eq_of_beq_eq_true,Bm,Ad]
def Azg (S:SP Gl) (now:List Int) (n:Nat) (hn:now.length=n) (h1:1<=n) (h2:n<=1000) (yd:Yd) (p:Nat):DO Gl yd 69 [.arr FAR n] [(0,BIG,.tr p),(2,FAR,.arrc false 1 n λi=>eI (nth now i))] (.ret (L eI now)) []:=by
 grind[Aze]
def ofN (S:SP Gl) (now:List Int) (n i:Nat) (hn:now.length=n) (h:i<n) (yd:Yd) (p:Nat):DO Gl yd 106 [.arr FAR n,I i] [(0,BIG,.tr p),(2,FAR,.arrc false 1 n λi=>eI (nth now i))] (.ret (tRt (Bm now i))) []:=by
 grind[Azf]
def Azh (S:SP Gl) (s:Sheet) (all P:List (List Int)) (left now:List Int) (l m p:Nat) (hn:now.length=rows s) (h1:1<=rows s) (h2:rows s<=6) (hm:p<m) (hP:nth P p=now):DO Gl (Jl P l m) 233 [I (-1),L eI left,.addr FAR 0,.addr (FAR+1) 0,.addr (FAR+2) 0,.d (.c (.p (Cw s))),.addr (FAR+3) 0] (Mu s all l p now) (.ret (B true)) (Mv s (p+1) now):=by
 refine Bs S (let A1:=(2,FAR,T.arrc false 1 (rows s) λi=>eI (nth now i));let A0:=SEq (rows s) (λi=>eI (nth now i)) (rows s) λi=>eI (nth now i);((.tt (.w [(FAR,nat_lit 100004)] [T.arr FAR (rows s)] [(0,BIG,T.tr p),A1] (.ret (L eI now)) [] .nil)),(tt 1 (rows s=rows s/\p=p/\A0/\DO Gl (Jl P l m) 69 [T.arr FAR (rows s)] [(0,BIG,T.tr p),A1] (.ret (L eI now)) []/\l=l/\p<m/\p<=m/\(sQ eI now (nth P p))/\(p != m)=true/\p+1=p+1/\A0/\l=l/\rows s=rows s/\sR Ar all/\233=233/\[C.l Ar s.1,C.l eI s.2]=[C.l Ar s.1,C.l eI s.2])))) func233 ?_;simp only[stdS,aL,aB,and_true];have s7:(p != m)=true:=by grind
 exact⟨Azg S now (rows s) hn h1 (by omega) (Jl P l m) p,by omega,by omega,by rw[hP];exact Ax rfl,s7,trivial⟩
theorem Azi (S:SP Gl) (s:Sheet) (all P:List (List Int)) (now e left:List Int) (l m p r:Nat) (hs:s.ok=true) (hn:now.length=rows s) (hr:r<rows s) (he:now.drop (r+1)=e) (o6:all.length=rows s) (z7:∀r,(nth all r).length<=28/\(nth all r).all num=true) (hl:left.length=s.cols.length) (hlr:∀i,i<left.length->0<=nth left i/\nth left i<=2) (ih:∀(k n:Nat) (f:Nat->List C),k<(nth all r).length->okAll s (nth (nth all r) k::e) r left=true->SEq n f left.length (λi=>eI (nth (Cy s (nth (nth all r) k::e) r left) i))->DO Gl (Jl P l m) 233 [I ((r:Int) - 1),.d (.c (.s .n n f)),.addr FAR 0,.addr (FAR+1) 0,.addr (FAR+2) 0,.d (.c (.p (Cw s))),.addr (FAR+3) 0] (Mu s all l (p+(Gk s all r e left k).length) ((nowTo s all r now e left k).set r (nth (nth all r) k))) (.ret (B true)) (Mv s (p+(Gk s all r e left k).length+(Gj s all r (nth (nth all r) k::e) (Cy s (nth (nth all r) k::e) r left)).length) (Jk s all r ((nowTo s all r now e left k).set r (nth (nth all r) k)) (nth (nth all r) k::e) (Cy s (nth (nth all r) k::e) r left)))):DO Gl (Jl P l m) 233 [I r,L eI left,.addr FAR 0,.addr (FAR+1) 0,.addr (FAR+2) 0,.d (.c (.p (Cw s))),.addr (FAR+3) 0] (Mu s all l p now) (.ret (B true)) (Mv s (p+(Gj s all (r+1) e left).length) (Jk s all (r+1) now e left)):=by
 refine Bs S (let bu:=λ(k0:Nat)=>nowTo s all r now e left k0;let A20:=(nat_lit 100004,nat_lit 100004);let rj:=D.c (C.p (Cw s));let gu:=(r:Int);let ro:=T.own 1 left.length λi=>eI (nth left i);let dl:=rows s;let A6:=nth all r;let A4:=[C.l Ar s.1,C.l eI s.2];let A2:=λ(k0:Nat)=>Gk s all r e left k0;let tf:=λ(k0:Nat)=>p+List.length (A2 k0);let A1:=λ(k0:Nat)=>(nth A6 k0::e);let my:=λ(k0:Nat)=>Gj s all r (A1 k0) (Cy s (A1 k0) r left);let o7:=λ(k0 k1:Nat)=>restTo s (A1 k0) r left k1;let A3:=λ(k0 k1:Nat)=>[I (gu-1),tS left.length λj=>eI (nth (o7 k0 k1) j),aF 0,T.addr (FAR+1) 0,T.addr (FAR+2) 0,T.d rj,T.addr (FAR+3) 0];let A0:=λ(k0:Nat)=>List.set (bu k0) r (nth A6 k0);let tg:=λ(k0:Nat)=>Bm (A0 k0) r;let xg:=λ(k0:Nat)=>(2,FAR,T.arrc false 1 dl λi=>eI (nth (A0 k0) i));let rp:=λ(k0 k1:Nat)=>(bif false then true else Rt.kind (tg k0) (nth (nth s.1 k1) r)==(0:Int));let ay:=λ(k0:Nat)=>Jk s all r (A0 k0) (A1 k0) (Cy s (A1 k0) r left);let A9:=λ(k0:Nat)=>SEq dl (λi=>eI (nth (A0 k0) i)) dl λi=>eI (nth (A0 k0) i);let A8:=λ(k0:Nat)=>Mv s (p+List.length (A2 k0)+List.length (my k0)) (ay k0);let P0:=λ(k0 k1:Nat) (zz:Prop)=>iR (gu-1)/\left.length=left.length/\gu-1=r-1/\(SEq left.length (λj=>eI (nth (o7 k0 k1) j)) left.length λj=>eI (nth (o7 k0 k1) j))/\A4=A4/\p+ln (A2 k0)=p+ln (A2 k0)/\l=l/\rows s=rows s/\sR Ar all/\233=233/\A4=A4/\(A9 k0)/\DO Gl (Jl P l m) 233 (A3 k0 k1) (Mu s all l (p+ln (A2 k0)) (A0 k0)) (.ret (B true)) (Mv s (p+ln (A2 k0)+ln (my k0)) (ay k0))/\false=false/\zz;let P1:=λ(zz:Prop)=>(ln A6:Int)=(ln A6:Int)/\(sR eI A6)/\gu=r/\sR eI left/\A4=A4/\zz;let P2:=λ(k0 k1:Nat) (zz:Prop)=>(ix k1 s.1.length)/\(0<=gu/\gu<(ln (nth s.1 k1):Int))/\((nth (nth s.1 k1) r==nth A6 k0)=true->lq k1 (Ps s (A1 k0) r left) ((s.1.length:Int)=s.1.length/\sR Ar s.1/\left.length=left.length/\(SEq left.length (λj=>eI (nth (o7 k0 k1) j)) left.length λj=>eI (nth (restTo s (A1 k0) r left (k1+1)) j))/\nth A6 k0=nth A6 k0/\(k0:Int)=k0/\P1 (p+ln (A2 k0)=p+ln (A2 k0)/\l=l/\rows s=rows s/\sR Ar all/\233=233/\A4=A4/\SEq dl (λi=>eI (nth (A0 k0) i)) dl λi=>eI (nth (A0 k0) i))))/\zz;let P3:=λ(zz:Prop)=>l=l/\rows s=rows s/\sR Ar all/\233=233/\A4=A4/\zz;let A7:=λ(k0:Nat)=>P1 (p+ln (A2 k0)=p+ln (Gk s all r e left (k0+1))/\P3 (SEq dl (λi=>eI (nth (A0 k0) i)) dl λi=>eI (nth (nowTo s all r now e left (k0+1)) i)));let P4:=λ(k0 k1:Nat) (zz:Prop)=>(ix k1 left.length)/\k1<left.length/\iR (nth (o7 k0 k1) k1-(1:Int))/\(ix k1 left.length)/\k1<left.length/\(ix k1 left.length)/\k1<left.length/\zz;let P5:=λ(k0:Nat) (zz:Prop)=>p+ln (A2 k0)+ln (my k0)=p+ln (Gk s all r e left (k0+1))/\zz;let A5:=λ(k0 k1:Nat)=>df k1 s.1.length->P0 k0 k1 (lq k0 (ln A6) (P1 (P5 k0 (P3 (SEq dl (λi=>eI (nth (ay k0) i)) dl λi=>eI (nth (nowTo s all r now e left (k0+1)) i))))));let P6:=λ(k0:Nat) (zz:Prop)=>p+ln (A2 k0)=p+ln (A2 k0)/\zz;let P7:=λ(zz:Prop)=>false=false/\false=false/\false=false/\zz;((.ff (.loop (List.length A6) (λk=>v 26 (I k)::v 25 (I (List.length A6:Int))::v 24 (L eI A6)::v 0 (I r)::v 1 (L eI left)::v 2 (aF 0)::v 3 (T.addr (FAR+1) 0)::v 4 (T.addr (FAR+2) 0)::v 5 (T.d rj)::v 6 (T.addr (FAR+3) 0)::Mu s all l (p+List.length (Gk s all r e left k)) (nowTo s all r now e left k)) λk0=>.br (rt ro (.loop (Ps s (A1 k0) r left) (λi=>v 39 (I i)::v 38 (I (List.length (Sheet.cols s):Int))::v 37 (L Ar (Sheet.cols s))::v 12 (T.arr 35 left.length)::(2,35,T.arrc false 1 left.length λj=>eI (nth (restTo s (A1 k0) r left i) j))::v 11 (I (nth A6 k0))::v 26 (I k0)::v 25 (I (List.length A6:Int))::v 24 (L eI A6)::v 0 (I r)::v 1 (L eI left)::v 2 (aF 0)::v 3 (T.addr (FAR+1) 0)::v 4 (T.addr (FAR+2) 0)::v 5 (T.d rj)::v 6 (T.addr (FAR+3) 0)::Mu s all l (tf k0) (A0 k0)) λk1=>.ite (decide ((1:Int)<=nth left k1)) (.br (.br .nil (.val 60 false (.sure 62 (.sure 63 (.sure 64 (.w [(FAR,nat_lit 100004)] [T.arr FAR dl,I r] [(0,BIG,T.tr (tf k0)),(xg k0)] (.ret (tRt (tg k0))) [] (.sure 65 (.sure 66 (.sure 67 (.sure 68 (.sure 69 (rt (I (Rt.kind (tg k0) (nth (nth s.1 k1) r))) (.sure 70 (.br .nil .nil)))))))))))))) (.arrA 76 (.w [(FAR,FAR),(FAS,FAS),(FAT,FAT),(FAU,FAU),A20] (A3 k0 k1) (Mu s all l (tf k0) (A0 k0)) (.ret (B true)) (A8 k0) (.ff .nil)))) (.br (.br .nil (.val 60 true (.skip 62 (.skip 63 (.skip 64 (.skip 65 (.skip 66 (.skip 67 (.skip 68 (.skip 69 (.skip 70 (.tt .nil)))))))))))) (.arrA 76 (.w [(FAR,FAR),(FAS,FAS),(FAT,FAT),(FAU,FAU),A20] (A3 k0 k1) (Mu s all l (tf k0) (A0 k0)) (.ret (B true)) (A8 k0) (.ff .nil)))))) .nil)),(false=false/\(0<=gu/\gu<all.length)/\(ln A6<=maxLen->(0=(↑(0:Nat):Int)/\P1 (p=p+ln (Gk s all r e left 0)/\P3 (SEq dl (λi=>eI (nth now i)) dl λi=>eI (nth (nowTo s all r now e left 0) i))))/\∀(k0:Nat),k0<=ln A6->(decide ((k0:Int)<(ln (nth all r):Int))=true->(0<=(k0:Int)/\(k0:Int)<(ln A6:Int))/\(0<=gu/\gu<(↑dl:Int))/\r<rows s/\CR Gl 69 [L eI left] ro/\(s.1.length<=maxLen->(lz s.1.length (sR Ar s.1/\left.length=left.length/\(SEq left.length (λi=>eI (nth left i)) left.length λj=>eI (nth (restTo s (A1 k0) r left 0) j))/\nth A6 k0=nth A6 k0/\(k0:Int)=k0/\P1 (P6 k0 (P3 (SEq dl (Es (λi=>eI (nth (bu k0) i)) r (mI (nth A6 k0))) dl λi=>eI (nth (A0 k0) i))))))/\∀(k1:Nat),k1<=Ps s (A1 k0) r left->(decide ((1:Int)<=nth left k1)=true->(dt k1 s.1.length->P2 k0 k1 (((nth (nth s.1 k1) r==nth A6 k0)=false->P4 k0 k1 (decide ((bif Nat.beq k1 k1 then nth (restTo s (nth (nth all r) k0::e) r left k1) k1-(1:Int) else nth (restTo s (nth (nth all r) k0::e) r left k1) k1)<(0:Int))=false/\tt 3 (rows s=rows s/\gu=r/\P6 k0 ((A9 k0)/\DO Gl (Jl P l m) 106 [T.arr FAR dl,I r] [(0,BIG,T.tr (p+ln (A2 k0))),(xg k0)] (.ret (tRt (tg k0))) []/\tt 3 ((0<=gu/\gu<(ln (nth s.1 k1):Int))/\tt 2 (CR Gl 107 [tRt (tg k0),I (nth (nth s.1 k1) r)] (I (Rt.kind (tg k0) (nth (nth s.1 k1) r)))/\tt 1 (((rp k0 k1)=true->lq k0 (ln A6) (A7 k0))/\((rp k0 k1)=false->lq k1 (Ps s (A1 k0) r left) ((s.1.length:Int)=s.1.length/\sR Ar s.1/\left.length=left.length/\(SEq left.length (Es (λj=>eI (nth (o7 k0 k1) j)) k1 (mI (nth (o7 k0 k1) k1-(1:Int)))) left.length λj=>eI (nth (restTo s (A1 k0) r left (k1+1)) j))/\nth A6 k0=nth A6 k0/\(k0:Int)=k0/\P1 (P6 k0 (P3 (A9 k0))))))))))))))/\(A5 k0 k1))/\(decide ((1:Int)<=nth left k1)=false->(dt k1 s.1.length->P2 k0 k1 (((nth (nth s.1 k1) r==nth A6 k0)=false->P4 k0 k1 (decide ((bif Nat.beq k1 k1 then nth (restTo s (nth (nth all r) k0::e) r left k1) k1-(1:Int) else nth (restTo s (nth (nth all r) k0::e) r left k1) k1)<(0:Int))=true/\P7 (P7 (P7 ((true=false->false=true)/\tt 1 (lq k0 (ln A6) (A7 k0)))))))))/\(A5 k0 k1))))/\(decide ((k0:Int)<(ln (nth all r):Int))=false->tt 1 (p+ln (A2 k0)=p+ln (Gj s all (r+1) e left)/\(SEq dl (λi=>eI (nth (bu k0) i)) dl λi=>eI (nth (Jk s all (r+1) now e left) i))/\l=l/\rows s=rows s/\sR Ar all/\233=233/\A4=A4)))))) func233 ?_
 simp only[stdS,aL,aB,and_true];obtain⟨l1,l2,l3,l4⟩:=Ll hs;have h28:=z7 r;have jp:rows s<=6:=(Kp (l4 0 (by omega))).2.2.2.1;have gw:∀a:Nat,(a:Int)+1=((a+1:Nat):Int):=λa=>by omega
 refine⟨by omega,λtm=>⟨⟨rfl,Lp λ_ _=>rfl⟩,λk0 hk0=>⟨λhd=>?_,λhd=>?_⟩⟩⟩
 ·have hlt:k0<(nth all r).length:=by grind
  have hx:num (nth (nth all r) k0)=true:=Aby h28.2 k0 hlt;have aw:=Axx (s:=s) (e:=e) (left:=left) hlt;have hns:=Az9 (s:=s) (now:=now) (e:=e) (left:=left) hlt;have mf:=Ap3 s all r now e left k0;have ihk:=λf=>ih k0 left.length f hlt;clear ih;generalize nth (nth all r) k0=x at *
  generalize nowTo s all r now e left k0=N at *
  generalize nowTo s all r now e left (k0+1)=N1 at *
  obtain⟨hNl,hNd⟩:=mf.cons he (by omega) x;rw[hn]at hNl;have hNl2:N.length=rows s:=by grind
  have hrt:=Azb hNd (by omega);have hnum:num (Bm (N.set r x) r).n=true:=by grind[rt_n,Ap4]
  have uo:okAll s (x::e) r left=false->(Gk s all r e left (k0+1)).length=(Gk s all r e left k0).length/\N1=N.set r x:=λhb=>by
   grind[Oi,Ym]
  have qd:okAll s (x::e) r left=true->(Gk s all r e left (k0+1)).length=(Gk s all r e left k0).length+(Gj s all r (x::e) (Cy s (x::e) r left)).length/\N1=Jk s all r (N.set r x) (x::e) (Cy s (x::e) r left):=λhb=>by
   grind[Oi,Ym]
  have hkx:nth (x::e) 0=x:=rfl;have qe:∀k1,k1<left.length->okH s (x::e) r left k1=false->okAll s (x::e) r left=false:=λk1 al hb=>Ui (k:=k1) (by grind) (by grind[Cc]);have uq:∀k1,k1<=Ps s (x::e) r left->k1<left.length->okH s (x::e) r left k1=true->k1<Ps s (x::e) r left:=λk1 al hlt1 hb=>Fq al (by grind) (by grind[Cc]);have hrest:∀k1,k1<left.length->nth (restTo s (x::e) r left k1) k1=nth left k1:=λk1 al=>by grind[Ac7,Mp]
  have l6:∀k1,(nth (nth s.cols k1) r==x)=true->SEq left.length (λj=>eI (nth (restTo s (x::e) r left k1) j)) left.length (λj=>eI (nth (restTo s (x::e) r left (k1+1)) j)):=λk1 h=>Lp λj hj=>by
   grind[Ap6,Nat.eq_of_beq_eq_true,Ks]
  have hless:∀k1,k1<left.length->(nth (nth s.cols k1) r==x)=false->SEq left.length (Es (λj=>eI (nth (restTo s (x::e) r left k1) j)) k1 (List.map C.dem [C.v (Value.int .i64 (nth (restTo s (x::e) r left k1) k1 - 1))])) left.length (λj=>eI (nth (restTo s (x::e) r left (k1+1)) j)):=λk1 al h=>Ahs λj hj=>by
   grind[Ap6,Nat.eq_of_beq_eq_true,Ks]
  have hok0:∀k1,(nth (nth s.cols k1) r==x)=true->okH s (x::e) r left k1=true:=λk1 h=>by
   grind[okH]
  have hok1:∀k1,(nth (nth s.cols k1) r==x)=false->okH s (x::e) r left k1=(decide (1<=nth left k1)&&(Bm (x::e) 0).kind (nth (nth s.cols k1) r) != 0):=λk1 h=>by
   grind[okH]
  have eu:∀k1,k1<s.cols.length->(nth s.cols k1).length=rows s:=λk1 h=>(Kp (l4 k1 h)).1;have hbeq:∀k1,k1<left.length->(bif k1.beq k1 then nth (restTo s (x::e) r left k1) k1 - 1 else nth (restTo s (x::e) r left k1) k1)=nth left k1 - 1:=λk1 h=>by
   grind[Nat.beq_refl]
  have hlk:∀k1,k1<left.length->0<=nth (restTo s (x::e) r left k1) k1/\nth (restTo s (x::e) r left k1) k1<=2:=λk1 h=>by
   grind
  have db:∀k1,k1<=Ps s (x::e) r left->¬k1<s.cols.length->okAll s (x::e) r left=true/\SEq left.length (λj=>eI (nth (restTo s (x::e) r left k1) j)) left.length (λi=>eI (nth (Cy s (x::e) r left) i)):=λk1 al hk=>by
   refine⟨Jg (by grind[Ps]),Lp λj hj=>?_⟩;grind[Ac7,Ap5,Kr]
  have ir:=Ahf S (Bm (N.set r x) r);refine⟨by omega,by omega,hr,Aor left (by omega) (by omega),λhmc=>⟨⟨Lp λj hj=>by grind[Ac7,Mp],Ahs λj _=>Azd (by omega)⟩,λk1 al=>⟨λh1=>⟨λhk=>?_,λhk=>?_⟩,λh1=>⟨λhk=>?_,λhk=>?_⟩⟩⟩⟩
  ·have bo:k1<s.cols.length:=by grind
   have cx:k1<left.length:=by omega
   have hc:=eu k1 bo;have hlk:=hlk k1 cx;have vu:=bY h1;refine⟨by omega,by omega,λhq=>⟨(Ad _).2 (by omega),uq k1 al cx (hok0 k1 hq),gw k1,l6 k1 hq,trivial⟩,λhq=>⟨by omega,cx,(Ad _).2 (by omega),by omega,cx,by omega,cx,by grind,ofN S (N.set r x) (rows s) r hNl hr (Jl P l m) _,by omega,ir _ hnum,λhz=>?_,λhz=>?_⟩⟩
   ·rw[iG,hrt]at hz;have hb:=hok1 k1 hq;unfold bne at hb;rw[hz,gM,Bool.and_false]at hb;obtain⟨q1,q2⟩:=uo (qe k1 cx hb);exact⟨(Ad _).2 (by omega),hlt,gw k0,by rw[q1],Lp λ_ _=>by rw[q2]⟩
   grind[Ad]
  ·have bo:¬k1<s.cols.length:=by grind
   obtain⟨q0,q3⟩:=db k1 al bo;obtain⟨q1,q2⟩:=qd q0;exact⟨(Ad _).2 (by omega),ihk _ q0 q3,(Ad _).2 (by omega),hlt,gw k0,by omega,Lp λ_ _=>by rw[q2]⟩
  ·have bo:k1<s.cols.length:=by grind
   have cx:k1<left.length:=by omega
   have hc:=eu k1 bo;have hlk:=hlk k1 cx;have vu:=dS h1;refine⟨by omega,by omega,λhq=>⟨(Ad _).2 (by omega),uq k1 al cx (hok0 k1 hq),gw k1,l6 k1 hq,trivial⟩,λhq=>⟨by omega,cx,(Ad _).2 (by omega),by omega,cx,by omega,cx,by grind,λh=>(by cases h),?_⟩⟩;have hb:=hok1 k1 hq;rw[h1,Bool.false_and]at hb;obtain⟨q1,q2⟩:=uo (qe k1 cx hb);exact⟨(Ad _).2 (by omega),hlt,gw k0,by rw[q1],Lp λ_ _=>by rw[q2]⟩
  ·have bo:¬k1<s.cols.length:=by grind
   obtain⟨q0,q3⟩:=db k1 al bo;obtain⟨q1,q2⟩:=qd q0;exact⟨(Ad _).2 (by omega),ihk _ q0 q3,(Ad _).2 (by omega),hlt,gw k0,by omega,Lp λ_ _=>by rw[q2]⟩
 ·have bf:k0=(nth all r).length:=by grind
  subst bf;rw[Axy,Aza];exact⟨rfl,Lp λ_ _=>rfl,trivial⟩
theorem Yn {f:Int->List (List Int)}:∀{l:List Int} {k i:Nat},k<l.length->i<(f (nth l k)).length->nth (l.flatMap f) (((l.take k).flatMap f).length+i)=nth (f (nth l k)) i
 | [],k,i,h,_=>by simp at h
 |x::l,0,i,_,h=>by
  rw[fH,List.take_zero,show ((List.flatMap f []).length+i)=i by simp];exact Mn (show i<(f x).length from h)
 |x::l,k+1,i,hk,h=>by
  rw[fH,List.take_succ_cons,fH,cU,Nat.add_assoc,Km (by omega),eO];exact Yn (by grind) h
def Ac8 {f:Int->List (List Int)} {l:List Int} {k:Nat} (h:k<l.length):((l.take k).flatMap f).length+(f (nth l k)).length<=(l.flatMap f).length:=by
 have h1:l.flatMap f=(l.take (k+1)).flatMap f++(l.drop (k+1)).flatMap f:=by grind[List.take_append_drop]
 grind[take_succ]
theorem Ap7 (S:SP Gl) (s:Sheet) (all P:List (List Int)) (l m:Nat) (hs:s.ok=true) (o6:all.length=rows s) (z7:∀r,(nth all r).length<=28/\(nth all r).all num=true):∀(r:Nat) (now e left:List Int) (p:Nat),r<=rows s->now.length=rows s->now.drop r=e->left.length=s.cols.length->(∀i,i<left.length->0<=nth left i/\nth left i<=2)->
  (∀i,i<(Gj s all r e left).length->p+i<m/\nth P (p+i)=nth (Gj s all r e left) i)->
  DO Gl (Jl P l m) 233 [I ((r:Int) - 1),L eI left,.addr FAR 0,.addr (FAR+1) 0,.addr (FAR+2) 0,.d (.c (.p (Cw s))),.addr (FAR+3) 0] (Mu s all l p now) (.ret (B true)) (Mv s (p+(Gj s all r e left).length) (Jk s all r now e left))
 |0,now,e,left,p,hr,hn,he,hl,hlr,hP=>by
  obtain⟨l1,l2,l3,l4⟩:=Ll hs;have jp:=(Kp (l4 0 (by omega))).2.2;obtain⟨h1,h2⟩:=hP 0 (show 0<1 by decide);have he:now=e:=he;subst he;exact Azh S s all P left now l m p hn jp.1 jp.2.1 h1 h2
 |r+1,now,e,left,p,hr,hn,he,hl,hlr,hP=>by
  have e1:((r+1:Nat):Int) - 1=(r:Int):=by omega
  rw[e1];refine Azi S s all P now e left l m p r hs hn (by omega) he o6 z7 hl hlr λk n f hk n6 mi=>?_;generalize hx:nth (nth all r) k=x at *
  have mf:=Ap3 s all r now e left k;obtain⟨hNl,hNd⟩:=mf.cons he (by omega) x;have m8:Oi s all r e left x=Gj s all r (x::e) (Cy s (x::e) r left):=by grind[Oi]
  have ih:=Ap7 S s all P l m hs o6 z7 r ((nowTo s all r now e left k).set r x) (x::e) (Cy s (x::e) r left) (p+(Gk s all r e left k).length) (by omega) (by rw[hNl,hn]) hNd (by rw[Uq];exact hl) (λi hi=>?_) (λi hi=>?_)
  ·exact ih.args (show ((r:Int) - 1=(r:Int) - 1)/\SEq n f (Cy s (x::e) r left).length (λi=>eI (nth (Cy s (x::e) r left) i))/\Cw s=Cw s from ⟨rfl,by grind[Uq],rfl⟩)
  ·rw[Uq]at hi;have h1:okH s (x::e) r left i=true:=aS.1 n6 i (bB.2 hi);grind[Ap5,Ks,okH]
  ·rw[<-m8]at hi ⊢;have hb:=Ac8 (f:=Oi s all r e left) hk;have vf:=Yn (f:=Oi s all r e left) (i:=i) hk (by grind);rw[hx]at hb vf;have e2:Gj s all (r+1) e left=(nth all r).flatMap (Oi s all r e left):=rfl;grind[Gk]
structure Span where
 lo:Int
 hi:Int
deriving DecidableEq
instance:Inhabited Span:=⟨⟨0,0⟩⟩
def Ae (s:Span):List C:=[Ci s.lo,Ci s.hi]
structure Plan where
 starts:List Span
 rows:Int
 guard:Int
def Ca (p:Plan):List C:=[.l Ae p.starts,Ci p.rows,Ci p.guard]
def Cn (p:Plan):T:=.d (.agg (Ca p))
def Oj (p:Plan) (t:List Int):T:=.d (.agg (Ca p++[.l eI t]))
def Da (s:Span):Bool:=inR s.lo (-99999) 99999&&(inR s.hi s.lo 99999&&decide (s.hi<=s.lo+6))
def Bn (p:Plan):Bool:=inR p.starts.length 1 4&&(inR p.rows 1 12&&(inR p.guard 0 3&&p.starts.all Da))
def Mw (p:Plan) (t:List Int) (i:Nat):Bool:=inR (nth t i) (nth p.starts i).lo (nth p.starts i).hi
def Cu (p:Plan) (t:List Int):Bool:=t.length==p.starts.length&&(List.range t.length).all (Mw p t)
def Rx:List Int->List Int
 |a::b::r=>(a+b)::Rx (b::r)
 |l=>l
def Bv:List Int->Nat->List Int
 |l,0=>l
 |l,k+1=>Rx (Bv l k)
def Ec (t:List Int) (rows:Nat):List Int:=(List.range rows).map λr=>nth (Bv t r) 0
def Ok (a b:List Int) (j:Nat):List Int:=a.take j++b.drop j
theorem Aht:∀l:List Int,(Rx l).length=l.length
 | []=>rfl
 | [_]=>rfl
 |a::b::r=>by
  unfold Rx;rw[cQ,Aht (b::r)]
  rfl
theorem Ahu (t:List Int):∀k,(Bv t k).length=t.length
 |0=>rfl
 |k+1=>by unfold Bv;rw[Aht,Ahu t k]
theorem Ahv:∀{l:List Int} {i:Nat},i+1<l.length->nth (Rx l) i=nth l i+nth l (i+1)
 | [],i,h=>by simp at h
 | [_],i,h=>by simp at h
 |a::b::r,0,_=>rfl
 |a::b::r,i+1,h=>by
  have:=Ahv (l:=b::r) (i:=i) (by grind);trivial
theorem Ahw:∀{l:List Int} {i:Nat},i+1=l.length->nth (Rx l) i=nth l i
 | [],i,h=>by simp at h
 | [_],i,h=>rfl
 |a::b::r,0,h=>by simp at h
 |a::b::r,i+1,h=>by
  have:=Ahw (l:=b::r) (i:=i) (by grind);trivial
def Azj {a b:List Int} {i j:Nat} (h:a.length=b.length) (hj:j<=a.length):nth (Ok a b j) i=bif Nat.blt i j then nth a i else nth b i:=by
 unfold Ok;have hl:(a.take j).length=j:=by grind
 rcases bL i j with h1|h1
 ·grind[Mn,Ax8,Nat.blt,Nat.ble_eq_true_of_le]
 ·have:Nat.blt i j=false:=by rw[fI];intro h2;have:=aH h2;omega
  grind[Km,Rn]
def bnd (B:Int) (l:List Int):Prop:=∀i,i<l.length->-B<=nth l i/\nth l i<=B
def Azk {B:Int} {l:List Int} (h:bnd B l):bnd (2*B) (Rx l):=by
 intro i hi;rw[Aht]at hi;have h1:=h i hi;rcases bL (i+1) l.length with h2|h2
 ·have h3:=h (i+1) h2;rw[Ahv h2];omega
 grind[Ahw]
theorem Ap8 {B:Int} {l:List Int} (h:bnd B l):∀k:Nat,bnd (2 ^ k*B) (Bv l k)
 |0=>by rw[show (2:Int) ^ 0*B=B by omega];exact h
 |k+1=>by
  have:=Azk (Ap8 h k);rw[show (2:Int) ^ (k+1)*B=2*(2 ^ k*B) by grind];exact this
def Azl {B B':Int} {l:List Int} (h:bnd B l) (hb:B<=B'):bnd B' l:=λi hi=>by have:=h i hi;omega
def Azm {l:List Int} (h:bnd 100000 l) {k:Nat} (hk:k<=12):bnd 500000000 (Bv l k):=by
 refine Azl (Ap8 h k) ?_;have:∀k:Fin 13,(2:Int) ^ k.1*100000<=500000000:=by decide
 exact this ⟨k,by omega⟩
theorem Ur (S:SP Gl) (x lo hi:Int):CR Gl 97 [I x,I lo,I hi] (B (inR x lo hi)):=by
 refine Ag S (let A0:=eqB (decide (lo<=x)) true=true->eqB (decide (lo<=x)) true=true;((.nil),(A0/\A0/\(decide (lo<=x)=true->eqB (decide (lo<=x)) true=true)/\(bif decide (lo<=x) then decide (x<=hi) else false)=inR x lo hi))) func97 ?_;simp only[stdS,aL,aB,and_true,inR]
theorem Azn (S:SP Gl) (s:Span):CR Gl 100 [.d (.agg (Ae s))] (B (Da s)):=by
 refine Ag S (let A4:=(-99999:Int);let A1:=inR s.1 A4 99999;let A3:=eqB A1 true=true->eqB A1 true=true;let A0:=bif inR s.1 A4 (99999:Int) then inR s.2 s.1 (99999:Int) else false;let A2:=eqB A0 true=true->eqB A0 true=true;((rs [B A1,B (inR s.2 s.1 99999)] .nil),(CR Gl 97 [I s.1,I A4,I 99999] (B A1)/\A3/\A3/\A3/\A3/\(eqB A1 true=true->CR Gl 97 [I s.2,I s.1,I 99999] (B (inR s.2 s.1 99999)))/\(inR s.1 A4 99999=true->eqB A1 true=true)/\A2/\A2/\A2/\(eqB A0 true=true->iR (s.1+(6:Int)))/\A2/\A2/\(A0=true->eqB A0 true=true)/\(bif bif inR s.1 A4 (99999:Int) then inR s.2 s.1 (99999:Int) else false then decide (s.2<=s.1+(6:Int)) else false)=Da s))) func100 ?_;dsimp only;have h0:=Ur S s.lo (-99999) 99999;have h1:=Ur S s.hi s.lo 99999;cases ha:inR s.lo (-99999) 99999 with
 |false=>grind[eqB,Da]
 |true=>
  have:=Bi.1 ha;rw[ha]at h0;simp only[stdS,aL,aB,and_true,bA,eqB,Da,ha,Ad,fE];grind
def bad99 (S:SP Gl) (s:Span):CR Gl 99 [.d (.agg (Ae s))] (B (!Da s)):=by
 refine Ao S (rt (B (Da s)) .nil) (CR Gl 100 [tA (Ae s)] (B (Da s))/\(!Da s)=!Da s) func99 ?_;simp only[stdS,aL,aB,and_true];grind[Azn]
theorem Azo (S:SP Gl) (l:List Span):CR Gl 187 [L Ae l,.fn 99 [] []] (I (idxI (λs=>!Da s) l)):=by
 refine Ag S (let A0:=λs=>!Da s;((.loop (upIdx A0 l) (λk=>[v 8 (I k),v 7 (I l.length),v 0 (L Ae l),v 1 (T.fn 99 [] [])]) λk0=>.br (rt (B !Da (nth l k0)) (.br .nil .nil)) .nil),(l.length<=maxLen->(0=(↑(0:Nat):Int)/\(l.length:Int)=l.length/\sR Ae l/\99=99)/\∀(k0:Nat),k0<=upIdx A0 l->(decide ((k0:Int)<l.length)=true->(0<=(k0:Int)/\(k0:Int)<l.length)/\CR Gl 99 [tA (Ae (nth l k0))] (B !Da (nth l k0))/\((!Da (nth l k0))=true->(k0:Int)=idxI A0 l)/\((!Da (nth l k0))=false->iR ((k0:Int)+1)/\k0<upIdx A0 l/\(k0:Int)+1=(↑(k0+1):Int)/\(l.length:Int)=l.length/\sR Ae l/\99=99))/\(decide ((k0:Int)<l.length)=false->(-1:Int)=idxI A0 l)))) func187 ?_;have h:=idx_loop (λs=>!Da s) l _ λk _=>bad99 S (nth l k);simp only[stdS,aL,aB,and_true,aN,aK,Ap,Ad,cL,cZ]at h ⊢;exact h
theorem has98 (S:SP Gl) (l:List Span):CR Gl 98 [L Ae l,.fn 99 [] []] (B (!l.all Da)):=by
 refine Ao S (rt (I (idxI (λs=>!Da s) l)) .nil) (CR Gl 187 [L Ae l,T.fn 99 [] []] (I (idxI (λs=>!Da s) l))/\decide ((0:Int)<=idxI (λs=>!Da s) l)=!List.all l Da) func98 ?_;grind[idxI_spec,Azo]
theorem Ahx (S:SP Gl) (p:Plan):CR Gl 34 [Cn p] (B (Bn p)):=by
 refine Ag S (let A6:=(p.1.length:Int);let A2:=inR p.1.length 1 4;let A4:=eqB A2 true=true->eqB A2 true=true;let A1:=bif inR A6 (1:Int) (4:Int) then inR p.2 (1:Int) (12:Int) else false;let A5:=eqB A1 true=true->eqB A1 true=true;let A0:=bif bif inR A6 (1:Int) (4:Int) then inR p.2 (1:Int) (12:Int) else false then inR p.3 (0:Int) (3:Int) else false;let A3:=eqB A0 true=true->eqB A0 true=true;((rs [B A2,B (inR p.2 1 12),B (inR p.3 0 3),B !List.all p.1 Da] .nil),(p.1.length<=maxLen->CR Gl 97 [I p.1.length,I 1,I 4] (B A2)/\A4/\A4/\(eqB A2 true=true->CR Gl 97 [I p.2,I 1,I 12] (B (inR p.2 1 12)))/\(inR p.1.length 1 4=true->eqB A2 true=true)/\A5/\A5/\(eqB A1 true=true->CR Gl 97 [I p.3,I 0,I 3] (B (inR p.3 0 3)))/\(A1=true->eqB A1 true=true)/\A3/\A3/\(eqB A0 true=true->CR Gl 98 [L Ae p.1,T.fn 99 [] []] (B !List.all p.1 Da))/\A3/\(A0=true->eqB A0 true=true)/\(bif bif bif inR A6 (1:Int) (4:Int) then inR p.2 (1:Int) (12:Int) else false then inR p.3 (0:Int) (3:Int) else false then !!List.all p.1 Da else false)=Bn p))) func34 ?_;dsimp only;grind[Ur,has98,Bn,eqB]
theorem Azp (S:SP Gl) (p:Plan) (t:List Int):CR Gl 35 [Cn p,L eI t] (B (Cu p t)):=by
 refine Ag S (let A2:=λ(k0:Nat)=>nth p.1 k0;let A1:=((t.length:Int) != (p.1.length:Int));let A0:=Bl (Mw p t) (List.range t.length);((.br .nil (.loop A0 (λk=>v 15 (I k)::v 14 (I t.length)::v 13 (L eI t)::v 2 (ad 2)::bx 2 (Ca p)) λk0=>.br (rt (B (inR (nth t k0) (A2 k0).1 (A2 k0).2)) (.br .nil .nil)) .nil)),(t.length<=maxLen->p.1.length<=maxLen->(A1=true->false=Cu p t)/\(A1=false->t.length<=maxLen->(lz t.length (sR eI t/\sR Ae p.1/\p.2=p.2/\p.3=p.3))/\∀(k0:Nat),k0<=Bl (Mw p t) (List.range t.length)->(dt k0 t.length->(ix k0 t.length)/\(ix k0 p.1.length)/\(ix k0 p.1.length)/\CR Gl 97 [I (nth t k0),I (A2 k0).1,I (A2 k0).2] (B (inR (nth t k0) (A2 k0).1 (A2 k0).2))/\((!inR (nth t k0) (A2 k0).1 (A2 k0).2)=true->false=Cu p t)/\((!inR (nth t k0) (A2 k0).1 (A2 k0).2)=false->lq k0 A0 ((t.length:Int)=t.length/\sR eI t/\sR Ae p.1/\p.2=p.2/\p.3=p.3)))/\(df k0 t.length->true=Cu p t))))) func35 ?_;simp only[stdS,aL,aB,and_true,Ap,Ad,aN,aK];refine λhm qr=>⟨λh=>?_,λh _ k hk=>⟨λhd=>?_,λhd=>?_⟩⟩
 ·grind[Cu]
 ·grind[Ur,Fq,Mw,Cc,Cu]
 grind[Jg,Cu]
theorem Azq (S:SP Gl) (t:List Int) (r:Nat) (h1:1<=t.length) (h2:t.length<=1000) (hb:bnd 100000 t) (hr:r<=12):CR Gl 188 [L eI t,I r] (L eI (Bv t r)):=by
 refine Ag S (let A4:=λ(k0:Nat)=>Bv t (k0+1);let A3:=(t.length:Int);let A1:=T.own 1 t.length λi=>eI (nth t i);let A0:=λ(k0 k1:Nat)=>Ok (A4 k0) (Bv t k0) k1;let A2:=λ(k0 k1:Nat)=>nth (A0 k0 k1) k1+nth (A0 k0 k1) (Int.toNat ((k1:Int)+1));((rt A1 (.loop r (λk=>[v 10 (I k),v 9 (I r),v 5 (T.arr 8 t.length),(2,8,T.arrc false 1 t.length λi=>eI (nth (Bv t k) i))]) λk0=>.br (.loop (List.length t-1) (λj=>[v 15 (I j),v 14 (I (A3-1)),v 10 (I k0),v 9 (I r),v 5 (T.arr 8 t.length),(2,8,T.arrc false 1 t.length λi=>eI (nth (Ok (A4 k0) (Bv t k0) j) i))]) λk1=>.br .nil .nil) .nil)),(CR Gl 69 [L eI t] A1/\(lz r (t.length=t.length/\SEq t.length (λi=>eI (nth t i)) t.length λi=>eI (nth (Bv t 0) i)))/\∀(k0:Nat),k0<=r->(dt k0 r->t.length<=maxLen->iR (A3-1)/\(0=(↑(0:Nat):Int)/\A3-1=t.length-1/\(k0:Int)=k0/\(r:Int)=r/\t.length=t.length/\SEq t.length (λi=>eI (nth (Bv t k0) i)) t.length λi=>eI (nth (Ok (A4 k0) (Bv t k0) 0) i))/\∀(k1:Nat),k1<=ln t-1->(decide ((k1:Int)<t.length-1)=true->(ix k1 t.length)/\k1<t.length/\iR ((k1:Int)+1)/\(0<=(k1:Int)+1/\(k1:Int)+1<t.length)/\Int.toNat ((k1:Int)+1)<t.length/\iR (A2 k0 k1)/\(ix k1 t.length)/\k1<t.length/\lq k1 (ln t-1) (A3-1=t.length-1/\(k0:Int)=k0/\(r:Int)=r/\t.length=t.length/\SEq t.length (Es (λi=>eI (nth (A0 k0 k1) i)) k1 (mI (A2 k0 k1))) t.length λi=>eI (nth (Ok (A4 k0) (Bv t k0) (k1+1)) i)))/\(decide ((k1:Int)<t.length-1)=false->lq k0 r ((r:Int)=r/\t.length=t.length/\SEq t.length (λi=>eI (nth (A0 k0 k1) i)) t.length λi=>eI (nth (A4 k0) i))))/\(df k0 r->t.length=t.length/\SEq t.length (λi=>eI (nth (Bv t k0) i)) (ln (Bv t r)) λi=>eI (nth (Bv t r) i))))) func188 ?_
 have z7:=Ahu t;simp only[stdS,aL,aB,and_true,Ap,Ad,aN,aK];refine⟨Aor t h1 h2,.of ⟨rfl,λ_ _=>rfl⟩,λk hk=>⟨λhd hm=>?_,λhd=>⟨(z7 r).symm,?_⟩⟩⟩
 ·have jh:∀j i,j<=t.length->nth (Ok (Bv t (k+1)) (Bv t k) j) i=bif Nat.blt i j then nth (Bv t (k+1)) i else nth (Bv t k) i:=λj i hj=>Azj (by grind) (by grind);have sw:∀{i j:Nat},i<j->Nat.blt i j=true:=λh=>fF h;have dr:∀{i j:Nat},j<=i->Nat.blt i j=false:=λh=>by rw[fI];intro h2;have:=aH h2;omega
  have hB:∀i,i<t.length->-500000000<=nth (Bv t k) i/\nth (Bv t k) i<=500000000:=λi hi=>Azm hb (by omega) i (by grind);refine⟨by omega,Lp λi hi=>by trivial,λj hj=>⟨λhd2=>?_,λhd2=>⟨by omega,by omega,by omega,Lp λi hi=>?_⟩⟩⟩
  ·have e1:nth (Ok (Bv t (k+1)) (Bv t k) j) j=nth (Bv t k) j:=by grind
   have e2:nth (Ok (Bv t (k+1)) (Bv t k) j) (Int.toNat ((j:Int)+1))=nth (Bv t k) (j+1):=by grind[Int.toNat]
   have b1:=hB j (by omega);have b2:=hB (j+1) (by omega);rw[e1,e2];refine⟨by omega,by omega,by omega,by omega,by omega,by omega,by omega,by omega,by omega,by omega,by omega,Ahs λi hi=>?_⟩;rw[jh (j+1) i (by omega),jh j i (by omega)];rcases gE i j with h|h|h
   ·grind[Nat.eq_of_beq_eq_true]
   ·grind[Nat.beq_refl,Ahv,Bv]
   grind[Nat.eq_of_beq_eq_true]
  grind[Ahw,Bv]
 grind
theorem Ap9 (t:List Int) (n:Nat):(Ec t n).length=n:=by grind[Ec]
def Azr (t:List Int) (n:Nat):Ec t (n+1)=Ec t n++[nth (Bv t n) 0]:=by
 grind[Ec,List.range_succ]
def plan_len {p:Plan} (h:Bn p=true):(1<=p.starts.length/\p.starts.length<=4)/\(1<=p.rows/\p.rows<=12)/\(0<=p.guard/\p.guard<=3)/\∀i,i<p.starts.length->Da (nth p.starts i)=true:=by
 grind[Bn,Bi,Fj]
theorem Apa {p:Plan} {t:List Int} (h:Bn p=true) (ht:Cu p t=true):t.length=p.starts.length/\bnd 100000 t:=by
 obtain⟨h1,h2,h3,h4⟩:=plan_len h;unfold Cu at ht;rw[aE,dI,aS]at ht;refine⟨ht.1,λi hi=>?_⟩;have h5:=ht.2 i (bB.2 hi);grind[Mw,Da,Bi]
def Azs (S:SP Gl) (p:Plan) (t:List Int) (r:Nat) (h1:1<=t.length) (h2:t.length<=1000) (hb:bnd 100000 t) (hr:r<=12):CR Gl 101 [Oj p t,I r] (L eI (Bv t r)):=by
 refine Ao S (rt (L eI (Bv t r)) .nil) (CR Gl 188 [L eI t,I r] (L eI (Bv t r))/\sR eI (Bv t r)) func101 ?_;simp only[stdS,aL,aB,and_true];grind[Azq]
theorem Apb (S:SP Gl) (p:Plan) (t:List Int) (n:Nat) (h1:1<=t.length) (h2:t.length<=1000) (hb:bnd 100000 t) (hr:n<=12) (hp:p.rows=n):CR Gl 36 [Oj p t] (L eI (Ec t n)):=by
 refine Ao S (.loop n (λk=>v 9 (I k)::v 8 (I (Plan.rows p))::v 1 (ad 1)::tk 100 3::v 3 (Lt 100 eI (Ec t k))::bx 1 (Ca p++[C.l eI t])) λk0=>.br (rt (L eI (Bv t k0)) .nil) .nil) ((0=(↑(0:Nat):Int)/\p.2=p.2/\0=0/\sR Ae p.1/\p.2=p.2/\p.3=p.3/\sR eI t)/\∀(k0:Nat),k0<=n->(dt k0 p.2->CR Gl 101 [Oj p t,I k0] (L eI (Bv t k0))/\((0:Int)<=0/\0<(ln (Bv t k0):Int))/\cp (ln (Ec t k0)+1) (lq k0 n (p.2=p.2/\(SEq (ln (Ec t k0)+1) (An (ln (Ec t k0)) (λi=>eI (nth (Ec t k0) i)) (gD [mI (nth (Bv t k0) (Int.toNat 0))])) (ln (Ec t (k0+1))) λi=>eI (nth (Ec t (k0+1)) i))/\sR Ae p.1/\p.2=p.2/\p.3=p.3/\sR eI t)))/\(df k0 p.2->sQ eI (Ec t k0) (Ec t n))) func36 ?_;simp only[stdS,aL,aB,and_true,Ap,Ad,aN,aK,hp];refine λk hk=>⟨λhd=>?_,λhd=>?_⟩
 ·have hl:=Ahu t k;have ht:=Ap9 t k;exact⟨Azs S p t k h1 h2 hb (by omega),by omega,by omega,by omega,by omega,by omega,by omega,Eb (f:=eI) (Azr t k) rfl,trivial⟩
 ·have:k=n:=by omega
  subst this;exact Ax rfl
def Azt (S:SP Gl) (p:Plan) (t:List Int) (ho:Bn p=true) (ht:Cu p t=true):CR Gl 9 [Cn p,L eI t] (.tup [.c (.l eI (Ec t p.rows.toNat)),.c (Ci 0)]):=by
 refine Ag S (let A0:=L eI (Ec t (Int.toNat (Plan.rows p)));((.val 7 true (rt (B (Bn p)) (.sure 10 (.sure 11 (.val 12 true (.sure 12 (rt (B (Cu p t)) (.sure 13 (.ff (rt A0 .nil)))))))))),(Bn p=true/\CR Gl 34 [Cn p] (B (Bn p))/\tt 2 (Cu p t=true/\tt 1 (CR Gl 35 [Cn p,L eI t] (B (Cu p t))/\tt 1 (false=false/\CR Gl 36 [Oj p t] A0/\(sR eI (Ec t (Int.toNat p.2)))/\(0:Int)=0)))))) func9 ?_;obtain⟨l1,l2,l3,l4⟩:=plan_len ho;obtain⟨t1,t2⟩:=Apa ho ht;simp only[stdS,aL,aB,and_true];grind[Ahx,Azp,Apb]
end Go.Vc.Zn
namespace Go.Vc.Zn.Py
open Go Go.Proofs Go.Vc Go.RowKit Tryz
variable {Gl:World->Prop}
structure Line where
 hand:Int
 sheets:Int
 errs:Span
 morn:Int
 posts:Int
 p0:Int
 p1:Int
 p2:Int
 p3:Int
deriving DecidableEq
instance:Inhabited Line:=⟨⟨0,0,default,0,0,0,0,0,0⟩⟩
structure PBook where
 hands:Int
 unit:Int
 sheet:Int
 error:Int
 morn:Int
 post:Int
 lines:List Line
def Yo (l:Line):List C:=[Ci l.p0,Ci l.p1,Ci l.p2,Ci l.p3]
def eLine (l:Line):List C:=[Ci l.hand,Ci l.sheets,Ci l.errs.lo,Ci l.errs.hi,Ci l.morn,Ci l.posts,Ci l.p0,Ci l.p1,Ci l.p2,Ci l.p3]
def cPB (b:PBook):List C:=[Ci b.hands,Ci b.unit,Ci b.sheet,Ci b.error,Ci b.morn,Ci b.post,.l eLine b.lines]
def Kt (l:Line):Bool:=inR l.p0 0 999&&inR l.p1 0 19&&inR l.p2 0 11&&inR l.p3 0 3
def Dh (h:Int) (l:Line):Bool:=inR l.errs.lo 0 20&&inR l.errs.hi l.errs.lo (min 20 (l.errs.lo+3))&&inR l.hand 0 (h - 1)&&inR l.sheets 0 20&&inR l.morn 0 10&&inR l.posts 0 10&&Kt l
def Pu (n:Int):Bool:=inR n 0 800
def okPB (b:PBook):Bool:=inR b.hands 1 3&&inR b.unit 1 48&&inR b.lines.length 1 5&&[b.sheet,b.error,b.morn,b.post].all Pu&&b.lines.all (Dh b.hands)
theorem Lq (S:SP Gl) (x lo hi:Int):CR Gl 89 [I x,I lo,I hi] (B (inR x lo hi)):=by
 refine Ag S (let A0:=eqB (decide (lo<=x)) true=true->eqB (decide (lo<=x)) true=true;((.nil),(A0/\A0/\(decide (lo<=x)=true->eqB (decide (lo<=x)) true=true)/\(bif decide (lo<=x) then decide (x<=hi) else false)=inR x lo hi))) func89 ?_;simp only[stdS,aL,aB,and_true,inR]
def Azu (S:SP Gl) (l:Line):CR Gl 286 [.d (.agg (Yo l))] (B (Kt l)):=by
 refine Ag S (let A6:=(0:Int);let A2:=inR l.6 0 999;let A3:=eqB A2 true=true->eqB A2 true=true;let A1:=bif inR l.6 A6 (999:Int) then inR l.7 A6 (19:Int) else false;let A4:=eqB A1 true=true->eqB A1 true=true;let A0:=bif bif inR l.6 A6 (999:Int) then inR l.7 A6 (19:Int) else false then inR l.8 A6 (11:Int) else false;let A5:=eqB A0 true=true->eqB A0 true=true;((rs [B A2,B (inR l.7 0 19),B (inR l.8 0 11),B (inR l.9 0 3)] .nil),(CR Gl 89 [I l.6,I 0,I 999] (B A2)/\A3/\A3/\(eqB A2 true=true->CR Gl 89 [I l.7,I 0,I 19] (B (inR l.7 0 19)))/\(inR l.6 0 999=true->eqB A2 true=true)/\A4/\A4/\(eqB A1 true=true->CR Gl 89 [I l.8,I 0,I 11] (B (inR l.8 0 11)))/\(A1=true->eqB A1 true=true)/\A5/\A5/\(eqB A0 true=true->CR Gl 89 [I l.9,I 0,I 3] (B (inR l.9 0 3)))/\(A0=true->eqB A0 true=true)/\(bif bif bif inR l.6 A6 (999:Int) then inR l.7 A6 (19:Int) else false then inR l.8 A6 (11:Int) else false then inR l.9 A6 (3:Int) else false)=Kt l))) func286 ?_;dsimp only
 repeat' first
  |with_reducible exact λh=>h
  |with_reducible exact λ_=>Lq S _ _ _
  |with_reducible exact Lq S _ _ _
  |with_reducible rfl
  |(intro h;rw[h];rfl)
  |with_reducible apply And.intro
 grind[Kt]
theorem Azv (S:SP Gl) (b:PBook) (l:Line) (hh:-1000000<=b.hands/\b.hands<=1000000):CR Gl 181 [.d (.agg (cPB b)),.d (.agg (eLine l))] (B (Dh b.hands l)):=by
 refine Ag S (let ay:=(20:Int);let o7:=(0:Int);let A9:=(b.1-(1:Int));let A8:=inR l.3.1 0 20;let A6:=(min ay (l.3.1+(3:Int)));let A5:=eqB A8 true=true->eqB A8 true=true;let A4:=bif bif inR l.3.1 o7 ay then inR l.3.2 l.3.1 A6 else false then inR l.1 o7 A9 else false;let dl:=eqB A4 true=true->eqB A4 true=true;let A3:=bif bif bif inR l.3.1 o7 ay then inR l.3.2 l.3.1 A6 else false then inR l.1 o7 A9 else false then inR l.2 o7 ay else false;let my:=eqB A3 true=true->eqB A3 true=true;let A2:=bif inR l.3.1 o7 ay then inR l.3.2 l.3.1 A6 else false;let A7:=eqB A2 true=true->eqB A2 true=true;let A1:=bif bif bif bif inR l.3.1 o7 ay then inR l.3.2 l.3.1 A6 else false then inR l.1 o7 A9 else false then inR l.2 o7 ay else false then inR l.4 o7 (10:Int) else false;let rp:=eqB A1 true=true->eqB A1 true=true;let A0:=bif bif bif bif bif inR l.3.1 o7 ay then inR l.3.2 l.3.1 A6 else false then inR l.1 o7 A9 else false then inR l.2 o7 ay else false then inR l.4 o7 (10:Int) else false then inR l.5 o7 (10:Int) else false;let ro:=eqB A0 true=true->eqB A0 true=true;((rs [B A8,B (inR l.3.2 l.3.1 A6),B (inR l.1 0 A9),B (inR l.2 0 20),B (inR l.4 0 10),B (inR l.5 0 10),B (Kt l)] .nil),(CR Gl 89 [I l.3.1,I 0,I 20] (B A8)/\A5/\A5/\A5/\A5/\(eqB A8 true=true->iR (l.3.1+(3:Int)))/\A5/\A5/\A5/\A5/\(eqB A8 true=true->CR Gl 89 [I l.3.2,I l.3.1,I A6] (B (inR l.3.2 l.3.1 A6)))/\(inR l.3.1 0 20=true->eqB A8 true=true)/\A7/\A7/\A7/\(eqB A2 true=true->iR A9)/\A7/\A7/\(eqB A2 true=true->CR Gl 89 [I l.1,I 0,I A9] (B (inR l.1 0 A9)))/\(A2=true->eqB A2 true=true)/\dl/\dl/\(eqB A4 true=true->CR Gl 89 [I l.2,I 0,I 20] (B (inR l.2 0 20)))/\(A4=true->eqB A4 true=true)/\my/\my/\(eqB A3 true=true->CR Gl 89 [I l.4,I 0,I 10] (B (inR l.4 0 10)))/\(A3=true->eqB A3 true=true)/\rp/\rp/\(eqB A1 true=true->CR Gl 89 [I l.5,I 0,I 10] (B (inR l.5 0 10)))/\(A1=true->eqB A1 true=true)/\ro/\ro/\(eqB A0 true=true->CR Gl 286 [tA (Yo l)] (B (Kt l)))/\(A0=true->eqB A0 true=true)/\(bif bif bif bif bif bif inR l.3.1 o7 ay then inR l.3.2 l.3.1 A6 else false then inR l.1 o7 A9 else false then inR l.2 o7 ay else false then inR l.4 o7 (10:Int) else false then inR l.5 o7 (10:Int) else false then Kt l else false)=Dh b.1 l))) func181 ?_
 dsimp only;have hr:eqB (inR l.errs.lo 0 20) true=true->iR (l.errs.lo+3):=λh=>by
  grind[Abs,Bi,Ad]
 repeat' first
  |with_reducible exact λh=>h
  |with_reducible exact λ_=>Lq S _ _ _
  |with_reducible exact Lq S _ _ _
  |with_reducible exact λ_=>Azu S l
  |with_reducible exact hr
  |with_reducible exact λ_=>(Ad _).2 (by omega)
  |with_reducible rfl
  |(intro h;rw[h];rfl)
  |with_reducible apply And.intro
 grind[Dh]
def Azw (S:SP Gl) (b:PBook) (l:Line) (hh:-1000000<=b.hands/\b.hands<=1000000):CR Gl 180 [.d (.agg (eLine l)),.d (.rd (cPB b))] (B (!Dh b.hands l)):=by
 refine Ao S (rt (B (Dh (PBook.hands b) l)) .nil) (CR Gl 181 [tA (cPB b),tA (eLine l)] (B (Dh (PBook.hands b) l))/\(!Dh b.1 l)=!Dh b.1 l) func180 ?_;grind[Azv]
def Azx (S:SP Gl) (n:Int):CR Gl 178 [I n] (B (!Pu n)):=by
 refine Ao S (rt (B (inR n 0 800)) .nil) (CR Gl 89 [I n,I 0,I 800] (B (inR n 0 800))/\(!inR n (0:Int) (800:Int))=!Pu n) func178 ?_;exact⟨Lq S _ _ _,rfl⟩
theorem Azy (S:SP Gl) (b:PBook) (l:List Line) (hh:-1000000<=b.hands/\b.hands<=1000000):CR Gl 285 [L eLine l,.fn 180 [] [.d (.rd (cPB b))]] (I (idxI (λx=>!Dh b.hands x) l)):=by
 refine Ag S (let A0:=λx=>!Dh (PBook.hands b) x;let P0:=λ(zz:Prop)=>(l.length:Int)=l.length/\sR eLine l/\180=180/\b.1=b.1/\b.2=b.2/\b.3=b.3/\b.4=b.4/\b.5=b.5/\b.6=b.6/\zz;((.loop (upIdx A0 l) (λk=>[v 8 (I k),v 7 (I l.length),v 0 (L eLine l),v 1 (T.fn 180 [] [T.d (D.rd (cPB b))])]) λk0=>.br (rt (B !Dh (PBook.hands b) (nth l k0)) (.br .nil .nil)) .nil),(l.length<=maxLen->(0=(↑(0:Nat):Int)/\P0 (sR eLine b.7))/\∀(k0:Nat),k0<=upIdx A0 l->(decide ((k0:Int)<l.length)=true->(0<=(k0:Int)/\(k0:Int)<l.length)/\CR Gl 180 [tA (eLine (nth l k0)),T.d (D.rd (cPB b))] (B !Dh (PBook.hands b) (nth l k0))/\((!Dh b.1 (nth l k0))=true->(k0:Int)=idxI (λx=>!Dh b.1 x) l)/\((!Dh b.1 (nth l k0))=false->iR ((k0:Int)+1)/\k0<upIdx A0 l/\(k0:Int)+1=(↑(k0+1):Int)/\P0 (sR eLine b.7)))/\(decide ((k0:Int)<l.length)=false->(-1:Int)=idxI (λx=>!Dh b.1 x) l)))) func285 ?_;have h:=idx_loop (λx=>!Dh b.hands x) l _ λk _=>Azw S b (nth l k) hh;simp only[stdS,aL,aB,and_true,aN,aK,Ap,Ad,cL,cZ]at h ⊢;exact h
def Azz (S:SP Gl) (b:PBook) (l:List Line) (hh:-1000000<=b.hands/\b.hands<=1000000):CR Gl 179 [L eLine l,.fn 180 [] [.d (.rd (cPB b))]] (B (!l.all (Dh b.hands))):=by
 refine Ag S (let A0:=I (idxI (λx=>!Dh (PBook.hands b) x) l);((rt A0 .nil),(CR Gl 285 [L eLine l,T.fn 180 [] [T.d (D.rd (cPB b))]] A0/\decide ((0:Int)<=idxI (λx=>!Dh b.1 x) l)=!List.all l (Dh b.1)))) func179 ?_;dsimp only;grind[idxI_spec,Azy]
def hasR (S:SP Gl) (a b c d:Int):CR Gl 102 [.d (.c (.s .n 4 λi=>[List.map C.dem [C.v (.int .i64 a)],List.map C.dem [C.v (.int .i64 b)],List.map C.dem [C.v (.int .i64 c)],List.map C.dem [C.v (.int .i64 d)]].getD i [])),.fn 178 [] []] (B (![a,b,c,d].all Pu)):=by
 have h:=Yg S [a,b,c,d] 178 (λx=>!Pu x) λi _=>Azx S _;simp only[Bool.not_not]at h;exact h.args ⟨.of ⟨rfl,λi hi=>by match i,hi with|0,_=>rfl|1,_=>rfl|2,_=>rfl|3,_=>rfl⟩,rfl⟩
theorem Ac9 (S:SP Gl) (b:PBook):CR Gl 88 [.d (.agg (cPB b))] (B (okPB b)):=by
 refine Ag S (let A7:=!List.all [b.3,b.4,b.5,b.6] Pu;let A6:=B !List.all (PBook.lines b) (Dh (PBook.hands b));let A4:=B !List.all [PBook.sheet b,PBook.error b,PBook.morn b,PBook.post b] Pu;let A2:=(bif bif !inR b.1 (1:Int) (3:Int) then true else !inR b.2 (1:Int) (48:Int) then true else !inR (b.7.length:Int) (1:Int) (5:Int));let A1:=(!inR b.1 (1:Int) (3:Int));let A5:=eqB A1 false=true->eqB A1 false=true;let A0:=(bif !inR b.1 (1:Int) (3:Int) then true else !inR b.2 (1:Int) (48:Int));let A3:=eqB A0 false=true->eqB A0 false=true;((rs [B (inR b.1 1 3),B (inR b.2 1 48),B (inR b.7.length 1 5)] (.br .nil (rt A4 (.br .nil (rt A6 .nil))))),(CR Gl 89 [I b.1,I 1,I 3] (B (inR b.1 1 3))/\A5/\A5/\(eqB A1 false=true->CR Gl 89 [I b.2,I 1,I 48] (B (inR b.2 1 48)))/\A5/\(A1=false->eqB A1 false=true)/\A3/\A3/\((eqB A0 false=true->b.7.length<=maxLen)->A3/\(eqB A0 false=true->CR Gl 89 [I b.7.length,I 1,I 5] (B (inR b.7.length 1 5)))/\A3/\(A0=false->eqB A0 false=true)/\(A2=true->false=okPB b)/\(A2=false->CR Gl 102 [tS 4 (gD [mI (PBook.sheet b),mI (PBook.error b),mI (PBook.morn b),mI (PBook.post b)]),T.fn 178 [] []] A4/\(A7=true->false=okPB b)/\(A7=false->CR Gl 179 [L eLine (PBook.lines b),T.fn 180 [] [T.d (D.rd (cPB b))]] A6/\(!!List.all b.7 (Dh b.1))=okPB b)))))) func88 ?_;dsimp only;have qe:∀x y z v w:Bool,(bif bif !x then true else !y then true else !z)=true->false=(x&&y&&z&&v&&w):=by decide
 refine⟨Lq S _ _ _,λh=>h,λh=>h,λ_=>Lq S _ _ _,λh=>h,λh=>by rw[h];rfl,λh=>h,λh=>h,λ_=>⟨λh=>h,λ_=>Lq S _ _ _,λh=>h,λh=>by rw[h];rfl,λh=>qe _ _ _ _ _ h,λh=>⟨hasR S _ _ _ _,λh2=>?_,λh2=>⟨Azz S b b.lines ?_,?_⟩⟩⟩⟩
 ·grind[okPB]
 ·grind[Bi]
 grind[okPB]
theorem check141 (S:SP Gl) (b:PBook):CR Gl 141 [.d (.agg (cPB b))] (I (bif okPB b then 0 else 2)):=by
 refine Ao S (rt (B (okPB b)) (.br .nil .nil)) (CR Gl 88 [tA (cPB b)] (B (okPB b))/\((!okPB b)=true->(2:Int)=bif okPB b then (0:Int) else (2:Int))/\((!okPB b)=false->(0:Int)=bif okPB b then (0:Int) else (2:Int))) func141 ?_;grind[Ac9]
abbrev DS:=List Int->Bool
def cAc (b:PBook) (er:List Int):List C:=[Ci b.hands,Ci b.unit,Ci b.sheet,Ci b.error,Ci b.morn,Ci b.post,.l eLine b.lines,.l eI er]
def tAc (b:PBook) (er:List Int):T:=.d (.agg (cAc b er))
def okPB_facts {b:PBook} (h:okPB b=true):(1<=b.hands/\b.hands<=3)/\(1<=b.unit/\b.unit<=48)/\(1<=b.lines.length/\b.lines.length<=5)/\(0<=b.sheet/\b.sheet<=800)/\(0<=b.error/\b.error<=800)/\(0<=b.morn/\b.morn<=800)/\(0<=b.post/\b.post<=800)/\∀i,i<b.lines.length->Dh b.hands (nth b.lines i)=true:=by
 grind[okPB,Bi,Pu,Fj]
def Us {h:Int} {l:Line} (hl:Dh h l=true):(0<=l.errs.lo/\l.errs.lo<=20)/\(l.errs.lo<=l.errs.hi/\l.errs.hi<=20)/\(0<=l.hand/\l.hand<=h - 1)/\(0<=l.sheets/\l.sheets<=20)/\(0<=l.morn/\l.morn<=10)/\(0<=l.posts/\l.posts<=10)/\(0<=l.p0/\l.p0<=999)/\(0<=l.p1/\l.p1<=19)/\(0<=l.p2/\l.p2<=11)/\(0<=l.p3/\l.p3<=3):=by
 grind[Dh,Kt,Bi]
def mul_rng {x y a c:Int} (h1:0<=x/\x<=a) (h2:0<=y/\y<=c):0<=x*y/\x*y<=a*c:=
 ⟨fM h1.1 h2.1,gG h1.2 h2.2 h2.1 (by omega)⟩
def Jm (b:PBook) (er:List Int) (i:Nat):Int:=max 0 (b.sheet*(nth b.lines i).sheets - b.error*nth er i)+b.morn*(nth b.lines i).morn+b.post*(nth b.lines i).posts
def Aca {b:PBook} {er:List Int} {i:Nat} (h:okPB b=true) (hi:i<b.lines.length) (hx:inR (nth er i) 0 20=true):(0<=b.sheet*(nth b.lines i).sheets/\b.sheet*(nth b.lines i).sheets<=16000)/\(0<=b.error*nth er i/\b.error*nth er i<=16000)/\(0<=b.morn*(nth b.lines i).morn/\b.morn*(nth b.lines i).morn<=8000)/\(0<=b.post*(nth b.lines i).posts/\b.post*(nth b.lines i).posts<=8000)/\0<=Jm b er i/\Jm b er i<=32000:=by
 obtain⟨a1,a2,a3,a4,a5,a6,a7,a8⟩:=okPB_facts h;obtain⟨b1,b2,b3,b4,b5,b6,_⟩:=Us (a8 i hi);have c1:=mul_rng a4 b4;have c2:=mul_rng a5 (Bi.1 hx);have c3:=mul_rng a6 b5;have c4:=mul_rng a7 b6;unfold Jm;omega
def Apc (S:SP Gl)  :CR Gl 177 [] (.d (.agg [Ci 960,Ci 48,Ci 4,Ci 1])):=by
 refine Ao S .nil ((960:Int)=960/\(48:Int)=48/\(4:Int)=4/\(1:Int)=1) func177 ?_;trivial
def Ba0 (S:SP Gl) (l:List Int) (hl:l.length<=1000) (hb:∀k,k<=l.length->-1000000000<=Jj l k/\Jj l k<=1000000000):CR Gl 398 [L eI l] (I (Jj l l.length)):=by
 refine Ao S (.loop l.length (λk=>[v 8 (I k),v 7 (I l.length),v 6 (L eI l),v 3 (I (Jj l k))]) λk0=>.br .nil .nil) (l.length<=maxLen->(0=(↑(0:Nat):Int)/\(l.length:Int)=l.length/\sR eI l/\(0:Int)=Jj l 0)/\∀(k0:Nat),k0<=l.length->(decide ((k0:Int)<l.length)=true->(0<=(k0:Int)/\(k0:Int)<l.length)/\iR (Jj l k0+nth l k0)/\iR ((k0:Int)+1)/\k0<l.length/\(k0:Int)+1=(↑(k0+1):Int)/\(l.length:Int)=l.length/\sR eI l/\Jj l k0+nth l k0=Jj l (k0+1))/\(decide ((k0:Int)<l.length)=false->Jj l k0=Jj l l.length)) func398 ?_;refine λ_=>⟨⟨rfl,rfl,.of ⟨rfl,λ_ _=>rfl⟩,rfl⟩,λk hk=>⟨λhd=>?_,λhd=>?_⟩⟩
 ·have hlt:k<l.length:=by grind
  have h1:=hb k hk;have h2:=hb (k+1) (by omega);have h3:Jj l (k+1)=Jj l k+nth l k:=rfl;exact⟨by omega,(Ad _).2 (by omega),(Ad _).2 (by omega),hlt,by omega,rfl,.of ⟨rfl,λ_ _=>rfl⟩,rfl⟩
 grind
theorem Ba1 (S:SP Gl) (b:PBook) (er:List Int) (i:Nat) (h:okPB b=true) (hi:i<b.lines.length) (he:er.length=b.lines.length) (hx:inR (nth er i) 0 20=true):CR Gl 346 [tAc b er,I i] (I (max 0 (b.sheet*(nth b.lines i).sheets - b.error*nth er i))):=by
 refine Ag S (let A0:=b.3*(nth b.7 i).2-b.4*nth er i;((.nil),((0<=(i:Int)/\(i:Int)<b.7.length)/\iR (b.3*(nth b.7 i).2)/\(0<=(i:Int)/\(i:Int)<er.length)/\iR (b.4*nth er i)/\iR A0/\max (0:Int) A0=max (0:Int) A0))) func346 ?_;dsimp only;obtain⟨c1,c2,c3,c4,_⟩:=Aca h hi hx;grind[Ad]
theorem Ba2 (S:SP Gl) (b:PBook) (er:List Int) (i:Nat) (h:okPB b=true) (hi:i<b.lines.length):CR Gl 347 [tAc b er,I i] (I (b.morn*(nth b.lines i).morn)):=by
 refine Ao S .nil ((0<=(i:Int)/\(i:Int)<b.7.length)/\iR (b.5*(nth b.7 i).4)/\b.5*(nth b.7 i).4=b.5*(nth b.7 i).4) func347 ?_;obtain⟨a1,a2,a3,a4,a5,a6,a7,a8⟩:=okPB_facts h;obtain⟨b1,b2,b3,b4,b5,b6,_⟩:=Us (a8 i hi);have c3:=mul_rng a6 b5;grind[Ad]
theorem Ba3 (S:SP Gl) (b:PBook) (er:List Int) (i:Nat) (h:okPB b=true) (hi:i<b.lines.length):CR Gl 348 [tAc b er,I i] (I (b.post*(nth b.lines i).posts)):=by
 refine Ao S .nil ((0<=(i:Int)/\(i:Int)<b.7.length)/\iR (b.6*(nth b.7 i).5)/\b.6*(nth b.7 i).5=b.6*(nth b.7 i).5) func348 ?_;obtain⟨a1,a2,a3,a4,a5,a6,a7,a8⟩:=okPB_facts h;obtain⟨b1,b2,b3,b4,b5,b6,_⟩:=Us (a8 i hi);have c4:=mul_rng a7 b6;grind[Ad]
def Ba4 (S:SP Gl) (b:PBook) (er:List Int) (i:Nat) (h:okPB b=true) (hi:i<b.lines.length) (he:er.length=b.lines.length) (hx:inR (nth er i) 0 20=true):CR Gl 284 [tAc b er,I i] (I (Jm b er i)):=by
 refine Ag S (let A7:=(↑(3:Nat):Int);let A4:=nth b.7 i;let A3:=(0:Int);let A1:=b.3*A4.2-b.4*nth er i;let A0:=nth (PBook.lines b) i;let A6:=I (PBook.morn b*Line.morn A0);let A5:=I (PBook.post b*Line.posts A0);let A2:=I (max A3 (PBook.sheet b*Line.sheets A0-PBook.error b*nth er i));((.un 4 (.tt (rt A2 (.tt (rt A6 (.tt (rt A5 (.ff .nil)))))))),(true=true/\(A3<=0/\0<A7)/\CR Gl 346 [tAc b er,I i] A2/\iR (A3+max A3 A1)/\iR (A3+1)/\true=true/\(A3<=0+1/\A3+1<A7)/\CR Gl 347 [tAc b er,I i] A6/\iR (A3+max A3 A1+b.5*A4.4)/\iR (A3+1+1)/\true=true/\(A3<=0+1+1/\A3+1+1<A7)/\CR Gl 348 [tAc b er,I i] A5/\iR (A3+max A3 A1+b.5*A4.4+b.6*A4.5)/\iR (A3+1+1+1)/\false=false/\A3+max A3 A1+b.5*A4.4+b.6*A4.5=Jm b er i))) func284 ?_;dsimp only;obtain⟨c1,c2,c3,c4,c5⟩:=Aca h hi hx;grind[Ba1,Ad,Ba2,Ba3,Jm]
def restTo (b:PBook) (er:List Int):Nat->Int->Int
 |0,_=>0
 |k+1,h=>bif h==(nth b.lines k).hand then (Jm b er k+restTo b er k (nth b.lines k).hand) % b.unit else restTo b er k h
def Dm (b:PBook):Nat->DS
 |0=>λ_=>false
 |k+1=>Bw (Dm b k) [(nth b.lines k).hand]
def Hr (b:PBook) (er:List Int) (k:Nat) (key:List Int):List C:=vsC [.int .i64 (bif Dm b k key then restTo b er k (nth key 0) else 0)]
def Eh (b:PBook) (er:List Int) (k:Nat):Int:=Jm b er k+restTo b er k (nth b.lines k).hand
def Ei (b:PBook) (er:List Int):Nat->List Int
 |0=>[]
 |k+1=>Ei b er k++[Eh b er k - Eh b er k % b.unit]
theorem Apd (b:PBook):∀(k:Nat) (key:List Int),Dm b k key=true->∃h,key=[h]
 |0,_,h=>by cases h
 |k+1,key,h=>by
  rcases (Ij _ _ _).1 h with h|h
  ·grind
  ·exact Apd b k key h
theorem Ape (b:PBook) (er:List Int):∀(k:Nat) (h:Int),Dm b k [h]=false->restTo b er k h=0
 |0,_,_=>rfl
 |k+1,h,hd=>by
  have h1:¬(Bw (Dm b k) [(nth b.lines k).hand] [h]=true):=by
   show ¬(Dm b (k+1) [h]=true)
   rw[hd];simp
  rw[Ij]at h1;have h2:h≠(nth b.lines k).hand:=λe=>h1 (.inl (by rw[e]));have h3:Dm b k [h]=false:=fI.2 λe=>h1 (.inr e);unfold restTo;rw[dN.2 h2,cC];exact Ape b er k h h3
def Ba5 (b:PBook) (er:List Int) (k:Nat) (h:Int):(bif Dm b k [h] then restTo b er k (nth [h] 0) else 0)=restTo b er k h:=by
 cases hd:Dm b k [h] with
 |true=>rfl
 |false=>grind[Ape]
theorem Ahy {b:PBook} {er:List Int} (hu:1<=b.unit/\b.unit<=48):∀(k:Nat) (h:Int),0<=restTo b er k h/\restTo b er k h<=47
 |0,_=>by unfold restTo;omega
 |k+1,h=>by
  unfold restTo;cases h==(nth b.lines k).hand with
  |true=>
   have h1:=Int.emod_nonneg (Jm b er k+restTo b er k (nth b.lines k).hand) (show b.unit≠0 by omega);have h2:=gZ (Jm b er k+restTo b er k (nth b.lines k).hand) (show 0<b.unit by omega);grind
  |false=>exact Ahy hu k h
def Ba6 (b:PBook) (er:List Int) (k:Nat):MEq (Bw (Dm b k) [(nth b.lines k).hand]) (Cr (Hr b er k) [(nth b.lines k).hand] (List.map C.dem [C.v (.int .i64 (Eh b er k % b.unit))])) (Dm b (k+1)) (Hr b er (k+1)):=λkey=>⟨rfl,λhd=>.inl (by
 have qp:Dm b (k+1) key=true:=hd;rw[Ny];unfold Hr;rw[qp,bA]
 by_cases he:key=[(nth b.lines k).hand]
 ·rw[bG he,he]
  show [C.v (Value.int .i64 _)]=[C.v (Value.int .i64 (bif (nth b.lines k).hand==(nth b.lines k).hand then _ else _))]
  rw[dT]
  rfl
 grind[Ij,Apd,restTo,nth])⟩
theorem pays_len (b:PBook) (er:List Int):∀k,(Ei b er k).length=k
 |0=>rfl
 |k+1=>by unfold Ei;rw[cU,pays_len b er k];rfl
theorem Acb (S:SP Gl) (b:PBook) (er:List Int) (h:okPB b=true) (he:er.length=b.lines.length) (hx:∀i,i<er.length->inR (nth er i) 0 20=true):CR Gl 175 [tAc b er] (.tup [.c (.l eI (Ei b er b.lines.length)),.c (.m 0 false (Dm b b.lines.length) (Hr b er b.lines.length))]):=by
 refine Ag S (let A2:=λ(k0:Nat)=>Ei b er k0;let A1:=PBook.lines b;let A0:=λ(k0:Nat)=>(Jm b er k0+bif Dm b k0 [(nth b.7 k0).1] then restTo b er k0 (nth [(nth b.7 k0).1] 0) else (0:Int));let P0:=λ(zz:Prop)=>b.1=b.1/\b.2=b.2/\b.3=b.3/\b.4=b.4/\b.5=b.5/\b.6=b.6/\sR eLine b.7/\zz;((.loop (List.length A1) (λk=>v 14 (I k)::v 13 (I (List.length A1:Int))::v 12 (L eLine A1)::v 4 (T.mp 9)::(2,9,T.mapc false 0 false (Dm b k) (Hr b er k))::v 5 (Lt 900 eI (Ei b er k))::tk 900 3::v 1 (ad 1)::bx 1 (cAc b er)) λk0=>.br (rt (I (Jm b er k0)) .nil) .nil),(b.7.length<=maxLen->(0=(↑(0:Nat):Int)/\(b.7.length:Int)=b.7.length/\sR eLine b.7/\MEq (λx=>false) (λx=>vsC [vI 0]) (Dm b 0) (Hr b er 0)/\0=0/\P0 (sR eI er))/\∀(k0:Nat),k0<=List.length A1->(decide ((k0:Int)<b.7.length)=true->(0<=(k0:Int)/\(k0:Int)<b.7.length)/\CR Gl 284 [tAc b er,I k0] (I (Jm b er k0))/\(Dm b k0 [(nth b.7 k0).1]=false->[Ci (bif Dm b k0 [(nth b.7 k0).1] then restTo b er k0 (nth [(nth b.7 k0).1] 0) else (0:Int))]=[Ci 0])/\iR (A0 k0)/\b.2≠(0:Int)/\b.2≠(0:Int)/\iR ((A0 k0)-Int.tmod (A0 k0) b.2)/\(List.length (A2 k0)+1)*8<=140737488355328/\List.length (A2 k0)+1<=140737488355328/\iR ((k0:Int)+1)/\k0<List.length A1/\(k0:Int)+1=(↑(k0+1):Int)/\(b.7.length:Int)=b.7.length/\sR eLine b.7/\MEq (Bw (Dm b k0) [(nth b.7 k0).1]) (Cr (Hr b er k0) [(nth b.7 k0).1] (mI (Int.tmod (A0 k0) b.2))) (Dm b (k0+1)) (Hr b er (k0+1))/\(SEq (List.length (A2 k0)+1) (An (List.length (A2 k0)) (λi=>eI (nth (A2 k0) i)) (gD [mI ((A0 k0)-Int.tmod (A0 k0) b.2)])) (List.length (Ei b er (k0+1))) λi=>eI (nth (Ei b er (k0+1)) i))/\P0 (sR eI er))/\(decide ((k0:Int)<b.7.length)=false->(sQ eI (A2 k0) (Ei b er b.7.length))/\MEq (Dm b k0) (Hr b er k0) (Dm b b.7.length) (Hr b er b.7.length))))) func175 ?_
 dsimp only;have hr:∀(n:Nat) (f:Nat->List C),SEq n f n f:=λ_ _=>.of ⟨rfl,λ_ _=>rfl⟩;have hu:=(okPB_facts h).2.1;refine λhm=>⟨⟨rfl,rfl,hr _ _,λkey=>⟨rfl,λhh=>(by cases hh)⟩,rfl,rfl,rfl,rfl,rfl,rfl,rfl,hr _ _,hr _ _⟩,λk hk=>⟨λhd=>?_,λhd=>?_⟩⟩
 ·have hlt:k<b.lines.length:=by grind
  obtain⟨_,_,_,_,c5⟩:=Aca (er:=er) h hlt (hx k (by omega));have c6:=Ahy (er:=er) hu k (nth b.lines k).hand;have hat:=Ba5 b er k (nth b.lines k).hand;have hlb:=(okPB_facts h).2.2.1;have je:=pays_len b er k;have hs0:0<=Eh b er k/\Eh b er k<=33000:=by unfold Eh;omega
  have lr:Int.tmod (Eh b er k) b.unit=Eh b er k % b.unit:=eD hs0.1;have ur:=Int.emod_nonneg (Eh b er k) (show b.unit≠0 by omega);have qr:=gZ (Eh b er k) (show 0<b.unit by omega);have hsum:Jm b er k+restTo b er k (nth b.lines k).hand=Eh b er k:=rfl;rw[hat,hsum,lr];refine⟨⟨by omega,iM.2 hlt⟩,Ba4 S b er k h hlt he (hx k (by omega)),λh0=>?_,(Ad _).2 (by omega),by omega,by omega,(Ad _).2 (by omega),by omega,by omega,(Ad _).2 (by omega),hlt,by omega,rfl,hr _ _,Ba6 b er k,Eb (x:=Eh b er k - Eh b er k % b.unit) rfl rfl,rfl,rfl,rfl,rfl,rfl,rfl,hr _ _,hr _ _⟩;grind
 ·have bf:k=b.lines.length:=by grind
  subst bf;exact⟨hr _ _,λkey=>⟨rfl,λ_=>.inl rfl⟩⟩
end Go.Vc.Zn.Py
namespace Go.Vc.Zn
open Go Go.Proofs Go.Vc Go.RowKit Tryz
def Ba7 {Gl} (S:SP Gl) (s:Sheet) (l:Nat) (hs:s.ok=true):DO Gl (Jl (Be s) l (Be s).length) 233 [I ((rows s:Int) - 1),L eI s.errs,.addr FAR 0,.addr (FAR+1) 0,.addr (FAR+2) 0,.d (.c (.p (Cw s))),.addr (FAR+3) 0] (Mu s (Fk s) l 0 (List.replicate (rows s) 0)) (.ret (B true)) (Mv s (Be s).length (Jk s (Fk s) (rows s) (List.replicate (rows s) 0) [] s.errs)):=by
 obtain⟨l1,l2,l3,l4⟩:=Ll hs;have h:=Ap7 S s (Fk s) (Be s) l (Be s).length hs (by grind[Fk]) (Aon hs) (rows s) (List.replicate (rows s) 0) [] s.errs 0 (aI _) (List.length_replicate ..) (by simp) l3 (λi hi=>by
  have:=Kp (l4 i (by omega));omega) λi hi=>⟨by rw[bH];exact hi,by rw[bH];rfl⟩
 rw[bH]at h;exact h
def Ba8 (n:Nat):(λ_:Nat=>vsC [Value.int .i64 0])=λi=>eI (nth (List.replicate n (0:Int)) i):=by
 funext i;have:nth (List.replicate n (0:Int)) i=0:=by
  unfold nth;rw[bU,fY];split<;>rfl
 rw[this]
 rfl
theorem Ba9 {Gl} (S:SP Gl) (s:Sheet) (l k:Nat) (hs:s.ok=true) (hk:k=rows s):DO Gl (Jl (Be s) l (Be s).length) 233 [I ((rows s:Int) - 1),L eI s.errs,.addr FAR 0,.addr (FAR+1) 0,.addr (FAR+2) 0,.d (.c (.p (Cw s))),.addr (FAR+3) 0]
  [(0,BIG,.tr 0),(2,FAR,live),(FAR+3,0,.yl l),(2,FAR+1,live),(FAR+4,0,.arr (FAR+4) (rows s)),(2,FAR+2,live),(FAR+5,0,L Ar ((Fk s).take k)),(2,FAR+3,live),(FAR+6,0,.fn 233 [] [.addr FAR 0,.addr (FAR+1) 0,.addr (FAR+2) 0,.d (.c (.p (Cw s))),.addr (FAR+3) 0]),(2,FAR+4,.arrc false 1 (rows s) λ_=>vsC [Value.int .i64 0])]
  (.ret (B true)) (Mv s (Be s).length (Jk s (Fk s) (rows s) (List.replicate (rows s) 0) [] s.errs)):=by
 have h:=Ba7 S s l hs;have hl:(Fk s).take k=Fk s:=List.take_of_length_le (by grind[Fk]);rw[hl,Ba8 (rows s)];exact h
theorem Baa {Gl} (S:SP Gl) (s:Sheet) (l:Nat) (hs:s.ok=true):DO Gl (Jl (Be s) l (Be s).length) 232 [.yl l,.d (.c (.p (Cw s)))] [(0,BIG,.tr 0)] (.ret (.tup [])) [(0,BIG,.tr (Be s).length)]:=by
 refine Bs S (let ay:=Fk s;let o7:=D.c (C.p (Cw s));let A9:=rows s;let A8:=λ(k0:Nat)=>[D.c (C.l eI (Ji s k0)),D.c (Ci (Dk (Gg s k0)))];let A7:=nth s.1 (Int.toNat 0);let A6:=(2,FAR+4,T.arrc false 1 A9 λx=>vsC [vI 0]);let A5:=Jk s ay A9 (List.replicate A9 (0:Int)) [] (Sheet.errs s);let A4:=(FAR+6,0,T.fn 233 [] [aF 0,T.addr (FAR+1) 0,T.addr (FAR+2) 0,T.d o7,T.addr (FAR+3) 0]);let A2:=λ(k0:Nat)=>List.take k0 ay;let A1:=[C.l Ar s.1,C.l eI s.2];let A0:=(↑A9:Int);let A3:=[I (A0-1),L eI (Sheet.errs s),aF 0,T.addr (FAR+1) 0,T.addr (FAR+2) 0,T.d o7,T.addr (FAR+3) 0];((.loop A9 (λk=>v 16 (I k)::v 15 (I A0)::v 3 (I A0)::v 2 (ad 2)::v 4 (ad 4)::tk 100 22::v 0 (T.yl l)::v 1 (T.d o7)::(2,2,live)::(5,0,T.yl l)::(0,BIG,T.tr 0)::bx 4 [C.lt 100 Ar (List.take k ay)]) λk0=>.br (rt (.tup (A8 k0)) .nil) (.w [(FAR,nat_lit 2),(FAS,nat_lit 8),(FAT,nat_lit 4),(FAU,nat_lit 9),(nat_lit 100004,nat_lit 31)] A3 [(0,BIG,T.tr 0),(2,FAR,live),(FAR+3,0,T.yl l),(2,FAR+1,live),(FAR+4,0,T.arr (FAR+4) A9),(2,FAR+2,live),(FAR+5,0,L Ar (A2 k0)),(2,FAR+3,live),A4,A6] (.ret (B true)) (Mv s (List.length (Be s)) A5) .nil)),(((0:Int)<=0/\0<(s.1.length:Int))/\(ln A7<=maxLen->(0=(↑(0:Nat):Int)/\(↑(ln A7):Int)=A0/\(↑(ln A7):Int)=A0/\l=l/\A1=A1/\l=l/\0=0/\0=0)/\∀(k0:Nat),k0<=rows s->(decide ((k0:Int)<(↑(rows s):Int))=true->CR Gl 129 [Dr s,I k0] (.tup (A8 k0))/\(ln (A2 k0)+1)*24<=140737488355328/\ln (A2 k0)+1<=140737488355328/\lq k0 A9 (A0=A0/\A0=A0/\l=l/\A1=A1/\l=l/\0=0/\SEq (ln (A2 k0)+1) (An (ln (A2 k0)) (λi=>Ar (nth (A2 k0) i)) (gD [List.map C.dem [C.s Tag.n (ln (Ji s k0)) λi=>eI (nth (Ji s k0) i)]])) (ln (List.take (k0+1) ay)) λi=>Ar (nth (List.take (k0+1) ay) i)))/\(decide ((k0:Int)<(↑(rows s):Int))=false->A0=A0/\0<=A0/\rows s*8<=140737488355328/\rows s<=140737488355328/\iR (A0-1)/\A0-1=A0-1/\sR eI s.2/\A1=A1/\0=0/\l=l/\rows s=rows s/\(sR Ar (A2 k0))/\233=233/\A1=A1/\(SEq A9 (λx=>vsC [vI 0]) A9 λx=>vsC [vI 0])/\DO Gl (Jl (Be s) l (ln (Be s))) 233 A3 [(0,BIG,T.tr 0),(2,FAR,live),(FAR+3,0,T.yl l),(2,FAR+1,live),(FAR+4,0,T.arr (FAR+4) A9),(2,FAR+2,live),(FAR+5,0,L Ar (A2 k0)),(2,FAR+3,live),A4,A6] (.ret (B true)) (Mv s (ln (Be s)) A5)/\True/\ln (Be s)=ln (Be s)))))) func232 ?_
 simp only[stdS,aL,aB,and_true];obtain⟨l1,l2,l3,l4⟩:=Ll hs;have jp:=(Kp (l4 0 (by omega))).2.2;have hll:(Fk s).length=rows s:=by grind[Fk]
 refine⟨by omega,λhm=>⟨⟨rfl,rfl,trivial⟩,λk hk=>⟨λhd=>?_,λhd=>?_⟩⟩⟩
 ·have hlt:k<rows s:=by grind
  have ht:((Fk s).take k).length<=6:=by grind
  exact⟨Ap1 S s k hs hlt,by omega,by omega,(Ad _).2 (by omega),hlt,by omega,Rr (by omega) (by rw[Aho hlt];rfl)⟩
 grind[Ad,Ba9]
def Bab {Gl} (S:SP Gl) (s:Sheet):CR Gl 130 [Dr s] (.fn 232 [] [.d (.c (.p (Cw s)))]):=by
 refine Xw S (t:=2) (id:=1) .nil func130 (by kernel_rfl) Tryz.results130 (by decide) (by decide) (T.fn 232 [] [.addr 1 0]=T.fn 232 [] [.addr 1 0]/\live=live/\(.d (.c (.l Ar s.cols)):T)=.d (.c (.l Ar s.cols))/\(.d (.c (.l eI s.errs)):T)=.d (.c (.l eI s.errs))/\True) (by kernel_rfl) ?_;trivial
def Dn (P:List (List Int)) (p:Nat) (key:List Int):Bool:=(P.take p).any λc=>(List.range c.length).any λi=>key==[(i:Int),nth c i]
def Ed (P:List (List Int)) (p k:Nat) (key:List Int):Bool:=Dn P p key||(List.range k).any λi=>key==[(i:Int),nth (nth P p) i]
def Dx (k:Nat) (key:List Int):Bool:=(List.range k).any λi=>key==[(i:Int)]
def Ol (key:List Int):Nat:=(key.headD 0).toNat
def Ut (s:Sheet) (r:Nat):Int:=Dk (Gg s r)
def Uu (s:Sheet) (key:List Int):List C:=[Ci (Ut s (Ol key))]
def Hs (s:Sheet) (p:Nat) (key:List Int):Bool:=decide (0<p)&&Dx (rows s) key
def He (s:Sheet) (P:List (List Int)) (p:Nat) (key:List Int):Bool:=Dx (rows s) key&&(P.take p).any λc=>nth c (Ol key)==Ut s (Ol key)
def Ht (s:Sheet) (p k:Nat) (key:List Int):Bool:=Hs s p key||Dx k key
def Fc (s:Sheet) (P:List (List Int)) (p k:Nat) (key:List Int):Bool:=He s P p key||(Dx k key&&nth (nth P p) (Ol key)==Ut s (Ol key))
def cBook (s:Sheet) (P:List (List Int)):List C:=[.l Ar s.cols,.l eI s.errs,.l Ar P,.m 2 false (Dn P P.length) (λkey=>[Cb (Dn P P.length key)]),.m 0 false (Hs s P.length) (λkey=>[Cb (He s P P.length key)])]
def Apf:List C:=[.v (.slice none 0 0),.v (.slice none 0 0),.v (.slice none 0 0),.v (.map none),.v (.map none)]
def readE (s:Sheet) (P:List (List Int)) (p k o:Nat):Env:=
 v 4 (ad 4)::v 6 (ad 6)::v 7 (ad 7)::v 100004 (ad 4)::v 100006 (ad 6)::v 100007 (ad 7)::tk 100 22::(2,6,live)::(9,0,L Ar s.cols)::(9,1,L eI s.errs)::(9,2,Lt 100 Ar (P.take p))::(9,3,.mp 16)::(9,4,.mp 17)::(2,7,live)::(10,0,.mp 19)::
 (2,16,.mapc false 2 false (Ed P (p - 1) k) λkey=>[Cb (Ed P (p - 1) k key)])::(2,17,.mapc false 0 false (Ht s (p - 1) k) λkey=>[Cb (Fc s P (p - 1) k key)])::(2,19,.mapc false 0 false (Dx o) (Uu s))::bx 4 Apf
def Apg (s:Sheet) (P:List (List Int)) (p o:Nat):Env:=
 v 4 (ad 4)::v 6 (ad 6)::v 7 (ad 7)::tk 100 22::(2,6,live)::(9,0,L Ar s.cols)::(9,1,L eI s.errs)::(9,2,Lt 100 Ar (P.take p))::(9,3,.mp 16)::(9,4,.mp 17)::(2,7,live)::(10,0,.mp 19)::
 (2,16,.mapc false 2 false (Dn P p) λkey=>[Cb (Dn P p key)])::(2,17,.mapc false 0 false (Hs s p) λkey=>[Cb (He s P p key)])::(2,19,.mapc false 0 false (Dx o) (Uu s))::bx 4 Apf
def Bac {Gl} (S:SP Gl) (s:Sheet) (l:Nat) (hs:s.ok=true):DO Gl (Jl (Be s) l (Be s).length) 232 [.yl l,.d (.c (.p (Cw s)))] [(0,BIG,.tr 0)] (.ret (.tup [])) [(0,BIG,.tr (min (Be s).length ((Be s).length+1)))]:=by
 grind[Baa]
theorem Ahz (k:Nat) (key:List Int):Dx (k+1) key=(Dx k key||key==[(k:Int)]):=by
 grind[Dx]
theorem Aph {k:Nat} {key:List Int}:Dx k key=true↔∃i:Nat,i<k/\key=[(i:Int)]:=by
 grind[Dx]
theorem Api {k i:Nat} (h:i<k):Dx k [(i:Int)]=true:=Aph.2 ⟨i,h,rfl⟩
theorem Bad (k:Nat):Dx k [(k:Int)]=false:=by
 grind[Aph]
def Bae (k:Nat):Ol [(k:Int)]=k:=rfl
theorem Ai0 (P:List (List Int)) (p k:Nat) (key:List Int):Ed P p (k+1) key=(Ed P p k key||key==[(k:Int),nth (nth P p) k]):=by
 grind[Ed]
theorem Baf (P:List (List Int)) (p:Nat) (key:List Int):Ed P p 0 key=Dn P p key:=by
 grind[Ed]
theorem Bag {P:List (List Int)} {p:Nat} (hp:p<P.length) (key:List Int):Ed P p (nth P p).length key=Dn P (p+1) key:=by
 grind[Ed,Dn,take_succ]
theorem Ai1 (dom:List Int->Bool) (key k:List Int):Bw dom key k=(dom k||k==key):=by
 grind[Ij]
theorem Bj {dom:List Int->Bool} {val:List Int->List C}:MEq dom val dom val:=λ_=>⟨rfl,λ_=>.inl rfl⟩
theorem Mx {dom bv:List Int->Bool} {val val':List Int->List C} (h1:∀k,dom k=bv k) (h2:∀k,dom k=true->val k=val' k):MEq dom val bv val':=λk=>⟨h1 k,λh=>.inl (h2 k h)⟩
theorem Bah (s:Sheet) (k:Nat):MEq (Bw (Dx k) [(k:Int)]) (Cr (Uu s) [(k:Int)] (List.map C.dem [C.v (Value.int .i64 (Dk (Gg s k)))])) (Dx (k+1)) (Uu s):=
 Mx (λkey=>by rw[Ai1,Ahz]) λkey _=>by
  rw[Ny];split
  ·rename_i h;subst h;rfl
  ·rfl
def Bai (P:List (List Int)) (p:Nat):MEq (Dn P p) (λkey=>[Cb (Dn P p key)]) (Ed P p 0) λkey=>[Cb (Ed P p 0 key)]:=
 by grind[Mx,Baf]
def Baj (P:List (List Int)) (p k:Nat):MEq (Bw (Ed P p k) [(k:Int),nth (nth P p) k]) (Cr (λkey=>[Cb (Ed P p k key)]) [(k:Int),nth (nth P p) k] (List.map C.dem [C.v (Value.bool true)])) (Ed P p (k+1)) λkey=>[Cb (Ed P p (k+1) key)]:=
 Mx (λkey=>by rw[Ai1,Ai0]) λkey _=>by
  rw[Ny];split
  ·rename_i h;subst h;rw[Ai0,dT,Bool.or_true]
   rfl
  grind[Ai0]
theorem Bak {P:List (List Int)} {p:Nat} (hp:p<P.length):MEq (Ed P p (nth P p).length) (λkey=>[Cb (Ed P p (nth P p).length key)]) (Dn P (p+1)) λkey=>[Cb (Dn P (p+1) key)]:=
 by grind[Mx,Bag]
theorem Bal (s:Sheet) (P:List (List Int)) (p:Nat) (key:List Int):Fc s P p 0 key=He s P p key:=by
 grind[Fc,Dx]
theorem Bam (s:Sheet) (p:Nat) (key:List Int):Ht s p 0 key=Hs s p key:=by
 grind[Ht,Dx]
def Ban (s:Sheet) (P:List (List Int)) (p:Nat):MEq (Hs s p) (λkey=>[Cb (He s P p key)]) (Ht s p 0) λkey=>[Cb (Fc s P p 0 key)]:=
 by grind[Mx,Bam,Bal]
theorem Apj (s:Sheet) (P:List (List Int)) (p k:Nat):Fc s P p k [(k:Int)]=He s P p [(k:Int)]:=by
 grind[Fc,Bad]
def Bao (s:Sheet) (P:List (List Int)) (p k:Nat):MEq (Bw (Ht s p k) [(k:Int)]) (Cr (λkey=>[Cb (Fc s P p k key)]) [(k:Int)] (List.map C.dem [C.v (Value.bool (bif Fc s P p k [(k:Int)] then true else nth (nth P p) k==Ut s (Ol [(k:Int)])))])) (Ht s p (k+1)) λkey=>[Cb (Fc s P p (k+1) key)]:=
 Mx (λkey=>by grind[Ht,Ai1,Ahz]) λkey _=>by
  rw[Ny];split
  ·rename_i h;subst h;rw[Apj,Ah7];unfold Fc;rw[Api (eQ k),fE,Bae]
   rfl
  grind[Fc,Ahz]
theorem Bap {s:Sheet} {P:List (List Int)} {p:Nat} (hp:p<P.length) (hl:(nth P p).length=rows s):MEq (Ht s p (nth P p).length) (λkey=>[Cb (Fc s P p (nth P p).length key)]) (Hs s (p+1)) λkey=>[Cb (He s P (p+1) key)]:=by
 rw[hl];refine Mx (λkey=>?_) λkey _=>?_
 ·grind[Ht,Hs]
 grind[Fc,He,take_succ]
theorem Baq {s:Sheet} {P:List (List Int)} {p k:Nat} (hk:k<rows s) (h:Ht s p k [(k:Int)]=false):Fc s P p k [(k:Int)]=false:=by
 unfold Ht Hs at h;grind[decide_eq_false_iff_not,Apj,He]
theorem Bar {Gl} (S:SP Gl) (s:Sheet) (hs:s.ok=true) (h0:0<(Be s).length):CR Gl 54 [Dr s,B true] (.tup [.agg (cBook s (Be s)),.c (Ci 0)]):=by
 refine Ag S (let ay:=Uu s;let o7:=λx=>vsC [Value.bool false];let A7:=λ(k0:Nat)=>[D.c (C.l eI (Ji s k0)),D.c (Ci (Dk (Gg s k0)))];let A6:=T.fn 232 [] [T.d (D.c (C.p (Cw s)))];let A4:=rows s;let A1:=Value.map none=Value.map none;let A0:=Be s;let A9:=λ(k1:Nat)=>List.take (k1+1) A0;let A8:=ln A0;let A5:=λ(k1:Nat)=>nth A0 k1;let A3:=List.take A8 A0;let A2:=λ(k1 k2:Nat)=>(Fc s A0 (k1+1-1) k2 [(k2:Int)]);let P0:=λ(zz:Prop)=>Value.slice none 0 0=Value.slice none 0 0/\Value.slice none 0 0=Value.slice none 0 0/\Value.slice none 0 0=Value.slice none 0 0/\Value.map none=Value.map none/\zz;let P1:=λ(k1 k2:Nat) (zz:Prop)=>(eqB (A2 k1 k2) false=true->eqB (A2 k1 k2) false=true)/\zz;let P2:=λ(zz:Prop)=>sR Ar s.1/\sR eI s.2/\(sR Ar (List.take 0 A0))/\(MEq (Dn A0 0) (λkey=>[Cb (Dn A0 0 key)]) (Dn A0 0) λkey=>[Cb (Dn A0 0 key)])/\(MEq (Hs s 0) (λkey=>[Cb (He s A0 0 key)]) (Hs s 0) λkey=>[Cb (He s A0 0 key)])/\zz;let P3:=λ(k1:Nat) (zz:Prop)=>(↑(ln (A5 k1)):Int)=(↑(ln (A5 k1)):Int)/\(sR eI (A5 k1))/\sR Ar s.1/\sR eI s.2/\zz;let P4:=λ(zz:Prop)=>MEq (Dx A4) ay (Dx A4) ay/\zz;let P5:=λ(zz:Prop)=>sR Ar s.1/\sR eI s.2/\zz;((.ff (.loop A4 (λk=>v 25 (I k)::v 24 (I (↑A4:Int))::v 2 (ad 2)::(bx 2 (Cw s)++Apg s A0 0 k)) λk0=>.br (rt (.tup (A7 k0)) .nil) (rt A6 (.rf (List.length A0) (List.length A0) (λp=>[L eI (nth A0 p)]) (λp=>Apg s A0 p A4) (λk1=>.loop (List.length (A5 k1)) (λk=>v 48 (I k)::v 47 (I (↑(List.length (A5 k1)):Int))::v 46 (L eI (A5 k1))::readE s A0 (k1+1) k A4) λk2=>.br .nil .nil) (.br .nil .nil))))),(false=false/\((0:Int)<=0/\0<(s.1.length:Int))/\(ln (nth s.1 (Int.toNat 0))<=maxLen->(0=(↑(0:Nat):Int)/\(↑(ln (nth s.1 (Int.toNat 0))):Int)=(↑A4:Int)/\P5 (P5 (0=0/\(MEq (λx=>false) o7 (Dn A0 0) λkey=>[Cb (Dn A0 0 key)])/\(MEq (λx=>false) o7 (Hs s 0) λkey=>[Cb (He s A0 0 key)])/\MEq (λx=>false) (λx=>vsC [vI 0]) (Dx 0) ay/\P0 A1)))/\∀(k0:Nat),k0<=rows s->(decide ((k0:Int)<(↑(rows s):Int))=true->CR Gl 129 [Dr s,I k0] (.tup (A7 k0))/\lq k0 A4 ((↑A4:Int)=(↑A4:Int)/\P5 (P2 (MEq (Bw (Dx k0) [(k0:Int)]) (Cr ay [(k0:Int)] (mI (Dk (Gg s k0)))) (Dx (k0+1)) ay/\P0 A1))))/\(decide ((k0:Int)<(↑(rows s):Int))=false->CR Gl 130 [Dr s] A6/\Yd.m yd0=0/\Nq (DO Gl) 232 [] [T.d (D.c (C.p [C.l Ar s.1,C.l eI s.2]))] (λl=>Yd.mk l A8 A8 λp=>[L eI (nth A0 p)]) A8 A8/\(P2 (MEq (Dx k0) ay (Dx A4) ay/\P0 A1))/\(∀(k1:Nat),k1<ln A0->k1<=ln A0->(ln (List.take k1 A0)+1)*24<=140737488355328/\ln (List.take k1 A0)+1<=140737488355328/\(ln (A5 k1)<=maxLen->(0=(↑(0:Nat):Int)/\P3 k1 ((SEq (ln (List.take k1 A0)+1) (An (ln (List.take k1 A0)) (λi=>Ar (nth (List.take k1 A0) i)) (gD [List.map C.dem [C.s Tag.n (ln (A5 k1)) λi=>eI (nth (A5 k1) i)]])) (ln (A9 k1)) λi=>Ar (nth (A9 k1) i))/\(MEq (Dn A0 k1) (λkey=>[Cb (Dn A0 k1 key)]) (Ed A0 (k1+1-1) 0) λkey=>[Cb (Ed A0 (k1+1-1) 0 key)])/\(MEq (Hs s k1) (λkey=>[Cb (He s A0 k1 key)]) (Ht s (k1+1-1) 0) λkey=>[Cb (Fc s A0 (k1+1-1) 0 key)])/\P4 (P0 A1)))/\∀(k2:Nat),k2<=ln (A5 k1)->(decide ((k2:Int)<(↑(ln (nth (Be s) k1)):Int))=true->(0<=(k2:Int)/\(k2:Int)<(↑(ln (A5 k1)):Int))/\(Ht s (k1+1-1) k2 [(k2:Int)]=false->[Cb (A2 k1 k2)]=[Cb false])/\P1 k1 k2 (P1 k1 k2 ((eqB (A2 k1 k2) false=true->Dx A4 [(k2:Int)]=false->[Ci (Ut s (Ol [(k2:Int)]))]=[Ci 0])/\P1 k1 k2 (P1 k1 k2 ((Fc s A0 (k1+1-1) k2 [(k2:Int)]=false->eqB (A2 k1 k2) false=true)/\lq k2 (ln (A5 k1)) (P3 k1 ((sR Ar (A9 k1))/\(MEq (Bw (Ed A0 (k1+1-1) k2) [(k2:Int),nth (A5 k1) k2]) (Cr (λkey=>[Cb (Ed A0 (k1+1-1) k2 key)]) [(k2:Int),nth (A5 k1) k2] (List.map C.dem [Cb true])) (Ed A0 (k1+1-1) (k2+1)) λkey=>[Cb (Ed A0 (k1+1-1) (k2+1) key)])/\(MEq (Bw (Ht s (k1+1-1) k2) [(k2:Int)]) (Cr (λkey=>[Cb (Fc s A0 (k1+1-1) k2 key)]) [(k2:Int)] (List.map C.dem [Cb (bif Fc s A0 (k1+1-1) k2 [(k2:Int)] then true else nth (A5 k1) k2==Ut s (Ol [(k2:Int)]))])) (Ht s (k1+1-1) (k2+1)) λkey=>[Cb (Fc s A0 (k1+1-1) (k2+1) key)])/\P4 (P0 A1))))))))/\(decide ((k2:Int)<(↑(ln (nth (Be s) k1)):Int))=false->k1<ln A0/\P5 ((sR Ar (A9 k1))/\(MEq (Ed A0 (k1+1-1) k2) (λkey=>[Cb (Ed A0 (k1+1-1) k2 key)]) (Dn A0 (k1+1)) λkey=>[Cb (Dn A0 (k1+1) key)])/\(MEq (Ht s (k1+1-1) k2) (λkey=>[Cb (Fc s A0 (k1+1-1) k2 key)]) (Hs s (k1+1)) λkey=>[Cb (He s A0 (k1+1) key)])/\P4 (P0 A1)))))/\(ln A0<=ln A0->ln A3<=maxLen->(((↑(ln A3):Int)==0)=true->s.1.length=0/\s.2.length=0/\ln A0=0/\False/\False/\(5:Int)=0)/\(((↑(ln A3):Int)==0)=false->P5 ((sQ Ar A3 A0)/\(MEq (Dn A0 A8) (λkey=>[Cb (Dn A0 A8 key)]) (Dn A0 A8) λkey=>[Cb (Dn A0 A8 key)])/\(MEq (Hs s A8) (λkey=>[Cb (He s A0 A8 key)]) (Hs s A8) λkey=>[Cb (He s A0 A8 key)])/\(0:Int)=0)))))))) func54 ?_
 simp only[stdS,aL,aB,and_true,Yc];obtain⟨l1,l2,l3,l4⟩:=Ll hs;have jp:=(Kp (l4 0 (by omega))).2.2;have i9:∀k,k<(Be s).length->(nth (Be s) k).length=rows s:=λk hk=>(Ayl hs hk).1;have o6:(Be s).length<=481890304:=by
  have h1:=Ao4 (s:=s) (λr=>(Aon hs r).1) (rows s) [] s.errs;have h2:28 ^ rows s<=28 ^ 6:=Nat.pow_le_pow_right (by decide) (by omega);unfold Be;omega
 have jh:MEq (λ_=>false) (λ_=>vsC [Value.bool false]) (Dn (Be s) 0) λkey=>[Cb (Dn (Be s) 0 key)]:=Mx (λ_=>rfl) λ_ h=>(by cases h)
 have ur:MEq (λ_=>false) (λ_=>vsC [Value.bool false]) (Hs s 0) λkey=>[Cb (He s (Be s) 0 key)]:=Mx (λ_=>rfl) λ_ h=>(by cases h)
 have qr:MEq (λ_=>false) (λ_=>vsC [Value.int .i64 0]) (Dx 0) (Uu s):=Mx (λ_=>rfl) λ_ h=>(by cases h)
 refine⟨by omega,λhm=>⟨⟨rfl,jh,ur,qr,trivial⟩,λk0 hk0=>⟨λhd=>?_,λhd=>?_⟩⟩⟩
 ·grind[Ap1,Ad,Bj,Bah]
 ·have bf:k0=rows s:=by grind
  subst bf;refine⟨Bab S s,λl=>Bac S s l hs,⟨Bj,Bj,Bj,trivial⟩,λk1 al _=>?_,λ_ tm=>?_⟩
  ·have hl1:=i9 k1 al;have ht:((Be s).take k1).length<=481890304:=by grind
   refine⟨by omega,by omega,λhm=>⟨⟨Rr al rfl,Bai _ _,Ban _ _ _,Bj,trivial⟩,λk2 bo=>⟨λhd=>?_,λhd=>?_⟩⟩⟩
   ·have hlt:k2<(nth (Be s) k1).length:=by grind
    refine⟨by omega,λh=>by grind[Baq],λ_ h=>?_,(Ad _).2 (by omega),hlt,by omega,Baj _ _ _,?_,Bj,trivial⟩
    ·grind[Api]
    ·have:=Bao s (Be s) k1 k2;trivial
   grind[Bak,Bap,Bj]
  ·rw[fQ];refine⟨λh=>?_,λ_=>⟨Ax rfl,Bj,Bj,trivial⟩⟩;grind
end Go.Vc.Zn
namespace Go.Vc
open Go Go.RowKit
section
variable {P:Program} {Y:TypeId->Ty} {a:Act} {w:World} {rd:Option Nat} {fu:Nat}
def ops_skip {ops:Array Oper} {Q:Exit->Act->World->Prop} {i:Nat} {l:List Nat} {o:Oper} {w':World} (ho:ops[i]?=some o) (hg:o.guard=none) (aq:∀c,o.op≠.defer c) (hr:(execOp a.eval o).run P w=.ok .skip w')
  (h:wpOpsIn (Fr rd) fu P ops Q l (a.put o.dst undef) w'):wpOpsIn (Fr rd) fu P ops Q (i::l) a w:=by
 unfold wpOpsIn;rw[ho];dsimp only;rw[bG (by simp[Region.wanted,hg])];refine⟨λ_ _=>trivial,?_⟩;rw[dK _ _ _ aq,hr];exact h
end
end Go.Vc
namespace Go.Vc.Zn
open Go Go.Proofs Go.Vc Go.RowKit Go.ChangeMaps Tryz
open Go Go.Proofs Go.Vc Go.RowKit
def Hf (a b:Int):Int:=bif decide (a<b) then -1 else bif decide (b<a) then 1 else 0
def Gr:List Int->List Int->Int
 | [],[]=>0
 | [],_::_=>-1
 |_::_,[]=>1
 |x::a,y::b=>bif x==y then Gr a b else Hf x y
theorem Apk:∀{a b:List Int} {k:Nat},(∀i,i<k->nth a i=nth b i)->k<a.length->k<b.length->nth a k≠nth b k->Gr a b=Hf (nth a k) (nth b k)
 | [],_,k,_,h,_,_=>by simp at h
 |_::_,[],k,_,_,h,_=>by simp at h
 |x::a,y::b,0,_,_,_,s7=>by
  have h:x≠y:=s7;unfold Gr;rw[dN.2 h]
  rfl
 |x::a,y::b,k+1,he,h1,h2,s7=>by
  have h0:x=y:=he 0 (by omega);unfold Gr;rw[dI.2 h0];exact Apk (a:=a) (b:=b) (k:=k) (λi hi=>he (i+1) (by omega)) (by grind) (by grind) s7
theorem Acc:∀{a b:List Int},(∀i,i<min a.length b.length->nth a i=nth b i)->Gr a b=bif decide (a.length<b.length) then -1 else bif decide (b.length<a.length) then 1 else 0
 | [],[],_=>rfl
 | [],_::_,_=>by simp[Gr]
 |_::_,[],_=>by simp[Gr]
 |x::a,y::b,h=>by
  have h0:x=y:=h 0 (by simp);unfold Gr;rw[dI.2 h0,bA,Acc (a:=a) (b:=b) λi hi=>h (i+1) (by grind)];simp
theorem Apl:∀a b:List Int,decide (Gr a b<0)=ltL a b
 | [],[]=>rfl
 | [],_::_=>rfl
 |_::_,[]=>rfl
 |x::a,y::b=>by
  unfold Gr ltL;cases h:x==y
  ·grind[Hf]
  ·simp only[bA];exact Apl a b
theorem Bas {Gl} (S:SP Gl) (n:Int):CR Gl 235 [I n] (B false):=by
 refine Ao S .nil ((n != n)=false) func235 ?_;grind
def Bat {Gl} (S:SP Gl) (a b:Int):CR Gl 134 [I a,I b] (I (Hf a b)):=by
 refine Ao S (rs [B false,B false] (.ff (.ff (.br .nil (.br .nil .nil))))) (CR Gl 235 [I a] (B false)/\CR Gl 235 [I b] (B false)/\false=false/\false=false/\(decide (a<b)=true->(-1:Int)=Hf a b)/\(decide (a<b)=false->(decide (b<a)=true->(1:Int)=Hf a b)/\(decide (b<a)=false->(0:Int)=Hf a b))) func134 ?_;grind[Hf,Bas]
theorem Bau {Gl} (S:SP Gl) (a b:List Int):CR Gl 58 [L eI a,L eI b] (I (Gr a b)):=by
 refine Ao S (.loop (Rs a b) (λk=>[v 11 (I k),v 10 (I a.length),v 9 (L eI a),v 0 (L eI a),v 1 (L eI b)]) λk0=>.br (.br .nil (rt (I (Hf (nth a k0) (nth b k0))) (.br .nil .nil))) (.br .nil .nil)) (a.length<=maxLen->(lz a.length (sR eI a/\sR eI a/\sR eI b))/\∀(k0:Nat),k0<=Rs a b->(dt k0 a.length->(ix k0 a.length)/\(b.length<=maxLen->(decide ((b.length:Int)<=k0)=true->(1:Int)=Gr a b)/\(decide ((b.length:Int)<=k0)=false->(ix k0 b.length)/\CR Gl 134 [I (nth a k0),I (nth b k0)] (I (Hf (nth a k0) (nth b k0)))/\((Hf (nth a k0) (nth b k0) != (0:Int))=true->Hf (nth a k0) (nth b k0)=Gr a b)/\((Hf (nth a k0) (nth b k0) != (0:Int))=false->lq k0 (Rs a b) ((a.length:Int)=a.length/\sR eI a/\sR eI a/\sR eI b)))))/\(df k0 a.length->a.length<=maxLen->b.length<=maxLen->(decide ((a.length:Int)<b.length)=true->(-1:Int)=Gr a b)/\(decide ((a.length:Int)<b.length)=false->(0:Int)=Gr a b))) func58 ?_;simp only[stdS,aL,aB,and_true,aN,aK,Ap,Ad];have pr:(List.range (min a.length b.length)).length=min a.length b.length:=cR;have i7:Rs a b<=min a.length b.length:=by grind[Kn,Rs]
 have hbef:∀k,k<=Rs a b->∀i,i<k->nth a i=nth b i:=λk hk i hi=>by
  have h1:i<(List.range (min a.length b.length)).length:=aX (aX hi hk) Kn;have:=Io (p:=λi=>nth a i==nth b i) (l:=List.range (min a.length b.length)) (i:=i) (by grind[Rs]);grind[Cc]
 have s7:∀x y:Int,x≠y->Hf x y≠0:=λx y h=>by
  grind[Hf]
 have kf:∀x:Int,Hf x x=0:=λx=>by
  grind[Hf]
 refine λhm k hk=>⟨λhl=>⟨by omega,λhmb=>⟨λhb=>?_,λhb=>⟨by omega,Bat S _ _,λh=>?_,λh=>⟨by omega,Fq hk (by omega) ?_,by omega,trivial⟩⟩⟩⟩,λhl _ _=>⟨λhb=>?_,λhb=>?_⟩⟩
 ·grind[Acc]
 ·grind[Apk]
 ·grind[nth]
 ·grind[Acc]
 grind[Acc]
def Bav {Gl} (S:SP Gl) (a b:List Int):CR Gl 57 [L eI a,L eI b] (B (ltL a b)):=by
 refine Ao S (rt (I (Gr a b)) .nil) (CR Gl 58 [L eI a,L eI b] (I (Gr a b))/\decide (Gr a b<(0:Int))=ltL a b) func57 ?_;grind[Bau,Apl]
def Baw {Gl} (S:SP Gl) (l:List (List Int)) (h:0<l.length):CR Gl 56 [.d (.c (.l Ar l)),.fn 57 [] []] (L eI (Cz ltL l)):=by
 refine Ag S (let A2:=λ(k0:Nat)=>Bq ltL l k0;let A1:=(l.length:Int);let A0:=List.drop 1 l;let P0:=λ(zz:Prop)=>A1-1=l.length-1/\(sR Ar A0)/\57=57/\zz;((.loop (List.length l-1) (λk=>[v 14 (I k),v 13 (I (A1-1)),v 12 (L Ar A0),v 1 (T.fn 57 [] []),v 5 (L eI (Bq ltL l k))]) λk0=>.br (rt (B (ltL (nth A0 k0) (A2 k0))) (.br .nil .nil)) .nil),(((0:Int)<=0/\0<A1)/\((0:Int)<=1/\1<=A1/\A1<=l.length)/\(Int.toNat (A1-1)<=maxLen->(0=(↑(0:Nat):Int)/\(↑(Int.toNat (A1-1)):Int)=A1-1/\(SEq (Int.toNat (A1-1)) (λi=>Ar (nth l (Int.toNat 1+i))) (ln A0) λi=>Ar (nth A0 i))/\57=57/\sQ eI (nth l (Int.toNat 0)) (Bq ltL l 0))/\∀(k0:Nat),k0<=ln l-1->(decide ((k0:Int)<l.length-1)=true->(0<=(k0:Int)/\(k0:Int)<(↑(ln A0):Int))/\CR Gl 57 [L eI (nth A0 k0),L eI (A2 k0)] (B (ltL (nth A0 k0) (A2 k0)))/\(ltL (nth A0 k0) (A2 k0)=true->lq k0 (ln l-1) (P0 (sQ eI (nth A0 k0) (Bq ltL l (k0+1)))))/\(ltL (nth A0 k0) (A2 k0)=false->lq k0 (ln l-1) (P0 (sQ eI (A2 k0) (Bq ltL l (k0+1))))))/\(decide ((k0:Int)<l.length-1)=false->sQ eI (A2 k0) (Cz ltL l)))))) func56 ?_;simp only[stdS,aL,aB,and_true,aN,aK,Ap,Ad];have hd:(l.drop 1).length=l.length - 1:=iJ;have hn:∀k,nth (l.drop 1) k=nth l (k+1):=λk=>by grind[Rn]
 have m8:∀k,Bq ltL l (k+1)=bif ltL (nth l (k+1)) (Bq ltL l k) then nth l (k+1) else Bq ltL l k:=λk=>rfl;refine⟨by omega,by omega,λhm=>⟨⟨by omega,.of ⟨by omega,λi _=>cD Ar (Rn (l:=l) (i:=i) (k:=1)).symm⟩,Ax rfl⟩,λk hk=>⟨λhl=>⟨by omega,Bav S _ _,λhb=>⟨by omega,by omega,by omega,?_⟩,λhb=>⟨by omega,by omega,by omega,?_⟩⟩,λhl=>?_⟩⟩⟩
 ·rw[hn]at hb ⊢;rw[m8,hb];exact Ax rfl
 ·rw[hn]at hb;rw[m8,hb];exact Ax rfl
 ·have:k=l.length - 1:=by omega
  subst this;exact Ax rfl
def Apm {Gl} (S:SP Gl) (s:Sheet) (hs:s.ok=true):CR Gl 55 [Dr s] (B true):=by
 grind[Ao6]
theorem Bax {Gl} (S:SP Gl) (s:Sheet) (hs:s.ok=true) (h0:0<(Be s).length):CR Gl 17 [Dr s] (.tup [.c (.l eI (Yh (Be s))),.c (Ci 0)]):=by
 refine Ag S (let A1:=Cz ltL (Be s);let A0:=[D.agg (cBook s (Be s)),D.c (Ci 0)];((rs [B true,.tup A0] (.ff (rt (L eI A1) .nil))),(CR Gl 55 [Dr s] (B true)/\CR Gl 54 [Dr s,B true] (.tup A0)/\false=false/\CR Gl 56 [L Ar (Be s),T.fn 57 [] []] (L eI A1)/\(sQ eI A1 (Yh (Be s)))/\(0:Int)=0))) func17 ?_;dsimp only;exact⟨Apm S s hs,Bar S s hs h0,rfl,Baw S (Be s) h0,Ax (Ayj h0).symm,rfl⟩
end Go.Vc.Zn
namespace Go.Vc
open Go Go.RowKit
mutual
theorem Aa.weak {G:Gh} {w:World} {O O':Nat->Prop} (h:∀b,O b->O' b):∀{x:T} {v:Value},Aa G w O x v->Aa G w O' x v
 | .d x,v,r=>by simp only[Aa]at r ⊢;exact r.weak h
 | .tup xs,v,r=>by simp only[Aa]at r ⊢;obtain⟨vs,hv,hr⟩:=r;exact⟨vs,hv,hr.1,λj x v hj hv=>(hr.2 j x v hj hv).weak h⟩
 | .fn f a b,v,r=>by
  simp only[Aa]at r ⊢;obtain⟨us,vs,hv,h1,h2⟩:=r;exact⟨us,vs,hv,Ac.weak h h1,Ac.weak h h2⟩
 | .may b x,v,r=>by simp only[Aa]at r ⊢;exact⟨λhb=>Aa.weak h (r.1 hb),r.2⟩
 | .nx b xs,v,r=>by
  simp only[Aa]at r ⊢;exact⟨λhb=>by obtain⟨vs,hv,hr⟩:=r.1 hb;exact⟨vs,hv,hr.1,λj x v hj hv=>(hr.2 j x v hj hv).weak h⟩,r.2⟩
 | .ag xs,v,r=>by simp only[Aa]at r ⊢;obtain⟨vs,hv,hr⟩:=r;exact⟨vs,hv,Ac.weak h hr⟩
 | .tpl xs,v,r=>by simp only[Aa]at r ⊢;obtain⟨vs,hv,hr⟩:=r;exact⟨vs,hv,Ac.weak h hr⟩
 | .pt x,v,r=>by simp only[Aa]at r ⊢;obtain⟨b,u,h1,h2,h3,h4⟩:=r;exact⟨b,u,h1,h2,h3,Aa.weak h h4⟩
 | .addr _ _,v,r| .any,v,r| .arr _ _,v,r| .elt _ _ _ _,v,r| .mp _,v,r| .it _,v,r| .yl _,v,r| .tr _,v,r=>by trivial
 | .tok _,v,r| .tkd _ _ _ _,v,r| .own _ _ _,v,r| .arrc _ _ _ _,v,r| .mapc _ _ _ _ _,v,r| .itc _ _,v,r=>by trivial
theorem Ac.weak {G:Gh} {w:World} {O O':Nat->Prop} (h:∀b,O b->O' b):∀{xs:List T} {vs:List Value},Ac G w O xs vs->Ac G w O' xs vs
 | [],vs,r=>by trivial
 |x::xs,vs,r=>by
  simp only[Ac]at r ⊢;obtain⟨v,us,hv,h1,h2⟩:=r;exact⟨v,us,hv,Aa.weak h h1,Ac.weak h h2⟩
end
def Mem.keep {Y:TypeId->Ty} {m:Env} {w w':World} {G:Gh} (ho:∀id,m.get 2 id≠.any->Cv (m.get 2 id)=true) (h1:∀k,m.get 1 k=.any) (hb:∀id,m.get 2 id≠.any->w'.heap[G.bk id]?=w.heap[G.bk id]?) (hk:KeepV G.vis w w') (hs:Same w w') (M:Mem Y (λ_=>False) m w G):Mem Y (λ_=>False) m w' G:=by
 have m7:Ext (λ_=>False) G G w w':=⟨λ_=>aI _,hk,λ_ h=>h.elim⟩
 refine⟨λid k d6=>?_,λid d6=>?_,M.inj⟩
 ·obtain⟨q1,q2,u,q3,q4⟩:=M.cells id k d6;refine⟨q1,q2,u,?_,VOK.mono m7 (λ_ _=>rfl) (λ_ h=>h) (λk h=>absurd (h1 k) h) (λk b h=>absurd (h1 k) h) q4⟩;rw[bF (hb id (by rw[q1];exact Bc))];exact q3
 ·obtain⟨q1,q2,q3⟩:=M.box id d6;refine⟨q1,aX q2 hs.size,?_⟩;have hh:=hb id d6;unfold Bk at q3 ⊢;split at q3
  ·grind
  ·rw[hh];obtain⟨⟨cs,t,z,h3,hz,h4,h5⟩,h6⟩:=q3;refine⟨⟨cs,t,z,h3,hz,h4,λi hi=>?_⟩,h6⟩;obtain⟨h7,h8⟩:=h5 i hi;exact⟨h7,λj c hc=>by obtain⟨u,h9,jk⟩:=h8 j c hc;exact⟨u,h9,jk.mono m7⟩⟩
  ·rw[hh];obtain⟨⟨es,cl,h3,h4,h5⟩,h6⟩:=q3;exact⟨⟨es,cl,h3,h4,λi en k he hk=>⟨(h5 i en k he hk).1,(h5 i en k he hk).2.mono m7⟩⟩,h6⟩
  ·grind
  ·grind[Cv]
  ·grind[Cv]
  trivial
end Go.Vc
namespace Go.Vc.Zn
open Go Go.Proofs Go.Vc Go.RowKit Tryz
def Bay {P:Program} {t tx:TypeId} {vx:Value} {w:World} (d:Nat) (h:∃ms,P.underlying t=some (.interface ms)):(Op.equalIn (d+1) t (.iface tx vx) .nilIface).run P w=.ok false w:=by
 obtain⟨ms,h⟩:=h;simp[Op.equalIn,aO h]
def Pv {P:Program} {t tx:TypeId} {vx:Value} {w:World} (h:∃ms,P.underlying t=some (.interface ms)):(binOp .eql t (.iface tx vx) .nilIface).run P w=.ok (.bool false) w:=by
 have:(Op.equal t (.iface tx vx) .nilIface).run P w=.ok false w:=Bay 9999 h;simp only[binOp];simp[this]
def Baz {P:Program} {t:TypeId} {w:World} (d:Nat) (h:∃ms,P.underlying t=some (.interface ms)):(Op.equalIn (d+1) t .nilIface .nilIface).run P w=.ok true w:=by
 obtain⟨ms,h⟩:=h;simp[Op.equalIn,aO h]
def Acd {P:Program} {t:TypeId} {w:World} (h:∃ms,P.underlying t=some (.interface ms)):(binOp .eql t .nilIface .nilIface).run P w=.ok (.bool true) w:=by
 have:(Op.equal t .nilIface .nilIface).run P w=.ok true w:=Baz 9999 h;simp only[binOp];simp[this]
def Pw {P:Program} {t xt:TypeId} {v:Value} {w:World} {y:Ty} (hY:Qx P t y) (hk:∃fs,y.kind=.struct fs):(Instr.typeAssert (.iface t v) xt t true).run P w=.ok (.tuple #[v,.bool true]) w:=by
 obtain⟨d,i,z,h1,_,_,_,_,_,h7,_⟩:=hY;obtain⟨fs,hk⟩:=hk;rw[hk]at h7;obtain⟨fields,rfl,_⟩:=h7;simp[Instr.typeAssert,aO h1]
def Ace {P:Program} {Y:TypeId->Ty} {t t' xt:TypeId} {v:Value} {w:World} (hY:YOK P Y) (hk:∃fs,(Y t).kind=.struct fs) (s7:t'≠t):∃z,(Instr.typeAssert (.iface t' v) xt t true).run P w=.ok (.tuple #[z,.bool false]) w:=by
 obtain⟨fs,hk⟩:=hk;have ax:(Y t).known=true:=Aab hk;obtain⟨z,hz,_⟩:=Wt hY ax w;obtain⟨d,i,z',h1,_,_,_,_,_,h7,_⟩:=hY t ax;rw[hk]at h7;obtain⟨fields,rfl,_⟩:=h7;refine⟨z,?_⟩;simp[Instr.typeAssert,aO h1,s7,hz]
def und20:∃ms,Tryz.prog.underlying 20=some (.interface ms):=by
 obtain⟨d,i,z,h1,_,_,_,_,_,h7,_⟩:=yok 20 (by kernel_rfl);obtain⟨ms,rfl⟩:∃ms,d=.interface ms:=h7;grind
def k133:(Y 212).kind=.struct [(0,3)]:=by kernel_rfl
def k135:(Y 214).kind=.struct [(0,9)]:=by kernel_rfl
def z133:(Y 212).zero.toArray=#[.int .i64 0]:=by kernel_rfl
def z135:(Y 214).zero.toArray=#[.string (ByteArray.mk #[])]:=by kernel_rfl
def z26:(Y 30).zero.toArray=#[.int .i64 0]:=by kernel_rfl
def s133:(Y 212).size=1:=by kernel_rfl
def s135:(Y 214).size=1:=by kernel_rfl
def kn133:(Y 212).known=true:=by kernel_rfl
def kn135:(Y 214).known=true:=by kernel_rfl
def Ku:(Y 30).known=true:=by kernel_rfl
def ev_const {a:Act} {v:Value}:a.eval (.const v)=v:=rfl
def sl1 (p v:Value):SL { tmps:=#[p]++(Array.replicate 13 undef).setIfInBounds 4 v,defers:=[] } 14 (upd (λt=>#[p].getD t undef) 5 v) []:=by
 have:=(SL.start #[p] 14 (aH rfl)).put (d:=5) (by decide) v;grind[Act.put]
def stO (t:TypeId) (p q:Operand):Oper:={ dst:=none,op:=Op.store t p q,type:=0,pos:= "",after:=#[],guard:=none }
def catch_idle (p:Value) (w:World):
  CallsD Tryz.prog 105 #[p] .returning w λe u' w'=>e=.returned (.tuple #[])/\u'=.returning/\w'=w:=by
 refine dF func105 rfl λc₀ cs hu=>?_;apply gI;apply eE;simp[wpOpsS,go_sem,recoverD,hu,Tryz.ntmps105,Exit.thenS];have S:=sl1 p .nilIface;refine eS (fN (cE (aR ?_)));generalize ({ tmps:=#[p]++(Array.replicate 13 undef).setIfInBounds 4 Value.nilIface,defers:=[] }:Act)=a at S ⊢;refine Ak S (d:=7) (v:=.bool true) (w':=w) rfl (by decide) rfl ?_ λa1 S1=>?_
 ·simp[execOp,S.eval,upd,Acd und20,ev_const,eqGuard]
 refine dM (by simp[S1.eval,upd]) (aR ?_);refine Ak S1 (d:=1) (v:=.nilIface) (w':=w) rfl (by decide) rfl ?_ λa2 S2=>?_
 ·simp[execOp,S1.eval,upd]
 cases c₀;simp_all[wpList,bodyPostS,results,Tryz.results105,Exit.inBlock,S2.defers]
theorem catch_row (b1:Nat) (x:Int) (t7:List PanicEntry) (w:World) (h1:w.heap[b1]?=some (.cells #[.int .i64 0] 30 (0,0))):
  CallsD Tryz.prog 105 #[.pointer (some ⟨b1,0,none⟩)] (.panicking ({ v:=.iface 212 (.agg #[.int .i64 x]),recovered:=false }::t7)) w λe u' w'=>
   e=.returned (.tuple #[])/\u'=.panicking ({ v:=.iface 212 (.agg #[.int .i64 x]),recovered:=true }::t7)/\Same w w'/\w'.heap[b1]?=some (.cells #[.int .i64 5] 30 (0,0))/\
   ∀b,b<w.heap.size->b≠b1->w'.heap[b]?=w.heap[b]?:=by
 have l1:b1<w.heap.size:=(aP.1 h1).1;refine dF func105 rfl λc₀ cs hu=>?_;apply gI;apply eE;simp[wpOpsS,go_sem,recoverD,hu,Tryz.ntmps105,Exit.thenS];have S:=sl1 (.pointer (some ⟨b1,0,none⟩)) (.iface 212 (.agg #[.int .i64 x]));refine eS (fN (cE (aR ?_)));generalize ({ tmps:=#[Value.pointer (some ⟨b1,0,none⟩)]++(Array.replicate 13 undef).setIfInBounds 4 (Value.iface 212 (.agg #[.int .i64 x])),defers:=[] }:Act)=a at S ⊢;refine Ak S (d:=7) (v:=.bool false) (w':=w) rfl (by decide) rfl ?_ λa1 S1=>?_
 ·simp[execOp,S.eval,upd,Pv und20,ev_const,eqGuard]
 refine dG (by simp[S1.eval,upd]) (cE (aR ?_));refine Ak S1 (d:=8) (v:=.tuple #[.agg #[.int .i64 x],.bool true]) (w':=w) rfl (by decide) rfl ?_ λa2 S2=>?_
 ·simp[execOp,S1.eval,upd,Pw (yok 212 kn133) ⟨_,k133⟩]
 refine Ak S2 (d:=9) (v:=.bool true) (w':=w) rfl (by decide) rfl ?_ λa3 S3=>?_
 ·simp[execOp,S2.eval,upd,Instr.extract]
 refine Ak S3 (d:=10) (v:=.agg #[.int .i64 x]) (w':=w) rfl (by decide) rfl ?_ λa7 S7=>?_
 ·simp[execOp,S3.eval,upd,Instr.extract]
 refine dM (by simp[S7.eval,upd]) (cE (aR ?_));have z7:=λ(o:Oper) (ho:o.op=Op.alloc 212)=>Jz (P:=Tryz.prog) (a:=a7) (w:=w) (o:=o) yok (t:=212) ho kn133;rw[z133]at z7;refine Ak S7 (d:=2) rfl (by decide) rfl (z7 _ rfl) λa8 S8=>?_;obtain⟨w1,il⟩:∃w1,w.alloc (.cells #[.int .i64 0] 212 (0,0))=w1:=⟨_,rfl⟩
 have dc:w.alloc (.cells #[.int .i64 0] 212)=w1:=il;rw[dc];have g1:Same w w1:=by grind[Gz]
 have g2:∀b,b<w.heap.size->w1.heap[b]?=w.heap[b]?:=λb hb=>by grind[Cm]
 have g3:w1.heap[w.heap.size]?=some (.cells #[.int .i64 0] 212 (0,0)):=by grind[World.alloc_heap_new]
 have H:=λ(o:Oper) (ho:o.op=Op.store 212 (.tmp 2) (.tmp 10))=>Ev (P:=Tryz.prog) (a:=a8) (w:=w1) (v:=.agg #[.int .i64 x]) (b:=w.heap.size) (o:=o)
  yok (t:=212) ho kn133 (by simp[S8.eval,upd]) (by simp[S8.eval,upd]) (by trivial) (by trivial) (by simp[Value.cells,Value.oneCell']) g3
 obtain⟨_,r2,r3,r4⟩:=H (stO 212 (.tmp 2) (.tmp 10)) rfl;refine Eu S8 rfl rfl (H _ rfl).1 λa9 S9=>?_;clear H;generalize w1.setRow w.heap.size (Value.agg #[.int .i64 x]).cells=w2 at r2 r3 r4 ⊢;refine aR ?_;have g5:w2.heap[b1]?=some (.cells #[.int .i64 0] 30 (0,0)):=by grind
 have H:=λ(o:Oper) (ho:o.op=Op.store 30 (.tmp 0) (.const (.int .i64 5)))=>Ev (P:=Tryz.prog) (a:=a9) (w:=w2) (v:=.int .i64 5) (b:=b1) (o:=o)
  yok (t:=30) ho Ku (by simp[S9.eval,upd]) rfl (by trivial) (by trivial) (by trivial) g5
 obtain⟨_,t2,t3,t4⟩:=H (stO 30 (.tmp 0) (.const (.int .i64 5))) rfl;refine Eu S9 rfl rfl (H _ rfl).1 λqt ka=>?_;clear H;generalize w2.setRow b1 (Value.int .i64 5).cells=w4 at t2 t3 t4 ⊢;have e3:∀b,b<w.heap.size->b≠b1->w4.heap[b]?=w.heap[b]?:=λb hb h1=>by grind
 have e4:Same w w4:=(g1.trans r3).trans t3;exact⟨ka.defers,_,rfl,.tuple #[],by simp[results,Tryz.results105],rfl,rfl,e4,t2,e3⟩
theorem catch_text (b1:Nat) (x:ByteArray) (t7:List PanicEntry) (w:World) (h1:w.heap[b1]?=some (.cells #[.int .i64 0] 30 (0,0))):
  CallsD Tryz.prog 105 #[.pointer (some ⟨b1,0,none⟩)] (.panicking ({ v:=.iface 214 (.agg #[.string x]),recovered:=false }::t7)) w λe u' w'=>
   e=.returned (.tuple #[])/\u'=.panicking ({ v:=.iface 214 (.agg #[.string x]),recovered:=true }::t7)/\Same w w'/\w'.heap[b1]?=some (.cells #[.int .i64 4] 30 (0,0))/\
   ∀b,b<w.heap.size->b≠b1->w'.heap[b]?=w.heap[b]?:=by
 have l1:b1<w.heap.size:=(aP.1 h1).1;refine dF func105 rfl λc₀ cs hu=>?_;apply gI;apply eE;simp[wpOpsS,go_sem,recoverD,hu,Tryz.ntmps105,Exit.thenS];have S:=sl1 (.pointer (some ⟨b1,0,none⟩)) (.iface 214 (.agg #[.string x]));refine eS (fN (cE (aR ?_)));generalize ({ tmps:=#[Value.pointer (some ⟨b1,0,none⟩)]++(Array.replicate 13 undef).setIfInBounds 4 (Value.iface 214 (.agg #[.string x])),defers:=[] }:Act)=a at S ⊢;refine Ak S (d:=7) (v:=.bool false) (w':=w) rfl (by decide) rfl ?_ λa1 S1=>?_
 ·simp[execOp,S.eval,upd,Pv und20,ev_const,eqGuard]
 refine dG (by simp[S1.eval,upd]) (cE (aR ?_));obtain⟨z,hz⟩:=Ace (Y:=Y) (t:=212) (t':=214) (xt:=20) (v:=.agg #[.string x]) (w:=w) yok ⟨_,k133⟩ (by decide);refine Ak S1 (d:=8) (v:=.tuple #[z,.bool false]) (w':=w) rfl (by decide) rfl ?_ λa2 S2=>?_
 ·simp[execOp,S1.eval,upd,hz]
 refine Ak S2 (d:=9) (v:=.bool false) (w':=w) rfl (by decide) rfl ?_ λa3 S3=>?_
 ·simp[execOp,S2.eval,upd,Instr.extract]
 refine Ak S3 (d:=10) (v:=z) (w':=w) rfl (by decide) rfl ?_ λa4 S4=>?_
 ·simp[execOp,S3.eval,upd,Instr.extract]
 refine dG (by simp[S4.eval,upd]) (cE (aR ?_));refine Ak S4 (d:=11) (v:=.tuple #[.agg #[.string x],.bool true]) (w':=w) rfl (by decide) rfl ?_ λa5 S5=>?_
 ·simp[execOp,S4.eval,upd,Pw (yok 214 kn135) ⟨_,k135⟩]
 refine Ak S5 (d:=12) (v:=.bool true) (w':=w) rfl (by decide) rfl ?_ λa6 S6=>?_
 ·simp[execOp,S5.eval,upd,Instr.extract]
 refine Ak S6 (d:=13) (v:=.agg #[.string x]) (w':=w) rfl (by decide) rfl ?_ λa7 S7=>?_
 ·simp[execOp,S6.eval,upd,Instr.extract]
 refine dM (by simp[S7.eval,upd]) (cE (aR ?_));have z7:=λ(o:Oper) (ho:o.op=Op.alloc 214)=>Jz (P:=Tryz.prog) (a:=a7) (w:=w) (o:=o) yok (t:=214) ho kn135;rw[z135]at z7;refine Ak S7 (d:=3) rfl (by decide) rfl (z7 _ rfl) λa8 S8=>?_;obtain⟨w1,il⟩:∃w1,w.alloc (.cells #[.string (ByteArray.mk #[])] 214 (0,0))=w1:=⟨_,rfl⟩
 have dc:w.alloc (.cells #[.string (ByteArray.mk #[])] 214)=w1:=il;rw[dc];have g1:Same w w1:=by grind[Gz]
 have g2:∀b,b<w.heap.size->w1.heap[b]?=w.heap[b]?:=λb hb=>by grind[Cm]
 have g3:w1.heap[w.heap.size]?=some (.cells #[.string (ByteArray.mk #[])] 214 (0,0)):=by grind[World.alloc_heap_new]
 have H:=λ(o:Oper) (ho:o.op=Op.store 214 (.tmp 3) (.tmp 13))=>Ev (P:=Tryz.prog) (a:=a8) (w:=w1) (v:=.agg #[.string x]) (b:=w.heap.size) (o:=o)
  yok (t:=214) ho kn135 (by simp[S8.eval,upd]) (by simp[S8.eval,upd]) (by rw[s135];rfl) (by trivial) (by simp[Value.cells,Value.oneCell']) g3
 obtain⟨_,r2,r3,r4⟩:=H (stO 214 (.tmp 3) (.tmp 13)) rfl;refine Eu S8 rfl rfl (H _ rfl).1 λa9 S9=>?_;clear H;generalize w1.setRow w.heap.size (Value.agg #[.string x]).cells=w2 at r2 r3 r4 ⊢;refine aR ?_;have g5:w2.heap[b1]?=some (.cells #[.int .i64 0] 30 (0,0)):=by grind
 have H:=λ(o:Oper) (ho:o.op=Op.store 30 (.tmp 0) (.const (.int .i64 4)))=>Ev (P:=Tryz.prog) (a:=a9) (w:=w2) (v:=.int .i64 4) (b:=b1) (o:=o)
  yok (t:=30) ho Ku (by simp[S9.eval,upd]) rfl (by trivial) (by trivial) (by trivial) g5
 obtain⟨_,t2,t3,t4⟩:=H (stO 30 (.tmp 0) (.const (.int .i64 4))) rfl;refine Eu S9 rfl rfl (H _ rfl).1 λqt ka=>?_;clear H;generalize w2.setRow b1 (Value.int .i64 4).cells=w4 at t2 t3 t4 ⊢;have e3:∀b,b<w.heap.size->b≠b1->w4.heap[b]?=w.heap[b]?:=λb hb h1=>by grind
 have e4:Same w w4:=(g1.trans r3).trans t3;exact⟨ka.defers,_,rfl,.tuple #[],by simp[results,Tryz.results105],rfl,rfl,e4,t2,e3⟩
def Uv (t1:TypeId) (e1:Int):Ending->Value
 | .panicked [{ v:=.iface t _,.. }]=>bif Nat.beq t t1 then .int .i64 e1 else .int .i64 4
 |_=>.int .i64 0
def attW (w:World):World:=w.alloc (.cells #[.int .i64 0] 30 (0,0))
structure AttOKG {α:Type} (t1 t2:TypeId) (mk:α->Value) (w w':World) (en:Ending):Prop where
 one:w'.heap[w.heap.size]?=some (.cells #[.int .i64 0] 30 (0,0))
 en:en=.returned (.tuple #[])∨(∃x,en=.panicked [{ v:=.iface t1 (mk x),recovered:=false }])∨∃s,en=.panicked [{ v:=.iface t2 (.agg #[.string s]),recovered:=false }]
def att_results {F:Func} (hF:F.results=#[.cell 2 30]) {a:Act} {w:World} {b1:Nat} {x:Value} (h1:a.tmps.getD 2 undef=.pointer (some ⟨b1,0,none⟩))
  (g1:w.heap[b1]?=some (.cells #[x] 30 (0,0))):(results F a.tmps).run Tryz.prog w=.ok x w:=by
 have l1:=Nt yok (t:=30) (by kernel_rfl) (w:=w) (b:=b1) (off:=0) (u:=x) (by simp[World.cell?,g1]);have he:F.results.mapM (Bd a.tmps)=List.toArray <$> F.results.toList.mapM (Bd a.tmps):=cT ..;have iw:results F a.tmps=(F.results.mapM (Bd a.tmps) >>= λvs=>pure (if h:vs.size=1 then vs[0] else .tuple vs)):=rfl;have d7:([ResultVar.cell 2 30].mapM (Bd a.tmps)).run Tryz.prog w=.ok [x] w:=by
  have r1:(Bd a.tmps (.cell 2 30)).run Tryz.prog w=.ok x w:=by grind[Bd,asAddr]
  rw[Oe,r1,bK];simp
 rw[iw,he,hF];simp only[cF,gQ,d7,bK,eY]
 rfl
structure AttP {α:Type} (att:FuncId) (t1 t2:TypeId) (mk:α->Value) (e1:Int):Prop where
 fn:Ha Tryz.prog att
 ne:Nat.beq t2 t1=false
 calls:∀(g:FuncId) (hg:Ha Tryz.prog g) (us vs:Array Value) (w:World) (R:Ending->World->Prop) (m6:Calls Tryz.prog g (us++vs) (attW w) R) (hR:∀en w',R en w'->AttOKG t1 t2 mk w w' en),
  Calls Tryz.prog att #[.func (.func g) us vs] w λen gr=>∃bc w',R bc w'/\Same w' gr/\(∀b,b<w'.heap.size->b≠w.heap.size->gr.heap[b]?=w'.heap[b]?)/\(∃x,gr.heap[w.heap.size]?=some (.cells #[x] 30 (0,0)))/\en=.returned (Uv t1 e1 bc)
variable {Gl:World->Prop}
inductive AttG {α:Type} (t1 t2:TypeId) (mk:α->Value) (e1:Int):Res->Int->Prop
 |ok:AttG t1 t2 mk e1 (.ret (.tup [])) 0
 |row (x:α):AttG t1 t2 mk e1 (.pan (.iface t1 (mk x))) e1
 |text (s:ByteArray):AttG t1 t2 mk e1 (.pan (.iface t2 (.agg #[.string s]))) 4
section
variable {α:Type} {att:FuncId} {t1 t2:TypeId} {mk:α->Value} {e1:Int} (A:AttP att t1 t2 mk e1)
include A
def AttP.two (s:Value) (r:Bool):Uv t1 e1 (.panicked [{ v:=.iface t2 s,recovered:=r }])=.int .i64 4:=by
 show (bif Nat.beq t2 t1 then Value.int .i64 e1 else .int .i64 4)=_
 rw[A.ne];rfl
theorem AttP.one (s:Value) (r:Bool):Uv t1 e1 (.panicked [{ v:=.iface t1 s,recovered:=r }])=.int .i64 e1:=by
 show (bif Nat.beq t1 t1 then Value.int .i64 e1 else .int .i64 4)=_
 rw[fP];rfl
end
theorem attW_size (w:World):(attW w).heap.size=w.heap.size+1:=by simp[attW,eC]
theorem attW_lt (w:World) {b:Nat} (h:b<w.heap.size):(attW w).heap[b]?=w.heap[b]?:=by
 grind[attW,Cm]
def attW_same (w:World):Same w (attW w):=Gz _ _
theorem attW_one (w:World):(attW w).heap[w.heap.size]?=some (.cells #[.int .i64 0] 30 (0,0)):=World.alloc_heap_new w _
def attW_keep {vis:Nat->Nat} {w:World} (h:∀b,w.heap.size<=b->vis b=0):KeepV vis w (attW w):=
 ⟨λb i hi=>bF (attW_lt w (by
  grind)),λb hb es c he=>by grind[attW_lt],Me λb h=>attW_lt w h⟩
def att_ret {base:Nat} {vis:Nat->Nat} {w:World} (e:Int):Kj base vis w (I e) (.int .i64 e):=Rep.v _ rfl
def AttP.att {α:Type} {att:FuncId} {t1 t2:TypeId} {mk:α->Value} {e1:Int} (A:AttP att t1 t2 mk e1) (S:Set Tryz.prog Y Gl) {g:FuncId} {fst f8:List T} {r:Res} {ev:Int} (h:CO Gl g (fst++f8) r) (ha:AttG t1 t2 mk e1 r ev):CR Gl att [.fn g fst f8] (I ev):=by
 refine⟨A.fn,λvis w vs d8 cb f7=>?_⟩;simp only[Ac,Aa]at f7;obtain⟨v,vs1,ai,⟨us,cvs,rfl,hu,hc⟩,rfl⟩:=f7;obtain rfl:vs=#[.func (.func g) us cvs]:=by grind
 have hb:Below w.heap.size w (attW w):=⟨(attW_same w).os,(attW_same w).tape,(attW_same w).output,(attW_same w).size,λk hk=>attW_lt w hk⟩
 have m7:Ext (Lo w.heap.size) (Gh0 vis) (Gh0 vis) w (attW w):=⟨λ_=>aI _,attW_keep d8,λb hb=>attW_lt w hb⟩
 have da:Ac (Gh0 vis) (attW w) (Lo (attW w).heap.size) (fst++f8) (us++cvs).toList:=by
  rw[eA];exact Ac.weak (λb hb=>by grind[attW_size,Lo]) ((Ac.mono m7 (λ_ _=>rfl) hu).app (Ac.mono m7 (λ_ _=>rfl) hc))
 have m6:=h.2 vis (attW w) (us++cvs) (λb hb=>d8 b (by grind[attW_size])) (S.gl _ _ cb hb) da;refine (A.calls g h.1 us cvs w _ m6 λen w' ⟨gi,fk⟩=>⟨?_,?_⟩).mono ?_
 ·rw[gi.block _ (by rw[attW_size];omega)];exact attW_one w
 ·cases ha with
  |ok=>
   obtain⟨v,vis',rfl,_,_,vs,rfl,hr⟩:=fk;obtain rfl:vs=#[]:=by
    have:=hr.1;grind
   grind
  |row x=>exact .inr (.inl ⟨x,fk⟩)
  |text s=>exact .inr (.inr ⟨s,fk⟩)
 ·rintro en w2 ⟨bc,w',⟨gi,fk⟩,hs,hh,_,rfl⟩;have j9:w.heap.size<=w2.heap.size:=by grind
  refine⟨⟨hs.os.trans (gi.os.trans hb.os),hs.tape.trans (gi.tape.trans hb.tape),hs.output.trans (gi.output.trans hb.output),j9,λk hk=>?_⟩,_,vis,rfl,λ_ _=>rfl,λb hb=>d8 b (by omega),?_⟩
  ·have h1:=gi.size;rw[attW_size]at h1;rw[hh k (by omega) (by omega),gi.block k (by rw[attW_size];omega),attW_lt w hk]
  ·cases ha with
   |ok=>
    obtain⟨v,vis',rfl,_⟩:=fk;exact att_ret 0
   |row x=>
    have fk:bc=_:=fk;subst fk;rw[A.one];exact att_ret e1
   |text s=>
    have fk:bc=_:=fk;subst fk;rw[A.two];exact att_ret 4
theorem AttP.does {α:Type} {att:FuncId} {t1 t2:TypeId} {mk:α->Value} {e1:Int} (A:AttP att t1 t2 mk e1) {g:FuncId} {fst f8:List T} {r:Res} {ev:Int} {c9 post:Env} {yd:Yd} (bd:En c9=true) (bt:Ie c9 post=true) (h:DO Gl yd g (fst++f8) c9 r post) (ha:AttG t1 t2 mk e1 r ev):DO Gl yd att [.fn g fst f8] c9 (.ret (I ev)) post:=by
 obtain⟨p0,p1,p2⟩:=Mk bd;obtain⟨o1,o2,o3⟩:=Ri bt;refine⟨A.fn,λJ G w vs m8 cb sm ae hH hJ v6 f7=>?_⟩;simp only[Ac,Aa]at f7;obtain⟨v,vs1,ai,⟨us,cvs,rfl,hu,hc⟩,rfl⟩:=f7;obtain rfl:vs=#[.func (.func g) us cvs]:=by grind
 have n8:=attW_keep (w:=w) ae;have m7:Ext (λ_=>False) G G w (attW w):=⟨λ_=>aI _,n8,λb hb=>hb.elim⟩
 have da:Ac G (attW w) (λ_=>False) (fst++f8) (us++cvs).toList:=by
  rw[eA];exact (Ac.mono m7 (λ_ _=>rfl) hu).app (Ac.mono m7 (λ_ _=>rfl) hc)
 have y9:∀id,c9.get 2 id≠.any->G.bk id<w.heap.size:=λid d6=>(v6.box id d6).2.1;have wb:=m8.1 _ _ _ _ _ hJ (λb hb=>attW_lt w (hH b hb)) n8 (attW_same w);have js:Mem Y (λ_=>False) c9 (attW w) G:=Mem.keep (Kl bd) p1 (λid d6=>attW_lt w (y9 id d6)) n8 (attW_same w) v6;have j9:=attW_size w;have o8:∀id,Env.get (Af post c9) 2 id≠.any->c9.get 2 id≠.any:=λid d6=>by
  grind[Fo,Ib]
 have du:∀k,Env.get (Af post c9) 1 k=.any:=λk=>by
  grind[Fo]
 have i8:∀id,Env.get (Af post c9) 2 id≠.any->Cv (Env.get (Af post c9) 2 id)=true:=λid d6=>by
  rw[Fo]at d6 ⊢;split
  ·rename_i hk;have:=o2 id hk;unfold Ib at this;split at this<;>first|(rename_i hx _;rw[hx];rfl)|(rename_i hx;rw[hx];rfl)|(cases this)
  grind[Kl]
 have m6:=h.run (by cases ha<;>rfl) J G (attW w) (us++cvs) m8 cb sm (λb hb=>ae b (by omega)) (λb hb=>by grind) wb js da;refine (A.calls g h.1 us cvs w _ m6 λen w' ⟨h1,h2,h3,h4,h5⟩=>⟨?_,?_⟩).mono ?_
 ·grind[attW_one]
 ·obtain⟨G',_,_,_,_,_,_,_,hr⟩:=h5;cases ha with
  |ok=>
   obtain⟨v,rfl,vs,rfl,hr⟩:=hr;obtain rfl:vs=#[]:=by
    have:=hr.1;grind
   grind
  |row x=>grind
  |text s=>grind
 ·rintro en w2 ⟨bc,w',⟨h1,h2,h3,h4,h5⟩,hs,hh,⟨x2,gq⟩,rfl⟩;have s1:=h1.size;have s2:=hs.size;obtain⟨G',g1,g2,g3,g4,g5,g6,g7,hr⟩:=h5;have li:∀vis:Nat->Nat,(∀b,w'.heap.size<=b->vis b=0)->vis w.heap.size=0->KeepV vis w' w2:=λvis v1 v2=>by
   have hv:∀b,0<vis b->w2.heap[b]?=w'.heap[b]?:=λb hb=>hh b (by
    grind) (λh=>by grind)
   refine⟨λb i hi=>bF (hv b (by omega)),λb hb es c he=>by grind,λb cs t z aw=>?_⟩;grind[attW_one]
  have hH':∀b,G'.H b->w2.heap[b]?=w'.heap[b]?:=λb hb=>by
   grind
  have v1:G'.vis w.heap.size=0:=by grind
  refine⟨((attW_same w).trans h1).trans hs,(n8.trans h2).trans (li G.vis (λb hb=>ae b (by omega)) (ae _ (by omega))),λb hb hn dy=>?_,λid k hl hk=>?_,G',g1,λb hb=>g2 b (by omega),λb hb=>g3 b (by omega),
   λb hb=>g4 b (by omega),λb hb=>by grind,m8.1 _ _ _ _ _ g6 hH' (li G'.vis g3 v1) hs,Mem.keep i8 du (λid d6=>?_) (li G'.vis g3 v1) hs g7,?_⟩
  ·grind[attW_lt]
  ·have d6:c9.get 2 id≠.any:=by rw[hl];exact Bc
   grind[World.cell?_of_block,attW_lt]
  ·grind
  ·cases ha with
   |ok=>
    obtain⟨v,rfl,_⟩:=hr;exact⟨_,rfl,att_ret 0⟩
   |row x=>
    have hr:bc=_:=hr;subst hr;rw[A.one];exact⟨_,rfl,att_ret e1⟩
   |text s=>
    have hr:bc=_:=hr;subst hr;rw[A.two];exact⟨_,rfl,att_ret 4⟩
theorem attempt_calls (g:FuncId) (hg:Ha Tryz.prog g) (us vs:Array Value) (w:World) (R:Ending->World->Prop) (m6:Calls Tryz.prog g (us++vs) (attW w) R) (hR:∀en w',R en w'->AttOKG 212 214 (λx:Int=>.agg #[.int .i64 x]) w w' en):
  Calls Tryz.prog 38 #[.func (.func g) us vs] w λen gr=>∃bc w',R bc w'/\Same w' gr/\(∀b,b<w'.heap.size->b≠w.heap.size->gr.heap[b]?=w'.heap[b]?)/\(∃x,gr.heap[w.heap.size]?=some (.cells #[x] 30 (0,0)))/\en=.returned (Uv 212 5 bc):=by
 go_enter_defers func38,Tryz.ntmps38
 have S:SL { tmps:=#[Value.func (Fn.func g) us vs,undef,undef,undef,undef,undef],defers:=[] } 6 (λt=>#[Value.func (Fn.func g) us vs].getD t undef) []:=by
  exact SL.start #[Value.func (Fn.func g) us vs] 6 (aH rfl)
 generalize ({ tmps:=#[Value.func (Fn.func g) us vs,undef,undef,undef,undef,undef],defers:=[] }:Act)=a at S ⊢;refine cE (aR ?_);have z7:=λ(o:Oper) (ho:o.op=Op.alloc 30)=>Jz (P:=Tryz.prog) (a:=a) (w:=w) (o:=o) yok (t:=30) ho Ku;rw[z26]at z7;refine Ak S (d:=2) rfl (by decide) rfl (z7 _ rfl) λa2 S2=>?_
 show Code.wp Tryz.prog _ _ a2 (attW w)
 generalize il:attW w=w1 at m6 ⊢;refine cE (aR ?_);refine Ak S2 (d:=3) (v:=.func (.func 105) #[] #[.pointer (some ⟨w.heap.size,0,none⟩)]) (w':=w1) rfl (by decide) rfl ?_ λa3 S3=>?_
 ·simp[execOp,S2.eval,upd,Instr.makeFunc]
 refine Abh S3 (d:={ target:=.fn (.func 105) #[.pointer (some ⟨w.heap.size,0,none⟩)],args:=#[] }) rfl rfl ?_ λa4 S4=>?_
 ·simp[execOp,resolve,S3.eval,upd,Deferred.ofValue]
 refine cE (aR ?_);refine Ak S4 (d:=4) (v:=.func (.func g) us vs) (w':=w1) rfl (by decide) rfl ?_ λa5 S5=>?_
 ·simp[execOp,S4.eval,upd]
 have fx:∀(p:Value) (w:World),(invoke (.fn (.func 105) #[p]) #[]).run Tryz.prog w=.ok (.enter 105 #[p]) w:=λp w=>by
  have h2:(Tryz.f105.name== "runtime.NumGoroutine")=false:=by trivial
  have h3:Tryz.f105.body.isNone=false:=by trivial
  have fm:Tryz.f105.name≠ "runtime.NumGoroutine":=by trivial
  have mv:Tryz.f105.body≠none:=by trivial
  simp[invoke,callFunc,func105,fm,mv]
 refine Xx S5 (d:=5) (g:=g) (vs:=us++vs) (R:=R) rfl (by decide) rfl ?_ m6 (λv w2 hr a6 S6=>?_) (λch w2 hr=>?_) (λw2 hr=>?_)
 ·have:=λ(o:Oper) (ho:o.op=Op.call { callee:=Callee.value (Operand.tmp 4),args:=#[],argTypes:=#[] })=>Rb (P:=Tryz.prog) (a:=a5) (w:=w1) (o:=o) ho (by simp[S5.eval,upd]) hg (us:=us) (cvs:=vs);grind
 ·obtain⟨c1,c3⟩:=hR _ _ hr;have l1:w.heap.size<w2.heap.size:=(aP.1 c1).1;refine cE (aR ?_);have H:=λ(o:Oper) (ho:o.op=Op.store 30 (.tmp 2) (.const (.int .i64 0)))=>Ev (P:=Tryz.prog) (a:=a6) (w:=w2) (v:=.int .i64 0) (b:=w.heap.size) (o:=o)
   yok (t:=30) ho Ku (by simp[S6.eval,upd]) rfl (by trivial) (by trivial) (by trivial) c1
  obtain⟨_,t2,t3,t4⟩:=H (stO 30 (.tmp 2) (.const (.int .i64 0))) rfl;refine Eu S6 rfl rfl (H _ rfl).1 λa9 S9=>?_;clear H;generalize w2.setRow w.heap.size (Value.int .i64 0).cells=w4 at t2 t3 t4 ⊢;refine wp_ret ?_
  show Leaves Tryz.prog Tryz.f38 a9.tmps _ a9.defers .returning w4
  rw[S9.defers];refine fO (by simp) (fx _ w4) ((catch_idle _ w4).mono ?_);rintro e u' w5 ⟨rfl,rfl,rfl⟩;have r1:=att_results (F:=Tryz.f38) Tryz.results38 (a:=a9) (w:=w5) (b1:=w.heap.size) (by rw[S9.get 2 (by decide)];simp[upd]) t2;refine⟨_,r1,_,_,hr,t3,λb hb h1=>t4 _ h1,⟨_,t2⟩,?_⟩;trivial
 ·obtain⟨c1,c3⟩:=hR _ _ hr;have l1:w.heap.size<w2.heap.size:=(aP.1 c1).1
  show Leaves Tryz.prog Tryz.f38 a5.tmps _ a5.defers (.panicking ch) w2
  rw[S5.defers];refine fO (by simp) (fx _ w2) ?_;have e1:a5.tmps.getD 2 undef=.pointer (some ⟨w.heap.size,0,none⟩):=by rw[S5.get 2 (by decide)];simp[upd]
  rcases c3 with h|⟨x,h⟩|⟨s,h⟩
  ·cases h
  ·obtain rfl:ch=[{ v:=.iface 212 (.agg #[.int .i64 x]),recovered:=false }]:=dC h;refine (catch_row _ x [] w2 c1).mono ?_;rintro e u' w5 ⟨rfl,rfl,g1,g2,g4⟩;have r1:=att_results (F:=Tryz.f38) Tryz.results38 (a:=a5) (w:=w5) e1 g2;exact⟨_,r1,_,_,hr,g1,g4,⟨_,g2⟩,rfl⟩
  ·obtain rfl:ch=[{ v:=.iface 214 (.agg #[.string s]),recovered:=false }]:=dC h;refine (catch_text _ s [] w2 c1).mono ?_;rintro e u' w5 ⟨rfl,rfl,g1,g2,g4⟩;have r1:=att_results (F:=Tryz.f38) Tryz.results38 (a:=a5) (w:=w5) e1 g2;exact⟨_,r1,_,_,hr,g1,g4,⟨_,g2⟩,rfl⟩
 ·obtain⟨_,c3⟩:=hR _ _ hr;grind
def attP:AttP 38 212 214 (λx:Int=>.agg #[.int .i64 x]) 5:=⟨⟨_,func38,(by kernel_rfl),by kernel_rfl⟩,rfl,attempt_calls⟩
def attempt74 {Gl} (S:SP Gl) {g:FuncId} {fst f8:List T} {r:Res} {ev:Int} (h:CO Gl g (fst++f8) r) (ha:AttG 212 214 (λx:Int=>.agg #[.int .i64 x]) 5 r ev):CR Gl 38 [.fn g fst f8] (I ev):=attP.att S h ha
def attempt74_does {Gl:World->Prop} {g:FuncId} {fst f8:List T} {r:Res} {ev:Int} {c9 post:Env} {yd:Yd} (bd:En c9=true) (bt:Ie c9 post=true) (h:DO Gl yd g (fst++f8) c9 r post) (ha:AttG 212 214 (λx:Int=>.agg #[.int .i64 x]) 5 r ev):DO Gl yd 38 [.fn g fst f8] c9 (.ret (I ev)) post:=attP.does bd bt h ha
end Go.Vc.Zn
namespace Go.Vc.Zn.Pa
open Go Go.Proofs Go.Vc Go.RowKit Tryz
def k133:(Y 504).kind=.struct [(0,3)]:=by kernel_rfl
def k135:(Y 543).kind=.struct [(0,9)]:=by kernel_rfl
def z133:(Y 504).zero.toArray=#[.int .i64 0]:=by kernel_rfl
def z135:(Y 543).zero.toArray=#[.string (ByteArray.mk #[])]:=by kernel_rfl
def s133:(Y 504).size=1:=by kernel_rfl
def s135:(Y 543).size=1:=by kernel_rfl
def kn133:(Y 504).known=true:=by kernel_rfl
def kn135:(Y 543).known=true:=by kernel_rfl
def catch_idle (p:Value) (w:World):
  CallsD Tryz.prog 397 #[p] .returning w λe u' w'=>e=.returned (.tuple #[])/\u'=.returning/\w'=w:=by
 refine dF func397 rfl λc₀ cs hu=>?_;apply gI;apply eE;simp[wpOpsS,go_sem,recoverD,hu,Tryz.ntmps397,Exit.thenS];have S:=sl1 p .nilIface;refine eS (fN (cE (aR ?_)));generalize ({ tmps:=#[p]++(Array.replicate 13 undef).setIfInBounds 4 Value.nilIface,defers:=[] }:Act)=a at S ⊢;refine Ak S (d:=7) (v:=.bool true) (w':=w) rfl (by decide) rfl ?_ λa1 S1=>?_
 ·simp[execOp,S.eval,upd,Acd und20,ev_const,eqGuard]
 refine dM (by simp[S1.eval,upd]) (aR ?_);refine Ak S1 (d:=1) (v:=.nilIface) (w':=w) rfl (by decide) rfl ?_ λa2 S2=>?_
 ·simp[execOp,S1.eval,upd]
 cases c₀;simp_all[wpList,bodyPostS,results,Tryz.results397,Exit.inBlock,S2.defers]
theorem catch_row (b1:Nat) (x:Int) (t7:List PanicEntry) (w:World) (h1:w.heap[b1]?=some (.cells #[.int .i64 0] 30 (0,0))):
  CallsD Tryz.prog 397 #[.pointer (some ⟨b1,0,none⟩)] (.panicking ({ v:=.iface 504 (.agg #[.int .i64 x]),recovered:=false }::t7)) w λe u' w'=>
   e=.returned (.tuple #[])/\u'=.panicking ({ v:=.iface 504 (.agg #[.int .i64 x]),recovered:=true }::t7)/\Same w w'/\w'.heap[b1]?=some (.cells #[.int .i64 5] 30 (0,0))/\
   ∀b,b<w.heap.size->b≠b1->w'.heap[b]?=w.heap[b]?:=by
 have l1:b1<w.heap.size:=(aP.1 h1).1;refine dF func397 rfl λc₀ cs hu=>?_;apply gI;apply eE;simp[wpOpsS,go_sem,recoverD,hu,Tryz.ntmps397,Exit.thenS];have S:=sl1 (.pointer (some ⟨b1,0,none⟩)) (.iface 504 (.agg #[.int .i64 x]));refine eS (fN (cE (aR ?_)));generalize ({ tmps:=#[Value.pointer (some ⟨b1,0,none⟩)]++(Array.replicate 13 undef).setIfInBounds 4 (Value.iface 504 (.agg #[.int .i64 x])),defers:=[] }:Act)=a at S ⊢;refine Ak S (d:=7) (v:=.bool false) (w':=w) rfl (by decide) rfl ?_ λa1 S1=>?_
 ·simp[execOp,S.eval,upd,Pv und20,ev_const,eqGuard]
 refine dG (by simp[S1.eval,upd]) (cE (aR ?_));refine Ak S1 (d:=8) (v:=.tuple #[.agg #[.int .i64 x],.bool true]) (w':=w) rfl (by decide) rfl ?_ λa2 S2=>?_
 ·simp[execOp,S1.eval,upd,Pw (yok 504 kn133) ⟨_,k133⟩]
 refine Ak S2 (d:=9) (v:=.bool true) (w':=w) rfl (by decide) rfl ?_ λa3 S3=>?_
 ·simp[execOp,S2.eval,upd,Instr.extract]
 refine Ak S3 (d:=10) (v:=.agg #[.int .i64 x]) (w':=w) rfl (by decide) rfl ?_ λa7 S7=>?_
 ·simp[execOp,S3.eval,upd,Instr.extract]
 refine dM (by simp[S7.eval,upd]) (cE (aR ?_));have z7:=λ(o:Oper) (ho:o.op=Op.alloc 504)=>Jz (P:=Tryz.prog) (a:=a7) (w:=w) (o:=o) yok (t:=504) ho kn133;rw[z133]at z7;refine Ak S7 (d:=2) rfl (by decide) rfl (z7 _ rfl) λa8 S8=>?_;obtain⟨w1,il⟩:∃w1,w.alloc (.cells #[.int .i64 0] 504 (0,0))=w1:=⟨_,rfl⟩
 have dc:w.alloc (.cells #[.int .i64 0] 504)=w1:=il;rw[dc];have g1:Same w w1:=by grind[Gz]
 have g2:∀b,b<w.heap.size->w1.heap[b]?=w.heap[b]?:=λb hb=>by grind[Cm]
 have g3:w1.heap[w.heap.size]?=some (.cells #[.int .i64 0] 504 (0,0)):=by grind[World.alloc_heap_new]
 have H:=λ(o:Oper) (ho:o.op=Op.store 504 (.tmp 2) (.tmp 10))=>Ev (P:=Tryz.prog) (a:=a8) (w:=w1) (v:=.agg #[.int .i64 x]) (b:=w.heap.size) (o:=o)
  yok (t:=504) ho kn133 (by simp[S8.eval,upd]) (by simp[S8.eval,upd]) (by rw[s133];rfl) (by rw[s133];rfl) (by simp[Value.cells,Value.oneCell']) g3
 obtain⟨_,r2,r3,r4⟩:=H (stO 504 (.tmp 2) (.tmp 10)) rfl;refine Eu S8 rfl rfl (H _ rfl).1 λa9 S9=>?_;clear H;generalize w1.setRow w.heap.size (Value.agg #[.int .i64 x]).cells=w2 at r2 r3 r4 ⊢;refine aR ?_;have g5:w2.heap[b1]?=some (.cells #[.int .i64 0] 30 (0,0)):=by grind
 have H:=λ(o:Oper) (ho:o.op=Op.store 30 (.tmp 0) (.const (.int .i64 5)))=>Ev (P:=Tryz.prog) (a:=a9) (w:=w2) (v:=.int .i64 5) (b:=b1) (o:=o)
  yok (t:=30) ho Ku (by simp[S9.eval,upd]) rfl (by trivial) (by trivial) (by trivial) g5
 obtain⟨_,t2,t3,t4⟩:=H (stO 30 (.tmp 0) (.const (.int .i64 5))) rfl;refine Eu S9 rfl rfl (H _ rfl).1 λqt ka=>?_;clear H;generalize w2.setRow b1 (Value.int .i64 5).cells=w4 at t2 t3 t4 ⊢;have e3:∀b,b<w.heap.size->b≠b1->w4.heap[b]?=w.heap[b]?:=λb hb h1=>by grind
 have e4:Same w w4:=(g1.trans r3).trans t3;exact⟨ka.defers,_,rfl,.tuple #[],by simp[results,Tryz.results397],rfl,rfl,e4,t2,e3⟩
theorem catch_text (b1:Nat) (x:ByteArray) (t7:List PanicEntry) (w:World) (h1:w.heap[b1]?=some (.cells #[.int .i64 0] 30 (0,0))):
  CallsD Tryz.prog 397 #[.pointer (some ⟨b1,0,none⟩)] (.panicking ({ v:=.iface 543 (.agg #[.string x]),recovered:=false }::t7)) w λe u' w'=>
   e=.returned (.tuple #[])/\u'=.panicking ({ v:=.iface 543 (.agg #[.string x]),recovered:=true }::t7)/\Same w w'/\w'.heap[b1]?=some (.cells #[.int .i64 4] 30 (0,0))/\
   ∀b,b<w.heap.size->b≠b1->w'.heap[b]?=w.heap[b]?:=by
 have l1:b1<w.heap.size:=(aP.1 h1).1;refine dF func397 rfl λc₀ cs hu=>?_;apply gI;apply eE;simp[wpOpsS,go_sem,recoverD,hu,Tryz.ntmps397,Exit.thenS];have S:=sl1 (.pointer (some ⟨b1,0,none⟩)) (.iface 543 (.agg #[.string x]));refine eS (fN (cE (aR ?_)));generalize ({ tmps:=#[Value.pointer (some ⟨b1,0,none⟩)]++(Array.replicate 13 undef).setIfInBounds 4 (Value.iface 543 (.agg #[.string x])),defers:=[] }:Act)=a at S ⊢;refine Ak S (d:=7) (v:=.bool false) (w':=w) rfl (by decide) rfl ?_ λa1 S1=>?_
 ·simp[execOp,S.eval,upd,Pv und20,ev_const,eqGuard]
 refine dG (by simp[S1.eval,upd]) (cE (aR ?_));obtain⟨z,hz⟩:=Ace (Y:=Y) (t:=504) (t':=543) (xt:=20) (v:=.agg #[.string x]) (w:=w) yok ⟨_,k133⟩ (by decide);refine Ak S1 (d:=8) (v:=.tuple #[z,.bool false]) (w':=w) rfl (by decide) rfl ?_ λa2 S2=>?_
 ·simp[execOp,S1.eval,upd,hz]
 refine Ak S2 (d:=9) (v:=.bool false) (w':=w) rfl (by decide) rfl ?_ λa3 S3=>?_
 ·simp[execOp,S2.eval,upd,Instr.extract]
 refine Ak S3 (d:=10) (v:=z) (w':=w) rfl (by decide) rfl ?_ λa4 S4=>?_
 ·simp[execOp,S3.eval,upd,Instr.extract]
 refine dG (by simp[S4.eval,upd]) (cE (aR ?_));refine Ak S4 (d:=11) (v:=.tuple #[.agg #[.string x],.bool true]) (w':=w) rfl (by decide) rfl ?_ λa5 S5=>?_
 ·simp[execOp,S4.eval,upd,Pw (yok 543 kn135) ⟨_,k135⟩]
 refine Ak S5 (d:=12) (v:=.bool true) (w':=w) rfl (by decide) rfl ?_ λa6 S6=>?_
 ·simp[execOp,S5.eval,upd,Instr.extract]
 refine Ak S6 (d:=13) (v:=.agg #[.string x]) (w':=w) rfl (by decide) rfl ?_ λa7 S7=>?_
 ·simp[execOp,S6.eval,upd,Instr.extract]
 refine dM (by simp[S7.eval,upd]) (cE (aR ?_));have z7:=λ(o:Oper) (ho:o.op=Op.alloc 543)=>Jz (P:=Tryz.prog) (a:=a7) (w:=w) (o:=o) yok (t:=543) ho kn135;rw[z135]at z7;refine Ak S7 (d:=3) rfl (by decide) rfl (z7 _ rfl) λa8 S8=>?_;obtain⟨w1,il⟩:∃w1,w.alloc (.cells #[.string (ByteArray.mk #[])] 543 (0,0))=w1:=⟨_,rfl⟩
 have dc:w.alloc (.cells #[.string (ByteArray.mk #[])] 543)=w1:=il;rw[dc];have g1:Same w w1:=by grind[Gz]
 have g2:∀b,b<w.heap.size->w1.heap[b]?=w.heap[b]?:=λb hb=>by grind[Cm]
 have g3:w1.heap[w.heap.size]?=some (.cells #[.string (ByteArray.mk #[])] 543 (0,0)):=by grind[World.alloc_heap_new]
 have H:=λ(o:Oper) (ho:o.op=Op.store 543 (.tmp 3) (.tmp 13))=>Ev (P:=Tryz.prog) (a:=a8) (w:=w1) (v:=.agg #[.string x]) (b:=w.heap.size) (o:=o)
  yok (t:=543) ho kn135 (by simp[S8.eval,upd]) (by simp[S8.eval,upd]) (by rw[s135];rfl) (by rw[s135];rfl) (by simp[Value.cells,Value.oneCell']) g3
 obtain⟨_,r2,r3,r4⟩:=H (stO 543 (.tmp 3) (.tmp 13)) rfl;refine Eu S8 rfl rfl (H _ rfl).1 λa9 S9=>?_;clear H;generalize w1.setRow w.heap.size (Value.agg #[.string x]).cells=w2 at r2 r3 r4 ⊢;refine aR ?_;have g5:w2.heap[b1]?=some (.cells #[.int .i64 0] 30 (0,0)):=by grind
 have H:=λ(o:Oper) (ho:o.op=Op.store 30 (.tmp 0) (.const (.int .i64 4)))=>Ev (P:=Tryz.prog) (a:=a9) (w:=w2) (v:=.int .i64 4) (b:=b1) (o:=o)
  yok (t:=30) ho Ku (by simp[S9.eval,upd]) rfl (by trivial) (by trivial) (by trivial) g5
 obtain⟨_,t2,t3,t4⟩:=H (stO 30 (.tmp 0) (.const (.int .i64 4))) rfl;refine Eu S9 rfl rfl (H _ rfl).1 λqt ka=>?_;clear H;generalize w2.setRow b1 (Value.int .i64 4).cells=w4 at t2 t3 t4 ⊢;have e3:∀b,b<w.heap.size->b≠b1->w4.heap[b]?=w.heap[b]?:=λb hb h1=>by grind
 have e4:Same w w4:=(g1.trans r3).trans t3;exact⟨ka.defers,_,rfl,.tuple #[],by simp[results,Tryz.results397],rfl,rfl,e4,t2,e3⟩
theorem attempt_calls (g:FuncId) (hg:Ha Tryz.prog g) (us vs:Array Value) (w:World) (R:Ending->World->Prop) (m6:Calls Tryz.prog g (us++vs) (attW w) R) (hR:∀en w',R en w'->AttOKG 504 543 (λx:Int=>.agg #[.int .i64 x]) w w' en):
  Calls Tryz.prog 367 #[.func (.func g) us vs] w λen gr=>∃bc w',R bc w'/\Same w' gr/\(∀b,b<w'.heap.size->b≠w.heap.size->gr.heap[b]?=w'.heap[b]?)/\(∃x,gr.heap[w.heap.size]?=some (.cells #[x] 30 (0,0)))/\en=.returned (Uv 504 5 bc):=by
 go_enter_defers func367,Tryz.ntmps367
 have S:SL { tmps:=#[Value.func (Fn.func g) us vs,undef,undef,undef,undef,undef],defers:=[] } 6 (λt=>#[Value.func (Fn.func g) us vs].getD t undef) []:=by
  exact SL.start #[Value.func (Fn.func g) us vs] 6 (aH rfl)
 generalize ({ tmps:=#[Value.func (Fn.func g) us vs,undef,undef,undef,undef,undef],defers:=[] }:Act)=a at S ⊢;refine cE (aR ?_);have z7:=λ(o:Oper) (ho:o.op=Op.alloc 30)=>Jz (P:=Tryz.prog) (a:=a) (w:=w) (o:=o) yok (t:=30) ho Ku;rw[z26]at z7;refine Ak S (d:=2) rfl (by decide) rfl (z7 _ rfl) λa2 S2=>?_
 show Code.wp Tryz.prog _ _ a2 (attW w)
 generalize il:attW w=w1 at m6 ⊢;refine cE (aR ?_);refine Ak S2 (d:=3) (v:=.func (.func 397) #[] #[.pointer (some ⟨w.heap.size,0,none⟩)]) (w':=w1) rfl (by decide) rfl ?_ λa3 S3=>?_
 ·simp[execOp,S2.eval,upd,Instr.makeFunc]
 refine Abh S3 (d:={ target:=.fn (.func 397) #[.pointer (some ⟨w.heap.size,0,none⟩)],args:=#[] }) rfl rfl ?_ λa4 S4=>?_
 ·simp[execOp,resolve,S3.eval,upd,Deferred.ofValue]
 refine cE (aR ?_);refine Ak S4 (d:=4) (v:=.func (.func g) us vs) (w':=w1) rfl (by decide) rfl ?_ λa5 S5=>?_
 ·simp[execOp,S4.eval,upd]
 have fx:∀(p:Value) (w:World),(invoke (.fn (.func 397) #[p]) #[]).run Tryz.prog w=.ok (.enter 397 #[p]) w:=λp w=>by
  have h2:(Tryz.f397.name== "runtime.NumGoroutine")=false:=by trivial
  have h3:Tryz.f397.body.isNone=false:=by trivial
  have fm:Tryz.f397.name≠ "runtime.NumGoroutine":=by trivial
  have mv:Tryz.f397.body≠none:=by trivial
  simp[invoke,callFunc,func397,fm,mv]
 refine Xx S5 (d:=5) (g:=g) (vs:=us++vs) (R:=R) rfl (by decide) rfl ?_ m6 (λv w2 hr a6 S6=>?_) (λch w2 hr=>?_) (λw2 hr=>?_)
 ·have:=λ(o:Oper) (ho:o.op=Op.call { callee:=Callee.value (Operand.tmp 4),args:=#[],argTypes:=#[] })=>Rb (P:=Tryz.prog) (a:=a5) (w:=w1) (o:=o) ho (by simp[S5.eval,upd]) hg (us:=us) (cvs:=vs);grind
 ·obtain⟨c1,c3⟩:=hR _ _ hr;have l1:w.heap.size<w2.heap.size:=(aP.1 c1).1;refine cE (aR ?_);have H:=λ(o:Oper) (ho:o.op=Op.store 30 (.tmp 2) (.const (.int .i64 0)))=>Ev (P:=Tryz.prog) (a:=a6) (w:=w2) (v:=.int .i64 0) (b:=w.heap.size) (o:=o)
   yok (t:=30) ho Ku (by simp[S6.eval,upd]) rfl (by trivial) (by trivial) (by trivial) c1
  obtain⟨_,t2,t3,t4⟩:=H (stO 30 (.tmp 2) (.const (.int .i64 0))) rfl;refine Eu S6 rfl rfl (H _ rfl).1 λa9 S9=>?_;clear H;generalize w2.setRow w.heap.size (Value.int .i64 0).cells=w4 at t2 t3 t4 ⊢;refine wp_ret ?_
  show Leaves Tryz.prog Tryz.f367 a9.tmps _ a9.defers .returning w4
  rw[S9.defers];refine fO (by simp) (fx _ w4) ((catch_idle _ w4).mono ?_);rintro e u' w5 ⟨rfl,rfl,rfl⟩;have r1:=att_results (F:=Tryz.f367) Tryz.results367 (a:=a9) (w:=w5) (b1:=w.heap.size) (by rw[S9.get 2 (by decide)];simp[upd]) t2;refine⟨_,r1,_,_,hr,t3,λb hb h1=>t4 _ h1,⟨_,t2⟩,?_⟩;trivial
 ·obtain⟨c1,c3⟩:=hR _ _ hr;have l1:w.heap.size<w2.heap.size:=(aP.1 c1).1
  show Leaves Tryz.prog Tryz.f367 a5.tmps _ a5.defers (.panicking ch) w2
  rw[S5.defers];refine fO (by simp) (fx _ w2) ?_;have e1:a5.tmps.getD 2 undef=.pointer (some ⟨w.heap.size,0,none⟩):=by rw[S5.get 2 (by decide)];simp[upd]
  rcases c3 with h|⟨x,h⟩|⟨s,h⟩
  ·cases h
  ·obtain rfl:ch=[{ v:=.iface 504 (.agg #[.int .i64 x]),recovered:=false }]:=dC h;refine (catch_row _ x [] w2 c1).mono ?_;rintro e u' w5 ⟨rfl,rfl,g1,g2,g4⟩;have r1:=att_results (F:=Tryz.f367) Tryz.results367 (a:=a5) (w:=w5) e1 g2;exact⟨_,r1,_,_,hr,g1,g4,⟨_,g2⟩,rfl⟩
  ·obtain rfl:ch=[{ v:=.iface 543 (.agg #[.string s]),recovered:=false }]:=dC h;refine (catch_text _ s [] w2 c1).mono ?_;rintro e u' w5 ⟨rfl,rfl,g1,g2,g4⟩;have r1:=att_results (F:=Tryz.f367) Tryz.results367 (a:=a5) (w:=w5) e1 g2;exact⟨_,r1,_,_,hr,g1,g4,⟨_,g2⟩,rfl⟩
 ·obtain⟨_,c3⟩:=hR _ _ hr;grind
def attP:AttP 367 504 543 (λx:Int=>.agg #[.int .i64 x]) 5:=⟨⟨_,func367,(by kernel_rfl),by kernel_rfl⟩,rfl,attempt_calls⟩
def attempt74 {Gl} (S:SP Gl) {g:FuncId} {fst f8:List T} {r:Res} {ev:Int} (h:CO Gl g (fst++f8) r) (ha:AttG 504 543 (λx:Int=>.agg #[.int .i64 x]) 5 r ev):CR Gl 367 [.fn g fst f8] (I ev):=attP.att S h ha
end Go.Vc.Zn.Pa
