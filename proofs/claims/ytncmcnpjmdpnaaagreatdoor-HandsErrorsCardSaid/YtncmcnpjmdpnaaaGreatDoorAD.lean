/- A part of the proofs over layer 2 (hands): the program and the specification; no condition. -/
import Derived.Test.YtncmcnpjmdpnaaaGreatDoorAC
import Derived.KernelRfl
import Derived.Laws.StructEq
set_option linter.all false
set_option linter.unusedSimpArgs false
set_option linter.unusedVariables false
namespace Go.Vc
open Go Go.ChangeShapes Go.WideShapes Go.Deep Go.RowKit
theorem ArgC.slice0 {P:Program} {W:World} {t e:TypeId} {v:Value} {g:List C->Prop} (ht:P.underlying t=some (.slice e)) (he:FlatT P e g) (hpos:0<P.cellsOf e) (hp:Plain P e):
  ArgC P W t v fun c=>∃ n f,n<=maxLen/\(∀ i,i<n->g (f i))/\c=.s .n n f:=by
 intro H enc fuel x h
 rcases open_slice ht h with ⟨hv,rfl⟩|⟨a,len,cap,m,n,D,Pl,hv,hb,hl,hcm,hmm,hx,hel⟩
 ·obtain rfl:v=.slice none 0 0:=by simpa using hv
  refine ⟨⟨_,⟨0,fun _=>[],Nat.zero_le _,fun i hi=>absurd hi (Nat.not_lt_zero _),rfl⟩,0,fun vis _=>.nil _ _⟩,fun W' sp _ _=>?_⟩
  have:=shut_slice_nil (enc:=enc) (P:=P) (w:=W') (base:=0) (spare:=sp) (held:=true) ht
  obtain ⟨n,hn⟩:=this
  exact ⟨n,by simpa [Value.cells] using hn⟩
 ·obtain rfl:v=.slice (some a) len cap:=by simpa using hv
  have hm:m=cap:=by rw [hmm];rfl
  subst hm
  rcases Nat.eq_zero_or_pos m with h0|h0
  ·subst h0
   obtain rfl:len=0:=by omega
   refine ⟨⟨_,⟨0,fun _=>[],Nat.zero_le _,fun i hi=>absurd hi (Nat.not_lt_zero _),rfl⟩,0,fun vis _=>.e _ _ a⟩,fun W' sp _ _=>?_⟩
   subst hx
   cases hsb:sp a.block with
   |true=>
    obtain ⟨k,hk⟩:=shut_slice_whole_cells (enc:=enc) (P:=P) (w:=W') (base:=0) (spare:=sp) (held:=true) (t:=t) (e:=e) (a:=a) (len:=0) (cap:=0) ht hb (Nat.le_refl _) hcm hsb D Pl (fun i hi=>absurd hi (Nat.not_lt_zero _))
    exact ⟨k,by simpa using hk⟩
   |false=>
    obtain ⟨k,hk⟩:=shut_slice_cells (enc:=enc) (P:=P) (w:=W') (base:=0) (spare:=sp) (held:=true) (t:=t) (e:=e) (a:=a) (len:=0) (cap:=0) ht hb (Nat.le_refl _) hcm hsb D Pl (fun i hi=>absurd hi (Nat.not_lt_zero _))
    exact ⟨k,by simpa using hk⟩
  ·obtain ⟨b,off,spot⟩:=a
   have hfst:∃ c0,W.cell? (⟨b,off,spot⟩:Addr)=some c0:=by
    obtain ⟨cs',h1,_⟩:=hel 0 h0
    obtain ⟨_,hlen,hcell⟩:=World.cells?_some h1
    have:=hcell 0 hpos
    rw [Nat.zero_mul] at this
    refine ⟨cs'[0]'(by omega),?_⟩
    rw [<-List.getElem?_eq_getElem]
    simpa [Addr.add] using this
   obtain ⟨c0,hc0⟩:=hfst
   have hs:spot=none:=World.cell?_spot hc0
   have hblk:b<W.heap.size:=World.block_lt_of_cell? W _ hc0
   subst hs
   have hcells:∀ i,i<m->∃ q:List C×List Value,g q.1/\(∀ vis w',RepL vis w' q.1 q.2)/\q.2.length=P.cellsOf e/\∀ j,j<P.cellsOf e->W.cell? ⟨b,off+i*P.cellsOf e+j,none⟩=q.2[j]?:=by
    intro i hi
    obtain ⟨cs',h1,h2⟩:=hel i hi
    obtain ⟨_,hlen,hcell⟩:=World.cells?_some h1
    obtain ⟨xs,hg,hr⟩:=he H enc W 0 all true n cs' _ h2
    refine ⟨(xs,cs'),hg,hr,hlen,fun j hj=>?_⟩
    have:=hcell j hj
    rw [add_add,add_plain] at this
    rw [Nat.add_assoc]
    exact this
   obtain ⟨q,hq⟩:=choose_lt (α:=List C×List Value) hcells
   refine ⟨⟨_,⟨len,fun i=>(q i).1,by omega,fun i hi=>(hq i (by omega)).1,rfl⟩,off+len*P.cellsOf e,fun vis hvis=>?_⟩,fun W' sp hB hsp=>?_⟩
   ·refine .s _ _ _ b off m (P.cellsOf e) (fun i j=>((q i).2[j]?).getD undef) hl hcm (fun i hi=>?_) (hvis b hblk) (fun i j c hi hc=>?_) fun i j c hi hc=>?_
    ·obtain ⟨_,h2,h3,_⟩:=hq i (by omega)
     have:=(h2 vis W).1
     omega
    ·obtain ⟨_,h2,h3,h4⟩:=hq i (by omega)
     have hlt:j<(q i).1.length:=(List.getElem?_eq_some_iff.1 hc).1
     have hj:j<(q i).2.length:=by rw [<-(h2 vis W).1];exact hlt
     rw [h4 j (by omega),List.getElem?_eq_getElem hj]
     rfl
    ·obtain ⟨_,h2,h3,h4⟩:=hq i (by omega)
     have hlt:j<(q i).1.length:=(List.getElem?_eq_some_iff.1 hc).1
     have hj:j<(q i).2.length:=by rw [<-(h2 vis W).1];exact hlt
     have:=(h2 vis W).2 j c _ hc (List.getElem?_eq_getElem hj)
     rw [List.getElem?_eq_getElem hj]
     exact this
   ·have hel':∀ i,i<m->∃ cs n,W'.cells? 0 ((⟨b,off,none⟩:Addr).add (i*P.cellsOf e)) (P.cellsOf e)=some cs/\DataW.trod enc P W' 0 sp true n e cs=some (D i,Pl i):=by
     intro i hi
     obtain ⟨cs',h1,h2⟩:=hel i hi
     refine ⟨cs',n,World.cells?_carry h1 fun p hp=>?_,again_plain hp h2 hB⟩
     obtain ⟨j,_,rfl⟩:=MemPlace.mem_row.1 hp
     refine sameAt_below hB ?_
     show (Addr.add _ _).block<_
     unfold Addr.add
     split<;>exact hblk
    subst hx
    have hsb:sp b=true:=by
     have:(MemPlace.cell b off)∈(MemPlace.row (⟨b,off,none⟩:Addr) (m*P.cellsOf e)++(List.range m).flatMap Pl):=by
      refine List.mem_append_left _ (MemPlace.mem_row.2 ⟨0,Nat.mul_pos h0 hpos,rfl⟩)
     exact hsp _ this
    exact shut_slice_whole_cells ht hb hl hcm hsb D Pl hel'
end Go.Vc
namespace Go.Vc
open Go Go.RowKit
def kindOf:TypeDesc->K
 | .int k=>.int k
 | .bool=>.bool
 | .string=>.str
 | .slice e=>.slice e
 | .struct fs=>.struct (fs.toList.map fun f=>(f.offset,f.type))
 | .array n e=>.arr n e
 | .map k e=>.map k e
 | .interface _=>.iface
 | .func _ _ _=>.func
 |_=>.other
def fieldOK (P:Program) (f:Field):Bool:=
 match P.info? f.type with
 |some i=>!(i.size.beq 0)
 |none=>false
def sizeOK (P:Program) (d:TypeDesc) (n:Nat):Bool:=
 match d with
 | .struct fs=>fs.toList.all (fieldOK P)
 | .array _ _=>true
 |_=>n.beq 1
def zeroOK (d:TypeDesc) (z:Value):Bool:=
 match d,z with
 | .struct _,.agg _=>true
 | .array _ _,.agg _=>true
 | .struct _,_=>false
 | .array _ _,_=>false
 |_,z=>z.oneCell'
def noTy:Ty:={ kind:=.none,size:=1,bytes:=8,zero:=[] }
def tyOf (P:Program) (t:TypeId):Ty:=
 match P.underlying t,P.info? t with
 |some d,some i=>match i.zero with
  |some z=>bif sizeOK P d i.size&&zeroOK d z&&z.cells.toList.length.beq i.size then { kind:=kindOf d,size:=i.size,bytes:=i.bytes,zero:=z.cells.toList } else noTy
  |none=>noTy
 |_,_=>noTy
theorem tyOf_ok {P:Program} (t:TypeId) (h:(tyOf P t).known=true):TyOK P t (tyOf P t):=by
 unfold tyOf at h ⊢
 split at h
 ·rename_i d i hd hi
  split at h
  ·rename_i z hz
   cases hb:(sizeOK P d i.size&&zeroOK d z&&z.cells.toList.length.beq i.size) with
   |false=>rw [hb] at h;simp [noTy,Ty.known] at h
   |true=>
    obtain ⟨h0,h2⟩:=and_true hb
    obtain ⟨h1,h1z⟩:=and_true h0
    have h2:=Nat.eq_of_beq_eq_true h2
    simp only [hz,hb,cond_true]
    refine ⟨d,i,z,hd,hi,rfl,rfl,hz,rfl,?_,?_,h2,fun h=>(by cases h),?_,fun name f h=>(by cases h)⟩
    ·dsimp only
     cases d<;>simp only [kindOf,KOK]
     ·rename_i fs
      refine ⟨fs,rfl,rfl,fun f hf=>?_⟩
      have:=List.all_eq_true.1 h1 f hf
      unfold fieldOK at this
      split at this
      ·rename_i i' hi'
       exact ⟨i',hi',fun h0=>by rw [h0] at this;cases this⟩
      ·cases this
     all_goals first|exact ⟨_,rfl⟩|exact ⟨_,_,_,rfl⟩
    ·intro hag
     cases d<;>simp only [Ty.agg,kindOf,Option.some.injEq,reduceCtorEq] at hag<;>exact Nat.eq_of_beq_eq_true h1
    ·intro ag hag
     cases d<;>simp only [Ty.agg,kindOf,Option.some.injEq,reduceCtorEq] at hag<;>subst hag
     case struct fs=>
      cases z with
      |agg cs=>exact ⟨cs,rfl⟩
      |_=>simp [zeroOK] at h1z
     case array n e=>
      cases z with
      |agg cs=>exact ⟨cs,rfl⟩
      |_=>simp [zeroOK] at h1z
     all_goals (simpa [zeroOK] using h1z)
  ·simp [noTy,Ty.known] at h
 ·simp [noTy,Ty.known] at h
def ofTab:List (TypeId×Ty)->TypeId->Ty
 | [],_=>noTy
 |(u,y)::r,t=>bif u.beq t then y else ofTab r t
def Ty.plain (y:Ty):Ty:={ y with eqi:=false,meth:=[] }
def allPlain (P:Program):List (TypeId×Ty)->List (TypeId×Ty)
 | []=>[]
 |(t,_)::r=>(t,tyOf P t)::allPlain P r
def plainTab:List (TypeId×Ty)->List (TypeId×Ty)
 | []=>[]
 |(t,y)::r=>(t,y.plain)::plainTab r
def isPtr:TypeDesc->Bool
 | .pointer _=>true
 |_=>false
def methOf (P:Program) (t:TypeId) (name:String):Option FuncId:=
 match P.info? t,P.underlying t with
 |some i,some d=>bif isPtr d then none else match i.methods.find? (fun m=>m.name==name) with
  |some m=>match m.path.toList,m.func with
   | [],some (f,false)=>some f
   |_,_=>none
  |none=>none
 |_,_=>none
theorem methOf_run {P:Program} {t:TypeId} {name:String} {f:FuncId} (h:methOf P t name=some f) (k:Nat) (v:Value) (w:World):(method (k+1) t v name).run P w=.ok (f,v) w:=by
 unfold methOf at h
 split at h
 ·rename_i i d hi hd
  cases hp0:isPtr d with
  |true=>rw [hp0] at h;cases h
  |false=>
   rw [hp0,cond_false] at h
   split at h
   ·rename_i m hm
    split at h
    ·rename_i f' hp hf
     obtain rfl:=Option.some.inj h
     have hu:=run_underlying (w:=w) hd
     unfold method
     cases d<;>first|(cases hp0;done)|simp [typeInfo,hi,hm,hp,hf,follow,receiverAt,hu,Place.get]
    ·cases h
   ·cases h
 ·cases h
def methTab (P:Program) (tab:List (TypeId×Ty)):Bool:=tab.all fun p=>p.2.meth.all fun q=>methOf P p.1 q.1==some q.2
theorem methG_mem {l:List (String×FuncId)} {name:String} {f:FuncId} (h:methG l name=some f):(name,f)∈l:=by
 induction l with
 |nil=>cases h
 |cons p l ih=>
  obtain ⟨s,g⟩:=p
  unfold methG at h
  cases hs:s==name with
  |true=>
   rw [hs] at h
   simp only [cond_true,Option.some.injEq] at h
   have:s=name:=by simpa using hs
   rw [h,this];exact List.mem_cons_self
  |false=>rw [hs] at h;exact List.mem_cons_of_mem _ (ih h)
theorem methTab_spec {P:Program} {tab:List (TypeId×Ty)} (h:methTab P tab=true):∀ p∈tab,∀ name f,methG p.2.meth name=some f->∀ (v:Value) (w:World),(method (P.types.size+Made.depth) p.1 v name).run P w=.ok (f,v) w:=by
 intro p hp name f hg v w
 have h1:=List.all_eq_true.1 (List.all_eq_true.1 h p hp) _ (methG_mem hg)
 have h2:methOf P p.1 name=some f:=by simpa using h1
 exact methOf_run h2 (P.types.size+99) v w
theorem TyOK.eqi {P:Program} {t:TypeId} {y:Ty} (h:TyOK P t y.plain) (hq:y.eqi=true->EqI P t y.size) (hm:∀ name f,methG y.meth name=some f->∀ (v:Value) (w:World),(method (P.types.size+Made.depth) t v name).run P w=.ok (f,v) w):TyOK P t y:=by
 obtain ⟨d,i,z,h1,h2,h3,h4,h5,h6,h7,h8,h9,_,h10,_⟩:=h
 exact ⟨d,i,z,h1,h2,h3,h4,h5,h6,h7,h8,h9,hq,h10,hm⟩
theorem yok_of {P:Program}:∀ (tab:List (TypeId×Ty)),plainTab tab=allPlain P tab->(∀ p∈tab,p.2.eqi=true->EqI P p.1 p.2.size)->(∀ p∈tab,∀ name f,methG p.2.meth name=some f->∀ (v:Value) (w:World),(method (P.types.size+Made.depth) p.1 v name).run P w=.ok (f,v) w)->YOK P (ofTab tab):=by
 intro tab
 induction tab with
 |nil=>intro _ _ _ t h;simp [ofTab,noTy,Ty.known] at h
 |cons p r ih=>
  obtain ⟨u,y⟩:=p
  intro h hq hm t ht
  simp only [plainTab,allPlain,List.cons.injEq,Prod.mk.injEq,true_and] at h
  unfold ofTab at ht ⊢
  cases hu:u.beq t with
  |false=>
   simp only [hu,cond_false] at ht ⊢
   exact ih h.2 (fun p hp=>hq p (List.mem_cons_of_mem _ hp)) (fun p hp=>hm p (List.mem_cons_of_mem _ hp)) t ht
  |true=>
   have hut:=Nat.eq_of_beq_eq_true hu
   subst hut
   simp only [hu,cond_true] at ht ⊢
   refine TyOK.eqi ?_ (hq (u,y) List.mem_cons_self) (hm (u,y) List.mem_cons_self)
   rw [h.1]
   refine tyOf_ok u ?_
   rw [<-h.1]
   exact ht
end Go.Vc
namespace Go.Vc
open Go Go.RowKit
section
variable (P:Program)
def flatF (g:TypeId->Option Nat):List Field->Nat->Option Nat
 | [],off=>some off
 |f::r,off=>bif (f.name != "_")&&f.offset.beq off then match g f.type with
   |some n=>flatF g r (off+n)
   |none=>none
  else none
def flatN:Nat->TypeId->Option Nat
 |0,_=>none
 |d+1,t=>match P.underlying t,P.info? t with
  |some (.int .i64),some i=>bif i.size.beq 1 then some 1 else none
  |some (.struct fs),some i=>bif P.stoodInHeld t then none else match flatF (flatN d) fs.toList 0 with
    |some n=>bif i.size.beq n then some n else none
    |none=>none
  |_,_=>none
end
def ints (l:List Int):List Value:=l.map (Value.int .i64)
theorem eqL_append:∀ {a b c d:List Int},a.length=b.length->eqL (a++c) (b++d)=(eqL a b&&eqL c d):=by
 intro a
 induction a with
 |nil=>
  intro b c d h
  cases b with
  |nil=>rfl
  |cons x b=>simp at h
 |cons x a ih=>
  intro b c d h
  cases b with
  |nil=>simp at h
  |cons y b=>
   simp only [List.cons_append,eqL]
   rw [ih (by simpa using h),Bool.and_assoc]
variable {P:Program}
theorem flatF_le {g:TypeId->Option Nat}:∀ {fs:List Field} {off n:Nat},flatF g fs off=some n->off<=n:=by
 intro fs
 induction fs with
 |nil=>intro off n h;simp only [flatF,Option.some.injEq] at h;omega
 |cons f r ih=>
  intro off n h
  unfold flatF at h
  obtain ⟨_,h⟩:=option_bif h
  split at h
  ·have:=ih h;omega
  ·cases h
theorem seg_split (l:List Int) (off m n:Nat) (h1:off+m<=n):(l.drop off).take (n - off)=(l.drop off).take m++(l.drop (off+m)).take (n - (off+m)):=by
 rw [<-List.drop_drop]
 have:n - off=m+(n - (off+m)):=by omega
 rw [this,List.take_add]
def FlatAt (P:Program) (w:World) (d:Nat) (t:TypeId) (n:Nat):Prop:=
 ∀ (l m:List Int) (off:Nat),off+n<=l.length->off+n<=m.length->
  ∃ x y,(part t (ints l).toArray off).run P w=.ok x w/\(part t (ints m).toArray off).run P w=.ok y w/\∀ e,(Op.equalIn (d+e) t x y).run P w=.ok (eqL ((l.drop off).take n) ((m.drop off).take n)) w
theorem flatF_run (w:World) (d e:Nat) (l m:List Int) {g:TypeId->Option Nat} (hg:∀ t n,g t=some n->FlatAt P w d t n):∀ {fs:List Field} {off n:Nat},flatF g fs off=some n->n<=l.length->n<=m.length->
  (Op.eqFields (d+e) (ints l).toArray (ints m).toArray fs).run P w=.ok (eqL ((l.drop off).take (n - off)) ((m.drop off).take (n - off))) w:=by
 intro fs
 induction fs with
 |nil=>
  intro off n h _ _
  simp only [flatF,Option.some.injEq] at h
  subst h
  simp [Op.eqFields,eqL]
 |cons f r ih=>
  intro off n h hl hm
  unfold flatF at h
  obtain ⟨hb,h⟩:=option_bif h
  obtain ⟨hn,ho⟩:=and_true hb
  have ho:=Nat.eq_of_beq_eq_true ho
  have hn:f.name≠ "_":=by simpa using hn
  split at h
  ·rename_i k hk
   have hle:=flatF_le h
   obtain ⟨x,y,p1,p2,p3⟩:=hg f.type k hk l m off (by omega) (by omega)
   have:=ih h hl hm
   rw [seg_split l off k n hle,seg_split m off k n hle,eqL_append (by simp;omega)]
   simp only [Op.eqFields,hn,ne_eq,not_false_eq_true,if_true,Sem.run_bind,ho,p1,p2,p3 e,Result.andThen_ok]
   cases eqL ((l.drop off).take k) ((m.drop off).take k) with
   |false=>simp
   |true=>simpa using this
  ·cases h
theorem ints_get {l:List Int} {i:Nat} (h:i<l.length):(ints l).toArray[i]?=some (.int .i64 l[i]):=by
 simp [ints,List.getElem?_eq_getElem h]
theorem flat_at (w:World):∀ (d:Nat) (t:TypeId) (n:Nat),flatN P d t=some n->FlatAt P w d t n:=by
 intro d
 induction d with
 |zero=>intro t n h;cases h
 |succ d ih=>
  intro t n h l m off hl hm
  unfold flatN at h
  split at h
  ·rename_i i hu hi
   obtain ⟨hs,h⟩:=option_bif h
   simp only [Option.some.injEq] at h
   subst h
   refine ⟨.int .i64 (l[off]'(by omega)),.int .i64 (m[off]'(by omega)),?_,?_,fun e=>?_⟩
   ·simp [part,isAgg,run_underlying hu,ints_get (show off<l.length by omega)]
   ·simp [part,isAgg,run_underlying hu,ints_get (show off<m.length by omega)]
   ·rw [show d+1+e=(d+e)+1 by omega]
    have e1:(l.drop off).take 1=[l[off]'(by omega)]:=by
     rw [List.drop_eq_getElem_cons (by omega)];rfl
    have e2:(m.drop off).take 1=[m[off]'(by omega)]:=by
     rw [List.drop_eq_getElem_cons (by omega)];rfl
    rw [e1,e2]
    simp [Op.equalIn,run_underlying hu,eqL]
  ·rename_i fs i hu hi
   cases hst:P.stoodInHeld t with
   |true=>rw [hst] at h;cases h
   |false=>
    rw [hst] at h
    simp only [cond_false] at h
    split at h
    ·rename_i k hk
     obtain ⟨hs,h⟩:=option_bif h
     have hs:=Nat.eq_of_beq_eq_true hs
     simp only [Option.some.injEq] at h
     subst h
     have hsz:(sizeOf t).run P w=.ok k w:=by simp [sizeOf,typeInfo,hi,hs]
     have hex:∀ (q:List Int),(ints q).toArray.extract off (off+k)=(ints ((q.drop off).take k)).toArray:=by
      intro q
      apply Array.ext'
      simp [ints,Array.toList_extract,List.extract_eq_take_drop,List.map_take,List.map_drop]
     refine ⟨.agg (ints ((l.drop off).take k)).toArray,.agg (ints ((m.drop off).take k)).toArray,?_,?_,fun e=>?_⟩
     ·simp [part,isAgg,run_underlying hu,hsz,hex];simp [ints,List.map_take,List.map_drop]
     ·simp [part,isAgg,run_underlying hu,hsz,hex];simp [ints,List.map_take,List.map_drop]
     ·rw [show d+1+e=(d+e)+1 by omega]
      have hfs:P.fieldsOf t=fs:=by simp [Program.fieldsOf,hu]
      rw [run_equalIn_struct w (d+e) t _ _ (by rw [hfs];exact hu) hst,hfs]
      have:=flatF_run w d e ((l.drop off).take k) ((m.drop off).take k) ih hk (by simp;omega) (by simp;omega)
      rw [this]
      simp [List.take_take]
    ·cases h
  ·cases h
def CheckAt (P:Program) (w:World) (em:Bool) (d:Nat) (t:TypeId) (n:Nat):Prop:=
 ∀ (l:List Int) (off:Nat),off+n<=l.length->∃ x,(part t (ints l).toArray off).run P w=.ok x w/\∀ e,(Instr.checkKey em (d+e) t x).run P w=.ok () w
theorem checkF_run (w:World) (em:Bool) (d e:Nat) (l:List Int) {g:TypeId->Option Nat} (hg:∀ t n,g t=some n->CheckAt P w em d t n):∀ {fs:List Field} {off n:Nat},flatF g fs off=some n->n<=l.length->
  (forIn fs PUnit.unit fun (f:Field) (s:PUnit)=>(if f.name≠ "_" then (do
    let x <-part f.type (ints l).toArray f.offset
    Instr.checkKey em (d+e) f.type x
    pure (ForInStep.yield PUnit.unit)) else pure (ForInStep.yield PUnit.unit):Sem (ForInStep PUnit))).run P w=.ok PUnit.unit w:=by
 intro fs
 induction fs with
 |nil=>intro off n _ _;rfl
 |cons f r ih=>
  intro off n h hl
  unfold flatF at h
  obtain ⟨hb,h⟩:=option_bif h
  obtain ⟨hn,ho⟩:=and_true hb
  have ho:=Nat.eq_of_beq_eq_true ho
  have hn:f.name≠ "_":=by simpa using hn
  split at h
  ·rename_i k hk
   have hle:=flatF_le h
   obtain ⟨x,p1,p2⟩:=hg f.type k hk l off (by omega)
   have:=ih h hl
   simp only [List.forIn_cons,hn,ne_eq,not_false_eq_true,if_true,Sem.run_bind,ho,p1,p2 e,Result.andThen_ok,Sem.run_pure] at this ⊢
   exact this
  ·cases h
theorem check_at (w:World) (em:Bool):∀ (d:Nat) (t:TypeId) (n:Nat),flatN P d t=some n->CheckAt P w em d t n:=by
 intro d
 induction d with
 |zero=>intro t n h;cases h
 |succ d ih=>
  intro t n h l off hl
  unfold flatN at h
  split at h
  ·rename_i i hu hi
   obtain ⟨hs,h⟩:=option_bif h
   simp only [Option.some.injEq] at h
   subst h
   refine ⟨.int .i64 (l[off]'(by omega)),?_,fun e=>?_⟩
   ·simp [part,isAgg,run_underlying hu,ints_get (show off<l.length by omega)]
   ·rw [show d+1+e=(d+e)+1 by omega]
    unfold Instr.checkKey
    simp [run_underlying hu]
  ·rename_i fs i hu hi
   cases hst:P.stoodInHeld t with
   |true=>rw [hst] at h;cases h
   |false=>
    rw [hst] at h
    simp only [cond_false] at h
    split at h
    ·rename_i k hk
     obtain ⟨hs,h⟩:=option_bif h
     have hs:=Nat.eq_of_beq_eq_true hs
     simp only [Option.some.injEq] at h
     subst h
     have hsz:(sizeOf t).run P w=.ok k w:=by simp [sizeOf,typeInfo,hi,hs]
     have hex:∀ (q:List Int),(ints q).toArray.extract off (off+k)=(ints ((q.drop off).take k)).toArray:=by
      intro q
      apply Array.ext'
      simp [ints,Array.toList_extract,List.extract_eq_take_drop,List.map_take,List.map_drop]
     refine ⟨.agg (ints ((l.drop off).take k)).toArray,?_,fun e=>?_⟩
     ·simp [part,isAgg,run_underlying hu,hsz,hex];simp [ints,List.map_take,List.map_drop]
     ·rw [show d+1+e=(d+e)+1 by omega]
      have:=checkF_run w em d e ((l.drop off).take k) ih hk (by simp;omega)
      unfold Instr.checkKey
      simp only [Sem.run_bind,run_underlying hu,Result.andThen_ok]
      rw [<-Array.forIn_toList]
      rw [this]
      rfl
    ·cases h
  ·cases h
theorem eqi_of {t:TypeId} {n d:Nat} (h:flatN P d t=some n) (hd:d<=10000) (hst:(match P.underlying t with|some (.struct _)=>true|_=>false)=true) (hg:P.eqGuardType P.depth t=false):EqI P t n:=by
 intro xs ys hx hy w
 refine ⟨hg,?_⟩
 obtain ⟨x,y,p1,p2,p3⟩:=flat_at w d t n h xs ys 0 (by omega) (by omega)
 have h9:=p3 (10000 - d)
 rw [show d+(10000 - d)=10000 by omega] at h9
 have hsize:∃ fs i,P.underlying t=some (.struct fs)/\P.info? t=some i/\i.size=n:=by
  cases d with
  |zero=>cases h
  |succ d=>
   unfold flatN at h
   split at h
   ·rename_i hu hi;rw [hu] at hst;cases hst
   ·rename_i fs i hu hi
    cases hsi:P.stoodInHeld t with
    |true=>rw [hsi] at h;cases h
    |false=>
     rw [hsi] at h
     simp only [cond_false] at h
     split at h
     ·obtain ⟨hs,h⟩:=option_bif h
      have hs:=Nat.eq_of_beq_eq_true hs
      simp only [Option.some.injEq] at h
      exact ⟨fs,i,hu,hi,by omega⟩
     ·cases h
   ·cases h
 obtain ⟨fs,i,hu,hi,hs⟩:=hsize
 have hsz:(sizeOf t).run P w=.ok n w:=by simp [sizeOf,typeInfo,hi,hs]
 have pe:∀ (q:List Int),q.length=n->(part t (ints q).toArray 0).run P w=.ok (.agg (ints q).toArray) w:=by
  intro q hq
  have hl:(ints q).length=n:=by simp [ints,hq]
  have:(ints q).toArray.extract 0 n=(ints q).toArray:=by
   apply Array.ext'
   rw [Array.toList_extract,List.extract_eq_take_drop]
   simp only [Nat.sub_zero,List.drop_zero]
   rw [<-hl,List.take_length]
  simp only [part,Sem.run_bind,isAgg,run_underlying hu,Result.andThen_ok,Sem.run_pure,if_true,Nat.zero_add,hsz,this]
 rw [pe xs hx] at p1
 rw [pe ys hy] at p2
 simp only [Result.ok.injEq] at p1 p2
 rw [<-p1.1,<-p2.1] at h9
 have e1:(xs.drop 0).take n=xs:=by simp [<-hx]
 have e2:(ys.drop 0).take n=ys:=by simp [<-hy]
 rw [e1,e2] at h9
 refine ⟨h9,fun em=>?_⟩
 obtain ⟨x',c1,c2⟩:=check_at w em d t n h xs 0 (by omega)
 rw [pe xs hx] at c1
 simp only [Result.ok.injEq] at c1
 have c3:=c2 (10000 - d)
 rw [show d+(10000 - d)=10000 by omega,<-c1.1] at c3
 exact c3
def isStr:Option TypeDesc->Bool
 |some (.struct _)=>true
 |_=>false
def eqiOK (P:Program):List (TypeId×Ty)->Bool
 | []=>true
 |(t,y)::r=>(!y.eqi||(isStr (P.underlying t)&&!P.eqGuardType P.depth t&&(match flatN P 5 t with|some n=>n.beq y.size|none=>false)))&&eqiOK P r
theorem eqiOK_spec:∀ {tab:List (TypeId×Ty)},eqiOK P tab=true->∀ p∈tab,p.2.eqi=true->EqI P p.1 p.2.size:=by
 intro tab
 induction tab with
 |nil=>intro _ p hp;cases hp
 |cons q r ih=>
  obtain ⟨t,y⟩:=q
  intro h p hp hq
  obtain ⟨h1,h2⟩:=and_true h
  cases hp with
  |tail _ hp=>exact ih h2 p hp hq
  |head=>
   dsimp only at hq ⊢
   rw [hq] at h1
   simp only [Bool.not_true,Bool.false_or] at h1
   obtain ⟨h3,h4⟩:=and_true h1
   obtain ⟨h5,h6⟩:=and_true h3
   cases hf:flatN P 5 t with
   |none=>rw [hf] at h4;cases h4
   |some n=>
    rw [hf] at h4
    have h4:=Nat.eq_of_beq_eq_true h4
    rw [<-h4]
    refine eqi_of hf (by omega) ?_ (by simpa using h6)
    unfold isStr at h5
    split at h5
    ·rename_i hu;simp only [hu]
    ·cases h5
end Go.Vc
