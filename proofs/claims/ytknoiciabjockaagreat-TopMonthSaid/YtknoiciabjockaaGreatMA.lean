/- A part of the proofs over the layers: abstract values and conditions; no condition. -/
import Derived.WalkKit
import Derived.Below
import Derived.Orders
import Derived.IntWalk
import Derived.Great.BuildSlice
import Derived.Laws.AppendOwnNone
import Derived.Great.FillDense
import Derived.WalkSpells
import Derived.Laws.Tables
import Derived.Laws.BytesArg
set_option linter.all false
namespace Go
abbrev aA:=@Option.some.injEq
abbrev aC:=@List.mem_cons_self
abbrev aD:=@Prod.mk.injEq
abbrev aE:=@Bool.and_eq_true
abbrev aG:=@Nat.eq_of_beq_eq_true
abbrev aH:=@Nat.le_of_ble_eq_true
abbrev aI:=@Nat.le_refl
abbrev aJ:=@List.mem_append_left
abbrev aK:=@decide_eq_false_iff_not
abbrev aM:=@List.mem_append_right
abbrev aO:=@Go.run_underlying
abbrev aP:=@Array.getElem?_eq_some_iff
abbrev aQ:=@List.getElem?_eq_getElem
abbrev aS:=@List.all_eq_true
abbrev aU:=@List.mem_cons_of_mem
abbrev aV:=@Nat.not_lt_zero
abbrev aW:=@Array.getD_eq_getD_getElem?
abbrev aX:=@Nat.lt_of_lt_of_le
abbrev aY:=@Nat.mul_le_mul_right
abbrev aZ:=@List.mem_singleton
abbrev bA:=@cond_true
abbrev bD:=@Array.getElem?_toList
abbrev bF:=@Go.World.cell?_of_block
abbrev bG:=@if_pos
abbrev bH:=@Nat.zero_add
abbrev bI:=@if_neg
abbrev bJ:=@Nat.le_trans
abbrev bK:=@Go.Result.andThen_ok
abbrev bL:=@Nat.lt_or_ge
abbrev bM:=@List.mem_iff_getElem
abbrev bN:=@Go.heap_alloc_new
abbrev bO:=@Option.map_some
abbrev bQ:=@List.getElem?_map
abbrev bR:=@List.getElem?_cons_zero
abbrev bU:=@List.getD_eq_getElem?_getD
abbrev bV:=@Nat.zero_le
abbrev bX:=@List.eq_nil_of_length_eq_zero
abbrev bZ:=@List.cons_append
abbrev cA:=@List.getElem?_eq_some_iff
abbrev cC:=@cond_false
abbrev cD:=@congrArg
abbrev cF:=@Go.Sem.run_bind
abbrev cG:=@List.mem_of_getElem?
abbrev cH:=@List.nil_append
abbrev cP:=@List.mem_append
abbrev cU:=@List.length_append
abbrev cW:=@List.size_toArray
abbrev cY:=@Go.grownCap_le_maxLen
abbrev dA:=@List.length_nil
abbrev dD:=@Nat.add_mul
abbrev dL:=@List.mem_map
abbrev dO:=@List.append_nil
abbrev dX:=@Array.size_append
abbrev eA:=@Array.toList_append
abbrev eB:=@Nat.add_zero
abbrev eF:=@List.extract_eq_take_drop
abbrev eH:=@Go.setRow_heap
abbrev eJ:=@Go.grownCap_ge
abbrev eM:=@Array.length_toList
abbrev eO:=@Nat.add_sub_cancel_left
abbrev eV:=@if_true
abbrev eW:=@Go.setRow_other
abbrev fH:=@List.flatMap_cons
abbrev fJ:=@Array.toList_extract
abbrev fK:=@List.getElem?_append
abbrev fL:=@Go.size_zeroCells
abbrev fU:=@List.getElem?_take
abbrev fV:=@Nat.not_lt
abbrev fX:=@Nat.mul_one
abbrev fZ:=@List.ext_getElem?
abbrev gA:=@Go.run_append_nil
abbrev gB:=@Nat.zero_mul
abbrev gJ:=@List.singleton_append
abbrev gK:=@List.getElem?_eq_none
abbrev gM:=@Bool.not_true
abbrev gN:=@Nat.lt_irrefl
abbrev gR:=@Go.run_append_grow
abbrev gV:=@List.getElem?_drop
abbrev gW:=@Go.growslice_fits
abbrev gX:=@true_and
abbrev hS:=@Go.run_storeCells_at
abbrev hU:=@Go.Value.slice.injEq
abbrev iD:=@List.cons.inj
abbrev iE:=@List.all_cons
abbrev iK:=@Nat.sub_zero
abbrev iN:=@Go.run_build
end Go
namespace Go.Vc
open Go
inductive Tag where
 |n
 |t (k:Nat)
inductive C where
 |v (x:Value)
 |s (g:Tag) (n:Nat) (f:Nat->List C)
 |m (kn:Nat) (ag:Bool) (dom:List Int->Bool) (val:List Int->List C)
 |p (cs:List C)
 |i (t:TypeId) (ag:Bool) (cs:List C)
 |u
inductive D where
 |c (x:C)
 |agg (xs:List C)
 |rd (xs:List C)
inductive T where
 |d (x:D)
 |tup (xs:List D)
 |addr (t k:Nat)
 |fn (f:FuncId) (fst f8:List T)
 |may (b:Bool) (x:T)
 |any
 |tok (e:TypeId)
 |arr (id n:Nat)
 |elt (id i sz off:Nat)
 |mp (id:Nat)
 |it (id:Nat)
 |nx (b:Bool) (xs:List D)
 |yl (l:Nat)
 |ag (xs:List T)
 |tpl (xs:List T)
 |pt (x:T)
 |own (sz n:Nat) (f:Nat->List C)
 |tkd (el sz n:Nat) (f:Nat->List C)
 |arrc (fz:Bool) (sz n:Nat) (f:Nat->List C)
 |mapc (fz:Bool) (kn:Nat) (ag:Bool) (dom:List Int->Bool) (val:List Int->List C)
 |itc (s:ByteArray) (pos:Nat)
 |mitc (kn:Nat) (ag:Bool) (dom:List Int->Bool) (val:List Int->List C) (h:List (List Int)) (cur:Option (List Int))
 |tr (p:Nat)
 |arro (el sz n:Nat) (f:Nat->Nat×(Nat->List C)) (out:Option Nat)
instance:Inhabited C:=⟨.v undef⟩
instance:Inhabited D:=⟨.c default⟩
instance:Inhabited T:=⟨.any⟩
abbrev Ci (x:Int):C:=.v (.int .i64 x)
abbrev Cb (x:Bool):C:=.v (.bool x)
abbrev Cs (x:ByteArray):C:=.v (.string x)
abbrev I (x:Int):T:=.d (.c (Ci x))
abbrev B (b:Bool):T:=.d (.c (Cb b))
abbrev Str (x:ByteArray):T:=.d (.c (Cs x))
def nth {α:Type} [Inhabited α] (l:List α) (i:Nat):α:=l.getD i default
def C.l {α:Type} [Inhabited α] (enc:α->List C) (l:List α):C:=.s .n l.length λi=>enc (nth l i)
def C.lt {α:Type} [Inhabited α] (k:Nat) (enc:α->List C) (l:List α):C:=.s (.t k) l.length λi=>enc (nth l i)
abbrev L {α:Type} [Inhabited α] (enc:α->List C) (l:List α):T:=.d (.c (.l enc l))
abbrev Lt {α:Type} [Inhabited α] (k:Nat) (enc:α->List C) (l:List α):T:=.d (.c (.lt k enc l))
abbrev Env:=List (Nat×Nat×T)
abbrev FAR:Nat:=100000
abbrev BIG:Nat:=1000000
def Env.get:Env->Nat->Nat->T
 | [],_,_=>.any
 |(t,k,x)::e,a,b=>bif t.beq a&&k.beq b then x else Env.get e a b
def live:T:=.tup []
def Bx:T:=.d (.agg [])
def As (e:TypeId):T:=.tok e
def C.dem:C->C
 | .s _ n f=>.s .n n f
 |x=>x
def D.dem:D->D
 | .c x=>.c x.dem
 | .agg xs=>.agg (xs.map C.dem)
 | .rd xs=>.rd xs
def T.dem:T->T
 | .d x=>.d x.dem
 | .tup xs=>.tup (xs.map D.dem)
 |x=>x
def Zg (dom:List Int->Bool) (h:List (List Int)) (k:List Int):Prop:=(∀x∈h,dom x=true)/\h.Nodup/\dom k=true/\k ∉ h
def Vp (dom:List Int->Bool) (h:List (List Int)):Prop:=h.Nodup/\∀k,k∈h↔dom k=true
def Zh (kn:Nat) (k:List Int):D:=bif kn.beq 0 then .c (Ci (nth k 0)) else .agg (k.map λn=>Ci n)
def Zi (ag:Bool) (cs:List C):D:=bif ag then .agg (cs.map C.dem) else .c (nth cs 0).dem
def T.val:T->T
 | .may _ x=>x
 |x=>x
def T.ok:T->Bool
 | .may b _=>b
 |_=>true
def Nh:List Prop->Prop->Prop
 | [],q=>q
 |p::r,q=>p/\Nh r q
def Zj:List Prop->Prop->Prop
 | [],q=>q
 |p::r,q=>p->Zj r q
inductive M (α:Type) where
 |ret (a:α)
 |look (t k:Nat) (f:T->M α)
 |fail
def M.bind {α β:Type}:M α->(α->M β)->M β
 | .ret a,f=>f a
 | .look t k g,f=>.look t k λx=>(g x).bind f
 | .fail,_=>.fail
def M.run {α:Type} (g:Nat->Nat->T):M α->List (Nat×Nat)->Option (α×List (Nat×Nat))
 | .ret a,r=>some (a,r)
 | .look t k f,r=>(f (g t k)).run g ((t,k)::r)
 | .fail,_=>none
def T.bool?:T->Option Bool
 | .d (.c (.v (.bool b)))=>some b
 |_=>none
def T.int?:T->Option (IntKind×Int)
 | .d (.c (.v (.int k n)))=>some (k,n)
 |_=>none
def T.str?:T->Option ByteArray
 | .d (.c (.v (.string s)))=>some s
 |_=>none
def C.elems?:C->Option (Nat×(Nat->List C))
 | .s _ n f=>some (n,f)
 | .v (.slice none 0 0)=>some (0,λ_=>[])
 |_=>none
def T.elems?:T->Option (Nat×(Nat->List C))
 | .d (.c x)=>x.elems?
 |_=>none
def T.cells?:T->Option (List C)
 | .d (.c x)=>some [x]
 | .d (.agg xs)=>some (xs.map C.dem)
 |_=>none
def T.one:T->Bool
 | .d (.c _)=>true
 | .addr _ _=>true
 | .fn _ _ _=>true
 | .arr _ _=>true
 | .mp _=>true
 | .it _=>true
 | .yl _=>true
 |_=>false
def Adk:List C->Bool
 | []=>true
 | .v _::r=>Adk r
 |_::_=>false
def D.flat:D->Bool
 | .c (.v _)=>true
 | .agg xs=>Adk xs
 |_=>false
def Vq:List D->Bool
 | []=>true
 |x::r=>x.flat&&Vq r
inductive K where
 |none|int (k:IntKind)|bool|str
 |slice (e:TypeId)
 |struct (fs:List (Nat×TypeId))
 |arr (n:Nat) (e:TypeId)
 |map (k e:TypeId)
 |iface|func|ptr|other
structure Ty where
 kind:K
 size:Nat
 bytes:Nat
 zero:List Value
 eqi:Bool:=false
 meth:List (String×FuncId):=[]
def Ly:List (String×FuncId)->String->Option FuncId
 | [],_=>none
 |(s,f)::r,n=>bif s==n then some f else Ly r n
def Ty.agg (y:Ty):Option Bool:=match y.kind with| .struct _| .arr _ _=>some true| .none=>none|_=>some false
def Ty.known (y:Ty):Bool:=match y.kind with| .none=>false|_=>true
def Ty.fields (y:Ty):Option (List (Nat×TypeId)):=match y.kind with| .struct fs=>some fs|_=>none
def ev0:Operand->M T
 | .tmp t=>bif Nat.blt t FAR then .look 0 t .ret else .fail
 | .const v=>bif v.oneCell' then .ret (.d (.c (.v v))) else .fail
 | .func f=>.ret (.fn f [] [])
 | .global _=>.fail
abbrev Gv:=List Prop×Env
def Gv.add (p q:Gv):Gv:=(p.1++q.1,p.2++q.2)
def Vr (f:Nat->Nat×(Nat->List C)) (j:Nat):List C:=[.s .n (f j).1 (f j).2]
def Gw (x:T):M (C×Gv):=
 match x with
 | .d (.c c)=>.ret (c,[],[])
 | .arr id n=>.look 2 id λo=>match o with
  | .arrc true _ m f=>.ret (.s .n n f,[n=m],[])
  | .arrc false sz m f=>bif Nat.blt id FAR then .ret (.s .n n f,[n=m],[(2,id,.arrc true sz m f)]) else .fail
  | .arro _ _ m f none=>bif Nat.blt id FAR then .ret (.s .n n (Vr f),[n=m],[(2,id,.arrc true 1 m (Vr f))]) else .fail
  |_=>.fail
 | .mp id=>.look 2 id λo=>match o with
  | .mapc true kn ag dom val=>.ret (.m kn ag dom val,[],[])
  | .mapc false kn ag dom val=>bif Nat.blt id FAR then .ret (.m kn ag dom val,[],[(2,id,.mapc true kn ag dom val)]) else .fail
  |_=>.fail
 |_=>.fail
def Qn (id:Nat):Nat->Nat->M (List C×Gv)
 |0,_=>.ret ([],[],[])
 |n+1,k=>.look (id+3) k λx=>(Gw x).bind λp=>(Qn id n (k+1)).bind λq=>.ret (p.1::q.1,p.2.add q.2)
def Ni (id:Nat):Nat->Nat->M (List C)
 |0,_=>.ret []
 |n+1,k=>.look (id+3) k λx=>match x with
  | .d (.c c)=>(Ni id n (k+1)).bind λr=>.ret (c::r)
  |_=>.ret []
def Sn (id:Nat):Nat->Nat->M Bool
 |0,_=>.ret true
 |n+1,k=>.look (id+3) k λx=>match x with
  | .any=>.ret false
  |_=>Sn id n (k+1)
def Dt (id:Nat):Nat->List C->Env
 |_,[]=>[]
 |k,x::xs=>(id+3,k,.d (.c x))::Dt id (k+1) xs
def Ky (id:Nat):Nat->List T->Env
 |_,[]=>[]
 |k,x::xs=>(id+3,k,x.dem)::Ky id (k+1) xs
def Ef:List T->Bool
 | []=>true
 |x::r=>x.one&&Ef r
structure Out where
 vc:List Prop
 hyp:List Prop
 val:T
 wr:Env
def Az (x:T):M Out:=.ret ⟨[],[],x,[]⟩
def Di (vc:Prop) (x:T):M Out:=.ret ⟨[vc],[],x,[]⟩
def inRange (k:IntKind) (n:Int):Prop:=k.min<=n/\n<=k.max
def Adl (op:BinOp) (x y:T):M Out:=
 match x,y with
 | .d (.c (.v (.int k a))),.d (.c (.v (.int k' b)))=>
  bif !(k==k') then .fail else
  match op with
  | .add=>Di (inRange k (a+b)) (.d (.c (.v (.int k (a+b)))))
  | .sub=>Di (inRange k (a - b)) (.d (.c (.v (.int k (a - b)))))
  | .mul=>Di (inRange k (a*b)) (.d (.c (.v (.int k (a*b)))))
  | .eql=>Az (B (a==b))
  | .neq=>Az (B (a != b))
  | .lss=>Az (B (decide (a<b)))
  | .leq=>Az (B (decide (a<=b)))
  | .gtr=>Az (B (decide (b<a)))
  | .geq=>Az (B (decide (b<=a)))
  | .quo=>Di (b≠0/\inRange k (a.tdiv b)) (.d (.c (.v (.int k (a.tdiv b)))))
  | .rem=>Di (b≠0) (.d (.c (.v (.int k (a.tmod b)))))
  |_=>.fail
 | .d (.c (.v (.string a))),.d (.c (.v (.string b)))=>
  match op with
  | .eql=>Az (B (a.toList==b.toList))
  | .neq=>Az (B (!(a.toList==b.toList)))
  | .add=>Di (((a.size+b.size:Nat):Int)<=IntKind.i64.max) (.d (.c (.v (.string (a++b)))))
  |_=>.fail
 |_,_=>.fail
def Hy:List C->Option (List Int)
 | []=>some []
 | .v (.int .i64 n)::r=>(Hy r).map λl=>n::l
 |_=>none
def eqL:List Int->List Int->Bool
 | [],[]=>true
 |a::r,b::s=>(a==b)&&eqL r s
 |_,_=>false
def Kz (y:Ty) (neg:Bool) (x z:T):M Out:=
 match x,z with
 | .d (.c (.v (.slice none 0 0))),.d (.c (.v (.slice none 0 0)))=>match y.kind with
  | .slice _=>Az (B (!neg))
  |_=>.fail
 | .d (.c (.s _ n _)),.d (.c (.v (.slice none 0 0)))=>match y.kind with
  | .slice _=>Di (0<n) (B neg)
  |_=>.fail
 | .d (.agg xs),.d (.agg zs)=>bif y.known&&y.eqi then match Hy xs,Hy zs with
   |some l,some m=>bif l.length.beq y.size&&m.length.beq y.size then Az (B (bif neg then !eqL l m else eqL l m)) else .fail
   |_,_=>.fail
  else .fail
 | .d (.c (.v (.bool a))),.d (.c (.v (.bool b)))=>match y.kind with
  | .bool=>Az (B (bif neg then !(a==b) else (a==b)))
  |_=>.fail
 | .fn _ _ _,.d (.c (.v .nilFunc))=>match y.kind with
  | .func=>Az (B neg)
  |_=>.fail
 | .d (.c (.v .nilFunc)),.d (.c (.v .nilFunc))=>match y.kind with
  | .func=>Az (B (!neg))
  |_=>.fail
 | .arr _ n,.d (.c (.v (.slice none 0 0)))=>match y.kind with
  | .slice _=>Di (0<n) (B neg)
  |_=>.fail
 | .addr _ _,.d (.c (.v (.pointer none)))=>match y.kind with
  | .ptr=>Az (B neg)
  |_=>.fail
 | .d (.c (.v (.pointer none))),.d (.c (.v (.pointer none)))=>match y.kind with
  | .ptr=>Az (B (!neg))
  |_=>.fail
 |_,_=>.fail
def isEq:BinOp->Option Bool
 | .eql=>some false
 | .neq=>some true
 |_=>none
def Adn (y:Ty) (op:BinOp) (x z:T):M Out:=
 match isEq op,x with
 |some neg,.d (.agg _)=>Kz y neg x z
 |some neg,.d (.c (.s _ _ _))=>Kz y neg x z
 |some neg,.d (.c (.v (.slice _ _ _)))=>Kz y neg x z
 |some neg,.d (.c (.v (.bool _)))=>Kz y neg x z
 |some neg,.fn _ _ _=>Kz y neg x z
 |some neg,.d (.c (.v .nilFunc))=>Kz y neg x z
 |some neg,.arr _ _=>Kz y neg x z
 |some neg,.addr _ _=>Kz y neg x z
 |some neg,.d (.c (.v (.pointer _)))=>Kz y neg x z
 |_,_=>Adl op x z
def T.asRd:T->T
 | .d (.c (.p cs))=>.d (.rd cs)
 |x=>x
def Zk:List C->M Out
 |c::_=>Az (.d (.c c.dem))
 | []=>.fail
def So (y:Ty) (a:T):M Out:=
 match a,y.agg with
 | .addr id k,some true=>(Qn id y.size k).bind λp=>.ret ⟨p.2.1,[],.d (.agg (p.1.map C.dem)),p.2.2⟩
 | .addr id k,some false=>.look (id+3) k λx=>bif x.one then Az x else .fail
 | .elt id i sz off,some true=>.look 2 id λo=>match o with
  | .arrc _ cn n f=>bif sz.beq cn&&off.beq 0&&sz.beq y.size&&(f i).length.beq sz then Di (i<n) (.d (.agg ((f i).map C.dem)))
   else bif sz.beq cn&&Nat.ble (off+y.size) (f i).length then Di (i<n) (.d (.agg ((((f i).drop off).take y.size).map C.dem))) else .fail
  |_=>.fail
 | .elt id i sz off,some false=>.look 2 id λo=>match o with
  | .arrc _ cn n f=>bif sz.beq cn then match (f i).drop off with
    |c::_=>Di (i<n) (.d (.c c.dem))
    | []=>.fail
   else .fail
  |_=>.fail
 | .d (.rd cs),some true=>bif Nat.ble y.size cs.length then Az (.d (.agg ((cs.take y.size).map C.dem))) else .fail
 | .d (.rd cs),some false=>Zk cs
 |_,_=>.fail
def Asm:Value->Bool
 | .nilFunc=>true
 |_=>false
def allF (y:Ty):Bool:=Nat.blt 0 y.zero.length&&y.zero.all Asm
def Ow (id:Nat):Nat->Nat->M (List T)
 |0,_=>.ret []
 |n+1,k=>.look (id+3) k λx=>bif x.one then (Ow id n (k+1)).bind λr=>.ret (x::r) else .fail
def Ado (y:Ty) (a:T):M Out:=
 match a,y.agg with
 | .addr id k,some true=>bif allF y then (Ow id y.size k).bind λxs=>Az (.ag xs) else So y (.addr id k)
 |_,_=>So y a
def Nj (g:Option Prop) (x:T):List Prop:=
 match x with
 | .may b _=>match g with
  |none=>[b=true]
  |some p=>[p->b=true]
 |_=>[]
def Adp (c a b:T):M Out:=
 match c.val.bool?,a.val.bool?,b.val.bool? with
 |some c',some a',some b'=>.ret ⟨Nj none c++Nj (some (c'=true)) a++Nj (some (c'=false)) b,[],B (bif c' then a' else b'),[]⟩
 |_,_,_=>.fail
def Hz (dst:Option Tmp) (f:Nat->Out):M Out:=
 match dst with
 |some d=>.look 2 d λx=>match x with
  | .any=>bif Nat.blt d FAR then .ret (f d) else .fail
  |_=>.fail
 |none=>.fail
def Adq (dst:Option Tmp) (cs:List C):M Out:=Hz dst λd=>⟨[],[],.addr d 0,(2,d,live)::Dt d 0 cs⟩
def Adr (y:Ty) (dst:Option Tmp) (x:T):M Out:=
 match y.agg with
 |some true=>match x.cells? with
  |some cs=>bif cs.length.beq y.size then Adq dst cs else .fail
  |none=>match x with
   | .ag xs=>bif xs.length.beq y.size&&Ef xs then Hz dst λd=>⟨[],[],.addr d 0,(2,d,live)::Ky d 0 xs⟩ else .fail
   |_=>.fail
 |some false=>bif x.one then Hz dst λd=>⟨[],[],.addr d 0,[(2,d,live),(d+3,0,x)]⟩ else .fail
 |none=>.fail
def Kg (f:Nat->Nat×(Nat->List C)) (i:Nat) (x:Nat×(Nat->List C)) (j:Nat):Nat×(Nat->List C):=bif j.beq i then x else f j
def Ads (id i el sz n:Nat) (f:Nat->Nat×(Nat->List C)) (i0:Nat) (x:T):M Out:=
 match x with
 | .d (.c (.s (.t k) m g))=>.look 1 k λy=>match y with
  | .tok bz=>bif el.beq bz&&Nat.blt k FAR then .ret ⟨[i=i0,i<n],[],.any,[(2,id,.arro el sz n (Kg f i (m,g)) none),(1,k,Bx)]⟩ else .fail
  |_=>.fail
 |_=>.fail
def updC (b:Bool) (cs as:List C):List C:=
 match as,cs with
 | [.v (.int .i64 x)],[.v (.int .i64 y)]=>[.v (.int .i64 (bif b then y else x))]
 |as,cs=>bif b then cs else as
def Es (f:Nat->List C) (i:Nat) (cs:List C) (j:Nat):List C:=updC (j.beq i) cs (f j)
def Sp (off:Nat) (cs as:List C):List C:=as.take off++(cs++as.drop (off+cs.length))
def Adu (Y:TypeId->Ty) (y:Ty) (a x:T):M Out:=
 match a,y.agg with
 | .addr id k,some true=>match x.cells? with
  |some cs=>(Sn id y.size k).bind λb=>bif b&&cs.length.beq y.size&&Nat.blt 0 y.size then .ret ⟨[],[],.any,Dt id k cs⟩ else .fail
  |none=>match x with
   | .ag xs=>(Sn id y.size k).bind λb=>bif b&&xs.length.beq y.size&&Nat.blt 0 y.size&&Ef xs then .ret ⟨[],[],.any,Ky id k xs⟩ else .fail
   |_=>.fail
 | .addr id k,some false=>(Sn id 1 k).bind λb=>bif b&&x.one then .ret ⟨[],[],.any,[(id+3,k,x)]⟩ else .fail
 | .elt id i sz off,some _=>match x.cells? with
  |some cs=>.look 2 id λo=>match o with
   | .arrc false cn n f=>bif sz.beq cn&&cs.length.beq y.size&&Nat.blt 0 y.size then (bif off.beq 0&&sz.beq y.size then .ret ⟨[i<n],[],.any,[(2,id,.arrc false sz n (Es f i (cs.map C.dem)))]⟩
    else bif Nat.ble (off+y.size) (f i).length then .ret ⟨[i<n],[],.any,[(2,id,.arrc false sz n (Es f i (Sp off (cs.map C.dem) (f i))))]⟩ else .fail) else .fail
   | .arro el cn n f (some i0)=>match y.agg with
    |some false=>bif sz.beq 1&&cn.beq (Y el).size&&off.beq 0 then Ads id i el cn n f i0 x else .fail
    |_=>.fail
   |_=>.fail
  |none=>.fail
 |_,_=>.fail
def Adv (y:Ty) (x:T) (f:Nat):M Out:=
 match y.fields,x with
 |some fs,.addr id k=>match fs[f]? with
  |some p=>Az (.addr id (k+p.1))
  |none=>.fail
 |some fs,.d (.rd cs)=>match fs[f]? with
  |some p=>bif Nat.ble p.1 cs.length then Az (.d (.rd (cs.drop p.1))) else .fail
  |none=>.fail
 |some fs,.elt id i sz off=>match fs[f]? with
  |some p=>Az (.elt id i sz (off+p.1))
  |none=>.fail
 |_,_=>.fail
def Adw (Y:TypeId->Ty) (y:Ty) (x:T) (f:Nat):M Out:=
 match y.fields,x with
 |some fs,.d (.agg cs)=>match fs[f]? with
  |some p=>match (Y p.2).agg with
   |some true=>bif Nat.ble (p.1+(Y p.2).size) cs.length then Az (.d (.agg (((cs.drop p.1).take (Y p.2).size).map C.dem))) else .fail
   |some false=>Zk (cs.drop p.1)
   |none=>.fail
  |none=>.fail
 |_,_=>.fail
def Adx (Y:TypeId->Ty) (y:Ty) (x i:T):M Out:=
 match y.kind,x,i.int? with
 | .slice e,.arr id n,some (_,i)=>.look 2 id λo=>match o with
  | .arrc _ sz _ _=>bif (Y e).known&&sz.beq (Y e).size then Di (0<=i/\i<n) (.elt id i.toNat sz 0) else .fail
  | .arro _ _ _ _ _=>bif (Y e).known&&Nat.beq 1 (Y e).size then Di (0<=i/\i<n) (.elt id i.toNat 1 0) else .fail
  |_=>.fail
 | .slice e,x,some (_,i)=>match x.elems? with
  |some (n,f)=>bif (Y e).known&&(f i.toNat).length.beq (Y e).size then Di (0<=i/\i<n) (.d (.rd (f i.toNat))) else .fail
  |none=>.fail
 | .arr n e,.addr id k,some (_,.ofNat j)=>bif (Y e).known&&Nat.blt j n then Az (.addr id (k+j*(Y e).size)) else .fail
 |_,_,_=>.fail
def Sq (o:Nat) (el:TypeId) (dst:Option Tmp) (n:Nat) (f:Nat->List C) (vc:List Prop) (wr:Env):M Out:=
 match dst with
 |some d=>.look 1 (d+o) λx=>match x with
  | .any=>.ret ⟨vc,[],.d (.c (.s (.t (d+o)) n f)),(1,d+o,As el)::wr⟩
  |_=>.fail
 |none=>.fail
def Vs (el:TypeId) (dst:Option Tmp) (n:Nat) (f:Nat->List C) (vc:List Prop) (wr:Env):M Out:=Sq 0 el dst n f vc wr
def Ady (k:Nat):Nat:=bif Nat.ble FAR k then FAR else 0
def Lz (ev:Operand->M T):Nat->List (Nat×Operand)->M (List (List C))
 |_,[]=>.ret []
 |i,(j,x)::r=>bif i.beq j then (ev x).bind λx=>match x.cells? with
   |some cs=>(Lz ev (i+1) r).bind λcss=>.ret (cs.map C.dem::css)
   |none=>.fail
  else .fail
def Vt (n:Nat):List (List C)->Bool
 | []=>true
 |c::r=>c.length.beq n&&Vt n r
def Adz (el:TypeId) (y:Ty) (dst:Option Tmp) (len:Nat) (css:List (List C)):M Out:=
 bif y.known&&css.length.beq len&&Vt y.size css&&Nat.blt 0 y.size&&Nat.blt 0 len&&Nat.ble (len*y.size) 1000 then Vs el dst len (λi=>css.getD i []) [] [] else .fail
def Ae0 (y:Ty) (dst:Option Tmp) (len:Nat) (css:List (List C)):M Out:=
 bif y.known&&css.length.beq len&&Vt y.size css&&Nat.blt 0 y.size&&Nat.blt 0 len&&Nat.ble (len*y.size) 1000 then Hz dst λd=>⟨[],[],.arr d len,[(2,d,.arrc false y.size len λi=>css.getD i [])]⟩ else .fail
def Ae1 (el:TypeId) (y:Ty) (dst:Option Tmp) (len:Nat) (css:List (List C)):M Out:=
 match len,css with
 |0,[]=>bif y.known then Vs el dst 0 (λ_=>[]) [] [] else .fail
 |len,css=>Adz el y dst len css
def Ae2 (x:T) (n:Nat):M Out:=
 match x with
 | .tup xs=>match xs[n]? with
  |some d=>Az (.d d.dem)
  |none=>.fail
 | .tpl xs=>match xs[n]? with
  |some (.d d)=>Az (.d d.dem)
  |some (.addr id k)=>Az (.addr id k)
  |_=>.fail
 | .nx b xs=>match n with
  |0=>Az (B b)
  |n+1=>match xs[n]? with
   |some d=>Di (b=true) (.d d.dem)
   |none=>.fail
 |_=>.fail
def Ae3 (y:Ty) (x:T):M Out:=
 match y.kind,x with
 | .slice _,.arr _ n=>.ret ⟨[],[n<=maxLen],I n,[]⟩
 | .slice _,x=>match x.elems? with
  |some (n,_)=>.ret ⟨[],[n<=maxLen],I n,[]⟩
  |none=>.fail
 | .str,x=>match x.str? with
  |some s=>.ret ⟨[],[],I s.size,[]⟩
  |none=>.fail
 |_,_=>.fail
def Ae4 (x y:T):M Out:=
 match x.int?,y.int? with
 |some (k,a),some (k',b)=>bif k==k' then Az (.d (.c (.v (.int k (max a b))))) else .fail
 |_,_=>.fail
def An (n:Nat) (f g:Nat->List C) (i:Nat):List C:=bif Nat.blt i n then f i else g (i - n)
def Zl (el:TypeId) (y:Ty) (dst:Option Tmp) (x:T) (m:Nat) (g:Nat->List C):M Out:=
 match x with
 | .d (.c (.v (.slice none 0 0)))=>bif y.known&&Nat.blt 0 y.size&&(g 0).length.beq y.size then Vs el dst m g [m*y.bytes<=140737488355328,m<=140737488355328] [] else .fail
 | .d (.c (.s (.t k) n f))=>bif y.known&&Nat.blt 0 y.size&&(g 0).length.beq y.size then .look 1 k λx=>match x with
  | .tok e=>bif e.beq el then Sq (Ady k) el dst (n+m) (An n f g) [(n+m)*y.bytes<=140737488355328,n+m<=140737488355328] [(1,k,Bx)] else .fail
  |_=>.fail
  else .fail
 |_=>.fail
def Ae5 (el:TypeId) (y:Ty) (dst:Option Tmp) (x z:T):M Out:=
 match z with
 | .arr id m=>.look 2 id λo=>match o with
  | .arrc _ sz m' g=>bif sz.beq y.size then (Zl el y dst x m g).bind λo=>.ret { o with vc:=(m=m')::o.vc } else .fail
  |_=>.fail
 |z=>match z.elems? with
  |some (m,g)=>Zl el y dst x m g
  |none=>.fail
def Ae6 (x y:T):M Out:=
 match x.int?,y.int? with
 |some (k,a),some (k',b)=>bif k==k' then Az (.d (.c (.v (.int k (min a b))))) else .fail
 |_,_=>.fail
def Zm (gm dst:Ty) (x:T):M Out:=
 match dst.kind,x.int? with
 | .int k,some (_,n)=>bif gm.known then Di (inRange k n) (.d (.c (.v (.int k n)))) else .fail
 |_,_=>.fail
def Sr (cs:List C):Int:=
 match cs with
 | [.v (.int .u8 x)]=>x
 |_=>0
def Vu (k:K):Bool:=
 match k with
 | .int .u8=>true
 |_=>false
def Vv (n:Nat) (f:Nat->List C):ByteArray:=⟨((List.range n).map λi=>UInt8.ofNat (Sr (f i)).toNat).toArray⟩
def Ss (Y:TypeId->Ty) (gm dst:Ty) (x:T):M Out:=
 match dst.kind,gm.kind,x.elems? with
 | .str,.slice e,some (n,f)=>bif Vu (Y e).kind then Di (∀i,i<n->f i=[.v (.int .u8 (Sr (f i)))]) (.d (.c (.v (.string (Vv n f))))) else .fail
 |_,_,_=>Zm gm dst x
def Ae7 (Y:TypeId->Ty) (gm dst:Ty) (x:T):M Out:=
 match x with
 | .arr id n=>(Gw (.arr id n)).bind λp=>(Ss Y gm dst (.d (.c p.1))).bind λo=>.ret ⟨p.2.1++o.vc,o.hyp,o.val,p.2.2⟩
 |x=>Ss Y gm dst x
def Vw (Y:TypeId->Ty) (y:Ty) (i:Nat):Option (Nat×Nat):=
 match y.kind with
 | .struct fs=>match fs[i]? with
  |some p=>bif (Y p.2).known then some (p.1,(Y p.2).size) else none
  |none=>none
 | .arr _ e=>bif (Y e).known then some (i*(Y e).size,(Y e).size) else none
 |_=>none
def Aji (Y:TypeId->Ty) (y:Ty):Bool:=
 match y.kind with
 | .arr _ e=>(Y e).known
 |_=>true
def Vx (jc:Nat->Option (Nat×Nat)) (cells:List C):List (Nat×List C)->Option (List C)
 | []=>some cells
 |(i,cs)::r=>match jc i with
  |some (off,n)=>bif cs.length.beq n&&Nat.ble (off+n) cells.length then Vx jc (cells.take off++(cs++cells.drop (off+n))) r else none
  |none=>none
def Sv:List (Nat×Operand)->List T->Option (List (Nat×List C))
 | [],[]=>some []
 |p::ps,x::xs=>match x.cells?,Sv ps xs with
  |some cs,some r=>some ((p.1,cs.map C.dem)::r)
  |_,_=>none
 |_,_=>none
def Vy (l:List T):List (Nat×Operand)->List T->Option (List T)
 | [],[]=>some l
 |p::ps,x::xs=>bif Nat.blt p.1 l.length then Vy (l.set p.1 x) ps xs else none
 |_,_=>none
def Zo (x:T):Option (List T):=
 match x with
 | .d (.agg cs)=>some (cs.map λc=>.d (.c c.dem))
 | .ag ts=>bif Ef ts then some (ts.map T.dem) else none
 |x=>bif x.one then some [x] else none
def Vz (jc:Nat->Option (Nat×Nat)) (l:List T):List (Nat×Operand)->List T->Option (List T)
 | [],[]=>some l
 |p::ps,x::xs=>match jc p.1,Zo x with
  |some (off,n),some ts=>bif ts.length.beq n&&Nat.ble (off+n) l.length then Vz jc (l.take off++(ts++l.drop (off+n))) ps xs else none
  |_,_=>none
 |_,_=>none
def Ae8 (Y:TypeId->Ty) (y:Ty) (ps:List (Nat×Operand)) (xs:List T):M Out:=
 match y.agg,Sv ps xs with
 |some true,some css=>bif y.zero.all Value.oneCell'&&Aji Y y then match Vx (Vw Y y) (y.zero.map C.v) css with
   |some cs=>Az (.d (.agg cs))
   |none=>.fail
  else .fail
 |some true,none=>match y.kind with
  | .arr n e=>match (Y e).agg with
   |some false=>bif y.zero.all Value.oneCell'&&Ef xs&&n.beq y.zero.length then match Vy (y.zero.map λv=>.d (.c (.v v))) ps xs with
     |some l=>Az (.ag l)
     |none=>.fail
    else .fail
   |_=>.fail
  | .struct _=>bif y.zero.all Value.oneCell' then match Vz (Vw Y y) (y.zero.map λv=>.d (.c (.v v))) ps xs with
    |some l=>bif Ef l then Az (.ag l) else .fail
    |none=>.fail
   else .fail
  |_=>.fail
 |_,_=>.fail
def Zp (s:ByteArray) (i:Nat):Int:=((s.data.toList.getD i 0).toNat:Int)
def Ae9 (Y:TypeId->Ty) (y:Ty) (x i:T):M Out:=
 match y.kind,x,i.int? with
 | .str,.d (.c (.v (.string s))),some (_,i)=>Di (0<=i/\i<s.size) (.d (.c (.v (.int .u8 (Zp s i.toNat)))))
 | .arr n e,.d (.agg cs),some (_,i)=>match (Y e).agg with
  |some false=>bif cs.length.beq n then Di (0<=i/\i<n) (.d (.c (cs.getD i.toNat default).dem)) else .fail
  |some true=>bif cs.length.beq (n*(Y e).size) then Di (0<=i/\i<n) (.d (.agg (((cs.drop (i.toNat*(Y e).size)).take (Y e).size).map C.dem))) else .fail
  |_=>.fail
 | .arr n e,.ag xs,some (_,i)=>match (Y e).agg with
  |some false=>bif xs.length.beq n then match xs[i.toNat]? with
    |some x=>bif x.one then Di (0<=i/\i<n) x.dem else .fail
    |none=>.fail
   else .fail
  |_=>.fail
 |_,_,_=>.fail
def Jq (d:Int):Option T->Option Int
 |none=>some d
 |some x=>(x.int?).map (·.2)
def Sw (Y:TypeId->Ty) (y:Ty) (x:T) (lo hi:Option T):M Out:=
 match y.kind,x,x.elems? with
 | .str,.d (.c (.v (.string s))),_=>match Jq 0 lo,Jq s.size hi with
  |some l,some h=>Di (0<=l/\l<=h/\h<=s.size) (.d (.c (.v (.string (s.extract l.toNat h.toNat)))))
  |_,_=>.fail
 | .slice e,_,some (n,f)=>match Jq 0 lo,Jq n hi with
  |some l,some h=>bif (Y e).known&&(f 0).length.beq (Y e).size then Di (0<=l/\l<=h/\h<=n) (.d (.c (.s .n (h - l).toNat λi=>f (l.toNat+i)))) else .fail
  |_,_=>.fail
 |_,_,_=>.fail
def Aea (Y:TypeId->Ty) (y:Ty) (x:T) (lo hi:Option T):M Out:=
 match x with
 | .arr id n=>(Gw (.arr id n)).bind λp=>(Sw Y y (.d (.c p.1)) lo hi).bind λo=>.ret ⟨p.2.1++o.vc,o.hyp,o.val,p.2.2⟩
 |x=>Sw Y y x lo hi
def Aeb (Y:TypeId->Ty) (y:Ty) (dst:Option Tmp) (x:T) (lo:Option T) (hi mx:T):M Out:=
 match y.kind,hi.int?,mx.int? with
 | .slice e,some (_,h),some (_,m)=>match Jq 0 lo with
  |some l=>match x with
   | .arr id n=>.look 2 id λo=>match o with
    | .arrc _ sz _ f=>bif (Y e).known&&sz.beq (Y e).size then Vs e dst 0 f [0<=l,l=h,h=m,m<=n] [] else .fail
    |_=>.fail
   |x=>match x.elems? with
    |some (n,f)=>bif (Y e).known&&(f 0).length.beq (Y e).size then Sq FAR e dst (h - l).toNat (λi=>f (l.toNat+i)) [0<=l,l<=h,h=m,m<=n] [] else .fail
    |none=>.fail
  |none=>.fail
 |_,_,_=>.fail
def Ajj (lo hi:Option Operand):List T->Option (T×Option T×Option T)
 | []=>none
 |x::xs=>match lo,hi,xs with
  |none,none,[]=>some (x,none,none)
  |some _,none,[l]=>some (x,some l,none)
  |none,some _,[h]=>some (x,none,some h)
  |some _,some _,[l,h]=>some (x,some l,some h)
  |_,_,_=>none
def Ajk (lo:Option Operand):List T->Option (T×Option T×T×T)
 | []=>none
 |x::xs=>match lo,xs with
  |none,[h,m]=>some (x,none,h,m)
  |some _,[l,h,m]=>some (x,some l,h,m)
  |_,_=>none
def capT:T->Option T
 | .d x=>some (.d x.dem)
 | .addr t k=>some (.addr t k)
 | .fn f a b=>some (.fn f a b)
 | .arr id n=>some (.arr id n)
 | .mp id=>some (.mp id)
 | .yl l=>some (.yl l)
 |_=>none
def Ox:List T->Option (List T)
 | []=>some []
 |x::r=>match capT x,Ox r with
  |some y,some l=>some (y::l)
  |_,_=>none
def Wc (x:T):Option (Nat×List Int):=
 match x with
 | .d (.c (.v (.int .i64 n)))=>some (0,[n])
 | .d (.agg xs)=>match Hy xs with
  |some (n::l)=>some (l.length+1,n::l)
  |_=>none
 |_=>none
def asD (ag:Bool) (cs:List C):Option T:=
 match ag,cs with
 |true,cs=>some (.d (.agg cs))
 |false,[c]=>some (.d (.c c))
 |false,_=>none
def eqK:List Int->List Int->Bool:=eqL
def vsC:List Value->List C
 | []=>[]
 |v::r=>.v v::vsC r
def Nk (y:Ty):Option Nat:=
 match y.kind with
 | .int .i64=>some 0
 | .struct _=>bif y.eqi&&Nat.blt 0 y.size then some y.size else none
 |_=>none
def Qo (y:Ty) (kn:Nat) (p:Nat×List Int):Bool:=
 match Nk y with
 |some n=>n.beq kn&&kn.beq p.1
 |none=>false
def Wd (y:Ty) (ag:Bool) (key:List Int) (dom:List Int->Bool) (val:List Int->List C) (ci:Bool):M Out:=
 match asD ag ((val key).map C.dem),ci with
 |some (.d r),true=>.ret ⟨[dom key=false->val key=vsC y.zero],[],.tup [r,.c (Cb (dom key))],[]⟩
 |some r,false=>.ret ⟨[dom key=false->val key=vsC y.zero],[],r,[]⟩
 |_,_=>.fail
def Aed (Y:TypeId->Ty) (y:Ty) (x k:T) (ci:Bool):M Out:=
 match y.kind,Wc k with
 | .map kt et,some key=>match x with
  | .mp id=>.look 2 id λo=>match o with
   | .mapc _ kn ag dom val=>bif Qo (Y kt) kn key&&(Y et).agg==some ag&&(Y et).zero.all Value.oneCell' then Wd (Y et) ag key.2 dom val ci else .fail
   |_=>.fail
  | .d (.c (.m kn ag dom val))=>bif Qo (Y kt) kn key&&(Y et).agg==some ag&&(Y et).zero.all Value.oneCell' then Wd (Y et) ag key.2 dom val ci else .fail
  |_=>.fail
 |_,_=>.fail
def Bw (dom:List Int->Bool) (key:List Int) (k:List Int):Bool:=eqK k key||dom k
def Cr (val:List Int->List C) (key:List Int) (cs:List C) (k:List Int):List C:=bif eqK k key then cs else val k
def Ajl (ag:Bool) (x:T):Option (List C):=
 match ag,x with
 |true,.d (.agg xs)=>some xs
 |false,.d (.c x)=>some [x]
 |_,_=>none
def Zq (Y:TypeId->Ty) (y:Ty) (x k v:T):M Out:=
 match y.kind,Wc k,x with
 | .map kt et,some key,.mp id=>.look 2 id λo=>match o with
   | .mapc false kn ag dom val=>match Ajl ag v with
    |some cs=>bif Qo (Y kt) kn key&&(Y et).agg==some ag then .ret ⟨[],[],.any,[(2,id,.mapc false kn ag (Bw dom key.2) (Cr val key.2 (cs.map C.dem)))]⟩ else .fail
    |none=>.fail
   |_=>.fail
 |_,_,_=>.fail
def Sx (dom:List Int->Bool) (key:List Int) (k:List Int):Bool:=!eqK k key&&dom k
def Aee (Y:TypeId->Ty) (y:Ty) (x k:T):M Out:=
 match y.kind,Wc k,x with
 | .map kt _,some key,.mp id=>.look 2 id λo=>match o with
   | .mapc false kn ag dom val=>bif Qo (Y kt) kn key then .ret ⟨[],[],.any,[(2,id,.mapc false kn ag (Sx dom key.2) val)]⟩ else .fail
   |_=>.fail
 |_,_,_=>.fail
def Aef (Y:TypeId->Ty) (y:Ty) (dst:Option Tmp):M Out:=
 match y.kind with
 | .map kt et=>match (Y et).agg,Nk (Y kt) with
  |some ag,some kn=>Hz dst λd=>⟨[],[],.mp d,[(2,d,.mapc false kn ag (λ_=>false) λ_=>vsC (Y et).zero)]⟩
  |_,_=>.fail
 |_=>.fail
def Aeg (Y:TypeId->Ty) (y:Ty) (dst:Option Tmp) (n m:T):M Out:=
 match y.kind,n.int?,m.int? with
 | .slice e,some (_,n),some (_,m)=>bif (Y e).known&&(Y e).zero.all Value.oneCell'&&Nat.blt 0 (Y e).size then
   Hz dst λd=>⟨[n=m,0<=n,n.toNat*(Y e).bytes<=140737488355328,n.toNat<=140737488355328],[],.arr d n.toNat,[(2,d,.arrc false (Y e).size n.toNat λ_=>vsC (Y e).zero)]⟩
  else .fail
 |_,_,_=>.fail
def Qp:List C->Option (List Value)
 | []=>some []
 | .v x::r=>(Qp r).map λl=>x::l
 |_=>none
def Aeh:T->Option Value
 | .d (.c (.v x))=>some x
 | .d (.agg xs)=>(Qp xs).map λl=>.agg l.toArray
 |_=>none
def T.ofPlain (v:Value):Option T:=
 match v with
 | .agg cs=>bif cs.toList.all Value.oneCell' then some (.d (.agg (vsC cs.toList))) else none
 |v=>bif v.oneCell' then some (.d (.c (.v v))) else none
def Aei (t:TypeId) (y:Ty) (x:T):M Out:=
 match y.kind,Aeh x with
 | .iface,_=>.fail
 | .none,_=>.fail
 |_,some v=>Az (.d (.c (.v (.iface t v))))
 |_,none=>match x with
  | .d (.agg xs)=>Az (.d (.c (.i t true (xs.map C.dem))))
  | .d (.c c)=>Az (.d (.c (.i t false [c.dem])))
  |_=>.fail
def Sy (y:Ty):Option T:=
 match y.agg with
 |some true=>some (.d (.agg (vsC y.zero)))
 |some false=>match y.zero with
  | [v]=>some (.d (.c (.v v)))
  |_=>none
 |none=>none
def Aej (dh:TypeId) (y:Ty) (x:T) (ci:Bool):M Out:=
 match y.kind,x,ci with
 | .iface,_,_=>.fail
 | .none,_,_=>.fail
 |_,.d (.c (.v (.iface t v))),true=>bif t.beq dh then match T.ofPlain v with
   |some (.d r)=>Az (.tup [r,.c (Cb true)])
   |_=>.fail
  else match Sy y with
   |some (.d r)=>bif y.zero.all Value.oneCell' then Az (.tup [r,.c (Cb false)]) else .fail
   |_=>.fail
 |_,.d (.c (.v .nilIface)),true=>match Sy y with
   |some (.d r)=>bif y.zero.all Value.oneCell' then Az (.tup [r,.c (Cb false)]) else .fail
   |_=>.fail
 |_,.d (.c (.v (.iface t v))),false=>bif t.beq dh then match T.ofPlain v with
   |some r=>Az r
   |none=>.fail
  else .fail
 |_,.d (.c (.i t ag cs)),true=>bif t.beq dh then match asD ag (cs.map C.dem) with
   |some (.d r)=>Az (.tup [r,.c (Cb true)])
   |_=>.fail
  else match Sy y with
   |some (.d r)=>bif y.zero.all Value.oneCell' then Az (.tup [r,.c (Cb false)]) else .fail
   |_=>.fail
 |_,.d (.c (.i t ag cs)),false=>bif t.beq dh then match asD ag (cs.map C.dem) with
   |some r=>Az r
   |none=>.fail
  else .fail
 |_,_,_=>.fail
def Aek (Y:TypeId->Ty) (name:String) (x:T):Option T:=
 match x with
 | .d (.c (.i t ag cs))=>match (bif (Y t).known then Ly (Y t).meth name else none),asD ag (cs.map C.dem) with
  |some g,some y=>some (.fn g [y] [])
  |_,_=>none
 | .d (.c (.v (.iface t v)))=>match (bif (Y t).known then Ly (Y t).meth name else none),T.ofPlain v with
  |some g,some y=>some (.fn g [y] [])
  |_,_=>none
 |_=>none
def Ael (s:ByteArray) (i:Nat):Int:=(Utf8.decode s i).1
def Aem (s:ByteArray) (i:Nat):Nat:=(Utf8.decode s i).2
def Aen (y:Ty) (dst:Option Tmp) (x:T):M Out:=
 match y.kind,x with
 | .str,.d (.c (.v (.string s)))=>Hz dst λd=>⟨[],[],.it d,[(2,d,.itc s 0)]⟩
 | .map _ _,.d (.c (.m kn ag dom val))=>Hz dst λd=>⟨[],[],.it d,[(2,d,.mitc kn ag dom val [] none)]⟩
 |_,_=>.fail
def Aeo (x:T):M Out:=
 match x with
 | .it id=>.look 2 id λo=>match o with
  | .mitc kn ag _ val _ (some k)=>Az (.tup [Zh kn k,Zi ag (val k)])
  |_=>.fail
 |_=>.fail
def Aep (x:T) (ey:Bool):M Out:=
 match x,ey with
 | .it id,true=>.look 2 id λo=>match o with
  | .itc s pos=>.ret ⟨[],[],.nx (Nat.blt pos s.size) [.c (Ci pos),.c (.v (.int .i32 (Ael s pos)))],[(2,id,.itc s (bif Nat.blt pos s.size then pos+Aem s pos else pos))]⟩
  |_=>.fail
 |_,_=>.fail
def evs:List Operand->M (List T×List Prop)
 | []=>.ret ([],[])
 |x::r=>(ev0 x).bind λa=>(evs r).bind λp=>.ret (a.val::p.1,Nj none a++p.2)
def ev1 (x:Operand):M T:=(ev0 x).bind λa=>match a with
 | .may _ _=>.fail
 |a=>.ret a
def Ajm (Y:TypeId->Ty) (b:Builtin) (xs:List T) (ek:Array TypeId) (dst:Option Tmp):M Out:=
 match b,xs with
 | .len,[x]=>match ek.toList with
  | [t]=>Ae3 (Y t) x
  |_=>.fail
 | .max,[x,y]=>Ae4 x y
 | .min,[x,y]=>Ae6 x y
 | .delete,[x,k]=>match ek.toList with
  | [t,_]=>Aee Y (Y t) x k
  |_=>.fail
 | .append,[x,y]=>match ek.toList with
  | [t,t']=>bif t.beq t' then (match (Y t).kind with
   | .slice e=>Ae5 e (Y e) dst x y
   |_=>.fail) else .fail
  |_=>.fail
 |_,_=>.fail
def Zr (Y:TypeId->Ty) (dst:Option Tmp) (op:Op) (xs:List T):M Out:=
 match op,xs with
 | .move _,[x]=>Az x
 | .assign _,[x]=>Az x
 | .nilCheck _,[.addr id k]=>Az (.addr id k)
 | .box t _,[x]=>Adr (Y t) dst x
 | .alloc t,[]=>bif (Y t).known&&(Y t).zero.all Value.oneCell' then Adq dst ((Y t).zero.map C.v) else .fail
 | .load t _,[a]=>Ado (Y t) a.asRd
 | .store t _ _,[a,x]=>Adu Y (Y t) a x
 | .fieldAddr s _ f,[x]=>Adv (Y s) x.asRd f
 | .field s _ f,[x]=>Adw Y (Y s) x f
 | .indexAddr t _ _,[x,i]=>Adx Y (Y t) x i
 | .binOp op t _ _ _,[x,y]=>Adn (Y t) op x y
 | .build t ps,xs=>Ae8 Y (Y t) ps.toList xs
 | .convert s t _,[x]=>Ae7 Y (Y s) (Y t) x
 | .index t _ _,[x,i]=>Ae9 Y (Y t) x i
 | .slice t _ lo hi none,xs=>match Ajj lo hi xs with
  |some (x,l,h)=>Aea Y (Y t) x l h
  |none=>.fail
 | .slice t _ lo (some _) (some _),xs=>match Ajk lo xs with
  |some (x,l,h,m)=>Aeb Y (Y t) dst x l h m
  |none=>.fail
 | .makeFunc (.func f) first _,xs=>match Ox (xs.take first.toList.length),Ox (xs.drop first.toList.length) with
  |some fst,some f8=>Az (.fn f fst f8)
  |_,_=>.fail
 | .unOp .not _ _,[x]=>match x.bool? with
  |some b=>Az (B (!b))
  |none=>.fail
 | .unOp .neg _ _,[x]=>match x.int? with
  |some (k,n)=>Di (inRange k (-n)) (.d (.c (.v (.int k (-n)))))
  |none=>.fail
 | .extract _ n,[x]=>Ae2 x n
 | .lookup t _ _ ok,[x,k]=>Aed Y (Y t) x k ok
 | .mapUpdate t _ _ _,[x,k,v]=>Zq Y (Y t) x k v
 | .insert t _ _ _,[x,k,v]=>Zq Y (Y t) x k v
 | .makeMap t none,[]=>Aef Y (Y t) dst
 | .makeSlice t _ _,[n,m]=>Aeg Y (Y t) dst n m
 | .makeInterface t _,[x]=>Aei t (Y t) x
 | .typeAssert _ _ t ok,[x]=>Aej t (Y t) x ok
 | .range t _,[x]=>Aen (Y t) dst x
 | .next _ ey,[x]=>Aep x ey
 | .entry _,[x]=>Aeo x
 | .call { callee:=.builtin b,argTypes,.. },xs=>Ajm Y b xs argTypes dst
 |_,_=>.fail
def sem (Y:TypeId->Ty) (dst:Option Tmp) (op:Op):M (List Prop×Out):=
 match op with
 | .pick c a b=>(ev0 c).bind λc=>(ev0 a).bind λa=>(ev0 b).bind λb=>(Adp c a b).bind λo=>.ret ([],o)
 | .buildSlice t len ps=>match (Y t).kind with
  | .slice e=>(Lz ev1 0 ps.toList).bind λcss=>(Ae1 e (Y e) dst len css).bind λo=>.ret ([],o)
  |_=>.fail
 |op=>(evs op.operands.toList).bind λp=>(Zr Y dst op p.1).bind λo=>.ret (p.2,o)
def Aeq (y:Ty) (dst:Option Tmp) (x z:T):M Out:=
 match x with
 | .d (.c (.v (.slice none 0 0)))=>match z with
  | .arr id m=>.look 2 id λo=>match o with
   | .arrc _ sz m' g=>bif y.known&&sz.beq y.size then Hz dst λd=>⟨[m=m',0<m,m*y.bytes<=140737488355328,m<=140737488355328],[],.arr d m,[(2,d,.arrc false y.size m g)]⟩ else .fail
   |_=>.fail
  |z=>match z.elems? with
   |some (m,g)=>bif y.known&&Nat.blt 0 y.size&&(g 0).length.beq y.size then Hz dst λd=>⟨[0<m,m*y.bytes<=140737488355328,m<=140737488355328],[],.arr d m,[(2,d,.arrc false y.size m g)]⟩ else .fail
   |none=>.fail
 |_=>.fail
def Aer (Y:TypeId->Ty) (gm dst:Ty) (dd:Option Tmp) (x:T):M Out:=
 match dst.kind,gm.kind,x.str? with
 | .slice e,.str,some s=>bif Vu (Y e).kind then Hz dd λd=>⟨[s.size<=140737488355328],[],.arr d s.size,[(2,d,.arrc false 1 s.size λi=>[.v (.int .u8 (s.data.getD i 0).toNat)])]⟩ else .fail
 |_,_,_=>.fail
def nilZ:List Value->Bool
 | [.slice none 0 0]=>true
 |_=>false
def Aet (Y:TypeId->Ty) (y:Ty) (dst:Option Tmp) (n m:T):M Out:=
 match y.kind,n.int?,m.int? with
 | .slice e,some (_,n),some (_,m)=>match (Y e).kind with
  | .slice el=>bif (Y el).known&&Nat.blt 0 (Y el).size&&nilZ (Y e).zero then
    Hz dst λd=>⟨[n=m,0<=n,n.toNat*(Y e).bytes<=140737488355328,n.toNat<=140737488355328],[],.arr d n.toNat,[(2,d,.arro el (Y el).size n.toNat (λ_=>(0,λ_=>[])) none)]⟩
   else .fail
  |_=>.fail
 |_,_,_=>.fail
def Aeu (Y:TypeId->Ty) (dst:Option Tmp) (y:Ty) (x:T):M Out:=
 match x,y.agg,dst with
 | .elt id i s1 off,some false,some d=>.look 2 id λo=>match o with
  | .arro el sz n f none=>bif Nat.blt d FAR&&s1.beq 1&&off.beq 0&&sz.beq (Y el).size then .look 1 d λz=>match z with
    | .any=>.ret ⟨[i<n],[],.d (.c (.s (.t d) (f i).1 (f i).2)),[(1,d,As el),(2,id,.arro el sz n f (some i))]⟩
    |_=>.fail
   else .fail
  |_=>.fail
 |_,_,_=>.fail
def Aev (x:T):M Out:=
 match x with
 | .arr id n=>(Gw (.arr id n)).bind λc=>.ret ⟨c.2.1,[],.d (.c c.1),c.2.2⟩
 | .mp id=>(Gw (.mp id)).bind λc=>.ret ⟨c.2.1,[],.d (.c c.1),c.2.2⟩
 |_=>.fail
def Ajn (x:T):M (C×Gv):=
 match x with
 | .mp _=>.ret (.u,[],[])
 |x=>Gw x
def We (id:Nat):Nat->Nat->M (List C×Gv)
 |0,_=>.ret ([],[],[])
 |n+1,k=>.look (id+3) k λx=>(Ajn x).bind λp=>(We id n (k+1)).bind λq=>.ret (p.1::q.1,p.2.add q.2)
def Aew (y:Ty) (a:T):M Out:=
 match a,y.agg with
 | .addr id k,some true=>(We id y.size k).bind λp=>.ret ⟨p.2.1,[],.d (.agg (p.1.map C.dem)),p.2.2⟩
 | .addr id k,some false=>.look (id+3) k λx=>(Gw x).bind λp=>.ret ⟨p.2.1,[],.d (.c p.1.dem),p.2.2⟩
 |_,_=>.fail
def Aex (y:Ty) (a:T):M Out:=
 match a,y.agg with
 | .addr id k,some true=>(Ow id y.size k).bind λxs=>Az (.ag xs)
 |_,_=>.fail
def Ajo:T->Bool
 | .addr _ _=>true
 |_=>false
def Aey (Y:TypeId->Ty) (y:Ty) (x h:T):M Out:=
 match y.kind,x,h.int? with
 | .slice el,.arr id n,some (_,h)=>.look 2 id λo=>match o with
  | .arrc false sz m f=>bif (Y el).known then .ret ⟨[n=m,0<=h,h<=n],[],.arr id h.toNat,[(2,id,.arrc false sz h.toNat f)]⟩ else .fail
  |_=>.fail
 |_,_,_=>.fail
def semA (Y:TypeId->Ty) (kp:Bool) (dst:Option Tmp) (op:Op):M (List Prop×Out):=
 match op with
 | .buildSlice t len ps=>match (Y t).kind with
  | .slice e=>(Lz ev1 0 ps.toList).bind λcss=>(Ae0 (Y e) dst len css).bind λo=>.ret ([],o)
  |_=>.fail
 | .move p=>(evs [p]).bind λp=>match p.1 with
  | [x]=>(Aev x).bind λo=>.ret (p.2,o)
  |_=>.fail
 | .makeSlice t n m=>(evs [n,m]).bind λp=>match p.1 with
  | [n,m]=>(Aet Y (Y t) dst n m).bind λo=>.ret (p.2,o)
  |_=>.fail
 | .load t a=>(evs [a]).bind λp=>match p.1 with
  | [a]=>(bif Ajo a then bif kp then Aex (Y t) a else Aew (Y t) a else Aeu Y dst (Y t) a).bind λo=>.ret (p.2,o)
  |_=>.fail
 | .slice t p none (some q) none=>(evs [p,q]).bind λp=>match p.1 with
  | [x,h]=>(Aey Y (Y t) x h).bind λo=>.ret (p.2,o)
  |_=>.fail
 | .convert s t p=>(evs [p]).bind λp=>match p.1 with
  | [x]=>(Aer Y (Y s) (Y t) dst x).bind λo=>.ret (p.2,o)
  |_=>.fail
 | .call { callee:=.builtin .append,args,argTypes,.. }=>(evs args.toList).bind λp=>match p.1,argTypes.toList with
  | [x,z],[t,t']=>bif t.beq t' then (match (Y t).kind with
   | .slice e=>(Aeq (Y e) dst x z).bind λo=>.ret (p.2,o)
   |_=>.fail) else .fail
  |_,_=>.fail
 |_=>.fail
inductive Res where
 |ret (x:T)
 |pan (v:Value)
 |new (x:T) (m:Env)
inductive Orc where
 |nil
 |r (x:Res) (o:Orc)
 |w (rho:List (Nat×Nat)) (xs:List T) (c9:Env) (x:Res) (post:Env) (o:Orc)
 |br (a b:Orc)
 |tt (a:Orc)
 |ff (a:Orc)
 |loop (n:Nat) (st:Nat->Env) (ob:Nat->Orc)
 |un (n:Nat) (o:Orc)
 |rf (m s:Nat) (ys:Nat->List T) (st:Nat->Env) (ob:Nat->Orc) (o:Orc)
 |ite (c:Bool) (a b:Orc)
 |sure (d:Nat) (o:Orc)
 |skip (d:Nat) (o:Orc)
 |val (d:Nat) (b:Bool) (o:Orc)
 |arrA (d:Nat) (o:Orc)
 |pe (o:Orc) (n:Nat) (st:Nat->Env) (ob:Nat->Orc)
 |each (f:List Int->Orc) (oz:Orc)
 |lg (ks:List (List Int)) (id:Nat) (st:List (List Int)->Env) (ob:List (List Int)->Orc)
 |n (rho:List (Nat×Nat)) (x:Res) (o:Orc)
 |ap (d:Nat) (o:Orc)
 |cut (e:Env) (o:Orc)
 |k (o:Orc)
structure Yd where
 l:Nat
 m:Nat
 s:Nat
 ys:Nat->List T
inductive Done where
 |go (vc hyp:List Prop) (val:T) (wr:Env) (o:Orc)
 |pan (vc:List Prop) (v:Value) (wr:Env) (o:Orc)
mutual
def Oy:T->M (T×Gv)
 | .addr id k=>(Ni id 64 k).bind λcs=>.ret (.d (.rd cs),[],[])
 | .d x=>.ret (.d x.dem,[],[])
 | .fn f a b=>(Fh a).bind λp=>(Fh b).bind λq=>.ret (.fn f p.1 q.1,p.2.add q.2)
 | .arr id n=>(Gw (.arr id n)).bind λp=>.ret (.d (.c p.1),p.2)
 | .mp id=>(Gw (.mp id)).bind λp=>.ret (.d (.c p.1),p.2)
 |_=>.fail
def Fh:List T->M (List T×Gv)
 | []=>.ret ([],[],[])
 |x::r=>(Oy x).bind λp=>(Fh r).bind λq=>.ret (p.1::q.1,p.2.add q.2)
end
def Wf (n:Nat) (f:Nat->List C) (m:Nat) (g:Nat->List C):Prop:=n=m/\∀i,i<n->f i=g i
def EqC (x y:C):Prop:=x=y∨(x=.v (.slice none 0 0)/\∃g h,y=.s g 0 h)∨∃a n f b m g,x=.s a n f/\y=.s b m g/\Wf n f m g
def Fz:List C->List C->Prop
 | [],[]=>True
 |x::xs,y::ys=>EqC x y/\Fz xs ys
 |_,_=>False
def SEq (n:Nat) (f:Nat->List C) (m:Nat) (g:Nat->List C):Prop:=n=m/\∀i,i<n->f i=g i∨Fz (f i) (g i)
def MEq (dom:List Int->Bool) (val:List Int->List C) (bv:List Int->Bool) (val':List Int->List C):Prop:=∀k,dom k=bv k/\(dom k=true->val k=val' k∨Fz (val k) (val' k))
def OEq (n:Nat) (f:Nat->Nat×(Nat->List C)) (m:Nat) (g:Nat->Nat×(Nat->List C)):Prop:=
 n=m/\∀j,j<n->(f j).1=(g j).1/\∀i,i<(f j).1->(f j).2 i=(g j).2 i
def leC:C->C->List Prop
 | .v (.int .i64 a),.v (.int .i64 b)=>[a=b]
 | .v (.bool a),.v (.bool b)=>[a=b]
 | .v (.string a),.v (.string b)=>[a=b]
 | .v (.slice none 0 0),.s _ n _=>[n=0]
 | .v x,.v y=>[x=y]
 | .s _ n f,.s _ m g=>[SEq n f m g]
 | .p xs,.p ys=>[xs=ys]
 | .i t ag xs,.i t' mq ys=>bif ag==mq then [t=t',Fz xs ys] else [False]
 | .m kn ag dom val,.m wg mq bv val'=>bif kn.beq wg&&ag==mq then [MEq dom val bv val'] else [False]
 |_,.u=>[]
 |_,_=>[False]
def Zs:List C->List C->List Prop
 | [],[]=>[]
 |x::xs,y::ys=>leC x y++Zs xs ys
 |_,_=>[False]
def leD:D->D->List Prop
 | .c x,.c y=>leC x y
 | .agg xs,.agg ys=>Zs xs ys
 | .rd xs,.rd ys=>Zs xs ys
 |_,_=>[False]
def leDs:List D->List D->List Prop
 | [],[]=>[]
 |x::xs,y::ys=>leD x y++leDs xs ys
 |_,_=>[False]
def Asn:Option (List Int)->Bool
 |none=>true
 |some _=>false
mutual
def leT:T->T->List Prop
 |_,.any=>[]
 | .d x,.d y=>leD x y
 | .addr i k,.addr i' k'=>bif i.beq i'&&k.beq k' then [] else [False]
 | .tup [],.tup []=>[]
 | .fn f a b,.fn f' a' b'=>(f=f')::(Cj a a'++Cj b b')
 | .arr i n,.arr i' n'=>bif i.beq i' then [n=n'] else [False]
 | .mp i,.mp i'=>bif i.beq i' then [] else [False]
 | .it i,.it i'=>bif i.beq i' then [] else [False]
 | .yl l,.yl l'=>[l=l']
 | .ag xs,.ag ys=>Cj xs ys
 | .arrc fz sz n f,.arrc fz' cn n' f'=>bif fz==fz'&&sz.beq cn then [SEq n f n' f'] else [False]
 | .mapc fz kn ag dom val,.mapc fz' wg mq bv val'=>bif fz==fz'&&kn.beq wg&&ag==mq then [MEq dom val bv val'] else [False]
 | .itc s p,.itc s' p'=>[s=s',p=p']
 | .mitc kn ag dom val h _,.mitc wg mq bv val' h' cur'=>bif kn.beq wg&&ag==mq&&Asn cur' then [MEq dom val bv val',h=h'] else [False]
 | .arro el sz n f none,.arro bz cn n' f' none=>bif el.beq bz&&sz.beq cn then [OEq n f n' f'] else [False]
 | .tr p,.tr p'=>[p=p']
 |x,y=>[x=y]
def Cj:List T->List T->List Prop
 | [],[]=>[]
 |x::xs,y::ys=>leT x y++Cj xs ys
 |_,_=>[False]
end
def Sz (e:Env):Env->List Prop
 | []=>[]
 |(1,_,_)::r=>Sz e r
 |(t,k,x)::r=>leT (e.get t k) x++Sz e r
def Iy:T->Bool
 | .any=>false
 |_=>true
def Zt:T->T->Bool
 | .tok e,.tok e'=>e.beq e'
 |_,_=>false
def Qq (x y:T) (a b:Nat):Bool:=Zt x y&&(Nat.blt a FAR||Nat.ble FAR b)
def Iz (e e0:Env):Env->Option (List (Nat×Nat))
 | []=>some []
 |(t,k,.d (.c (.s (.t b) _ _)))::r=>match e.get t k with
  | .d (.c (.s (.t a) _ _))=>bif Qq (e.get 1 a) (e0.get 1 b) a b then (Iz e e0 r).map λl=>(a,b)::l else none
  | .d (.c (.v _))=>Iz e e0 r
  |_=>none
 |(1,_,.tok _)::r=>Iz e e0 r
 |(1,_,_)::_=>none
 |_::r=>Iz e e0 r
def Zu (a b:Nat):List (Nat×Nat)->Bool
 | []=>true
 |(a',b')::r=>(a.beq a'==b.beq b')&&Zu a b r
def Zv:List (Nat×Nat)->Bool
 | []=>true
 |(a,b)::r=>Zu a b r&&Zv r
mutual
def Aj:T->List Nat
 | .addr id _=>[id]
 | .fn _ a b=>Bo a++Bo b
 | .may _ x=>Aj x
 | .arr id _=>[id]
 | .elt id _ _ _=>[id]
 | .mp id=>[id]
 | .it id=>[id]
 | .ag xs=>Bo xs
 | .tpl xs=>Bo xs
 | .pt x=>Aj x
 |_=>[]
def Bo:List T->List Nat
 | []=>[]
 |x::r=>Aj x++Bo r
end
def Ma (t:Nat) (x:T):List Nat:=
 match t with
 |n+3=>n::Aj x
 |_=>Aj x
def Jr (e:Env):List Nat->Bool
 | []=>true
 |id::r=>Iy (e.get 2 id)&&Jr e r
def Gb (e0:Env):Env->Bool
 | []=>true
 |(t,_,x)::r=>Jr e0 (Ma t x)&&Gb e0 r
def Ck:T->List Nat
 | .d (.c (.s (.t b) _ _))=>[b]
 | .may _ x=>Ck x
 |_=>[]
def Zw (e:Env):List Nat->Bool
 | []=>true
 |b::r=>Zt (e.get 1 b) (e.get 1 b)&&Zw e r
def Wg (e0:Env):Env->Bool
 | []=>true
 |(_,_,x)::r=>Zw e0 (Ck x)&&Wg e0 r
mutual
def Ja:T->Bool
 | .d (.rd _)=>false
 | .d _=>true
 | .fn _ a b=>Du a&&Du b
 |_=>false
def Du:List T->Bool
 | []=>true
 |x::r=>Ja x&&Du r
end
def Ta:Res->Res->List Prop
 | .ret (.d x),.ret (.d y)=>leD x y
 | .ret (.tup xs),.ret (.tup ys)=>leDs xs ys
 | .ret (.own sz n f),.ret (.own cn n' f')=>bif sz.beq cn then [SEq n f n' f'] else [False]
 | .ret (.tkd el sz n f),.ret (.tkd bz cn n' f')=>bif el.beq bz&&sz.beq cn then [SEq n f n' f'] else [False]
 | .ret (.ag xs),.ret (.ag ys)=>bif Du ys then Cj xs ys else [False]
 | .ret (.fn f a b),.ret (.fn f' a' b')=>bif f.beq f'&&Ja (.fn f' a' b') then Cj a a'++Cj b b' else [False]
 | .pan v,.pan u=>[v=u]
 |_,_=>[False]
def Mb:List Prop->Prop
 | []=>True
 | [p]=>p
 |p::r=>p/\Mb r
def Hj (r s:Res):Prop:=Mb (Ta r s)
def Wh:Env->Bool
 | []=>true
 |(t,_,x)::r=>(match x with| .may _ _=>false| .nx _ _=>false|_=>true)&&(match t with|_+3=>x.one|_=>true)&&Wh r
def Qr (e0:Env):Env->Bool
 | []=>true
 |(0,k,x)::r=>(match x with| .tr _=>Iy (e0.get 0 k)|_=>true)&&Qr e0 r
 |(t+3,k,_)::r=>(Nat.blt t FAR||!Iy (e0.get 2 t)||Iy (e0.get (t+3) k))&&Qr e0 r
 |_::r=>Qr e0 r
def Ajp:Option (List (Nat×Nat))->Bool
 |some l=>Zv l
 |none=>false
def ifB:Bool->Prop->Prop
 |true,p=>p
 |false,_=>False
def le (e e0:Env):Prop:=
 ifB (Ajp (Iz e e0 e0)&&Gb e0 e0&&Wg e0 e0&&Wh e0&&Qr e0 e) (Mb (Sz e e0))
def rn (rho:List (Nat×Nat)) (i:Nat):Nat:=
 match rho with
 | []=>i
 |(a,b)::r=>bif a.beq i then b else rn r i
mutual
def Ba (rho:List (Nat×Nat)):T->T
 | .addr id k=>.addr (rn rho id) k
 | .fn f a b=>.fn f (Ea rho a) (Ea rho b)
 | .arr id n=>.arr (rn rho id) n
 | .mp id=>.mp (rn rho id)
 | .ag a=>.ag (Ea rho a)
 | .tpl a=>.tpl (Ea rho a)
 | .pt x=>.pt (Ba rho x)
 |x=>x
def Ea (rho:List (Nat×Nat)):List T->List T
 | []=>[]
 |x::r=>Ba rho x::Ea rho r
end
def Aq (rho:List (Nat×Nat)):Env->Env
 | []=>[]
 |(0,k,x)::r=>(0,k,x)::Aq rho r
 |(1,k,x)::r=>(1,k,x)::Aq rho r
 |(2,k,x)::r=>(2,rn rho k,Ba rho x)::Aq rho r
 |(t+3,k,x)::r=>(rn rho t+3,k,Ba rho x)::Aq rho r
def inL (i:Nat):List (Nat×Nat)->Bool
 | []=>false
 |(a,_)::r=>a.beq i||inL i r
def Zx (i:Nat):List (Nat×Nat)->Bool
 | []=>false
 |(_,b)::r=>b.beq i||Zx i r
def Gc:List (Nat×Nat)->Bool
 | []=>true
 |(a,b)::r=>!inL a r&&!Zx b r&&Gc r
mutual
def Bg (rho:List (Nat×Nat)):T->Bool
 | .d (.rd _)=>false
 | .d (.c (.s (.t _) _ _))=>false
 | .d _=>true
 | .addr id _=>inL id rho
 | .fn _ a b=>Fm rho a&&Fm rho b
 | .arr id _=>inL id rho
 | .mp id=>inL id rho
 | .yl _=>true
 | .ag a=>Fm rho a
 | .tpl a=>Fm rho a
 | .pt x=>Bg rho x
 |_=>false
def Fm (rho:List (Nat×Nat)):List T->Bool
 | []=>true
 |x::r=>Bg rho x&&Fm rho r
end
def Cv:T->Bool
 | .tup []=>true
 | .arrc _ _ _ _=>true
 | .mapc _ _ _ _ _=>true
 |_=>false
def La:T->Bool
 | .tr _=>true
 |_=>false
def Ce (rho:List (Nat×Nat)):Env->Bool
 | []=>true
 |(0,k,x)::r=>k.beq BIG&&La x&&Ce rho r
 |(1,_,_)::_=>false
 |(2,k,x)::r=>inL k rho&&Cv x&&Ce rho r
 |(t+3,_,x)::r=>inL t rho&&Bg rho x&&x.one&&Ce rho r
def Tb:Env->M (List Prop)
 | []=>.ret []
 |(t,k,x)::r=>.look t k λy=>(Tb r).bind λps=>.ret (leT y x++ps)
def Zy:Env->M (List Prop)
 | []=>.ret []
 |(t,k,x)::r=>.look t k λy=>(Zy r).bind λps=>.ret ((y=x)::ps)
def Ajq (m:M Done):M Done:=m.bind λd=>match d with
 | .go vc hyp val wr o=>(Zy wr).bind λqs=>.ret (.go (qs++vc) hyp val [] o)
 |_=>.fail
def Ajr:Env->List Nat
 | []=>[]
 |(2,k,_)::r=>k::Ajr r
 |_::r=>Ajr r
def Bf:Env->List (Nat×Nat)
 | []=>[]
 |(t,k,_)::e=>(t,k)::Bf e
def Bz (t k:Nat):List (Nat×Nat)->Bool
 | []=>false
 |(a,b)::r=>(t.beq a&&k.beq b)||Bz t k r
def rest (l:List (Nat×Nat)):Env->Env
 | []=>[]
 |(t,k,x)::r=>bif Bz t k l then rest l r else (t,k,x)::rest l r
def Af (post c9:Env):Env:=post++rest (Bf post) c9
def Ia (i:Nat):List Nat->Bool
 | []=>false
 |j::r=>i.beq j||Ia i r
def subN:List Nat->List Nat->Bool
 | [],_=>true
 |i::r,l=>Ia i l&&subN r l
section
variable (Comp:FuncId->List T->Res->Prop) (Comp2:Yd->FuncId->List T->Env->Res->Env->Prop) (Y:TypeId->Ty) (nt:Nat) (yd:Yd)
def Af1 (b:Bool) (w:Env):Env:=match w with
 | []=>[]
 |p::r=>bif b then [] else p::r
def Ajs (b:Bool) (w:Env):Af1 b w=bif b then [] else w:=by
 cases w with
 |nil=>cases b<;>rfl
 |cons p r=>rfl
def Zz (dst:Option Tmp) (bs:List Prop) (ez:Prop) (fz:Gv) (o:Orc):Res->M Done
 | .ret (.own sz n f)=>(Hz dst λd=>⟨[],[],.arr d n,[(2,d,.arrc false sz n f)]⟩).bind λx=>.ret (.go (bs++fz.1++[ez]) [] x.val (x.wr++fz.2) o)
 | .ret (.tkd el sz n f)=>bif sz.beq (Y el).size then (Sq FAR el dst n f [] []).bind λx=>.ret (.go (bs++fz.1++[ez]) [] x.val (x.wr++fz.2) o) else .fail
 | .ret (.d x)=>.ret (.go (bs++fz.1++[ez]) [] (.d x.dem) (Af1 x.flat fz.2) o)
 | .ret (.tup xs)=>.ret (.go (bs++fz.1++[ez]) [] (.tup (xs.map D.dem)) (Af1 (Vq xs) fz.2) o)
 | .ret (.fn f a b)=>.ret (.go (bs++fz.1++[ez]) [] (.fn f a b) fz.2 o)
 | .ret (.ag xs)=>.ret (.go (bs++fz.1++[ez]) [] (.ag xs) fz.2 o)
 | .ret _=>.fail
 | .new _ _=>.fail
 | .pan v=>.ret (.pan (bs++fz.1++[ez]) v [] o)
def no0:Env->Bool
 | []=>true
 |(t,_,_)::r=>Nat.blt 0 t&&no0 r
def Wi:List (Nat×Nat)->M Unit
 | []=>.ret ()
 |(_,id)::r=>bif Nat.blt id FAR then .look 2 id λx=>match x with
  | .any=>Wi r
  |_=>.fail
  else .fail
def Aa0 (rho:List (Nat×Nat)) (bs:List Prop) (ez:Prop) (fz:Gv) (o:Orc):Res->M Done
 | .new x m=>bif Gc rho&&Ce rho m&&no0 m&&Bg rho x&&Gb m m&&Jr m (Aj x) then (Wi rho).bind λ_=>.ret (.go (bs++fz.1++[ez]) [] (Ba rho x) (Aq rho m++fz.2) o) else .fail
 |_=>.fail
def Aa1 (dst:Option Tmp) (rho:List (Nat×Nat)) (bs:List Prop) (ez:Prop) (fz:Gv) (o:Orc) (x:T) (el F c sz:Nat) (m:Env):M Done:=
 bif Gc rho&&Ce rho m&&no0 m&&Bg rho x&&Gb m m&&Jr m (Aj x)&&inL F rho&&(Y el).size.beq sz then (Wi rho).bind λ_=>match dst,m.get (F+3) c with
  |some d,.d (.c (.s .n n f))=>.look 1 (d+FAR) λz=>match z with
   | .any=>.ret (.go (bs++fz.1++[ez]) [] (Ba rho x) ((rn rho F+3,c,.d (.c (.s (.t (d+FAR)) n f)))::(1,d+FAR,As el)::(Aq rho m++fz.2)) o)
   |_=>.fail
  |_,_=>.fail
 else .fail
def Ib (x y:T):Bool:=
 match x,y with
 | .tup [],.tup []=>true
 | .arrc _ _ _ _,.arrc _ _ _ _=>true
 | .mapc _ _ _ _ _,.mapc _ _ _ _ _=>true
 |_,_=>false
def Qs (c9:Env):Env->Bool
 | []=>true
 |(2,k,x)::r=>Ib x (c9.get 2 k)&&Qs c9 r
 |_::r=>Qs c9 r
def Wj (c9:Env) (x:T):Bool:=
 match x with
 | .tr _=>Bz 0 BIG (Bf c9)
 |_=>true
def Tc (rho:List (Nat×Nat)) (bs:List Prop) (f:FuncId) (nj xs:List T) (c9:Env) (post:Env) (o:Orc) (r:Res):M Done:=
 bif Gc rho&&Ce rho c9&&Ce rho post&&Fm rho xs&&Qs c9 post&&Gb c9 c9&&Gb (Af post c9) (Af post c9) then
  (Tb (Aq rho c9)).bind λps=>.look 0 BIG λb=>bif Wj c9 b then match r with
   | .ret (.d x)=>.ret (.go (bs++Cj nj (Ea rho xs)++ps++[Comp2 yd f xs c9 (.ret (.d x)) post]) [] (.d x.dem) (Aq rho (Af post c9)) o)
   | .ret (.tup x)=>.ret (.go (bs++Cj nj (Ea rho xs)++ps++[Comp2 yd f xs c9 (.ret (.tup x)) post]) [] (.tup (x.map D.dem)) (Aq rho (Af post c9)) o)
   | .ret _=>.fail
   | .new (.fn h [x] []) []=>bif Bg rho x&&Jr c9 (Aj x) then
     .ret (.go (bs++Cj nj (Ea rho xs)++ps++[Comp2 yd f xs c9 (.new (.fn h [x] []) []) post]) [] (.fn h [] [.pt (Ba rho x)]) (Aq rho (Af post c9)) o)
    else .fail
   | .new _ _=>.fail
   | .pan v=>.ret (.pan (bs++Cj nj (Ea rho xs)++ps++[Comp2 yd f xs c9 (.pan v) post]) v (Aq rho (Af post c9)) o)
  else .fail
 else .fail
def Af2 (dst:Option Tmp) (rho:List (Nat×Nat)) (bs:List Prop) (f:FuncId) (nj xs:List T) (c9 post:Env) (el F c:Nat) (x0:T) (o:Orc):M Done:=
 bif Gc rho&&Ce rho c9&&Ce rho post&&Fm rho xs&&Qs c9 post&&Gb c9 c9&&Gb (Af post c9) (Af post c9)&&inL F rho then
  (Tb (Aq rho c9)).bind λps=>.look 0 BIG λb=>bif Wj c9 b then .look (rn rho F+3) c λx=>match x,dst,(Af post c9).get (F+3) c,c9.get (F+3) c with
   | .d (.c (.s (.t k) _ _)),some d,.d (.c (.s .n n' f')),.d (.c (.s .n _ _))=>.look 1 k λy=>match y with
    | .tok e=>bif e.beq el then .look 1 (d+FAR) λz=>match z with
     | .any=>.ret (.go (bs++Cj nj (Ea rho xs)++ps++[Comp2 yd f xs c9 (.new (.tok el) [(F,c,x0)]) post]) [] (.tup []) ((rn rho F+3,c,.d (.c (.s (.t (d+FAR)) n' f')))::(1,d+FAR,As el)::(1,k,Bx)::Aq rho (Af post c9)) o)
     |_=>.fail
     else .fail
    |_=>.fail
   |_,_,_,_=>.fail
   else .fail
 else .fail
def Wk (dst:Option Tmp) (f:T) (args:List Operand) (d9:Orc):M Done:=
 match f with
 | .fn g fst f8=>(evs args).bind λp=>match d9 with
  | .r x o=>(Fh (fst++p.1++f8)).bind λq=>Zz Y dst p.2 (Comp g q.1 x) q.2 o x
  | .w rho xs c9 (.new (.tok el) [(F,c,x0)]) post o=>Af2 Comp2 yd dst rho p.2 g (fst++p.1++f8) xs c9 post el F c x0 o
  | .w rho xs c9 x post o=>Tc Comp2 yd rho p.2 g (fst++p.1++f8) xs c9 post o x
  | .k (.w rho xs c9 x post o)=>Ajq (Tc Comp2 yd rho p.2 g (fst++p.1++f8) xs c9 post o x)
  | .n rho (.new x ((1,0,.elt el F c sz)::m)) o=>(Fh (fst++p.1++f8)).bind λq=>Aa1 Y dst rho p.2 (Comp g q.1 (.new x ((1,0,.elt el F c sz)::m))) q.2 o x el F c sz m
  | .n rho x o=>(Fh (fst++p.1++f8)).bind λq=>Aa0 rho p.2 (Comp g q.1 x) q.2 o x
  |_=>.fail
 | .yl l=>(evs args).bind λp=>(Fh p.1).bind λq=>.look 0 BIG λt=>match t with
  | .tr n=>bif Du q.1&&Du (yd.ys n) then .ret (.go (p.2++q.2.1++[l=yd.l,n<yd.m,n<=yd.s]++Cj q.1 (yd.ys n)) [] (B (n != yd.s)) ((0,BIG,.tr (n+1))::q.2.2) d9) else .fail
  |_=>.fail
 |_=>.fail
def Nl (d:Nat):Option Tmp->Bool
 |some k=>Nat.beq k d
 |none=>false
def eff (o:Oper) (d9:Orc):M Done:=
 match o.op with
 | .call { callee:=.value f,args,.. }=>(ev0 f).bind λf=>Wk Comp Comp2 Y yd o.dst f args.toList d9
 | .call { callee:=.invoke f name,args,.. }=>(ev1 f).bind λf=>match Aek Y name f with
  |some f=>Wk Comp Comp2 Y yd o.dst f args.toList d9
  |none=>.fail
 | .panic x=>(ev1 x).bind λx=>match x with
  | .d (.c (.v (.iface t v)))=>.ret (.pan [] (.iface t v) [] d9)
  |_=>.fail
 |_=>match d9 with
  | .arrA t o'=>bif Nl (t % FAR) o.dst then (semA Y (Nat.ble FAR t) o.dst o.op).bind λp=>.ret (.go (p.1++p.2.vc) p.2.hyp p.2.val p.2.wr o')
   else (sem Y o.dst o.op).bind λp=>.ret (.go (p.1++p.2.vc) p.2.hyp p.2.val p.2.wr d9)
  |_=>(sem Y o.dst o.op).bind λp=>.ret (.go (p.1++p.2.vc) p.2.hyp p.2.val p.2.wr d9)
def eqB (b:Bool):Bool->Bool
 |true=>b
 |false=>!b
def Af3 (x:T) (dp:Bool):Option Bool:=
 match x with
 | .may g (.d (.c (.v (.bool b))))=>some (g&&eqB b dp)
 | .d (.c (.v (.bool b)))=>some (eqB b dp)
 |_=>none
def Aa2 (g:Bool):Done->Done
 | .go vc hyp val wr o=>.go ((g=true)::vc) hyp val wr o
 | .pan vc v wr o=>.pan ((g=true)::vc) v wr o
def Td (ops:Array Oper) (o:Oper) (d9:Orc):M (Option Bool×Done):=
 match o.guard with
 |none=>(eff Comp Comp2 Y yd o d9).bind λx=>.ret (none,x)
 |some (j,dp)=>match (ops.toList[j]?).bind (·.dst) with
  |some d=>bif Nat.blt d FAR then .look 0 d λx=>match Af3 x dp with
   |some g=>match d9 with
    | .sure t o'=>bif Nl t o.dst then (eff Comp Comp2 Y yd o o').bind λy=>.ret (none,Aa2 g y) else (eff Comp Comp2 Y yd o d9).bind λy=>.ret (some g,y)
    | .skip t o'=>bif Nl t o.dst then .ret (none,.go [g=false] [] (.may false (B false)) [] o') else (eff Comp Comp2 Y yd o d9).bind λy=>.ret (some g,y)
    |_=>(eff Comp Comp2 Y yd o d9).bind λy=>.ret (some g,y)
   |none=>.fail
   else .fail
  |none=>.fail
def valD (b:Bool):Option Bool×Done->Option Bool×Done
 |(none,.go vc hyp (.d (.c (.v (.bool x)))) wr o)=>(none,.go ((x=b)::vc) hyp (.d (.c (.v (.bool b)))) wr o)
 |y=>y
def Oz (ops:Array Oper) (o:Oper) (d9:Orc):M (Option Bool×Done):=
 match d9 with
 | .val t b o'=>bif Nl t o.dst then (Td Comp Comp2 Y yd ops o o').bind λy=>.ret (valD b y) else Td Comp Comp2 Y yd ops o d9
 |_=>Td Comp Comp2 Y yd ops o d9
def Qt:Option Bool->List Prop->List Prop
 |none,ps=>ps
 |some g,ps=>ps.map λp=>g=true->p
def Qu:Option Bool->T->T
 |none,x=>x
 |some g,x=>.may g x
def put (dst:Option Tmp) (x:T) (e:Env):Env:=
 match dst with
 |some d=>(0,d,x)::e
 |none=>e
def Qv:Option Bool->Env->Bool
 |none,_=>true
 |some _,[]=>true
 |some _,_=>false
inductive Fin' where
 |go (vc hyp:List Prop) (wr:Env) (o:Orc)
 |pan (vc:List Prop) (v:Value) (wr:Env) (o:Orc)
 |bad
def Nm (nt:Nat):Option Tmp->Bool
 |none=>true
 |some d=>Nat.blt d nt&&Nat.blt d FAR
def Eg (dst:Option Tmp):Option Bool×Done->Fin'
 |(g,.go vc hyp val wr o)=>bif Qv g wr&&Nm nt dst then .go (Qt g vc) (Qt g hyp) (put dst (Qu g val) wr) o else .bad
 |(none,.pan vc v wr o)=>.pan vc v wr o
 |(some _,.pan _ _ _ _)=>.bad
def Ajt (k:Orc->Env->Prop) (kp:Value->Orc->Env->Prop) (e:Env):Fin'->Prop
 | .go vc hyp wr o=>Nh vc (Zj hyp (k o (wr++e)))
 | .pan vc v wr o=>Nh vc (kp v o (wr++e))
 | .bad=>False
def evX (e:Env):Operand->T
 | .tmp t=>bif Nat.blt t FAR then e.get 0 t else .any
 | .const v=>.d (.c (.v v))
 |_=>.any
def Af4 (o:Oper):Orc->Option (Nat×(List Int->Orc)×Orc)
 | .each f oz=>match o.op,o.guard with
  | .next (.tmp it) false,none=>some (it,f,oz)
  |_,_=>none
 |_=>none
def Af5 (dst:Option Tmp) (it:Nat) (f:List Int->Orc) (oz:Orc) (e:Env) (k:Orc->Env->Prop):Prop:=
 match dst,evX e (.tmp it) with
 |some d,.it id=>match e.get 2 id with
  | .mitc kn ag dom val h _=>ifB (Nat.blt d nt&&Nat.blt d FAR) ((∀key,Zg dom h key->k (f key) ((0,d,.tup [.c (Cb true),Zh kn key,Zi ag (val key)])::(2,id,.mitc kn ag dom val (h++[key]) (some key))::e))/\
    (Vp dom h->k oz ((0,d,.tup [.c (Cb false)])::e)))
  |_=>False
 |_,_=>False
def Dd (id:Nat):Env->Env
 | []=>[]
 |(t,k,x)::r=>(t,k,bif (t.beq 2&&k.beq id)||t.beq (id+3)||(!t.beq 1&&!t.beq 2&&Ia id (Aj x)) then .any else x)::Dd id r
def Wl (id:Nat):Env->Bool
 | []=>true
 |(t,_,x)::r=>(Nat.blt t (FAR+3)||!Ia id (Aj x))&&Wl id r
def apOf (o:Oper):Orc->Option (Operand×Operand×TypeId×Orc)
 | .ap t o'=>match Nl t o.dst,o.op,o.guard with
  |true,.call { callee:=.builtin .append,args,argTypes },none=>match args.toList,argTypes.toList with
   | [p,q],[t,t']=>bif t.beq t' then some (p,q,t,o') else none
   |_,_=>none
  |_,_,_=>none
 |_=>none
def apP (dst:Option Tmp) (p q:Operand) (t:TypeId) (e:Env) (k:Env->Prop):Prop:=
 match dst,(Y t).kind,evX e p,(evX e q).elems? with
 |some d,.slice el,.arr id n,some (m,g)=>match e.get 2 id with
  | .arrc false sz n' f=>ifB (Nat.blt d nt&&Nat.blt d FAR&&Nat.blt id FAR&&sz.beq 1&&(Y el).known&&(Y el).size.beq 1&&(g 0).length.beq 1&&Wl id e&&!Iy ((Dd id e).get 2 d))
    (n=n'/\0<m/\(n+m)*(Y el).bytes<=140737488355328/\n+m<=140737488355328/\k ((0,d,.arr d (n+m))::(2,d,.arrc false 1 (n+m) (An n f g))::Dd id e))
  |_=>False
 |_,_,_,_=>False
def Te (ops:Array Oper):List Oper->(Orc->Env->Prop)->(Value->Orc->Env->Prop)->Orc->Env->Prop
 | [],k,_,d9,e=>k d9 e
 |o::r,k,kp,d9,e=>match Af4 o d9 with
  |some (it,f,oz)=>Af5 nt o.dst it f oz e λo' e'=>Te ops r k kp o' e'
  |none=>match apOf o d9 with
  |some (p,q,t,o')=>apP Y nt o.dst p q t e λe'=>Te ops r k kp o' e'
  |none=>match (Oz Comp Comp2 Y yd ops o d9).run e.get [] with
   |some (x,_)=>Ajt (λo' e'=>Te ops r k kp o' e') kp e (Eg nt o.dst x)
   |none=>False
def Wm (ks h h':List (List Int)):Prop:=h.length<h'.length/\h'.Nodup/\∀x∈h',x∈ks
def Af7 (ks:List (List Int)) (id:Nat) (h:List (List Int)) (st:List (List Int)->Env) (e:Env):Prop:=
 match e.get 2 id with
 | .mitc _ _ _ _ h' _=>Wm ks h h'/\le e (st h')
 |_=>False
abbrev Ic:=List (Nat×Nat)×List (Nat×Nat)
def Tf:List (Nat×Nat)->List (Nat×Nat)->Bool
 | [],_=>false
 |(t,k)::r,l=>Bz t k l||Tf r l
def Af8 (i:Nat):List Edge->Bool
 | []=>false
 |e::r=>(Region.binds .any e&&e.on.beq i)||Af8 i r
def addN (i:Nat) (l:List Nat):List Nat:=bif Ia i l then l else i::l
def Af9:List Nat->List Nat->List Nat
 | [],l=>l
 |i::r,l=>addN i (Af9 r l)
def Tg (acc:List (List Nat)):List Edge->List Nat
 | []=>[]
 |e::r=>bif Region.binds .any e then addN e.on (Af9 (acc.getD e.on []) (Tg acc r)) else Tg acc r
def Id:List Oper->List (List Nat)->List (List Nat)
 | [],acc=>acc
 |o::os,acc=>Id os (acc++[Tg acc o.after.toList])
def Aa5 (i:Nat) (x:Ic):List (List Nat)->List Ic->Bool
 |a::as,y::ys=>(Ia i a||(!Tf x.2 y.1&&!Tf x.2 y.2&&!Tf y.2 x.1))&&Aa5 i x as ys
 |_,_=>true
def Nn:Nat->List Oper->Bool
 |_,[]=>true
 |i,o::os=>o.after.toList.all (λe=>!Region.binds .any e||Nat.blt e.on i)&&Nn (i+1) os
def Np:Nat->List (List Nat)->List Ic->Bool
 |i,_::as,x::xs=>Aa5 i x as xs&&Np (i+1) as xs
 |_,_,_=>true
def Th:Nat->List Nat->Bool
 |0,_=>true
 |n+1,l=>Ia n l&&Th n l
def Aju (r:List Oper) (b:Bool) (q:Prop):Prop:=
 match r with
 | []=>ifB b q
 |_=>False
def Ajv (k:Ic->Orc->Env->Prop) (kp:List Prop->Value->Orc->Env->Prop) (rd:List (Nat×Nat)) (e:Env):Fin'->Prop
 | .go vc hyp wr o=>Nh vc (Zj hyp (k (rd,Bf wr) o (wr++e)))
 | .pan vc v wr o=>kp vc v o (wr++e)
 |_=>False
def Ti (ops:Array Oper):List Oper->List Ic->(Orc->Env->Prop)->(Value->Orc->Env->Prop)->Orc->Env->Prop
 | [],tr,k,_,d9,e=>ifB (Nn 0 ops.toList&&Np 0 (Id ops.toList []) tr.reverse) (k d9 e)
 |o::r,tr,k,kp,d9,e=>match (Oz Comp Comp2 Y yd ops o d9).run e.get [] with
  |some (x,rd)=>Ajv (λft o' e'=>Ti ops r (ft::tr) k kp o' e') (λvc v o' e'=>Aju r (Nn 0 ops.toList&&Np 0 (Id ops.toList []) tr.reverse&&Th tr.length ((Id ops.toList []).getD tr.length [])) (Nh vc (kp v o' e'))) rd e (Eg nt o.dst x)
  |none=>False
inductive X where
 |normal|exit (id:Nat)|ret|panic (v:Value)
abbrev Dp:=X->Orc->Env->Prop
def X.seq (b:Orc->Env->Prop) (Q:Dp):Dp
 | .normal,o,e=>b o e
 |x,o,e=>Q x o e
def X.blk (id:Nat) (Q:Dp):Dp
 | .exit i,o,e=>bif i.beq id then Q .normal o e else Q (.exit i) o e
 |x,o,e=>Q x o e
def Ajw (x:T) (d9:Orc) (p q:Orc->Prop):Prop:=
 match x,d9 with
 | .d (.c (.v (.bool b))),.br o o'=>(b=true->p o)/\(b=false->q o')
 | .d (.c (.v (.bool b))),.tt o=>b=true/\p o
 | .d (.c (.v (.bool b))),.ff o=>b=false/\q o
 |_,_=>False
def Qw (body:Dp->Orc->Env->Prop) (Q:Dp):Nat->Orc->Env->Prop
 |0,_,_=>False
 |n+1,o,e=>match o with
  | .cut e0 o=>le e e0/\body (X.seq (λo' e'=>Qw body Q n o' e') Q) o e0
  |o=>body (X.seq (λo' e'=>Qw body Q n o' e') Q) o e
def Em:Env->Env
 | []=>[]
 |(0,t,x)::r=>bif Nat.blt t FAR then (0,t,x)::(0,t+FAR,x)::Em r else (0,t,x)::Em r
 |p::r=>p::Em r
def back:Env->Env
 | []=>[]
 |(0,t,x)::r=>bif Nat.blt t FAR then back r else bif Nat.blt t (FAR+FAR) then (0,t - FAR,x)::back r else back r
 |p::r=>p::back r
def Js:Env->Bool
 | []=>true
 |(0,t,_)::r=>Nat.blt t FAR&&Js r
 |_::r=>Js r
def params (nt:Nat):List Tmp->List T->Env->Option Env
 | [],[],acc=>some acc
 |t::ts,x::xs,acc=>bif Nat.blt t nt&&Nat.blt t FAR then params nt ts xs ((0,t,x.dem)::acc) else none
 |_,_,_=>none
def Wn (nt:Nat) (ps:List Tmp) (xs:List T) (k:Env->Prop):Prop:=
 match params nt ps xs [] with
 |some r=>ifB (Du xs) (k r)
 |none=>False
def X.round (more:Env->Prop) (stop:Prop) (Q:Dp):Dp
 | .normal,_,e=>more e
 | .exit i,o,e=>stop/\Q (.exit i) o (back e)
 | .ret,o,e=>stop/\Q .ret o (back e)
 | .panic _,_,_=>False
def Nq (f:FuncId) (xs ys:List T) (y:Nat->Yd) (m:Nat) (s:Nat):Prop:=
 ∀l,Comp2 (y l) f (xs++.yl l::ys) [(0,BIG,.tr 0)] (.ret (.tup [])) [(0,BIG,.tr (min m (s+1)))]
def Wo:List (Nat×Nat)->Bool
 | []=>true
 |(_,k)::r=>Nat.ble FAR k&&Wo r
def Afa (rho:List (Nat×Nat)) (c9 e:Env):Prop:=
 match (Tb (Aq rho c9)).run e.get [] with
 |some (ps,_)=>Mb ps
 |none=>False
def Wp (o:Orc) (f:Orc->Prop):Prop:=
 match o with
 | .ite c a b=>(c=true->f a)/\(c=false->f b)
 |o=>f o
def Ajx {o:Orc} {f:Orc->Prop} (h:Wp o f):∃o',f o':=by
 unfold Wp at h;split at h
 ·rename_i c a b;cases c with
  |true=>exact⟨_,h.1 rfl⟩
  |false=>exact⟨_,h.2 rfl⟩
 ·exact⟨_,h⟩
def X.only (b:Orc->Env->Prop):Dp
 | .normal,o,e=>b o e
 |_,_,_=>False
def wp:Bool->Code->Dp->Orc->Env->Prop
 |_,.skip,Q,o,e=>Q .normal o e
 |_,.label _,Q,o,e=>Q .normal o e
 |_,.region _ ops xl,Q,o,e=>match xl with
  |false=>Te Comp Comp2 Y nt yd ops ops.toList (Q .normal) (λv=>Q (.panic v)) o e
  |true=>Ti Comp Comp2 Y nt yd ops ops.toList [] (Q .normal) (λv=>Q (.panic v)) o e
 |b,.seq x y,Q,o,e=>wp b x (X.seq (wp b y Q) Q) o e
 |b,.cond c x y,Q,o,e=>Ajw (evX e c) o (λo=>wp b x Q o e) (λo=>wp b y Q o e)
 |b,.block id c,Q,o,e=>wp b c (X.blk id Q) o e
 |b,.scope c,Q,o,e=>wp b c Q o e
 |_,.exit id,Q,o,e=>Q (.exit id) o e
 |_,.ret,Q,o,e=>Q .ret o e
 |b,.loop c,Q,o,e=>match o with
  | .loop n st ob=>le e (st 0)/\∀k,k<=n->Wp (ob k) λo=>wp b c (X.seq (λ_ e'=>k<n/\le e' (st (k+1))) Q) o (st k)
  | .un n o=>Qw (λQ' o e=>wp b c Q' o e) Q n o e
  | .lg ks id st ob=>le e (st [])/\∀h,h.Nodup->(∀x∈h,x∈ks)->wp b c (X.seq (λ_ e'=>Af7 ks id h st e') Q) (ob h) (st h)
  | .pe o n st ob=>wp b c (X.seq (λ_ e'=>le e' (st 0)/\∀k,k<=n->Wp (ob k) λo=>wp b c (X.seq (λ_ e'=>k<n/\le e' (st (k+1))) Q) o (st k)) Q) o e
  |_=>False
 |false,.rangeFunc g ps iq c,Q,o,e=>match o,evX e g with
  | .rf m s ys st ob o',.fn f fst f8=>match (Fh (fst++f8)).run e.get [] with
   |some ((xs,[],[]),_)=>yd.m=0/\ifB (Du xs) (Nq Comp2 f (xs.take fst.length) (xs.drop fst.length) (λl=>⟨l,m,s,ys⟩) m s)/\
     ifB (Js (st 0)) (le e (st 0))/\
     (∀p,p<m->p<=s->Wn nt ps.toList (ys p) λpe=>ifB (Js (st p)) (wp true iq (X.only λo e=>wp true c (X.round (λe'=>p<s/\le (back e') (st (p+1))) (p=s) Q) o e) (ob p) (pe++Em (st p))))/\
     (m<=s->Q .normal o' (st m))
   |_=>False
  | .w rho xs c9 _ _ (.rf m s ys st ob o'),.fn f fst f8=>yd.m=0/\
    ifB (Gc rho&&Ce rho c9&&Fm rho xs&&Gb c9 c9&&Wo rho) (Mb (Cj (fst++f8) (Ea rho xs))/\m<=s/\(∀l,Comp2 ⟨l,m,s,ys⟩ f (xs.take fst.length++.yl l::xs.drop fst.length) c9 (.new (.yl l) []) [])/\∀p,p<=m->Afa rho c9 (st p))/\
     ifB (Js (st 0)) (le e (st 0))/\
     (∀p,p<m->p<=s->Wn nt ps.toList (ys p) λpe=>ifB (Js (st p)) (wp true iq (X.only λo e=>wp true c (X.round (λe'=>p<s/\le (back e') (st (p+1))) (p=s) Q) o e) (ob p) (pe++Em (st p))))/\
     Q .normal o' (st m)
  |_,_=>False
 |_,_,_,_,_=>False
def Mc (Y:TypeId->Ty):List ResultVar->M (List D×Gv)
 | []=>.ret ([],[],[])
 | .tmp t::r=>(ev0 (.tmp t)).bind λx=>match x with
  | .d (.rd _)=>.fail
  | .d d=>(Mc Y r).bind λds=>.ret (d.dem::ds.1,ds.2)
  | .arr id n=>(Gw (.arr id n)).bind λp=>(Mc Y r).bind λds=>.ret (.c p.1::ds.1,p.2.add ds.2)
  | .mp id=>(Gw (.mp id)).bind λp=>(Mc Y r).bind λds=>.ret (.c p.1::ds.1,p.2.add ds.2)
  |_=>.fail
 | .cell a ty::r=>(ev0 (.tmp a)).bind λx=>(So (Y ty) x).bind λo=>match o.hyp,o.val with
  | [],.d d=>(Mc Y r).bind λds=>.ret (d.dem::ds.1,Gv.add (o.vc,o.wr) ds.2)
  |_,_=>.fail
def outT:List D->T
 | [d]=>.d d
 |ds=>.tup ds
def outR (own:Bool) (rs:List ResultVar):M (T×Gv):=
 match own,rs with
 |true,[.tmp t]=>(ev0 (.tmp t)).bind λx=>match x with
  | .fn f a b=>(Fh a).bind λp=>(Fh b).bind λq=>bif Du p.1&&Du q.1 then .ret (.fn f p.1 q.1,p.2.add q.2) else .fail
  | .arr id n=>bif Nat.blt id FAR then .look 2 id λo=>match o with
   | .arrc false sz m f=>.ret (.own sz n f,[n=m],[])
   |_=>.fail
   else .fail
  | .d (.c (.s (.t k) n f))=>.look 1 k λo=>match o with
   | .tok el=>.ret (.tkd el (Y el).size n f,[],[])
   |_=>.fail
  |_=>.fail
 |true,[.cell a ty]=>(ev0 (.tmp a)).bind λx=>match x,(Y ty).agg with
  | .addr id k,some true=>(Ow id (Y ty).size k).bind λxs=>bif Du xs then .ret (.ag xs,[],[]) else .fail
  |_,_=>.fail
 |_,rs=>(Mc Y rs).bind λp=>.ret (outT p.1,p.2)
def Aa7:Res->Bool
 | .ret (.own _ _ _)=>true
 | .ret (.tkd _ _ _ _)=>true
 | .ret (.fn _ _ _)=>true
 | .ret (.ag _)=>true
 |_=>false
def entry:Nat->List T->Env
 |_,[]=>[]
 |i,x::r=>(0,i,x.dem)::entry (i+1) r
def Md (fn:Func) (own:Bool) (R:Res->Env->Prop):Dp
 | .normal,_,e| .ret,_,e=>match (outR Y own fn.results.toList).run e.get [] with
  |some ((x,g),_)=>Nh g.1 (R (.ret x) (g.2++e))
  |none=>False
 | .panic v,_,e=>R (.pan v) e
 | .exit _,_,_=>False
def Afb (c9:Env):T->Bool
 | .d _=>true
 | .yl _=>true
 | .fn _ a b=>Jr c9 (Bo a++Bo b)
 | .addr id _=>Iy (c9.get 2 id)
 | .arr id _=>Iy (c9.get 2 id)
 | .mp id=>Iy (c9.get 2 id)
 | .ag xs=>Jr c9 (Bo xs)
 |_=>false
def Hk (c9:Env):List T->Bool
 | []=>true
 |x::r=>Afb c9 x&&Hk c9 r
def En:Env->Bool
 | []=>true
 |(0,k,x)::r=>k.beq BIG&&La x&&En r
 |(1,_,_)::_=>false
 |(2,k,x)::r=>Nat.ble FAR k&&Cv x&&En r
 |(_+3,_,_)::r=>En r
def Ie (c9:Env):Env->Bool
 | []=>true
 |(0,k,x)::r=>k.beq BIG&&La x&&Ie c9 r
 |(1,_,_)::_=>false
 |(2,k,x)::r=>Ib x (c9.get 2 k)&&Ie c9 r
 |(t+3,k,_)::r=>Iy (c9.get (t+3) k)&&Ie c9 r
def Wq (fn:Func) (args:List T) (d9:Orc) (own:Bool) (R:Res->Prop):Prop:=
 match fn.body with
 |some c=>ifB (Nat.ble args.length fn.ntmps&&Nat.ble fn.ntmps FAR&&Hk [] args) (wp Comp Comp2 Y fn.ntmps yd false c (Md Y fn own λr _=>R r) d9 (entry 0 args))
 |none=>False
def Wr (fn:Func) (args:List T) (c9 post:Env) (d9:Orc) (R:Res->Prop):Prop:=
 match fn.body with
 |some c=>ifB (Nat.ble args.length fn.ntmps&&Nat.ble fn.ntmps FAR&&Hk c9 args&&En c9&&Ie c9 post) (wp Comp Comp2 Y fn.ntmps yd false c (Md Y fn false λr e=>R r/\le e (Af post c9)) d9 (entry 0 args++c9))
 |none=>False
end
open Go Go.RowKit
structure Marks where
 l:List Nat
 nd:l.Nodup
instance:Membership Nat Marks:=⟨λm D=>D∈m.l⟩
inductive Tk where
 |o (k:Nat)
 |s (b j:Nat)
deriving DecidableEq
instance:Coe Nat Tk:=⟨Tk.o⟩
structure Gh where
 vis:Nat->Nat
 bk:Nat->Nat
 tk:Tk->Option Nat
 H:Nat->Prop
 dm:Marks
def Br (kn:Nat) (v:Value):Option (List Int):=
 match kn,v with
 |0,.int .i64 n=>some [n]
 |n+1,.agg cs=>match Hy (vsC cs.toList) with
  |some l=>bif l.length.beq (n+1) then some l else none
  |none=>none
 |_,_=>none
def Gx (ag:Bool) (v:Value):List Value:=
 match ag,v with
 |true,.agg cs=>cs.toList
 |true,_=>[]
 |false,v=>[v]
def Pb (ag:Bool) (v:Value):Prop:=
 match ag with
 |true=>∃cs,v=.agg cs
 |false=>v.oneCell'=true
def Tj (es:Array MapEntry) (m9:Nat):Prop:=(∀e,e∈es.toList->e.born<m9)/\(es.toList.map (·.born)).Nodup
def Ajy (cl:Nat):Tj #[] cl:=⟨λe h=>(by simp at h),by simp⟩
def Aso {es:Array MapEntry} {cl:Nat} (h:Tj es cl) (key val:Value):Tj (es.push { key:=key,val:=val,born:=cl }) (cl+1):=by
 refine⟨λe he=>?_,?_⟩
 ·rw[Array.toList_push]at he;rcases cP.1 he with h1|h1
  ·have:=h.1 e h1;omega
  grind
 ·rw[Array.toList_push,List.map_append,List.nodup_append];refine⟨h.2,by simp,λx hx y hy=>?_⟩;obtain⟨e,he,rfl⟩:=dL.1 hx;have h1:=h.1 e he;grind
def Asp {es:Array MapEntry} {cl:Nat} (h:Tj es cl) (i:Nat) (f:MapEntry->MapEntry) (hb:∀e,(f e).born=e.born):Tj (es.modify i f) cl:=by
 have e:(es.modify i f).toList.map (·.born)=es.toList.map (·.born):=by
  apply fZ;intro j;rw[bQ,bQ,bD,bD,Array.getElem?_modify];split
  ·grind
  ·rfl
 refine⟨λx hx=>?_,by rw[e];exact h.2⟩;have h1:x.born∈(es.modify i f).toList.map (·.born):=dL.2 ⟨x,hx,rfl⟩;rw[e]at h1;obtain⟨y,hy,h2⟩:=dL.1 h1;rw[<-h2];exact h.1 y hy
def Nr (kn:Nat) (es:Array MapEntry) (m9:Nat) (dom:List Int->Bool):Prop:=
 (∀(i:Nat) e,es[i]?=some e->∃k,Br kn e.key=some k/\dom k=true)/\(∀k,dom k=true->∃(i:Nat) (e:MapEntry),es[i]?=some e/\Br kn e.key=some k)/\
 (∀(i j:Nat) e e' k,es[i]?=some e->es[j]?=some e'->Br kn e.key=some k->Br kn e'.key=some k->i=j)/\Tj es m9
inductive Rep (vis:Nat->Nat) (w:World):C->Value->Prop
 |v (x:Value) (h:x.oneCell'=true):Rep vis w (.v x) x
 |nil (g:Tag) (f:Nat->List C):Rep vis w (.s g 0 f) (.slice none 0 0)
 |e (g:Tag) (f:Nat->List C) (a:Addr):Rep vis w (.s g 0 f) (.slice (some a) 0 0)
 |s (g:Tag) (n:Nat) (f:Nat->List C) (b off cap sz:Nat) (u:Nat->Nat->Value) (hn:n<=cap) (hc:cap<=maxLen)
   (hz:∀i,i<n->(f i).length=sz) (hv:off+n*sz<=vis b)
   (hu:∀i j c,i<n->(f i)[j]?=some c->w.cell? ⟨b,off+i*sz+j,none⟩=some (u i j))
   (hr:∀i j c,i<n->(f i)[j]?=some c->Rep vis w c (u i j)):Rep vis w (.s g n f) (.slice (some ⟨b,off,none⟩) n cap)
 |m (kn:Nat) (ag:Bool) (dom:List Int->Bool) (val:List Int->List C) (b:Nat) (es:Array MapEntry) (m9:Nat) (hv:0<vis b) (hh:w.heap[b]?=some (.map es m9)) (hk:Nr kn es m9 dom)
   (hs:∀(i:Nat) e k,es[i]?=some e->Br kn e.key=some k->Pb ag e.val/\(val k).length=(Gx ag e.val).length)
   (hr:∀(i j:Nat) e k c u,es[i]?=some e->Br kn e.key=some k->(val k)[j]?=some c->(Gx ag e.val)[j]?=some u->Rep vis w c u):Rep vis w (.m kn ag dom val) (.map (some b))
 |p (cs:List C) (b off:Nat) (u:Nat->Value) (hv:off+cs.length<=vis b) (hu:∀(j:Nat) c,cs[j]?=some c->w.cell? ⟨b,off+j,none⟩=some (u j))
   (hr:∀(j:Nat) c,cs[j]?=some c->Rep vis w c (u j)):Rep vis w (.p cs) (.pointer (some ⟨b,off,none⟩))
 |i (t:TypeId) (ag:Bool) (cs:List C) (v:Value) (hs:Pb ag v) (hl:cs.length=(Gx ag v).length)
   (hr:∀(j:Nat) c u,cs[j]?=some c->(Gx ag v)[j]?=some u->Rep vis w c u):Rep vis w (.i t ag cs) (.iface t v)
 |u (x:Value) (h:x.oneCell'=true):Rep vis w .u x
def Aw (vis:Nat->Nat) (w:World) (cs:List C) (vs:List Value):Prop:=
 cs.length=vs.length/\∀(j:Nat) c v,cs[j]?=some c->vs[j]?=some v->Rep vis w c v
def Lb (vis:Nat->Nat) (w:World) (O:Nat->Prop) (cs:List C) (v:Value):Prop:=
 ∃b off,v=.pointer (some ⟨b,off,none⟩)/\(∀(j:Nat) c,cs[j]?=some c->∃u,w.cell? ⟨b,off+j,none⟩=some u/\Rep vis w c u)/\(O b∨off+cs.length<=vis b)
def Av (vis:Nat->Nat) (w:World) (O:Nat->Prop):D->Value->Prop
 | .c x,v=>Rep vis w x v
 | .agg xs,v=>∃vs:Array Value,v=.agg vs/\Aw vis w xs vs.toList
 | .rd xs,v=>Lb vis w O xs v
def Jt (vis:Nat->Nat) (w:World) (O:Nat->Prop) (xs:List D) (vs:List Value):Prop:=
 xs.length=vs.length/\∀(j:Nat) x v,xs[j]?=some x->vs[j]?=some v->Av vis w O x v
def CapR (w:World) (b cap:Nat):Prop:=∃cs t z,w.heap[b]?=some (.cells cs t z)/\cap<=cs.size
mutual
def Aa (G:Gh) (w:World) (O:Nat->Prop):T->Value->Prop
 | .d x,v=>Av G.vis w O x v
 | .tup xs,v=>∃vs:Array Value,v=.tuple vs/\Jt G.vis w O xs vs.toList
 | .addr id k,v=>v=.pointer (some ⟨G.bk id,k,none⟩)
 | .fn f a b,v=>∃us vs:Array Value,v=.func (.func f) us vs/\Ac G w O a us.toList/\Ac G w O b vs.toList
 | .may b x,v=>(b=true->Aa G w O x v)/\(b=false->v=undef)
 | .arr id n,v=>(n=0/\v=.slice none 0 0)∨∃cap,v=.slice (some ⟨G.bk id,0,none⟩) n cap/\n<=cap/\cap<=maxLen/\CapR w (G.bk id) cap
 | .elt id i sz off,v=>v=.pointer (some ⟨G.bk id,i*sz+off,none⟩)
 | .mp id,v=>v=.map (some (G.bk id))
 | .it id,v=>v=.pointer (some ⟨G.bk id,0,none⟩)
 | .nx b xs,v=>(b=true->∃vs:Array Value,v=.tuple vs/\Jt G.vis w O (.c (Cb true)::xs) vs.toList)/\(b=false->v=.tuple #[.bool false])
 | .yl l,v=>v=.func (.yield l) #[] #[]
 | .ag xs,v=>∃vs:Array Value,v=.agg vs/\Ac G w O xs vs.toList
 | .tpl xs,v=>∃vs:Array Value,v=.tuple vs/\Ac G w O xs vs.toList
 | .pt x,v=>∃b u,v=.pointer (some ⟨b,0,none⟩)/\0<G.vis b/\w.cell? ⟨b,0,none⟩=some u/\Aa G w O x u
 | .any,_=>True
 | .tr _,_=>True
 |_,_=>False
def Ac (G:Gh) (w:World) (O:Nat->Prop):List T->List Value->Prop
 | [],vs=>vs=[]
 |x::xs,vs=>∃v us,vs=v::us/\Aa G w O x v/\Ac G w O xs us
end
def Own (G:Gh) (w:World) (Y:TypeId->Ty) (k e n:Nat) (f:Nat->List C) (v:Value):Prop:=
 (∀i,i<n->(f i).length=(Y e).size)/\(v=.slice none 0 0∨((n=0∨FAR<=k)/\∃a,v=.slice a n n)∨
 ∃b xs,G.tk k=some b/\v.ownBlock=some b/\w.ownsRow 0 e (Y e).size v n xs/\G.vis b=n*(Y e).size)
def Kh (G:Gh) (w:World) (Y:TypeId->Ty) (e:Env):T->Value->Prop
 | .d (.c (.s (.t k) n f)),v=>∀el,e.get 1 k=As el->Own G w Y k el n f v
 | .may b x,v=>b=true->Kh G w Y e x v
 |_,_=>True
def Ey (p:T->Prop):T->Prop
 | .may b x=>b=true->Ey p x
 |x=>p x
theorem Ey.imp {p q:T->Prop} (h:∀x,p x->q x):∀{x:T},Ey p x->Ey q x
 | .may b x,hx=>λhb=>Ey.imp h (hx hb)
 | .d _,hx| .tup _,hx| .addr _ _,hx| .fn _ _ _,hx| .any,hx| .tok _,hx| .arr _ _,hx| .elt _ _ _ _,hx| .mp _,hx| .it _,hx| .nx _ _,hx| .yl _,hx| .ag _,hx| .tpl _,hx| .pt _,hx
 | .own _ _ _,hx| .tkd _ _ _ _,hx| .arrc _ _ _ _,hx| .mapc _ _ _ _ _,hx| .itc _ _,hx| .mitc _ _ _ _ _ _,hx| .tr _,hx| .arro _ _ _ _ _,hx=>h _ hx
structure VOK (G:Gh) (w:World) (O:Nat->Prop) (Y:TypeId->Ty) (e:Env) (x:T) (v:Value):Prop where
 rel:Aa G w O x v
 own:Kh G w Y e x v
 ids:Ey (λx=>∀id,id∈Aj x->e.get 2 id≠.any) x
 tok:Ey (λx=>∀k,k∈Ck x->e.get 1 k≠.any) x
def Ns (cs:Array Value) (z:Nat×Nat):Prop:=z.2=0∨cs.size<=z.1
def RowR (vis:Nat->Nat) (w:World) (sz n:Nat) (f:Nat->List C) (cs:Array Value):Prop:=
 n*sz<=cs.size/\∀i,i<n->(f i).length=sz/\∀(j:Nat) c,(f i)[j]?=some c->∃u,cs[i*sz+j]?=some u/\Rep vis w c u
def Pc (vis:Nat->Nat) (w:World) (kn:Nat) (ag:Bool) (dom:List Int->Bool) (val:List Int->List C) (es:Array MapEntry) (m9:Nat):Prop:=
 Nr kn es m9 dom/\∀(i:Nat) e k,es[i]?=some e->Br kn e.key=some k->Pb ag e.val/\Aw vis w (val k) (Gx ag e.val)
def Lc (G:Gh) (w:World) (el sz b j m:Nat) (g:Nat->List C) (u:Value):Prop:=
 Rep G.vis w (.s .n m g) u/\(∀i,i<m->(g i).length=sz)/\(u=.slice none 0 0∨(m=0/\∃a,u=.slice a m m)∨
 ∃bb xs,G.tk (.s b j)=some bb/\u.ownBlock=some bb/\w.ownsRow 0 el sz u m xs/\G.vis bb=m*sz)
def Bk (G:Gh) (w:World):T->Nat->Prop
 | .tup [],b=>G.vis b=0/\∃cs t,w.heap[b]?=some (.cells cs t (0,0))
 | .arrc fz sz n f,b=>(∃cs t z,w.heap[b]?=some (.cells cs t z)/\Ns cs z/\RowR G.vis w sz n f cs)/\0<sz/\(fz=true->n*sz<=G.vis b)/\(fz=false->G.vis b=0)
 | .mapc fz kn ag dom val,b=>(∃es m9,w.heap[b]?=some (.map es m9)/\Pc G.vis w kn ag dom val es m9)/\(fz=true->0<G.vis b)/\(fz=false->G.vis b=0)
 | .itc s pos,b=>G.vis b=0/\w.heap[b]?=some (.stringIter s pos)
 | .mitc kn ag dom val h cur,b=>G.vis b=0/\∃mb es cl seen c0,w.heap[b]?=some (.mapIter (some mb) cl seen c0)/\cl<=c0/\0<G.vis mb/\w.heap[mb]?=some (.map es cl)/\Pc G.vis w kn ag dom val es cl/\
   (∀x∈h,dom x=true)/\h.Nodup/\(∀e∈es.toList,∀k,Br kn e.key=some k->(seen.contains e.born=true↔k∈h))/\(∀k,cur=some k->∃e∈es.toList,Br kn e.key=some k/\c0=cl/\∃s0,seen=Array.push s0 e.born)
 | .arro el sz n f out,b=>G.vis b=0/\0<sz/\∃cs t,w.heap[b]?=some (.cells cs t (0,0))/\n<=cs.size/\∀j,j<n->∃u,cs[j]?=some u/\(out≠some j->Lc G w el sz b j (f j).1 (f j).2 u)
 |_,_=>False
structure Mem (Y:TypeId->Ty) (O:Nat->Prop) (m:Env) (w:World) (G:Gh):Prop where
 cells:∀id k,m.get (id+3) k≠.any->m.get 2 id=live/\(m.get (id+3) k).one=true/\∃u,w.cell? ⟨G.bk id,k,none⟩=some u/\VOK G w O Y m (m.get (id+3) k) u
 box:∀id,m.get 2 id≠.any->¬G.H (G.bk id)/\G.bk id<w.heap.size/\Bk G w (m.get 2 id) (G.bk id)
 inj:∀id i5,m.get 2 id≠.any->m.get 2 i5≠.any->G.bk id=G.bk i5->id=i5
structure Same (w w':World):Prop where
 os:w'.os=w.os
 tape:w'.tape=w.tape
 output:w'.output=w.output
 size:w.heap.size<=w'.heap.size
def Same.refl (w:World):Same w w:=⟨rfl,rfl,rfl,aI _⟩
def Same.trans {a b c:World} (h:Same a b) (k:Same b c):Same a c:=⟨k.os.trans h.os,k.tape.trans h.tape,k.output.trans h.output,bJ h.size k.size⟩
structure KeepV (vis:Nat->Nat) (w w':World):Prop where
 cell:∀b i,i<vis b->w'.cell? ⟨b,i,none⟩=w.cell? ⟨b,i,none⟩
 map:∀b,0<vis b->∀es c,w.heap[b]?=some (.map es c)->w'.heap[b]?=some (.map es c)
 rows:∀(b:Nat) (cs:Array Value) (t:TypeId) (z:Nat×Nat),w.heap[b]?=some (.cells cs t z)->∃(az:Array Value) (t':TypeId) (z':Nat×Nat),w'.heap[b]?=some (.cells az t' z')/\cs.size<=az.size
def Me {w w':World} (h:∀b,b<w.heap.size->w'.heap[b]?=w.heap[b]?) (b:Nat) (cs:Array Value) (t:TypeId) (z:Nat×Nat) (hb:w.heap[b]?=some (.cells cs t z)):∃az t' z',w'.heap[b]?=some (.cells az t' z')/\cs.size<=az.size:=
 by grind
def Tm {w w':World} {b0:Nat} {cs0:Array Value} {t0:TypeId} {z0:Nat×Nat} (h:∀b,b≠b0->w'.heap[b]?=w.heap[b]?) (h0:∀cs t z,w.heap[b0]?=some (.cells cs t z)->w'.heap[b0]?=some (.cells cs0 t0 z0)/\cs.size<=cs0.size) (b:Nat) (cs:Array Value) (t:TypeId) (z:Nat×Nat) (hb:w.heap[b]?=some (.cells cs t z)):∃az t' z',w'.heap[b]?=some (.cells az t' z')/\cs.size<=az.size:=by
 grind
def KeepV.refl (vis:Nat->Nat) (w:World):KeepV vis w w:=⟨λ_ _ _=>rfl,λ_ _ _ _ h=>h,λ_ cs t z h=>⟨cs,t,z,h,aI _⟩⟩
def KeepV.trans {vis:Nat->Nat} {a b c:World} (h:KeepV vis a b) (k:KeepV vis b c):KeepV vis a c:=
 ⟨λx i hi=>(k.cell x i hi).trans (h.cell x i hi),λx hx es cl he=>k.map x hx es cl (h.map x hx es cl he),λx cs t z hx=>let ⟨_,_,_,h1,h2⟩:=h.rows x cs t z hx;let ⟨cs'',t'',z'',h3,h4⟩:=k.rows x _ _ _ h1;⟨cs'',t'',z'',h3,bJ h2 h4⟩⟩
def KeepV.le {vis vis':Nat->Nat} {a b:World} (h:KeepV vis a b) (hl:∀b,vis' b<=vis b):KeepV vis' a b:=
 ⟨λx i hi=>h.cell x i (aX hi (hl x)),λx hx=>h.map x (aX hx (hl x)),h.rows⟩
abbrev Oth:=Nat->(Nat->Prop)->(Nat->Nat)->World->Prop
def Oth.Stable (J:Oth):Prop:=(∀p H vi w w',J p H vi w->(∀b,H b->w'.heap[b]?=w.heap[b]?)->KeepV vi w w'->Same w w'->J p H vi w')/\
 ∀p H vi jy w,J p H vi w->(∀b,vi b<=jy b)->(∀b,H b->jy b=vi b)->J p H jy w
structure Cx where
 base:Nat
 vis:Nat->Nat
 fz:Nat->Prop
 J:Oth
 st:J.Stable
 sh:Array Value
 c0:Nat->Nat->Option Value
 bk0:Nat->Nat
def Own1 (X:Cx) (id b:Nat):Prop:=(id<FAR->X.base<=b)/\(FAR<=id->b=X.bk0 id)
def Jb (e:Env) (G:Gh):Tk->Prop
 | .o k=>e.get 1 k≠.any
 | .s b _=>∃id,e.get 2 id≠.any/\G.bk id=b
def Ajz (e e':Env) (G:Gh):Tk->Prop
 | .o k=>∃el,e'.get 1 k=As el
 | .s b _=>∃id,e.get 2 id≠.any/\e'.get 2 id=e.get 2 id/\G.bk id=b
theorem Jb.mono {e e':Env} {G G':Gh} (h1:∀k,e.get 1 k≠.any->e'.get 1 k≠.any) (h2:∀id,e.get 2 id≠.any->e'.get 2 id≠.any/\G'.bk id=G.bk id):∀{c:Tk},Jb e G c->Jb e' G' c
 | .o k,h=>h1 k h
 | .s _ _,⟨id,h3,h4⟩=>⟨id,(h2 id h3).1,(h2 id h3).2.trans h4⟩
def trN:T->Nat
 | .tr p=>p
 |_=>0
def De (sh:Array Value) (a:Act) (t:Nat):Value:=if t<FAR then a.tmps.getD t undef else sh.getD (t - FAR) undef
def Ld (D:Nat):Deferred:={ target:=.collected D,args:=#[] }
structure Rel (Y:TypeId->Ty) (X:Cx) (nt:Nat) (ds:List Deferred) (e:Env) (a:Act) (w:World) (G:Gh):Prop where
 mem:Mem Y X.fz e w G
 size:a.tmps.size=nt
 defers:a.defers=G.dm.l.map Ld++ds
 marks:∀D,D∈G.dm->¬G.H D/\w.heap[D]?=some (.deferred (some []))/\X.base<=D
 slots:∀t,VOK G w X.fz Y e (e.get 0 t) (De X.sh a t)
 tks:∀k b,G.tk k=some b->X.base<=b/\b<w.heap.size/\¬G.H b/\(∃cs t,w.heap[b]?=some (.cells cs t (0,0)))/\∀id,e.get 2 id≠.any->G.bk id≠b
 tinj:∀k k' b,G.tk k=some b->G.tk k'=some b->k=k'
 tlive:∀k b,G.tk k=some b->Jb e G k
 fresh:∀b,w.heap.size<=b->G.vis b=0
 old:∀b,b<X.base->G.vis b=X.vis b
 base:X.base<=w.heap.size
 ownb:∀id,e.get 2 id≠.any->Own1 X id (G.bk id)
 hlt:∀b,G.H b->b<w.heap.size
 fzh:∀b,X.fz b->G.H b
 jj:X.J (trN (e.get 0 BIG)) G.H G.vis w
 far:∀id k,FAR<=id->e.get 2 id=live->e.get (id+3) k=.any->w.cell? ⟨G.bk id,k,none⟩=X.c0 (G.bk id) k
structure Ext (O:Nat->Prop) (G G':Gh) (w w':World):Prop where
 vis:∀b,G.vis b<=G'.vis b
 keep:KeepV G.vis w w'
 old:∀b,O b->w'.heap[b]?=w.heap[b]?
def Ext.refl (O:Nat->Prop) (G:Gh) (w:World):Ext O G G w w:=⟨λ_=>aI _,.refl _ _,λ_ _=>rfl⟩
def Rep.mono' {vis vis':Nat->Nat} {w w':World} (d8:∀b,vis b<=vis' b) (hk:KeepV vis w w') {c:C} {v:Value} (r:Rep vis w c v):Rep vis' w' c v:=by
 induction r with
 |v x h=>exact .v x h
 |nil g f=>exact .nil g f
 |e g f a=>exact .e g f a
 |s g n f b off cap sz u hn hc hz hv hu hr ih=>
  refine .s g n f b off cap sz u hn hc hz (bJ hv (d8 b)) (λi j c hi hj=>?_) (λi j c hi hj=>ih i j c hi hj);rw[hk.cell b _ ?_]
  ·grind
  ·have ol:j<sz:=by grind
   have h1:(i+1)*sz<=n*sz:=aY _ hi;grind
 |m kn ag dom val b es m9 hv hh cw hs hr ih=>exact .m kn ag dom val b es m9 (aX hv (d8 b)) (hk.map b hv es m9 hh) cw hs (λi j e k c u h1 h2 h3 h4=>ih i j e k c u h1 h2 h3 h4)
 |p cs b off u hv hu hr ih=>
  refine .p cs b off u (bJ hv (d8 b)) (λj c hj=>?_) (λj c hj=>ih j c hj);rw[hk.cell b _ (by grind)];grind
 |i t ag cs v hs hl hr ih=>exact .i t ag cs v hs hl λj c u h1 h2=>ih j c u h1 h2
 |u x h=>exact .u x h
theorem Rep.mono {O:Nat->Prop} {G G':Gh} {w w':World} (h:Ext O G G' w w') {c:C} {v:Value} (r:Rep G.vis w c v):Rep G'.vis w' c v:=r.mono' h.vis h.keep
def Aw.mono' {vis vis':Nat->Nat} {w w':World} (d8:∀b,vis b<=vis' b) (hk:KeepV vis w w') {cs:List C} {vs:List Value} (r:Aw vis w cs vs):Aw vis' w' cs vs:=
 ⟨r.1,λj c v hc hv=>(r.2 j c v hc hv).mono' d8 hk⟩
theorem Aw.mono {O:Nat->Prop} {G G':Gh} {w w':World} (h:Ext O G G' w w') {cs:List C} {vs:List Value} (r:Aw G.vis w cs vs):Aw G'.vis w' cs vs:=r.mono' h.vis h.keep
theorem Lb.mono {O:Nat->Prop} {G G':Gh} {w w':World} (h:Ext O G G' w w') {cs:List C} {v:Value} (r:Lb G.vis w O cs v):Lb G'.vis w' O cs v:=by
 obtain⟨b,off,rfl,hc,hb⟩:=r;refine⟨b,off,rfl,λj c hj=>?_,hb.imp id λhb=>bJ hb (h.vis b)⟩;obtain⟨u,h1,h2⟩:=hc j c hj;refine⟨u,?_,h2.mono h⟩;have ol:=(cA.1 hj).1;rcases hb with hb|hb
 ·rw[bF (h.old b hb)];exact h1
 ·rw[h.keep.cell b _ (by omega)];exact h1
theorem Av.mono {O:Nat->Prop} {G G':Gh} {w w':World} (h:Ext O G G' w w') {x:D} {v:Value} (r:Av G.vis w O x v):Av G'.vis w' O x v:=by
 cases x with
 |c x=>exact Rep.mono h r
 |agg xs=>obtain⟨vs,rfl,hr⟩:=r;exact⟨vs,rfl,hr.mono h⟩
 |rd xs=>exact Lb.mono h r
theorem Jt.mono {O:Nat->Prop} {G G':Gh} {w w':World} (h:Ext O G G' w w') {xs:List D} {vs:List Value} (r:Jt G.vis w O xs vs):Jt G'.vis w' O xs vs:=
 ⟨r.1,λj c v hc hv=>(r.2 j c v hc hv).mono h⟩
theorem Gy {p:Nat->Prop}:∀{x:T},(∀id,id∈Aj x->p id)->Ey (λx=>∀id,id∈Aj x->p id) x
 | .may b x,h=>λ_=>Gy (x:=x) (λid d6=>h id (by trivial))
 | .d _,h| .tup _,h| .addr _ _,h| .fn _ _ _,h| .any,h| .tok _,h| .arr _ _,h| .elt _ _ _ _,h| .mp _,h| .it _,h| .nx _ _,h| .yl _,h| .ag _,h| .tpl _,h| .pt _,h
 | .own _ _ _,h| .tkd _ _ _ _,h| .arrc _ _ _ _,h| .mapc _ _ _ _ _,h| .itc _ _,h| .mitc _ _ _ _ _ _,h| .tr _,h| .arro _ _ _ _ _,h=>h
mutual
theorem Aa.mono {O:Nat->Prop} {G G':Gh} {w w':World} (h:Ext O G G' w w'):∀{x:T} {v:Value},Ey (λx=>∀id,id∈Aj x->G'.bk id=G.bk id) x->Aa G w O x v->Aa G' w' O x v
 | .d x,v,_,r=>by grind[Aa,Av.mono]
 | .tup xs,v,_,r=>by simp only[Aa]at r ⊢;obtain⟨vs,hv,hr⟩:=r;exact⟨vs,hv,hr.mono h⟩
 | .addr id k,v,hb,r=>by simp only[Aa]at r ⊢;rw[hb id (by simp[Aj])];exact r
 | .fn f a b,v,hb,r=>by
  simp only[Aa]at r ⊢;obtain⟨us,vs,hv,h1,h2⟩:=r;exact⟨us,vs,hv,Ac.mono h (λid d6=>hb id (by simp[Aj,d6])) h1,Ac.mono h (λid d6=>hb id (by simp[Aj,d6])) h2⟩
 | .may b x,v,hb,r=>by
  simp only[Aa]at r ⊢;exact⟨λtj=>Aa.mono h (hb tj) (r.1 tj),r.2⟩
 | .arr id n,v,hb,r=>by
  simp only[Aa]at r ⊢;rw[hb id (by simp[Aj])];rcases r with r|⟨cap,r1,r2,r3,cs,t,z,r4,r5⟩
  ·exact .inl r
  ·obtain⟨az,t',z',r6,r7⟩:=h.keep.rows _ _ _ _ r4;exact .inr ⟨cap,r1,r2,r3,az,t',z',r6,bJ r5 r7⟩
 | .elt id i sz off,v,hb,r=>by simp only[Aa]at r ⊢;rw[hb id (by simp[Aj])];exact r
 | .mp id,v,hb,r=>by simp only[Aa]at r ⊢;rw[hb id (by simp[Aj])];exact r
 | .it id,v,hb,r=>by simp only[Aa]at r ⊢;rw[hb id (by simp[Aj])];exact r
 | .nx b xs,v,_,r=>by
  simp only[Aa]at r ⊢;exact⟨λhb=>by obtain⟨vs,hv,hr⟩:=r.1 hb;exact⟨vs,hv,hr.mono h⟩,r.2⟩
 | .yl l,v,_,r=>by trivial
 | .ag xs,v,hb,r=>by
  simp only[Aa]at r ⊢;obtain⟨vs,hv,hr⟩:=r;exact⟨vs,hv,Ac.mono h (λid d6=>hb id (by trivial)) hr⟩
 | .tpl xs,v,hb,r=>by
  simp only[Aa]at r ⊢;obtain⟨vs,hv,hr⟩:=r;exact⟨vs,hv,Ac.mono h (λid d6=>hb id (by trivial)) hr⟩
 | .pt x,v,hb,r=>by
  simp only[Aa]at r ⊢;obtain⟨b,u,h1,h2,h3,h4⟩:=r;exact⟨b,u,h1,aX h2 (h.vis b),by rw[h.keep.cell b 0 h2];exact h3,Aa.mono h (Gy λid d6=>hb id (by trivial)) h4⟩
 | .any,v,_,_=>by trivial
 | .tr _,v,_,_=>by trivial
 | .tok _,v,_,r=>by trivial
 | .own _ _ _,v,_,r=>by trivial
 | .tkd _ _ _ _,v,_,r=>by trivial
 | .arrc _ _ _ _,v,_,r=>by trivial
 | .mapc _ _ _ _ _,v,_,r=>by trivial
 | .itc _ _,v,_,r=>by trivial
 | .mitc _ _ _ _ _ _,v,_,r=>by trivial
 | .arro _ _ _ _ _,v,_,r=>by trivial
theorem Ac.mono {O:Nat->Prop} {G G':Gh} {w w':World} (h:Ext O G G' w w'):∀{xs:List T} {vs:List Value},(∀id,id∈Bo xs->G'.bk id=G.bk id)->Ac G w O xs vs->Ac G' w' O xs vs
 | [],vs,_,r=>by trivial
 |x::xs,vs,hb,r=>by
  simp only[Ac]at r ⊢;obtain⟨v,us,hv,h1,h2⟩:=r;refine⟨v,us,hv,Aa.mono h ?_ h1,Ac.mono h (λid d6=>hb id (by simp[Bo,d6])) h2⟩;have:∀id,id∈Aj x->G'.bk id=G.bk id:=λid d6=>hb id (by simp[Bo,d6]);exact Gy this
end
theorem Ws {w w':World} {base e size n:Nat} {v:Value} {xs:List Value} {b:Nat} (hb:v.ownBlock=some b) (hw:w'.heap[b]?=w.heap[b]?) (h:w.ownsRow base e size v n xs):w'.ownsRow base e size v n xs:=by
 refine⟨h.1,?_⟩;rcases h.2 with hn|⟨g,cap,cur,rfl,hbg,hg,rest⟩
 ·grind
 ·simp only[Value.ownBlock,aA]at hb;subst hb;exact .inr ⟨_,cap,cur,rfl,hbg,by grind,rest⟩
theorem Own.mono {G G':Gh} {w w':World} {Y:TypeId->Ty} {k e n:Nat} {f:Nat->List C} {v:Value} (hk:∀b,G.tk k=some b->G'.tk k=some b/\w'.heap[b]?=w.heap[b]?/\G'.vis b=G.vis b) (h:Own G w Y k e n f v):Own G' w' Y k e n f v:=by
 refine⟨h.1,?_⟩;rcases h.2 with h|h|⟨b,xs,ht,hv,ho,d8⟩
 ·exact .inl h
 ·grind
 grind[Ws]
theorem Lc.mono {O:Nat->Prop} {G G':Gh} {w w':World} (h:Ext O G G' w w') {el sz b j m:Nat} {g:Nat->List C} {u:Value} (hk:∀bb,G.tk (.s b j)=some bb->G'.tk (.s b j)=some bb/\w'.heap[bb]?=w.heap[bb]?/\G'.vis bb=G.vis bb)
  (s:Lc G w el sz b j m g u):Lc G' w' el sz b j m g u:=by
 refine⟨s.1.mono h,s.2.1,?_⟩;rcases s.2.2 with h|h|⟨bb,xs,ht,hv,ho,d8⟩
 ·exact .inl h
 ·grind
 grind[Ws]
theorem Kh.mono {G G':Gh} {w w':World} {Y:TypeId->Ty} {e e':Env}:∀{x:T} {v:Value},Ey (λx=>∀k,k∈Ck x->∀el,e'.get 1 k=As el->e.get 1 k=As el) x->
  Ey (λx=>∀k,k∈Ck x->∀b,G.tk k=some b->(∃el,e'.get 1 k=As el)->G'.tk k=some b/\w'.heap[b]?=w.heap[b]?/\G'.vis b=G.vis b) x->Kh G w Y e x v->Kh G' w' Y e' x v
 | .d (.c (.s (.t k) n f)),v,he,hk,h=>λel w9=>Own.mono (λb hb=>hk k (by simp[Ck]) b hb ⟨el,w9⟩) (h el (he k (by simp[Ck]) el w9))
 | .may b x,v,he,hk,h=>λhb=>Kh.mono (he hb) (hk hb) (h hb)
 | .d (.c (.s .n _ _)),_,_,_,_| .d (.c (.v _)),_,_,_,_| .d (.c (.m _ _ _ _)),_,_,_,_| .d (.c (.p _)),_,_,_,_| .d (.c (.i _ _ _)),_,_,_,_| .d (.c .u),_,_,_,_| .d (.agg _),_,_,_,_| .d (.rd _),_,_,_,_| .tup _,_,_,_,_| .addr _ _,_,_,_,_| .fn _ _ _,_,_,_,_| .any,_,_,_,_
 | .tok _,_,_,_,_| .arr _ _,_,_,_,_| .elt _ _ _ _,_,_,_,_| .mp _,_,_,_,_| .it _,_,_,_,_| .nx _ _,_,_,_,_| .yl _,_,_,_,_| .ag _,_,_,_,_| .tpl _,_,_,_,_| .pt _,_,_,_,_
 | .own _ _ _,_,_,_,_| .tkd _ _ _ _,_,_,_,_| .arrc _ _ _ _,_,_,_,_| .mapc _ _ _ _ _,_,_,_,_| .itc _ _,_,_,_,_| .mitc _ _ _ _ _ _,_,_,_,_| .tr _,_,_,_,_| .arro _ _ _ _ _,_,_,_,_=>trivial
theorem VOK.mono {O:Nat->Prop} {G G':Gh} {w w':World} {Y:TypeId->Ty} {e e':Env} {x:T} {v:Value} (h:Ext O G G' w w')
  (hb:∀id,e.get 2 id≠.any->G'.bk id=G.bk id) (h2:∀id,e.get 2 id≠.any->e'.get 2 id≠.any)
  (he:∀k,e.get 1 k≠.any->(e'.get 1 k≠.any/\∀el,e'.get 1 k=As el->e.get 1 k=As el))
  (hk:∀k b,e.get 1 k≠.any->G.tk k=some b->(∃el,e'.get 1 k=As el)->G'.tk k=some b/\w'.heap[b]?=w.heap[b]?/\G'.vis b=G.vis b)
  (r:VOK G w O Y e x v):VOK G' w' O Y e' x v:=by
 exact⟨r.rel.mono h (r.ids.imp λx hx id d6=>hb id (hx id d6)),r.own.mono (r.tok.imp λx hx k t8 el w9=>(he k (hx k t8)).2 el w9) (r.tok.imp λx hx k t8 b fj w9=>hk k b (hx k t8) fj w9),
  r.ids.imp λx hx id d6=>h2 id (hx id d6),r.tok.imp λx hx k t8=>(he k (hx k t8)).1⟩
theorem run_bind {α β:Type} (g:Nat->Nat->T) (m:M α) (f:α->M β):∀r,(m.bind f).run g r=match m.run g r with|some (a,r')=>(f a).run g r'|none=>none:=by
 induction m with
 |ret a=>intro r;rfl
 |look t k h ih=>intro r;exact ih _ _
 |fail=>intro r;rfl
def Ah {α β:Type} {g:Nat->Nat->T} {m:M α} {f:α->M β} {r:List (Nat×Nat)} {y:β×List (Nat×Nat)} (h:(m.bind f).run g r=some y):
  ∃a r',m.run g r=some (a,r')/\(f a).run g r'=some y:=by
 grind[run_bind]
def Asq {α:Type} {g g':Nat->Nat->T} (m:M α):∀(r:List (Nat×Nat)) (a:α) (r':List (Nat×Nat)),m.run g r=some (a,r')->
  (∀p∈r,p∈r')/\((∀p∈r',g' p.1 p.2=g p.1 p.2)->m.run g' r=some (a,r')):=by
 induction m with
 |ret a=>grind[M.run]
 |look t k f ih=>
  grind[List.mem_cons_self,M.run]
 |fail=>intro r b r' h;cases h
theorem Am (t k:Nat) (x:T) (e:Env) (a b:Nat):Env.get ((t,k,x)::e) a b=if t=a/\k=b then x else e.get a b:=by
 grind[Env.get,Nat.ne_of_beq_eq_false,Nat.eq_of_beq_eq_true]
theorem Bb {t k:Nat} {x:T} {e:Env} {a b:Nat} (h:¬(t=a/\k=b)):Env.get ((t,k,x)::e) a b=e.get a b:=by rw[Am,bI h]
def Asr {t:Nat} {x:T} {e:Env} {a b:Nat} (h:a≠0):Env.get ((0,t,x)::e) a b=e.get a b:=by grind[Bb]
section
variable {Y:TypeId->Ty} {X:Cx} {nt:Nat} {ds:List Deferred} {e:Env} {a:Act} {w:World} {G:Gh} {O:Nat->Prop}
def VOK.plain {x:T} {v:Value} (h:Aa G w O x v) (h1:Aj x=[]) (h2:Ck x=[]) (h3:Kh G w Y e x v):VOK G w O Y e x v:=
 ⟨h,h3,Gy (by grind),by
  have:∀{x:T},Ck x=[]->Ey (λx=>∀k,k∈Ck x->e.get 1 k≠.any) x:=by
   intro x
   induction x using Ck.induct with
   |case1 b=>intro h;cases h
   |case2 b x ih=>exact λh _=>ih h
   |case3 x h1 h2=>
    intro h;cases x with
    |may b x=>grind
    |_=>intro k hk;grind
  grind⟩
theorem VOK.any (v:Value):VOK G w O Y e .any v:=.plain (by trivial) rfl rfl trivial
theorem VOK.v (x:Value) (h:x.oneCell'=true):VOK G w O Y e (.d (.c (.v x))) x:=.plain (by simp only[Aa];exact Rep.v x h) rfl rfl trivial
def VOK.asRd {x:T} {v:Value} (h:VOK G w O Y e x v):VOK G w O Y e x.asRd v:=by
 unfold T.asRd;split
 ·rename_i cs;have hr:=h.rel;simp only[Aa]at hr;cases hr with
  |p _ b off u h1 h2 h3=>
   refine .plain ?_ rfl rfl trivial;simp only[Aa];exact⟨b,off,rfl,λj c hj=>⟨u j,h2 j c hj,h3 j c hj⟩,.inr h1⟩
 ·exact h
def VOK.func (f:FuncId):VOK G w O Y e (.fn f [] []) (.func (.func f) #[] #[]):=.plain (by simp[Aa,Ac]) rfl rfl trivial
def VOK.val {x:T} {v:Value} (h:VOK G w O Y e x v) (ho:∀p∈Nj none x,p):VOK G w O Y e x.val v:=by
 cases x with
 |may b x=>
  have hb:b=true:=ho _ (by simp[Nj]);obtain⟨h1,h2,h3,h4⟩:=h;simp only[Aa]at h1;exact⟨h1.1 hb,h2 hb,h3 hb,h4 hb⟩
 |_=>exact h
def VOK.may {g:Bool} {x:T} {v:Value} (h:g=true->VOK G w O Y e x v) (hn:g=false->v=undef):VOK G w O Y e (.may g x) v:=
 ⟨by grind[Aa,rel],λhb=>(h hb).own,λhb=>(h hb).ids,λhb=>(h hb).tok⟩
def VOK.env {e':Env} {x:T} {v:Value} (h2:∀id,e'.get 2 id=e.get 2 id) (h1:∀k,e'.get 1 k=e.get 1 k) (h:VOK G w O Y e x v):VOK G w O Y e' x v:=
 VOK.mono (Ext.refl _ _ _) (λ_ _=>rfl) (λid h=>by grind) (λk h=>by grind) (λk b _ hb _=>⟨hb,rfl,rfl⟩) h
def Rel.slots' (R:Rel Y X nt ds e a w G) {e':Env} {a':Act} (h:∀t k,t≠0->e'.get t k=e.get t k) (hb:trN (e'.get 0 BIG)=trN (e.get 0 BIG)) (hs:a'.tmps.size=nt) (hd:a'.defers=a.defers)
  (hv:∀t,VOK G w X.fz Y e (e'.get 0 t) (De X.sh a' t)):Rel Y X nt ds e' a' w G:=by
 have lift:∀{y:T} {u:Value},VOK G w X.fz Y e y u->VOK G w X.fz Y e' y u:=λ{y u} h'=>h'.env (λid=>h 2 id (by decide)) (λk=>h 1 k (by decide));refine⟨⟨λid k hk=>?_,λid h'=>?_,λid i5 h1 h2=>?_⟩,hs,by rw[hd];exact R.defers,R.marks,λt=>lift (hv t),λk b h'=>?_,R.tinj,λk b h'=>?_,R.fresh,R.old,R.base,λid h'=>?_,R.hlt,R.fzh,?_,λid k hf h1 h2=>?_⟩
 ·rw[h (id+3) k (by omega)]at hk ⊢;rw[h 2 id (by decide)];obtain⟨h1,h2,u,h3,h4⟩:=R.mem.cells id k hk;grind
 ·rw[h 2 id (by decide)]at h' ⊢;exact R.mem.box id h'
 ·rw[h 2 _ (by decide)]at h1 h2;exact R.mem.inj id i5 h1 h2
 ·obtain⟨h1,h2,h3,h4,h5⟩:=R.tks k b h';grind
 ·exact (R.tlive k b h').mono (λk hk=>by grind) (λid d6=>⟨by grind,rfl⟩)
 ·rw[h 2 _ (by decide)]at h';exact R.ownb id h'
 ·rw[hb];exact R.jj
 ·rw[h 2 _ (by decide)]at h1;rw[h (id+3) k (by omega)]at h2;exact R.far id k hf h1 h2
theorem Rel.put (R:Rel Y X nt ds e a w G) {d:Nat} (hd:d<nt) (hf:d<FAR) {x:T} {v:Value} (hx:VOK G w X.fz Y e x v):
  Rel Y X nt ds ((0,d,x)::e) (a.put (some d) v) w G:=by
 refine R.slots' (λt k h=>Asr h) (by grind[Bb]) (by simpa[Act.put]using R.size) rfl λt=>?_
 by_cases ht:d=t
 ·subst ht;rw[Am,bG ⟨rfl,rfl⟩];have:De X.sh (a.put (some d) v) d=v:=by
   unfold De;rw[bG hf];simp[Act.put,Array.getD,R.size,hd]
  grind
 ·rw[Bb λh=>ht h.2];have:De X.sh (a.put (some d) v) t=De X.sh a t:=by
   unfold De;simp only[Act.put,aW];grind
  rw[this];exact R.slots t
def Ak0 {α:Type} {b:Bool} {m:M α} {g:Nat->Nat->T} {r:List (Nat×Nat)} {y:α×List (Nat×Nat)} (h:(bif b then m else .fail).run g r=some y):b=true/\m.run g r=some y:=by
 cases b with
 |true=>trivial
 |false=>cases h
def Bh {a b:Nat} (h:Nat.blt a b=true):a<b:=aH h
theorem Ju (R:Rel Y X nt ds e a w G) {x:Operand} {r r':List (Nat×Nat)} {y:T} (h:(ev0 x).run e.get r=some (y,r')):VOK G w X.fz Y e y (a.eval x):=by
 cases x with
 |tmp t=>
  simp only[ev0]at h;obtain⟨hf,h⟩:=Ak0 h;simp only[M.run,aA,aD]at h;obtain⟨rfl,_⟩:=h;have:=R.slots t;unfold De at this;rw[bG (Bh hf)]at this;exact this
 |const v=>
  simp only[ev0]at h;obtain⟨hv,h⟩:=Ak0 h;simp only[M.run,aA,aD]at h;obtain⟨rfl,_⟩:=h;exact VOK.v v hv
 |func f=>simp only[ev0,M.run,aA,aD]at h;obtain⟨rfl,_⟩:=h;exact VOK.func f
 |global g=>trivial
inductive VOKs (G:Gh) (w:World) (O:Nat->Prop) (Y:TypeId->Ty) (e:Env):List T->List Value->Prop
 |nil:VOKs G w O Y e [] []
 |cons {x:T} {v:Value} {xs:List T} {vs:List Value}:VOK G w O Y e x v->VOKs G w O Y e xs vs->VOKs G w O Y e (x::xs) (v::vs)
def Ig (R:Rel Y X nt ds e a w G):∀{xs:List Operand} {r r':List (Nat×Nat)} {ys:List T} {bs:List Prop},(evs xs).run e.get r=some ((ys,bs),r')->(∀p∈bs,p)->
  VOKs G w X.fz Y e ys (xs.map a.eval):=by
 intro xs
 induction xs with
 |nil=>intro r r' ys bs h _;simp only[evs,M.run,aA,aD]at h;obtain⟨⟨rfl,rfl⟩,_⟩:=h;exact .nil
 |cons x xs ih=>
  intro r r' ys bs h hb;obtain⟨y,r1,h1,h2⟩:=Ah h;obtain⟨p,r2,h3,h4⟩:=Ah h2;obtain⟨ys',vm⟩:=p;simp only[M.run,aA,aD]at h4;obtain⟨⟨rfl,rfl⟩,_⟩:=h4;exact .cons ((Ju R h1).val λp hp=>hb p (aJ _ hp)) (ih h3 λp hp=>hb p (aM _ hp))
end
def Bk.stay {G G':Gh} {w w':World} {o:T} {b:Nat} (i7:∀b,G.vis b<=G'.vis b) (n8:KeepV G.vis w w') (h1:w'.heap[b]?=w.heap[b]?) (h2:G'.vis b=G.vis b)
  (hk:∀j bb,G.tk (.s b j)=some bb->G'.tk (.s b j)=some bb/\w'.heap[bb]?=w.heap[bb]?/\G'.vis bb=G.vis bb) (h:Bk G w o b):Bk G' w' o b:=by
 have m7:Ext (λ_=>False) G G' w w':=⟨i7,n8,λ_ h=>h.elim⟩
 unfold Bk at h ⊢;split at h
 ·grind
 ·rw[h1,h2];obtain⟨⟨cs,t,z,h3,hz,h4,h5⟩,h6⟩:=h;refine⟨⟨cs,t,z,h3,hz,h4,λi hi=>?_⟩,h6⟩;obtain⟨h7,h8⟩:=h5 i hi;exact⟨h7,λj c hc=>by obtain⟨u,h9,jk⟩:=h8 j c hc;exact⟨u,h9,jk.mono m7⟩⟩
 ·rw[h1,h2];obtain⟨⟨es,cl,h3,h4,h5⟩,h6⟩:=h;exact⟨⟨es,cl,h3,h4,λi en k he hk=>⟨(h5 i en k he hk).1,(h5 i en k he hk).2.mono m7⟩⟩,h6⟩
 ·grind
 ·rw[h1,h2];obtain⟨q0,mb,es,cl,seen,c0,q1,q2,q3,q4,⟨q5,q6⟩,q7⟩:=h;exact⟨q0,mb,es,cl,seen,c0,q1,q2,aX q3 (i7 mb),n8.map mb q3 es cl q4,⟨q5,λi en k he hk=>⟨(q6 i en k he hk).1,(q6 i en k he hk).2.mono m7⟩⟩,q7⟩
 ·rw[h1,h2];obtain⟨q0,qs,cs,t,q1,q2,q3⟩:=h;refine⟨q0,qs,cs,t,q1,q2,λj hj=>?_⟩;obtain⟨u,q4,q5⟩:=q3 j hj;exact⟨u,q4,λhf=>(q5 hf).mono m7 λbb hb=>hk j bb hb⟩
 trivial
def Bk.nodef {G:Gh} {w:World} {o:T} {b:Nat} {l:Option (List Deferred)} (h:Bk G w o b) (hd:w.heap[b]?=some (.deferred l)):False:=by
 unfold Bk at h;grind
theorem Rel.move {Y:TypeId->Ty} {X:Cx} {nt:Nat} {ds:List Deferred} {e:Env} {a:Act} {w:World} {G:Gh} (R:Rel Y X nt ds e a w G) {w':World} {G':Gh} {e':Env}
  (m7:Ext X.fz G G' w w') (l6:Same w w') (hH:G'.H=G.H) (ec:G'.dm=G.dm)
  (hw:∀b,G.H b->w'.heap[b]?=w.heap[b]?) (hmk:∀D,D∈G.dm->w'.heap[D]?=w.heap[D]?)
  (h0:∀t,e'.get 0 t=e.get 0 t)
  (y9:∀id,e.get 2 id≠.any->G'.bk id=G.bk id/\e'.get 2 id≠.any)
  (nk:∀k,e.get 1 k≠.any->e'.get 1 k≠.any/\∀el,e'.get 1 k=As el->e.get 1 k=As el)
  (s4:∀k b,Jb e G k->G.tk k=some b->Ajz e e' G k->G'.tk k=some b/\w'.heap[b]?=w.heap[b]?/\G'.vis b=G.vis b)
  (i8:(∀x v,VOK G w X.fz Y e x v->VOK G' w' X.fz Y e' x v)->∀id,e'.get 2 id≠.any->
   (e.get 2 id≠.any/\e'.get 2 id=e.get 2 id/\w'.heap[G.bk id]?=w.heap[G.bk id]?/\G'.vis (G.bk id)=G.vis (G.bk id)/\∀k,e'.get (id+3) k=e.get (id+3) k)∨
   (¬G.H (G'.bk id)/\G'.bk id<w'.heap.size/\Own1 X id (G'.bk id)/\(∀i5,e'.get 2 i5≠.any->G'.bk i5=G'.bk id->i5=id)/\(∀k,G'.tk k≠some (G'.bk id))/\Bk G' w' (e'.get 2 id) (G'.bk id)/\
    (FAR<=id->e'.get 2 id=live->∀k,e'.get (id+3) k=.any->w'.cell? ⟨G'.bk id,k,none⟩=X.c0 (G'.bk id) k)/\∀k,e'.get (id+3) k≠.any->e'.get 2 id=live/\(e'.get (id+3) k).one=true/\∃u,w'.cell? ⟨G'.bk id,k,none⟩=some u/\VOK G' w' X.fz Y e' (e'.get (id+3) k) u))
  (e9:∀id k,e'.get (id+3) k≠.any->e'.get 2 id≠.any)
  (cm:∀k b,G'.tk k=some b->X.base<=b/\b<w'.heap.size/\¬G.H b/\(∃cs t,w'.heap[b]?=some (.cells cs t (0,0)))/\(∀id,e.get 2 id≠.any->G.bk id≠b)/\Jb e' G' k)
  (ry:∀k k' b,G'.tk k=some b->G'.tk k'=some b->k=k')
  (p9:∀b,w'.heap.size<=b->G'.vis b=0) (x9:∀b,b<X.base->G'.vis b=G.vis b) (hvH:∀b,G.H b->G'.vis b=G.vis b):
  Rel Y X nt ds e' a w' G'/\∀x v,VOK G w X.fz Y e x v->VOK G' w' X.fz Y e' x v:=by
 have lift:∀x v,VOK G w X.fz Y e x v->VOK G' w' X.fz Y e' x v:=λx v h=>
  VOK.mono m7 (λid h=>(y9 id h).1) (λid h=>(y9 id h).2) nk (λk b h1 h2 h3=>s4 k b h1 h2 h3) h
 have i8:=i8 lift;have hocell:∀{o:T} {b:Nat},(∃id,e.get 2 id≠.any/\e'.get 2 id=e.get 2 id/\G.bk id=b)->w'.heap[b]?=w.heap[b]?->G'.vis b=G.vis b->Bk G w o b->Bk G' w' o b:=by
  intro o b hl h1 h2 h;exact h.stay m7.vis m7.keep h1 h2 λj bb hb=>s4 _ bb ⟨hl.choose,hl.choose_spec.1,hl.choose_spec.2.2⟩ hb hl
 refine⟨⟨⟨λid k hk=>?_,λid d6=>?_,λid i5 h1 h2 hb=>?_⟩,R.size,by rw[ec];exact R.defers,λD hD=>?_,λt=>?_,λk b hb=>?_,ry,λk b hb=>(cm k b hb).2.2.2.2.2,p9,λb hb=>by rw[x9 b hb];exact R.old b hb,
  bJ R.base l6.size,λid d6=>?_,λb hb=>?_,λb hb=>by rw[hH];exact R.fzh b hb,?_,λid k hf h1 h2=>?_⟩,lift⟩
 ·rcases i8 id (e9 id k hk) with ⟨h1,h2,h3,h4,h5⟩|⟨_,_,_,_,_,_,_,h⟩
  ·rw[h5 k]at hk ⊢;obtain⟨h6,h7,u,h8,h9⟩:=R.mem.cells id k hk;grind[World.cell?_of_block]
  grind
 ·rcases i8 id d6 with ⟨h1,h2,h3,h4,h5⟩|⟨h1,h2,_,_,_,h3,_,_⟩
  ·obtain⟨h6,h7,h8⟩:=R.mem.box id h1;grind
  grind
 ·rcases i8 id h1 with ⟨g1,_⟩|⟨_,_,_,g,_⟩
  ·rcases i8 i5 h2 with ⟨g2,_⟩|⟨_,_,_,g,_⟩
   ·rw[(y9 id g1).1,(y9 i5 g2).1]at hb;exact R.mem.inj id i5 g1 g2 hb
   grind
  grind
 ·rw[ec]at hD;obtain⟨h1,h2,h3⟩:=R.marks D hD;grind
 ·rw[h0];exact lift _ _ (R.slots t)
 ·grind
 ·rcases i8 id d6 with ⟨g1,_⟩|⟨_,_,g,_⟩
  ·rw[(y9 id g1).1];exact R.ownb id g1
  ·exact g
 ·rw[hH]at hb;exact aX (R.hlt b hb) l6.size
 ·rw[h0,hH];exact X.st.2 _ _ _ _ _ (X.st.1 _ _ _ _ _ R.jj hw m7.keep l6) m7.vis hvH
 ·rcases i8 id (by rw[h1];simp[live]) with ⟨g1,g2,g3,g4,g5⟩|⟨_,_,_,_,_,_,h,_⟩
  ·rw[g2]at h1;rw[g5]at h2;rw[(y9 id g1).1,bF g3];exact R.far id k hf h1 h2
  grind
theorem Rel.move' {Y:TypeId->Ty} {X:Cx} {nt:Nat} {ds:List Deferred} {e:Env} {a:Act} {w:World} {G:Gh} (R:Rel Y X nt ds e a w G) {w':World} {G':Gh} {e':Env}
  (m7:Ext X.fz G G' w w') (l6:Same w w') (hH:∀b,b<w.heap.size->(G'.H b↔G.H b)) (jd:∀b,G'.H b->b<w'.heap.size) (ec:G'.dm=G.dm) (cm:G'.tk=G.tk) (y9:G'.bk=G.bk)
  (Z:Nat->Prop) (hZt:∀k b,G.tk k=some b->¬Z b) (hZd:∀D,D∈G.dm->¬Z D) (l7:∀b,b<w.heap.size->¬G.H b->(∀id,e.get 2 id≠.any->G.bk id≠b)->¬Z b->w'.heap[b]?=w.heap[b]?/\G'.vis b=G.vis b)
  (h0:∀t,t≠BIG->e'.get 0 t=e.get 0 t) (bj:La (e'.get 0 BIG)=true∨e'.get 0 BIG=e.get 0 BIG) (h1:∀k,e'.get 1 k=e.get 1 k)
  (hu:∀id,e'.get 2 id≠.any↔e.get 2 id≠.any)
  (i8:(∀x v,VOK G w X.fz Y e x v->VOK G' w' X.fz Y e' x v)->∀id,e.get 2 id≠.any->Bk G' w' (e'.get 2 id) (G.bk id)/\
    (FAR<=id->e'.get 2 id=live->∀k,e'.get (id+3) k=.any->w'.cell? ⟨G.bk id,k,none⟩=X.c0 (G.bk id) k)/\∀k,e'.get (id+3) k≠.any->e'.get 2 id=live/\(e'.get (id+3) k).one=true/\∃u,w'.cell? ⟨G.bk id,k,none⟩=some u/\VOK G' w' X.fz Y e' (e'.get (id+3) k) u)
  (e9:∀id k,e'.get (id+3) k≠.any->e.get 2 id≠.any)
  (p9:∀b,w'.heap.size<=b->G'.vis b=0) (x9:∀b,b<X.base->G'.vis b=G.vis b) (hjj:X.J (trN (e'.get 0 BIG)) G'.H G'.vis w'):
  Rel Y X nt ds e' a w' G'/\∀x v,VOK G w X.fz Y e x v->VOK G' w' X.fz Y e' x v:=by
 have hnb:∀k b,G.tk k=some b->w'.heap[b]?=w.heap[b]?/\G'.vis b=G.vis b:=λk b h=>by
  obtain⟨_,q2,q3,_,q5⟩:=R.tks k b h;grind
 have lift:∀x v,VOK G w X.fz Y e x v->VOK G' w' X.fz Y e' x v:=λx v h=>
  VOK.mono m7 (λid _=>by rw[y9]) (λid h=>(hu id).2 h) (λk h=>by grind) (λk b _ hb _=>⟨by grind,(hnb k b hb).1,(hnb k b hb).2⟩) h
 have i8:=i8 lift;have hb:∀id,e.get 2 id≠.any->¬G'.H (G.bk id)/\G.bk id<w'.heap.size:=λid d6=>by
  obtain⟨q1,q2,_⟩:=R.mem.box id d6;exact⟨λhh=>q1 ((hH _ q2).1 hh),aX q2 l6.size⟩
 refine⟨⟨⟨λid k hk=>?_,λid d6=>?_,λid i5 i1 i2 hh=>?_⟩,R.size,by rw[ec];exact R.defers,λD hD=>?_,λt=>?_,λk b hk=>?_,λk k' b hk t8=>?_,λk b hk=>?_,p9,λb hb=>by rw[x9 b hb];exact R.old b hb,
  bJ R.base l6.size,λid d6=>?_,jd,λb hb=>?_,hjj,λid k hf h1 h2=>?_⟩,lift⟩
 ·grind
 ·grind
 ·rw[y9]at hh;exact R.mem.inj id i5 ((hu id).1 i1) ((hu i5).1 i2) hh
 ·rw[ec]at hD;obtain⟨q1,q2,q3⟩:=R.marks D hD;have hlt:=(aP.1 q2).1;have dy:∀id,e.get 2 id≠.any->G.bk id≠D:=λid d6 hh=>by
   have:=(R.mem.box id d6).2.2;rw[hh]at this;unfold Bk at this;grind
  grind
 ·by_cases ht:t=BIG
  ·subst ht;rcases bj with bj|bj
   ·have:∀x:T,La x=true->∀v,VOK G' w' X.fz Y e' x v:=λx hx v=>by
     unfold La at hx;split at hx
     ·exact .plain (by trivial) rfl rfl trivial
     ·cases hx
    grind
   ·rw[bj];exact lift _ _ (R.slots BIG)
  ·rw[h0 t ht];exact lift _ _ (R.slots t)
 ·rw[cm]at hk;obtain⟨q1,q2,q3,q4,q5⟩:=R.tks k b hk;grind
 ·rw[cm]at hk t8;exact R.tinj k k' b hk t8
 ·rw[cm]at hk;exact (R.tlive k b hk).mono (λk hk=>by grind) (λid d6=>⟨(hu id).2 d6,by rw[y9]⟩)
 ·rw[y9];exact R.ownb id ((hu id).1 d6)
 ·exact (hH b (R.hlt b (R.fzh b hb))).2 (R.fzh b hb)
 grind[live]
def KOK:K->TypeDesc->Program->Prop
 | .int k,d,_=>d=.int k
 | .bool,d,_=>d=.bool
 | .str,d,_=>d=.string
 | .slice e,d,_=>d=.slice e
 | .struct fs,d,P=>∃fields,d=.struct fields/\fields.toList.map (λf=>(f.offset,f.type))=fs/\∀f∈fields.toList,∃i,P.info? f.type=some i/\i.size≠0
 | .arr n e,d,_=>d=.array n e
 | .map k e,d,_=>d=.map k e
 | .iface,d,_=>∃ms,d=.interface ms
 | .func,d,_=>∃a b c,d=.func a b c
 | .ptr,d,_=>∃e,d=.pointer e
 | .other,d,_=>match d with| .struct _| .array _ _| .interface _=>False|_=>True
 | .none,_,_=>True
def EqI (P:Program) (t:TypeId) (n:Nat):Prop:=
 ∀xs ys:List Int,xs.length=n->ys.length=n->∀w:World,P.eqGuardType P.depth t=false/\(Op.equal t (.agg (xs.map (Value.int .i64)).toArray) (.agg (ys.map (Value.int .i64)).toArray)).run P w=.ok (eqL xs ys) w/\
  ∀em:Bool,(Instr.checkKey em 10000 t (.agg (xs.map (Value.int .i64)).toArray)).run P w=.ok () w
def Qx (P:Program) (t:TypeId) (y:Ty):Prop:=
 ∃d i z,P.underlying t=some d/\P.info? t=some i/\i.size=y.size/\i.bytes=y.bytes/\i.zero=some z/\z.cells.toList=y.zero/\KOK y.kind d P/\(y.agg=some false->y.size=1)/\y.zero.length=y.size/\(y.eqi=true->EqI P t y.size)/\(∀ag,y.agg=some ag->match ag with|true=>∃cs,z=.agg cs|false=>z.oneCell'=true)/\
 (∀name f,Ly y.meth name=some f->∀(v:Value) (w:World),(method (P.types.size+Made.depth) t v name).run P w=.ok (f,v) w)
def YOK (P:Program) (Y:TypeId->Ty):Prop:=∀t,(Y t).known=true->Qx P t (Y t)
def Et {y:Ty} {b:Bool} (h:y.agg=some b):y.known=true:=by
 grind[Ty.agg,Ty.known]
section
variable {P:Program} {Y:TypeId->Ty} {X:Cx} {nt:Nat} {ds:List Deferred} {e:Env} {a:Act} {w:World} {G:Gh} {O:Nat->Prop}
def Qy (hY:YOK P Y) {t:TypeId} {b:Bool} (h:(Y t).agg=some b) (w:World):(isAgg t).run P w=.ok b w:=by
 obtain⟨d,i,z,h1,h2,h3,h4,h5,h6,h7,h8⟩:=hY t (Et h);simp only[isAgg,cF,aO h1,bK];unfold Ty.agg at h;split at h
 ·rename_i hk;rw[hk]at h7;obtain⟨fields,rfl,_⟩:=h7;simp_all
 ·rename_i hk;rw[hk]at h7;simp only[KOK]at h7;subst h7;simp_all
 ·cases h
 ·rename_i al bo cx;simp only[aA]at h;subst h;cases hk:(Y t).kind<;>rw[hk]at h7<;>simp only[KOK]at h7
  case none=>trivial
  case struct=>grind
  case arr=>grind
  case other=>cases d<;>simp_all
  case iface=>obtain⟨ms,rfl⟩:=h7;rfl
  case ptr=>obtain⟨e,rfl⟩:=h7;rfl
  case func=>obtain⟨_,_,_,rfl⟩:=h7;rfl
  all_goals (subst h7;rfl)
def Dq (hY:YOK P Y) {t:TypeId} (h:(Y t).known=true) (w:World):(sizeOf t).run P w=.ok (Y t).size w:=by
 obtain⟨d,i,z,h1,h2,h3,h4,h5,h6,h7,h8⟩:=hY t h;simp[sizeOf,typeInfo,h2,h3]
def Wt (hY:YOK P Y) {t:TypeId} (h:(Y t).known=true) (w:World):∃z,(zeroValue t).run P w=.ok z w/\z.cells.toList=(Y t).zero:=by
 obtain⟨d,i,z,h1,h2,h3,h4,h5,h6,h7,h8⟩:=hY t h;exact⟨z,by simp[zeroValue,typeInfo,h2,h5],h6⟩
theorem Le {vis:Nat->Nat} {x v:Value} (h:Rep vis w (.v x) v):v=x:=by cases h;rfl
def Afc {x:D} {v:Value} (h:Aa G w O (.d x) v):Av G.vis w O x v:=by trivial
def VOK.reld {x:D} {v:Value} (h:VOK G w O Y e (.d x) v):Av G.vis w O x v:=Afc h.rel
theorem Cl {x v:Value} (h:VOK G w O Y e (.d (.c (.v x))) v):v=x:=Le (Afc h.rel)
def Aaa {x:T} {b:Bool} {v:Value} (hb:x.bool?=some b) (h:VOK G w O Y e x v):v=.bool b:=by
 unfold T.bool? at hb;grind[Cl]
def Ez {x:T} {k:IntKind} {n:Int} {v:Value} (hb:x.int?=some (k,n)) (h:VOK G w O Y e x v):v=.int k n:=by
 unfold T.int? at hb;grind[Cl]
def Ak1 {x:T} {s:ByteArray} {v:Value} (hb:x.str?=some s) (h:VOK G w O Y e x v):v=.string s:=by
 unfold T.str? at hb;grind[Cl]
theorem Lf {vis:Nat->Nat} {c:C} {v:Value} (h:Rep vis w c v):v.oneCell'=true:=by
 cases h with
 |v _ h=>exact h
 |nil=>rfl
 |e=>rfl
 |s=>rfl
 |m=>rfl
 |p=>rfl
 |i=>rfl
 |u _ h=>exact h
theorem Rep.dem {vis:Nat->Nat} {c:C} {v:Value} (h:Rep vis w c v):Rep vis w c.dem v:=by
 cases h with
 |v _ h=>exact .v _ h
 |nil g f=>exact .nil _ f
 |e g f a=>exact .e _ f a
 |s g n f b off cap sz u hn hc hz hv hu hr=>exact .s _ n f b off cap sz u hn hc hz hv hu hr
 |m kn ag dom val b es m9 h1 h2 h3 h4 h5=>exact .m kn ag dom val b es m9 h1 h2 h3 h4 h5
 |p cs b off u h1 h2 h3=>exact .p cs b off u h1 h2 h3
 |i t ag cs v h1 h2 h3=>exact .i t ag cs v h1 h2 h3
 |u _ h=>exact .u _ h
theorem Aw.dem {vis:Nat->Nat} {cs:List C} {vs:List Value} (h:Aw vis w cs vs):Aw vis w (cs.map C.dem) vs:=by
 refine⟨by simpa using h.1,λj c v hc hv=>?_⟩;rw[bQ]at hc;cases hj:cs[j]? with
 |none=>grind
 |some c'=>rw[hj]at hc;simp only[bO,aA]at hc;subst hc;exact (h.2 j c' v hj hv).dem
theorem Av.dem {vis:Nat->Nat} {x:D} {v:Value} (h:Av vis w O x v):Av vis w O x.dem v:=by
 cases x with
 |c x=>exact Rep.dem h
 |agg xs=>obtain⟨vs,rfl,hr⟩:=h;exact⟨vs,rfl,hr.dem⟩
 |rd xs=>exact h
theorem VOK.dem {x:D} {v:Value} (h:Av G.vis w O x v):VOK G w O Y e (.d x.dem) v:=by
 refine .plain (by grind[Aa,Av.dem]) rfl ?_ ?_
 ·cases x with
  |c x=>cases x<;>rfl
  |agg xs=>rfl
  |rd xs=>rfl
 ·cases x with
  |c x=>cases x<;>trivial
  |agg xs=>trivial
  |rd xs=>trivial
theorem VOK.agg {cs:List C} {vs:Array Value} (h:Aw G.vis w cs vs.toList):VOK G w O Y e (.d (.agg cs)) (.agg vs):=
 .plain (by simp only[Aa];exact⟨vs,rfl,h⟩) rfl rfl trivial
def VOK.rd {cs:List C} {v:Value} (h:Lb G.vis w O cs v):VOK G w O Y e (.d (.rd cs)) v:=
 .plain (by trivial) rfl rfl trivial
def VOK.ids' {x:T} {v:Value} (h:VOK G w O Y e x v) (hm:∀b y,x≠.may b y):∀id,id∈Aj x->e.get 2 id≠.any:=by
 have:=h.ids;cases x with
 |may b y=>grind
 |_=>exact this
def OpR (P:Program) (Y:TypeId->Ty) (X:Cx) (nt:Nat) (ds:List Deferred) (e:Env) (a:Act) (w:World) (o:Oper) (out:Out):Prop:=
 ∃nx v w' G',(execOp a.eval o).run P w=.ok nx w'/\(nx=.value v∨nx=.skip/\v=undef)/\(∀p∈out.hyp,p)/\Rel Y X nt ds (out.wr++e) a w' G'/\VOK G' w' X.fz Y (out.wr++e) out.val v
theorem OpR.pure (R:Rel Y X nt ds e a w G) {o:Oper} {x:T} {v:Value} {vc hyp:List Prop} (d7:(execOp a.eval o).run P w=.ok (.value v) w) (hx:VOK G w X.fz Y e x v) (hh:∀p∈hyp,p):
  OpR P Y X nt ds e a w o ⟨vc,hyp,x,[]⟩:=
 ⟨_,v,w,G,d7,.inl rfl,hh,R,hx⟩
theorem Bp {x:T} {g:Nat->Nat->T} {r r':List (Nat×Nat)} {out:Out} (h:(Az x).run g r=some (out,r')):out=⟨[],[],x,[]⟩:=by
 grind[Az,M.run]
def Fa {p:Prop} {x:T} {g:Nat->Nat->T} {r r':List (Nat×Nat)} {out:Out} (h:(Di p x).run g r=some (out,r')):out=⟨[p],[],x,[]⟩:=by
 grind[Di,M.run]
theorem Jc {α:Type} {g:Nat->Nat->T} {r:List (Nat×Nat)} {y:α×List (Nat×Nat)} (h:(M.fail:M α).run g r=some y):False:=by cases h
def Wu (k:IntKind) (n:Int) (h:inRange k n):k.wrap n=n:=by
 obtain⟨h1,h2⟩:=h;cases k<;>simp[IntKind.wrap,IntKind.min,IntKind.max,IntKind.signed,IntKind.bits]at *<;>omega
theorem Ass (R:Rel Y X nt ds e a w G) {o:Oper} {op:BinOp} {t ty:TypeId} {p q:Operand} {x y:T} (ho:o.op=.binOp op t p q ty)
  (hx:VOK G w X.fz Y e x (a.eval p)) (hy:VOK G w X.fz Y e y (a.eval q)) {r r':List (Nat×Nat)} {out:Out} (h:(Adl op x y).run e.get r=some (out,r')) (hv:∀p∈out.vc,p):
  OpR P Y X nt ds e a w o out:=by
 unfold Adl at h;split at h
 ·rename_i k n k' m;have h1:=Cl hx;have h2:=Cl hy;cases hk:(k==k') with
  |false=>grind[Jc]
  |true=>
   simp only[hk,gM,cC]at h;have cw:k=k':=by grind
   subst cw;have key:∀(v:Value),(binOp op t (.int k n) (.int k m)).run P w=.ok v w->(execOp a.eval o).run P w=.ok (.value v) w:=by
    intro v d7;simp[execOp,ho,h1,h2,eqGuard,d7]
   split at h<;>first
    |(obtain rfl:=Fa h
      have hr:=Wu k _ (hv _ aC);exact OpR.pure R (key _ (by simp[binOp,Op.intArith,hr])) (VOK.v _ rfl) (λ_ h=>(by cases h)))
    |(obtain rfl:=Bp h
      exact OpR.pure R (key _ (by simp[binOp,Op.intCmp])) (VOK.v _ rfl) (λ_ h=>(by cases h)))
    |exact (Jc h).elim
    |(obtain rfl:=Fa h
      have hr:=hv _ aC;have hr2:=Wu k _ hr.2;exact OpR.pure R (key _ (by simp[binOp,Op.intDiv,hr.1,hr2])) (VOK.v _ rfl) (λ_ h=>(by cases h)))
    |(obtain rfl:=Fa h
      have hr:=hv _ aC;exact OpR.pure R (key _ (by simp[binOp,Op.intDiv,hr])) (VOK.v _ rfl) (λ_ h=>(by cases h)))
 ·rename_i s1 s2;have h1:=Cl hx;have h2:=Cl hy;have key:∀(v:Value),(binOp op t (.string s1) (.string s2)).run P w=.ok v w->(execOp a.eval o).run P w=.ok (.value v) w:=by
   intro v d7;simp[execOp,ho,h1,h2,eqGuard,d7]
  split at h<;>first
   |(obtain rfl:=Bp h
     exact OpR.pure R (key _ (by trivial)) (VOK.v _ rfl) (λ_ h=>(by cases h)))
   |exact (Jc h).elim
   |(obtain rfl:=Fa h
     have hr:¬(((s1.size+s2.size:Nat):Int)>IntKind.i64.max):=Int.not_lt.2 (hv _ aC);exact OpR.pure R (key _ (by simp only[binOp,Op.stringOp,bI hr];rfl)) (VOK.v _ rfl) (λ_ h=>(by cases h)))
 trivial
end
section
variable {P:Program} {Y:TypeId->Ty} {X:Cx} {nt:Nat} {ds:List Deferred} {e:Env} {a:Act} {w:World} {G:Gh} {O:Nat->Prop}
theorem Ak2 (R:Rel Y X nt ds e a w G) {o:Oper} {p:Operand} {x:T} (ho:o.op=.move p∨o.op=.assign p) (hx:VOK G w X.fz Y e x (a.eval p))
  {r r':List (Nat×Nat)} {out:Out} (h:(Az x).run e.get r=some (out,r')):OpR P Y X nt ds e a w o out:=by
 obtain rfl:=Bp h;refine OpR.pure R ?_ hx (λ_ h=>(by cases h));rcases ho with ho|ho<;>simp[execOp,ho]
theorem Ast (R:Rel Y X nt ds e a w G) {o:Oper} {p:Operand} {id k:Nat} (ho:o.op=.nilCheck p) (hx:VOK G w X.fz Y e (.addr id k) (a.eval p))
  {r r':List (Nat×Nat)} {out:Out} (h:(Az (.addr id k)).run e.get r=some (out,r')):OpR P Y X nt ds e a w o out:=by
 obtain rfl:=Bp h;refine OpR.pure R ?_ hx (λ_ h=>(by cases h));have hp:=hx.rel;simp only[Aa]at hp;simp[execOp,ho,hp]
theorem Asu (R:Rel Y X nt ds e a w G) {o:Oper} {p:Operand} {t:TypeId} {x:T} {b:Bool} (ho:o.op=.unOp .not t p) (hx:VOK G w X.fz Y e x (a.eval p)) (hb:x.bool?=some b)
  {r r':List (Nat×Nat)} {out:Out} (h:(Az (B (!b))).run e.get r=some (out,r')):OpR P Y X nt ds e a w o out:=by
 obtain rfl:=Bp h;refine OpR.pure R ?_ (VOK.v _ rfl) (λ_ h=>(by cases h));simp[execOp,ho,Aaa hb hx,Op.unary]
theorem Asv (R:Rel Y X nt ds e a w G) {o:Oper} {p:Operand} {t:TypeId} {x:T} {k:IntKind} {n:Int} (ho:o.op=.unOp .neg t p) (hx:VOK G w X.fz Y e x (a.eval p)) (hb:x.int?=some (k,n))
  {r r':List (Nat×Nat)} {out:Out} (h:(Di (inRange k (-n)) (.d (.c (.v (.int k (-n)))))).run e.get r=some (out,r')) (hv:∀p∈out.vc,p):OpR P Y X nt ds e a w o out:=by
 obtain rfl:=Fa h;have hr:=Wu k _ (hv _ aC);refine OpR.pure R ?_ (VOK.v _ rfl) (λ_ h=>(by cases h));simp[execOp,ho,Ez hb hx,Op.unary,Op.intArith,hr]
def Asw {x:T} (h:∀p∈Nj none x,p):x.ok=true:=by
 cases x with
 |may b x=>exact h _ aC
 |_=>rfl
def Ak3 {g:Prop} {x:T} (h:∀p∈Nj (some g) x,p) (hg:g):x.ok=true:=by
 cases x with
 |may b x=>exact h _ aC hg
 |_=>rfl
def VOK.val' {x:T} {v:Value} (h:VOK G w O Y e x v) (ho:x.ok=true):VOK G w O Y e x.val v:=by
 refine h.val λp hp=>?_;cases x with
 |may b x=>
  simp only[Nj,aZ]at hp;subst hp;exact ho
 |_=>trivial
def Asx (R:Rel Y X nt ds e a w G) {o:Oper} {c p q:Operand} {x y z:T} (ho:o.op=.pick c p q)
  (hx:VOK G w X.fz Y e x (a.eval c)) (hy:VOK G w X.fz Y e y (a.eval p)) (hz:VOK G w X.fz Y e z (a.eval q))
  {r r':List (Nat×Nat)} {out:Out} (h:(Adp x y z).run e.get r=some (out,r')) (hv:∀p∈out.vc,p):OpR P Y X nt ds e a w o out:=by
 unfold Adp at h;split at h
 ·rename_i c' a' b' h1 h2 h3;simp only[M.run,aA,aD]at h;obtain⟨rfl,_⟩:=h;simp only[cP]at hv;have e1:=Aaa h1 (hx.val' (Asw λp hp=>hv p (.inl (.inl hp))));refine OpR.pure R ?_ (VOK.v _ rfl) (λ_ h=>(by cases h));cases c' with
  |true=>
   have e2:=Aaa h2 (hy.val' (Ak3 (λp hp=>hv p (.inl (.inr hp))) rfl));simp[execOp,ho,e1,e2,asBool]
  |false=>
   have e3:=Aaa h3 (hz.val' (Ak3 (λp hp=>hv p (.inr hp)) rfl));simp[execOp,ho,e1,e3,asBool]
 trivial
def Ak4 {O:Nat->Prop}:∀{xs:List T} {vs:Array Value},Ac G w O xs vs.toList->∀(n:Nat) x,xs[n]?=some x->∃u,vs[n]?=some u/\Aa G w O x u:=by
 have key:∀{xs:List T} {vs:List Value},Ac G w O xs vs->∀(n:Nat) x,xs[n]?=some x->∃u,vs[n]?=some u/\Aa G w O x u:=by
  intro xs
  induction xs with
  |nil=>grind
  |cons y xs ih=>
   grind[Ac]
 grind
theorem Ak5 {i:Nat} {x:T}:∀{xs:List T} {n:Nat},xs[n]?=some x->i∈Aj x->i∈Bo xs
 | [],_,h,_=>by simp at h
 |y::xs,0,h,hi=>by
  grind[Bo]
 |y::xs,n+1,h,hi=>by
  simp only[Bo,cP];exact .inr (Ak5 (xs:=xs) (n:=n) (by trivial) hi)
theorem Asy (R:Rel Y X nt ds e a w G) {o:Oper} {p:Operand} {n:Nat} {x:T} (ho:o.op=.extract p n) (hx:VOK G w X.fz Y e x (a.eval p))
  {r r':List (Nat×Nat)} {out:Out} (h:(Ae2 x n).run e.get r=some (out,r')) (hv:∀p∈out.vc,p):OpR P Y X nt ds e a w o out:=by
 have tup:∀{vs:Array Value} {xs:List D} {n:Nat} {d:D},a.eval p=.tuple vs->Jt G.vis w X.fz xs vs.toList->xs[n]?=some d->o.op=.extract p n->∀ps,OpR P Y X nt ds e a w o ⟨ps,[],.d d.dem,[]⟩:=by
  intro vs xs n d ai hr hd ho ps;obtain⟨hl,hr⟩:=hr;have hlt:n<vs.toList.length:=by grind
  have iv:vs.toList[n]?=some vs.toList[n]:=aQ hlt;refine OpR.pure R (v:=vs.toList[n]) ?_ (VOK.dem (hr n d _ hd iv)) (λ_ h=>(by cases h));have gk:vs[n]?=some vs.toList[n]:=by grind
  simp[execOp,ho,ai,Instr.extract,gk]
 unfold Ae2 at h;split at h
 ·rename_i xs;split at h
  ·rename_i d hd;obtain rfl:=Bp h;have hr:=hx.rel;grind[Aa]
  trivial
 ·rename_i xs;have hr:=hx.rel;simp only[Aa]at hr;obtain⟨vs,ai,hr⟩:=hr;split at h
  ·rename_i d hd;obtain rfl:=Bp h;obtain⟨u,hu,hr⟩:=Ak4 hr n _ hd;simp only[Aa]at hr;refine OpR.pure R (v:=u) ?_ (VOK.dem hr) (λ_ h=>(by cases h));simp[execOp,ho,ai,Instr.extract,hu]
  ·rename_i id k hd;obtain rfl:=Bp h;obtain⟨u,hu,hr⟩:=Ak4 hr n _ hd;refine OpR.pure R (v:=u) ?_ ⟨hr,trivial,λi hi=>?_,λ_ h=>(by cases h)⟩ (λ_ h=>(by cases h))
   ·simp[execOp,ho,ai,Instr.extract,hu]
   ·exact hx.ids i (Ak5 hd hi)
  trivial
 ·rename_i b xs;have hr:=hx.rel;simp only[Aa]at hr;split at h
  ·obtain rfl:=Bp h;refine OpR.pure R (v:=.bool b) ?_ (VOK.v _ rfl) (λ_ h=>(by cases h));cases b with
   |true=>
    obtain⟨vs,ai,hl,hr⟩:=hr.1 rfl;have hlt:0<vs.toList.length:=by grind
    have iv:vs.toList[0]?=some vs.toList[0]:=aQ hlt;have:=Le (hr 0 _ _ rfl iv);have gk:vs[0]?=some vs.toList[0]:=by grind
    rw[this]at gk;simp[execOp,ho,ai,Instr.extract,gk]
   |false=>simp[execOp,ho,hr.2 rfl,Instr.extract]
  ·split at h
   ·rename_i d hd;obtain rfl:=Fa h;have hb:b=true:=hv _ aC;obtain⟨vs,ai,hr⟩:=hr.1 hb;exact tup ai hr (by trivial) ho _
   trivial
 trivial
theorem Ih (b off k:Nat):(⟨b,off,none⟩:Addr).add k=⟨b,off+k,none⟩:=by
 grind[Addr.add]
def Lb.drop {vis:Nat->Nat} {cs:List C} {v:Value} {b off:Nat} (hv:v=.pointer (some ⟨b,off,none⟩)) (h:Lb vis w O cs v) {k:Nat} (hk:k<=cs.length):Lb vis w O (cs.drop k) (.pointer (some ⟨b,off+k,none⟩)):=by
 obtain⟨b',off',h1,h2,h3⟩:=h;rw[hv]at h1;simp only[Value.pointer.injEq,aA,Addr.mk.injEq,and_true]at h1;obtain⟨rfl,rfl⟩:=h1;refine⟨b,off+k,rfl,λj c hj=>?_,h3.imp id λh=>by grind⟩;grind
def and_true {b c:Bool} (h:(b&&c)=true):b=true/\c=true:=by grind
def Al {α:Type} {b:Bool} {m:M α} {g:Nat->Nat->T} {r:List (Nat×Nat)} {y:α×List (Nat×Nat)} (h:(bif b then m else .fail).run g r=some y):b=true/\m.run g r=some y:=by
 grind[Jc]
def Afd {y:Ty} {fs:List (Nat×TypeId)} (h:y.fields=some fs):y.kind=.struct fs:=by
 grind[Ty.fields]
def Aab {y:Ty} {fs:List (Nat×TypeId)} (h:y.kind=.struct fs):y.known=true:=by simp[Ty.known,h]
def Asz (hY:YOK P Y) (R:Rel Y X nt ds e a w G) {o:Oper} {p:Operand} {s:TypeId} {f:Nat} {x:T} (ho:o.op=.fieldAddr s p f) (hx:VOK G w X.fz Y e x (a.eval p))
  {r r':List (Nat×Nat)} {out:Out} (h:(Adv (Y s) x f).run e.get r=some (out,r')):OpR P Y X nt ds e a w o out:=by
 unfold Adv at h;have key:∀(fs:List (Nat×TypeId)) (q:Nat×TypeId) (b off:Nat),(Y s).fields=some fs->fs[f]?=some q->a.eval p=.pointer (some ⟨b,off,none⟩)->
   (execOp a.eval o).run P w=.ok (.value (.pointer (some ⟨b,off+q.1,none⟩))) w:=by
  intro fs q b off jx hq hp;have hk:=Afd jx;obtain⟨d,i,z,h1,h2,h3,h4,h5,h6,h7,h8⟩:=hY s (Aab hk);rw[hk]at h7;obtain⟨fields,rfl,gj,s7⟩:=h7;rw[<-gj]at hq;rw[bQ]at hq;cases hf:fields.toList[f]? with
  |none=>grind
  |some im=>
   rw[hf]at hq;simp only[bO,aA]at hq;subst hq;obtain⟨i',gh,vn⟩:=s7 im (cG hf);have bh:fields[f]?=some im:=by grind
   simp[execOp,ho,hp,Instr.fieldAt,aO h1,bh,Instr.sureAddr,fieldPlace,sizeOf,typeInfo,gh,vn,Ih]
 split at h
 ·rename_i fs id k jx;split at h
  ·rename_i q hq;obtain rfl:=Bp h;have hp:=hx.rel;simp only[Aa]at hp;exact OpR.pure R (key fs q _ _ jx hq hp) ⟨by trivial,trivial,λid d6=>hx.ids id d6,λ_ h=>(by cases h)⟩ (λ_ h=>(by cases h))
  trivial
 ·rename_i fs cs jx;split at h
  ·rename_i q hq;replace h:=Al h;obtain⟨i7,h⟩:=h;obtain rfl:=Bp h;obtain⟨b,off,hp,_⟩:=id hx.reld;exact OpR.pure R (key fs q _ _ jx hq hp) (VOK.rd (Lb.drop hp hx.reld (aH i7))) (λ_ h=>(by cases h))
  trivial
 ·rename_i fs id i sz off jx;split at h
  ·rename_i q hq;obtain rfl:=Bp h;have hp:=hx.rel;simp only[Aa]at hp;exact OpR.pure R (key fs q _ _ jx hq hp) ⟨by grind[Aa],trivial,λid d6=>hx.ids id d6,λ_ h=>(by cases h)⟩ (λ_ h=>(by cases h))
  trivial
 trivial
theorem At0 (hY:YOK P Y) (R:Rel Y X nt ds e a w G) {o:Oper} {p:Operand} {s:TypeId} {f:Nat} {x:T} (ho:o.op=.field s p f) (hx:VOK G w X.fz Y e x (a.eval p))
  {r r':List (Nat×Nat)} {out:Out} (h:(Adw Y (Y s) x f).run e.get r=some (out,r')):OpR P Y X nt ds e a w o out:=by
 unfold Adw at h;split at h
 ·rename_i fs cs jx;split at h
  ·rename_i q hq;have hk:=Afd jx;obtain⟨d,i,z,h1,h2,h3,h4,h5,h6,h7,h8⟩:=hY s (Aab hk);rw[hk]at h7;obtain⟨fields,rfl,gj,s7⟩:=h7;rw[<-gj,bQ]at hq;obtain⟨vs,ai,hl,hr⟩:=hx.reld;cases hf:fields.toList[f]? with
   |none=>grind
   |some im=>
    rw[hf]at hq;simp only[bO,aA]at hq;subst hq;have bh:fields[f]?=some im:=by grind
    split at h
    ·rename_i l8;replace h:=Al h;obtain⟨i7,h⟩:=h;have i7:=aH i7;obtain rfl:=Bp h;have d7:(execOp a.eval o).run P w=.ok (.value (.agg (vs.extract im.offset (im.offset+(Y im.type).size)))) w:=by
      simp[execOp,ho,ai,Instr.field,aO h1,bh,asAgg,part,Qy hY l8,Dq hY (Et l8)]
     refine OpR.pure R d7 (VOK.agg (Aw.dem ⟨?_,λj c v hc hv=>?_⟩)) (λ_ h=>(by cases h))
     ·grind
     ·rw[fU,gV]at hc;split at hc
      ·rename_i hj;refine hr _ c v hc ?_;simp only[fJ,eF]at hv;rw[fU,gV]at hv;split at hv
       ·exact hv
       ·cases hv
      ·cases hc
    ·rename_i l8;have hh:∃c rest,cs.drop im.offset=c::rest/\out=⟨[],[],.d (.c c.dem),[]⟩:=by
      unfold Zk at h;split at h
      ·grind[Bp]
      ·trivial
     obtain⟨c,rest,hd,rfl⟩:=hh;have hc:cs[im.offset]?=some c:=by
      have:(cs.drop im.offset)[0]?=some c:=by grind
      grind
     have hlt:im.offset<vs.toList.length:=by grind
     have iv:vs.toList[im.offset]?=some vs.toList[im.offset]:=aQ hlt;have gk:vs[im.offset]?=some vs.toList[im.offset]:=by rw[<-bD];exact iv
     refine OpR.pure R (v:=vs.toList[im.offset]) ?_ (VOK.dem (x:=.c c) (hr _ c _ hc iv)) (λ_ h=>(by cases h));simp[execOp,ho,ai,Instr.field,aO h1,bh,asAgg,part,Qy hY l8,gk]
    trivial
  trivial
 trivial
def At1 {vis:Nat->Nat} {x:C} {n:Nat} {f:Nat->List C} {v:Value} (hx:x.elems?=some (n,f)) (h:Rep vis w x v):Rep vis w (.s .n n f) v:=by
 unfold C.elems? at hx;split at hx
 ·simp only[aA,aD]at hx;obtain⟨rfl,rfl⟩:=hx;exact h.dem
 ·simp only[aA,aD]at hx;obtain⟨rfl,rfl⟩:=hx;rw[Le h];exact .nil _ _
 ·cases hx
def Tn {x:T} {n:Nat} {f:Nat->List C} {v:Value} (hx:x.elems?=some (n,f)) (h:VOK G w O Y e x v):Rep G.vis w (.s .n n f) v:=by
 unfold T.elems? at hx;split at hx
 ·exact At1 hx h.reld
 ·cases hx
def Qz (R:Rel Y X nt ds e a w G) {id sz m:Nat} {fz:Bool} {f:Nat->List C} (h:e.get 2 id=.arrc fz sz m f):
  (∃cs t z,w.heap[G.bk id]?=some (.cells cs t z)/\Ns cs z/\RowR G.vis w sz m f cs)/\0<sz/\(fz=true->m*sz<=G.vis (G.bk id))/\(fz=false->G.vis (G.bk id)=0):=by
 have:=(R.mem.box id (by rw[h];simp)).2.2;rw[h]at this;exact this
theorem arr_val {id n:Nat} {v:Value} (h:VOK G w O Y e (.arr id n) v):(n=0/\v=.slice none 0 0)∨∃cap,v=.slice (some ⟨G.bk id,0,none⟩) n cap/\n<=cap/\cap<=maxLen:=by
 have:=h.rel;grind[Aa]
theorem At2 (hY:YOK P Y) (R:Rel Y X nt ds e a w G) {o:Oper} {p q:Operand} {t:TypeId} {x y:T} (ho:o.op=.indexAddr t p q) (hx:VOK G w X.fz Y e x (a.eval p)) (hy:VOK G w X.fz Y e y (a.eval q))
  {r r':List (Nat×Nat)} {out:Out} (h:(Adx Y (Y t) x y).run e.get r=some (out,r')) (hv:∀p∈out.vc,p):OpR P Y X nt ds e a w o out:=by
 unfold Adx at h;split at h
 ·rename_i el id n k i hk hi;simp only[M.run]at h;split at h
  ·rename_i fz sz m f i8;replace h:=Al h;obtain⟨hb,h⟩:=h;obtain⟨w9,j9⟩:=and_true hb;have j9:=aG j9;obtain rfl:=Fa h;obtain⟨h0,hlt⟩:=hv _ aC;obtain⟨d,i',z,h1,h2,h3,h4,h5,h6,h7,h8⟩:=hY t (by simp[Ty.known,hk]);rw[hk]at h7;simp only[KOK]at h7;subst h7;have gh:=Ez hi hy;rcases arr_val hx with ⟨hn,_⟩|⟨cap,cf,_,_⟩
   ·omega
   ·refine OpR.pure R (v:=.pointer (some ⟨G.bk id,i.toNat*sz,none⟩)) ?_ ⟨by trivial,trivial,λi5 d6=>?_,λ_ h=>(by cases h)⟩ (λ_ h=>(by cases h))
    ·simp[execOp,ho,cf,gh,Instr.indexAt,asIntOf,aO h1,Dq hY w9,h0,hlt,Ih,<-j9]
    grind[Aj]
  ·rename_i el0 sz0 m f ou0 i8;replace h:=Al h;obtain⟨hb,h⟩:=h;obtain⟨w9,j9⟩:=and_true hb;have j9:=aG j9;obtain rfl:=Fa h;obtain⟨h0,hlt⟩:=hv _ aC;obtain⟨d,i',z,h1,h2,h3,h4,h5,h6,h7,h8⟩:=hY t (by simp[Ty.known,hk]);rw[hk]at h7;simp only[KOK]at h7;subst h7;have gh:=Ez hi hy;rcases arr_val hx with ⟨hn,_⟩|⟨cap,cf,_,_⟩
   ·omega
   ·refine OpR.pure R (v:=.pointer (some ⟨G.bk id,i.toNat*1,none⟩)) ?_ ⟨by trivial,trivial,λi5 d6=>?_,λ_ h=>(by cases h)⟩ (λ_ h=>(by cases h))
    ·simp[execOp,ho,cf,gh,Instr.indexAt,asIntOf,aO h1,Dq hY w9,h0,hlt,Ih,<-j9]
    grind[Aj]
  trivial
 ·rename_i el k i hk dy hi;split at h
  ·rename_i n f hn;replace h:=Al h;obtain⟨hb,h⟩:=h;obtain⟨w9,j9⟩:=and_true hb;have j9:=aG j9;obtain rfl:=Fa h;obtain⟨h0,hlt⟩:=hv _ aC;obtain⟨d,i',z,h1,h2,h3,h4,h5,h6,h7,h8⟩:=hY t (by simp[Ty.known,hk]);rw[hk]at h7;simp only[KOK]at h7;subst h7;have gh:=Ez hi hy;have i6:=Tn hn hx;generalize cf:a.eval p=pv at i6;cases i6 with
   |nil=>omega
   |e=>omega
   |s g n f b off cap sz u uu hc hz cd hu hr=>
    have wl:i.toNat<n:=by omega
    have hs:(Y el).size=sz:=by grind
    have i7:(i.toNat+1)*sz<=n*sz:=aY _ wl;rw[dD,Nat.one_mul]at i7;refine OpR.pure R (v:=.pointer (some ⟨b,off+i.toNat*(Y el).size,none⟩)) ?_ (VOK.rd ?_) (λ_ h=>(by cases h))
    ·simp[execOp,ho,cf,gh,Instr.indexAt,asIntOf,aO h1,Dq hY w9,h0,hlt,Ih]
    ·rw[hs];exact⟨b,_,rfl,λj c hj=>⟨_,hu _ j c wl hj,hr _ j c wl hj⟩,.inr (by omega)⟩
  trivial
 ·rename_i n el id k kk j hk hi;obtain⟨hb,h⟩:=Al h;obtain⟨w9,hlt⟩:=and_true hb;have hlt:j<n:=aH hlt;obtain rfl:=Bp h;obtain⟨d,i',z,h1,h2,h3,h4,h5,h6,h7,h8⟩:=hY t (by simp[Ty.known,hk]);rw[hk]at h7;simp only[KOK]at h7;subst h7;have gh:=Ez hi hy;have hp:=hx.rel;simp only[Aa]at hp;refine OpR.pure R (v:=.pointer (some ⟨G.bk id,k+j*(Y el).size,none⟩)) ?_ ⟨by trivial,trivial,λi5 d6=>hx.ids i5 d6,λ_ h=>(by cases h)⟩ (λ_ h=>(by cases h));have pf:(j:Int)<(n:Int):=by omega
  simp[execOp,ho,hp,gh,Instr.indexAt,asIntOf,aO h1,Dq hY w9,hlt,pf,Ih,Instr.sureAddr]
 trivial
def At3:∀(n:Nat) {id k:Nat} {r r':List (Nat×Nat)} {cs:List C},(Ni id n k).run e.get r=some (cs,r')->
  cs.length<=n/\∀j c,cs[j]?=some c->e.get (id+3) (k+j)=.d (.c c):=by
 intro n
 induction n with
 |zero=>
  grind[Ni,M.run]
 |succ n ih=>
  intro id k r r' cs h;simp only[Ni,M.run]at h;split at h
  ·rename_i c hc;obtain⟨az,r1,h1,h2⟩:=Ah h;grind[M.run]
  grind[M.run]
def At4 (R:Rel Y X nt ds e a w G) {id k:Nat} {cs:List C} (h:∀(j:Nat) c,cs[j]?=some c->e.get (id+3) (k+j)=.d (.c c)):
  ∃us:List Value,us.length=cs.length/\(∀(j:Nat) u,us[j]?=some u->w.cell? ⟨G.bk id,k+j,none⟩=some u)/\Aw G.vis w cs us:=by
 induction cs generalizing k with
 |nil=>exact⟨[],rfl,λj u hj=>(by simp at hj),rfl,λj c v hc=>(by simp at hc)⟩
 |cons c cs ih=>
  obtain⟨us,h1,h2,h3⟩:=ih (k:=k+1) λj c' hj=>by
   have:=h (j+1) c' (by trivial);grind
  have h0:e.get (id+3) k=.d (.c c):=h 0 c rfl;obtain⟨_,_,u,hu,hv⟩:=R.mem.cells id k (by grind);rw[h0]at hv;refine⟨u::us,by simp[h1],λj u' hj=>?_,by simp[h1],λj c' v hc ak=>?_⟩
  ·grind
  ·cases j with
   |zero=>
    simp only[bR,aA]at hc ak;subst hc;subst ak;exact hv.reld
   |succ j=>exact h3.2 j c' v (by trivial) (by trivial)
def Ak6 {vis:Nat->Nat} {b:Nat}:∀(cs:List C) (off:Nat),(∀(j:Nat) c,cs[j]?=some c->∃u,w.cell? ⟨b,off+j,none⟩=some u/\Rep vis w c u)->
  ∃us:List Value,us.length=cs.length/\(∀(j:Nat) u,us[j]?=some u->w.cell? ⟨b,off+j,none⟩=some u)/\Aw vis w cs us:=by
 intro cs
 induction cs with
 |nil=>intro off _;exact⟨[],rfl,λj u hj=>(by simp at hj),rfl,λj c v hc=>(by simp at hc)⟩
 |cons c cs ih=>
  intro off h;obtain⟨us,h1,h2,h3⟩:=ih (off+1) λj c' hj=>by
   obtain⟨u,hu,hr⟩:=h (j+1) c' (by trivial);grind
  obtain⟨u,hu,hr⟩:=h 0 c rfl;refine⟨u::us,by simp[h1],λj u' hj=>?_,by simp[h1],λj c' v hc ak=>?_⟩
  ·grind
  grind
def Jv (hY:YOK P Y) {t:TypeId} (l8:(Y t).agg=some true) {b off:Nat} {us:List Value} (hl:us.length=(Y t).size) (hu:∀(j:Nat) u,us[j]?=some u->w.cell? ⟨b,off+j,none⟩=some u):
  (loadVar t ⟨b,off,none⟩).run P w=.ok (.agg us.toArray) w:=by
 have:=run_loadCells_list (P:=P) w ⟨b,off,none⟩ us λj v hj=>by grind[Ih]
 simp[loadVar,Qy hY l8,Dq hY (Et l8),<-hl,this]
def Nt (hY:YOK P Y) {t:TypeId} (l8:(Y t).agg=some false) {b off:Nat} {u:Value} (hu:w.cell? ⟨b,off,none⟩=some u):
  (loadVar t ⟨b,off,none⟩).run P w=.ok u w:=by
 simp[loadVar,Qy hY l8,hu]
def To (e:Env) (k sz m:Nat) (f:Nat->List C):Prop:=e.get 2 k=.arrc false sz m f∨∃el s g,sz=1/\e.get 2 k=.arro el s m g none/\f=Vr g
def To.ne {e:Env} {k sz m:Nat} {f:Nat->List C} (h:To e k sz m f):e.get 2 k≠.any/\e.get 2 k≠live/\(∀kn ag dom val,e.get 2 k≠.mapc false kn ag dom val)/\∀s n g,e.get 2 k≠.arrc true s n g:=by
 rcases h with h|⟨_,_,_,_,h,_⟩<;>rw[h]<;>simp[live]
def To.uniq {e:Env} {k sz m cn m':Nat} {f f':Nat->List C} (h:To e k sz m f) (h':To e k cn m' f'):sz=cn/\m=m'/\f=f':=by
 rcases h with h|⟨_,_,_,rfl,h,rfl⟩<;>rcases h' with h'|⟨_,_,_,rfl,h',rfl⟩<;>rw[h]at h'<;>simp at h'
 ·exact h'
 grind
def Cf (e W:Env):Prop:=∀t k x,(t,k,x)∈W->t=2/\k<FAR/\((∃sz m f,To e k sz m f/\x=.arrc true sz m f)∨∃kn ag dom val,e.get 2 k=.mapc false kn ag dom val/\x=.mapc true kn ag dom val)
def Cf.tail {p:Nat×Nat×T} {W:Env} (h:Cf e (p::W)):Cf e W:=λt k x hm=>h t k x (aU _ hm)
def Cf.app {W W':Env} (h:Cf e W) (h':Cf e W'):Cf e (W++W'):=λt k x hm=>(cP.1 hm).elim (h t k x) (h' t k x)
def Cf.nil:Cf e []:=λ_ _ _ h=>(by cases h)
theorem get_frz {W:Env} (h:Cf e W) {t k:Nat}:(∃x,t=2/\(2,k,x)∈W/\Env.get (W++e) t k=x)∨Env.get (W++e) t k=e.get t k:=by
 induction W with
 |nil=>grind
 |cons p W ih=>
  obtain⟨t',k',x⟩:=p;rw[bZ,Am];split
  ·rename_i hh;obtain⟨rfl,rfl⟩:=hh;obtain⟨rfl,_⟩:=h _ _ _ aC;grind
  ·exact (ih h.tail).imp (λ⟨x,h1,h2,h3⟩=>⟨x,h1,aU _ h2,h3⟩) id
def Aac {W:Env} (h:Cf e W) {k:Nat} {x:T} (hm:(2,k,x)∈W):Env.get (W++e) 2 k=x:=by
 induction W with
 |nil=>cases hm
 |cons p W ih=>
  obtain⟨t',k',y⟩:=p;obtain⟨rfl,_,hy⟩:=h _ _ _ aC;rw[bZ,Am];split
  ·rename_i hh;obtain⟨_,rfl⟩:=hh;obtain⟨_,_,hx⟩:=h _ _ _ hm;rcases hx with ⟨_,_,_,h1,rfl⟩|⟨_,_,_,_,h1,rfl⟩<;>rcases hy with ⟨_,_,_,h2,rfl⟩|⟨_,_,_,_,h2,rfl⟩
   ·obtain⟨rfl,rfl,rfl⟩:=h1.uniq h2;rfl
   ·exact absurd h2 (h1.ne.2.2.1 _ _ _ _)
   ·exact absurd h1 (h2.ne.2.2.1 _ _ _ _)
   grind
  ·rename_i hh;cases hm with
   |head=>omega
   |tail _ hm=>exact ih h.tail hm
theorem Nu {W:Env} (h:Cf e W) {t k:Nat} (ht:t≠2):Env.get (W++e) t k=e.get t k:=
 by grind[get_frz]
def Afe {W:Env} (h:Cf e W) {k:Nat} (hk:e.get 2 k≠.any):Env.get (W++e) 2 k≠.any:=by
 rcases get_frz (t:=2) (k:=k) h with ⟨x,_,hm,h2⟩|h2
 ·rw[h2];obtain⟨_,_,hx⟩:=h _ _ _ hm;grind
 grind
def frzN:T->Nat
 | .arrc _ sz m _=>m*sz
 |_=>0
theorem Lg (R:Rel Y X nt ds e a w G) {W:Env} (h:Cf e W):∃G',Rel Y X nt ds (W++e) a w G'/\(∀x v,VOK G w X.fz Y e x v->VOK G' w X.fz Y (W++e) x v)/\(∀b,G.vis b<=G'.vis b)/\G'.bk=G.bk/\G'.tk=G.tk/\G'.H=G.H/\G'.dm=G.dm:=by
 -- how much is to be visible
 obtain⟨vis',bq,cj,ou⟩:∃vis':Nat->Nat,(∀b,G.vis b<=vis' b)/\(∀b,(∀k x,(2,k,x)∈W->G.bk k≠b)->vis' b=G.vis b)/\
   ∀k x,(2,k,x)∈W->(∀sz m f,x=.arrc true sz m f->m*sz<=vis' (G.bk k))/\0<vis' (G.bk k):=by
  clear h
  induction W with
  |nil=>exact⟨G.vis,λ_=>aI _,λ_ _=>rfl,λ_ _ h=>(by cases h)⟩
  |cons p W ih=>
   obtain⟨vis',h1,h2,h3⟩:=ih;obtain⟨t,k,x⟩:=p;refine⟨λb=>if b=G.bk k/\t=2 then vis' b+frzN x+1 else vis' b,λb=>?_,λb hb=>?_,λk' x' hm=>?_⟩
   ·grind
   ·grind
   grind[frzN]
 have o8:∀k x,(2,k,x)∈W->e.get 2 k≠.any/\k<FAR:=λk x hm=>by
  obtain⟨_,h1,h2⟩:=h _ _ _ hm;refine⟨?_,h1⟩;rcases h2 with ⟨_,_,_,h2,_⟩|⟨_,_,_,_,h2,_⟩
  ·exact h2.ne.1
  grind
 obtain⟨R',lift⟩:=R.move (w':=w) (G':={ G with vis:=vis' }) (e':=W++e) ⟨bq,.refl _ _,λ_ _=>rfl⟩ (.refl _) rfl rfl (λ_ _=>rfl) (λ_ _=>rfl) (λt=>Nu h (by decide))
  (λid d6=>⟨rfl,Afe h d6⟩) (λk hk=>by grind[Nu])
  (λk b _ hb _=>⟨hb,rfl,cj b λk' x hm hh=>(R.tks k b hb).2.2.2.2 k' (o8 k' x hm).1 hh⟩)
  (λlift id d6=>by
   by_cases hm:∃x,(2,id,x)∈W
   ·obtain⟨x,hm⟩:=hm;obtain⟨hu,hf⟩:=o8 id x hm;obtain⟨g1,g2,g3⟩:=R.mem.box id hu;have hg:=Aac h hm;refine .inr ⟨g1,g2,R.ownb id hu,λi5 v7 hh=>R.mem.inj i5 id ?_ hu hh,λk hk=>(R.tks k _ hk).2.2.2.2 id hu rfl,?_,λ_ hl=>?_,λk hk=>?_⟩
    ·grind[get_frz]
    ·rw[hg];obtain⟨q1,q2⟩:=ou id x hm;obtain⟨_,_,hx⟩:=h _ _ _ hm;rcases hx with ⟨sz,m,f,h1,rfl⟩|⟨kn,ag,dom,val,h1,rfl⟩
     ·replace g3:∃cs t z,w.heap[G.bk id]?=some (.cells cs t z)/\Ns cs z/\RowR G.vis w sz m f cs/\0<sz:=by
       rcases h1 with h1|⟨el,s,g,rfl,h1,rfl⟩
       ·rw[h1]at g3;obtain⟨⟨cs,t,z,g4,gz,g5⟩,g7,_⟩:=g3;grind
       ·rw[h1]at g3;obtain⟨_,_,cs,t,g4,g5,g6⟩:=g3;refine⟨cs,t,(0,0),g4,.inl rfl,⟨by omega,λi hi=>⟨rfl,λj c hc=>?_⟩⟩,Nat.one_pos⟩
        match j with
        |0=>
         simp only[Vr,bR,aA]at hc;subst hc;obtain⟨u,g7,g8⟩:=g6 i hi;exact⟨u,by grind,(g8 (by simp)).1⟩
        |j+1=>simp[Vr]at hc
      obtain⟨cs,t,z,g4,gz,⟨g5,g6⟩,g7⟩:=g3;exact⟨⟨cs,t,z,g4,gz,g5,λi hi=>⟨(g6 i hi).1,λj c hc=>by obtain⟨u,hu1,iu⟩:=(g6 i hi).2 j c hc;exact⟨u,hu1,iu.mono' bq (.refl _ _)⟩⟩⟩,g7,λ_=>q1 sz m f rfl,λhh=>(by cases hh)⟩
     ·rw[h1]at g3;obtain⟨⟨es,cl,g4,g5,g6⟩,g7,g8⟩:=g3;exact⟨⟨es,cl,g4,g5,λi en k he hk=>⟨(g6 i en k he hk).1,(g6 i en k he hk).2.mono' bq (.refl _ _)⟩⟩,λ_=>q2,λhh=>(by cases hh)⟩
    ·omega
    ·rw[Nu h (by omega)]at hk;have:=(R.mem.cells id k hk).1;obtain⟨_,_,hx⟩:=h _ _ _ hm;rcases hx with ⟨_,_,_,h1,_⟩|⟨_,_,_,_,h1,_⟩
     ·exact absurd this h1.ne.2.1
     ·rw[h1]at this;cases this
   ·have hg:Env.get (W++e) 2 id=e.get 2 id:=by grind[get_frz]
    rw[hg]at d6;exact .inl ⟨d6,hg,rfl,cj _ λk x hk hh=>hm ⟨x,by rw[<-R.mem.inj k id (o8 k x hk).1 d6 hh];exact hk⟩,λk=>Nu h (by omega)⟩)
  (λid k hk=>by rw[Nu h (by omega)]at hk;exact Afe h (by rw[(R.mem.cells id k hk).1];simp[live]))
  (λk b hb=>by
   obtain⟨h1,h2,h3,h4,h5⟩:=R.tks k b hb;exact⟨h1,h2,h3,h4,h5,(R.tlive k b hb).mono (λk hk=>by grind[Nu]) (λid d6=>⟨Afe h d6,rfl⟩)⟩)
  R.tinj (λb hb=>by
   rw[<-R.fresh b hb];exact cj b λk x hm hh=>by have:=(R.mem.box k (o8 k x hm).1).2.1;omega)
  (λb hb=>cj b λk x hm hh=>by have:=(R.ownb k (o8 k x hm).1).1 (o8 k x hm).2;omega)
  (λb hb=>cj b λk x hm hh=>(R.mem.box k (o8 k x hm).1).1 (by grind))
 grind
def Aff (R:Rel Y X nt ds e a w G) {id sz n m:Nat} {f:Nat->List C} (h:e.get 2 id=.arrc true sz m f) (hn:n=m) {v:Value} (hv:VOK G w O Y e (.arr id n) v):Rep G.vis w (.s .n n f) v:=by
 obtain⟨⟨cs,t,z,h1,hz,h2,h3⟩,h4,h5,_⟩:=Qz R h;subst hn;rcases arr_val hv with ⟨rfl,rfl⟩|⟨cap,rfl,h6,h7⟩
 ·exact .nil _ _
 ·have hc:∀i j c,i<n->(f i)[j]?=some c->∃u,cs[i*sz+j]?=some u/\Rep G.vis w c u:=λi j c hi hj=>(h3 i hi).2 j c hj;refine .s _ n f _ 0 cap sz (λi j=>cs.getD (i*sz+j) undef) h6 h7 (λi hi=>(h3 i hi).1) (by grind) (λi j c hi hj=>?_) (λi j c hi hj=>?_)
  ·obtain⟨u,h8,_⟩:=hc i j c hi hj;rw[bH,aW,h8];grind[World.cell?]
  ·obtain⟨u,h8,h9⟩:=hc i j c hi hj;rw[aW,h8];exact h9
def Ak7 (R:Rel Y X nt ds e a w G) {id kn:Nat} {ag:Bool} {dom:List Int->Bool} {val:List Int->List C} (h:e.get 2 id=.mapc true kn ag dom val) {v:Value} (hv:VOK G w O Y e (.mp id) v):Rep G.vis w (.m kn ag dom val) v:=by
 have:=(R.mem.box id (by rw[h];simp)).2.2;rw[h]at this;obtain⟨⟨es,cl,h1,h2,h3⟩,h4,_⟩:=this;have hr:=hv.rel;simp only[Aa]at hr;subst hr;exact .m kn ag dom val _ es cl (h4 rfl) h1 h2 (λi en k he hk=>⟨(h3 i en k he hk).1,(h3 i en k he hk).2.1⟩) (λi j en k c u he hk hc hu=>(h3 i en k he hk).2.2 j c u hc hu)
def Jw {x:T} {c:C} {ps:List Prop} {W:Env} {r r':List (Nat×Nat)} (h:(Gw x).run e.get r=some ((c,ps,W),r')):
  Cf e W/\∀{W':Env} {G':Gh} {v:Value},Cf e W'->(∀p∈W,p∈W')->(∀p∈ps,p)->Rel Y X nt ds (W'++e) a w G'->VOK G' w O Y (W'++e) x v->Rep G'.vis w c v:=by
 unfold Gw at h;split at h
 ·simp only[M.run,aA,aD]at h;obtain⟨⟨rfl,rfl,rfl⟩,_⟩:=h;exact⟨.nil,λ_ _ _ _ hv=>hv.reld⟩
 ·rename_i id n;simp only[M.run]at h;split at h
  ·rename_i sz m f hg;simp only[M.run,aA,aD]at h;obtain⟨⟨rfl,rfl,rfl⟩,_⟩:=h;refine⟨.nil,λhW _ hp R' hv=>Aff (sz:=sz) (m:=m) (f:=f) R' ?_ (hp _ aC) hv⟩;rcases get_frz (t:=2) (k:=id) hW with ⟨y,_,hm,h2⟩|h2
   ·obtain⟨_,_,hy⟩:=hW _ _ _ hm;rcases hy with ⟨_,_,_,h3,rfl⟩|⟨_,_,_,_,h3,rfl⟩
    ·first|exact absurd hg (h3.ne.2.2.2 _ _ _)|(rcases h3 with h3|⟨_,_,_,_,h3,_⟩<;>rw[hg]at h3<;>cases h3)
    grind
   grind
  ·rename_i sz m f hg;replace h:=Al h;obtain⟨hf,h⟩:=h;simp only[M.run,aA,aD]at h;obtain⟨⟨rfl,rfl,rfl⟩,_⟩:=h;refine⟨λt k x hm=>?_,λhW n5 hp R' hv=>Aff R' (Aac hW (n5 _ aC)) (hp _ aC) hv⟩;simp only[aZ,aD]at hm;obtain⟨rfl,rfl,rfl⟩:=hm;exact⟨rfl,Bh hf,.inl ⟨_,_,_,.inl hg,rfl⟩⟩
  ·rename_i el s m f hg;replace h:=Al h;obtain⟨hf,h⟩:=h;simp only[M.run,aA,aD]at h;obtain⟨⟨rfl,rfl,rfl⟩,_⟩:=h;refine⟨λt k x hm=>?_,λhW n5 hp R' hv=>Aff R' (Aac hW (n5 _ aC)) (hp _ aC) hv⟩;simp only[aZ,aD]at hm;obtain⟨rfl,rfl,rfl⟩:=hm;exact⟨rfl,Bh hf,.inl ⟨_,_,_,.inr ⟨el,s,f,rfl,hg,rfl⟩,rfl⟩⟩
  trivial
 ·rename_i id;simp only[M.run]at h;split at h
  ·rename_i kn ag dom val hg;simp only[M.run,aA,aD]at h;obtain⟨⟨rfl,rfl,rfl⟩,_⟩:=h;refine⟨.nil,λhW _ hp R' hv=>Ak7 (kn:=kn) (ag:=ag) (dom:=dom) (val:=val) R' ?_ hv⟩;rcases get_frz (t:=2) (k:=id) hW with ⟨y,_,hm,h2⟩|h2
   ·obtain⟨_,_,hy⟩:=hW _ _ _ hm;rcases hy with ⟨_,_,_,h3,rfl⟩|⟨_,_,_,_,h3,rfl⟩
    ·first|exact absurd hg (h3.ne.2.2.2 _ _ _)|(rcases h3 with h3|⟨_,_,_,_,h3,_⟩<;>rw[hg]at h3<;>cases h3)
    grind
   grind
  ·rename_i kn ag dom val hg;replace h:=Al h;obtain⟨hf,h⟩:=h;simp only[M.run,aA,aD]at h;obtain⟨⟨rfl,rfl,rfl⟩,_⟩:=h;refine⟨λt k x hm=>?_,λhW n5 hp R' hv=>Ak7 R' (Aac hW (n5 _ aC)) hv⟩;simp only[aZ,aD]at hm;obtain⟨rfl,rfl,rfl⟩:=hm;exact⟨rfl,Bh hf,.inr ⟨_,_,_,_,hg,rfl⟩⟩
  trivial
 trivial
def Ak8 (R:Rel Y X nt ds e a w G) {id:Nat}:∀(n:Nat) {k:Nat} {r r':List (Nat×Nat)} {cs:List C} {ps:List Prop} {W:Env},(Qn id n k).run e.get r=some ((cs,ps,W),r')->
  cs.length=n/\Cf e W/\∃us:List Value,us.length=n/\(∀(j:Nat) u,us[j]?=some u->w.cell? ⟨G.bk id,k+j,none⟩=some u)/\
  ∀{W':Env} {G':Gh},Cf e W'->(∀p∈W,p∈W')->(∀p∈ps,p)->Rel Y X nt ds (W'++e) a w G'->(∀x v,VOK G w X.fz Y e x v->VOK G' w X.fz Y (W'++e) x v)->Aw G'.vis w cs us:=by
 intro n
 induction n with
 |zero=>
  intro k r r' cs ps W h;simp only[Qn,M.run,aA,aD]at h;obtain⟨⟨rfl,rfl,rfl⟩,_⟩:=h;exact⟨rfl,.nil,[],rfl,λj u hj=>(by simp at hj),λ_ _ _ _ _=>⟨rfl,λj c v hj=>(by simp at hj)⟩⟩
 |succ n ih=>
  intro k r r' cs ps W h;simp only[Qn,M.run]at h;obtain⟨⟨c,qu,W1⟩,r1,h1,h2⟩:=Ah h;obtain⟨⟨az,na,W2⟩,r2,h3,h4⟩:=Ah h2;simp only[M.run,aA,aD,Gv.add]at h4;obtain⟨⟨rfl,rfl,rfl⟩,_⟩:=h4;obtain⟨g1,g2,us,g3,g4,g5⟩:=ih h3;obtain⟨f1,_⟩:=Jw (Y:=Y) (X:=X) (nt:=nt) (ds:=ds) (a:=a) (w:=w) (O:=X.fz) h1;have s7:e.get (id+3) k≠.any:=λhh=>by rw[hh]at h1;trivial
  obtain⟨_,_,u,hu,hv⟩:=R.mem.cells id k s7;refine⟨by simp[g1],f1.app g2,u::us,by simp[g3],λj u' hj=>?_,λhW n5 hp R' lift=>?_⟩
  ·grind
  ·have hc:=(Jw (Y:=Y) (X:=X) (nt:=nt) (ds:=ds) (a:=a) (w:=w) (O:=X.fz) h1).2 hW (λp hp=>n5 p (aJ _ hp)) (λp gg=>hp p (aJ _ gg)) R' (lift _ _ hv);obtain⟨l1,l2⟩:=g5 hW (λp hp=>n5 p (aM _ hp)) (λp gg=>hp p (aM _ gg)) R' lift;refine⟨by simp[l1],λj c' v hc' ak=>?_⟩;grind
theorem Ak9 (hY:YOK P Y) (R:Rel Y X nt ds e a w G) {pv:Value} {t:TypeId} {x:T} (hx:VOK G w X.fz Y e x pv)
  {r r':List (Nat×Nat)} {out:Out} (h:(So (Y t) x).run e.get r=some (out,r')) (hv:∀p∈out.vc,p):
  ∃v ad,pv=.pointer (some ad)/\(loadVar t ad).run P w=.ok v w/\(∀cs,out.val≠.d (.rd cs))/\Cf e out.wr/\out.hyp=[]/\
  ∀{W':Env} {G':Gh},Cf e W'->(∀p∈out.wr,p∈W')->Rel Y X nt ds (W'++e) a w G'->(∀x v,VOK G w X.fz Y e x v->VOK G' w X.fz Y (W'++e) x v)->(∀b,G.vis b<=G'.vis b)->VOK G' w X.fz Y (W'++e) out.val v:=by
 unfold So at h;split at h
 ·rename_i id k l8;obtain⟨⟨cs,ps,W⟩,r1,h1,h2⟩:=Ah h;simp only[M.run,aA,aD]at h2;obtain⟨rfl,_⟩:=h2;obtain⟨g1,g2,us,g3,g4,g5⟩:=Ak8 R _ h1;have hp:=hx.rel;simp only[Aa]at hp;exact⟨.agg us.toArray,_,hp,Jv hY l8 g3 g4,λcs hh=>(by cases hh),g2,rfl,λhW n5 R' lift _=>VOK.agg (Aw.dem (by grind))⟩
 ·rename_i id k l8;simp only[M.run]at h;replace h:=Al h;obtain⟨aj,h⟩:=h;obtain rfl:=Bp h;obtain⟨_,_,u,hu,ak⟩:=R.mem.cells id k (λhh=>by rw[hh]at aj;cases aj);have hp:=hx.rel;simp only[Aa]at hp;refine⟨u,_,hp,Nt hY l8 hu,λcs hh=>?_,.nil,rfl,λ_ _ _ lift _=>lift _ _ ak⟩;dsimp only at hh;rw[hh]at aj;cases aj
 ·rename_i id i sz off l8;simp only[M.run]at h;split at h
  ·rename_i fz cn n f i8;have hs:∃az:List C,sz=cn/\off+(Y t).size<=(f i).length/\az=((f i).drop off).take (Y t).size/\(Di (i<n) (.d (.agg (az.map C.dem)))).run e.get ((2,id)::r)=some (out,r'):=by
    cases hb:(sz.beq cn&&off.beq 0&&sz.beq (Y t).size&&(f i).length.beq sz) with
    |true=>
     grind[Nat.eq_of_beq_eq_true]
    |false=>
     rw[hb]at h;simp only[cC]at h;replace h:=Al h;obtain⟨hb,h⟩:=h;obtain⟨h1,h2⟩:=and_true hb;exact⟨_,aG h1,aH h2,rfl,h⟩
   clear h;obtain⟨az,h1,h2,aw,h⟩:=hs;subst h1;obtain rfl:=Fa h;have hlt:i<n:=hv _ aC;obtain⟨⟨cs,ct,z,q1,hz,q2,q3⟩,q4,_⟩:=Qz R i8;obtain⟨q5,q6⟩:=q3 i hlt;obtain⟨us,u1,u2,u3⟩:=Ak6 (w:=w) (vis:=G.vis) (b:=G.bk id) az (i*sz+off) λj c hj=>by
    grind[World.cell?]
   have hp:=hx.rel;simp only[Aa]at hp;exact⟨.agg us.toArray,_,hp,Jv hY l8 (by grind) u2,λcs hh=>(by cases hh),.nil,rfl,λ_ _ _ _ d8=>VOK.agg (Aw.dem (by simpa using u3.mono' d8 (.refl _ _)))⟩
  trivial
 ·rename_i id i sz off l8;simp only[M.run]at h;split at h
  ·rename_i fz cn n f i8;replace h:=Al h;obtain⟨h1,h⟩:=h;have h1:=aG h1;subst h1;split at h
   ·rename_i c rest uw;obtain rfl:=Fa h;have hlt:i<n:=hv _ aC;obtain⟨⟨cs,ct,z,q1,hz,q2,q3⟩,q4,_⟩:=Qz R i8;obtain⟨q5,q6⟩:=q3 i hlt;obtain⟨u,hu,hr⟩:=q6 off c (by have:=cD (λl=>l[0]?) uw;grind);have hp:=hx.rel;simp only[Aa]at hp;exact⟨u,_,hp,Nt hY l8 (by grind[World.cell?]),λcs hh=>(by cases hh),.nil,rfl,λ_ _ _ _ d8=>VOK.dem (x:=.c c) (hr.mono' d8 (.refl _ _))⟩
   trivial
  trivial
 ·rename_i cs l8;replace h:=Al h;obtain⟨hl,h⟩:=h;have hl:=aH hl;obtain rfl:=Bp h;obtain⟨b,off,hp,hc,_⟩:=hx.reld;obtain⟨us,h3,h4,h5⟩:=Ak6 cs off hc;have:=Jv hY l8 (us:=us.take (Y t).size) (b:=b) (off:=off) (w:=w) (by simp;omega) λj u hj=>by
   grind
  refine⟨.agg (us.take (Y t).size).toArray,_,hp,this,λcs hh=>(by cases hh),.nil,rfl,λ_ _ _ _ d8=>VOK.agg (Aw.dem ((?_:Aw G.vis w _ _).mono' d8 (.refl _ _)))⟩;refine⟨by simp[h3],λj c v hc hv=>?_⟩;grind
 ·rename_i cs l8;unfold Zk at h;split at h
  ·rename_i c rest;obtain rfl:=Bp h;obtain⟨b,off,hp,hc,_⟩:=hx.reld;obtain⟨u,hu,hr⟩:=hc 0 c rfl;exact⟨u,_,hp,Nt hY l8 (by trivial),λcs hh=>(by cases hh),.nil,rfl,λ_ _ _ _ d8=>VOK.dem (x:=.c c) (hr.mono' d8 (.refl _ _))⟩
  trivial
 trivial
theorem Aka (hY:YOK P Y) (R:Rel Y X nt ds e a w G) {o:Oper} {p:Operand} {t:TypeId} {x:T} (ho:o.op=.load t p) (hx:VOK G w X.fz Y e x (a.eval p))
  {r r':List (Nat×Nat)} {out:Out} (h:(So (Y t) x).run e.get r=some (out,r')) (hv:∀p∈out.vc,p):OpR P Y X nt ds e a w o out:=by
 obtain⟨v,ad,h1,h2,_,h3,h4,h5⟩:=Ak9 hY R hx h hv;obtain⟨G',R',lift,d8,_⟩:=Lg R h3;refine⟨_,v,w,G',?_,.inl rfl,by grind,R',h5 h3 (λ_ h=>h) R' lift d8⟩;simp[execOp,ho,h1,Instr.loadAt,Instr.sureAddr,h2]
def Akb {vis:Nat->Nat} {n:Nat} {f:Nat->List C} {v:Value} (h:Rep vis w (.s .n n f) v):∃b c,v=.slice b n c/\n<=maxLen:=by
 cases h with
 |nil=>grind
 |e g f a=>grind
 |s g n f b off cap sz u hn hc hz hv hu hr=>grind
theorem At5 (hY:YOK P Y) (R:Rel Y X nt ds e a w G) {o:Oper} {p:Operand} {t:TypeId} {x:T} (ho:o.op=.call { callee:=.builtin .len,args:=#[p],argTypes:=#[t] }) (hx:VOK G w X.fz Y e x (a.eval p))
  {r r':List (Nat×Nat)} {out:Out} (h:(Ae3 (Y t) x).run e.get r=some (out,r')):OpR P Y X nt ds e a w o out:=by
 unfold Ae3 at h;have bi:∀{el:TypeId} {n:Nat},(Y t).kind=.slice el->(∃b c,a.eval p=.slice b n c/\n<=maxLen)->OpR P Y X nt ds e a w o ⟨[],[n<=maxLen],I n,[]⟩:=by
  intro el n hk hv;obtain⟨b,c,hv,i7⟩:=hv;obtain⟨d,i',z,h1,h2,h3,h4,h5,h6,h7,h8⟩:=hY t (by simp[Ty.known,hk]);rw[hk]at h7;simp only[KOK]at h7;subst h7;refine OpR.pure R (v:=.int .i64 n) ?_ (VOK.v _ rfl) (λp hp=>by grind);simp[execOp,ho,resolve,invoke,builtin,Builtin.len_,aO h1,hv,goInt]
 split at h
 ·grind[M.run,arr_val]
 ·rename_i el hk _;split at h
  ·rename_i n f hn;simp only[M.run,aA,aD]at h;obtain⟨rfl,_⟩:=h;exact bi hk (Akb (Tn hn hx))
  trivial
 ·rename_i x hk;split at h
  ·rename_i s hs;simp only[M.run,aA,aD]at h;obtain⟨rfl,_⟩:=h;have hv:=Ak1 hs hx;obtain⟨d,i',z,h1,h2,h3,h4,h5,h6,h7,h8⟩:=hY t (by simp[Ty.known,hk]);rw[hk]at h7;simp only[KOK]at h7;subst h7;refine OpR.pure R (v:=.int .i64 s.size) ?_ (VOK.v _ rfl) (λp hp=>(by cases hp));simp[execOp,ho,resolve,invoke,builtin,Builtin.len_,aO h1,hv,goInt]
  trivial
 trivial
theorem At6 (R:Rel Y X nt ds e a w G) {o:Oper} {p q:Operand} {ek:Array TypeId} {x y:T} (ho:o.op=.call { callee:=.builtin .max,args:=#[p,q],argTypes:=ek }) (hx:VOK G w X.fz Y e x (a.eval p)) (hy:VOK G w X.fz Y e y (a.eval q))
  {r r':List (Nat×Nat)} {out:Out} (h:(Ae4 x y).run e.get r=some (out,r')):OpR P Y X nt ds e a w o out:=by
 unfold Ae4 at h;split at h
 ·rename_i k n k' m h1 h2;obtain⟨hk,h9⟩:=Al h;have cw:k=k':=by grind
  clear h;subst cw;obtain rfl:=Bp h9;refine OpR.pure R (v:=.int k (max n m)) ?_ (VOK.v _ rfl) (λ_ h=>(by cases h));have e1:=Ez h1 hx;have e2:=Ez h2 hy;have hm:(if n<m then m else n)=max n m:=by omega
  simp[execOp,ho,resolve,invoke,builtin,Builtin.max_,Builtin.max2,e1,e2,hm]
 trivial
end
section
variable {P:Program} {Y:TypeId->Ty} {X:Cx} {nt:Nat} {ds:List Deferred} {e:Env} {a:Act} {w:World} {G:Gh}
def Afg (R:Rel Y X nt ds e a w G) {id el sz n:Nat} {f:Nat->Nat×(Nat->List C)} {out:Option Nat} (h:e.get 2 id=.arro el sz n f out):
  G.vis (G.bk id)=0/\0<sz/\∃cs t,w.heap[G.bk id]?=some (.cells cs t (0,0))/\n<=cs.size/\∀j,j<n->∃u,cs[j]?=some u/\(out≠some j->Lc G w el sz (G.bk id) j (f j).1 (f j).2 u):=by
 have:=(R.mem.box id (by rw[h];simp)).2.2;rw[h]at this;exact this
def Nv (G:Gh) (k b i:Nat):Tk->Option Nat
 | .o k'=>if k'=k then none else G.tk (.o k')
 | .s b' j=>if b'=b/\j=i then G.tk (.o k) else G.tk (.s b' j)
def Nw (G:Gh) (k b i:Nat):Tk->Option Nat
 | .o k'=>if k'=k then G.tk (.s b i) else G.tk (.o k')
 | .s b' j=>if b'=b/\j=i then none else G.tk (.s b' j)
def tkIn_src {k b i:Nat} {c:Tk} {x:Nat} (h:Nv G k b i c=some x):(c=.s b i/\G.tk (.o k)=some x)∨(c≠.s b i/\c≠.o k/\G.tk c=some x):=by
 cases c with
 |o k'=>
  grind[Nv]
 |s b' j=>
  grind[Nv]
def tkOut_src {k b i:Nat} {c:Tk} {x:Nat} (h:Nw G k b i c=some x):(c=.o k/\G.tk (.s b i)=some x)∨(c≠.s b i/\c≠.o k/\G.tk c=some x):=by
 cases c with
 |o k'=>
  grind[Nw]
 |s b' j=>
  grind[Nw]
theorem At7 (R:Rel Y X nt ds e a w G) {id el n i k m:Nat} {f:Nat->Nat×(Nat->List C)} {g:Nat->List C} {u:Value} (i8:e.get 2 id=.arro el (Y el).size n f (some i)) (hk:e.get 1 k=As el) (hf:k<FAR)
  (e9:w.cell? ⟨G.bk id,i,none⟩=some u) (i6:Rep G.vis w (.s .n m g) u) (l7:Own G w Y k el m g u) (uw:f i=(m,g)):
  ∃G',Rel Y X nt ds ((2,id,.arro el (Y el).size n f none)::(1,k,Bx)::e) a w G':=by
 obtain⟨G',hG⟩:∃G':Gh,({ G with tk:=Nv G k (G.bk id) i }:Gh)=G':=⟨_,rfl⟩
 have eh:G'.vis=G.vis:=by grind
 have nh:G'.bk=G.bk:=by grind
 have pg:G'.tk=Nv G k (G.bk id) i:=by grind
 have gH:G'.H=G.H:=by grind
 have gdm:G'.dm=G.dm:=by grind
 have e2:∀i5,Env.get ((2,id,.arro el (Y el).size n f none)::(1,k,Bx)::e) 2 i5=if i5=id then .arro el (Y el).size n f none else e.get 2 i5:=λi5=>by
  grind[Am]
 have e1:∀k',Env.get ((2,id,.arro el (Y el).size n f none)::(1,k,Bx)::e) 1 k'=if k'=k then Bx else e.get 1 k':=λk'=>by
  grind[Am]
 have e0:∀t k',t≠1->t≠2->Env.get ((2,id,.arro el (Y el).size n f none)::(1,k,Bx)::e) t k'=e.get t k':=λt k' h1 h2=>by
  grind[Bb]
 have d6:e.get 2 id≠.any:=by grind
 have iu:∀i5,Env.get ((2,id,.arro el (Y el).size n f none)::(1,k,Bx)::e) 2 i5≠.any↔e.get 2 i5≠.any:=λi5=>by
  grind
 obtain⟨o1,o2,cs,ct,o3,o4,o5⟩:=Afg R i8;have live:∀{c:Tk},Jb e G c->Jb ((2,id,.arro el (Y el).size n f none)::(1,k,Bx)::e) G' c:=λh=>h.mono (λk' t8=>by
  grind[Bx]) (λi5 v7=>⟨(iu i5).2 v7,by rw[nh]⟩)
 have gm:∀c b,G'.tk c=some b->∃c',G.tk c'=some b/\Jb ((2,id,.arro el (Y el).size n f none)::(1,k,Bx)::e) G' c:=λc b h=>by
  rw[pg]at h;rcases tkIn_src h with ⟨rfl,h9⟩|⟨_,_,h9⟩
  ·exact⟨_,h9,⟨id,(iu id).2 d6,by rw[nh]⟩⟩
  ·exact⟨_,h9,live (R.tlive c b h9)⟩
 refine⟨G',(R.move (w':=w) (G':=G') ⟨λb=>by grind,.refl _ _,λ_ _=>rfl⟩ (.refl _) gH gdm (λ_ _=>rfl) (λ_ _=>rfl) (λt=>e0 0 t (by decide) (by decide)) (λi5 h=>⟨by rw[nh],(iu i5).2 h⟩)
  (λk' h=>?_) (λc b hl hb mf=>?_) (λlift i5 h=>?_) (λi5 k' h=>?_) (λc b h=>?_) (λc c' b h h'=>?_) (λb hb=>by rw[eh];exact R.fresh b hb) (λb _=>by rw[eh]) (λb _=>by rw[eh])).1⟩
 ·grind[Bx,As]
 ·rw[pg,eh];refine⟨?_,rfl,rfl⟩;cases c with
  |o k'=>
   obtain⟨bz,mf⟩:=mf;grind[Bx,As,Nv]
  |s b' j=>
   obtain⟨i5,h1,h2,h3⟩:=mf;have s7:i5≠id:=by grind
   simp only[Nv];rw[bI (λhh=>s7 (R.mem.inj i5 id h1 d6 (by omega)))];exact hb
 ·by_cases hii:i5=id
  ·subst hii;obtain⟨b1,b2,_⟩:=R.mem.box i5 d6;refine .inr ⟨by grind,by grind,by rw[nh];exact R.ownb i5 d6,λid2 h2 hh=>R.mem.inj id2 i5 ((iu id2).1 h2) d6 (by grind),λc hc=>?_,?_,λ_ hl=>?_,λk' t8=>?_⟩
   ·rw[nh]at hc;obtain⟨c',h1,_⟩:=gm c _ hc;exact (R.tks c' _ h1).2.2.2.2 i5 d6 rfl
   ·rw[e2,bG rfl,nh];refine⟨by grind,o2,cs,ct,o3,o4,λj hj=>?_⟩;obtain⟨u',c1,c2⟩:=o5 j hj;refine⟨u',c1,λ_=>?_⟩
    by_cases sl:j=i
    ·subst sl;have hu':u'=u:=by grind[World.cell?]
     subst hu';rw[uw];refine⟨by grind,l7.1,?_⟩;rcases l7.2 with h|⟨h,h'⟩|⟨bb,xs,h1,h2,h3,h4⟩
     ·exact .inl h
     ·grind
     ·exact .inr (.inr ⟨bb,xs,by rw[pg];grind[Nv],h2,h3,by grind⟩)
    ·have hs:=c2 (λhh=>sl (by grind));refine Lc.mono (O:=λ_=>False) ⟨λb=>by grind,.refl _ _,λ_ _=>rfl⟩ (λbb hb=>⟨?_,rfl,by rw[eh]⟩) hs;rw[pg];grind[Nv]
   ·grind[Vc.live]
   ·rw[e0 _ _ (by omega) (by omega)]at t8;have:=(R.mem.cells i5 k' t8).1;grind[Vc.live]
  grind
 ·rw[e0 _ _ (by omega) (by omega)]at h;exact (iu i5).2 (by rw[(R.mem.cells i5 k' h).1];simp[Vc.live])
 ·obtain⟨c',h1,h2⟩:=gm c b h;obtain⟨q1,q2,q3,q4,q5⟩:=R.tks c' b h1;trivial
 ·rw[pg]at h h';rcases tkIn_src h with ⟨rfl,h1⟩|⟨n1,n2,h1⟩<;>rcases tkIn_src h' with ⟨rfl,h2⟩|⟨n3,n4,h2⟩
  ·rfl
  ·exact absurd (R.tinj _ _ b h1 h2).symm n4
  ·exact absurd (R.tinj _ _ b h1 h2) n2
  ·exact R.tinj _ _ b h1 h2
theorem At8 (R:Rel Y X nt ds e a w G) {id el n i d:Nat} {f:Nat->Nat×(Nat->List C)} (i8:e.get 2 id=.arro el (Y el).size n f none) (hd:e.get 1 d=.any) (hf:d<FAR) (hi:i<n):
  ∃G' u,Rel Y X nt ds ((1,d,As el)::(2,id,.arro el (Y el).size n f (some i))::e) a w G'/\w.cell? ⟨G.bk id,i,none⟩=some u/\Rep G'.vis w (.s .n (f i).1 (f i).2) u/\Own G' w Y d el (f i).1 (f i).2 u:=by
 obtain⟨G',hG⟩:∃G':Gh,({ G with tk:=Nw G d (G.bk id) i }:Gh)=G':=⟨_,rfl⟩
 have eh:G'.vis=G.vis:=by grind
 have nh:G'.bk=G.bk:=by grind
 have pg:G'.tk=Nw G d (G.bk id) i:=by grind
 have gH:G'.H=G.H:=by grind
 have gdm:G'.dm=G.dm:=by grind
 have e2:∀i5,Env.get ((1,d,As el)::(2,id,.arro el (Y el).size n f (some i))::e) 2 i5=if i5=id then .arro el (Y el).size n f (some i) else e.get 2 i5:=λi5=>by
  grind[Am]
 have e1:∀k',Env.get ((1,d,As el)::(2,id,.arro el (Y el).size n f (some i))::e) 1 k'=if k'=d then As el else e.get 1 k':=λk'=>by
  grind[Am]
 have e0:∀t k',t≠1->t≠2->Env.get ((1,d,As el)::(2,id,.arro el (Y el).size n f (some i))::e) t k'=e.get t k':=λt k' h1 h2=>by
  grind[Bb]
 have d6:e.get 2 id≠.any:=by grind
 have iu:∀i5,Env.get ((1,d,As el)::(2,id,.arro el (Y el).size n f (some i))::e) 2 i5≠.any↔e.get 2 i5≠.any:=λi5=>by
  grind
 obtain⟨o1,o2,cs,ct,o3,o4,o5⟩:=Afg R i8;have live:∀{c:Tk},Jb e G c->Jb ((1,d,As el)::(2,id,.arro el (Y el).size n f (some i))::e) G' c:=λh=>h.mono (λk' t8=>by
  grind) (λi5 v7=>⟨(iu i5).2 v7,by rw[nh]⟩)
 have gm:∀c b,G'.tk c=some b->∃c',G.tk c'=some b/\Jb ((1,d,As el)::(2,id,.arro el (Y el).size n f (some i))::e) G' c:=λc b h=>by
  rw[pg]at h;rcases tkOut_src h with ⟨rfl,h9⟩|⟨_,_,h9⟩
  ·exact⟨_,h9,by show Env.get _ 1 d≠.any;grind[As]⟩
  ·exact⟨_,h9,live (R.tlive c b h9)⟩
 obtain⟨u,c1,c2⟩:=o5 i hi;have hs:=c2 (by simp);have hcu:w.cell? ⟨G.bk id,i,none⟩=some u:=by grind[World.cell?]
 refine⟨G',u,?_,hcu,by rw[eh];exact hs.1,hs.2.1,?_⟩
 rotate_left
 ·rcases hs.2.2 with h|⟨h,h'⟩|⟨bb,xs,h1,h2,h3,h4⟩
  ·exact .inl h
  ·grind
  ·exact .inr (.inr ⟨bb,xs,by rw[pg];grind[Nw],h2,h3,by grind⟩)
 refine (R.move (w':=w) (G':=G') ⟨λb=>by grind,.refl _ _,λ_ _=>rfl⟩ (.refl _) gH gdm (λ_ _=>rfl) (λ_ _=>rfl) (λt=>e0 0 t (by decide) (by decide)) (λi5 h=>⟨by rw[nh],(iu i5).2 h⟩)
  (λk' h=>?_) (λc b hl hb mf=>?_) (λlift i5 h=>?_) (λi5 k' h=>?_) (λc b h=>?_) (λc c' b h h'=>?_) (λb hb=>by rw[eh];exact R.fresh b hb) (λb _=>by rw[eh]) (λb _=>by rw[eh])).1
 ·grind
 ·rw[pg,eh];refine⟨?_,rfl,rfl⟩;cases c with
  |o k'=>
   obtain⟨bz,mf⟩:=mf;have s7:k'≠d:=λhh=>by
    have hl:e.get 1 k'≠.any:=hl;grind
   grind[Nw]
  |s b' j=>
   obtain⟨i5,h1,h2,h3⟩:=mf;have s7:i5≠id:=by grind
   simp only[Nw];rw[bI (λhh=>s7 (R.mem.inj i5 id h1 d6 (by omega)))];exact hb
 ·by_cases hii:i5=id
  ·subst hii;obtain⟨b1,b2,_⟩:=R.mem.box i5 d6;refine .inr ⟨by grind,by grind,by rw[nh];exact R.ownb i5 d6,λid2 h2 hh=>R.mem.inj id2 i5 ((iu id2).1 h2) d6 (by grind),λc hc=>?_,?_,λ_ hl=>?_,λk' t8=>?_⟩
   ·rw[nh]at hc;obtain⟨c',h1,_⟩:=gm c _ hc;exact (R.tks c' _ h1).2.2.2.2 i5 d6 rfl
   ·rw[e2,bG rfl,nh];refine⟨by grind,o2,cs,ct,o3,o4,λj hj=>?_⟩;obtain⟨u',c1,c2⟩:=o5 j hj;refine⟨u',c1,λs7=>?_⟩
    by_cases sl:j=i
    ·grind
    ·have hs:=c2 (by simp);refine Lc.mono (O:=λ_=>False) ⟨λb=>by grind,.refl _ _,λ_ _=>rfl⟩ (λbb hb=>⟨?_,rfl,by rw[eh]⟩) hs;rw[pg];grind[Nw]
   ·grind[Vc.live]
   ·rw[e0 _ _ (by omega) (by omega)]at t8;have:=(R.mem.cells i5 k' t8).1;grind[Vc.live]
  grind
 ·rw[e0 _ _ (by omega) (by omega)]at h;exact (iu i5).2 (by rw[(R.mem.cells i5 k' h).1];simp[Vc.live])
 ·obtain⟨c',h1,h2⟩:=gm c b h;obtain⟨q1,q2,q3,q4,q5⟩:=R.tks c' b h1;trivial
 ·rw[pg]at h h';rcases tkOut_src h with ⟨rfl,h1⟩|⟨n1,n2,h1⟩<;>rcases tkOut_src h' with ⟨rfl,h2⟩|⟨n3,n4,h2⟩
  ·rfl
  ·exact absurd (R.tinj _ _ b h1 h2).symm n3
  ·exact absurd (R.tinj _ _ b h1 h2) n1
  ·exact R.tinj _ _ b h1 h2
end
theorem Aad (id:Nat):∀(cs:List C) (k0:Nat) (e:Env) (t k:Nat),Env.get (Dt id k0 cs++e) t k=
  match (if t=id+3/\k0<=k then cs[k - k0]? else none) with|some c=>.d (.c c)|none=>e.get t k:=by
 intro cs
 induction cs with
 |nil=>grind[Dt]
 |cons c cs ih=>
  grind[Dt,Am]
def Akc {id:Nat} {cs:List C} {k0:Nat} {e:Env} {t k:Nat} (h:t≠id+3):Env.get (Dt id k0 cs++e) t k=e.get t k:=by
 grind[Aad]
section
variable {P:Program} {Y:TypeId->Ty} {X:Cx} {nt:Nat} {ds:List Deferred} {e:Env} {a:Act} {w:World} {G:Gh} {O:Nat->Prop}
theorem Cm (w:World) (o:Obj) {b:Nat} (h:b<w.heap.size):(w.alloc o).heap[b]?=w.heap[b]?:=by grind[Below.heap_alloc]
def At9 {w:World} {g off:Nat} {cur:Array Value} {t:TypeId} {z:Nat×Nat} (hg:w.heap[g]?=some (.cells cur t z)) (hz:Ns cur z) (hi:off<cur.size):w.frozen? ⟨g,off,none⟩=false:=by
 obtain⟨lo,gh⟩:=z;simp only[World.frozen?,hg,Bool.and_eq_false_iff,aK];rcases hz with h|h
 ·omega
 omega
theorem Aae (P:Program) (g o:Nat) (t:TypeId) (z:Nat×Nat):∀(vs:List Value) (i:Nat) (cur:Array Value) (w:World),w.heap[g]?=some (.cells cur t z)->Ns cur z->o+i+vs.length<=cur.size->(∀v∈vs,v.oneCell'=true)->
  (storeCells ⟨g,o,none⟩ vs i).run P w=.ok () (w.setRow g (cur.toList.take (o+i)++vs++cur.toList.drop (o+i+vs.length)).toArray)
 | [],i,cur,w,hg,_,_,_=>by
  simp only[storeCells,dO,dA,eB,List.take_append_drop,Array.toArray_toList];rw[setRow_self w g cur t z hg]
  rfl
 |v::rest,i,cur,w,hg,hz,hl,h1=>by
  have hi:o+i<cur.size:=by grind
  have hadd:(⟨g,o,none⟩:Addr).add i=⟨g,o+i,none⟩:=by grind[Addr.add]
  have e9:w.cell? ⟨g,o+i,none⟩=some cur[o+i]:=by grind[World.cell?]
  have hfro:=At9 hg hz hi;have m8:(store ((⟨g,o,none⟩:Addr).add i) v).run P w=.ok () (w.setRow g (cur.setIfInBounds (o+i) v)):=by grind[run_store,setCell_eq_setRow]
  have ih:=Aae P g o t z rest (i+1) (cur.setIfInBounds (o+i) v) (w.setRow g (cur.setIfInBounds (o+i) v)) (eH w g cur _ t _ hg) (by grind[Ns]) (by grind) (λx hx=>h1 x (by simp[hx]));simp only[storeCells,cF,m8,bK,ih,setRow_setRow];congr 3;have e:=list_seg_step cur.toList (o+i) v rest (by trivial);grind[Nat.add_assoc]
theorem Gz (w:World) (o:Obj):Same w (w.alloc o):=⟨rfl,rfl,rfl,by simp⟩
def Tp (R:Rel Y X nt ds e a w G) (o:Obj):KeepV G.vis w (w.alloc o):=by
 have hb:∀b,0<G.vis b->b<w.heap.size:=λb h=>by
  rcases bL b w.heap.size with h'|h'
  ·exact h'
  ·rw[R.fresh b h']at h;omega
 exact⟨λb i hi=>World.cell?_alloc_lt w o ⟨b,i,none⟩ (hb b (by omega)),λb h es c he=>by grind[Cm],Me λb h=>Cm w o h⟩
theorem Jd (R:Rel Y X nt ds e a w G) {d:Nat} (hd:e.get 2 d=.any) (hf:d<FAR) (o:Obj) {st:T} {ce:Env} (m8:st≠.any) (hce:∀t k,t≠d+3->Env.get (ce++e) t k=e.get t k)
  (i8:∀G':Gh,G'.vis=G.vis->Bk G' (w.alloc o) st w.heap.size)
  (e9:∀G':Gh,(∀x v,VOK G w X.fz Y e x v->VOK G' (w.alloc o) X.fz Y ((2,d,st)::ce++e) x v)->∀k,Env.get (ce++e) (d+3) k≠.any->st=live/\(Env.get (ce++e) (d+3) k).one=true/\
   ∃u,(w.alloc o).cell? ⟨w.heap.size,k,none⟩=some u/\VOK G' (w.alloc o) X.fz Y ((2,d,st)::ce++e) (Env.get (ce++e) (d+3) k) u):
  ∃G',G'.vis=G.vis/\G'.bk d=w.heap.size/\Rel Y X nt ds ((2,d,st)::ce++e) a (w.alloc o) G'/\(∀x v,VOK G w X.fz Y e x v->VOK G' (w.alloc o) X.fz Y ((2,d,st)::ce++e) x v)/\Env.get ((2,d,st)::ce++e) 2 d=st:=by
 obtain⟨G',hG⟩:∃G',({ G with bk:=λid=>if id=d then w.heap.size else G.bk id }:Gh)=G':=⟨_,rfl⟩
 have d8:G'.vis=G.vis:=by grind
 have cm:G'.tk=G.tk:=by grind
 have hH:G'.H=G.H:=by grind
 have ec:G'.dm=G.dm:=by grind
 have ph:G'.bk d=w.heap.size:=by subst hG;simp
 have la:∀id,id≠d->G'.bk id=G.bk id:=λid h=>by subst hG;simp[h]
 have g2:∀id,Env.get ((2,d,st)::ce++e) 2 id=if id=d then st else e.get 2 id:=λid=>by
  grind[Am]
 have go:∀t k,t≠2->t≠d+3->Env.get ((2,d,st)::ce++e) t k=e.get t k:=λt k h1 h2=>by grind[Bb]
 have gd:∀k,Env.get ((2,d,st)::ce++e) (d+3) k=Env.get (ce++e) (d+3) k:=λk=>by trivial
 have s7:∀id,e.get 2 id≠.any->id≠d:=λid h hh=>h (by grind);have hu:∀id,e.get 2 id≠.any->Env.get ((2,d,st)::ce++e) 2 id≠.any:=λid h=>by grind
 have hlt:∀id,e.get 2 id≠.any->G.bk id<w.heap.size:=λid h=>(R.mem.box id h).2.1;obtain⟨R',lift⟩:=R.move (w':=w.alloc o) (G':=G') (e':=(2,d,st)::ce++e) ⟨λb=>by grind,Tp R o,λb hb=>Cm w o (R.hlt b (R.fzh b hb))⟩ (Gz w o) hH ec
  (λb hb=>Cm w o (R.hlt b hb)) (λD hD=>Cm w o (aP.1 (R.marks D hD).2.1).1) (λt=>go 0 t (by decide) (by omega))
  (λid h=>⟨la id (s7 id h),hu id h⟩) (λk h=>by grind)
  (λk b _ hb _=>⟨by grind,Cm w o (R.tks k b hb).2.1,by rw[d8]⟩)
  (λlift id d6=>by
   by_cases h:id=d
   ·subst h;refine .inr ⟨λhh=>?_,by rw[ph];simp,⟨λ_=>by rw[ph];exact R.base,λbh=>absurd hf (fV.2 bh)⟩,λi5 v7 hh=>?_,λk hk=>?_,?_,λbh=>absurd hf (fV.2 bh),λk hk=>?_⟩
    ·rw[ph]at hh;exact absurd (R.hlt _ hh) (gN _)
    ·grind
    ·rw[ph,cm]at hk;exact absurd (R.tks k _ hk).2.1 (gN _)
    ·grind
    ·rw[gd]at hk ⊢;rw[g2,bG rfl,ph];exact e9 G' lift k hk
   grind[Cm])
  (λid k hk=>by
   by_cases h:id=d
   ·grind
   ·rw[go _ k (by omega) (by omega)]at hk;rw[g2,bI h,(R.mem.cells id k hk).1];simp[live])
  (λk b hb=>by
   rw[cm]at hb;obtain⟨h1,h2,h3,h4,h5⟩:=R.tks k b hb;exact⟨h1,by simp;omega,h3,by grind[Cm],h5,(R.tlive k b hb).mono (λk hk=>by grind) (λid d6=>⟨hu id d6,la id (s7 id d6)⟩)⟩)
  (λk k' b h h'=>by rw[cm]at h h';exact R.tinj k k' b h h') (λb hb=>by rw[d8];exact R.fresh b (by simp at hb;omega)) (λb _=>by rw[d8]) (λb _=>by rw[d8])
 grind
theorem Je {dst:Option Tmp} {f:Nat->Out} {r r':List (Nat×Nat)} {out:Out} (h:(Hz dst f).run e.get r=some (out,r')):∃d,dst=some d/\e.get 2 d=.any/\d<FAR/\out=f d:=by
 unfold Hz at h;split at h
 ·rename_i d;simp only[M.run]at h;split at h
  ·rename_i hx;obtain⟨hf,h⟩:=Al h;simp only[M.run,aA,aD]at h;exact⟨d,rfl,hx,Bh hf,h.1.symm⟩
  trivial
 trivial
def Wv {x:T} {v:Value} {cs:List C} (hc:x.cells?=some cs) (h:VOK G w O Y e x v):
  cs.length=v.cells.size/\∀(j:Nat) c u,cs[j]?=some c->v.cells[j]?=some u->VOK G w O Y e (.d (.c c)) u:=by
 unfold T.cells? at hc;split at hc
 ·rename_i y;simp only[aA]at hc;subst hc;have h1:=Lf h.reld;have h2:v.cells=#[v]:=by cases v<;>trivial
  grind
 ·rename_i xs;simp only[aA]at hc;subst hc;obtain⟨vs,rfl,hl,hr⟩:=h.reld;refine⟨by grind[Value.cells],λj c u hj hu=>?_⟩;rw[bQ]at hj;cases hx:xs[j]? with
  |none=>grind
  |some c'=>
   rw[hx]at hj;simp only[bO,aA]at hj;subst hj;exact VOK.dem (x:=.c c') (hr j c' u hx (by grind[Value.cells]))
 ·cases hc
theorem Ww {x:T} {v:Value} (hx:x.one=true) (h:VOK G w O Y e x v):v.oneCell'=true/\v.cells=#[v]:=by
 have key:v.oneCell'=true:=by
  have hr:=h.rel;unfold T.one at hx;split at hx
  ·exact Lf h.reld
  ·simp only[Aa]at hr;subst hr;rfl
  ·simp only[Aa]at hr;obtain⟨us,vs,rfl,_⟩:=hr;rfl
  ·simp only[Aa]at hr;rcases hr with ⟨_,rfl⟩|⟨_,rfl,_⟩<;>rfl
  ·simp only[Aa]at hr;subst hr;rfl
  ·simp only[Aa]at hr;subst hr;rfl
  ·simp only[Aa]at hr;subst hr;rfl
  ·cases hx
 exact⟨key,by cases v<;>trivial⟩
def Bc:live≠.any:=by simp[live]
def Akd (R:Rel Y X nt ds e a w G) {d:Nat} (hd:e.get 2 d=.any) (hf:d<FAR) {cs:List C} {us:Array Value} (t:TypeId) (hl:cs.length=us.size)
  (aw:∀(j:Nat) c u,cs[j]?=some c->us[j]?=some u->VOK G w X.fz Y e (.d (.c c)) u):
  ∃G',Rel Y X nt ds ((2,d,live)::Dt d 0 cs++e) a (w.alloc (.cells us t)) G'/\VOK G' (w.alloc (.cells us t)) X.fz Y ((2,d,live)::Dt d 0 cs++e) (.addr d 0) (.pointer (some ⟨w.heap.size,0,none⟩)):=by
 have x9:∀k,e.get (d+3) k=.any:=λk=>by
  cases hh:e.get (d+3) k with
  |any=>rfl
  |_=>exact absurd (R.mem.cells d k (by grind)).1 (by rw[hd];exact λh=>Bc h.symm)
 obtain⟨G',h1,h2,R',lift,h3⟩:=Jd R hd hf (.cells us t) (st:=live) (ce:=Dt d 0 cs) Bc (λt k h=>Akc h)
  (λG' hv=>⟨by rw[hv];exact R.fresh _ (aI _),us,t,bN w _⟩)
  (λG' lift k hk=>by
   rw[Aad]at hk ⊢;simp only[bV,and_self,eV,iK]at hk ⊢;cases rq:cs[k]? with
   |none=>grind
   |some c=>
    have hlt:k<us.size:=by grind
    refine⟨trivial,rfl,us[k],?_,lift _ _ (aw k c us[k] rq (by simp[hlt]))⟩;grind[World.cell?_alloc_new])
 refine⟨G',R',⟨by grind[Aa],trivial,λid d6=>?_,λ_ h=>(by cases h)⟩⟩;simp only[Aj,aZ]at d6;subst d6;rw[h3];exact Bc
theorem Ata (hY:YOK P Y) (R:Rel Y X nt ds e a w G) {o:Oper} {t:TypeId} (ho:o.op=.alloc t) (hk:(Y t).known=true) (h1:(Y t).zero.all Value.oneCell'=true)
  {r r':List (Nat×Nat)} {out:Out} (h:(Adq o.dst ((Y t).zero.map C.v)).run e.get r=some (out,r')):OpR P Y X nt ds e a w o out:=by
 obtain⟨d,_,hd,hf,rfl⟩:=Je h;obtain⟨z,hz,hzc⟩:=Wt hY hk w;obtain⟨G',h3,h4⟩:=Akd R hd hf (us:=z.cells) (cs:=(Y t).zero.map C.v) t (by grind) λj c u hj hu=>by
  grind[VOK.v]
 refine⟨_,_,_,G',?_,.inl rfl,λ_ h=>(by cases h),h3,h4⟩;simp[execOp,ho,Instr.alloc,hz,newVar,newRow]
theorem Afh (g:Nat) (cur:Array Value) (t:TypeId) {z:Nat×Nat} (hg:w.heap[g]?=some (.cells cur t z)) (cs:Array Value) (i:Nat):(w.setRow g cs).cell? ⟨g,i,none⟩=cs[i]?:=by
 simp[World.cell?,eH w g cur cs t z hg]
theorem Wx (g b:Nat) (cs:Array Value) (i:Nat) (h:b≠g):(w.setRow g cs).cell? ⟨b,i,none⟩=w.cell? ⟨b,i,none⟩:=
 by grind[World.cell?_of_block,setRow_other]
def Afi (R:Rel Y X nt ds e a w G) {id:Nat} (d6:e.get 2 id≠.any) (bn:G.vis (G.bk id)=0) {cur row:Array Value} {ct:TypeId} {cz:Nat×Nat} (w8:w.heap[G.bk id]?=some (.cells cur ct cz)) (rz:cur.size<=row.size) {we:Env} {st:T} (m8:st≠.any)
  (mz:∀t k,t≠2->t≠id+3->Env.get (we++e) t k=e.get t k) (h2:∀k,Env.get (we++e) 2 k=if k=id then st else e.get 2 k)
  (i8:Bk G (w.setRow (G.bk id) row) st (G.bk id)) (ge:st=live->e.get 2 id=live/\∀k,Env.get (we++e) (id+3) k=.any->e.get (id+3) k=.any/\row[k]?=cur[k]?)
  (e9:(∀x v,VOK G w X.fz Y e x v->VOK G (w.setRow (G.bk id) row) X.fz Y (we++e) x v)->∀k,Env.get (we++e) (id+3) k≠.any->st=live/\(Env.get (we++e) (id+3) k).one=true/\∃u,row[k]?=some u/\VOK G (w.setRow (G.bk id) row) X.fz Y (we++e) (Env.get (we++e) (id+3) k) u):
  Rel Y X nt ds (we++e) a (w.setRow (G.bk id) row) G/\∀x v,VOK G w X.fz Y e x v->VOK G (w.setRow (G.bk id) row) X.fz Y (we++e) x v:=by
 obtain⟨ar,w6,cu⟩:=R.mem.box id d6;have y8:∀b,b≠G.bk id->(w.setRow (G.bk id) row).heap[b]?=w.heap[b]?:=λb h=>eW w _ b _ h;have s4:KeepV G.vis w (w.setRow (G.bk id) row):=by
  refine⟨λb i hi=>Wx _ _ _ _ λhh=>?_,λb hi es c he=>?_,Tm (cs0:=row) (t0:=ct) (z0:=cz) y8 λcs t z h=>?_⟩
  ·grind
  ·grind
  ·grind[setRow_heap]
 refine R.move (e':=we++e) ⟨λ_=>aI _,s4,λb hb=>y8 b λhh=>ar (by rw[<-hh];exact R.fzh b hb)⟩ ⟨rfl,rfl,rfl,by simp⟩ rfl rfl
  (λb hb=>y8 b λhh=>ar (by grind)) (λD hD=>y8 D λhh=>?_) (λt=>mz 0 t (by decide) (by omega)) (λk hk=>⟨rfl,by grind⟩)
  (λk hk=>by grind) (λk b _ hb _=>⟨hb,y8 b λhh=>(R.tks k b hb).2.2.2.2 id d6 hh.symm,rfl⟩)
  (λlift i5 v7=>?_) (λi5 k hk=>?_) (λk b hb=>?_) R.tinj (λb hb=>R.fresh b (by simpa using hb)) (λ_ _=>rfl) (λ_ _=>rfl)
 ·have:=(R.marks D hD).2.1;grind
 ·by_cases h:i5=id
  ·subst h;refine .inr ⟨ar,by simpa using w6,R.ownb i5 d6,λi hi hh=>?_,λk hk=>(R.tks k _ hk).2.2.2.2 i5 d6 rfl,by grind,λhf hl k hk=>?_,λk hk=>?_⟩
   ·rw[h2]at hi;split at hi
    ·assumption
    ·exact R.mem.inj i i5 hi d6 hh
   ·rw[h2,bG rfl]at hl;obtain⟨f1,f2⟩:=ge hl;obtain⟨f3,f4⟩:=f2 k hk;have:=R.far i5 k hf f1 f3;grind[Afh,World.cell?]
   grind[Afh]
  ·rw[h2,bI h]at v7;exact .inl ⟨v7,by grind,y8 _ λhh=>h (R.mem.inj _ _ v7 d6 hh),rfl,λk=>mz _ k (by omega) (by omega)⟩
 ·rw[h2];split
  ·exact m8
  ·rename_i h;rw[mz _ k (by omega) (by omega)]at hk;rw[(R.mem.cells i5 k hk).1];exact Bc
 ·obtain⟨h3,h4,h5,h6,h7⟩:=R.tks k b hb;exact⟨h3,by grind,h5,by grind,h7,(R.tlive k b hb).mono (λk hk=>by grind) (λi5 v7=>⟨by grind,rfl⟩)⟩
theorem Afj (R:Rel Y X nt ds e a w G) {id:Nat}:∀(n:Nat) {k:Nat} {r r':List (Nat×Nat)},(Sn id n k).run e.get r=some (true,r')->∀j,j<n->e.get (id+3) (k+j)≠.any:=by
 intro n
 induction n with
 |zero=>omega
 |succ n ih=>
  intro k r r' h j hj;simp only[Sn,M.run]at h;split at h
  ·grind[M.run]
  ·rename_i s7;cases j with
   |zero=>trivial
   |succ j=>
    grind
def Aaf {cur:Array Value} {vs:List Value} {k:Nat} (bw:k+0+vs.length<=cur.size) (i:Nat):
  (cur.toList.take (k+0)++vs++cur.toList.drop (k+0+vs.length)).toArray[i]?=if k<=i/\i<k+vs.length then vs[i - k]? else cur[i]?:=by
 grind
def Afk {cur:Array Value} {vs:List Value} {k:Nat} (bw:k+0+vs.length<=cur.size):(cur.toList.take (k+0)++vs++cur.toList.drop (k+0+vs.length)).toArray.size=cur.size:=by
 grind
def Afl (hY:YOK P Y) (R:Rel Y X nt ds e a w G) {o:Oper} {p q:Operand} {t:TypeId} {id k:Nat} {ce:Env} (ho:o.op=.store t p q) (hx:VOK G w X.fz Y e (.addr id k) (a.eval p)) (ax:(Y t).known=true)
  (j9:(a.eval q).cells.size=(Y t).size) (z8:1<=(Y t).size) (x9:∀j,j<(Y t).size->e.get (id+3) (k+j)≠.any) (h1c:∀v'∈(a.eval q).cells.toList,v'.oneCell'=true)
  (hce:∀t' k',t'≠id+3->Env.get (ce++e) t' k'=e.get t' k') (hcn:∀k',¬(k<=k'/\k'<k+(Y t).size)->Env.get (ce++e) (id+3) k'=e.get (id+3) k')
  (sa:∀j u,j<(Y t).size->(a.eval q).cells[j]?=some u->(Env.get (ce++e) (id+3) (k+j)).one=true/\VOK G w X.fz Y e (Env.get (ce++e) (id+3) (k+j)) u):OpR P Y X nt ds e a w o ⟨[],[],.any,ce⟩:=by
 have hp:=hx.rel;simp only[Aa]at hp;have d6:e.get 2 id≠.any:=hx.ids id (by simp[Aj]);have fp:e.get 2 id=live:=(R.mem.cells id _ (x9 0 (by omega))).1;obtain⟨ar,w6,cu⟩:=R.mem.box id d6;rw[fp]at cu;obtain⟨bn,cur,ct,w8⟩:=cu;generalize hv:a.eval q=v at *
 have ai:v.cells.toList.length=(Y t).size:=by trivial
 have bw:k+0+v.cells.toList.length<=cur.size:=by
  obtain⟨_,_,u,hu,_⟩:=R.mem.cells id _ (x9 ((Y t).size - 1) (by omega));simp only[World.cell?,w8]at hu;have:=(aP.1 (by simpa using hu)).1;omega
 have m8:=hS P (G.bk id) k ct v.cells.toList 0 cur w w8 bw h1c;have mr:=λi=>Aaf (k:=k) bw i;generalize au:(cur.toList.take (k+0)++v.cells.toList++cur.toList.drop (k+0+v.cells.toList.length)).toArray=row at m8 mr;obtain⟨R',lift⟩:=Afi R d6 bn w8 (row:=row) (by grind) (we:=ce) (st:=live) Bc (λt' k' h1 h2=>hce t' k' h2) (λk'=>by grind)
  ⟨bn,row,ct,eH w _ cur row ct _ w8⟩ (λ_=>⟨fp,λk' t8=>by
   by_cases h:k<=k'/\k'<k+(Y t).size
   ·obtain⟨j,rfl⟩:∃j,k'=k+j:=⟨k' - k,by omega⟩
    have hju:v.cells[j]?=some (v.cells[j]'(by omega)):=by simp
    have:=(sa j _ (by omega) hju).1;rw[t8]at this;cases this
   grind⟩) (λlift k' t8=>by
   refine⟨rfl,?_⟩;rw[mr]
   by_cases h:k<=k'/\k'<k+(Y t).size
   ·obtain⟨j,rfl⟩:∃j,k'=k+j:=⟨k' - k,by omega⟩
    have hj:j<(Y t).size:=by omega
    have hju:v.cells[j]?=some v.cells[j]:=by grind
    grind
   ·rw[hcn k' h]at t8 ⊢;obtain⟨_,c1,u,c2,c3⟩:=R.mem.cells id k' t8;grind[World.cell?])
 refine⟨.skip,undef,_,G,?_,.inr ⟨rfl,rfl⟩,λ_ h=>(by cases h),R',VOK.any _⟩;simp[execOp,ho,hp,hv,Instr.storeAt,Instr.sureAddr,storeVar,Dq hY ax,m8,<-ai]
theorem Aag (id:Nat):∀(cs:List T) (k0:Nat) (e:Env) (t k:Nat),Env.get (Ky id k0 cs++e) t k=
  match (if t=id+3/\k0<=k then cs[k - k0]? else none) with|some c=>c.dem|none=>e.get t k:=by
 intro cs
 induction cs with
 |nil=>grind[Ky]
 |cons c cs ih=>
  grind[Ky,Am]
def Ake {id:Nat} {cs:List T} {k0:Nat} {e:Env} {t k:Nat} (h:t≠id+3):Env.get (Ky id k0 cs++e) t k=e.get t k:=by
 grind[Aag]
def Atb {x:T} (h:x.one=true):x.dem.one=true:=by
 cases x with
 |d x=>cases x<;>trivial
 |_=>exact h
theorem Akf:∀{xs:List T},Ef xs=true->∀(j:Nat) x,xs[j]?=some x->x.one=true
 | [],_,j,x,h=>by simp at h
 |y::r,h0,j,x,h=>by
  simp only[Ef,aE]at h0;cases j with
  |zero=>grind
  |succ j=>exact Akf h0.2 j x (by trivial)
theorem Akg:∀{xs:List T} (j:Nat) x,xs[j]?=some x->∀id,id∈Aj x->id∈Bo xs
 | [],j,x,h,_,_=>by simp at h
 |y::r,j,x,h,id,d6=>by
  simp only[Bo,cP];cases j with
  |zero=>grind
  |succ j=>exact .inr (Akg j x (by trivial) id d6)
def Ac.at {xs:List T} {vs:List Value} (h:Ac G w O xs vs):xs.length=vs.length/\∀(i:Nat) x v,xs[i]?=some x->vs[i]?=some v->Aa G w O x v:=by
 induction xs generalizing vs with
 |nil=>grind[Ac]
 |cons y xs ih=>
  grind[Ac]
def Atc {x:T} {v:Value} (h1:x.one=true) (hr:Aa G w O x v) (hi:∀id,id∈Aj x->e.get 2 id≠.any):VOK G w O Y e x.dem v:=by
 cases x with
 |d x=>simp only[Aa]at hr;exact VOK.dem hr
 |may _ _=>cases h1
 |tup _=>cases h1
 |any=>cases h1
 |tok _=>cases h1
 |elt _ _ _ _=>cases h1
 |nx _ _=>cases h1
 |ag _=>cases h1
 |own _ _ _=>cases h1
 |tkd _ _ _ _=>cases h1
 |arrc _ _ _ _=>cases h1
 |mapc _ _ _ _ _=>cases h1
 |itc _ _=>cases h1
 |mitc _ _ _ _ _ _=>cases h1
 |tr _=>cases h1
 |_=>exact⟨hr,trivial,hi,λk hk=>(by cases hk)⟩
theorem Afm {xs:List T} {v:Value} (h1:Ef xs=true) (h:VOK G w O Y e (.ag xs) v):xs.length=v.cells.size/\∀(j:Nat) x u,xs[j]?=some x->v.cells[j]?=some u->x.dem.one=true/\VOK G w O Y e x.dem u:=by
 have hr:=h.rel;simp only[Aa]at hr;obtain⟨vs,rfl,hr⟩:=hr;obtain⟨g1,g2⟩:=hr.at
 refine⟨by trivial,λj x u hx hu=>?_⟩;have ho:=Akf h1 j x hx;refine⟨Atb ho,Atc ho (g2 j x u hx (by grind[Value.cells])) λid d6=>?_⟩;have:=h.ids;grind[Ey,Aj,Akg]
def Atd (R:Rel Y X nt ds e a w G) {d:Nat} (hd:e.get 2 d=.any) (hf:d<FAR) {cs:List T} {us:Array Value} (t:TypeId) (hl:cs.length=us.size)
  (aw:∀(j:Nat) c u,cs[j]?=some c->us[j]?=some u->c.dem.one=true/\VOK G w X.fz Y e c.dem u):
  ∃G',Rel Y X nt ds ((2,d,live)::Ky d 0 cs++e) a (w.alloc (.cells us t)) G'/\VOK G' (w.alloc (.cells us t)) X.fz Y ((2,d,live)::Ky d 0 cs++e) (.addr d 0) (.pointer (some ⟨w.heap.size,0,none⟩)):=by
 have x9:∀k,e.get (d+3) k=.any:=λk=>by
  cases hh:e.get (d+3) k with
  |any=>rfl
  |_=>exact absurd (R.mem.cells d k (by grind)).1 (by rw[hd];exact λh=>Bc h.symm)
 obtain⟨G',h1,h2,R',lift,h3⟩:=Jd R hd hf (.cells us t) (st:=live) (ce:=Ky d 0 cs) Bc (λt k h=>Ake h)
  (λG' hv=>⟨by rw[hv];exact R.fresh _ (aI _),us,t,bN w _⟩)
  (λG' lift k hk=>by
   rw[Aag]at hk ⊢;simp only[bV,and_self,eV,iK]at hk ⊢;cases rq:cs[k]? with
   |none=>grind
   |some c=>
    have hlt:k<us.size:=by grind
    have hq:=aw k c us[k] rq (by simp[hlt]);grind[World.cell?_alloc_new])
 refine⟨G',R',⟨by grind[Aa],trivial,λid d6=>?_,λ_ h=>(by cases h)⟩⟩;simp only[Aj,aZ]at d6;subst d6;rw[h3];exact Bc
theorem Ate (hY:YOK P Y) (R:Rel Y X nt ds e a w G) {o:Oper} {p:Operand} {t:TypeId} {x:T} (ho:o.op=.box t p) (hx:VOK G w X.fz Y e x (a.eval p))
  {r r':List (Nat×Nat)} {out:Out} (h:(Adr (Y t) o.dst x).run e.get r=some (out,r')):OpR P Y X nt ds e a w o out:=by
 unfold Adr at h;split at h
 ·split at h
  ·rename_i cs hc;obtain⟨_,h⟩:=Al h;obtain⟨d,_,hd,hf,rfl⟩:=Je h;obtain⟨h1,h2⟩:=Wv hc hx;obtain⟨G',h3,h4⟩:=Akd R hd hf t h1 h2;refine⟨_,_,_,G',?_,.inl rfl,λ_ h=>(by cases h),h3,h4⟩;simp[execOp,ho,Instr.box,newVar,newRow]
  ·split at h
   ·rename_i xs _;obtain⟨hb,h⟩:=Al h;obtain⟨_,aj⟩:=and_true hb;obtain⟨d,_,hd,hf,rfl⟩:=Je h;obtain⟨h1,h2⟩:=Afm aj hx;obtain⟨G',h3,h4⟩:=Atd R hd hf t h1 h2;refine⟨_,_,_,G',?_,.inl rfl,λ_ h=>(by cases h),h3,h4⟩;simp[execOp,ho,Instr.box,newVar,newRow]
   trivial
 ·obtain⟨aj,h⟩:=Al h;obtain⟨d,_,hd,hf,rfl⟩:=Je h;obtain⟨bq,cj⟩:=Ww aj hx;have x9:∀k,e.get (d+3) k=.any:=λk=>by
   cases hh:e.get (d+3) k with
   |any=>rfl
   |_=>exact absurd (R.mem.cells d k (by grind)).1 (by rw[hd];exact λh=>Bc h.symm)
  obtain⟨G',h1,h2,R',lift,h3⟩:=Jd R hd hf (.cells (a.eval p).cells t) (st:=live) (ce:=[(d+3,0,x)]) Bc (λt k h=>by grind[Bb])
   (λG' hv=>⟨by rw[hv];exact R.fresh _ (aI _),_,t,bN w _⟩)
   (λG' lift k hk=>by
    grind[Am,World.cell?_alloc_new])
  refine⟨_,_,_,G',?_,.inl rfl,λ_ h=>(by cases h),R',⟨by trivial,trivial,λid d6=>?_,λ_ h=>(by cases h)⟩⟩
  ·simp[execOp,ho,Instr.box,newVar,newRow]
  grind[Aj,live]
 trivial
theorem Atf (b:Bool) (cs as:List C):updC b cs as=bif b then cs else as:=by
 unfold updC;grind
def Aah (f:Nat->List C) (i:Nat) (cs:List C) (j:Nat):Es f i cs j=if j=i then cs else f j:=by
 grind[Es,Atf,Nat.eq_of_beq_eq_true,Nat.ne_of_beq_eq_false]
theorem Atg (hY:YOK P Y) (R:Rel Y X nt ds e a w G) {o:Oper} {p q:Operand} {t:TypeId} {y:T} {id i el n i0:Nat} {f:Nat->Nat×(Nat->List C)} (ho:o.op=.store t p q) (hp:a.eval p=.pointer (some ⟨G.bk id,i*1,none⟩)) (hy:VOK G w X.fz Y e y (a.eval q))
  (l8:(Y t).agg=some false) (i8:e.get 2 id=.arro el (Y el).size n f (some i0)) {r r':List (Nat×Nat)} {out:Out} (h:(Ads id i el (Y el).size n f i0 y).run e.get r=some (out,r')) (hv:∀p∈out.vc,p):OpR P Y X nt ds e a w o out:=by
 unfold Ads at h;split at h
 case h_2=>trivial
 rename_i k m g;simp only[M.run]at h;split at h
 case h_2=>trivial
 rename_i bz hk;replace h:=Al h;obtain⟨hb,h⟩:=h;obtain⟨he,hf⟩:=and_true hb;have he:=aG he;have hf:=Bh hf;subst he;simp only[M.run,aA,aD]at h;obtain⟨rfl,_⟩:=h;obtain rfl:i=i0:=hv _ aC;have hlt:i<n:=hv _ (.tail _ (.head _));obtain⟨bn,j9,cur,ct,w8,i7,gx⟩:=Afg R i8;have d6:e.get 2 id≠.any:=by grind
 have i6:Rep G.vis w (.s (.t k) m g) (a.eval q):=hy.reld;have l7:Own G w Y k el m g (a.eval q):=hy.own el hk;generalize hve:a.eval q=v at *
 have h1v:=Lf i6;have r9:v.cells.toList=[v]:=by cases v<;>trivial
 have bw:i*1+0+v.cells.toList.length<=cur.size:=by grind
 have h1c:∀v'∈v.cells.toList,v'.oneCell'=true:=by grind
 have m8:=Aae P (G.bk id) (i*1) ct (0,0) v.cells.toList 0 cur w w8 (.inl rfl) bw h1c;have mr:=λi'=>Aaf (k:=i*1) bw i';have jp:=Afk (k:=i*1) bw;generalize au:(cur.toList.take (i*1+0)++v.cells.toList++cur.toList.drop (i*1+0+v.cells.toList.length)).toArray=row at m8 mr jp;have hri:row[i]?=some v:=by grind
 have hro:∀j,j≠i->row[j]?=cur[j]?:=λj hj=>by
  grind
 have s4:KeepV G.vis w (w.setRow (G.bk id) row):=by
  refine⟨λb i hi=>Wx _ _ _ _ λhh=>?_,λb hi es c he=>?_,Tm (cs0:=row) (t0:=ct) (z0:=(0,0)) (λb hh=>eW w _ b _ hh) λcs t z h=>?_⟩
  ·grind
  ·grind[setRow_other]
  ·grind[setRow_heap]
 have hupi:Kg f i (m,g) i=(m,g):=by grind[Kg,Nat.beq_refl]
 have hupj:∀j,j≠i->Kg f i (m,g) j=f j:=λj hj=>by
  grind[Kg,Nat.eq_of_beq_eq_true]
 obtain⟨R1,lift⟩:=Afi R d6 bn w8 (row:=row) (by omega) (we:=[(2,id,.arro el (Y el).size n (Kg f i (m,g)) (some i))]) (st:=.arro el (Y el).size n (Kg f i (m,g)) (some i)) (by simp) (λt' k' h1 h2=>by grind[Bb])
  (λk'=>by
   grind[Am])
  (by
   refine⟨bn,j9,row,ct,eH w _ cur row ct _ w8,by omega,λj hj=>?_⟩
   by_cases sl:j=i
   ·grind
   ·obtain⟨u,c1,c2⟩:=gx j hj;refine⟨u,by grind,λ_=>?_⟩;rw[hupj j sl];refine Lc.mono (O:=λ_=>False) ⟨λ_=>aI _,s4,λ_ h=>h.elim⟩ (λbb hb=>⟨hb,eW w _ bb _ λhh=>?_,rfl⟩) (c2 λhh=>sl (by trivial));exact (R.tks _ bb hb).2.2.2.2 id d6 hh.symm)
  (λhh=>by cases hh)
  (λlift k' t8=>by
   rw[gJ,Bb (by omega)]at t8;have:=(R.mem.cells id k' t8).1;rw[i8]at this;cases this)
 have hy1:=lift _ _ hy;have al:Env.get ([(2,id,.arro el (Y el).size n (Kg f i (m,g)) (some i))]++e) 1 k=As el:=by trivial
 obtain⟨G',R2⟩:=At7 (u:=v) R1 (by rw[gJ,Am,bG ⟨rfl,rfl⟩]) al hf (by simp[World.cell?,eH w _ cur row ct _ w8,hri]) (Rep.dem hy1.reld) (hy1.own el al) hupi;have l6:∀t k',Env.get ((2,id,.arro el (Y el).size n (Kg f i (m,g)) none)::(1,k,Bx)::e) t k'=Env.get ((2,id,.arro el (Y el).size n (Kg f i (m,g)) none)::(1,k,Bx)::([(2,id,.arro el (Y el).size n (Kg f i (m,g)) (some i))]++e)) t k':=λt k'=>by
  grind[Am]
 have R3:Rel Y X nt ds ((2,id,.arro el (Y el).size n (Kg f i (m,g)) none)::(1,k,Bx)::e) a (w.setRow (G.bk id) row) G':=
  R2.slots' (λt k' _=>l6 t k') (by rw[l6]) R2.size rfl (λt=>by rw[l6];exact R2.slots t)
 have kx:(Y t).size=1:=by
  obtain⟨d,i',z,h1,h2,h3,h4,h5,h6,h7,h8⟩:=hY t (Et l8);exact h8.1 l8
 refine⟨.skip,undef,_,G',?_,.inr ⟨rfl,rfl⟩,λ_ h=>(by cases h),R3,VOK.any _⟩;have ai:v.cells.toList.length=(Y t).size:=by grind
 rw[fX]at m8;simp[execOp,ho,hp,hve,Instr.storeAt,Instr.sureAddr,storeVar,Dq hY (Et l8),m8,<-ai]
theorem Ath (hY:YOK P Y) (R:Rel Y X nt ds e a w G) {o:Oper} {p q:Operand} {t:TypeId} {x y:T} (ho:o.op=.store t p q) (hx:VOK G w X.fz Y e x (a.eval p)) (hy:VOK G w X.fz Y e y (a.eval q))
  {r r':List (Nat×Nat)} {out:Out} (h:(Adu Y (Y t) x y).run e.get r=some (out,r')) (hv:∀p∈out.vc,p):OpR P Y X nt ds e a w o out:=by
 unfold Adu at h;split at h
 ·rename_i id k l8;split at h
  ·rename_i cs aw;obtain⟨b,r1,h1,h2⟩:=Ah h;replace h2:=Al h2;obtain⟨hb,h2⟩:=h2;obtain⟨hb,z8⟩:=and_true hb;obtain⟨hb,uy⟩:=and_true hb;subst hb;have uy:=aG uy;have z8:1<=(Y t).size:=Bh z8;simp only[M.run,aA,aD]at h2;obtain⟨rfl,_⟩:=h2;obtain⟨om,r9⟩:=Wv aw hy;refine Afl hY R ho hx (Et l8) (by omega) z8 (Afj R _ h1) (λv' ak=>?_) (λt' k' h=>Akc h) (λk' t8=>?_) (λj u hj hu=>?_)
   ·obtain⟨j,hj,rfl⟩:=bM.1 ak;have sy:j<cs.length:=by grind
    exact Lf (r9 j cs[j] _ (aQ sy) (by grind)).reld
   ·grind[Aad]
   ·rw[Aad,bG ⟨rfl,by omega⟩,eO];have sy:j<cs.length:=by omega
    rw[aQ sy];exact⟨rfl,r9 j _ u (aQ sy) hu⟩
  ·split at h
   ·rename_i xs _;obtain⟨b,r1,h1,h2⟩:=Ah h;replace h2:=Al h2;obtain⟨hb,h2⟩:=h2;obtain⟨hb,aj⟩:=and_true hb;obtain⟨hb,z8⟩:=and_true hb;obtain⟨hb,uy⟩:=and_true hb;subst hb;have uy:=aG uy;have z8:1<=(Y t).size:=Bh z8;simp only[M.run,aA,aD]at h2;obtain⟨rfl,_⟩:=h2;obtain⟨om,r9⟩:=Afm aj hy;refine Afl hY R ho hx (Et l8) (by omega) z8 (Afj R _ h1) (λv' ak=>?_) (λt' k' h=>Ake h) (λk' t8=>?_) (λj u hj hu=>?_)
    ·obtain⟨j,hj,rfl⟩:=bM.1 ak;have sy:j<xs.length:=by grind
     have hv'':=(r9 j xs[j] _ (aQ sy) (by rw[<-bD];exact aQ hj))
     grind[Ww]
    ·grind[Aag]
    grind[Aag]
   trivial
 ·rename_i id k l8;obtain⟨b,r1,h1,h2⟩:=Ah h;replace h2:=Al h2;obtain⟨hb,h2⟩:=h2;obtain⟨hb,aj⟩:=and_true hb;subst hb;simp only[M.run,aA,aD]at h2;obtain⟨rfl,_⟩:=h2;obtain⟨d0,i0,z0,_,_,_,_,_,_,_,q8⟩:=hY t (Et l8);have kx:(Y t).size=1:=q8.1 l8;obtain⟨bq,cj⟩:=Ww aj hy;refine Afl hY R ho hx (Et l8) (by grind) (by omega) (by grind[Afj]) (λv' ak=>?_) (λt' k' h=>by grind[Bb]) (λk' t8=>?_) (λj u hj hu=>?_)
  ·grind
  ·grind[Bb]
  grind[Am]
 ·rename_i id i sz off ag l8;split at h
  ·rename_i cs aw;simp only[M.run]at h;split at h
   ·rename_i cn n f i8;replace h:=Al h;obtain⟨hb,h⟩:=h;obtain⟨hb,z8⟩:=and_true hb;obtain⟨h1,h3⟩:=and_true hb;have h1:=aG h1;have h3:=aG h3;have z8:1<=(Y t).size:=Bh z8;subst h1;obtain⟨hlt,gf,vo,rfl⟩:i<n/\∃gf:List C,(off+(Y t).size<=sz/\gf.length=sz/\∀(j:Nat) c,gf[j]?=some c->(off<=j/\j<off+(Y t).size/\(cs.map C.dem)[j - off]?=some c)∨(¬(off<=j/\j<off+(Y t).size)/\(f i)[j]?=some c))/\out=⟨[i<n],[],.any,[(2,id,.arrc false sz n (Es f i gf))]⟩:=by
     cases w6:(off.beq 0&&sz.beq (Y t).size) with
     |true=>
      rw[w6]at h;simp only[bA,M.run,aA,aD]at h;obtain⟨rfl,_⟩:=h;obtain⟨h4,h5⟩:=and_true w6;have h4:=aG h4;have h5:=aG h5;subst h4;grind[List.mem_cons_self]
     |false=>
      rw[w6]at h;simp only[cC]at h;replace h:=Al h;obtain⟨w6,h⟩:=h;have i7:=aH w6;simp only[M.run,aA,aD]at h;obtain⟨rfl,_⟩:=h;have hlt:i<n:=hv _ aC;obtain⟨⟨_,_,_,_,_,_,q3⟩,_⟩:=Qz R i8;have lx:=(q3 i hlt).1;refine⟨hlt,_,⟨by omega,?_,λj c hj=>?_⟩,rfl⟩
      ·grind[Sp]
      grind[Sp]
    obtain⟨hoff,kr,vo⟩:=vo;obtain⟨⟨cur,ct,cz,w8,hz,q2,q3⟩,q4,_,bn⟩:=Qz R i8;have bn:=bn rfl;have d6:e.get 2 id≠.any:=by grind
    have hp:=hx.rel;simp only[Aa]at hp;obtain⟨om,r9⟩:=Wv aw hy;generalize hve:a.eval q=v at *
    have ai:v.cells.toList.length=(Y t).size:=by grind
    have i7:(i+1)*sz<=n*sz:=aY _ hlt;rw[dD,Nat.one_mul]at i7;have bw:i*sz+off+0+v.cells.toList.length<=cur.size:=by omega
    have h1c:∀v'∈v.cells.toList,v'.oneCell'=true:=λv' ak=>by
     obtain⟨j,hj,rfl⟩:=bM.1 ak;have sy:j<cs.length:=by omega
     exact Lf (r9 j cs[j] _ (aQ sy) (by grind)).reld
    have m8:=Aae P (G.bk id) (i*sz+off) ct cz v.cells.toList 0 cur w w8 hz bw h1c;have mr:=λi'=>Aaf (k:=i*sz+off) bw i';have jp:=Afk (k:=i*sz+off) bw;generalize au:(cur.toList.take (i*sz+off+0)++v.cells.toList++cur.toList.drop (i*sz+off+0+v.cells.toList.length)).toArray=row at m8 mr jp;have s4:KeepV G.vis w (w.setRow (G.bk id) row):=by
     refine⟨λb i hi=>Wx _ _ _ _ λhh=>?_,λb hi es c he=>?_,Tm (cs0:=row) (t0:=ct) (z0:=cz) (λb hh=>eW w _ b _ hh) λcs t z h=>?_⟩
     ·grind
     ·grind[setRow_other]
     ·grind[setRow_heap]
    obtain⟨R',lift⟩:=Afi R d6 bn w8 (row:=row) (by omega) (we:=[(2,id,.arrc false sz n (Es f i gf))]) (st:=.arrc false sz n (Es f i gf)) (by simp) (λt' k' h1 h2=>by grind[Bb])
     (λk'=>by
      grind[Am])
     (by
      refine⟨⟨row,ct,cz,eH w _ cur row ct _ w8,by grind[Ns],by omega,λi' gh=>?_⟩,q4,λhh=>(by cases hh),λ_=>bn⟩;rw[Aah]
      by_cases hii:i'=i
      ·subst hii;rw[bG rfl];refine⟨kr,λj c hj=>?_⟩;rcases vo j c hj with ⟨hj1,ss,hj⟩|⟨hj1,hj⟩
       ·rw[bQ]at hj;cases hcj:cs[j - off]? with
        |none=>grind
        |some c'=>
         rw[hcj]at hj;simp only[bO,aA]at hj;subst hj;have ol:=(cA.1 hcj).1;have hju:v.cells[j - off]?=some (v.cells[j - off]'(by omega)):=by simp
         refine⟨_,?_,((r9 (j - off) c' _ hcj hju).reld.dem:Rep _ _ _ _).mono' (λ_=>aI _) s4⟩;rw[mr,bG (by omega),show i'*sz+j - (i'*sz+off)=j - off by omega,bD];exact hju
       ·obtain⟨c1,c2⟩:=q3 i' gh;obtain⟨u,hu,hr⟩:=c2 j c hj;refine⟨u,?_,hr.mono' (λ_=>aI _) s4⟩;grind
      ·rw[bI hii];obtain⟨c1,c2⟩:=q3 i' gh;refine⟨c1,λj c hj=>?_⟩;obtain⟨u,hu,hr⟩:=c2 j c hj;refine⟨u,?_,hr.mono' (λ_=>aI _) s4⟩;have ol:j<sz:=by grind
       rw[mr,bI ?_]
       ·exact hu
       ·rintro⟨r1,r2⟩;rw[ai]at r2;rcases bL i' i with h|h
        ·have:(i'+1)*sz<=i*sz:=aY _ h;grind
        ·have:(i+1)*sz<=i'*sz:=aY _ (by omega);grind)
     (λhh=>by cases hh)
     (λlift k' t8=>by
      rw[gJ,Bb (by omega)]at t8;have:=(R.mem.cells id k' t8).1;rw[i8]at this;cases this)
    refine⟨.skip,undef,_,G,?_,.inr ⟨rfl,rfl⟩,λ_ h=>(by cases h),R',VOK.any _⟩;simp[execOp,ho,hp,hve,Instr.storeAt,Instr.sureAddr,storeVar,Dq hY (Et l8),m8,<-ai]
   ·rename_i el cn n f i0 i8;split at h
    ·rename_i hag2;replace h:=Al h;obtain⟨hb,h⟩:=h;obtain⟨hb,h0⟩:=and_true hb;obtain⟨h1,h2⟩:=and_true hb;have h0:=aG h0;have h1:=aG h1;have h2:=aG h2;subst h0;subst h1;subst h2;have hp:=hx.rel;grind[Aa,Atg]
    trivial
   trivial
  trivial
 trivial
end
section
variable {P:Program} {Y:TypeId->Ty} {X:Cx} {nt:Nat} {ds:List Deferred} {e:Env} {a:Act} {w:World} {G:Gh} {O:Nat->Prop}
def Rel.grow (R:Rel Y X nt ds e a w G) {w':World} {G':Gh} {e':Env} (g:Option Nat) (hw:∀t k,t≠1->e'.get t k=e.get t k) (l6:Same w w') (nm:∀b,b<w.heap.size->some b≠g->w'.heap[b]?=w.heap[b]?) (hg:∀b,g=some b->∃k,G.tk k=some b)
  (d8:∀b,G.vis b<=G'.vis b) (n8:KeepV G.vis w w') (y9:G'.bk=G.bk) (hH:G'.H=G.H) (ec:G'.dm=G.dm)
  (ux:∀id,e.get 2 id≠.any->G'.vis (G.bk id)=G.vis (G.bk id))
  (cm:∀k b,G'.tk k=some b->X.base<=b/\b<w'.heap.size/\¬G.H b/\(∃cs t,w'.heap[b]?=some (.cells cs t (0,0)))/\(∀id,e.get 2 id≠.any->G.bk id≠b)/\Jb e' G' k)
  (ry:∀k k' b,G'.tk k=some b->G'.tk k'=some b->k=k')
  (nk:∀k,e.get 1 k≠.any->e'.get 1 k≠.any/\∀el,e'.get 1 k=As el->e.get 1 k=As el)
  (s4:∀k b,Jb e G k->G.tk k=some b->Ajz e e' G k->G'.tk k=some b/\w'.heap[b]?=w.heap[b]?/\G'.vis b=G.vis b)
  (p9:∀b,w'.heap.size<=b->G'.vis b=0) (x9:∀b,b<X.base->G'.vis b=G.vis b) (hvH:∀b,G.H b->G'.vis b=G.vis b):
  Rel Y X nt ds e' a w' G'/\∀x v,VOK G w X.fz Y e x v->VOK G' w' X.fz Y e' x v:=by
 have hb:∀id,e.get 2 id≠.any->w'.heap[G.bk id]?=w.heap[G.bk id]?:=λid d6=>nm _ (R.mem.box id d6).2.1 λhh=>by
  obtain⟨k,hk⟩:=hg _ hh.symm;exact (R.tks k _ hk).2.2.2.2 id d6 rfl
 have hHw:∀b,G.H b->w'.heap[b]?=w.heap[b]?:=λb hb=>nm b (R.hlt b hb) λhh=>by
  obtain⟨k,hk⟩:=hg b hh.symm;exact (R.tks k b hk).2.2.1 hb
 refine R.move ⟨d8,n8,λb hb=>hHw b (R.fzh b hb)⟩ l6 hH ec hHw (λD hD=>nm D (aP.1 (R.marks D hD).2.1).1 λhh=>?_) (λt=>hw 0 t (by decide)) (λid d6=>⟨by rw[y9],by grind⟩) nk s4
  (λlift id d6=>?_) (λid k hk=>?_) cm ry p9 x9 hvH
 ·obtain⟨k,hk⟩:=hg D hh.symm;obtain⟨cs,t,h⟩:=(R.tks k D hk).2.2.2.1;rw[(R.marks D hD).2.1]at h;cases h
 ·grind
 ·rw[hw _ _ (by omega)]at hk;rw[hw 2 id (by decide),(R.mem.cells id k hk).1];exact Bc
def Aai {o:Nat} {el:TypeId} {dst:Option Tmp} {n:Nat} {f:Nat->List C} {vc:List Prop} {wr:Env} {r r':List (Nat×Nat)} {out:Out} (h:(Sq o el dst n f vc wr).run e.get r=some (out,r')):
  ∃d,o<=d/\e.get 1 d=.any/\out=⟨vc,[],.d (.c (.s (.t d) n f)),(1,d,As el)::wr⟩:=by
 unfold Sq at h;grind[M.run]
def Aaj {el:TypeId} {dst:Option Tmp} {n:Nat} {f:Nat->List C} {vc:List Prop} {wr:Env} {r r':List (Nat×Nat)} {out:Out} (h:(Vs el dst n f vc wr).run e.get r=some (out,r')):
  ∃d,0<=d/\e.get 1 d=.any/\out=⟨vc,[],.d (.c (.s (.t d) n f)),(1,d,As el)::wr⟩:=Aai h
def Ati {k d:Nat} (h:Ady k<=d) (hk:FAR<=k):FAR<=d:=by
 grind[Ady,Nat.ble_eq_true_of_le]
theorem Atj {s:Nat}:∀(vs:List Value),(∀v∈vs,v.cells.size=s)->∀(i j:Nat) (v:Value),vs[i]?=some v->j<s->(vs.flatMap λv=>v.cells.toList)[i*s+j]?=v.cells[j]?:=by
 intro vs
 induction vs with
 |nil=>grind
 |cons x vs ih=>
  intro h1 i j v hi hj;have hx:x.cells.toList.length=s:=by grind
  rw[fH,fK];cases i with
  |zero=>
   grind
  |succ i=>
   have e1:(i+1)*s+j=s+(i*s+j):=by grind
   rw[e1,bI (by omega),hx,eO];grind
theorem Atk {s:Nat}:∀(vs:List Value),(∀v∈vs,v.cells.size=s)->(vs.flatMap λv=>v.cells.toList).length=vs.length*s:=by
 intro vs
 induction vs with
 |nil=>grind
 |cons x vs ih=>
  grind
def Afn (R:Rel Y X nt ds e a w G) {x:Operand} {r r':List (Nat×Nat)} {y:T} (h:(ev1 x).run e.get r=some (y,r')):VOK G w X.fz Y e y (a.eval x):=by
 obtain⟨z,r1,h1,h2⟩:=Ah h;grind[Ju,M.run]
def Akh (R:Rel Y X nt ds e a w G):∀(l:List (Nat×Operand)) {i:Nat} {r r':List (Nat×Nat)} {css:List (List C)},(Lz ev1 i l).run e.get r=some (css,r')->
  css.length=l.length/\(l.map λp=>(p.1,a.eval p.2))=((l.map λp=>a.eval p.2).zipIdx i).map (λx=>(x.2,x.1))/\
  ∀(j:Nat) cs p,css[j]?=some cs->l[j]?=some p->cs.length=(a.eval p.2).cells.size/\∀(k:Nat) c u,cs[k]?=some c->(a.eval p.2).cells[k]?=some u->VOK G w X.fz Y e (.d (.c c)) u:=by
 intro l
 induction l with
 |nil=>
  intro i r r' css h;simp only[Lz,M.run,aA,aD]at h;obtain⟨rfl,_⟩:=h;exact⟨rfl,rfl,λj cs p h=>(by simp at h)⟩
 |cons q l ih=>
  obtain⟨j,x⟩:=q;intro i r r' css h;simp only[Lz]at h;obtain⟨sn,h9⟩:=Al h;have sn:=aG sn;clear h;subst sn;obtain⟨y,r1,h1,h2⟩:=Ah h9;have hy:=Afn R h1;split at h2
  ·rename_i cs aw;obtain⟨css',r2,h3,h4⟩:=Ah h2;simp only[M.run,aA,aD]at h4;obtain⟨rfl,_⟩:=h4;obtain⟨h5,h6,h7⟩:=ih h3;refine⟨by simp[h5],by simp[h6],λj az p hj hp=>?_⟩;cases j with
   |zero=>
    simp only[bR,aA]at hj hp;subst hj;subst hp;obtain⟨c1,c2⟩:=Wv aw hy;refine⟨by grind,λk c u hc hu=>?_⟩;rw[bQ]at hc;cases rq:cs[k]? with
    |none=>grind
    |some c'=>
     rw[rq]at hc;simp only[bO,aA]at hc;subst hc;exact VOK.dem (x:=.c c') (c2 k c' u rq hu).reld
   |succ j=>grind
  trivial
def Atl {n:Nat}:∀{css:List (List C)},Vt n css=true->∀(j:Nat) cs,css[j]?=some cs->cs.length=n:=by
 intro css
 induction css with
 |nil=>grind
 |cons c css ih=>
  intro h j cs hj;obtain⟨h1,h2⟩:=and_true h;grind[Nat.eq_of_beq_eq_true]
end
section
variable {P:Program} {Y:TypeId->Ty} {X:Cx} {nt:Nat} {ds:List Deferred} {e:Env} {a:Act} {w:World} {G:Gh} {O:Nat->Prop}
def Ii (vis:Nat->Nat) (w:World) (n:Nat) (f:Nat->List C) (sz:Nat) (xs:List Value):Prop:=
 xs.length=n*sz/\(∀i,i<n->(f i).length=sz)/\∀i j c,i<n->(f i)[j]?=some c->∃u,xs[i*sz+j]?=some u/\Rep vis w c u
def Ii.cat {vis:Nat->Nat} {n m sz:Nat} {f g:Nat->List C} {xs ys:List Value} (hx:Ii vis w n f sz xs) (hy:Ii vis w m g sz ys):Ii vis w (n+m) (An n f g) sz (xs++ys):=by
 obtain⟨x1,x2,x3⟩:=hx;obtain⟨y1,y2,y3⟩:=hy;have hl:∀i,i<n->An n f g i=f i:=λi h=>by
  grind[An,Nat.blt,Nat.ble_eq_true_of_le]
 have hr:∀i,n<=i->An n f g i=g (i - n):=λi h=>by
  grind[An,Nat.blt,Nat.le_of_ble_eq_true]
 refine⟨by grind,λi hi=>?_,λi j c hi hj=>?_⟩
 ·grind
 ·rcases bL i n with h|h
  ·grind
  ·rw[hr i h]at hj;obtain⟨u,h1,h2⟩:=y3 (i - n) j c (by omega) hj;refine⟨u,?_,h2⟩;have h3:n*sz<=i*sz:=aY _ h;grind[Nat.sub_mul]
def Aki {vis:Nat->Nat} {g:Tag} {n sz:Nat} {f:Nat->List C} {v:Value} (h:Rep vis w (.s g n f) v) (hs:0<sz) (hz:∀i,i<n->(f i).length=sz):
  ∃xs,Ii vis w n f sz xs/\(∀u∈xs,u.oneCell'=true)/\((∃b,v=.slice b 0 0)/\n=0∨∃b off cap,v=.slice (some ⟨b,off,none⟩) n cap/\n<=cap/\cap<=maxLen/\off+n*sz<=vis b/\∀(j:Nat) u,xs[j]?=some u->w.cell? ⟨b,off+j,none⟩=some u):=by
 cases h with
 |nil=>exact⟨[],⟨by simp,λi h=>absurd h (aV i),λi _ _ h=>absurd h (aV i)⟩,λu h=>(by cases h),.inl ⟨⟨_,rfl⟩,rfl⟩⟩
 |e=>exact⟨[],⟨by simp,λi h=>absurd h (aV i),λi _ _ h=>absurd h (aV i)⟩,λu h=>(by cases h),.inl ⟨⟨_,rfl⟩,rfl⟩⟩
 |s g n f b off cap s' u hn hc hz' hv hu hr=>
  have hss:n≠0->s'=sz:=λh=>by rw[<-hz' 0 (by omega),hz 0 (by omega)]
  have hmul:n*s'=n*sz:=by grind
  have hidx:∀q,q<n*sz->q / sz<n/\q % sz<sz/\q=q / sz*sz+q % sz:=λq h=>
   ⟨Nat.div_lt_of_lt_mul (by grind),Nat.mod_lt _ hs,by grind[Nat.div_add_mod]⟩
  have dk:∀q,q<n*sz->∃c,(f (q / sz))[q % sz]?=some c:=λq h=>by
   obtain⟨h1,h2,_⟩:=hidx q h;exact⟨_,aQ (by grind)⟩
  refine⟨(List.range (n*sz)).map λq=>u (q / sz) (q % sz),⟨by simp,hz,λi j c hi hj=>?_⟩,λx hx=>?_,.inr ⟨b,off,cap,rfl,hn,hc,by omega,λj x hj=>?_⟩⟩
  ·have ol:j<sz:=by grind
   have hlt:i*sz+j<n*sz:=by
    have:(i+1)*sz<=n*sz:=aY _ hi;rw[dD]at this;omega
   grind
  ·grind[Lf]
  grind
def Akj {vis:Nat->Nat} {base N sz el b:Nat} {g:Tag} {F:Nat->List C} {zs:List Value} {v:Value} (ho:w.ownsRow base el sz v N zs) (hr:Ii vis w N F sz zs) (hb:v.ownBlock=some b) (hv:N*sz<=vis b):Rep vis w (.s g N F) v:=by
 rcases ho.2 with ⟨rfl,rfl⟩|⟨b',cap,cur,rfl,hbb,w8,hN,hc,aw,cm⟩
 ·trivial
 ·simp only[Value.ownBlock,aA]at hb;subst hb;have e9:∀q u,zs[q]?=some u->w.cell? ⟨b',q,none⟩=some u:=λq u hq=>by
   grind[World.cell?]
  refine .s g N F b' 0 cap sz (λi j=>zs.getD (i*sz+j) undef) hN hc hr.2.1 (by omega) (λi j c hi hj=>?_) (λi j c hi hj=>?_)
  ·obtain⟨u,h1,h2⟩:=hr.2.2 i j c hi hj;grind
  ·obtain⟨u,h1,h2⟩:=hr.2.2 i j c hi hj;grind
def Fi:Option Nat->Env
 |none=>[]
 |some k=>[(1,k,Bx)]
theorem Nx (kd:Option Nat) (d el:Nat) (t k:Nat):Env.get ((1,d,As el)::Fi kd++e) t k=if t=1/\d=k then As el else if t=1/\some k=kd then Bx else e.get t k:=by
 rw[bZ,Am]
 by_cases h:t=1/\d=k
 ·grind
 ·rw[bI (λhh=>h ⟨hh.1.symm,hh.2⟩),bI h];cases kd with
  |none=>simp[Fi]
  |some q=>
   grind[Fi,Am]
abbrev tkG (G:Gh) (vis':Nat->Nat) (d:Nat) (tb:Option Nat) (kd:Option Nat):Gh:=⟨vis',G.bk,λk=>if k=Tk.o d then tb else if some k=kd.map Tk.o then none else G.tk k,G.H,G.dm⟩
def Mf (R:Rel Y X nt ds e a w G) {w':World} {vis':Nat->Nat} {tb:Option Nat} {el d:Nat} {kd:Option Nat} (g:Option Nat) (aq:e.get 1 d=.any)
  (l6:Same w w') (nm:∀b,b<w.heap.size->some b≠g->w'.heap[b]?=w.heap[b]?) (hg:∀b,g=some b->∃k,G.tk k=some b) (d8:∀b,G.vis b<=vis' b) (n8:KeepV G.vis w w')
  (ux:∀id,e.get 2 id≠.any->vis' (G.bk id)=G.vis (G.bk id))
  (htb:∀b,tb=some b->X.base<=b/\b<w'.heap.size/\¬G.H b/\(∃cs t,w'.heap[b]?=some (.cells cs t (0,0)))/\(∀id,e.get 2 id≠.any->G.bk id≠b)/\∀k,some k≠kd.map Tk.o->G.tk k≠some b)
  (s4:∀k b,some k≠kd.map Tk.o->G.tk k=some b->w'.heap[b]?=w.heap[b]?/\vis' b=G.vis b)
  (p9:∀b,w'.heap.size<=b->vis' b=0) (x9:∀b,b<X.base->vis' b=G.vis b) (hvH:∀b,G.H b->vis' b=G.vis b):
  Rel Y X nt ds ((1,d,As el)::Fi kd++e) a w' (tkG G vis' d tb kd)/\
  ∀x v,VOK G w X.fz Y e x v->VOK (tkG G vis' d tb kd) w' X.fz Y ((1,d,As el)::Fi kd++e) x v:=by
 have wh:∀k,e.get 1 k≠.any->Env.get ((1,d,As el)::Fi kd++e) 1 k≠.any:=λk h=>by
  rw[Nx];split
  ·grind
  ·split
   ·intro hh;cases hh
   ·exact h
 refine R.grow g (λt k h=>by grind[Nx]) l6 nm hg d8 n8 rfl rfl rfl ux (λk b h=>?_) (λk k' b h h'=>?_) (λk h=>?_) (λk b h hb hl=>?_) p9 x9 hvH
 ·dsimp only[tkG]at h
  by_cases h1:k=Tk.o d
  ·subst h1;rw[bG rfl]at h;obtain⟨h2,h3,h4,h5,h6,_⟩:=htb b h;refine⟨h2,h3,h4,h5,h6,?_⟩
   show Env.get _ 1 d≠.any
   rw[Nx,bG ⟨rfl,rfl⟩];intro hh;cases hh
  ·rw[bI h1]at h
   by_cases h2:some k=kd.map Tk.o
   ·grind
   ·rw[bI h2]at h;obtain⟨h3,h4,h5,h6,h7⟩:=R.tks k b h;exact⟨h3,aX h4 l6.size,h5,by grind,h7,(R.tlive k b h).mono wh λid d6=>⟨by grind[Nx],rfl⟩⟩
 ·dsimp only[tkG]at h h'
  by_cases h1:k=Tk.o d<;>by_cases vu:k'=Tk.o d
  ·rw[h1,vu]
  ·grind
  ·grind
  ·rw[bI h1]at h;rw[bI vu]at h'
   by_cases h2:some k=kd.map Tk.o
   ·grind
   ·by_cases fm:some k'=kd.map Tk.o
    ·grind
    ·rw[bI h2]at h;rw[bI fm]at h';exact R.tinj k k' b h h'
 ·rw[Nx]
  by_cases h1:d=k
  ·grind
  ·rw[bI (λhh=>h1 hh.2)]
   by_cases h2:some k=kd
   ·rw[bG ⟨rfl,h2⟩];exact⟨λhh=>(by cases hh),λbz hh=>(by cases hh)⟩
   grind
 ·cases k with
  |s b' j=>
   have h2:some (Tk.s b' j)≠kd.map Tk.o:=by cases kd<;>simp
   grind
  |o k=>
   obtain⟨bz,hl⟩:=hl;have h1:d≠k:=λhh=>by subst hh;trivial
   rw[Nx,bI (λhh=>h1 hh.2)]at hl
   by_cases h2:some k=kd
   ·rw[bG ⟨rfl,h2⟩]at hl;cases hl
   ·have fm:some (Tk.o k)≠kd.map Tk.o:=by
     cases kd with
     |none=>simp
     |some q=>grind
    grind
def Mg {G':Gh} {w':World} {kd:Option Nat} {d el N:Nat} {F:Nat->List C} {v:Value} (i6:Rep G'.vis w' (.s (.t d) N F) v) (l7:Own G' w' Y d el N F v):
  VOK G' w' X.fz Y ((1,d,As el)::Fi kd++e) (.d (.c (.s (.t d) N F))) v:=by
 refine⟨by trivial,λbz w9=>?_,λ_ h=>(by cases h),λk hk=>?_⟩
 ·rw[Nx,bG ⟨rfl,rfl⟩]at w9;have mt:el=bz:=T.tok.inj (show T.tok el=T.tok bz from w9);grind
 ·simp only[Ck,aZ]at hk;subst hk;rw[Nx,bG ⟨rfl,rfl⟩];intro hh;cases hh
theorem Akk (t ty el:TypeId) (i:TypeInfo) (ht:P.underlying t=some (.slice el)) (hi:P.info? el=some i) (b b':Option Addr) (n cap c':Nat) (hn:n<=cap):
  (Builtin.append_ #[t,t] ty #[.slice b n cap,.slice b' 0 c']).run P w=.ok (.slice b n cap) w:=by
 cases b<;>cases b'<;>simp[Builtin.append_,aO ht,sizeOf,typeInfo,hi,Builtin.lenOf,hn,Builtin.firstCells,loadCells,loadCellsFrom,storeCells]
def Aak (R:Rel Y X nt ds e a w G) (o:Obj):KeepV G.vis w (w.drew.alloc o):=by
 have h1:=Tp R o;exact⟨h1.cell,h1.map,h1.rows⟩
def Akl (R:Rel Y X nt ds e a w G) {w':World} (l6:Same w w') (hlt:∀b,b<w.heap.size->w'.heap[b]?=w.heap[b]?) (s4:KeepV G.vis w w') {el d cap N sz:Nat} {kd:Option Nat} {F:Nat->List C} {cur:Array Value} {zs:List Value} (j9:(Y el).size=sz)
  (aq:e.get 1 d=.any) (au:Ii G.vis w N F sz zs) (w8:cur.toList.take (N*sz)=zs) (aw:cur.size=cap*sz) (hNc:N<=cap) (fy:cap<=maxLen) (cq:w'.heap[w.heap.size]?=some (.cells cur el (0,0))) (hws:w'.heap.size=w.heap.size+1):
  ∃G',Rel Y X nt ds ((1,d,As el)::Fi kd++e) a w' G'/\
   VOK G' w' X.fz Y ((1,d,As el)::Fi kd++e) (.d (.c (.s (.t d) N F))) (.slice (some ⟨w.heap.size,0,none⟩) N cap):=by
 obtain⟨vis',d8⟩:∃vis',(λb=>if b=w.heap.size then N*sz else G.vis b)=vis':=⟨_,rfl⟩
 have iz:∀b,b≠w.heap.size->vis' b=G.vis b:=λb h=>by grind
 have iv:vis' w.heap.size=N*sz:=by grind
 have i7:∀b,G.vis b<=vis' b:=λb=>by
  by_cases h:b=w.heap.size
  ·rw[h,R.fresh _ (aI _)];omega
  grind
 obtain⟨h1,h2⟩:=Mf R (w':=w') (vis':=vis') (tb:=some w.heap.size) (el:=el) (kd:=kd) none aq l6 (λb hb _=>hlt b hb) (λb hb=>by cases hb) i7 s4
  (λid h=>iz _ (by have:=(R.mem.box id h).2.1;omega))
  (λb hb=>by
   simp only[aA]at hb;subst hb;refine⟨R.base,by omega,λh=>absurd (R.hlt _ h) (gN _),⟨cur,el,cq⟩,λid h=>by have:=(R.mem.box id h).2.1;omega,λk _ h=>by have:=(R.tks k _ h).2.1;omega⟩)
  (λk b _ hb=>⟨hlt b (R.tks k b hb).2.1,iz _ (by have:=(R.tks k b hb).2.1;omega)⟩)
  (λb hb=>by rw[iz b (by omega)];exact R.fresh b (by omega)) (λb hb=>iz b (by have:=R.base;omega)) (λb hb=>iz b (by have:=R.hlt b hb;omega))
 refine⟨_,h1,?_⟩;have l7:w'.ownsRow 0 el sz (.slice (some ⟨w.heap.size,0,none⟩) N cap) N zs:=
  ⟨au.1,.inr ⟨w.heap.size,cap,cur,rfl,bV _,cq,hNc,fy,aw,w8⟩⟩
 have pi:Ii vis' w' N F sz zs:=⟨au.1,au.2.1,λi j c hi hj=>let ⟨u,h1,h2⟩:=au.2.2 i j c hi hj;⟨u,h1,h2.mono' i7 s4⟩⟩
 refine Mg (Akj l7 pi rfl (by grind)) ⟨by rw[j9];exact au.2.1,.inr (.inr ⟨w.heap.size,zs,by simp,rfl,by grind,by grind⟩)⟩
def Aal (R:Rel Y X nt ds e a w G) {el d cap N sz:Nat} {kd:Option Nat} {F:Nat->List C} {cur:Array Value} {zs:List Value} (j9:(Y el).size=sz)
  (aq:e.get 1 d=.any) (au:Ii G.vis w N F sz zs) (w8:cur.toList.take (N*sz)=zs) (aw:cur.size=cap*sz) (hNc:N<=cap) (fy:cap<=maxLen):
  ∃G',Rel Y X nt ds ((1,d,As el)::Fi kd++e) a (w.drew.alloc (.cells cur el)) G'/\
   VOK G' (w.drew.alloc (.cells cur el)) X.fz Y ((1,d,As el)::Fi kd++e) (.d (.c (.s (.t d) N F))) (.slice (some ⟨w.heap.size,0,none⟩) N cap):=
 Akl R (w':=w.drew.alloc (.cells cur el)) ⟨rfl,rfl,rfl,by simp⟩ (λb h=>Below.heap_alloc w.drew _ b h) (Aak R _) j9 aq au w8 aw hNc fy (bN w.drew _) (by simp)
theorem Atm (R:Rel Y X nt ds e a w G) {el d k b cap n m sz:Nat} {f g:Nat->List C} {cur:Array Value} {xs j0:List Value} (j9:(Y el).size=sz)
  (aq:e.get 1 d=.any) (cm:G.tk k=some b) (d8:G.vis b=n*sz) (hg:w.heap[b]?=some (.cells cur el (0,0))) (aw:cur.size=cap*sz) (htake:cur.toList.take (n*sz)=xs)
  (fy:cap<=maxLen) (ac:n+m<=cap) (hx:Ii G.vis w n f sz xs) (hn:Ii G.vis w m g sz j0):
  ∃G',Rel Y X nt ds ((1,d,As el)::Fi (some k)++e) a (w.setRow b (cur.toList.take (n*sz)++j0++cur.toList.drop (n*sz+j0.length)).toArray) G'/\
   VOK G' (w.setRow b (cur.toList.take (n*sz)++j0++cur.toList.drop (n*sz+j0.length)).toArray) X.fz Y ((1,d,As el)::Fi (some k)++e) (.d (.c (.s (.t d) (n+m) (An n f g)))) (.slice (some ⟨b,0,none⟩) (n+m) cap):=by
 have hnl:=hn.1;have gn:=hx.1;have eu:cur.toList.length=cap*sz:=by trivial
 have i7:(n+m)*sz<=cap*sz:=aY _ ac;rw[dD]at i7;generalize au:(cur.toList.take (n*sz)++j0++cur.toList.drop (n*sz+j0.length)).toArray=row;have jp:row.size=cap*sz:=by grind
 have hrt:row.toList.take ((n+m)*sz)=xs++j0:=by grind[Nat.add_mul]
 have ji:∀i,i<n*sz->row[i]?=cur[i]?:=λi hi=>by
  grind
 obtain⟨ar,w6,cu,qo,ti⟩:=R.tks k b cm;obtain⟨vis',hvis'⟩:∃vis',(λc=>if c=b then (n+m)*sz else G.vis c)=vis':=⟨_,rfl⟩
 have iz:∀c,c≠b->vis' c=G.vis c:=λc h=>by grind
 have iv:vis' b=(n+m)*sz:=by grind
 have hle':∀c,G.vis c<=vis' c:=λc=>by
  grind
 have n8:KeepV G.vis w (w.setRow b row):=by
  refine⟨λc i hi=>?_,λc hc es cl he=>?_,Tm (cs0:=row) (t0:=el) (z0:=(0,0)) (λc hh=>eW w _ c _ hh) λcs t z h=>?_⟩
  ·grind[Afh,World.cell?,Wx]
  ·grind[setRow_other]
  ·grind[setRow_heap]
 obtain⟨h1,h2⟩:=Mf R (w':=w.setRow b row) (vis':=vis') (tb:=some b) (el:=el) (kd:=some k) (some b) aq ⟨rfl,rfl,rfl,by simp⟩ (λc _ hc=>eW w _ _ _ λhh=>hc (by rw[hh]))
  (λc hc=>⟨k,by grind⟩) hle' n8
  (λid h=>iz _ (ti id h))
  (λc hc=>by
   simp only[aA]at hc;subst hc;exact⟨ar,by simpa using w6,cu,⟨row,el,eH w b cur row el _ hg⟩,ti,λk' t8 h=>t8 (by rw[R.tinj k' _ b h cm];rfl)⟩)
  (λk' c t8 hc=>by
   have:c≠b:=λhh=>t8 (by subst hh;rw[R.tinj k' _ c hc cm];rfl);grind[setRow_other])
  (λc hc=>by simp at hc;rw[iz c (by omega)];exact R.fresh c hc) (λc hc=>iz c (by omega)) (λc hc=>iz c λhh=>cu (by grind))
 refine⟨_,h1,?_⟩;have l7:(w.setRow b row).ownsRow 0 el sz (.slice (some ⟨b,0,none⟩) (n+m) cap) (n+m) (xs++j0):=
  ⟨by grind,.inr ⟨b,cap,row,rfl,bV _,eH w b cur row el _ hg,ac,fy,jp,hrt⟩⟩
 have fq:=hx.cat hn;have pi:Ii vis' (w.setRow b row) (n+m) (An n f g) sz (xs++j0):=⟨fq.1,fq.2.1,λi j c hi hj=>let ⟨u,h1,h2⟩:=fq.2.2 i j c hi hj;⟨u,h1,h2.mono' hle' n8⟩⟩
 exact Mg (Akj l7 pi rfl (by grind)) ⟨by rw[j9];exact fq.2.1,.inr (.inr ⟨b,xs++j0,by simp,rfl,by grind,by grind⟩)⟩
def Wy (G:Gh) (w:World) (sz m:Nat) (g:Nat->List C) (zv:Value):Prop:=
 ∃j0,Ii G.vis w m g sz j0/\(∀u∈j0,u.oneCell'=true)/\((∃b,zv=.slice b 0 0)/\m=0∨∃b off cap,zv=.slice (some ⟨b,off,none⟩) m cap/\∀(j:Nat) u,j0[j]?=some u->w.cell? ((⟨b,off,none⟩:Addr).add j)=some u)
theorem Akm (hY:YOK P Y) (R:Rel Y X nt ds e a w G) {o:Oper} {p q:Operand} {t el:TypeId} {x:T} {m:Nat} {g:Nat->List C} (ho:o.op=.call { callee:=.builtin .append,args:=#[p,q],argTypes:=#[t,t] }) (hk:(Y t).kind=.slice el)
  (hx:VOK G w X.fz Y e x (a.eval p)) (gm:(g 0).length=(Y el).size->0<(Y el).size->Wy G w (Y el).size m g (a.eval q)) {r r':List (Nat×Nat)} {out:Out} (h:(Zl el (Y el) o.dst x m g).run e.get r=some (out,r')) (hv:∀p∈out.vc,p):OpR P Y X nt ds e a w o out:=by
 obtain⟨dd,i0,z0,h1,h2,h3,h4,h5,h6,h7,h8⟩:=hY t (by simp[Ty.known,hk]);rw[hk]at h7;simp only[KOK]at h7;subst h7;have cg:∀{v w'},(Builtin.append_ #[t,t] o.type #[a.eval p,a.eval q]).run P w=.ok v w'->(execOp a.eval o).run P w=.ok (.value v) w':=λ{v w'} hr=>by
  simp[execOp,ho,resolve,invoke,builtin,hr]
 unfold Zl at h;split at h
 ·-- from nil
  obtain⟨hb,h⟩:=Al h;obtain⟨hb,mc⟩:=and_true hb;obtain⟨ax,hs⟩:=and_true hb;have mc:=aG mc;have hs:0<(Y el).size:=aH hs;obtain⟨d,hd,aq,rfl⟩:=Aaj h;have bq:m*(Y el).bytes<=140737488355328:=hv _ (by simp);have cj:m<=140737488355328:=hv _ (by simp);obtain⟨dd,ie,ze,g1,g2,g3,g4,g5,g6,g7,g8⟩:=hY el ax;obtain⟨j0,n1,n2,n3⟩:=gm mc hs;have hxv:a.eval p=.slice none 0 0:=Cl hx
  by_cases hm:m=0
  ·subst hm;have d7:(Builtin.append_ #[t,t] o.type #[a.eval p,a.eval q]).run P w=.ok (.slice none 0 0) w:=by grind[Akk]
   obtain⟨f1,f2⟩:=Mf R (w':=w) (vis':=G.vis) (tb:=none) (el:=el) (kd:=none) none aq (.refl _) (λ_ _ _=>rfl) (λb hb=>(by cases hb)) (λ_=>aI _) (.refl _ _)
    (λ_ _=>rfl) (λb hb=>(by cases hb)) (λ_ _ _ _=>⟨rfl,rfl⟩) R.fresh (λ_ _=>rfl) (λ_ _=>rfl)
   exact⟨_,_,_,_,cg d7,.inl rfl,λ_ h=>(by cases h),f1,Mg (kd:=none) (d:=d) (el:=el) (e:=e) (F:=g) (N:=0) (.nil _ _) ⟨λi hi=>absurd hi (aV i),.inl rfl⟩⟩
  ·rcases n3 with ⟨_,n3⟩|⟨b,off,cap,n3,n4⟩
   ·trivial
   ·have d7:=gA (P:=P) w t o.type el ie ze h1 g2 g5 ⟨b,off,none⟩ m cap j0 (by rw[g3];exact n1.1) n4 (by omega) (by omega) (by grind);have ni:m<=maxLen:=by unfold maxLen;omega
    have dr:=eJ w m 0 el;obtain⟨G',f1,f2⟩:=Aal R (el:=el) (kd:=none) (d:=d) (cap:=grownCap w m 0 el) (N:=m) (sz:=(Y el).size) (F:=g) (zs:=j0)
     (cur:=j0.toArray++Builtin.zeroCells ze.cells (grownCap w m 0 el - m)) rfl aq n1
     (by simp only[eA];rw[<-n1.1];grind)
     (by
      have:ze.cells.size=(Y el).size:=by grind
      simp only[dX,cW,fL,this,n1.1,<-dD];grind) dr (cY w m 0 el ni)
    refine⟨_,_,_,G',cg (by grind),.inl rfl,λ_ h=>(by cases h),f1,f2⟩
 ·-- from a slice with a token
  rename_i k n f;obtain⟨hb,h⟩:=Al h;obtain⟨hb,mc⟩:=and_true hb;obtain⟨ax,hs⟩:=and_true hb;have mc:=aG mc;have hs:0<(Y el).size:=aH hs;simp only[M.run]at h;split at h
  ·rename_i bz w9;obtain⟨hee,h⟩:=Al h;have hee:=aG hee;rw[hee]at w9;obtain⟨d,hd,aq,rfl⟩:=Aai h;have bq:(n+m)*(Y el).bytes<=140737488355328:=hv _ (by simp);have cj:n+m<=140737488355328:=hv _ (by simp);obtain⟨dd,ie,ze,g1,g2,g3,g4,g5,g6,g7,g8⟩:=hY el ax;have pj:ze.cells.size=(Y el).size:=by grind
   obtain⟨j0,n1,n2,n3⟩:=gm mc hs;obtain⟨lx,l7⟩:Own G w Y k el n f (a.eval p):=hx.own el w9;have hxr:Rep G.vis w (.s (.t k) n f) (a.eval p):=hx.reld;obtain⟨xs,x1,x2,x3⟩:=Aki hxr hs lx
   by_cases hm:m=0
   ·subst hm;have fq:=x1.cat n1;have d7:(Builtin.append_ #[t,t] o.type #[a.eval p,a.eval q]).run P w=.ok (a.eval p) w:=by grind[Akk]
    obtain⟨f1,f2⟩:=Mf R (w':=w) (vis':=G.vis) (tb:=G.tk k) (el:=el) (kd:=some k) none aq (.refl _) (λ_ _ _=>rfl) (λb hb=>(by cases hb)) (λ_=>aI _) (.refl _ _)
     (λ_ _=>rfl) (λb hb=>by
      obtain⟨t1,t2,t3,t4,t5⟩:=R.tks k b hb;exact⟨t1,t2,t3,t4,t5,λq hq vg=>hq (by rw[R.tinj q _ b vg hb];rfl)⟩) (λ_ _ _ _=>⟨rfl,rfl⟩) R.fresh (λ_ _=>rfl) (λ_ _=>rfl)
    have hcf:∀i,i<n->An n f g i=f i:=λi hi=>by
     grind[An,Nat.blt,Nat.ble_eq_true_of_le]
    have i6:Rep G.vis w (.s (.t d) (n+0) (An n f g)) (a.eval p):=by
     generalize a.eval p=pv at hxr;cases hxr with
     |nil=>exact .nil _ _
     |e=>exact .e _ _ _
     |s _ n f b off cap sz u a1 a2 a3 a4 a5 a6=>
      exact .s _ n _ b off cap sz u a1 a2 (λi hi=>by grind) a4 (λi j c hi hj=>a5 i j c hi (by grind)) (λi j c hi hj=>a6 i j c hi (by grind))
    refine⟨_,_,_,_,cg d7,.inl rfl,λ_ h=>(by cases h),f1,Mg (kd:=some k) (d:=d) (el:=el) (e:=e) i6 ⟨fq.2.1,?_⟩⟩;rcases l7 with l7|l7|⟨b,ys,o1,o2,o3,o4⟩
    ·grind
    ·exact .inr (.inl ⟨l7.1.imp id λh=>Ati hd h,l7.2⟩)
    grind
   ·rcases n3 with ⟨_,n3⟩|⟨sb,soff,scap,n3,n4⟩
    ·trivial
    ·have ni:n+m<=maxLen:=by unfold maxLen;omega
     -- a new block
     have grow:∀(ba:Addr) (cap:Nat),a.eval p=.slice (some ba) n cap->cap<n+m->(∀(j:Nat) u,xs[j]?=some u->w.cell? (ba.add j)=some u)->
       OpR P Y X nt ds e a w o ⟨[(n+m)*(Y el).bytes<=140737488355328,n+m<=140737488355328],[],.d (.c (.s (.t d) (n+m) (An n f g))),(1,d,As el)::[(1,k,Bx)]⟩:=by
      intro ba cap cf ko e9;have d7:=gR (P:=P) w t o.type el ie ze h1 g2 g5 ba n cap xs (by rw[g3];exact x1.1) (λj v hj=>e9 j v hj) ⟨sb,soff,none⟩ m scap j0 (by rw[g3];exact n1.1) n4 ko (by omega) (by rw[g4];exact gW ko bq);have dr:=eJ w (n+m) cap el;have i9:(xs++j0).length=(n+m)*(Y el).size:=by rw[cU,x1.1,n1.1,dD]
      obtain⟨G',f1,f2⟩:=Aal R (el:=el) (kd:=some k) (d:=d) (cap:=grownCap w (n+m) cap el) (N:=n+m) (sz:=(Y el).size) (F:=An n f g) (zs:=xs++j0)
       (cur:=xs.toArray++j0.toArray++Builtin.zeroCells ze.cells (grownCap w (n+m) cap el - (n+m))) rfl aq (x1.cat n1)
       (by
        grind)
       (by
        simp only[dX,cW,fL,pj,x1.1,n1.1,<-dD];grind) dr (cY w (n+m) cap el ni)
      exact⟨_,_,_,G',cg (by grind),.inl rfl,λ_ h=>(by cases h),f1,f2⟩
     rcases l7 with l7|l7|⟨b,ys,o1,o2,o3,o4⟩
     ·-- nil
      have hn0:n=0:=by grind
      subst hn0;have hx0:xs=[]:=bX (by rw[x1.1,gB]);subst hx0;have d7:=gA (P:=P) w t o.type el ie ze h1 g2 g5 ⟨sb,soff,none⟩ m scap j0 (by rw[g3];exact n1.1) n4 (by omega) (by omega) (by grind);have dr:=eJ w m 0 el;obtain⟨G',f1,f2⟩:=Aal R (el:=el) (kd:=some k) (d:=d) (cap:=grownCap w m 0 el) (N:=m) (sz:=(Y el).size) (F:=g) (zs:=j0)
       (cur:=j0.toArray++Builtin.zeroCells ze.cells (grownCap w m 0 el - m)) rfl aq n1
       (by simp only[eA];rw[<-n1.1];grind)
       (by
        simp only[dX,cW,fL,pj,n1.1,<-dD];grind) dr (cY w m 0 el (by omega))
      have hcz:An 0 f g=g:=by trivial
      refine⟨_,_,_,G',cg (by rw[l7,n3];exact d7),.inl rfl,λ_ h=>(by cases h),f1,?_⟩;dsimp only;rw[hcz,bH];exact f2
     ·-- no room
      obtain⟨_,ad,l7⟩:=l7;rcases x3 with ⟨⟨xb,x3⟩,x4⟩|⟨b,off,cap,x3,x4,x5,x6,x7⟩
      ·rw[l7]at x3;simp only[hU]at x3;obtain⟨_,rfl,_⟩:=x3;have hx0:xs=[]:=bX (by rw[x1.1,gB]);subst hx0;rcases ad with _|ba
       rotate_left
       ·grind
       have d7:=gA (P:=P) w t o.type el ie ze h1 g2 g5 ⟨sb,soff,none⟩ m scap j0 (by rw[g3];exact n1.1) n4 (by omega) (by omega) (by grind);have dr:=eJ w m 0 el;obtain⟨G',f1,f2⟩:=Aal R (el:=el) (kd:=some k) (d:=d) (cap:=grownCap w m 0 el) (N:=m) (sz:=(Y el).size) (F:=g) (zs:=j0)
        (cur:=j0.toArray++Builtin.zeroCells ze.cells (grownCap w m 0 el - m)) rfl aq n1
        (by simp only[eA];rw[<-n1.1];grind)
        (by
         simp only[dX,cW,fL,pj,n1.1,<-dD];grind) dr (cY w m 0 el (by omega))
       have hcz:An 0 f g=g:=by trivial
       refine⟨_,_,_,G',cg (by rw[l7,n3];exact d7),.inl rfl,λ_ h=>(by cases h),f1,?_⟩;dsimp only;rw[hcz,bH];exact f2
      grind[Ih]
     ·-- the token's own block
      rcases o3.2 with ⟨q1,q2⟩|⟨b',cap,cur,q1,q2,q3,q4,q5,q6,q7⟩
      ·rw[q1]at o2;cases o2
      ·rw[q1]at o2;simp only[Value.ownBlock,aA]at o2;subst o2;have qw:xs=ys:=by
        rcases x3 with ⟨_,x3⟩|⟨b,off,cap',x3,_,_,_,x7⟩
        ·exact (bX (by rw[x1.1,x3,gB])).trans (bX (by grind)).symm
        ·rw[q1]at x3;simp only[hU,aA,Addr.mk.injEq,gX,and_true]at x3;obtain⟨⟨rfl,rfl,_⟩,rfl⟩:=x3;apply fZ;intro i
         by_cases hi:i<n*(Y el).size
         ·have i1:i<xs.length:=by rw[x1.1];exact hi
          grind[World.cell?]
         ·rw[gK (by rw[x1.1];omega),gK (by grind)]
       subst qw
       by_cases ac:n+m<=cap
       ·have d7:=run_append_room (P:=P) w t o.type el ie h1 g2 b' n cap cur q3 ⟨sb,soff,none⟩ m scap j0 (by rw[g3];exact n1.1) n4 n2 ac (by
         rw[g3,n1.1,q6,<-dD];exact aY _ ac)
        rw[g3]at d7;obtain⟨G',f1,f2⟩:=Atm R (el:=el) (d:=d) (k:=k) (b:=b') (cap:=cap) rfl aq o1 o4 q3 q6 q7 q5 ac x1 n1;exact⟨_,_,_,G',cg (by grind),.inl rfl,λ_ h=>(by cases h),f1,f2⟩
       grind[Ih]
  trivial
 trivial
theorem Afo (R:Rel Y X nt ds e a w G) {id sz m:Nat} {fz:Bool} {g:Nat->List C} {v:Value} (i8:e.get 2 id=.arrc fz sz m g) (hv:VOK G w O Y e (.arr id m) v):Wy G w sz m g v/\0<sz:=by
 obtain⟨⟨cs,ct,z,q1,hz,q2,q3⟩,q4,_⟩:=Qz R i8;refine⟨?_,q4⟩;rcases arr_val hv with ⟨jh,hzv⟩|⟨cap,hzv,c1,c2⟩
 ·subst jh;exact⟨[],⟨by simp,λi hi=>absurd hi (aV i),λi _ _ hi=>absurd hi (aV i)⟩,λu hu=>(by cases hu),.inl ⟨⟨_,hzv⟩,rfl⟩⟩
 ·have dk:∀(i j:Nat),i<m->j<sz->(cs.toList.take (m*sz))[i*sz+j]?=cs[i*sz+j]?:=λi j hi hj=>by
   have i7:(i+1)*sz<=m*sz:=aY _ hi;grind
  refine⟨cs.toList.take (m*sz),⟨by grind,λi hi=>(q3 i hi).1,λi j c hi hj=>?_⟩,λu hu=>?_,.inr ⟨_,_,_,hzv,λj u hj=>?_⟩⟩
  ·grind
  ·obtain⟨j,hj,rfl⟩:=bM.1 hu;have sy:j<m*sz:=by grind
   have hi:j / sz<m:=Nat.div_lt_of_lt_mul (by grind);have hmod:j % sz<sz:=Nat.mod_lt _ q4;obtain⟨d1,d2⟩:=q3 _ hi;obtain⟨u,h3,h4⟩:=d2 (j % sz) _ (aQ (by omega));grind[Nat.div_add_mod,Lf]
  grind[Ih,World.cell?]
theorem Aam {z:T} {m sz:Nat} {g:Nat->List C} {v:Value} (hzz:z.elems?=some (m,g)) (hz:VOK G w O Y e z v) (mc:(g 0).length=sz) (hs:0<sz):Wy G w sz m g v:=by
 have i6:=Tn hzz hz;have i9:∀i,i<m->(g i).length=sz:=by
  intro i hi;cases i6 with
  |nil=>omega
  |e=>omega
  |s _ n f b off cap sz u hn hc hz' hv hu hr=>grind
 obtain⟨xs,a1,a2,a3⟩:=Aki i6 hs i9;refine⟨xs,a1,a2,a3.imp id ?_⟩;grind[Ih]
theorem Atn (hY:YOK P Y) (R:Rel Y X nt ds e a w G) {o:Oper} {p q:Operand} {t el:TypeId} {x z:T} (ho:o.op=.call { callee:=.builtin .append,args:=#[p,q],argTypes:=#[t,t] }) (hk:(Y t).kind=.slice el)
  (hx:VOK G w X.fz Y e x (a.eval p)) (hz:VOK G w X.fz Y e z (a.eval q)) {r r':List (Nat×Nat)} {out:Out} (h:(Ae5 el (Y el) o.dst x z).run e.get r=some (out,r')) (hv:∀p∈out.vc,p):OpR P Y X nt ds e a w o out:=by
 unfold Ae5 at h;split at h
 ·rename_i id m;simp only[M.run]at h;split at h
  ·rename_i fz sz m' g i8;obtain⟨j9,h⟩:=Al h;have j9:=aG j9;obtain⟨out',r1,h1,h2⟩:=Ah h;simp only[M.run,aA,aD]at h2;obtain⟨rfl,_⟩:=h2;have hm:m=m':=hv _ aC;subst hm
   suffices hsrc:(g 0).length=(Y el).size->0<(Y el).size->Wy G w (Y el).size m g (a.eval q) from
    (Akm hY R ho hk hx hsrc h1 (λp hp=>hv p (aU _ hp)):OpR P Y X nt ds e a w o out')
   grind[Afo]
  trivial
 ·split at h
  ·rename_i m g hzz;exact Akm hY R ho hk hx (λmc hs=>Aam hzz hz mc hs) h hv
  trivial
end
section
variable {P:Program} {Y:TypeId->Ty} {X:Cx} {nt:Nat} {ds:List Deferred} {e:Env} {a:Act} {w:World} {G:Gh}
theorem Ato (R:Rel Y X nt ds e a w G) {o:Oper} {p q:Operand} {ek:Array TypeId} {x y:T} (ho:o.op=.call { callee:=.builtin .min,args:=#[p,q],argTypes:=ek }) (hx:VOK G w X.fz Y e x (a.eval p)) (hy:VOK G w X.fz Y e y (a.eval q))
  {r r':List (Nat×Nat)} {out:Out} (h:(Ae6 x y).run e.get r=some (out,r')):OpR P Y X nt ds e a w o out:=by
 unfold Ae6 at h;split at h
 ·rename_i k n k' m h1 h2;obtain⟨hk,h9⟩:=Al h;have cw:k=k':=by grind
  clear h;subst cw;obtain rfl:=Bp h9;refine OpR.pure R (v:=.int k (min n m)) ?_ (VOK.v _ rfl) (λ_ h=>(by cases h));have e1:=Ez h1 hx;have e2:=Ez h2 hy;have hm:(if m<n then m else n)=min n m:=by omega
  simp[execOp,ho,resolve,invoke,builtin,Builtin.min_,Builtin.min2,e1,e2,hm]
 trivial
theorem Atp (hY:YOK P Y) (R:Rel Y X nt ds e a w G) {o:Oper} {p:Operand} {s t:TypeId} {x:T} (ho:o.op=.convert s t p) (hx:VOK G w X.fz Y e x (a.eval p))
  {r r':List (Nat×Nat)} {out:Out} (h:(Zm (Y s) (Y t) x).run e.get r=some (out,r')) (hv:∀p∈out.vc,p):OpR P Y X nt ds e a w o out:=by
 unfold Zm at h;split at h
 ·rename_i k k' n hk hi;obtain⟨hs,h⟩:=Al h;obtain rfl:=Fa h;obtain⟨d1,_,_,g1,_⟩:=hY s hs;obtain⟨d2,i2,z2,h1,h2,h3,h4,h5,h6,h7,h8⟩:=hY t (by simp[Ty.known,hk]);rw[hk]at h7;simp only[KOK]at h7;subst h7;refine OpR.pure R (v:=.int k n) ?_ (VOK.v _ rfl) (λ_ h=>(by cases h));have hr:=Wu k n (hv _ aC);simp[execOp,ho,Ez hi hx,Go.convert,aO g1,aO h1,Conv.intToInt,hr]
 trivial
def Akn {k:K} (h:Vu k=true):k=.int .u8:=by
 grind[Vu]
def Atq (n:Nat) (f:Nat->List C):strOfNums ((List.range n).map λi=>Sr (f i))=Vv n f:=by
 unfold strOfNums Vv;rw[List.map_map]
 rfl
theorem Ako (hY:YOK P Y) (R:Rel Y X nt ds e a w G) {o:Oper} {p:Operand} {s t:TypeId} {x:T} (ho:o.op=.convert s t p) (hx:VOK G w X.fz Y e x (a.eval p))
  {r r':List (Nat×Nat)} {out:Out} (h:(Ss Y (Y s) (Y t) x).run e.get r=some (out,r')) (hv:∀p∈out.vc,p):OpR P Y X nt ds e a w o out:=by
 unfold Ss at h;split at h
 ·rename_i el n f hk ir wd;obtain⟨so,h⟩:=Al h;have so:=Akn so;obtain rfl:=Fa h;have hc:=hv _ aC;obtain⟨d1,i1,z1,g1,g2,g3,g4,g5,g6,g7,g8⟩:=hY s (by simp[Ty.known,ir]);rw[ir]at g7;simp only[KOK]at g7;subst g7;obtain⟨d2,i2,z2,h1,h2,h3,h4,h5,h6,h7,h8⟩:=hY t (by simp[Ty.known,hk]);rw[hk]at h7;simp only[KOK]at h7;subst h7;obtain⟨d3,i3,z3,e1,e2,e3,e4,e5,e6,e7,e8⟩:=hY el (by simp[Ty.known,so]);rw[so]at e7;simp only[KOK]at e7;subst e7;refine OpR.pure R (v:=.string (Vv n f)) ?_ (VOK.v _ rfl) (λ_ h=>(by cases h));have i6:=Tn wd hx;have key:(Go.convert s t (a.eval p)).run P w=.ok (.string (Vv n f)) w:=by
   generalize cf:a.eval p=pv at i6;cases i6 with
   |nil=>
    have:=run_convert_bytes_nil (P:=P) w s el g1 e1 0 0 t h1;trivial
   |e g f ba=>
    have hl:(loadCells ba 0).run P w=.ok #[] w:=run_loadCells_list (P:=P) w ba [] (λj v hj=>by simp at hj);rw[run_convert_bytes_string w s t el _ 0 0 g1 e1 h1];trivial
   |s g n f b off cap sz u uu hcp hz cd hu hr=>
    have j9:∀i,i<n->sz=1:=λi hi=>by
     grind
    have:=run_convert_bytes_arg (P:=P) w s el g1 e1 b off n cap ((List.range n).map λi=>Sr (f i)) (by simp) (λi hi=>by
     have h5:=hu i 0 (.v (.int .u8 (Sr (f i)))) hi (by grind);have h6:=hr i 0 (.v (.int .u8 (Sr (f i)))) hi (by grind);rw[j9 i hi,fX,eB]at h5;rw[h5];generalize u i 0=uv at h6;cases h6;grind) t h1
    rw[this,Atq]
  simp[execOp,ho,key]
 grind[Atp]
def Afp {vis:Nat->Nat}:∀{cs:List C} {l:List Int} {vs:List Value},Hy cs=some l->Aw vis w cs vs->vs=l.map (Value.int .i64):=by
 intro cs
 induction cs with
 |nil=>
  intro l vs h hr;simp only[Hy,aA]at h;subst h;exact bX (by simpa using hr.1.symm)
 |cons c cs ih=>
  intro l vs h hr;unfold Hy at h;split at h
  ·trivial
  ·rename_i n rest kf;obtain⟨rfl,rfl⟩:=iD kf;cases hl:Hy cs with
   |none=>grind
   |some l'=>
    rw[hl]at h;simp only[bO,aA]at h;subst h;cases vs with
    |nil=>have:=hr.1;simp at this
    |cons v vs=>
     have hv:v=.int .i64 n:=Le (hr.2 0 _ v rfl rfl);have:=ih hl (vs:=vs) ⟨by have:=hr.1;grind,λj c u hc hu=>hr.2 (j+1) c u (by trivial) (by trivial)⟩;grind
  ·cases h
def Akp (w:World) (d:Nat) (t e:TypeId) (b:Addr) (n c n' c':Nat) (h:P.underlying t=some (.slice e)):
  (Op.equalIn (d+1) t (.slice (some b) n c) (.slice none n' c')).run P w=.ok false w:=by
 simp[Op.equalIn,aO h]
def Atr (w:World) (d:Nat) (t:TypeId) (x y:Bool) (h:P.underlying t=some .bool):
  (Op.equalIn (d+1) t (.bool x) (.bool y)).run P w=.ok (x==y) w:=by
 simp[Op.equalIn,aO h]
def Ats (w:World) (d:Nat) (t:TypeId) (f:Fn) (us vs:Array Value) {a b:Array TypeId} {c:Bool} (h:P.underlying t=some (.func a b c)):
  (Op.equalIn (d+1) t (.func f us vs) .nilFunc).run P w=.ok false w:=by
 simp[Op.equalIn,aO h]
def Att (w:World) (d:Nat) (t:TypeId) {a b:Array TypeId} {c:Bool} (h:P.underlying t=some (.func a b c)):
  (Op.equalIn (d+1) t .nilFunc .nilFunc).run P w=.ok true w:=by
 simp[Op.equalIn,aO h]
def Atu (w:World) (d:Nat) (t:TypeId) (x:Addr) {e:TypeId} (h:P.underlying t=some (.pointer e)):
  (Op.equalIn (d+1) t (.pointer (some x)) (.pointer none)).run P w=.ok false w:=by
 simp[Op.equalIn,aO h]
def Atv (w:World) (d:Nat) (t:TypeId) {e:TypeId} (h:P.underlying t=some (.pointer e)):
  (Op.equalIn (d+1) t (.pointer none) (.pointer none)).run P w=.ok true w:=by
 simp[Op.equalIn,aO h]
theorem op_eq (hY:YOK P Y) (R:Rel Y X nt ds e a w G) {o:Oper} {op:BinOp} {neg:Bool} {t ty:TypeId} {p q:Operand} {x y:T} (ho:o.op=.binOp op t p q ty) (ca:isEq op=some neg)
  (hx:VOK G w X.fz Y e x (a.eval p)) (hy:VOK G w X.fz Y e y (a.eval q)) {r r':List (Nat×Nat)} {out:Out} (h:(Kz (Y t) neg x y).run e.get r=some (out,r')) (hv:∀p∈out.vc,p):
  OpR P Y X nt ds e a w o out:=by
 have wm:op=(bif neg then .neq else .eql):=by grind[isEq]
 subst wm;unfold Kz at h;split at h
 ·split at h
  ·rename_i el hk;obtain rfl:=Bp h;obtain⟨d2,i2,z2,h1,h2,h3,h4,h5,h6,h7,h8⟩:=hY t (by simp[Ty.known,hk]);rw[hk]at h7;simp only[KOK]at h7;subst h7;have e1:=Cl hx;have e2:=Cl hy;refine OpR.pure R (v:=.bool (!neg)) ?_ (VOK.v _ rfl) (λ_ h=>(by cases h));cases neg<;>simp[execOp,ho,e1,e2,eqGuard,binOp,Op.equal,Op.maxDepth,run_equalIn_nil_slice w 9999 t el none 0 0 0 0 h1]
  trivial
 ·rename_i g n f;split at h
  ·rename_i el hk;obtain rfl:=Fa h;have hn:0<n:=hv _ aC;obtain⟨d2,i2,z2,h1,h2,h3,h4,h5,h6,h7,h8⟩:=hY t (by simp[Ty.known,hk]);rw[hk]at h7;simp only[KOK]at h7;subst h7;have i6:Rep G.vis w (.s g n f) (a.eval p):=hx.reld;have e2:=Cl hy;refine OpR.pure R (v:=.bool neg) ?_ (VOK.v _ rfl) (λ_ h=>(by cases h));generalize cf:a.eval p=pv at i6;cases i6 with
   |nil=>omega
   |e=>omega
   |s g n f b off cap sz u uu hc hz cd hu hr=>
    cases neg<;>simp[execOp,ho,cf,e2,eqGuard,binOp,Op.equal,Op.maxDepth,Akp w 9999 t el _ _ _ _ _ h1]
  trivial
 ·rename_i xs zs;obtain⟨hei,h⟩:=Al h;obtain⟨cw,hei⟩:=and_true hei;split at h
  ·rename_i l m hl hm;obtain⟨i9,h⟩:=Al h;obtain⟨hl1,kr⟩:=and_true i9;have hl1:=aG hl1;have kr:=aG kr;obtain rfl:=Bp h;obtain⟨vs,ai,vp⟩:=hx.reld;obtain⟨us,vq,hrm⟩:=hy.reld;have e1:=Afp hl vp;have e2:=Afp hm hrm;have e3:vs=(l.map (Value.int .i64)).toArray:=by grind
   have e4:us=(m.map (Value.int .i64)).toArray:=by grind
   ·obtain⟨d2,i2,z2,h1,h2,h3,h4,h5,h6,h7,h8⟩:=hY t cw;obtain⟨q1,q2⟩:=h8.2.2.1 hei l m hl1 kr w;rw[<-e3,<-e4]at q2;refine OpR.pure R (v:=.bool (bif neg then !eqL l m else eqL l m)) ?_ (VOK.v _ rfl) (λ_ h=>(by cases h));cases neg<;>simp[execOp,ho,ai,vq,eqGuard,q1,binOp,q2]
  trivial
 ·rename_i b1 b2;split at h
  ·rename_i hk;obtain rfl:=Bp h;obtain⟨d2,i2,z2,h1,h2,h3,h4,h5,h6,h7,h8⟩:=hY t (by simp[Ty.known,hk]);rw[hk]at h7;simp only[KOK]at h7;subst h7;have e1:=Cl hx;have e2:=Cl hy;refine OpR.pure R (v:=.bool (bif neg then !(b1==b2) else (b1==b2))) ?_ (VOK.v _ rfl) (λ_ h=>(by cases h));cases neg<;>simp[execOp,ho,e1,e2,eqGuard,binOp,Op.equal,Op.maxDepth,Atr w 9999 t b1 b2 h1]
  trivial
 ·split at h
  ·rename_i hk;obtain rfl:=Bp h;obtain⟨d2,i2,z2,h1,h2,h3,h4,h5,h6,h7,h8⟩:=hY t (by simp[Ty.known,hk]);rw[hk]at h7;simp only[KOK]at h7;obtain⟨fa,fb,fc,rfl⟩:=h7;have e1:=hx.rel;simp only[Aa]at e1;obtain⟨us,vs,e1,_⟩:=e1;have e2:=Cl hy;refine OpR.pure R (v:=.bool neg) ?_ (VOK.v _ rfl) (λ_ h=>(by cases h));cases neg<;>simp[execOp,ho,e1,e2,eqGuard,binOp,Op.equal,Op.maxDepth,Ats w 9999 t _ _ _ h1]
  trivial
 ·split at h
  ·rename_i hk;obtain rfl:=Bp h;obtain⟨d2,i2,z2,h1,h2,h3,h4,h5,h6,h7,h8⟩:=hY t (by simp[Ty.known,hk]);rw[hk]at h7;simp only[KOK]at h7;obtain⟨fa,fb,fc,rfl⟩:=h7;have e1:=Cl hx;have e2:=Cl hy;refine OpR.pure R (v:=.bool (!neg)) ?_ (VOK.v _ rfl) (λ_ h=>(by cases h));cases neg<;>simp[execOp,ho,e1,e2,eqGuard,binOp,Op.equal,Op.maxDepth,Att w 9999 t h1]
  trivial
 ·rename_i id n;split at h
  ·rename_i el hk;obtain rfl:=Fa h;have hn:0<n:=hv _ aC;obtain⟨d2,i2,z2,h1,h2,h3,h4,h5,h6,h7,h8⟩:=hY t (by simp[Ty.known,hk]);rw[hk]at h7;simp only[KOK]at h7;subst h7;have e1:=hx.rel;simp only[Aa]at e1;have e2:=Cl hy;refine OpR.pure R (v:=.bool neg) ?_ (VOK.v _ rfl) (λ_ h=>(by cases h));rcases e1 with ⟨h0,_⟩|⟨cap,e1,_⟩
   ·omega
   ·cases neg<;>simp[execOp,ho,e1,e2,eqGuard,binOp,Op.equal,Op.maxDepth,Akp w 9999 t el _ _ _ _ _ h1]
  trivial
 ·split at h
  ·rename_i hk;obtain rfl:=Bp h;obtain⟨d2,i2,z2,h1,h2,h3,h4,h5,h6,h7,h8⟩:=hY t (by simp[Ty.known,hk]);rw[hk]at h7;simp only[KOK]at h7;obtain⟨pe,rfl⟩:=h7;have e1:=hx.rel;simp only[Aa]at e1;have e2:=Cl hy;refine OpR.pure R (v:=.bool neg) ?_ (VOK.v _ rfl) (λ_ h=>(by cases h));cases neg<;>simp[execOp,ho,e1,e2,eqGuard,binOp,Op.equal,Op.maxDepth,Atu w 9999 t _ h1]
  trivial
 ·split at h
  ·rename_i hk;obtain rfl:=Bp h;obtain⟨d2,i2,z2,h1,h2,h3,h4,h5,h6,h7,h8⟩:=hY t (by simp[Ty.known,hk]);rw[hk]at h7;simp only[KOK]at h7;obtain⟨pe,rfl⟩:=h7;have e1:=Cl hx;have e2:=Cl hy;refine OpR.pure R (v:=.bool (!neg)) ?_ (VOK.v _ rfl) (λ_ h=>(by cases h));cases neg<;>simp[execOp,ho,e1,e2,eqGuard,binOp,Op.equal,Op.maxDepth,Atv w 9999 t h1]
  trivial
 trivial
theorem Atw (hY:YOK P Y) (R:Rel Y X nt ds e a w G) {o:Oper} {op:BinOp} {t ty:TypeId} {p q:Operand} {x y:T} (ho:o.op=.binOp op t p q ty)
  (hx:VOK G w X.fz Y e x (a.eval p)) (hy:VOK G w X.fz Y e y (a.eval q)) {r r':List (Nat×Nat)} {out:Out} (h:(Adn (Y t) op x y).run e.get r=some (out,r')) (hv:∀p∈out.vc,p):
  OpR P Y X nt ds e a w o out:=by
 unfold Adn at h;grind[op_eq,Ass]
end
section
variable {P:Program} {Y:TypeId->Ty} {X:Cx} {nt:Nat} {ds:List Deferred} {e:Env} {a:Act} {w:World} {G:Gh} {O:Nat->Prop}
def Jx {α:Type} {b:Bool} {x:Option α} {y:α} (h:(bif b then x else none)=some y):b=true/\x=some y:=by
 grind
def Afq (vis:Nat->Nat) (w:World):List (Nat×List C)->List (Nat×Value)->Prop
 | [],[]=>True
 |p::ps,q::qs=>p.1=q.1/\Aw vis w p.2 q.2.cells.toList/\Afq vis w ps qs
 |_,_=>False
def Akq (off:Nat) (v:Array Value) (us:Array Value) (h:off+v.size<=us.size):
  (v.zipIdx.foldl (λcs (x:Value×Nat)=>cs.setIfInBounds (off+x.2) x.1) us).toList=us.toList.take off++(v.toList++us.toList.drop (off+v.size)):=by
 obtain⟨g1,g2⟩:=Great.foldl_set off v.toList 0 us;have e:v.zipIdx.foldl (λcs (x:Value×Nat)=>cs.setIfInBounds (off+x.2) x.1) us=(v.toList.zipIdx 0).foldl (λcs (x:Value×Nat)=>cs.setIfInBounds (off+x.2) x.1) us:=by grind[Array.toList_zipIdx]
 rw[e];apply fZ;intro k;rw[bD,g2 k];grind
def Akr {vis:Nat->Nat} {pl pl':Nat->Option (Nat×Nat)} (je:∀i x,pl i=some x->pl' i=some x):∀{ps:List (Nat×List C)} {qs:List (Nat×Value)} {cs az:List C} {us:Array Value},
  Afq vis w ps qs->Aw vis w cs us.toList->Vx pl cs ps=some az->∃lu,Instr.fill pl' us qs=some lu/\Aw vis w az lu.toList:=by
 intro ps
 induction ps with
 |nil=>
  intro qs cs az us hp hr h;cases qs with
  |nil=>
   simp only[Vx,aA]at h;subst h;exact⟨us,rfl,hr⟩
  |cons q qs=>trivial
 |cons p ps ih=>
  intro qs cs az us hp hr h;cases qs with
  |nil=>trivial
  |cons q qs=>
   obtain⟨i,c⟩:=p;obtain⟨j,v⟩:=q;obtain⟨h1,h2,h3⟩:=hp;dsimp only at h1 h2;subst h1;unfold Vx at h;cases hq:pl i with
   |none=>grind
   |some x=>
    obtain⟨off,n⟩:=x;simp only[hq]at h;obtain⟨hb,h⟩:=Jx h;obtain⟨ar,w6⟩:=and_true hb;have ar:=aG ar;have w6:=aH w6;have ai:v.cells.size=n:=by rw[<-ar,h2.1,eM]
    have vq:cs.length=us.size:=by rw[hr.1,eM]
    have dv:=Akq off v.cells us (by omega);have i6:Aw vis w (cs.take off++(c++cs.drop (off+n))) (v.cells.zipIdx.foldl (λcs (x:Value×Nat)=>cs.setIfInBounds (off+x.2) x.1) us).toList:=by
     rw[dv];have hlen1:(cs.take off).length=(us.toList.take off).length:=by grind
     refine⟨by grind,λj c' u hc hu=>?_⟩;rw[fK]at hc hu;rw[hlen1]at hc;split at hc
     ·rename_i hj;rw[bG hj]at hu;rw[fU]at hc hu;split at hc
      ·rename_i ss;rw[bG ss]at hu;exact hr.2 j c' u hc hu
      ·cases hc
     ·rename_i hj;rw[bI hj]at hu;rw[fK]at hc hu;have eu:c.length=v.cells.toList.length:=h2.1;rw[eu]at hc;split at hc
      ·rename_i ss;rw[bG ss]at hu;exact h2.2 _ c' u hc hu
      ·rename_i ss;rw[bI ss]at hu;rw[gV]at hc hu;rw[<-ai]at hc;exact hr.2 _ c' u hc hu
    grind[Instr.fill]
def Atx:∀{ps:List (Nat×Operand)} {xs:List T} {css:List (Nat×List C)},Sv ps xs=some css->VOKs G w X.fz Y e xs (ps.map λp=>a.eval p.2)->
  Afq G.vis w css (ps.map λp=>(p.1,a.eval p.2)):=by
 intro ps
 induction ps with
 |nil=>
  intro xs css h hx;cases xs with
  |nil=>simp only[Sv,aA]at h;subst h;trivial
  |cons x xs=>trivial
 |cons p ps ih=>
  intro xs css h hx;cases xs with
  |nil=>trivial
  |cons x xs=>
   unfold Sv at h;cases hc:x.cells? with
   |none=>grind
   |some cs=>
    cases hr:Sv ps xs with
    |none=>grind
    |some r=>
     simp only[hc,hr,aA]at h;subst h;cases hx with
     |cons h1 h2=>
      obtain⟨g1,g2⟩:=Wv hc h1;refine⟨rfl,Aw.dem ⟨by trivial,λj c u hj hu=>(g2 j c u hj (by grind)).reld⟩,ih hr h2⟩
def VOKs.relTs {xs:List T} {vs:List Value} (h:VOKs G w O Y e xs vs):Ef xs=true->Ac G w O xs vs/\∀id,id∈Bo xs->e.get 2 id≠.any:=by
 induction h with
 |nil=>intro _;exact⟨by trivial,λid h=>(by cases h)⟩
 |cons h1 h2 ih=>
  rename_i x v xs vs;intro ho;simp only[Ef,aE]at ho;obtain⟨g1,g2⟩:=ih ho.2;refine⟨by simp only[Ac];exact⟨v,vs,rfl,h1.rel,g1⟩,λid d6=>?_⟩;simp only[Bo,cP]at d6;rcases d6 with d6|d6
  ·exact h1.ids' (λb y hh=>by grind[T.one]) id d6
  grind
def VOKs.len {xs:List T} {vs:List Value} (h:VOKs G w O Y e xs vs):xs.length=vs.length:=by
 induction h with
 |nil=>rfl
 |cons _ _ ih=>simp[ih]
def VOKs.set {xs:List T} {vs:List Value} (h:VOKs G w O Y e xs vs):∀(i:Nat) {x:T} {v:Value},VOK G w O Y e x v->VOKs G w O Y e (xs.set i x) (vs.set i v):=by
 induction h with
 |nil=>intro i x v _;exact .nil
 |cons h1 h2 ih=>
  intro i x v hx;cases i with
  |zero=>exact .cons hx h2
  |succ i=>exact .cons h1 (ih i hx)
def Aty {xs:List T} (h:Ef xs=true):∀(i:Nat) {x:T},x.one=true->Ef (xs.set i x)=true:=by
 induction xs with
 |nil=>grind
 |cons y xs ih=>
  intro i x hx;simp only[Ef,aE]at h;cases i with
  |zero=>grind[Ef]
  |succ i=>grind[Ef]
def Atz {pl':Nat->Option (Nat×Nat)} (je:∀i,pl' i=some (i,1)):∀{ps:List (Nat×Operand)} {xs l l':List T} {us:Array Value},Vy l ps xs=some l'->VOKs G w X.fz Y e xs (ps.map λp=>a.eval p.2)->Ef xs=true->
  VOKs G w X.fz Y e l us.toList->Ef l=true->∃lu,Instr.fill pl' us (ps.map λp=>(p.1,a.eval p.2))=some lu/\VOKs G w X.fz Y e l' lu.toList/\Ef l'=true:=by
 intro ps
 induction ps with
 |nil=>
  intro xs l l' us h hx ho hl sw;cases xs with
  |nil=>simp only[Vy,aA]at h;subst h;exact⟨us,rfl,hl,sw⟩
  |cons x xs=>trivial
 |cons p ps ih=>
  intro xs l l' us h hx ho hl sw;cases xs with
  |nil=>trivial
  |cons x xs=>
   unfold Vy at h;obtain⟨hlt,h⟩:=Jx h;have hlt:=Bh hlt;simp only[Ef,aE]at ho;cases hx with
   |cons h1 h2=>
    obtain⟨c1,c2⟩:=Ww ho.1 h1;have dv:(us.setIfInBounds p.1 (a.eval p.2)).toList=us.toList.set p.1 (a.eval p.2):=by simp
    obtain⟨lu,f1,f2⟩:=ih (us:=us.setIfInBounds p.1 (a.eval p.2)) h h2 ho.2 (by rw[dv];exact hl.set _ h1) (Aty sw _ ho.1);refine⟨lu,?_,f2⟩;have ua:=hl.len;grind[Instr.fill]
def VOKs.app {xs ys:List T} {vs us:List Value} (h:VOKs G w O Y e xs vs) (g:VOKs G w O Y e ys us):VOKs G w O Y e (xs++ys) (vs++us):=by
 induction h with
 |nil=>exact g
 |cons h1 _ ih=>exact .cons h1 ih
def VOKs.take {xs:List T} {vs:List Value} (h:VOKs G w O Y e xs vs):∀n,VOKs G w O Y e (xs.take n) (vs.take n):=by
 induction h with
 |nil=>intro n;rw[List.take_nil,List.take_nil];exact .nil
 |cons h1 h2 ih=>
  intro n;cases n with
  |zero=>exact .nil
  |succ n=>exact .cons h1 (ih n)
def VOKs.drop {xs:List T} {vs:List Value} (h:VOKs G w O Y e xs vs):∀n,VOKs G w O Y e (xs.drop n) (vs.drop n):=by
 induction h with
 |nil=>intro n;rw[List.drop_nil,List.drop_nil];exact .nil
 |cons h1 h2 ih=>
  intro n;cases n with
  |zero=>exact .cons h1 h2
  |succ n=>exact ih n
theorem Aks:∀{cs:List C} {us:List Value},Aw G.vis w cs us->VOKs G w O Y e (cs.map λc=>T.d (.c c.dem)) us
 | [],us,h=>by
  have h1:=h.1;cases us with
  |nil=>exact .nil
  |cons u us=>simp at h1
 |c::cs,us,h=>by
  have h1:=h.1;cases us with
  |nil=>simp at h1
  |cons u us=>
   refine .cons (VOK.dem (x:=.c c) (h.2 0 c u rfl rfl)) (Aks ⟨by grind,λj c' u' hc hu=>h.2 (j+1) c' u' (by trivial) (by trivial)⟩)
theorem Akt:∀{xs:List T} {us:List Value},xs.length=us.length->(∀(j:Nat) x u,xs[j]?=some x->us[j]?=some u->VOK G w O Y e x.dem u)->VOKs G w O Y e (xs.map T.dem) us
 | [],us,h,_=>by
  cases us with
  |nil=>exact .nil
  |cons u us=>simp at h
 |x::xs,us,h,hh=>by
  cases us with
  |nil=>simp at h
  |cons u us=>exact .cons (hh 0 x u rfl rfl) (Akt (by grind) λj x' u' h1 h2=>hh (j+1) x' u' (by trivial) (by trivial))
def Au0 {x:T} {v:Value} {ts:List T} (hx:VOK G w O Y e x v) (h:Zo x=some ts):VOKs G w O Y e ts v.cells.toList:=by
 unfold Zo at h;split at h
 ·rename_i cs;simp only[aA]at h;subst h;obtain⟨vs,rfl,hr⟩:=hx.reld;have:(Value.agg vs).cells=vs:=rfl;grind[Aks]
 ·grind[Afm,Akt]
 ·obtain⟨ho,h⟩:=Jx h;simp only[aA]at h;subst h;obtain⟨c1,c2⟩:=Ww ho hx;rw[c2];exact .cons hx .nil
def Au1 {pl pl':Nat->Option (Nat×Nat)} (je:∀i x,pl i=some x->pl' i=some x):∀{ps:List (Nat×Operand)} {xs l l':List T} {us:Array Value},Vz pl l ps xs=some l'->VOKs G w X.fz Y e xs (ps.map λp=>a.eval p.2)->
  VOKs G w X.fz Y e l us.toList->∃lu,Instr.fill pl' us (ps.map λp=>(p.1,a.eval p.2))=some lu/\VOKs G w X.fz Y e l' lu.toList:=by
 intro ps
 induction ps with
 |nil=>
  intro xs l l' us h hx hl;cases xs with
  |nil=>simp only[Vz,aA]at h;subst h;exact⟨us,rfl,hl⟩
  |cons x xs=>trivial
 |cons p ps ih=>
  intro xs l l' us h hx hl;cases xs with
  |nil=>trivial
  |cons x xs=>
   unfold Vz at h;cases hx with
   |cons h1 h2=>
    cases hq:pl p.1 with
    |none=>grind
    |some y=>
     obtain⟨off,n⟩:=y;cases hc:Zo x with
     |none=>grind
     |some ts=>
      simp only[hq,hc]at h;obtain⟨hb,h⟩:=Jx h;obtain⟨ar,w6⟩:=and_true hb;have ar:=aG ar;have w6:=aH w6;have hts:=Au0 h1 hc;have ai:(a.eval p.2).cells.size=n:=by rw[<-ar,hts.len,eM]
      have vq:l.length=us.size:=by rw[hl.len,eM]
      have dv:=Akq off (a.eval p.2).cells us (by omega);obtain⟨lu,hf,hr'⟩:=ih (us:=(a.eval p.2).cells.zipIdx.foldl (λcs (x:Value×Nat)=>cs.setIfInBounds (off+x.2) x.1) us) h h2 (by
       rw[dv,ai];exact (hl.take off).app (hts.app (hl.drop (off+n))))
      grind[Instr.fill]
theorem Au2 (hY:YOK P Y) (R:Rel Y X nt ds e a w G) {o:Oper} {t:TypeId} {ps:Array (Nat×Operand)} {xs:List T} (ho:o.op=.build t ps) (hx:VOKs G w X.fz Y e xs (ps.toList.map λp=>a.eval p.2))
  {r r':List (Nat×Nat)} {out:Out} (h:(Ae8 Y (Y t) ps.toList xs).run e.get r=some (out,r')):OpR P Y X nt ds e a w o out:=by
 unfold Ae8 at h;split at h
 ·rename_i css l8 sx;obtain⟨hz,h⟩:=Al h;obtain⟨hz,w9⟩:=and_true hz;split at h
  ·rename_i cs hf;obtain rfl:=Bp h;obtain⟨d2,i2,z2,h1,h2,h3,h4,h5,h6,h7,h8⟩:=hY t (Et l8);have hp:=Atx sx hx;have nf:Aw G.vis w ((Y t).zero.map C.v) z2.cells.toList:=by
    rw[h6];refine⟨by simp,λj c u hc hu=>?_⟩;rw[bQ,hu]at hc;simp only[bO,aA]at hc;subst hc;exact .v u (aS.1 hz u (cG hu))
   have hb:∃us,P.built t (ps.map λ(i,x)=>(i,a.eval x)).toList=some us/\Aw G.vis w cs us.toList:=by
    rw[Array.toList_map];unfold Program.built;cases hk:(Y t).kind with
    |struct fs=>
     rw[hk]at h7;obtain⟨fields,rfl,h9,jk⟩:=h7;have hm:∀(l:List Field),(∀f∈l,∃i,P.info? f.type=some i/\i.size≠0)->∃mj,l.mapM (λf=>(P.info? f.type).map λi=>(f.offset,i.size))=some mj/\
       ∀(j:Nat) f,l[j]?=some f->(Y f.type).known=true->mj[j]?=some (f.offset,(Y f.type).size):=by
      intro l
      induction l with
      |nil=>intro _;exact⟨[],rfl,λj f h=>(by simp at h)⟩
      |cons f l ih=>
       intro hl;obtain⟨i,hi,_⟩:=hl f aC;obtain⟨mj,sq,oh⟩:=ih λf hf=>hl f (aU _ hf);refine⟨(f.offset,i.size)::mj,by grind,λj f' hj ax=>?_⟩;cases j with
       |zero=>
        simp only[bR,aA]at hj;subst hj;obtain⟨_,i',_,_,q2,q3,_⟩:=hY f.type ax;grind
       |succ j=>grind
     obtain⟨mj,sq,oh⟩:=hm fields.toList jk;simp only[h2,h1,h5,sq];refine Akr (pl':=λx=>mj.toArray[x]?) (λi x hi=>?_) hp nf hf;grind[Vw]
    |arr n el=>
     rw[hk]at h7;simp only[KOK]at h7;subst h7;have bf:(Y el).known=true:=by grind[Aji]
     ·obtain⟨_,i',_,_,q2,q3,_⟩:=hY el bf;simp only[h2,h1,h5,q2];refine Akr (λi x hi=>?_) hp nf hf;grind[Vw]
    |_=>simp[Ty.agg,hk]at l8
   obtain⟨us,ar,w6⟩:=hb;refine OpR.pure R (v:=.agg us) ?_ (VOK.agg w6) (λ_ h=>(by cases h));have d7:=iN (P:=P) w t _ us ar;simp[execOp,ho,d7]
  trivial
 ·rename_i l8 hnone;split at h
  ·rename_i n el hk;split at h
   ·rename_i hagE;replace h:=Al h;obtain⟨hz,h⟩:=h;obtain⟨hz,hn⟩:=and_true hz;obtain⟨hz,aj⟩:=and_true hz;have hn:=aG hn;split at h
    ·rename_i l hl;obtain rfl:=Bp h;obtain⟨d2,i2,z2,h1,h2,h3,h4,h5,h6,h7,h8⟩:=hY t (Et l8);rw[hk]at h7;simp only[KOK]at h7;subst h7;obtain⟨_,i',_,_,q2,q3,_,_,_,_,q8⟩:=hY el (Et hagE);have kx:(Y el).size=1:=q8.1 hagE;have nf:VOKs G w X.fz Y e ((Y t).zero.map λv=>.d (.c (.v v))) z2.cells.toList:=by
      rw[h6];have:∀l:List Value,l.all Value.oneCell'=true->VOKs G w X.fz Y e (l.map λv=>T.d (.c (.v v))) l:=by
       intro l
       induction l with
       |nil=>intro _;exact .nil
       |cons v l ih=>intro h;simp only[iE,aE]at h;exact .cons (VOK.v v h.1) (ih h.2)
      exact this _ hz
     have hzo:Ef ((Y t).zero.map λv=>T.d (.c (.v v)))=true:=by
      have:∀l:List Value,Ef (l.map λv=>T.d (.c (.v v)))=true:=by
       intro l
       induction l with
       |nil=>rfl
       |cons v l ih=>trivial
      exact this _
     obtain⟨us,f1,f2,f3⟩:=Atz (pl':=λi=>some (i*i'.size,i'.size)) (λi=>by grind) hl hx aj nf hzo;refine OpR.pure R (v:=.agg us) ?_ ?_ (λ_ h=>(by cases h))
     ·have hb:P.built t (ps.map λ(i,x)=>(i,a.eval x)).toList=some us:=by grind[Array.toList_map,Program.built]
      simp[execOp,ho,iN (P:=P) w t _ us hb]
     ·obtain⟨g1,g2⟩:=f2.relTs f3;exact⟨by grind[Aa],trivial,λid d6=>g2 id (by trivial),λ_ h=>(by cases h)⟩
    trivial
   trivial
  ·rename_i fs hk;obtain⟨hz,h⟩:=Al h;split at h
   ·rename_i l hl;obtain⟨aj,h⟩:=Al h;obtain rfl:=Bp h;obtain⟨d2,i2,z2,h1,h2,h3,h4,h5,h6,h7,h8⟩:=hY t (Et l8);rw[hk]at h7;obtain⟨fields,rfl,h9,jk⟩:=h7;have hm:∀(l:List Field),(∀f∈l,∃i,P.info? f.type=some i/\i.size≠0)->∃mj,l.mapM (λf=>(P.info? f.type).map λi=>(f.offset,i.size))=some mj/\
      ∀(j:Nat) f,l[j]?=some f->(Y f.type).known=true->mj[j]?=some (f.offset,(Y f.type).size):=by
     intro l
     induction l with
     |nil=>intro _;exact⟨[],rfl,λj f h=>(by simp at h)⟩
     |cons f l ih=>
      intro hl;obtain⟨i,hi,_⟩:=hl f aC;obtain⟨mj,sq,oh⟩:=ih λf hf=>hl f (aU _ hf);refine⟨(f.offset,i.size)::mj,by grind,λj f' hj ax=>?_⟩;cases j with
      |zero=>
       simp only[bR,aA]at hj;subst hj;obtain⟨_,i',_,_,q2,q3,_⟩:=hY f.type ax;grind
      |succ j=>grind
    obtain⟨mj,sq,oh⟩:=hm fields.toList jk;have nf:VOKs G w X.fz Y e ((Y t).zero.map λv=>.d (.c (.v v))) z2.cells.toList:=by
     rw[h6];have:∀l:List Value,l.all Value.oneCell'=true->VOKs G w X.fz Y e (l.map λv=>T.d (.c (.v v))) l:=by
      intro l
      induction l with
      |nil=>intro _;exact .nil
      |cons v l ih=>intro h;simp only[iE,aE]at h;exact .cons (VOK.v v h.1) (ih h.2)
     exact this _ hz
    obtain⟨us,f1,f2⟩:=Au1 (pl':=λx=>mj.toArray[x]?) (λi x hi=>by
     grind[Vw]) hl hx nf
    refine OpR.pure R (v:=.agg us) ?_ ?_ (λ_ h=>(by cases h))
    ·have hb:P.built t (ps.map λ(i,x)=>(i,a.eval x)).toList=some us:=by grind[Array.toList_map,Program.built]
     simp[execOp,ho,iN (P:=P) w t _ us hb]
    ·obtain⟨g1,g2⟩:=f2.relTs aj;exact⟨by grind[Aa],trivial,λid d6=>g2 id (by trivial),λ_ h=>(by cases h)⟩
   trivial
  trivial
 trivial
def VOK.rep {n:Nat} {f:Nat->List C} {v:Value} (h:Rep G.vis w (.s .n n f) v):VOK G w O Y e (.d (.c (.s .n n f))) v:=.plain (by trivial) rfl rfl trivial
theorem Au3 {x:T} {v:Value} (hx:x.one=true) (h:Aa G w O x v) (d6:∀id,id∈Aj x->e.get 2 id≠.any):VOK G w O Y e x.dem v:=by
 unfold T.one at hx;split at hx<;>first
  |exact VOK.dem (x:=.c _) (Afc h)
  |exact⟨h,trivial,d6,λ_ h=>(by cases h)⟩
  |cases hx
def Au4:∀{xs:List T} {vs:List Value},Ac G w O xs vs->(∀id,id∈Bo xs->e.get 2 id≠.any)->∀(i:Nat) x,xs[i]?=some x->x.one=true->∃v,vs[i]?=some v/\VOK G w O Y e x.dem v:=by
 intro xs
 induction xs with
 |nil=>grind
 |cons y xs ih=>
  grind[Ac,Bo,List.getElem?_cons_zero,Au3]
theorem Au5 (hY:YOK P Y) (R:Rel Y X nt ds e a w G) {o:Oper} {p q:Operand} {t:TypeId} {x y:T} (ho:o.op=.index t p q) (hx:VOK G w X.fz Y e x (a.eval p)) (hy:VOK G w X.fz Y e y (a.eval q))
  {r r':List (Nat×Nat)} {out:Out} (h:(Ae9 Y (Y t) x y).run e.get r=some (out,r')) (hv:∀p∈out.vc,p):OpR P Y X nt ds e a w o out:=by
 unfold Ae9 at h;split at h
 ·rename_i s k' i hk hi;obtain rfl:=Fa h;obtain⟨h0,hlt⟩:=hv _ aC;obtain⟨d2,i2,z2,h1,h2,h3,h4,h5,h6,h7,h8⟩:=hY t (by simp[Ty.known,hk]);rw[hk]at h7;simp only[KOK]at h7;subst h7;have e1:=Cl hx;have e2:=Ez hi hy;have wl:i.toNat<s.size:=by omega
  have hb:s[i.toNat]?=some s[i.toNat]:=by grind
  refine OpR.pure R (v:=.int .u8 (Zp s i.toNat)) ?_ (VOK.v _ rfl) (λ_ h=>(by cases h));have hd:Zp s i.toNat=(s[i.toNat].toNat:Int):=by
   unfold Zp;have:s.data.toList.getD i.toNat 0=s[i.toNat]:=by
    rw[bU,aQ (by simpa using wl)]
    rfl
   rw[this]
  rw[hd];simp[execOp,ho,e1,e2,Instr.index,asIntOf,aO h1,h0,hb]
 ·rename_i n el cs k' i hk hi;split at h
  ·rename_i l8;obtain⟨hb,h⟩:=Al h;have hb:=aG hb;obtain rfl:=Fa h;obtain⟨h0,hlt⟩:=hv _ aC;obtain⟨d2,i2,z2,h1,h2,h3,h4,h5,h6,h7,h8⟩:=hY t (by simp[Ty.known,hk]);rw[hk]at h7;simp only[KOK]at h7;subst h7;obtain⟨_,i3,_,q1,q2,q3,_,_,_,_,q8⟩:=hY el (Et l8);have kx:(Y el).size=1:=q8.1 l8;obtain⟨vs,ai,hr⟩:=hx.rel;have e2:=Ez hi hy;have wl:i.toNat<cs.length:=by omega
   have hlt2:i.toNat<vs.toList.length:=by rw[<-hr.1];exact wl
   have iv:vs.toList[i.toNat]?=some vs.toList[i.toNat]:=aQ hlt2;have gk:vs[i.toNat]?=some vs.toList[i.toNat]:=by rw[<-bD];exact iv
   have hc:cs[i.toNat]?=some (cs.getD i.toNat default):=by grind
   refine OpR.pure R (v:=vs.toList[i.toNat]) ?_ (VOK.dem (x:=.c _) (hr.2 _ _ _ hc iv)) (λ_ h=>(by cases h));simp[execOp,ho,ai,e2,Instr.index,asIntOf,aO h1,h0,hlt,part,Qy hY l8,Dq hY (Et l8),kx,gk]
  ·rename_i l8;obtain⟨hb,h⟩:=Al h;have hb:=aG hb;obtain rfl:=Fa h;obtain⟨h0,hlt⟩:=hv _ aC;obtain⟨d2,i2,z2,h1,h2,h3,h4,h5,h6,h7,h8⟩:=hY t (by simp[Ty.known,hk]);rw[hk]at h7;simp only[KOK]at h7;subst h7;obtain⟨vs,ai,hl,hr⟩:=hx.reld;have e2:=Ez hi hy;have i7:(i.toNat+1)*(Y el).size<=n*(Y el).size:=aY _ (by omega);rw[dD,Nat.one_mul]at i7;refine OpR.pure R (v:=.agg (vs.extract (i.toNat*(Y el).size) (i.toNat*(Y el).size+(Y el).size))) ?_ (VOK.agg (Aw.dem ⟨?_,λj c v hc hv=>?_⟩)) (λ_ h=>(by cases h))
   ·simp[execOp,ho,ai,e2,Instr.index,asIntOf,aO h1,h0,hlt,part,Qy hY l8,Dq hY (Et l8)]
   ·grind
   grind
  trivial
 ·rename_i n el xs k' i hk hi;split at h
  ·rename_i l8;replace h:=Al h;obtain⟨hb,h⟩:=h;have hb:=aG hb;split at h
   ·rename_i x hxi;replace h:=Al h;obtain⟨aj,h⟩:=h;obtain rfl:=Fa h;obtain⟨h0,hlt⟩:=hv _ aC;obtain⟨d2,i2,z2,h1,h2,h3,h4,h5,h6,h7,h8⟩:=hY t (by simp[Ty.known,hk]);rw[hk]at h7;simp only[KOK]at h7;subst h7;obtain⟨_,i3,_,q1,q2,q3,_,_,_,_,q8⟩:=hY el (Et l8);have kx:(Y el).size=1:=q8.1 l8;have hr:=hx.rel;simp only[Aa]at hr;obtain⟨vs,ai,hr⟩:=hr;have e2:=Ez hi hy;have v8:∀id,id∈Bo xs->e.get 2 id≠.any:=λid d6=>hx.ids id (by trivial);obtain⟨v,iv,hxv⟩:=Au4 hr v8 _ x hxi aj;have gk:vs[i.toNat]?=some v:=by grind
    refine OpR.pure R (v:=v) ?_ hxv (λ_ h=>(by cases h));simp[execOp,ho,ai,e2,Instr.index,asIntOf,aO h1,h0,hlt,part,Qy hY l8,Dq hY (Et l8),kx,gk]
   trivial
  trivial
 trivial
theorem Au6 {x y:T} {v:Value} (hc:capT x=some y) (h:VOK G w O Y e x v):Aa G w O y v/\∀id,id∈Aj y->e.get 2 id≠.any:=by
 unfold capT at hc;split at hc<;>first
  |(simp only[aA]at hc
    subst hc
    first
     |exact⟨by simp only[Aa];exact Av.dem h.reld,λid d6=>(by cases d6)⟩
     |exact⟨h.rel,h.ids⟩)
  |cases hc
def Aku:∀{xs f8:List T} {vs:List Value},Ox xs=some f8->VOKs G w O Y e xs vs->Ac G w O f8 vs/\∀id,id∈Bo f8->e.get 2 id≠.any:=by
 intro xs
 induction xs with
 |nil=>
  intro f8 vs h hx;simp only[Ox,aA]at h;subst h;cases hx;exact⟨by trivial,λid h=>(by cases h)⟩
 |cons x xs ih=>
  intro f8 vs h hx;cases hx with
  |cons h1 h2=>
   grind[Ox,Au6,Ac,Bo]
def Au7 (R:Rel Y X nt ds e a w G) {o:Oper} {f:FuncId} {fst cap:Array Operand} {xs:List T} {as bs:List T} (ho:o.op=.makeFunc (.func f) fst cap) (ha:Ox (xs.take fst.toList.length)=some as) (hb:Ox (xs.drop fst.toList.length)=some bs)
  (hx:VOKs G w X.fz Y e xs ((fst++cap).toList.map a.eval))
  {r r':List (Nat×Nat)} {out:Out} (h:(Az (.fn f as bs)).run e.get r=some (out,r')):OpR P Y X nt ds e a w o out:=by
 obtain rfl:=Bp h;have e1:((fst++cap).toList.map a.eval).take fst.toList.length=(fst.map a.eval).toList:=by simp
 have e2:((fst++cap).toList.map a.eval).drop fst.toList.length=(cap.map a.eval).toList:=by simp
 have h1:=hx.take fst.toList.length;have h2:=hx.drop fst.toList.length;rw[e1]at h1;rw[e2]at h2;obtain⟨g1,g2⟩:=Aku ha h1;obtain⟨g3,g4⟩:=Aku hb h2;refine OpR.pure R (v:=.func (.func f) (fst.map a.eval) (cap.map a.eval)) ?_ ⟨by grind[Aa],trivial,λid d6=>?_,λ_ h=>(by cases h)⟩ (λ_ h=>(by cases h))
 ·simp[execOp,ho,Instr.makeFunc]
 grind[Aj]
def Ki (G:Gh) (w:World) (O:Nat->Prop) (Y:TypeId->Ty) (e:Env) (a:Act):Option T->Option Operand->Prop
 |none,none=>True
 |some x,some q=>VOK G w O Y e x (a.eval q)
 |_,_=>False
def bound_ok {d:Int} {x:Option T} {i:Int} {q:Option Operand} (h:Jq d x=some i) (hx:Ki G w O Y e a x q):
  (x=none/\q=none/\i=d)∨∃q' k,q=some q'/\a.eval q'=.int k i:=by
 cases x with
 |none=>
  cases q with
  |none=>grind[Jq]
  |some q=>trivial
 |some x=>
  cases q with
  |none=>trivial
  |some q=>
   simp only[Jq]at h;cases hi:x.int? with
   |none=>grind
   |some ki=>
    obtain⟨k,n⟩:=ki;rw[hi]at h;simp only[bO,aA]at h;subst h;exact .inr ⟨q,k,rfl,Ez hi hx⟩
def Tq (isS:Bool) {len cap:Nat} (uy:len<=cap) {lo hi:Option T} {l h:Int} {ql qh:Option Operand} (hl:Jq 0 lo=some l) (hh:Jq (len:Int) hi=some h)
  (gn:Ki G w O Y e a lo ql) (qi:Ki G w O Y e a hi qh)
  (h0:0<=l) (h1:l<=h) (h2:h<=len):(Instr.sliceBounds isS len cap (ql.map a.eval) (qh.map a.eval) none).run P w=.ok (l.toNat,h.toNat,cap) w:=by
 have jq:0<=h:=by omega
 have hhc:h<=(cap:Int):=by omega
 have hlh:l<=(h.toNat:Int):=by omega
 rcases bound_ok hh qi with ⟨_,rfl,rfl⟩|⟨q',k,rfl,vg⟩
 ·rcases bound_ok hl gn with ⟨_,rfl,rfl⟩|⟨q'',k',rfl,hq''⟩
  ·trivial
  ·have hlh':l<=(len:Int):=h1;simp[Instr.sliceBounds,Instr.sliceBound,asIntOf,hq'',h0,hlh']
 ·rcases bound_ok hl gn with ⟨_,rfl,rfl⟩|⟨q'',k',rfl,hq''⟩
  ·simp[Instr.sliceBounds,Instr.sliceBound,asIntOf,vg,jq,hhc]
  ·have tm:¬(max h 0<l):=by omega
   simp[Instr.sliceBounds,Instr.sliceBound,asIntOf,vg,hq'',jq,hhc,h0,tm]
theorem Akv (hY:YOK P Y) (R:Rel Y X nt ds e a w G) {o:Oper} {p:Operand} {ql qh:Option Operand} {t:TypeId} {x:T} {lo hi:Option T} (ho:o.op=.slice t p ql qh none) (hx:VOK G w X.fz Y e x (a.eval p))
  (gn:Ki G w X.fz Y e a lo ql) (qi:Ki G w X.fz Y e a hi qh)
  {r r':List (Nat×Nat)} {out:Out} (h:(Sw Y (Y t) x lo hi).run e.get r=some (out,r')) (hv:∀p∈out.vc,p):OpR P Y X nt ds e a w o out:=by
 unfold Sw at h;split at h
 ·rename_i _ s hk;split at h
  ·rename_i l hh hl hhe;obtain rfl:=Fa h;obtain⟨h0,oo,jg⟩:=hv _ aC;obtain⟨d2,i2,z2,h1,h2,h3,h4,h5,h6,h7,h8⟩:=hY t (by simp[Ty.known,hk]);rw[hk]at h7;simp only[KOK]at h7;subst h7;have e1:=Cl hx;refine OpR.pure R (v:=.string (s.extract l.toNat hh.toNat)) ?_ (VOK.v _ rfl) (λ_ h=>(by cases h));have ej:=Tq (P:=P) (w:=w) (G:=G) (Y:=Y) (e:=e) (a:=a) false (aI s.size) hl hhe gn qi h0 oo jg;simp[execOp,ho,e1,Instr.sliceAt,Instr.slice,aO h1,ej]
  trivial
 ·rename_i el n f hk hn;split at h
  ·rename_i l hh hl hhe;obtain⟨hb,h⟩:=Al h;obtain⟨w9,j9⟩:=and_true hb;have j9:=aG j9;obtain rfl:=Fa h;obtain⟨h0,oo,jg⟩:=hv _ aC;obtain⟨d2,i2,z2,h1,h2,h3,h4,h5,h6,h7,h8⟩:=hY t (by simp[Ty.known,hk]);rw[hk]at h7;simp only[KOK]at h7;subst h7;have i6:=Tn hn hx;generalize cf:a.eval p=pv at i6;cases i6 with
   |nil=>
    have mu:l=0:=by omega
    have jq:hh=0:=by omega
    subst mu;subst jq;have ej:=Tq (P:=P) (w:=w) (G:=G) (Y:=Y) (e:=e) (a:=a) true (aI 0) hl hhe gn qi h0 oo jg;refine OpR.pure R (v:=.slice none 0 0) ?_ (.plain (by simp only[Aa];exact Rep.nil _ _) rfl rfl trivial) (λ_ h=>(by cases h));simp[execOp,ho,cf,Instr.sliceAt,Instr.slice,aO h1,ej,Dq hY w9]
   |e g f ba=>
    have mu:l=0:=by omega
    have jq:hh=0:=by omega
    subst mu;subst jq;have ej:=Tq (P:=P) (w:=w) (G:=G) (Y:=Y) (e:=e) (a:=a) true (aI 0) hl hhe gn qi h0 oo jg;refine OpR.pure R (v:=.slice (some ba) 0 0) ?_ (.plain (by simp only[Aa];exact Rep.e _ _ _) rfl rfl trivial) (λ_ h=>(by cases h));simp[execOp,ho,cf,Instr.sliceAt,Instr.slice,aO h1,ej,Dq hY w9]
   |s g n f b off cap sz u uu hc hz cd hu hr=>
    have ej:=Tq (P:=P) (w:=w) (G:=G) (Y:=Y) (e:=e) (a:=a) true uu hl hhe gn qi h0 oo jg;refine OpR.pure R (v:=.slice (some ⟨b,if cap=l.toNat then off else off+l.toNat*(Y el).size,none⟩) (hh.toNat - l.toNat) (cap - l.toNat)) ?_ (VOK.rep ?_) (λ_ h=>(by cases h))
    ·have d7:(Instr.slice t (.slice (some ⟨b,off,none⟩) n cap) (ql.map a.eval) (qh.map a.eval) none).run P w=.ok (.slice (if cap=l.toNat then some ⟨b,off,none⟩ else some ⟨b,off+l.toNat*(Y el).size,none⟩) (hh.toNat - l.toNat) (cap - l.toNat)) w:=by
      simp[Instr.slice,aO h1,ej,Dq hY w9,Ih]
     by_cases eu:cap=l.toNat
     ·rw[bG eu]at d7 ⊢;simp[execOp,ho,cf,Instr.sliceAt,aO h1,d7]
     ·rw[bI eu]at d7 ⊢;simp[execOp,ho,cf,Instr.sliceAt,aO h1,d7]
    ·have ta:(hh - l).toNat=hh.toNat - l.toNat:=by omega
     rw[ta]
     by_cases eu:cap=l.toNat
     ·rw[bG eu];have:hh.toNat - l.toNat=0:=by omega
      rw[this];exact .s _ 0 _ b off _ sz (λ_ _=>undef) (bV _) (by omega) (λi hi=>by omega) (by omega) (λi j c hi=>by omega) (λi j c hi=>by omega)
     ·rw[bI eu]
      by_cases nz:hh.toNat - l.toNat=0
      ·rw[nz];have i7:l.toNat*sz<=n*sz:=aY _ (by omega)
       by_cases hn0:n=0
       ·have:l.toNat=0:=by omega
        rw[this];exact .s _ 0 _ b _ _ sz (λ_ _=>undef) (bV _) (by omega) (λi hi=>by omega) (by omega) (λi j c hi=>by omega) (λi j c hi=>by omega)
       ·have hs:(Y el).size=sz:=by grind
        rw[hs];exact .s _ 0 _ b _ _ sz (λ_ _=>undef) (bV _) (by omega) (λi hi=>by omega) (by omega) (λi j c hi=>by omega) (λi j c hi=>by omega)
      ·have hs:(Y el).size=sz:=by grind
       rw[hs];have i7:(l.toNat+(hh.toNat - l.toNat))*sz<=n*sz:=aY _ (by omega);rw[dD]at i7;refine .s _ _ _ b _ _ sz (λi j=>u (l.toNat+i) j) (by omega) (by omega) (λi hi=>hz _ (by omega)) (by omega) (λi j c hi hj=>?_) (λi j c hi hj=>hr _ j c (by omega) hj);grind
  trivial
 trivial
def Aan (R:Rel Y X nt ds e a w G) {id:Nat}:∀(n:Nat) {k:Nat} {r r':List (Nat×Nat)} {xs:List T},(Ow id n k).run e.get r=some (xs,r')->
  ∃us:List Value,us.length=n/\Ef xs=true/\(∀(j:Nat) u,us[j]?=some u->w.cell? ⟨G.bk id,k+j,none⟩=some u)/\VOKs G w X.fz Y e xs us:=by
 intro n
 induction n with
 |zero=>
  intro k r r' xs h;simp only[Ow,M.run,aA,aD]at h;obtain⟨rfl,_⟩:=h;exact⟨[],rfl,rfl,λj u hj=>(by simp at hj),.nil⟩
 |succ n ih=>
  intro k r r' xs h;simp only[Ow,M.run]at h;obtain⟨aj,h⟩:=Al h;obtain⟨jl,r1,h1,h2⟩:=Ah h;simp only[M.run,aA,aD]at h2;obtain⟨rfl,_⟩:=h2;obtain⟨us,g1,g2,g3,g4⟩:=ih h1;obtain⟨_,_,u,hu,hv⟩:=R.mem.cells id k (λhh=>by rw[hh]at aj;cases aj);refine⟨u::us,by simp[g1],by grind[Ef],λj u' hj=>?_,.cons hv g4⟩;grind
def Au8 (hY:YOK P Y) (R:Rel Y X nt ds e a w G) {o:Oper} {p:Operand} {t:TypeId} {x:T} (ho:o.op=.load t p) (hx:VOK G w X.fz Y e x (a.eval p))
  {r r':List (Nat×Nat)} {out:Out} (h:(Ado (Y t) x).run e.get r=some (out,r')) (hv:∀p∈out.vc,p):OpR P Y X nt ds e a w o out:=by
 unfold Ado at h;split at h
 ·rename_i id k l8;cases hf:allF (Y t) with
  |false=>grind[Aka]
  |true=>
   rw[hf]at h;obtain⟨xs,r1,h1,h2⟩:=Ah h;obtain rfl:=Bp h2;obtain⟨us,g1,g2,g3,g4⟩:=Aan R _ h1;have hp:=hx.rel;simp only[Aa]at hp;obtain⟨k1,k2⟩:=g4.relTs g2;refine OpR.pure R (v:=.agg us.toArray) ?_ ⟨by grind[Aa],trivial,λi5 d6=>k2 i5 (by trivial),λ_ h=>(by cases h)⟩ (λ_ h=>(by cases h));simp[execOp,ho,hp,Instr.loadAt,Instr.sureAddr,Jv hY l8 g1 g3]
 grind[Aka]
def Au9 (Y:TypeId->Ty) (y:Ty) (x:T) (lo hi:Option T):∃o:Option Out,(∀out,o=some out->out.hyp=[]/\out.wr=[])/\∀g r,(Sw Y y x lo hi).run g r=o.map (·,r):=by
 unfold Sw;split
 ·split
  ·exact⟨some _,λout h=>by grind,λ_ _=>rfl⟩
  ·exact⟨none,λ_ h=>(by cases h),λ_ _=>rfl⟩
 ·split
  ·rename_i e n f _ _ _ _ _ _ _ _;cases hb:((Y e).known&&(f 0).length.beq (Y e).size) with
   |true=>exact⟨some _,λout h=>by grind,λ_ _=>rfl⟩
   |false=>exact⟨none,λ_ h=>(by cases h),λ_ _=>rfl⟩
  ·exact⟨none,λ_ h=>(by cases h),λ_ _=>rfl⟩
 ·exact⟨none,λ_ h=>(by cases h),λ_ _=>rfl⟩
theorem Ki.lift {G':Gh} {e':Env} (l:∀x v,VOK G w O Y e x v->VOK G' w O Y e' x v):∀{x:Option T} {q:Option Operand},Ki G w O Y e a x q->Ki G' w O Y e' a x q
 |none,none,_=>trivial
 |some _,some _,h=>l _ _ h
 |none,some _,h=>h.elim
 |some _,none,h=>h.elim
def Aao (hY:YOK P Y) (R:Rel Y X nt ds e a w G) {o:Oper} {p:Operand} {ql qh:Option Operand} {t:TypeId} {x:T} {lo hi:Option T} (ho:o.op=.slice t p ql qh none) (hx:VOK G w X.fz Y e x (a.eval p))
  (gn:Ki G w X.fz Y e a lo ql) (qi:Ki G w X.fz Y e a hi qh)
  {r r':List (Nat×Nat)} {out:Out} (h:(Aea Y (Y t) x lo hi).run e.get r=some (out,r')) (hv:∀p∈out.vc,p):OpR P Y X nt ds e a w o out:=by
 unfold Aea at h;split at h
 ·rename_i id n;obtain⟨⟨c,ps,W⟩,r1,h1,h2⟩:=Ah h;obtain⟨out1,r2,h3,h4⟩:=Ah h2;simp only[M.run,aA,aD]at h4;obtain⟨rfl,_⟩:=h4;obtain⟨hW,hc⟩:=Jw (Y:=Y) (X:=X) (nt:=nt) (ds:=ds) (a:=a) (w:=w) (O:=X.fz) h1;obtain⟨G',R',lift,_⟩:=Lg R hW;have i6:=hc hW (λ_ h=>h) (λq hq=>hv q (aJ _ hq)) R' (lift _ _ hx);obtain⟨o1,ho1,ho2⟩:=Au9 Y (Y t) (.d (.c c)) lo hi;have mv:=h3;rw[ho2]at h3;obtain⟨vr,he,iw⟩:=Option.map_eq_some_iff.1 h3;simp only[aD]at iw;obtain⟨rfl,_⟩:=iw;obtain⟨hh,hw⟩:=ho1 _ he;have hvk:VOK G' w X.fz Y (W++e) (.d (.c c)) (a.eval p):=by
   have aw:∃m f,c=.s .n m f:=by
    simp only[Gw,M.run]at h1;split at h1
    ·grind[M.run]
    ·grind[M.run]
    ·grind[M.run]
    ·trivial
   obtain⟨m,f,rfl⟩:=aw;exact VOK.dem (x:=.c (.s .n m f)) i6
  obtain⟨nx,v,w',G2,q1,q2,q3,q4,q5⟩:=Akv hY R' ho hvk (gn.lift lift) (qi.lift lift) (r:=r1) (r':=r1) (out:=vr) (by grind) (λq hq=>hv q (aM _ hq));rw[hw,cH]at q4 q5;exact⟨nx,v,w',G2,q1,q2,q3,q4,q5⟩
 grind[Akv]
def Aua (Y:TypeId->Ty) (y z:Ty) (x:T):∃o:Option Out,(∀out,o=some out->out.hyp=[]/\out.wr=[])/\∀{g:Nat->Nat->T} (r:List (Nat×Nat)),(Ss Y y z x).run g r=o.map λa=>(a,r):=by
 unfold Ss;split
 ·rename_i e n f _ _ _;cases hb:Vu (Y e).kind with
  |true=>exact⟨some _,λout h=>by grind,λ_=>rfl⟩
  |false=>exact⟨none,λ_ h=>(by cases h),λ_=>rfl⟩
 ·unfold Zm;split
  ·cases hb:y.known with
   |true=>exact⟨some _,λout h=>by grind,λ_=>rfl⟩
   |false=>exact⟨none,λ_ h=>(by cases h),λ_=>rfl⟩
  ·exact⟨none,λ_ h=>(by cases h),λ_=>rfl⟩
theorem Aub (hY:YOK P Y) (R:Rel Y X nt ds e a w G) {o:Oper} {p:Operand} {s t:TypeId} {x:T} (ho:o.op=.convert s t p) (hx:VOK G w X.fz Y e x (a.eval p))
  {r r':List (Nat×Nat)} {out:Out} (h:(Ae7 Y (Y s) (Y t) x).run e.get r=some (out,r')) (hv:∀p∈out.vc,p):OpR P Y X nt ds e a w o out:=by
 unfold Ae7 at h;split at h
 ·rename_i id n;obtain⟨⟨c,ps,W⟩,r1,h1,h2⟩:=Ah h;obtain⟨out1,r2,h3,h4⟩:=Ah h2;simp only[M.run,aA,aD]at h4;obtain⟨rfl,_⟩:=h4;obtain⟨hW,hc⟩:=Jw (Y:=Y) (X:=X) (nt:=nt) (ds:=ds) (a:=a) (w:=w) (O:=X.fz) h1;obtain⟨G',R',lift,_⟩:=Lg R hW;have i6:=hc hW (λ_ h=>h) (λq hq=>hv q (aJ _ hq)) R' (lift _ _ hx);obtain⟨o1,ho1,ho2⟩:=Aua Y (Y s) (Y t) (.d (.c c));have mv:=h3;rw[ho2]at h3;obtain⟨vr,he,iw⟩:=Option.map_eq_some_iff.1 h3;simp only[aD]at iw;obtain⟨rfl,_⟩:=iw;obtain⟨hh,hw⟩:=ho1 _ he;have hvk:VOK G' w X.fz Y (W++e) (.d (.c c)) (a.eval p):=by
   have aw:∃m f,c=.s .n m f:=by
    simp only[Gw,M.run]at h1;split at h1
    ·grind[M.run]
    ·grind[M.run]
    ·grind[M.run]
    ·trivial
   obtain⟨m,f,rfl⟩:=aw;exact VOK.dem (x:=.c (.s .n m f)) i6
  obtain⟨nx,v,w',G2,q1,q2,q3,q4,q5⟩:=Ako hY R' ho hvk (r:=r1) (r':=r1) (out:=vr) (by grind) (λq hq=>hv q (aM _ hq));rw[hw,cH]at q4 q5;exact⟨nx,v,w',G2,q1,q2,q3,q4,q5⟩
 grind[Ako]
end
end Go.Vc
