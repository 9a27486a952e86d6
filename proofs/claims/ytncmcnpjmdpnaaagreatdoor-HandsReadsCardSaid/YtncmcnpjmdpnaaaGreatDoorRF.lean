/- A part of the proofs over layer 2 (hands): the program and the specification; no condition. -/
import Derived.Test.YtncmcnpjmdpnaaaGreatDoorRE
set_option linter.all false
set_option linter.unusedSimpArgs false
set_option linter.unusedVariables false
namespace Go.Vc.Hn
open Go Go.Proofs Go.Vc Go.RowKit
set_option maxRecDepth 100000
set_option maxHeartbeats 4000000
theorem Al3 {Gl:World->Prop} {f:FuncId} {xs:List T} {x:T} {r:Res} (h:CO Gl f xs (.ret x)) (hl:Oh (Sq (.ret x) r)):CO Gl f xs r:=
 ⟨h.1,fun vis w vs hv hg ha=>(h.2 vis w vs hv hg ha).mono fun en w' ⟨hB,v,vis',e1,e2,e3,e4⟩=>by
  obtain ⟨y,rfl,hy⟩:=Ab0 (Kv hl) e4
  exact ⟨hB,v,vis',e1,e2,e3,hy⟩⟩
def Cw (s:List UInt8) (k:Nat):List UInt8:=nth (Ac 10 s) k
def nsB (r:List UInt8):List Int:=bif okR r then nsR r else []
def Gr (r:List UInt8):Bool:=okR r&&Hs (nsR r) (nsR r).length
def tlT (r:List UInt8):T:=.d (.c (.s .n (Int.toNat (((Ac 32 r).length:Int) - 1)) fun i=>eS (nth (Ac 32 r) (Int.toNat 1+i))))
theorem Al4 (r:List UInt8):Oh (De [tlT r,I 3] [L eS (tl r),I 3]):=⟨Ii r,rfl⟩
theorem Al5 {r:List UInt8} (hr:r.length<=1000):(tl r).length<=1000000/\∀ w∈tl r,w.length<=1000000:=by
 have h1:=Ef (r:=r)
 have h2:=Bv 32 r
 refine ⟨by omega,fun w hw=>?_⟩
 have:=Rn 32 r w (List.mem_of_mem_drop hw)
 omega
section
variable {Gl} (S:SP Gl) (r:List UInt8) (hr:r.length<=1000)
include S hr
theorem Awk:CO Gl 115 [tlT r,I 3] (.ret (.tup [.c (.l eI (nsB r)),.c (Cb (okR r))])):=by
 obtain ⟨h1,h2⟩:=Al5 hr
 refine Computes.args ?_ (Al4 r)
 unfold nsB
 cases h:okR r with
 |true=>exact Ak1 S (tl r) h1 h2 h
 |false=>exact Al3 (Ak2 S (tl r) h1 h2 h) ⟨rfl,rfl⟩
theorem Awl:CO Gl 114 [tlT r,I 3] (.ret (.tup [.c (.l eI (nsB r)),.c (Cb (Gr r))])):=by
 obtain ⟨h1,h2⟩:=Al5 hr
 refine Computes.args ?_ (Al4 r)
 unfold nsB Gr
 cases h:okR r with
 |true=>exact Aux S (tl r) h1 h2 h
 |false=>exact Al3 (Auy S (tl r) h1 h2 h) ⟨rfl,rfl⟩
end
def e0 (s:List UInt8):List Int:=nsB (Cw s 0)
def n9 (s:List UInt8) (k:Nat):List Int:=nsB (Cw s (k+1))
def Gt (s:List UInt8) (k:Nat):Bool:=okR (Cw s (k+1))&&(n9 s k).length==(e0 s).length
def nRw (s:List UInt8):Nat:=(Ac 10 s).length - 3
def gU (s:List UInt8):Nat:=Bk (Gt s) (List.range (nRw s))
def Fm (s:List UInt8) (k h:Nat):List Int:=(List.range k).map fun i=>nth (n9 s i) h
def Ja (s:List UInt8) (k:Nat):Nat->Nat×(Nat->List C):=fun h=>((Fm s k h).length,fun i=>eI (nth (Fm s k h) i))
def Jb (s:List UInt8) (k j:Nat):Nat->Nat×(Nat->List C):=fun h=>((Fm s (bif Nat.blt h j then k+1 else k) h).length,fun i=>eI (nth (Fm s (bif Nat.blt h j then k+1 else k) h) i))
def shX (s:List UInt8) (k:Nat):Sheet:=⟨(List.range (e0 s).length).map (Fm s k),e0 s⟩
def okF (s:List UInt8):Bool:=Gr (Cw s 0)&&(decide (1<=((e0 s).length:Int))&&(decide (gU s=nRw s)&&(Ek (shX s (nRw s))==s)))
def envK (s:List UInt8) (k:Nat):Env:=v 8 (I ((k:Int)+1))::v 4 (L eS (Ac 10 s))::v 5 (L eI (e0 s))::v 7 (ad 7)::(2,7,live)::(10,0,.arr 34 (e0 s).length)::(10,1,L eI (e0 s))::v 0 (str s)::v 2 (ad 2)::bx 2 [Bw,Bw]
theorem Ad7 (s:List UInt8) (k:Nat):(Cw s k).length<=s.length:=by
 unfold Cw
 rcases Nat.lt_or_ge k (Ac 10 s).length with h|h
 ·exact Rn 10 s _ (Bm h)
 ·have:nth (Ac 10 s) k=[]:=by unfold nth;rw [List.getD_eq_getElem?_getD,List.getElem?_eq_none h];rfl
  rw [this]
  exact Nat.zero_le _
theorem Al6 (r:List UInt8):(nsB r).length<=r.length:=by
 unfold nsB
 cases okR r with
 |true=>exact Me r
 |false=>exact Nat.zero_le _
theorem Al7 (r:List UInt8):∀ n∈nsB r,si n:=by
 unfold nsB
 cases okR r with
 |false=>intro n hn;cases hn
 |true=>
  intro n hn
  obtain ⟨w,_,rfl⟩:=List.mem_map.1 hn
  exact Ad0 w
theorem Al8 (r:List UInt8):(Aw (nsB r)).length<=r.length:=by
 unfold nsB
 cases h:okR r with
 |true=>exact Aku h
 |false=>exact Nat.zero_le _
theorem Uz (s:List UInt8) (k h:Nat):(Fm s k h).length=k:=by unfold Fm;rw [List.length_map,List.length_range]
theorem Awm (s:List UInt8) (k h:Nat):Fm s (k+1) h=Fm s k h++[nth (n9 s k) h]:=by
 unfold Fm
 rw [List.range_succ,List.map_append]
 rfl
theorem Al9 {s:List UInt8} {k h i:Nat} (hi:i<k):nth (Fm s k h) i=nth (n9 s i) h:=by
 unfold Fm
 rw [Cp (by rw [List.length_range];exact hi),Cd hi]
theorem Awn (s:List UInt8) (k j n:Nat):OEq n (Eo (Jb s k j) j ((Fm s k j).length+1,Av (Fm s k j).length (fun i=>eI (nth (Fm s k j) i)) fun i=>[List.map C.dem [C.v (Value.int IntKind.i64 (nth (n9 s k) j))]].getD i [])) n (Jb s k (j+1)):=by
 refine ⟨rfl,fun h _=>?_⟩
 by_cases hj:h=j
 ·subst hj
  unfold Eo Jb
  rw [show Nat.beq h h=true from Nat.beq_refl h,cond_true,Gg (Nat.lt_succ_self h),cond_true,Awm]
  refine ⟨by rw [List.length_append];rfl,fun i hi=>Al1 hi⟩
 ·have hb:Nat.beq h j=false:=by
   cases hb:Nat.beq h j with
   |false=>rfl
   |true=>exact absurd (Nat.eq_of_beq_eq_true hb) hj
  have hbl:Nat.blt h (j+1)=Nat.blt h j:=by
   by_cases h2:h<j
   ·rw [Gg h2,Gg (by omega)]
   ·rw [Fc h2,Fc (by omega)]
  unfold Eo Jb
  rw [hb,cond_false,hbl]
  exact ⟨rfl,fun _ _=>rfl⟩
theorem Awo (s:List UInt8) (k n:Nat):OEq n (Ja s k) n (Jb s k 0):=by
 refine ⟨rfl,fun h _=>?_⟩
 unfold Ja Jb
 rw [Fc (Nat.not_lt_zero h),cond_false]
 exact ⟨rfl,fun _ _=>rfl⟩
theorem Awp (s:List UInt8) (k n:Nat):OEq n (Jb s k n) n (Ja s (k+1)):=by
 refine ⟨rfl,fun h hh=>?_⟩
 unfold Ja Jb
 rw [Gg hh,cond_true]
 exact ⟨rfl,fun _ _=>rfl⟩
theorem Ala {s:List UInt8} (hs:s.length<=250) {k:Nat} (hk:k<=gU s) (h0:1<=(e0 s).length):(shX s k).low/\rows (shX s k)=k:=by
 have hg:∀ i,i<k->(n9 s i).length=(e0 s).length:=fun i hi=>by
  have h1:i<(List.range (nRw s)).length:=by have:=Jz (p:=Gt s) (l:=List.range (nRw s));unfold gU at hk;omega
  have h2:=Kx (p:=Gt s) (l:=List.range (nRw s)) (i:=i) (by unfold gU at hk;omega)
  rw [Cd (by rw [List.length_range] at h1;exact h1)] at h2
  unfold Gt at h2
  rw [Bool.and_eq_true,beq_iff_eq] at h2
  exact h2.2
 have hsp:=Bv 10 s
 have hkn:k<=nRw s:=by have:=Jz (p:=Gt s) (l:=List.range (nRw s));rw [List.length_range] at this;unfold gU at hk;omega
 have hk2:k<=250:=by unfold nRw at hkn;omega
 have hcl:(shX s k).cols.length=(e0 s).length:=by unfold shX;rw [List.length_map,List.length_range]
 have hcol:∀ j,j<(e0 s).length->nth (shX s k).cols j=Fm s k j:=fun j hj=>by
  unfold shX
  rw [Cp (by rw [List.length_range];exact hj),Cd hj]
 have hr:rows (shX s k)=k:=by
  show (nth (shX s k).cols 0).length=k
  rw [hcol 0 (by omega),Uz]
 have he:=Al6 (Cw s 0)
 have hl0:=Ad7 s 0
 have hnum:∀ i,i<k->Am (shX s k) i=n9 s i:=fun i hi=>by
  refine List.ext_getElem (by unfold Am;rw [List.length_map,hcl,hg i hi]) fun j h1 h2=>?_
  have hj:j<(e0 s).length:=by rw [<-hg i hi];exact h2
  rw [<-Ed h1,<-Ed h2,Uv (by rw [hcl];exact hj),hcol j hj,Al9 hi]
 refine ⟨⟨by rw [hcl];unfold e0;omega,by omega,by show (e0 s).length<=300;unfold e0;omega,fun i hi=>?_,Al7 _,fun r hr'=>?_,?_,fun r hr'=>?_⟩,hr⟩
 ·rw [hcl] at hi
  rw [hr,hcol i hi,Uz]
 ·rw [hr] at hr'
  rw [hnum r hr']
  exact Al7 _
 ·show (Dh++Aw (e0 s)).length<=300
  have:=Al8 (Cw s 0)
  have h5:Dh.length=5:=rfl
  rw [List.length_append]
  unfold e0
  omega
 ·rw [hr] at hr'
  show (Cv++Aw (Am (shX s k) r)).length<=300
  rw [hnum r hr',List.length_append]
  have:=Al8 (Cw s (r+1))
  have h2:=Ad7 s (r+1)
  have h5:Cv.length=3:=rfl
  unfold n9
  omega
theorem Awq {Gl} (S:SP Gl) (s:List UInt8) (k:Nat) (h:(shX s k).low):CO Gl 67 [.d (.agg [.s .n (e0 s).length (Jn (Ja s k)),.l eI (e0 s)])] (.ret (str (Ek (shX s k)))):=by
 refine (Ak4 S (shX s k) h).args ⟨.of ⟨by unfold shX;rw [List.length_map,List.length_range],fun j hj=>?_⟩,(Nb _ _).2 trivial⟩
 show Jn (Ja s k) j=Ah (nth ((List.range (e0 s).length).map (Fm s k)) j)
 rw [Cp (by rw [List.length_range];exact hj),Cd hj]
 rfl
theorem Awr {Gl} (S:SP Gl) (s:List UInt8) (hs:s.length<=250):CO Gl 69 [str s] (.ret (.tup [.agg (Bh (bif okF s then shX s (nRw s) else ⟨[],[]⟩)),.c (Cb (okF s))])):=by
 refine Au S (let A0:=(nth (Ac (10:UInt8) s) (Int.toNat (0:Int)));let A1:=fun (k0:Nat)=>(nth (Ac (10:UInt8) s) (Int.toNat ((k0:Int)+1)));let A2:=(bif okF s then shX s (nRw s) else Sheet.mk [] []);let A3:=fun (k0 k1:Nat)=>(Fm s (bif Nat.blt k1 k1 then k0+(1:Nat) else k0) k1);let A4:=(List.length (e0 s));let A5:=fun (k0:Nat)=>(eqB (!okR (A1 k0)) false=true->eqB (!okR (A1 k0)) false=true);let A6:=(Ac (10:UInt8) s);let A7:=(bif !Gr A0 then true else decide ((↑(List.length (nsB (nth (Ac (10:UInt8) s) (Int.toNat (0:Int))))):Int)<1));let A8:=(↑(List.length (Ac (32:UInt8) A0)):Int);let A9:=fun (k0:Nat)=>(bif !okR (A1 k0) then true else (↑(List.length (nsB (A1 k0))):Int) != (List.length (e0 s):Int));let A10:=fun (k0:Nat)=>(↑(List.length (Ac (32:UInt8) (A1 k0))):Int);let A11:=(D.c (C.v (Value.int IntKind.u8 (↑(UInt8.toNat (32:UInt8)):Int))));let A12:=(List.length (nsB A0));let A13:=(eqB (!Gr A0) false=true->eqB (!Gr A0) false=true);let A14:=(sR eI (e0 s));let A15:=fun (k0:Nat)=>(!ByteArray.toList (bs (Ek (shX s k0)))==ByteArray.toList (bs s));let A16:=(↑(List.length A6):Int);((.r (.ret (L eS A6)) (.r (.ret (L eS (Ac (32:UInt8) A0))) (.r (.ret (.tup [D.c (C.l eI (nsB A0)),D.c (Cb (Gr A0))])) (.br .nil (.arrA (nat_lit 34) (.loop (gU s) (fun k=>((2:Nat),(34:Nat),T.arro (3:Nat) (1:Nat) A4 (Ja s k) none)::envK s k) fun k0=>.br (.r (.ret (L eS (Ac (32:UInt8) (A1 k0)))) (.r (.ret (.tup [D.c (C.l eI (nsB (A1 k0))),D.c (Cb (okR (A1 k0)))])) (.br .nil (.loop (List.length (n9 s k0)) (fun j=>v 11 (I j)::v 9 (L eI (n9 s k0))::((2:Nat),(34:Nat),T.arro (3:Nat) (1:Nat) A4 (Jb s k0 j) none)::envK s k0) fun k1=>.br (.arrA (nat_lit 76) .nil) .nil)))) (.r (.ret (str (Ek (shX s k0)))) (.br .nil .nil)))))))),(CO Gl 113 [str s,T.d (D.c (C.v (Value.int IntKind.u8 (↑(UInt8.toNat (10:UInt8)):Int))))] (.ret (L eS A6))/\((0:Int)<=0/\0<A16)/\CO Gl 113 [str A0,T.d A11] (.ret (L eS (Ac (32:UInt8) A0)))/\((0:Int)<=1/\1<=A8/\A8<=A8)/\CO Gl 114 [tlT A0,I 3] (.ret (.tup [D.c (C.l eI (nsB A0)),D.c (Cb (Gr A0))]))/\A13/\((eqB (!Gr A0) false=true->List.length (nsB A0)<=maxLen)->A13/\((!Gr A0)=false->eqB (!Gr A0) false=true)/\(A7=true->List.length A2.1=(0:Nat)/\List.length A2.2=(0:Nat)/\false=okF s)/\(A7=false->List.length (nsB A0)<=maxLen->(↑A12:Int)=(↑A12:Int)/\0<=(↑A12:Int)/\List.length (nsB A0)*24<=140737488355328/\List.length (nsB A0)<=(140737488355328:Nat)/\(OEq A12 (fun x=>((0:Nat),fun x=>[])) A4 (Ja s (0:Nat))/\1=(↑(0:Nat):Int)+1/\(sR eS A6)/\(sQ eI (nsB A0) (e0 s))/\List.length (nsB A0)=List.length (e0 s)/\(sQ eI (nsB A0) (e0 s))/\bs s=bs s/\Value.slice none 0 0=Value.slice none 0 0/\Value.slice none 0 0=Value.slice none 0 0)/\∀ (k0:Nat),k0<=gU s->List.length A6<=maxLen->iR (A16-2)/\(decide ((k0:Int)+1<(↑(List.length (Ac (10:UInt8) s)):Int)-2)=true->(0<=(k0:Int)+1/\(k0:Int)+1<A16)/\CO Gl 113 [str (A1 k0),T.d A11] (.ret (L eS (Ac (32:UInt8) (A1 k0))))/\((0:Int)<=1/\1<=(A10 k0)/\(A10 k0)<=(A10 k0))/\CO Gl 115 [tlT (A1 k0),I 3] (.ret (.tup [D.c (C.l eI (nsB (A1 k0))),D.c (Cb (okR (A1 k0)))]))/\(A5 k0)/\((eqB (!okR (A1 k0)) false=true->List.length (nsB (A1 k0))<=maxLen)->(A5 k0)/\((eqB (!okR (A1 k0)) false=true->List.length (e0 s)<=maxLen)->(A5 k0)/\(A5 k0)/\((!okR (A1 k0))=false->eqB (!okR (A1 k0)) false=true)/\((A9 k0)=true->List.length A2.1=(0:Nat)/\List.length A2.2=(0:Nat)/\false=okF s)/\((A9 k0)=false->(0=(↑(0:Nat):Int)/\(sQ eI (nsB (A1 k0)) (n9 s k0))/\OEq A4 (Ja s k0) A4 (Jb s k0 (0:Nat))/\(k0:Int)+1=(k0:Int)+1/\(sR eS A6)/\A14/\List.length (e0 s)=List.length (e0 s)/\A14/\bs s=bs s/\Value.slice none 0 0=Value.slice none 0 0/\Value.slice none 0 0=Value.slice none 0 0)/\∀ (k1:Nat),k1<=List.length (n9 s k0)->List.length (n9 s k0)<=maxLen->(decide ((k1:Int)<(List.length (n9 s k0):Int))=true->(0<=(k1:Int)/\(k1:Int)<(List.length (e0 s):Int))/\k1<List.length (e0 s)/\(0<=(k1:Int)/\(k1:Int)<(List.length (n9 s k0):Int))/\(List.length (A3 k0 k1)+1)*8<=140737488355328/\List.length (A3 k0 k1)+1<=140737488355328/\(0<=(k1:Int)/\(k1:Int)<(List.length (e0 s):Int))/\k1=k1/\k1<List.length (e0 s)/\iR ((k1:Int)+1)/\k1<List.length (n9 s k0)/\(k1:Int)+1=(↑(k1+1):Int)/\(sR eI (n9 s k0))/\OEq A4 (Eo (Jb s k0 k1) k1 (List.length (A3 k0 k1)+(1:Nat),Av (List.length (A3 k0 k1)) (fun i=>eI (nth (A3 k0 k1) i)) fun i=>List.getD [List.map C.dem [C.v (Value.int IntKind.i64 (nth (n9 s k0) k1))]] i [])) A4 (Jb s k0 (k1+1))/\(k0:Int)+1=(k0:Int)+1/\(sR eS A6)/\A14/\List.length (e0 s)=List.length (e0 s)/\A14/\bs s=bs s/\Value.slice none 0 0=Value.slice none 0 0/\Value.slice none 0 0=Value.slice none 0 0)/\(decide ((k1:Int)<(List.length (n9 s k0):Int))=false->iR ((k0:Int)+1+(1:Int))/\k0<gU s/\OEq A4 (Jb s k0 k1) A4 (Ja s (k0+1))/\(k0:Int)+1+1=(↑(k0+1):Int)+1/\(sR eS A6)/\A14/\List.length (e0 s)=List.length (e0 s)/\A14/\bs s=bs s/\Value.slice none 0 0=Value.slice none 0 0/\Value.slice none 0 0=Value.slice none 0 0)))))/\(decide ((k0:Int)+1<(↑(List.length (Ac (10:UInt8) s)):Int)-2)=false->List.length (e0 s)=List.length (e0 s)/\CO Gl 67 [T.d (D.agg [C.s Tag.n A4 (Jn (Ja s k0)),C.l eI (e0 s)])] (.ret (str (Ek (shX s k0))))/\((A15 k0)=true->List.length A2.1=(0:Nat)/\List.length A2.2=(0:Nat)/\false=okF s)/\((A15 k0)=false->List.length (e0 s)=List.length (e0 s)/\(SEq A4 (Jn (Ja s k0)) (List.length A2.1) fun i=>Ah (nth A2.1 i))/\(sQ eI (e0 s) (A2.2))/\true=okF s))))))) Tryz.func69 (by kernel_rfl) (by kernel_rfl) ?_
 dsimp only
 have hsp:=Bv 10 s
 have hl:∀ k,(Cw s k).length<=250:=fun k=>by have:=Ad7 s k;omega
 have hn:∀ k,(nsB (Cw s k)).length<=250:=fun k=>by have:=Al6 (Cw s k);have:=hl k;omega
 have h00:nth (Ac 10 s) (Int.toNat 0)=Cw s 0:=rfl
 have ht:∀ k:Nat,nth (Ac 10 s) ((k:Int)+1).toNat=Cw s (k+1):=fun k=>by
  have:((k:Int)+1).toNat=k+1:=by omega
  rw [this];rfl
 have hgu:gU s<=nRw s:=by have:=Jz (p:=Gt s) (l:=List.range (nRw s));rw [List.length_range] at this;exact this
 have hgood:∀ k,k<=gU s->k<nRw s->Gt s k=true->k<gU s:=fun k h1 h2 h3=>Jf h1 (by rw [List.length_range];exact h2) (by rw [Cd h2];exact h3)
 have hbefore:∀ k,k<gU s->Gt s k=true:=fun k hk=>by
  have:=Kx (p:=Gt s) (l:=List.range (nRw s)) hk
  rw [Cd (by omega)] at this
  exact this
 have e0d:nsB (Cw s 0)=e0 s:=rfl
 have n9d:∀ k,nsB (Cw s (k+1))=n9 s k:=fun _=>rfl
 have hn0:=hn 0
 rw [e0d] at hn0
 simp only [stdS,imp_self,implies_true,and_true,Ob,h00,ht,e0d,n9d]
 refine ⟨Acp S s 10 (by omega),⟨by omega,by omega⟩,Acp S _ 32 (by have:=hl 0;omega),⟨by decide,by have:=Bv 32 (Cw s 0);omega,by omega⟩,Awl S _ (by have:=hl 0;omega),fun _=>⟨fun hb=>?_,fun hb _=>⟨by omega,by omega,by omega,?_,fun k0 hk0 hmx=>⟨(Ad _).2 (by omega),fun hd=>?_,fun hd=>?_⟩⟩⟩⟩
 ·have hf:okF s=false:=by
   unfold okF
   cases h1:Gr (Cw s 0) with
   |false=>rfl
   |true=>
    rw [h1,Bool.not_true,Bool.false_or] at hb
    have hb:=of_decide_eq_true hb
    rw [decide_eq_false (show ¬ 1<=((e0 s).length:Int) by omega)]
    rfl
  rw [hf]
  exact ⟨rfl,rfl,rfl⟩
 ·exact ⟨⟨rfl,fun h _=>⟨rfl,fun i hi=>absurd hi (Nat.not_lt_zero _)⟩⟩,by omega,trivial⟩
 all_goals
  have hp:Gr (Cw s 0)=true:=by
   cases h1:Gr (Cw s 0) with
   |true=>rfl
   |false=>rw [h1] at hb;simp at hb
  have h1l:1<=(e0 s).length:=by
   rw [hp,Bool.not_true,Bool.false_or] at hb
   have:=of_decide_eq_false hb
   omega
 ·have hd':=of_decide_eq_true hd
  have hlt:k0<nRw s:=by unfold nRw;omega
  have hlk:=hl (k0+1)
  have hnk:=hn (k0+1)
  rw [n9d] at hnk
  refine ⟨⟨by omega,by omega⟩,Acp S _ 32 (by omega),⟨by decide,by have:=Bv 32 (Cw s (k0+1));omega,by omega⟩,Awk S _ (by omega),fun _ _=>⟨fun hb2=>?_,fun hb2=>⟨⟨Awo s _ _,trivial⟩,fun k1 hk1 _=>⟨fun hd1=>?_,fun hd1=>?_⟩⟩⟩⟩
  ·have hng:Gt s k0=false:=by
    unfold Gt
    cases h1:okR (Cw s (k0+1)) with
    |false=>rfl
    |true=>
     rw [h1,Bool.not_true,Bool.false_or] at hb2
     have hb2:=bne_iff_ne.1 hb2
     rw [beq_eq_false_iff_ne.2 (show (n9 s k0).length≠(e0 s).length by omega)]
     rfl
   have hf:okF s=false:=by
    have hne:gU s≠nRw s:=fun h=>by
     have:=hbefore k0 (by omega)
     rw [hng] at this;cases this
    unfold okF
    rw [decide_eq_false hne]
    simp
   rw [hf]
   exact ⟨rfl,rfl,rfl⟩
  all_goals
   have hgl:okR (Cw s (k0+1))=true/\(n9 s k0).length=(e0 s).length:=by
    cases h1:okR (Cw s (k0+1)) with
    |false=>rw [h1] at hb2;simp at hb2
    |true=>
     rw [h1,Bool.not_true,Bool.false_or] at hb2
     have hb2:=bne_eq_false_iff_eq.1 hb2
     exact ⟨rfl,by omega⟩
  ·have h5:k1<(n9 s k0).length:=by have:=of_decide_eq_true hd1;omega
   have hbb:Nat.blt k1 k1=false:=Fc (Nat.lt_irrefl k1)
   have hcl:=Uz s k0 k1
   simp only [hbb,cond_false]
   have hkb:k0<=250:=by unfold nRw at hlt;omega
   exact ⟨⟨by omega,by omega⟩,by omega,⟨by omega,by omega⟩,by omega,by omega,⟨by omega,by omega⟩,by omega,(Ad _).2 (by omega),h5,by omega,Awn s k0 k1 _,trivial⟩
  ·have h5:k1=(e0 s).length:=by have:=of_decide_eq_false hd1;omega
   subst h5
   refine ⟨(Ad _).2 (by omega),hgood k0 hk0 hlt ?_,Awp s k0 _,by omega,trivial⟩
   unfold Gt
   rw [hgl.1,hgl.2,beq_self_eq_true]
   rfl
 ·have hd':=of_decide_eq_false hd
  have hke:k0=nRw s/\gU s=nRw s:=by unfold nRw at *;omega
  obtain ⟨hke,hge⟩:=hke
  have hfv:okF s=(Ek (shX s k0)==s):=by
   unfold okF
   rw [hp,decide_eq_true (show 1<=((e0 s).length:Int) by omega),decide_eq_true hge,<-hke]
   rfl
  obtain ⟨hlow,_⟩:=Ala hs (k:=k0) hk0 h1l
  refine ⟨Awq S s k0 hlow,fun hq=>?_,fun hq=>?_⟩
  ·have hf:okF s=false:=by
    rw [hfv,Bool.eq_false_iff]
    intro h
    rw [eq_of_beq h,beq_self_eq_true] at hq
    cases hq
   rw [hf]
   exact ⟨rfl,rfl,rfl⟩
  ·have hf:okF s=true:=by
    rw [hfv,beq_iff_eq]
    have h:=eq_of_beq hq
    rw [Id,Id] at h
    exact h
   rw [hf,cond_true,<-hke]
   refine ⟨.of ⟨by unfold shX;rw [List.length_map,List.length_range],fun j hj=>?_⟩,(Nb _ _).2 trivial,rfl⟩
   show Jn (Ja s k0) j=Ah (nth ((List.range (e0 s).length).map (Fm s k0)) j)
   rw [Cp (by rw [List.length_range];exact hj),Cd hj]
   rfl
def Cc (r:List UInt8):Nat:=Bk okS (tl r)
def Ij (s:List UInt8):Nat:=Bk (fun n:Int=>decide (0<=n)) (l0T s)
theorem Alb {r:List UInt8} (h:okR r=false):Cc r<(tl r).length/\okS (nth (tl r) (Cc r))=false:=by
 have hlt:Cc r<(tl r).length:=by
  rcases Nat.lt_or_ge (Cc r) (tl r).length with hh|hh
  ·exact hh
  ·have:(tl r).all okS=true:=Im hh
   unfold okR at h
   rw [this] at h;cases h
 exact ⟨hlt,Nf hlt⟩
theorem Aws {r:List UInt8} (h:okR r=true):Cc r=(tl r).length:=by
 have h1:=Jz (p:=okS) (l:=tl r)
 rcases Nat.lt_or_ge (Cc r) (tl r).length with hh|hh
 ·have h2:okS (nth (tl r) (Cc r))=false:=Nf hh
  have h3:=List.all_eq_true.1 h _ (Bm hh)
  rw [h2] at h3;cases h3
 ·unfold Cc at hh ⊢;omega
theorem Ad8 {r:List UInt8} {j:Nat} (h:j<Cc r):okS (nth (tl r) j)=true:=Kx h
theorem Awt {Gl} (S:SP Gl) (s:List UInt8) (hG:GlOK Gl) (hs:s.length<=150) (hR:(Ac 10 s).length<3):CO Gl 110 [str s] (.pan (.iface 135 (.agg #[.string (bs (s))]))):=by
 refine Au S (let A0:=(Res.pan (Value.iface (135:TypeId) (Value.agg #[Value.string (bs s)])));((.r (.ret (L eS (Ac (10:UInt8) s))) (.r A0 .nil)),(CO Gl 134 [str s,str [(10:UInt8)]] (.ret (L eS (Ac (10:UInt8) s)))/\(List.length (Ac (10:UInt8) s)<=maxLen->CO Gl 135 [B (decide (3<=(↑(List.length (Ac (10:UInt8) s)):Int))),T.d (D.c (C.v (Value.string (bs s))))] A0/\Value.iface (135:Nat) (Value.agg (Array.mk [Value.string (bs s)]))=Value.iface (135:Nat) (Value.agg (Array.mk [Value.string (bs s)])))))) Tryz.func110 (by kernel_rfl) (by kernel_rfl) ?_
 simp only [stdS,imp_self,implies_true,and_true]
 exact ⟨Ff hG.len s 10 (by omega),fun _=>⟨Ny S _ _ (by simp;omega),trivial⟩⟩
theorem Awu {Gl} (S:SP Gl) (s:List UInt8) (hG:GlOK Gl) (hs:s.length<=150) (hR:3<=(Ac 10 s).length) (hall:(mid s).all okR=true) (hf:Gn (lsT s)=true) (ht:Cu (Ie (lsT s))≠s):CO Gl 110 [str s] (.pan (.iface 135 (.agg #[.string (bs (s))]))):=by
 refine Au S (let A0:=(nth (mid s) (0:Nat));let A1:=(Ac (32:UInt8) (nth (Ac (10:UInt8) s) (Int.toNat (0:Int)+Int.toNat (0:Int))));let A2:=fun (k2:Nat)=>(nth (mid s) (k2+1));let A3:=(List.length (mid s):Int);let A4:=fun (k2:Nat)=>(Ac (32:UInt8) (nth (mid s) (Int.toNat ((k2:Int)+1))));let A5:=fun (k2:Nat)=>(List.take (k2+1) (Bi (lsT s)));let A6:=(List.length (l0T s):Int);let A7:=(↑(List.length (Ac (10:UInt8) s)):Int);let A8:=(List.length (l0T s));let A9:=fun (k2 k4:Nat)=>(El s (bif Nat.blt k4 k4 then k2+(1:Nat) else k2) k4);let A10:=(↑(List.length A1):Int);let A11:=(↑(List.length (tl A0)):Int);let A12:=(Ac (10:UInt8) s);let A13:=fun (k2:Nat)=>(↑(List.length (A4 k2)):Int);let A14:=fun (k2:Nat)=>(nth (lsT s) (k2+1));let A15:=fun (k2:Nat)=>(List.length (tl (A2 k2)));let A16:=(sR eS (mid s));let A17:=(sR eI (l0T s));let A18:=(Res.pan (Value.iface (135:TypeId) (Value.agg #[Value.string (bs s)])));let A19:=(↑(0:Nat):Int);let A20:=(Int.toNat (A7-2-(0:Int)));let A21:=(nth A12 (Int.toNat (0:Int)+Int.toNat (0:Int)));((.r (.ret (L eS A12)) (.r (.ret (.tup [])) (.pe (.br (.r (.ret (L eS A1)) (.loop (List.length (tl A0)) (fun j=>v 37 (I j)::v 36 (I A11)::v 35 (L eS (tl A0))::v 28 (I 0)::v 8 (Lt 901 eI (Af A0 j))::tk 901 3::v 7 (str A0)::v 6 (I 0)::v 5 (T.d (D.c Bw))::(bx 4 [Bw,Bw]++Ig s)) fun k1=>.br (.r (.ret (I (Ar (nth (tl A0) k1)))) .nil) (.tt (.r (.ret (.tup [])) (.loop A8 (fun j=>v 56 (I j)::v 55 (I A6)::v 54 (L eI (l0T s))::v 28 (I 0)::v 8 (Lt 901 eI (l0T s))::tk 901 3::v 7 (str A0)::v 6 (I 0)::v 5 (T.d (D.c Bw))::(bx 4 [Bw,Bw]++Ig s)) fun k2=>.br (.r (.ret (.tup [])) .nil) (.arrA (nat_lit 68) .nil)))))) .nil) (List.length (mid s)-(1:Nat)) (fun k=>v 28 (I ((k:Int)+1))::Nz s k) fun k2=>.br (.r (.ret (L eS (A4 k2))) (.loop (A15 k2) (fun j=>v 37 (I j)::v 36 (I (↑(A15 k2):Int))::v 35 (L eS (tl (A2 k2)))::v 28 (I ((k2:Int)+1))::v 8 (Lt 901 eI (Af (A2 k2) j))::tk 901 3::v 7 (str (A2 k2))::v 6 (I ((k2:Int)+1))::Nz s k2) fun k3=>.br (.r (.ret (I (Ar (nth (tl (A2 k2)) k3)))) .nil) (.ff (.r (.ret (.tup [])) (.loop A8 (fun j=>v 87 (I j)::v 86 (I A6)::v 85 (L eI (A14 k2))::v 28 (I ((k2:Int)+1))::v 8 (Lt 901 eI (A14 k2))::tk 901 3::Yn s k2 j) fun k4=>.br (.arrA (nat_lit 99) .nil) .nil))))) (.r (.ret (str (Cu (List.map lnT (A5 k2))))) (.r A18 .nil))))),(CO Gl 134 [str s,str [(10:UInt8)]] (.ret (L eS A12))/\(List.length A12<=maxLen->CO Gl 135 [B (decide (3<=(↑(List.length (Ac (10:UInt8) s)):Int))),T.d (D.c (C.v (Value.string (bs s))))] (.ret (.tup []))/\(List.length A12<=maxLen->iR (A7-2)/\((0:Int)<=0/\0<=A7-2/\A7-2<=A7)/\(Int.toNat (A7-2-(0:Int))<=maxLen->(decide (0<(↑(Int.toNat ((↑(List.length (Ac (10:UInt8) s)):Int)-2-(0:Int))):Int))=true->((0:Int)<=0/\0<(↑A20:Int))/\CO Gl 134 [str A21,str [(32:UInt8)]] (.ret (L eS A1))/\((0:Int)<=1/\1<=A10/\A10<=A10)/\(Int.toNat (A10-1)<=maxLen->(0=A19/\(↑(Int.toNat (A10-1)):Int)=A11/\(SEq (Int.toNat (A10-1)) (fun i=>eS (nth A1 (Int.toNat (1:Int)+i))) (List.length (tl A0)) fun i=>eS (nth (tl A0) i))/\(0:Int)=0/\(0:Nat)=(0:Nat)/\bs A21=bs A0/\(0:Int)=0/\Value.slice none 0 0=Value.slice none 0 0/\Value.slice none 0 0=Value.slice none 0 0/\Value.slice none 0 0=Value.slice none 0 0/\(↑A20:Int)=A3/\(SEq A20 (fun i=>eS (nth A12 (Int.toNat (0:Int)+i))) (List.length (mid s)) fun i=>eS (nth (mid s) i))/\bs s=bs s/\Value.slice none 0 0=Value.slice none 0 0/\Value.slice none 0 0=Value.slice none 0 0)/\∀ (k1:Nat),k1<=List.length (tl A0)->(decide ((k1:Int)<(↑(List.length (tl (nth (mid s) (0:Nat)))):Int))=true->(0<=(k1:Int)/\(k1:Int)<A11)/\CO Gl 136 [str (nth (tl A0) k1)] (.ret (I (Ar (nth (tl A0) k1))))/\(List.length (Af A0 k1)+1)*8<=140737488355328/\List.length (Af A0 k1)+1<=140737488355328/\iR ((k1:Int)+1)/\k1<List.length (tl A0)/\(k1:Int)+1=(↑(k1+1):Int)/\A11=A11/\(sR eS (tl A0))/\(0:Int)=0/\(SEq (List.length (Af A0 k1)+1) (Av (List.length (Af A0 k1)) (fun i=>eI (nth (Af A0 k1) i)) fun i=>List.getD [List.map C.dem [C.v (Value.int IntKind.i64 (Ar (nth (tl A0) k1)))]] i []) (List.length (Af A0 (k1+1))) fun i=>eI (nth (Af A0 (k1+1)) i))/\bs A0=bs A0/\(0:Int)=0/\Value.slice none 0 0=Value.slice none 0 0/\Value.slice none 0 0=Value.slice none 0 0/\Value.slice none 0 0=Value.slice none 0 0/\A3=A3/\A16/\bs s=bs s/\Value.slice none 0 0=Value.slice none 0 0/\Value.slice none 0 0=Value.slice none 0 0)/\(decide ((k1:Int)<(↑(List.length (tl (nth (mid s) (0:Nat)))):Int))=false->true=true/\(List.length (Af A0 k1)<=maxLen->CO Gl 135 [B (decide (0<(↑(List.length (Af (nth (mid s) (0:Nat)) k1)):Int))),T.d (D.c (C.v (Value.string (bs A0))))] (.ret (.tup []))/\(List.length (Af A0 k1)<=maxLen->(0=A19/\(↑(List.length (Af A0 k1)):Int)=A6/\(sQ eI (Af A0 k1) (l0T s))/\(0:Int)=0/\(sQ eI (Af A0 k1) (l0T s))/\bs A0=bs A0/\(0:Int)=0/\Value.slice none 0 0=Value.slice none 0 0/\Value.slice none 0 0=Value.slice none 0 0/\Value.slice none 0 0=Value.slice none 0 0/\A3=A3/\A16/\bs s=bs s/\Value.slice none 0 0=Value.slice none 0 0/\Value.slice none 0 0=Value.slice none 0 0)/\∀ (k2:Nat),k2<=List.length (l0T s)->(decide ((k2:Int)<(List.length (l0T s):Int))=true->(0<=(k2:Int)/\(k2:Int)<A6)/\CO Gl 135 [B (decide ((0:Int)<=nth (l0T s) k2)),T.d (D.c (C.v (Value.string (bs A0))))] (.ret (.tup []))/\iR ((k2:Int)+1)/\k2<List.length (l0T s)/\(k2:Int)+1=(↑(k2+1):Int)/\A6=A6/\A17/\(0:Int)=0/\A17/\bs A0=bs A0/\(0:Int)=0/\Value.slice none 0 0=Value.slice none 0 0/\Value.slice none 0 0=Value.slice none 0 0/\Value.slice none 0 0=Value.slice none 0 0/\A3=A3/\A16/\bs s=bs s/\Value.slice none 0 0=Value.slice none 0 0/\Value.slice none 0 0=Value.slice none 0 0)/\(decide ((k2:Int)<(List.length (l0T s):Int))=false->List.length (l0T s)<=maxLen->A6=A6/\0<=A6/\List.length (l0T s)*24<=140737488355328/\List.length (l0T s)<=(140737488355328:Nat)/\(1:Nat)*16<=140737488355328/\(1:Nat)<=(140737488355328:Nat)/\iR ((0:Int)+1)/\((0:Int)+1=A19+1/\(SEq (1:Nat) (fun i=>List.getD [List.map C.dem [C.i (121:Nat) true [C.s Tag.n A8 fun i=>eI (nth (l0T s) i)]]] i []) (List.length (List.take ((0:Nat)+1) (Bi (lsT s)))) fun i=>eLn (nth (List.take ((0:Nat)+1) (Bi (lsT s))) i))/\List.length (l0T s)=List.length (l0T s)/\A17/\OEq A8 (fun x=>((0:Nat),fun x=>[])) A8 (Ce s (0:Nat))/\A3=A3/\A16/\bs s=bs s/\Value.slice none 0 0=Value.slice none 0 0/\Value.slice none 0 0=Value.slice none 0 0)/\∀ (k2:Nat),k2<=List.length (mid s)-(1:Nat)->(decide ((k2:Int)+1<(List.length (mid s):Int))=true->(0<=(k2:Int)+1/\(k2:Int)+1<A3)/\CO Gl 134 [str (nth (mid s) (Int.toNat ((k2:Int)+1))),str [(32:UInt8)]] (.ret (L eS (A4 k2)))/\((0:Int)<=1/\1<=(A13 k2)/\(A13 k2)<=(A13 k2))/\(Int.toNat ((A13 k2)-1)<=maxLen->(0=A19/\(↑(Int.toNat ((A13 k2)-1)):Int)=(↑(A15 k2):Int)/\(SEq (Int.toNat ((A13 k2)-1)) (fun i=>eS (nth (A4 k2) (Int.toNat (1:Int)+i))) (A15 k2) fun i=>eS (nth (tl (A2 k2)) i))/\(k2:Int)+1=(k2:Int)+1/\(0:Nat)=(0:Nat)/\bs (nth (mid s) (Int.toNat ((k2:Int)+1)))=bs (A2 k2)/\(k2:Int)+1=(k2:Int)+1/\(sR eLn (A5 k2))/\List.length (l0T s)=List.length (l0T s)/\A17/\OEq A8 (Ce s k2) A8 (Ce s k2)/\A3=A3/\A16/\bs s=bs s/\Value.slice none 0 0=Value.slice none 0 0/\Value.slice none 0 0=Value.slice none 0 0)/\∀ (k3:Nat),k3<=List.length (tl (A2 k2))->(decide ((k3:Int)<(↑(List.length (tl (nth (mid s) (k2+1)))):Int))=true->(0<=(k3:Int)/\(k3:Int)<(↑(A15 k2):Int))/\CO Gl 136 [str (nth (tl (A2 k2)) k3)] (.ret (I (Ar (nth (tl (A2 k2)) k3))))/\(List.length (Af (A2 k2) k3)+1)*8<=140737488355328/\List.length (Af (A2 k2) k3)+1<=140737488355328/\iR ((k3:Int)+1)/\k3<List.length (tl (A2 k2))/\(k3:Int)+1=(↑(k3+1):Int)/\(↑(A15 k2):Int)=(↑(A15 k2):Int)/\(sR eS (tl (A2 k2)))/\(k2:Int)+1=(k2:Int)+1/\(SEq (List.length (Af (A2 k2) k3)+1) (Av (List.length (Af (A2 k2) k3)) (fun i=>eI (nth (Af (A2 k2) k3) i)) fun i=>List.getD [List.map C.dem [C.v (Value.int IntKind.i64 (Ar (nth (tl (A2 k2)) k3)))]] i []) (List.length (Af (A2 k2) (k3+1))) fun i=>eI (nth (Af (A2 k2) (k3+1)) i))/\bs (A2 k2)=bs (A2 k2)/\(k2:Int)+1=(k2:Int)+1/\(sR eLn (A5 k2))/\List.length (l0T s)=List.length (l0T s)/\A17/\OEq A8 (Ce s k2) A8 (Ce s k2)/\A3=A3/\A16/\bs s=bs s/\Value.slice none 0 0=Value.slice none 0 0/\Value.slice none 0 0=Value.slice none 0 0)/\(decide ((k3:Int)<(↑(List.length (tl (nth (mid s) (k2+1)))):Int))=false->false=false/\(List.length (Af (A2 k2) k3)<=maxLen->List.length (l0T s)<=maxLen->CO Gl 135 [B ((↑(List.length (Af (A2 k2) k3)):Int)==A6),T.d (D.c (C.v (Value.string (bs (A2 k2)))))] (.ret (.tup []))/\(List.length (Af (A2 k2) k3)<=maxLen->(0=A19/\(↑(List.length (Af (A2 k2) k3)):Int)=A6/\(sQ eI (Af (A2 k2) k3) (A14 k2))/\(k2:Int)+1=(k2:Int)+1/\(sQ eI (Af (A2 k2) k3) (A14 k2))/\(sR eLn (A5 k2))/\List.length (l0T s)=List.length (l0T s)/\A17/\OEq A8 (Ce s k2) A8 (Ea s k2 (0:Nat))/\A3=A3/\A16/\bs s=bs s/\Value.slice none 0 0=Value.slice none 0 0/\Value.slice none 0 0=Value.slice none 0 0)/\∀ (k4:Nat),k4<=List.length (l0T s)->(decide ((k4:Int)<(List.length (l0T s):Int))=true->(0<=(k4:Int)/\(k4:Int)<(↑(List.length (A14 k2)):Int))/\(0<=(k4:Int)/\(k4:Int)<A6)/\k4<List.length (l0T s)/\(List.length (A9 k2 k4)+1)*8<=140737488355328/\List.length (A9 k2 k4)+1<=140737488355328/\(0<=(k4:Int)/\(k4:Int)<A6)/\k4=k4/\k4<List.length (l0T s)/\iR ((k4:Int)+1)/\k4<List.length (l0T s)/\(k4:Int)+1=(↑(k4+1):Int)/\A6=A6/\(sR eI (A14 k2))/\(k2:Int)+1=(k2:Int)+1/\(sR eI (A14 k2))/\(sR eLn (A5 k2))/\List.length (l0T s)=List.length (l0T s)/\A17/\OEq A8 (Eo (Ea s k2 k4) k4 (List.length (A9 k2 k4)+(1:Nat),Av (List.length (A9 k2 k4)) (fun i=>eI (nth (A9 k2 k4) i)) fun i=>List.getD [List.map C.dem [C.v (Value.int IntKind.i64 (nth (A14 k2) k4))]] i [])) A8 (Ea s k2 (k4+1))/\A3=A3/\A16/\bs s=bs s/\Value.slice none 0 0=Value.slice none 0 0/\Value.slice none 0 0=Value.slice none 0 0)/\(decide ((k4:Int)<(List.length (l0T s):Int))=false->(List.length (A5 k2)+1)*16<=140737488355328/\List.length (A5 k2)+1<=140737488355328/\iR ((k2:Int)+1+(1:Int))/\k2<List.length (mid s)-(1:Nat)/\(k2:Int)+1+1=(↑(k2+1):Int)+1/\(SEq (List.length (A5 k2)+1) (Av (List.length (A5 k2)) (fun i=>eLn (nth (A5 k2) i)) fun i=>List.getD [List.map C.dem [C.i (124:Nat) true [C.s Tag.n (List.length (A14 k2)) fun i=>eI (nth (A14 k2) i)]]] i []) (List.length (List.take (k2+(1:Nat)+1) (Bi (lsT s)))) fun i=>eLn (nth (List.take (k2+(1:Nat)+1) (Bi (lsT s))) i))/\List.length (l0T s)=List.length (l0T s)/\A17/\OEq A8 (Ea s k2 k4) A8 (Ce s (k2+1))/\A3=A3/\A16/\bs s=bs s/\Value.slice none 0 0=Value.slice none 0 0/\Value.slice none 0 0=Value.slice none 0 0))))))/\(decide ((k2:Int)+1<(List.length (mid s):Int))=false->CO Gl 108 [T.d (D.c (C.l eLn (A5 k2)))] (.ret (str (Cu (List.map lnT (A5 k2)))))/\CO Gl 135 [B (ByteArray.toList (bs (Cu (List.map lnT (A5 k2))))==ByteArray.toList (bs s)),T.d (D.c (C.v (Value.string (bs s))))] A18/\Value.iface (135:Nat) (Value.agg (Array.mk [Value.string (bs s)]))=Value.iface (135:Nat) (Value.agg (Array.mk [Value.string (bs s)])))))))))/\(decide (0<(↑(Int.toNat ((↑(List.length (Ac (10:UInt8) s)):Int)-2-(0:Int))):Int))=false->False))))))) Tryz.func110 (by kernel_rfl) (by kernel_rfl) ?_
 have hsp:=Bv 10 s
 have hml:=Lh (s:=s)
 have hll:=Oa s
 have hrow:∀ i,i<(mid s).length->(nth (mid s) i).length<=150:=fun i hi=>by have:=Nx hi;omega
 have hm0:0<(mid s).length:=by omega
 have hl0:l0T s=nsR (nth (mid s) 0):=Ih hm0
 have h00:nth (Ac 10 s) (Int.toNat 0+Int.toNat 0)=nth (mid s) 0:=(Ht hm0).symm
 have hok:∀ i,i<(mid s).length->okR (nth (mid s) i)=true:=fun i hi=>List.all_eq_true.1 hall _ (Bm hi)
 obtain ⟨hf1,hf2,hf3⟩:=Al2 hf
 have hf1:0<(l0T s).length:=hf1
 have hf2:∀ n∈l0T s,0<=n:=hf2
 have hf3:∀ k,k+1<(lsT s).length->(nth (lsT s) (k+1)).length=(l0T s).length:=hf3
 have hl0n:(l0T s).length<=150:=by rw [hl0];have:=Me (nth (mid s) 0);have:=hrow 0 hm0;omega
 simp only [stdS,imp_self,implies_true,and_true,h00,Ob]
 refine ⟨Ff hG.len s 10 (by omega),fun _=>⟨Dm S _ _ (by simp;omega),fun _=>⟨(Ad _).2 (by omega),⟨by decide,by omega,by omega⟩,fun _=>⟨fun _=>?_,fun h=>?_⟩⟩⟩⟩
 ·refine ⟨⟨by omega,by omega⟩,Ff hG.len _ 32 (by have:=hrow 0 hm0;omega),⟨by omega,by have:=Bv 32 (nth (mid s) 0);omega,by omega⟩,fun _=>⟨?_,fun k1 hk1=>⟨fun h1=>?_,fun h1 hmx=>?_⟩⟩⟩
  ·exact ⟨by have:=Bv 32 (nth (mid s) 0);rw [Ef];omega,Ii _,by omega,.of ⟨by omega,fun i hi=>by
    show eS (nth (Ac 10 s) (0+i))=eS (nth (mid s) i)
    rw [Ht (by omega),Nat.zero_add]⟩,trivial⟩
  ·have h1:k1<(tl (nth (mid s) 0)).length:=by simpa using h1
   have hnl:=Iy (r:=nth (mid s) 0) (j:=k1)
   have htl:=Ef (r:=nth (mid s) 0)
   have hsr:=Bv 32 (nth (mid s) 0)
   have hr:=hrow 0 hm0
   exact ⟨⟨by omega,by omega⟩,Ix S hG _ (List.all_eq_true.1 (hok 0 hm0) _ (Bm h1)),by omega,by omega,(Ad _).2 (by omega),h1,by omega,Dj (Iz h1) rfl,trivial⟩
  ·have h1:k1=(tl (nth (mid s) 0)).length:=by
    have:¬ k1<(tl (nth (mid s) 0)).length:=by simpa using h1
    omega
   subst h1
   rw [Kh,<-hl0]
   refine ⟨Dm S _ _ (decide_eq_true (by omega)),fun _=>⟨⟨rfl,Be rfl,Be rfl,trivial⟩,fun k2 hk2=>⟨fun hd=>?_,fun hd _=>⟨by omega,by omega,by omega,by decide,by decide,(Ad _).2 (by omega),?_,fun k3 hk3=>⟨fun h3=>?_,fun h3=>?_⟩⟩⟩⟩⟩
   ·have hd:k2<(l0T s).length:=by simpa using hd
    exact ⟨⟨by omega,by omega⟩,Dm S _ _ (decide_eq_true (hf2 _ (Bm hd))),(Ad _).2 (by omega),hd,by omega,trivial⟩
   ·refine ⟨.of ⟨by rw [List.length_take,Gc];omega,fun i hi=>?_⟩,Yt s _,trivial⟩
    have:i=0:=by omega
    subst this
    show [C.i 121 true [C.l eI (l0T s)]]=eLn (nth ((Bi (lsT s)).take 1) 0)
    rw [Tq (by omega),Yo (by omega)]
    rfl
   ·have h3:(k3:Int)+1<((mid s).length:Int):=of_decide_eq_true h3
    have hlt:k3+1<(mid s).length:=by omega
    have ht3:((k3:Int)+1).toNat=k3+1:=by omega
    have hrw:=hrow (k3+1) hlt
    have hlk:nth (lsT s) (k3+1)=nsR (nth (mid s) (k3+1)):=Ih hlt
    have hlen:=hf3 k3 (by omega)
    have hcl:=fun j=>Rr s (k:=k3) (by omega) j
    have hll2:((Bi (lsT s)).take (k3+1)).length=k3+1:=by rw [List.length_take,Gc];omega
    have hbb:∀ j:Nat,Nat.blt j j=false:=fun j=>Fc (Nat.lt_irrefl j)
    have htl:=Ef (r:=nth (mid s) (k3+1))
    have hsr:=Bv 32 (nth (mid s) (k3+1))
    simp only [ht3,hbb,cond_false]
    refine ⟨⟨by omega,by omega⟩,Ff hG.len _ 32 (by omega),⟨by omega,by omega,by omega⟩,fun _=>⟨⟨by omega,Ii _,trivial,trivial⟩,fun k4 hk4=>⟨fun h4=>?_,fun h4 hmx _=>?_⟩⟩⟩
    ·have h4:k4<(tl (nth (mid s) (k3+1))).length:=by simpa using h4
     have hnl:=Iy (r:=nth (mid s) (k3+1)) (j:=k4)
     exact ⟨⟨by omega,by omega⟩,Ix S hG _ (List.all_eq_true.1 (hok (k3+1) hlt) _ (Bm h4)),by omega,by omega,(Ad _).2 (by omega),h4,by omega,Dj (Iz h4) rfl,trivial⟩
    ·have h4:k4=(tl (nth (mid s) (k3+1))).length:=by
      have:¬ k4<(tl (nth (mid s) (k3+1))).length:=by simpa using h4
      omega
     subst h4
     rw [Kh,<-hlk]
     refine ⟨Dm S _ _ (by rw [hlen];exact beq_self_eq_true _),fun _=>⟨⟨by rw [hlen],Be rfl,Be rfl,Yr s _ _,trivial⟩,fun k5 hk5=>⟨fun h5=>?_,fun h5=>?_⟩⟩⟩
     ·have h5:k5<(l0T s).length:=by simpa using h5
      have:=hcl k5
      exact ⟨⟨by omega,by omega⟩,⟨by omega,by omega⟩,h5,by omega,by omega,⟨by omega,by omega⟩,h5,(Ad _).2 (by omega),h5,by omega,Yq (by omega) _,trivial⟩
     ·have h5:k5=(l0T s).length:=by
       have:¬ k5<(l0T s).length:=by simpa using h5
       omega
      subst h5
      refine ⟨by omega,by omega,(Ad _).2 (by omega),by omega,by omega,?_,Ys s _ _,trivial⟩
      refine Jg (by rw [Gc];omega) ?_
      rw [Yp (by omega)]
      rfl
   ·have h3:¬ (k3:Int)+1<((mid s).length:Int):=of_decide_eq_false h3
    have hke:k3+1=(lsT s).length:=by omega
    have hte:(Bi (lsT s)).take (k3+1)=Bi (lsT s):=List.take_of_length_le (by rw [Gc];omega)
    rw [hte]
    refine ⟨Ad1 S hG _ (by rw [Gc];omega) (Al0 hs hall),Ny S _ _ ?_,trivial⟩
    rw [Akz,Id,Id]
    exact beq_eq_false_iff_ne.2 ht
 ·have:=of_decide_eq_false h
  omega
theorem Awv {Gl} (S:SP Gl) (s:List UInt8) (hG:GlOK Gl) (hs:s.length<=150) (hR:3<=(Ac 10 s).length) (hb:okR (nth (mid s) 0)=false):CO Gl 110 [str s] (.pan (.iface 135 (.agg #[.string (bs (nth (tl (nth (mid s) 0)) (Cc (nth (mid s) 0))))]))):=by
 refine Au S (let A0:=(nth (mid s) (0:Nat));let A1:=(Ac (32:UInt8) (nth (Ac (10:UInt8) s) (Int.toNat (0:Int)+Int.toNat (0:Int))));let A2:=(↑(List.length (Ac (10:UInt8) s)):Int);let A3:=fun (k1:Nat)=>(List.length (Af A0 k1)<=maxLen->CO Gl 135 [B (decide (0<(↑(List.length (Af (nth (mid s) (0:Nat)) k1)):Int))),T.d (D.c (C.v (Value.string (bs A0))))] (.ret (.tup []))/\(List.length (Af A0 k1)<=maxLen->True/\∀ (k2:Nat),k2<=(0:Nat)->False));let A4:=(↑(List.length (tl A0)):Int);let A5:=(↑(List.length A1):Int);let A6:=(Ac (10:UInt8) s);let A7:=fun (k1:Nat)=>(Res.pan (Value.iface (135:TypeId) (Value.agg #[Value.string (bs (nth (tl A0) k1))])));let A8:=(Int.toNat (A2-2-(0:Int)));let A9:=(nth A6 (Int.toNat (0:Int)+Int.toNat (0:Int)));let A10:=(List.length (mid s):Int);((.r (.ret (L eS A6)) (.r (.ret (.tup [])) (.pe (.br (.r (.ret (L eS A1)) (.loop (Cc A0) (fun j=>v 37 (I j)::v 36 (I A4)::v 35 (L eS (tl A0))::v 28 (I 0)::v 8 (Lt 901 eI (Af A0 j))::tk 901 3::v 7 (str A0)::v 6 (I 0)::v 5 (T.d (D.c Bw))::(bx 4 [Bw,Bw]++Ig s)) fun k1=>.ite (decide (k1<Cc (nth (mid s) (0:Nat)))) (.br (.r (.ret (I (Ar (nth (tl A0) k1)))) .nil) (.tt (.r (.ret (.tup [])) (.loop (0:Nat) (fun j=>[]) fun k2=>.nil)))) (.br (.r (A7 k1) .nil) (.tt (.r (.ret (.tup [])) (.loop (0:Nat) (fun j=>[]) fun k2=>.nil)))))) .nil) (0:Nat) (fun k=>[]) fun k=>.nil))),(CO Gl 134 [str s,str [(10:UInt8)]] (.ret (L eS A6))/\(List.length A6<=maxLen->CO Gl 135 [B (decide (3<=(↑(List.length (Ac (10:UInt8) s)):Int))),T.d (D.c (C.v (Value.string (bs s))))] (.ret (.tup []))/\(List.length A6<=maxLen->iR (A2-2)/\((0:Int)<=0/\0<=A2-2/\A2-2<=A2)/\(Int.toNat (A2-2-(0:Int))<=maxLen->(decide (0<(↑(Int.toNat ((↑(List.length (Ac (10:UInt8) s)):Int)-2-(0:Int))):Int))=true->((0:Int)<=0/\0<(↑A8:Int))/\CO Gl 134 [str A9,str [(32:UInt8)]] (.ret (L eS A1))/\((0:Int)<=1/\1<=A5/\A5<=A5)/\(Int.toNat (A5-1)<=maxLen->(0=(↑(0:Nat):Int)/\(↑(Int.toNat (A5-1)):Int)=A4/\(SEq (Int.toNat (A5-1)) (fun i=>eS (nth A1 (Int.toNat (1:Int)+i))) (List.length (tl A0)) fun i=>eS (nth (tl A0) i))/\(0:Int)=0/\(0:Nat)=(0:Nat)/\bs A9=bs A0/\(0:Int)=0/\Value.slice none 0 0=Value.slice none 0 0/\Value.slice none 0 0=Value.slice none 0 0/\Value.slice none 0 0=Value.slice none 0 0/\(↑A8:Int)=A10/\(SEq A8 (fun i=>eS (nth A6 (Int.toNat (0:Int)+i))) (List.length (mid s)) fun i=>eS (nth (mid s) i))/\bs s=bs s/\Value.slice none 0 0=Value.slice none 0 0/\Value.slice none 0 0=Value.slice none 0 0)/\∀ (k1:Nat),k1<=Cc A0->(decide (k1<Cc (nth (mid s) (0:Nat)))=true->(decide ((k1:Int)<(↑(List.length (tl (nth (mid s) (0:Nat)))):Int))=true->(0<=(k1:Int)/\(k1:Int)<A4)/\CO Gl 136 [str (nth (tl A0) k1)] (.ret (I (Ar (nth (tl A0) k1))))/\(List.length (Af A0 k1)+1)*8<=140737488355328/\List.length (Af A0 k1)+1<=140737488355328/\iR ((k1:Int)+1)/\k1<Cc A0/\(k1:Int)+1=(↑(k1+1):Int)/\A4=A4/\(sR eS (tl A0))/\(0:Int)=0/\(SEq (List.length (Af A0 k1)+1) (Av (List.length (Af A0 k1)) (fun i=>eI (nth (Af A0 k1) i)) fun i=>List.getD [List.map C.dem [C.v (Value.int IntKind.i64 (Ar (nth (tl A0) k1)))]] i []) (List.length (Af A0 (k1+1))) fun i=>eI (nth (Af A0 (k1+1)) i))/\bs A0=bs A0/\(0:Int)=0/\Value.slice none 0 0=Value.slice none 0 0/\Value.slice none 0 0=Value.slice none 0 0/\Value.slice none 0 0=Value.slice none 0 0/\A10=A10/\(sR eS (mid s))/\bs s=bs s/\Value.slice none 0 0=Value.slice none 0 0/\Value.slice none 0 0=Value.slice none 0 0)/\(decide ((k1:Int)<(↑(List.length (tl (nth (mid s) (0:Nat)))):Int))=false->true=true/\(A3 k1)))/\(decide (k1<Cc (nth (mid s) (0:Nat)))=false->(decide ((k1:Int)<(↑(List.length (tl (nth (mid s) (0:Nat)))):Int))=true->(0<=(k1:Int)/\(k1:Int)<A4)/\CO Gl 136 [str (nth (tl A0) k1)] (A7 k1)/\Value.iface (135:Nat) (Value.agg (Array.mk [Value.string (bs (nth (tl A0) k1))]))=Value.iface (135:Nat) (Value.agg (Array.mk [Value.string (bs (nth (tl A0) (Cc A0)))])))/\(decide ((k1:Int)<(↑(List.length (tl (nth (mid s) (0:Nat)))):Int))=false->true=true/\(A3 k1)))))/\(decide (0<(↑(Int.toNat ((↑(List.length (Ac (10:UInt8) s)):Int)-2-(0:Int))):Int))=false->False))))))) Tryz.func110 (by kernel_rfl) (by kernel_rfl) ?_
 have hsp:=Bv 10 s
 have hml:=Lh (s:=s)
 have hll:=Oa s
 have hrow:∀ i,i<(mid s).length->(nth (mid s) i).length<=150:=fun i hi=>by have:=Nx hi;omega
 have hm0:0<(mid s).length:=by omega
 have hl0:l0T s=nsR (nth (mid s) 0):=Ih hm0
 have h00:nth (Ac 10 s) (Int.toNat 0+Int.toNat 0)=nth (mid s) 0:=(Ht hm0).symm
 have hl0n:(l0T s).length<=150:=by rw [hl0];have:=Me (nth (mid s) 0);have:=hrow 0 hm0;omega
 simp only [stdS,imp_self,implies_true,and_true,h00,Ob]
 refine ⟨Ff hG.len s 10 (by omega),fun _=>⟨Dm S _ _ (by simp;omega),fun _=>⟨(Ad _).2 (by omega),⟨by decide,by omega,by omega⟩,fun _=>⟨fun _=>?_,fun h=>?_⟩⟩⟩⟩
 rotate_left
 ·have:=of_decide_eq_false h
  omega
 refine ⟨⟨by omega,by omega⟩,Ff hG.len _ 32 (by have:=hrow 0 hm0;omega),⟨by omega,by have:=Bv 32 (nth (mid s) 0);omega,by omega⟩,fun _=>⟨⟨by have:=Bv 32 (nth (mid s) 0);rw [Ef];omega,Ii _,by omega,.of ⟨by omega,fun i hi=>by
       show eS (nth (Ac 10 s) (0+i))=eS (nth (mid s) i)
       rw [Ht (by omega),Nat.zero_add]⟩,trivial⟩,fun k1 hk1=>?_⟩⟩
 have hnl:=Iy (r:=nth (mid s) 0) (j:=k1)
 have htl:=Ef (r:=nth (mid s) 0)
 have hsr:=Bv 32 (nth (mid s) 0)
 have hr:=hrow 0 hm0
 obtain ⟨hg1,hg2⟩:=Alb hb
 refine ⟨fun hc=>⟨fun h1=>?_,fun h1 _=>?_⟩,fun hc=>⟨fun h1=>?_,fun h1 _=>?_⟩⟩
 ·have hc:k1<Cc (nth (mid s) 0):=of_decide_eq_true hc
  have h1:k1<(tl (nth (mid s) 0)).length:=by omega
  exact ⟨⟨by omega,by omega⟩,Ix S hG _ (Ad8 hc),by omega,by omega,(Ad _).2 (by omega),hc,by omega,Dj (Iz h1) rfl,trivial⟩
 ·exfalso
  have hc:k1<Cc (nth (mid s) 0):=of_decide_eq_true hc
  have h1:¬ (k1:Int)<((tl (nth (mid s) 0)).length:Int):=of_decide_eq_false h1
  omega
 ·have hc:k1=Cc (nth (mid s) 0):=by have:¬ k1<Cc (nth (mid s) 0):=of_decide_eq_false hc;omega
  subst hc
  exact ⟨⟨by omega,by omega⟩,Aky S hG _ hg2,rfl⟩
 ·exfalso
  have hc:¬ k1<Cc (nth (mid s) 0):=of_decide_eq_false hc
  have h1:¬ (k1:Int)<((tl (nth (mid s) 0)).length:Int):=of_decide_eq_false h1
  omega
theorem Aww {Gl} (S:SP Gl) (s:List UInt8) (hG:GlOK Gl) (hs:s.length<=150) (hR:3<=(Ac 10 s).length) (hok:okR (nth (mid s) 0)=true) (h0:(l0T s).length=0):CO Gl 110 [str s] (.pan (.iface 135 (.agg #[.string (bs (nth (mid s) 0))]))):=by
 refine Au S (let A0:=(Ac (32:UInt8) (nth (Ac (10:UInt8) s) (Int.toNat (0:Int)+Int.toNat (0:Int))));let A1:=(nth (mid s) (0:Nat));let A2:=(↑(List.length (Ac (10:UInt8) s)):Int);let A3:=(↑(List.length A0):Int);let A4:=(↑(List.length (tl A1)):Int);let A5:=(Ac (10:UInt8) s);let A6:=(Res.pan (Value.iface (135:TypeId) (Value.agg #[Value.string (bs A1)])));let A7:=(Int.toNat (A2-2-(0:Int)));let A8:=(nth A5 (Int.toNat (0:Int)+Int.toNat (0:Int)));let A9:=(List.length (mid s):Int);((.r (.ret (L eS A5)) (.r (.ret (.tup [])) (.pe (.br (.r (.ret (L eS A0)) (.loop (List.length (tl A1)) (fun j=>v 37 (I j)::v 36 (I A4)::v 35 (L eS (tl A1))::v 28 (I 0)::v 8 (Lt 901 eI (Af A1 j))::tk 901 3::v 7 (str A1)::v 6 (I 0)::v 5 (T.d (D.c Bw))::(bx 4 [Bw,Bw]++Ig s)) fun k1=>.br (.r (.ret (I (Ar (nth (tl A1) k1)))) .nil) (.tt (.r A6 .nil)))) .nil) (0:Nat) (fun k=>[]) fun k=>.nil))),(CO Gl 134 [str s,str [(10:UInt8)]] (.ret (L eS A5))/\(List.length A5<=maxLen->CO Gl 135 [B (decide (3<=(↑(List.length (Ac (10:UInt8) s)):Int))),T.d (D.c (C.v (Value.string (bs s))))] (.ret (.tup []))/\(List.length A5<=maxLen->iR (A2-2)/\((0:Int)<=0/\0<=A2-2/\A2-2<=A2)/\(Int.toNat (A2-2-(0:Int))<=maxLen->(decide (0<(↑(Int.toNat ((↑(List.length (Ac (10:UInt8) s)):Int)-2-(0:Int))):Int))=true->((0:Int)<=0/\0<(↑A7:Int))/\CO Gl 134 [str A8,str [(32:UInt8)]] (.ret (L eS A0))/\((0:Int)<=1/\1<=A3/\A3<=A3)/\(Int.toNat (A3-1)<=maxLen->(0=(↑(0:Nat):Int)/\(↑(Int.toNat (A3-1)):Int)=A4/\(SEq (Int.toNat (A3-1)) (fun i=>eS (nth A0 (Int.toNat (1:Int)+i))) (List.length (tl A1)) fun i=>eS (nth (tl A1) i))/\(0:Int)=0/\(0:Nat)=(0:Nat)/\bs A8=bs A1/\(0:Int)=0/\Value.slice none 0 0=Value.slice none 0 0/\Value.slice none 0 0=Value.slice none 0 0/\Value.slice none 0 0=Value.slice none 0 0/\(↑A7:Int)=A9/\(SEq A7 (fun i=>eS (nth A5 (Int.toNat (0:Int)+i))) (List.length (mid s)) fun i=>eS (nth (mid s) i))/\bs s=bs s/\Value.slice none 0 0=Value.slice none 0 0/\Value.slice none 0 0=Value.slice none 0 0)/\∀ (k1:Nat),k1<=List.length (tl A1)->(decide ((k1:Int)<(↑(List.length (tl (nth (mid s) (0:Nat)))):Int))=true->(0<=(k1:Int)/\(k1:Int)<A4)/\CO Gl 136 [str (nth (tl A1) k1)] (.ret (I (Ar (nth (tl A1) k1))))/\(List.length (Af A1 k1)+1)*8<=140737488355328/\List.length (Af A1 k1)+1<=140737488355328/\iR ((k1:Int)+1)/\k1<List.length (tl A1)/\(k1:Int)+1=(↑(k1+1):Int)/\A4=A4/\(sR eS (tl A1))/\(0:Int)=0/\(SEq (List.length (Af A1 k1)+1) (Av (List.length (Af A1 k1)) (fun i=>eI (nth (Af A1 k1) i)) fun i=>List.getD [List.map C.dem [C.v (Value.int IntKind.i64 (Ar (nth (tl A1) k1)))]] i []) (List.length (Af A1 (k1+1))) fun i=>eI (nth (Af A1 (k1+1)) i))/\bs A1=bs A1/\(0:Int)=0/\Value.slice none 0 0=Value.slice none 0 0/\Value.slice none 0 0=Value.slice none 0 0/\Value.slice none 0 0=Value.slice none 0 0/\A9=A9/\(sR eS (mid s))/\bs s=bs s/\Value.slice none 0 0=Value.slice none 0 0/\Value.slice none 0 0=Value.slice none 0 0)/\(decide ((k1:Int)<(↑(List.length (tl (nth (mid s) (0:Nat)))):Int))=false->true=true/\(List.length (Af A1 k1)<=maxLen->CO Gl 135 [B (decide (0<(↑(List.length (Af (nth (mid s) (0:Nat)) k1)):Int))),T.d (D.c (C.v (Value.string (bs A1))))] A6/\Value.iface (135:Nat) (Value.agg (Array.mk [Value.string (bs A1)]))=Value.iface (135:Nat) (Value.agg (Array.mk [Value.string (bs A1)]))))))/\(decide (0<(↑(Int.toNat ((↑(List.length (Ac (10:UInt8) s)):Int)-2-(0:Int))):Int))=false->False))))))) Tryz.func110 (by kernel_rfl) (by kernel_rfl) ?_
 have hsp:=Bv 10 s
 have hml:=Lh (s:=s)
 have hll:=Oa s
 have hrow:∀ i,i<(mid s).length->(nth (mid s) i).length<=150:=fun i hi=>by have:=Nx hi;omega
 have hm0:0<(mid s).length:=by omega
 have hl0:l0T s=nsR (nth (mid s) 0):=Ih hm0
 have h00:nth (Ac 10 s) (Int.toNat 0+Int.toNat 0)=nth (mid s) 0:=(Ht hm0).symm
 have hl0n:(l0T s).length<=150:=by rw [hl0];have:=Me (nth (mid s) 0);have:=hrow 0 hm0;omega
 simp only [stdS,imp_self,implies_true,and_true,h00,Ob]
 refine ⟨Ff hG.len s 10 (by omega),fun _=>⟨Dm S _ _ (by simp;omega),fun _=>⟨(Ad _).2 (by omega),⟨by decide,by omega,by omega⟩,fun _=>⟨fun _=>?_,fun h=>?_⟩⟩⟩⟩
 rotate_left
 ·have:=of_decide_eq_false h
  omega
 refine ⟨⟨by omega,by omega⟩,Ff hG.len _ 32 (by have:=hrow 0 hm0;omega),⟨by omega,by have:=Bv 32 (nth (mid s) 0);omega,by omega⟩,fun _=>⟨⟨by have:=Bv 32 (nth (mid s) 0);rw [Ef];omega,Ii _,by omega,.of ⟨by omega,fun i hi=>by
       show eS (nth (Ac 10 s) (0+i))=eS (nth (mid s) i)
       rw [Ht (by omega),Nat.zero_add]⟩,trivial⟩,fun k1 hk1=>?_⟩⟩
 have hnl:=Iy (r:=nth (mid s) 0) (j:=k1)
 have htl:=Ef (r:=nth (mid s) 0)
 have hsr:=Bv 32 (nth (mid s) 0)
 have hr:=hrow 0 hm0
 refine ⟨fun h1=>?_,fun h1 hmx=>?_⟩
 ·have h1:k1<(tl (nth (mid s) 0)).length:=by simpa using h1
  exact ⟨⟨by omega,by omega⟩,Ix S hG _ (List.all_eq_true.1 hok _ (Bm h1)),by omega,by omega,(Ad _).2 (by omega),h1,by omega,Dj (Iz h1) rfl,trivial⟩
 ·skip
  have h1:k1=(tl (nth (mid s) 0)).length:=by
   have:¬ k1<(tl (nth (mid s) 0)).length:=by simpa using h1
   omega
  subst h1
  rw [Kh,<-hl0]
  exact ⟨Ny S _ _ (decide_eq_false (by omega)),trivial⟩
theorem Awx {Gl} (S:SP Gl) (s:List UInt8) (hG:GlOK Gl) (hs:s.length<=150) (hR:3<=(Ac 10 s).length) (hok:okR (nth (mid s) 0)=true) (h0:0<(l0T s).length) (hn:(l0T s).all (fun n:Int=>decide (0<=n))=false):CO Gl 110 [str s] (.pan (.iface 135 (.agg #[.string (bs (nth (mid s) 0))]))):=by
 refine Au S (let A0:=(nth (mid s) (0:Nat));let A1:=(Ac (32:UInt8) (nth (Ac (10:UInt8) s) (Int.toNat (0:Int)+Int.toNat (0:Int))));let A2:=(↑(List.length (Ac (10:UInt8) s)):Int);let A3:=(List.length (l0T s):Int);let A4:=(List.length (mid s):Int);let A5:=(↑(List.length A1):Int);let A6:=(↑(List.length (tl A0)):Int);let A7:=(Ac (10:UInt8) s);let A8:=(Res.pan (Value.iface (135:TypeId) (Value.agg #[Value.string (bs A0)])));let A9:=(D.c (C.v (Value.string (bs A0))));let A10:=(Int.toNat (A2-2-(0:Int)));let A11:=(nth A7 (Int.toNat (0:Int)+Int.toNat (0:Int)));((.r (.ret (L eS A7)) (.r (.ret (.tup [])) (.pe (.br (.r (.ret (L eS A1)) (.loop (List.length (tl A0)) (fun j=>v 37 (I j)::v 36 (I A6)::v 35 (L eS (tl A0))::v 28 (I 0)::v 8 (Lt 901 eI (Af A0 j))::tk 901 3::v 7 (str A0)::v 6 (I 0)::v 5 (T.d (D.c Bw))::(bx 4 [Bw,Bw]++Ig s)) fun k1=>.br (.r (.ret (I (Ar (nth (tl A0) k1)))) .nil) (.tt (.r (.ret (.tup [])) (.loop (Ij s) (fun j=>v 56 (I j)::v 55 (I A3)::v 54 (L eI (l0T s))::v 28 (I 0)::v 8 (Lt 901 eI (l0T s))::tk 901 3::v 7 (str A0)::v 6 (I 0)::v 5 (T.d (D.c Bw))::(bx 4 [Bw,Bw]++Ig s)) fun k2=>.ite (decide (k2<Ij s)) (.br (.r (.ret (.tup [])) .nil) (.arrA (nat_lit 68) .nil)) (.br (.r A8 .nil) (.arrA (nat_lit 68) .nil))))))) .nil) (0:Nat) (fun k=>[]) fun k2=>.nil))),(CO Gl 134 [str s,str [(10:UInt8)]] (.ret (L eS A7))/\(List.length A7<=maxLen->CO Gl 135 [B (decide (3<=(↑(List.length (Ac (10:UInt8) s)):Int))),T.d (D.c (C.v (Value.string (bs s))))] (.ret (.tup []))/\(List.length A7<=maxLen->iR (A2-2)/\((0:Int)<=0/\0<=A2-2/\A2-2<=A2)/\(Int.toNat (A2-2-(0:Int))<=maxLen->(decide (0<(↑(Int.toNat ((↑(List.length (Ac (10:UInt8) s)):Int)-2-(0:Int))):Int))=true->((0:Int)<=0/\0<(↑A10:Int))/\CO Gl 134 [str A11,str [(32:UInt8)]] (.ret (L eS A1))/\((0:Int)<=1/\1<=A5/\A5<=A5)/\(Int.toNat (A5-1)<=maxLen->(0=(↑(0:Nat):Int)/\(↑(Int.toNat (A5-1)):Int)=A6/\(SEq (Int.toNat (A5-1)) (fun i=>eS (nth A1 (Int.toNat (1:Int)+i))) (List.length (tl A0)) fun i=>eS (nth (tl A0) i))/\(0:Int)=0/\(0:Nat)=(0:Nat)/\bs A11=bs A0/\(0:Int)=0/\Value.slice none 0 0=Value.slice none 0 0/\Value.slice none 0 0=Value.slice none 0 0/\Value.slice none 0 0=Value.slice none 0 0/\(↑A10:Int)=A4/\(SEq A10 (fun i=>eS (nth A7 (Int.toNat (0:Int)+i))) (List.length (mid s)) fun i=>eS (nth (mid s) i))/\bs s=bs s/\Value.slice none 0 0=Value.slice none 0 0/\Value.slice none 0 0=Value.slice none 0 0)/\∀ (k1:Nat),k1<=List.length (tl A0)->(decide ((k1:Int)<(↑(List.length (tl (nth (mid s) (0:Nat)))):Int))=true->(0<=(k1:Int)/\(k1:Int)<A6)/\CO Gl 136 [str (nth (tl A0) k1)] (.ret (I (Ar (nth (tl A0) k1))))/\(List.length (Af A0 k1)+1)*8<=140737488355328/\List.length (Af A0 k1)+1<=140737488355328/\iR ((k1:Int)+1)/\k1<List.length (tl A0)/\(k1:Int)+1=(↑(k1+1):Int)/\A6=A6/\(sR eS (tl A0))/\(0:Int)=0/\(SEq (List.length (Af A0 k1)+1) (Av (List.length (Af A0 k1)) (fun i=>eI (nth (Af A0 k1) i)) fun i=>List.getD [List.map C.dem [C.v (Value.int IntKind.i64 (Ar (nth (tl A0) k1)))]] i []) (List.length (Af A0 (k1+1))) fun i=>eI (nth (Af A0 (k1+1)) i))/\bs A0=bs A0/\(0:Int)=0/\Value.slice none 0 0=Value.slice none 0 0/\Value.slice none 0 0=Value.slice none 0 0/\Value.slice none 0 0=Value.slice none 0 0/\A4=A4/\(sR eS (mid s))/\bs s=bs s/\Value.slice none 0 0=Value.slice none 0 0/\Value.slice none 0 0=Value.slice none 0 0)/\(decide ((k1:Int)<(↑(List.length (tl (nth (mid s) (0:Nat)))):Int))=false->true=true/\(List.length (Af A0 k1)<=maxLen->CO Gl 135 [B (decide (0<(↑(List.length (Af (nth (mid s) (0:Nat)) k1)):Int))),T.d A9] (.ret (.tup []))/\(List.length (Af A0 k1)<=maxLen->(0=(↑(0:Nat):Int)/\(↑(List.length (Af A0 k1)):Int)=A3/\(sQ eI (Af A0 k1) (l0T s))/\(0:Int)=0/\(sQ eI (Af A0 k1) (l0T s))/\bs A0=bs A0/\(0:Int)=0/\Value.slice none 0 0=Value.slice none 0 0/\Value.slice none 0 0=Value.slice none 0 0/\Value.slice none 0 0=Value.slice none 0 0/\A4=A4/\(sR eS (mid s))/\bs s=bs s/\Value.slice none 0 0=Value.slice none 0 0/\Value.slice none 0 0=Value.slice none 0 0)/\∀ (k2:Nat),k2<=Ij s->(decide (k2<Ij s)=true->(decide ((k2:Int)<(List.length (l0T s):Int))=true->(0<=(k2:Int)/\(k2:Int)<A3)/\CO Gl 135 [B (decide ((0:Int)<=nth (l0T s) k2)),T.d A9] (.ret (.tup []))/\iR ((k2:Int)+1)/\k2<Ij s/\(k2:Int)+1=(↑(k2+1):Int)/\A3=A3/\(sR eI (l0T s))/\(0:Int)=0/\(sR eI (l0T s))/\bs A0=bs A0/\(0:Int)=0/\Value.slice none 0 0=Value.slice none 0 0/\Value.slice none 0 0=Value.slice none 0 0/\Value.slice none 0 0=Value.slice none 0 0/\A4=A4/\(sR eS (mid s))/\bs s=bs s/\Value.slice none 0 0=Value.slice none 0 0/\Value.slice none 0 0=Value.slice none 0 0)/\(decide ((k2:Int)<(List.length (l0T s):Int))=false->List.length (l0T s)<=maxLen->A3=A3/\0<=A3/\List.length (l0T s)*24<=140737488355328/\List.length (l0T s)<=(140737488355328:Nat)/\(1:Nat)*16<=140737488355328/\(1:Nat)<=(140737488355328:Nat)/\iR ((0:Int)+1)/\True/\∀ (k2:Nat),k2<=(0:Nat)->False))/\(decide (k2<Ij s)=false->(decide ((k2:Int)<(List.length (l0T s):Int))=true->(0<=(k2:Int)/\(k2:Int)<A3)/\CO Gl 135 [B (decide ((0:Int)<=nth (l0T s) k2)),T.d A9] A8/\Value.iface (135:Nat) (Value.agg (Array.mk [Value.string (bs A0)]))=Value.iface (135:Nat) (Value.agg (Array.mk [Value.string (bs A0)])))/\(decide ((k2:Int)<(List.length (l0T s):Int))=false->List.length (l0T s)<=maxLen->A3=A3/\0<=A3/\List.length (l0T s)*24<=140737488355328/\List.length (l0T s)<=(140737488355328:Nat)/\(1:Nat)*16<=140737488355328/\(1:Nat)<=(140737488355328:Nat)/\iR ((0:Int)+1)/\True/\∀ (k2:Nat),k2<=(0:Nat)->False)))))))/\(decide (0<(↑(Int.toNat ((↑(List.length (Ac (10:UInt8) s)):Int)-2-(0:Int))):Int))=false->False))))))) Tryz.func110 (by kernel_rfl) (by kernel_rfl) ?_
 have hsp:=Bv 10 s
 have hml:=Lh (s:=s)
 have hll:=Oa s
 have hrow:∀ i,i<(mid s).length->(nth (mid s) i).length<=150:=fun i hi=>by have:=Nx hi;omega
 have hm0:0<(mid s).length:=by omega
 have hl0:l0T s=nsR (nth (mid s) 0):=Ih hm0
 have h00:nth (Ac 10 s) (Int.toNat 0+Int.toNat 0)=nth (mid s) 0:=(Ht hm0).symm
 have hl0n:(l0T s).length<=150:=by rw [hl0];have:=Me (nth (mid s) 0);have:=hrow 0 hm0;omega
 simp only [stdS,imp_self,implies_true,and_true,h00,Ob]
 refine ⟨Ff hG.len s 10 (by omega),fun _=>⟨Dm S _ _ (by simp;omega),fun _=>⟨(Ad _).2 (by omega),⟨by decide,by omega,by omega⟩,fun _=>⟨fun _=>?_,fun h=>?_⟩⟩⟩⟩
 rotate_left
 ·have:=of_decide_eq_false h
  omega
 refine ⟨⟨by omega,by omega⟩,Ff hG.len _ 32 (by have:=hrow 0 hm0;omega),⟨by omega,by have:=Bv 32 (nth (mid s) 0);omega,by omega⟩,fun _=>⟨⟨by have:=Bv 32 (nth (mid s) 0);rw [Ef];omega,Ii _,by omega,.of ⟨by omega,fun i hi=>by
       show eS (nth (Ac 10 s) (0+i))=eS (nth (mid s) i)
       rw [Ht (by omega),Nat.zero_add]⟩,trivial⟩,fun k1 hk1=>?_⟩⟩
 have hnl:=Iy (r:=nth (mid s) 0) (j:=k1)
 have htl:=Ef (r:=nth (mid s) 0)
 have hsr:=Bv 32 (nth (mid s) 0)
 have hr:=hrow 0 hm0
 refine ⟨fun h1=>?_,fun h1 hmx=>?_⟩
 ·have h1:k1<(tl (nth (mid s) 0)).length:=by simpa using h1
  exact ⟨⟨by omega,by omega⟩,Ix S hG _ (List.all_eq_true.1 hok _ (Bm h1)),by omega,by omega,(Ad _).2 (by omega),h1,by omega,Dj (Iz h1) rfl,trivial⟩
 ·skip
  have h1:k1=(tl (nth (mid s) 0)).length:=by
   have:¬ k1<(tl (nth (mid s) 0)).length:=by simpa using h1
   omega
  subst h1
  rw [Kh,<-hl0]
  have hpl:Ij s<(l0T s).length:=by
   rcases Nat.lt_or_ge (Ij s) (l0T s).length with hh|hh
   ·exact hh
   ·have:(l0T s).all (fun n:Int=>decide (0<=n))=true:=Im hh
    rw [this] at hn;cases hn
  have hpb:decide (0<=nth (l0T s) (Ij s))=false:=Nf (p:=fun n:Int=>decide (0<=n)) hpl
  refine ⟨Dm S _ _ (decide_eq_true (by omega)),fun _=>⟨⟨rfl,Be rfl,Be rfl,trivial⟩,fun k2 hk2=>⟨fun hc=>⟨fun hd=>?_,fun hd=>?_⟩,fun hc=>⟨fun hd=>?_,fun hd=>?_⟩⟩⟩⟩
  ·have hc:k2<Ij s:=of_decide_eq_true hc
   have hx:decide (0<=nth (l0T s) k2)=true:=Kx (p:=fun n:Int=>decide (0<=n)) hc
   exact ⟨⟨by omega,by omega⟩,Dm S _ _ hx,(Ad _).2 (by omega),hc,by omega,trivial⟩
  ·exfalso
   have hc:k2<Ij s:=of_decide_eq_true hc
   have hd:¬ (k2:Int)<((l0T s).length:Int):=of_decide_eq_false hd
   omega
  ·have hc:k2=Ij s:=by have:¬ k2<Ij s:=of_decide_eq_false hc;omega
   subst hc
   exact ⟨⟨by omega,by omega⟩,Ny S _ _ hpb,trivial⟩
  ·exfalso
   have hc:¬ k2<Ij s:=of_decide_eq_false hc
   have hd:¬ (k2:Int)<((l0T s).length:Int):=of_decide_eq_false hd
   omega
theorem Awy {Gl} (S:SP Gl) (s:List UInt8) (hG:GlOK Gl) (hs:s.length<=150) (b:Nat) (hR:3<=(Ac 10 s).length) (hb:b+1<(mid s).length) (hok:∀ i,i<b+1->okR (nth (mid s) i)=true) (hf1:0<(l0T s).length) (hf2:∀ n∈l0T s,0<=n) (hf3:∀ k,k<b->(nth (lsT s) (k+1)).length=(l0T s).length) (hbad:okR (nth (mid s) (b+1))=false):CO Gl 110 [str s] (.pan (.iface 135 (.agg #[.string (bs (nth (tl (nth (mid s) (b+1))) (Cc (nth (mid s) (b+1)))))]))):=by
 refine Au S (let A0:=fun (k2 k3:Nat)=>(List.length (Af (nth (mid s) (k2+1)) k3)<=maxLen->List.length (l0T s)<=maxLen->CO Gl 135 [B ((↑(List.length (Af (nth (mid s) (k2+1)) k3)):Int)==(List.length (l0T s):Int)),T.d (D.c (C.v (Value.string (bs (nth (mid s) (k2+1))))))] (.ret (.tup []))/\(List.length (Af (nth (mid s) (k2+1)) k3)<=maxLen->(0=(↑(0:Nat):Int)/\(↑(List.length (Af (nth (mid s) (k2+1)) k3)):Int)=(List.length (l0T s):Int)/\(sQ eI (Af (nth (mid s) (k2+1)) k3) (nth (lsT s) (k2+1)))/\(k2:Int)+1=(k2:Int)+1/\(sQ eI (Af (nth (mid s) (k2+1)) k3) (nth (lsT s) (k2+1)))/\(sR eLn (List.take (k2+1) (Bi (lsT s))))/\List.length (l0T s)=List.length (l0T s)/\(sR eI (l0T s))/\OEq (List.length (l0T s)) (Ce s k2) (List.length (l0T s)) (Ea s k2 (0:Nat))/\(List.length (mid s):Int)=(List.length (mid s):Int)/\(sR eS (mid s))/\bs s=bs s/\Value.slice none 0 0=Value.slice none 0 0/\Value.slice none 0 0=Value.slice none 0 0)/\∀ (k4:Nat),k4<=List.length (l0T s)->(decide ((k4:Int)<(List.length (l0T s):Int))=true->(0<=(k4:Int)/\(k4:Int)<(↑(List.length (nth (lsT s) (k2+1))):Int))/\(0<=(k4:Int)/\(k4:Int)<(List.length (l0T s):Int))/\k4<List.length (l0T s)/\(List.length (El s (bif Nat.blt k4 k4 then k2+(1:Nat) else k2) k4)+1)*8<=140737488355328/\List.length (El s (bif Nat.blt k4 k4 then k2+(1:Nat) else k2) k4)+1<=140737488355328/\(0<=(k4:Int)/\(k4:Int)<(List.length (l0T s):Int))/\k4=k4/\k4<List.length (l0T s)/\iR ((k4:Int)+1)/\k4<List.length (l0T s)/\(k4:Int)+1=(↑(k4+1):Int)/\(List.length (l0T s):Int)=(List.length (l0T s):Int)/\(sR eI (nth (lsT s) (k2+1)))/\(k2:Int)+1=(k2:Int)+1/\(sR eI (nth (lsT s) (k2+1)))/\(sR eLn (List.take (k2+1) (Bi (lsT s))))/\List.length (l0T s)=List.length (l0T s)/\(sR eI (l0T s))/\OEq (List.length (l0T s)) (Eo (Ea s k2 k4) k4 (List.length (El s (bif Nat.blt k4 k4 then k2+(1:Nat) else k2) k4)+(1:Nat),Av (List.length (El s (bif Nat.blt k4 k4 then k2+(1:Nat) else k2) k4)) (fun i=>eI (nth (El s (bif Nat.blt k4 k4 then k2+(1:Nat) else k2) k4) i)) fun i=>List.getD [List.map C.dem [C.v (Value.int IntKind.i64 (nth (nth (lsT s) (k2+1)) k4))]] i [])) (List.length (l0T s)) (Ea s k2 (k4+1))/\(List.length (mid s):Int)=(List.length (mid s):Int)/\(sR eS (mid s))/\bs s=bs s/\Value.slice none 0 0=Value.slice none 0 0/\Value.slice none 0 0=Value.slice none 0 0)/\(decide ((k4:Int)<(List.length (l0T s):Int))=false->(List.length (List.take (k2+1) (Bi (lsT s)))+1)*16<=140737488355328/\List.length (List.take (k2+1) (Bi (lsT s)))+1<=140737488355328/\iR ((k2:Int)+1+(1:Int))/\k2<b/\(k2:Int)+1+1=(↑(k2+1):Int)+1/\(SEq (List.length (List.take (k2+1) (Bi (lsT s)))+1) (Av (List.length (List.take (k2+1) (Bi (lsT s)))) (fun i=>eLn (nth (List.take (k2+1) (Bi (lsT s))) i)) fun i=>List.getD [List.map C.dem [C.i (124:Nat) true [C.s Tag.n (List.length (nth (lsT s) (k2+1))) fun i=>eI (nth (nth (lsT s) (k2+1)) i)]]] i []) (List.length (List.take (k2+(1:Nat)+1) (Bi (lsT s)))) fun i=>eLn (nth (List.take (k2+(1:Nat)+1) (Bi (lsT s))) i))/\List.length (l0T s)=List.length (l0T s)/\(sR eI (l0T s))/\OEq (List.length (l0T s)) (Ea s k2 k4) (List.length (l0T s)) (Ce s (k2+1))/\(List.length (mid s):Int)=(List.length (mid s):Int)/\(sR eS (mid s))/\bs s=bs s/\Value.slice none 0 0=Value.slice none 0 0/\Value.slice none 0 0=Value.slice none 0 0)));let A1:=fun (k2:Nat)=>(Int.toNat ((↑(List.length (Ac (32:UInt8) (nth (mid s) (Int.toNat ((k2:Int)+1))))):Int)-1)<=maxLen->(0=(↑(0:Nat):Int)/\(↑(Int.toNat ((↑(List.length (Ac (32:UInt8) (nth (mid s) (Int.toNat ((k2:Int)+1))))):Int)-1)):Int)=(↑(List.length (tl (nth (mid s) (k2+1)))):Int)/\(SEq (Int.toNat ((↑(List.length (Ac (32:UInt8) (nth (mid s) (Int.toNat ((k2:Int)+1))))):Int)-1)) (fun i=>eS (nth (Ac (32:UInt8) (nth (mid s) (Int.toNat ((k2:Int)+1)))) (Int.toNat (1:Int)+i))) (List.length (tl (nth (mid s) (k2+1)))) fun i=>eS (nth (tl (nth (mid s) (k2+1))) i))/\(k2:Int)+1=(k2:Int)+1/\(0:Nat)=(0:Nat)/\bs (nth (mid s) (Int.toNat ((k2:Int)+1)))=bs (nth (mid s) (k2+1))/\(k2:Int)+1=(k2:Int)+1/\(sR eLn (List.take (k2+1) (Bi (lsT s))))/\List.length (l0T s)=List.length (l0T s)/\(sR eI (l0T s))/\OEq (List.length (l0T s)) (Ce s k2) (List.length (l0T s)) (Ce s k2)/\(List.length (mid s):Int)=(List.length (mid s):Int)/\(sR eS (mid s))/\bs s=bs s/\Value.slice none 0 0=Value.slice none 0 0/\Value.slice none 0 0=Value.slice none 0 0)/\∀ (k3:Nat),k3<=Cc (nth (mid s) (k2+1))->(decide (k3<Cc (nth (mid s) (k2+1)))=true->(decide ((k3:Int)<(↑(List.length (tl (nth (mid s) (k2+1)))):Int))=true->(0<=(k3:Int)/\(k3:Int)<(↑(List.length (tl (nth (mid s) (k2+1)))):Int))/\CO Gl 136 [str (nth (tl (nth (mid s) (k2+1))) k3)] (.ret (I (Ar (nth (tl (nth (mid s) (k2+1))) k3))))/\(List.length (Af (nth (mid s) (k2+1)) k3)+1)*8<=140737488355328/\List.length (Af (nth (mid s) (k2+1)) k3)+1<=140737488355328/\iR ((k3:Int)+1)/\k3<Cc (nth (mid s) (k2+1))/\(k3:Int)+1=(↑(k3+1):Int)/\(↑(List.length (tl (nth (mid s) (k2+1)))):Int)=(↑(List.length (tl (nth (mid s) (k2+1)))):Int)/\(sR eS (tl (nth (mid s) (k2+1))))/\(k2:Int)+1=(k2:Int)+1/\(SEq (List.length (Af (nth (mid s) (k2+1)) k3)+1) (Av (List.length (Af (nth (mid s) (k2+1)) k3)) (fun i=>eI (nth (Af (nth (mid s) (k2+1)) k3) i)) fun i=>List.getD [List.map C.dem [C.v (Value.int IntKind.i64 (Ar (nth (tl (nth (mid s) (k2+1))) k3)))]] i []) (List.length (Af (nth (mid s) (k2+1)) (k3+1))) fun i=>eI (nth (Af (nth (mid s) (k2+1)) (k3+1)) i))/\bs (nth (mid s) (k2+1))=bs (nth (mid s) (k2+1))/\(k2:Int)+1=(k2:Int)+1/\(sR eLn (List.take (k2+1) (Bi (lsT s))))/\List.length (l0T s)=List.length (l0T s)/\(sR eI (l0T s))/\OEq (List.length (l0T s)) (Ce s k2) (List.length (l0T s)) (Ce s k2)/\(List.length (mid s):Int)=(List.length (mid s):Int)/\(sR eS (mid s))/\bs s=bs s/\Value.slice none 0 0=Value.slice none 0 0/\Value.slice none 0 0=Value.slice none 0 0)/\(decide ((k3:Int)<(↑(List.length (tl (nth (mid s) (k2+1)))):Int))=false->false=false/\(A0 k2 k3)))/\(decide (k3<Cc (nth (mid s) (k2+1)))=false->(decide ((k3:Int)<(↑(List.length (tl (nth (mid s) (k2+1)))):Int))=true->(0<=(k3:Int)/\(k3:Int)<(↑(List.length (tl (nth (mid s) (k2+1)))):Int))/\CO Gl 136 [str (nth (tl (nth (mid s) (k2+1))) k3)] (Res.pan (Value.iface (135:TypeId) (Value.agg #[Value.string (bs (nth (tl (nth (mid s) (k2+1))) k3))])))/\Value.iface (135:Nat) (Value.agg (Array.mk [Value.string (bs (nth (tl (nth (mid s) (k2+1))) k3))]))=Value.iface (135:Nat) (Value.agg (Array.mk [Value.string (bs (nth (tl (nth (mid s) (b+1))) (Cc (nth (mid s) (b+1)))))])))/\(decide ((k3:Int)<(↑(List.length (tl (nth (mid s) (k2+1)))):Int))=false->false=false/\(A0 k2 k3))));let A2:=(nth (mid s) (0:Nat));let A3:=(Ac (32:UInt8) (nth (Ac (10:UInt8) s) (Int.toNat (0:Int)+Int.toNat (0:Int))));let A4:=fun (k2:Nat)=>(fun (j:Nat)=>v 87 (I j)::v 86 (I (List.length (l0T s):Int))::v 85 (L eI (nth (lsT s) (k2+1)))::v 28 (I ((k2:Int)+1))::v 8 (Lt 901 eI (nth (lsT s) (k2+1)))::tk 901 3::Yn s k2 j);let A5:=fun (k2:Nat)=>(Ac (32:UInt8) (nth (mid s) (Int.toNat ((k2:Int)+1))));let A6:=(↑(List.length (Ac (10:UInt8) s)):Int);let A7:=fun (k2:Nat)=>(fun (j:Nat)=>v 37 (I j)::v 36 (I (↑(List.length (tl (nth (mid s) (k2+1)))):Int))::v 35 (L eS (tl (nth (mid s) (k2+1))))::v 28 (I ((k2:Int)+1))::v 8 (Lt 901 eI (Af (nth (mid s) (k2+1)) j))::tk 901 3::v 7 (str (nth (mid s) (k2+1)))::v 6 (I ((k2:Int)+1))::Nz s k2);let A8:=fun (k2:Nat)=>(Cu (List.map lnT (List.take (k2+1) (Bi (lsT s)))));let A9:=(List.length (mid s):Int);let A10:=(List.length (l0T s):Int);let A11:=(List.length (l0T s));let A12:=(↑(List.length A3):Int);let A13:=(↑(List.length (tl A2)):Int);let A14:=(Ac (10:UInt8) s);let A15:=fun (k2:Nat)=>(↑(List.length (A5 k2)):Int);let A16:=fun (k2:Nat)=>[B (ByteArray.toList (bs (A8 k2))==ByteArray.toList (bs s)),T.d (D.c (C.v (Value.string (bs s))))];let A17:=fun (k2 k3:Nat)=>(Res.pan (Value.iface (135:TypeId) (Value.agg #[Value.string (bs (nth (tl (nth (mid s) (k2+1))) k3))])));let A18:=(Int.toNat (A6-2-(0:Int)));let A19:=(nth A14 (Int.toNat (0:Int)+Int.toNat (0:Int)));((.r (.ret (L eS A14)) (.r (.ret (.tup [])) (.pe (.br (.r (.ret (L eS A3)) (.loop (List.length (tl A2)) (fun j=>v 37 (I j)::v 36 (I A13)::v 35 (L eS (tl A2))::v 28 (I 0)::v 8 (Lt 901 eI (Af A2 j))::tk 901 3::v 7 (str A2)::v 6 (I 0)::v 5 (T.d (D.c Bw))::(bx 4 [Bw,Bw]++Ig s)) fun k1=>.br (.r (.ret (I (Ar (nth (tl A2) k1)))) .nil) (.tt (.r (.ret (.tup [])) (.loop A11 (fun j=>v 56 (I j)::v 55 (I A10)::v 54 (L eI (l0T s))::v 28 (I 0)::v 8 (Lt 901 eI (l0T s))::tk 901 3::v 7 (str A2)::v 6 (I 0)::v 5 (T.d (D.c Bw))::(bx 4 [Bw,Bw]++Ig s)) fun k2=>.br (.r (.ret (.tup [])) .nil) (.arrA (nat_lit 68) .nil)))))) .nil) b (fun k=>v 28 (I ((k:Int)+1))::Nz s k) fun k2=>.ite (decide (k2<b)) (.br (.r (.ret (L eS (A5 k2))) (.loop (Cc (nth (mid s) (k2+1))) (A7 k2) fun k3=>.ite (decide (k3<Cc (nth (mid s) (k2+1)))) (.br (.r (.ret (I (Ar (nth (tl (nth (mid s) (k2+1))) k3)))) .nil) (.ff (.r (.ret (.tup [])) (.loop A11 (A4 k2) fun k4=>.br (.arrA (nat_lit 99) .nil) .nil)))) (.br (.r (A17 k2 k3) .nil) (.ff (.r (.ret (.tup [])) (.loop A11 (A4 k2) fun k4=>.br (.arrA (nat_lit 99) .nil) .nil)))))) (.r (.ret (str (A8 k2))) (.r (.ret (.tup [])) .nil))) (.br (.r (.ret (L eS (A5 k2))) (.loop (Cc (nth (mid s) (k2+1))) (A7 k2) fun k3=>.ite (decide (k3<Cc (nth (mid s) (k2+1)))) (.br (.r (.ret (I (Ar (nth (tl (nth (mid s) (k2+1))) k3)))) .nil) (.ff (.r (.ret (.tup [])) (.loop A11 (A4 k2) fun k4=>.br (.arrA (nat_lit 99) .nil) .nil)))) (.br (.r (A17 k2 k3) .nil) (.ff (.r (.ret (.tup [])) (.loop A11 (A4 k2) fun k4=>.br (.arrA (nat_lit 99) .nil) .nil)))))) (.r (.ret (str (A8 k2))) (.r (.ret (.tup [])) .nil)))))),(CO Gl 134 [str s,str [(10:UInt8)]] (.ret (L eS A14))/\(List.length A14<=maxLen->CO Gl 135 [B (decide (3<=(↑(List.length (Ac (10:UInt8) s)):Int))),T.d (D.c (C.v (Value.string (bs s))))] (.ret (.tup []))/\(List.length A14<=maxLen->iR (A6-2)/\((0:Int)<=0/\0<=A6-2/\A6-2<=A6)/\(Int.toNat (A6-2-(0:Int))<=maxLen->(decide (0<(↑(Int.toNat ((↑(List.length (Ac (10:UInt8) s)):Int)-2-(0:Int))):Int))=true->((0:Int)<=0/\0<(↑A18:Int))/\CO Gl 134 [str A19,str [(32:UInt8)]] (.ret (L eS A3))/\((0:Int)<=1/\1<=A12/\A12<=A12)/\(Int.toNat (A12-1)<=maxLen->(0=(↑(0:Nat):Int)/\(↑(Int.toNat (A12-1)):Int)=A13/\(SEq (Int.toNat (A12-1)) (fun i=>eS (nth A3 (Int.toNat (1:Int)+i))) (List.length (tl A2)) fun i=>eS (nth (tl A2) i))/\(0:Int)=0/\(0:Nat)=(0:Nat)/\bs A19=bs A2/\(0:Int)=0/\Value.slice none 0 0=Value.slice none 0 0/\Value.slice none 0 0=Value.slice none 0 0/\Value.slice none 0 0=Value.slice none 0 0/\(↑A18:Int)=A9/\(SEq A18 (fun i=>eS (nth A14 (Int.toNat (0:Int)+i))) (List.length (mid s)) fun i=>eS (nth (mid s) i))/\bs s=bs s/\Value.slice none 0 0=Value.slice none 0 0/\Value.slice none 0 0=Value.slice none 0 0)/\∀ (k1:Nat),k1<=List.length (tl A2)->(decide ((k1:Int)<(↑(List.length (tl (nth (mid s) (0:Nat)))):Int))=true->(0<=(k1:Int)/\(k1:Int)<A13)/\CO Gl 136 [str (nth (tl A2) k1)] (.ret (I (Ar (nth (tl A2) k1))))/\(List.length (Af A2 k1)+1)*8<=140737488355328/\List.length (Af A2 k1)+1<=140737488355328/\iR ((k1:Int)+1)/\k1<List.length (tl A2)/\(k1:Int)+1=(↑(k1+1):Int)/\A13=A13/\(sR eS (tl A2))/\(0:Int)=0/\(SEq (List.length (Af A2 k1)+1) (Av (List.length (Af A2 k1)) (fun i=>eI (nth (Af A2 k1) i)) fun i=>List.getD [List.map C.dem [C.v (Value.int IntKind.i64 (Ar (nth (tl A2) k1)))]] i []) (List.length (Af A2 (k1+1))) fun i=>eI (nth (Af A2 (k1+1)) i))/\bs A2=bs A2/\(0:Int)=0/\Value.slice none 0 0=Value.slice none 0 0/\Value.slice none 0 0=Value.slice none 0 0/\Value.slice none 0 0=Value.slice none 0 0/\A9=A9/\(sR eS (mid s))/\bs s=bs s/\Value.slice none 0 0=Value.slice none 0 0/\Value.slice none 0 0=Value.slice none 0 0)/\(decide ((k1:Int)<(↑(List.length (tl (nth (mid s) (0:Nat)))):Int))=false->true=true/\(List.length (Af A2 k1)<=maxLen->CO Gl 135 [B (decide (0<(↑(List.length (Af (nth (mid s) (0:Nat)) k1)):Int))),T.d (D.c (C.v (Value.string (bs A2))))] (.ret (.tup []))/\(List.length (Af A2 k1)<=maxLen->(0=(↑(0:Nat):Int)/\(↑(List.length (Af A2 k1)):Int)=A10/\(sQ eI (Af A2 k1) (l0T s))/\(0:Int)=0/\(sQ eI (Af A2 k1) (l0T s))/\bs A2=bs A2/\(0:Int)=0/\Value.slice none 0 0=Value.slice none 0 0/\Value.slice none 0 0=Value.slice none 0 0/\Value.slice none 0 0=Value.slice none 0 0/\A9=A9/\(sR eS (mid s))/\bs s=bs s/\Value.slice none 0 0=Value.slice none 0 0/\Value.slice none 0 0=Value.slice none 0 0)/\∀ (k2:Nat),k2<=List.length (l0T s)->(decide ((k2:Int)<(List.length (l0T s):Int))=true->(0<=(k2:Int)/\(k2:Int)<A10)/\CO Gl 135 [B (decide ((0:Int)<=nth (l0T s) k2)),T.d (D.c (C.v (Value.string (bs A2))))] (.ret (.tup []))/\iR ((k2:Int)+1)/\k2<List.length (l0T s)/\(k2:Int)+1=(↑(k2+1):Int)/\A10=A10/\(sR eI (l0T s))/\(0:Int)=0/\(sR eI (l0T s))/\bs A2=bs A2/\(0:Int)=0/\Value.slice none 0 0=Value.slice none 0 0/\Value.slice none 0 0=Value.slice none 0 0/\Value.slice none 0 0=Value.slice none 0 0/\A9=A9/\(sR eS (mid s))/\bs s=bs s/\Value.slice none 0 0=Value.slice none 0 0/\Value.slice none 0 0=Value.slice none 0 0)/\(decide ((k2:Int)<(List.length (l0T s):Int))=false->List.length (l0T s)<=maxLen->A10=A10/\0<=A10/\List.length (l0T s)*24<=140737488355328/\List.length (l0T s)<=(140737488355328:Nat)/\(1:Nat)*16<=140737488355328/\(1:Nat)<=(140737488355328:Nat)/\iR ((0:Int)+1)/\((0:Int)+1=(↑(0:Nat):Int)+1/\(SEq (1:Nat) (fun i=>List.getD [List.map C.dem [C.i (121:Nat) true [C.s Tag.n A11 fun i=>eI (nth (l0T s) i)]]] i []) (List.length (List.take ((0:Nat)+1) (Bi (lsT s)))) fun i=>eLn (nth (List.take ((0:Nat)+1) (Bi (lsT s))) i))/\List.length (l0T s)=List.length (l0T s)/\(sR eI (l0T s))/\OEq A11 (fun x=>((0:Nat),fun x=>[])) A11 (Ce s (0:Nat))/\A9=A9/\(sR eS (mid s))/\bs s=bs s/\Value.slice none 0 0=Value.slice none 0 0/\Value.slice none 0 0=Value.slice none 0 0)/\∀ (k2:Nat),k2<=b->(decide (k2<b)=true->(decide ((k2:Int)+1<(List.length (mid s):Int))=true->(0<=(k2:Int)+1/\(k2:Int)+1<A9)/\CO Gl 134 [str (nth (mid s) (Int.toNat ((k2:Int)+1))),str [(32:UInt8)]] (.ret (L eS (A5 k2)))/\((0:Int)<=1/\1<=(A15 k2)/\(A15 k2)<=(A15 k2))/\(A1 k2))/\(decide ((k2:Int)+1<(List.length (mid s):Int))=false->CO Gl 108 [T.d (D.c (C.l eLn (List.take (k2+1) (Bi (lsT s)))))] (.ret (str (A8 k2)))/\CO Gl 135 (A16 k2) (.ret (.tup []))/\List.length (l0T s)=List.length (l0T s)/\False))/\(decide (k2<b)=false->(decide ((k2:Int)+1<(List.length (mid s):Int))=true->(0<=(k2:Int)+1/\(k2:Int)+1<A9)/\CO Gl 134 [str (nth (mid s) (Int.toNat ((k2:Int)+1))),str [(32:UInt8)]] (.ret (L eS (A5 k2)))/\((0:Int)<=1/\1<=(A15 k2)/\(A15 k2)<=(A15 k2))/\(A1 k2))/\(decide ((k2:Int)+1<(List.length (mid s):Int))=false->CO Gl 108 [T.d (D.c (C.l eLn (List.take (k2+1) (Bi (lsT s)))))] (.ret (str (A8 k2)))/\CO Gl 135 (A16 k2) (.ret (.tup []))/\List.length (l0T s)=List.length (l0T s)/\False))))))))/\(decide (0<(↑(Int.toNat ((↑(List.length (Ac (10:UInt8) s)):Int)-2-(0:Int))):Int))=false->False))))))) Tryz.func110 (by kernel_rfl) (by kernel_rfl) ?_
 have hsp:=Bv 10 s
 have hml:=Lh (s:=s)
 have hll:=Oa s
 have hrow:∀ i,i<(mid s).length->(nth (mid s) i).length<=150:=fun i hi=>by have:=Nx hi;omega
 have hm0:0<(mid s).length:=by omega
 have hl0:l0T s=nsR (nth (mid s) 0):=Ih hm0
 have h00:nth (Ac 10 s) (Int.toNat 0+Int.toNat 0)=nth (mid s) 0:=(Ht hm0).symm
 have hl0n:(l0T s).length<=150:=by rw [hl0];have:=Me (nth (mid s) 0);have:=hrow 0 hm0;omega
 simp only [stdS,imp_self,implies_true,and_true,h00,Ob]
 refine ⟨Ff hG.len s 10 (by omega),fun _=>⟨Dm S _ _ (by simp;omega),fun _=>⟨(Ad _).2 (by omega),⟨by decide,by omega,by omega⟩,fun _=>⟨fun _=>?_,fun h=>?_⟩⟩⟩⟩
 rotate_left
 ·have:=of_decide_eq_false h
  omega
 refine ⟨⟨by omega,by omega⟩,Ff hG.len _ 32 (by have:=hrow 0 hm0;omega),⟨by omega,by have:=Bv 32 (nth (mid s) 0);omega,by omega⟩,fun _=>⟨⟨by have:=Bv 32 (nth (mid s) 0);rw [Ef];omega,Ii _,by omega,.of ⟨by omega,fun i hi=>by
       show eS (nth (Ac 10 s) (0+i))=eS (nth (mid s) i)
       rw [Ht (by omega),Nat.zero_add]⟩,trivial⟩,fun k1 hk1=>?_⟩⟩
 have hnl:=Iy (r:=nth (mid s) 0) (j:=k1)
 have htl:=Ef (r:=nth (mid s) 0)
 have hsr:=Bv 32 (nth (mid s) 0)
 have hr:=hrow 0 hm0
 refine ⟨fun h1=>?_,fun h1 hmx=>?_⟩
 ·have h1:k1<(tl (nth (mid s) 0)).length:=by simpa using h1
  exact ⟨⟨by omega,by omega⟩,Ix S hG _ (List.all_eq_true.1 (hok 0 (by omega)) _ (Bm h1)),by omega,by omega,(Ad _).2 (by omega),h1,by omega,Dj (Iz h1) rfl,trivial⟩
 ·skip
  have h1:k1=(tl (nth (mid s) 0)).length:=by
   have:¬ k1<(tl (nth (mid s) 0)).length:=by simpa using h1
   omega
  subst h1
  rw [Kh,<-hl0]
  refine ⟨Dm S _ _ (decide_eq_true (by omega)),fun _=>⟨⟨rfl,Be rfl,Be rfl,trivial⟩,fun k2 hk2=>⟨fun hd=>?_,fun hd _=>⟨by omega,by omega,by omega,by decide,by decide,(Ad _).2 (by omega),?_,fun k3 hk3=>⟨fun hc=>⟨fun h3=>?_,fun h3=>?_⟩,fun hc=>⟨fun h3=>?_,fun h3=>?_⟩⟩⟩⟩⟩⟩
  ·have hd:k2<(l0T s).length:=by simpa using hd
   exact ⟨⟨by omega,by omega⟩,Dm S _ _ (decide_eq_true (hf2 _ (Bm hd))),(Ad _).2 (by omega),hd,by omega,trivial⟩
  ·refine ⟨.of ⟨by rw [List.length_take,Gc];omega,fun i hi=>?_⟩,Yt s _,trivial⟩
   have:i=0:=by omega
   subst this
   show [C.i 121 true [C.l eI (l0T s)]]=eLn (nth ((Bi (lsT s)).take 1) 0)
   rw [Tq (by omega),Yo (by omega)]
   rfl
  ·have hc:k3<b:=of_decide_eq_true hc
   have hlt:k3+1<(mid s).length:=by omega
   have hlen:=hf3 k3 hc
   have ht3:((k3:Int)+1).toNat=k3+1:=by omega
   have hrw:=hrow (k3+1) hlt
   have hlk:nth (lsT s) (k3+1)=nsR (nth (mid s) (k3+1)):=Ih hlt
   have hcl:=fun j=>Rr s (k:=k3) (by omega) j
   have hll2:((Bi (lsT s)).take (k3+1)).length=k3+1:=by rw [List.length_take,Gc];omega
   have hbb:∀ j:Nat,Nat.blt j j=false:=fun j=>Fc (Nat.lt_irrefl j)
   have htl:=Ef (r:=nth (mid s) (k3+1))
   have hsr:=Bv 32 (nth (mid s) (k3+1))
   simp only [ht3,hbb,cond_false]
   refine ⟨⟨by omega,by omega⟩,Ff hG.len _ 32 (by omega),⟨by omega,by omega,by omega⟩,fun _=>⟨⟨by omega,Ii _,trivial,trivial⟩,fun k4 hk4=>?_⟩⟩
   have hnl:=Iy (r:=nth (mid s) (k3+1)) (j:=k4)
   have hga:=Aws (r:=nth (mid s) (k3+1)) (hok (k3+1) (by omega))
   refine ⟨fun hg=>⟨fun h4=>?_,fun h4 hmx _=>?_⟩,fun hg=>⟨fun h4=>?_,fun h4 hmx _=>?_⟩⟩
   ·have hg:k4<Cc (nth (mid s) (k3+1)):=of_decide_eq_true hg
    have h4:k4<(tl (nth (mid s) (k3+1))).length:=by omega
    exact ⟨⟨by omega,by omega⟩,Ix S hG _ (Ad8 hg),by omega,by omega,(Ad _).2 (by omega),hg,by omega,Dj (Iz h4) rfl,trivial⟩
   ·exfalso
    have hg:k4<Cc (nth (mid s) (k3+1)):=of_decide_eq_true hg
    have h4:¬ (k4:Int)<((tl (nth (mid s) (k3+1))).length:Int):=of_decide_eq_false h4
    omega
   ·exfalso
    have hg:¬ k4<Cc (nth (mid s) (k3+1)):=of_decide_eq_false hg
    have h4:(k4:Int)<((tl (nth (mid s) (k3+1))).length:Int):=of_decide_eq_true h4
    omega
   ·skip
    have h4:k4=(tl (nth (mid s) (k3+1))).length:=by
     have:¬ k4<(tl (nth (mid s) (k3+1))).length:=by simpa using h4
     omega
    subst h4
    rw [Kh,<-hlk]
    refine ⟨Dm S _ _ (by rw [hlen];exact beq_self_eq_true _),fun _=>⟨⟨by rw [hlen],Be rfl,Be rfl,Yr s _ _,trivial⟩,fun k5 hk5=>⟨fun h5=>?_,fun h5=>?_⟩⟩⟩
    ·have h5:k5<(l0T s).length:=by simpa using h5
     have:=hcl k5
     exact ⟨⟨by omega,by omega⟩,⟨by omega,by omega⟩,h5,by omega,by omega,⟨by omega,by omega⟩,h5,(Ad _).2 (by omega),h5,by omega,Yq (by omega) _,trivial⟩
    ·have h5:k5=(l0T s).length:=by
      have:¬ k5<(l0T s).length:=by simpa using h5
      omega
     subst h5
     refine ⟨by omega,by omega,(Ad _).2 (by omega),hc,by omega,?_,Ys s _ _,trivial⟩
     refine Jg (by rw [Gc];omega) ?_
     rw [Yp (by omega)]
     rfl
  ·exfalso
   have hc:k3<b:=of_decide_eq_true hc
   have h3:¬ (k3:Int)+1<((mid s).length:Int):=of_decide_eq_false h3
   omega
  ·have hc:k3=b:=by have:¬ k3<b:=of_decide_eq_false hc;omega
   subst hc
   have hlt:k3+1<(mid s).length:=hb
   have ht3:((k3:Int)+1).toNat=k3+1:=by omega
   have hrw:=hrow (k3+1) hlt
   have hlk:nth (lsT s) (k3+1)=nsR (nth (mid s) (k3+1)):=Ih hlt
   have hcl:=fun j=>Rr s (k:=k3) (by omega) j
   have hll2:((Bi (lsT s)).take (k3+1)).length=k3+1:=by rw [List.length_take,Gc];omega
   have hbb:∀ j:Nat,Nat.blt j j=false:=fun j=>Fc (Nat.lt_irrefl j)
   have htl:=Ef (r:=nth (mid s) (k3+1))
   have hsr:=Bv 32 (nth (mid s) (k3+1))
   simp only [ht3,hbb,cond_false]
   refine ⟨⟨by omega,by omega⟩,Ff hG.len _ 32 (by omega),⟨by omega,by omega,by omega⟩,fun _=>⟨⟨by omega,Ii _,trivial,trivial⟩,fun k4 hk4=>?_⟩⟩
   have hnl:=Iy (r:=nth (mid s) (k3+1)) (j:=k4)
   obtain ⟨hg1,hg2⟩:=Alb hbad
   refine ⟨fun hg=>⟨fun h4=>?_,fun h4 hmx _=>?_⟩,fun hg=>⟨fun h4=>?_,fun h4 hmx _=>?_⟩⟩
   ·have hg:k4<Cc (nth (mid s) (k3+1)):=of_decide_eq_true hg
    have h4:k4<(tl (nth (mid s) (k3+1))).length:=by omega
    exact ⟨⟨by omega,by omega⟩,Ix S hG _ (Ad8 hg),by omega,by omega,(Ad _).2 (by omega),hg,by omega,Dj (Iz h4) rfl,trivial⟩
   ·exfalso
    have hg:k4<Cc (nth (mid s) (k3+1)):=of_decide_eq_true hg
    have h4:¬ (k4:Int)<((tl (nth (mid s) (k3+1))).length:Int):=of_decide_eq_false h4
    omega
   ·have hg:k4=Cc (nth (mid s) (k3+1)):=by have:¬ k4<Cc (nth (mid s) (k3+1)):=of_decide_eq_false hg;omega
    subst hg
    exact ⟨⟨by omega,by omega⟩,Aky S hG _ hg2,rfl⟩
   ·exfalso
    have hg:¬ k4<Cc (nth (mid s) (k3+1)):=of_decide_eq_false hg
    have h4:¬ (k4:Int)<((tl (nth (mid s) (k3+1))).length:Int):=of_decide_eq_false h4
    omega
  ·exfalso
   have h3:¬ (k3:Int)+1<((mid s).length:Int):=of_decide_eq_false h3
   omega
theorem Awz {Gl} (S:SP Gl) (s:List UInt8) (hG:GlOK Gl) (hs:s.length<=150) (b:Nat) (hR:3<=(Ac 10 s).length) (hb:b+1<(mid s).length) (hok:∀ i,i<b+1->okR (nth (mid s) i)=true) (hf1:0<(l0T s).length) (hf2:∀ n∈l0T s,0<=n) (hf3:∀ k,k<b->(nth (lsT s) (k+1)).length=(l0T s).length) (hok2:okR (nth (mid s) (b+1))=true) (hne:(nth (lsT s) (b+1)).length≠(l0T s).length):CO Gl 110 [str s] (.pan (.iface 135 (.agg #[.string (bs (nth (mid s) (b+1)))]))):=by
 refine Au S (let A0:=fun (k2:Nat)=>(0=(↑(0:Nat):Int)/\(↑(Int.toNat ((↑(List.length (Ac (32:UInt8) (nth (mid s) (Int.toNat ((k2:Int)+1))))):Int)-1)):Int)=(↑(List.length (tl (nth (mid s) (k2+1)))):Int)/\(SEq (Int.toNat ((↑(List.length (Ac (32:UInt8) (nth (mid s) (Int.toNat ((k2:Int)+1))))):Int)-1)) (fun i=>eS (nth (Ac (32:UInt8) (nth (mid s) (Int.toNat ((k2:Int)+1)))) (Int.toNat (1:Int)+i))) (List.length (tl (nth (mid s) (k2+1)))) fun i=>eS (nth (tl (nth (mid s) (k2+1))) i))/\(k2:Int)+1=(k2:Int)+1/\(0:Nat)=(0:Nat)/\bs (nth (mid s) (Int.toNat ((k2:Int)+1)))=bs (nth (mid s) (k2+1))/\(k2:Int)+1=(k2:Int)+1/\(sR eLn (List.take (k2+1) (Bi (lsT s))))/\List.length (l0T s)=List.length (l0T s)/\(sR eI (l0T s))/\OEq (List.length (l0T s)) (Ce s k2) (List.length (l0T s)) (Ce s k2)/\(List.length (mid s):Int)=(List.length (mid s):Int)/\(sR eS (mid s))/\bs s=bs s/\Value.slice none 0 0=Value.slice none 0 0/\Value.slice none 0 0=Value.slice none 0 0);let A1:=fun (k2:Nat)=>(nth (mid s) (k2+1));let A2:=(nth (mid s) (0:Nat));let A3:=(Ac (32:UInt8) (nth (Ac (10:UInt8) s) (Int.toNat (0:Int)+Int.toNat (0:Int))));let A4:=fun (k2:Nat)=>(Ac (32:UInt8) (nth (mid s) (Int.toNat ((k2:Int)+1))));let A5:=(List.length (mid s):Int);let A6:=fun (k2:Nat)=>(List.take (k2+1) (Bi (lsT s)));let A7:=(List.length (l0T s):Int);let A8:=(↑(List.length (Ac (10:UInt8) s)):Int);let A9:=fun (k2 k3:Nat)=>(SEq (List.length (Af (A1 k2) k3)+1) (Av (List.length (Af (A1 k2) k3)) (fun i=>eI (nth (Af (A1 k2) k3) i)) fun i=>List.getD [List.map C.dem [C.v (Value.int IntKind.i64 (Ar (nth (tl (A1 k2)) k3)))]] i []) (List.length (Af (A1 k2) (k3+1))) fun i=>eI (nth (Af (A1 k2) (k3+1)) i));let A10:=(List.length (l0T s));let A11:=fun (k2:Nat)=>(fun (j:Nat)=>v 37 (I j)::v 36 (I (↑(List.length (tl (A1 k2))):Int))::v 35 (L eS (tl (A1 k2)))::v 28 (I ((k2:Int)+1))::v 8 (Lt 901 eI (Af (A1 k2) j))::tk 901 3::v 7 (str (A1 k2))::v 6 (I ((k2:Int)+1))::Nz s k2);let A12:=fun (k2 k4:Nat)=>(El s (bif Nat.blt k4 k4 then k2+(1:Nat) else k2) k4);let A13:=fun (k2:Nat)=>(↑(List.length (A4 k2)):Int);let A14:=fun (k2:Nat)=>(↑(List.length (tl (A1 k2))):Int);let A15:=(↑(List.length A3):Int);let A16:=(↑(List.length (tl A2)):Int);let A17:=(Ac (10:UInt8) s);let A18:=fun (k2:Nat)=>(Cu (List.map lnT (A6 k2)));let A19:=fun (k2:Nat)=>(nth (lsT s) (k2+1));let A20:=(sR eS (mid s));let A21:=(sR eI (l0T s));let A22:=fun (k2:Nat)=>[B (ByteArray.toList (bs (A18 k2))==ByteArray.toList (bs s)),T.d (D.c (C.v (Value.string (bs s))))];let A23:=fun (k2 k3:Nat)=>[B ((↑(List.length (Af (A1 k2) k3)):Int)==A7),T.d (D.c (C.v (Value.string (bs (A1 k2)))))];let A24:=fun (k2:Nat)=>(Res.pan (Value.iface (135:TypeId) (Value.agg #[Value.string (bs (A1 k2))])));let A25:=(Int.toNat (A8-2-(0:Int)));let A26:=(nth A17 (Int.toNat (0:Int)+Int.toNat (0:Int)));let A27:=fun (k2 k3:Nat)=>(I (Ar (nth (tl (A1 k2)) k3)));((.r (.ret (L eS A17)) (.r (.ret (.tup [])) (.pe (.br (.r (.ret (L eS A3)) (.loop (List.length (tl A2)) (fun j=>v 37 (I j)::v 36 (I A16)::v 35 (L eS (tl A2))::v 28 (I 0)::v 8 (Lt 901 eI (Af A2 j))::tk 901 3::v 7 (str A2)::v 6 (I 0)::v 5 (T.d (D.c Bw))::(bx 4 [Bw,Bw]++Ig s)) fun k1=>.br (.r (.ret (I (Ar (nth (tl A2) k1)))) .nil) (.tt (.r (.ret (.tup [])) (.loop A10 (fun j=>v 56 (I j)::v 55 (I A7)::v 54 (L eI (l0T s))::v 28 (I 0)::v 8 (Lt 901 eI (l0T s))::tk 901 3::v 7 (str A2)::v 6 (I 0)::v 5 (T.d (D.c Bw))::(bx 4 [Bw,Bw]++Ig s)) fun k2=>.br (.r (.ret (.tup [])) .nil) (.arrA (nat_lit 68) .nil)))))) .nil) b (fun k=>v 28 (I ((k:Int)+1))::Nz s k) fun k2=>.ite (decide (k2<b)) (.br (.r (.ret (L eS (A4 k2))) (.loop (List.length (tl (A1 k2))) (A11 k2) fun k3=>.br (.r (.ret (A27 k2 k3)) .nil) (.ff (.r (.ret (.tup [])) (.loop A10 (fun j=>v 87 (I j)::v 86 (I A7)::v 85 (L eI (A19 k2))::v 28 (I ((k2:Int)+1))::v 8 (Lt 901 eI (A19 k2))::tk 901 3::Yn s k2 j) fun k4=>.br (.arrA (nat_lit 99) .nil) .nil))))) (.r (.ret (str (A18 k2))) (.r (.ret (.tup [])) .nil))) (.br (.r (.ret (L eS (A4 k2))) (.loop (List.length (tl (A1 k2))) (A11 k2) fun k3=>.br (.r (.ret (A27 k2 k3)) .nil) (.ff (.r (A24 k2) .nil)))) (.r (.ret (str (A18 k2))) (.r (.ret (.tup [])) .nil)))))),(CO Gl 134 [str s,str [(10:UInt8)]] (.ret (L eS A17))/\(List.length A17<=maxLen->CO Gl 135 [B (decide (3<=(↑(List.length (Ac (10:UInt8) s)):Int))),T.d (D.c (C.v (Value.string (bs s))))] (.ret (.tup []))/\(List.length A17<=maxLen->iR (A8-2)/\((0:Int)<=0/\0<=A8-2/\A8-2<=A8)/\(Int.toNat (A8-2-(0:Int))<=maxLen->(decide (0<(↑(Int.toNat ((↑(List.length (Ac (10:UInt8) s)):Int)-2-(0:Int))):Int))=true->((0:Int)<=0/\0<(↑A25:Int))/\CO Gl 134 [str A26,str [(32:UInt8)]] (.ret (L eS A3))/\((0:Int)<=1/\1<=A15/\A15<=A15)/\(Int.toNat (A15-1)<=maxLen->(0=(↑(0:Nat):Int)/\(↑(Int.toNat (A15-1)):Int)=A16/\(SEq (Int.toNat (A15-1)) (fun i=>eS (nth A3 (Int.toNat (1:Int)+i))) (List.length (tl A2)) fun i=>eS (nth (tl A2) i))/\(0:Int)=0/\(0:Nat)=(0:Nat)/\bs A26=bs A2/\(0:Int)=0/\Value.slice none 0 0=Value.slice none 0 0/\Value.slice none 0 0=Value.slice none 0 0/\Value.slice none 0 0=Value.slice none 0 0/\(↑A25:Int)=A5/\(SEq A25 (fun i=>eS (nth A17 (Int.toNat (0:Int)+i))) (List.length (mid s)) fun i=>eS (nth (mid s) i))/\bs s=bs s/\Value.slice none 0 0=Value.slice none 0 0/\Value.slice none 0 0=Value.slice none 0 0)/\∀ (k1:Nat),k1<=List.length (tl A2)->(decide ((k1:Int)<(↑(List.length (tl (nth (mid s) (0:Nat)))):Int))=true->(0<=(k1:Int)/\(k1:Int)<A16)/\CO Gl 136 [str (nth (tl A2) k1)] (.ret (I (Ar (nth (tl A2) k1))))/\(List.length (Af A2 k1)+1)*8<=140737488355328/\List.length (Af A2 k1)+1<=140737488355328/\iR ((k1:Int)+1)/\k1<List.length (tl A2)/\(k1:Int)+1=(↑(k1+1):Int)/\A16=A16/\(sR eS (tl A2))/\(0:Int)=0/\(SEq (List.length (Af A2 k1)+1) (Av (List.length (Af A2 k1)) (fun i=>eI (nth (Af A2 k1) i)) fun i=>List.getD [List.map C.dem [C.v (Value.int IntKind.i64 (Ar (nth (tl A2) k1)))]] i []) (List.length (Af A2 (k1+1))) fun i=>eI (nth (Af A2 (k1+1)) i))/\bs A2=bs A2/\(0:Int)=0/\Value.slice none 0 0=Value.slice none 0 0/\Value.slice none 0 0=Value.slice none 0 0/\Value.slice none 0 0=Value.slice none 0 0/\A5=A5/\A20/\bs s=bs s/\Value.slice none 0 0=Value.slice none 0 0/\Value.slice none 0 0=Value.slice none 0 0)/\(decide ((k1:Int)<(↑(List.length (tl (nth (mid s) (0:Nat)))):Int))=false->true=true/\(List.length (Af A2 k1)<=maxLen->CO Gl 135 [B (decide (0<(↑(List.length (Af (nth (mid s) (0:Nat)) k1)):Int))),T.d (D.c (C.v (Value.string (bs A2))))] (.ret (.tup []))/\(List.length (Af A2 k1)<=maxLen->(0=(↑(0:Nat):Int)/\(↑(List.length (Af A2 k1)):Int)=A7/\(sQ eI (Af A2 k1) (l0T s))/\(0:Int)=0/\(sQ eI (Af A2 k1) (l0T s))/\bs A2=bs A2/\(0:Int)=0/\Value.slice none 0 0=Value.slice none 0 0/\Value.slice none 0 0=Value.slice none 0 0/\Value.slice none 0 0=Value.slice none 0 0/\A5=A5/\A20/\bs s=bs s/\Value.slice none 0 0=Value.slice none 0 0/\Value.slice none 0 0=Value.slice none 0 0)/\∀ (k2:Nat),k2<=List.length (l0T s)->(decide ((k2:Int)<(List.length (l0T s):Int))=true->(0<=(k2:Int)/\(k2:Int)<A7)/\CO Gl 135 [B (decide ((0:Int)<=nth (l0T s) k2)),T.d (D.c (C.v (Value.string (bs A2))))] (.ret (.tup []))/\iR ((k2:Int)+1)/\k2<List.length (l0T s)/\(k2:Int)+1=(↑(k2+1):Int)/\A7=A7/\A21/\(0:Int)=0/\A21/\bs A2=bs A2/\(0:Int)=0/\Value.slice none 0 0=Value.slice none 0 0/\Value.slice none 0 0=Value.slice none 0 0/\Value.slice none 0 0=Value.slice none 0 0/\A5=A5/\A20/\bs s=bs s/\Value.slice none 0 0=Value.slice none 0 0/\Value.slice none 0 0=Value.slice none 0 0)/\(decide ((k2:Int)<(List.length (l0T s):Int))=false->List.length (l0T s)<=maxLen->A7=A7/\0<=A7/\List.length (l0T s)*24<=140737488355328/\List.length (l0T s)<=(140737488355328:Nat)/\(1:Nat)*16<=140737488355328/\(1:Nat)<=(140737488355328:Nat)/\iR ((0:Int)+1)/\((0:Int)+1=(↑(0:Nat):Int)+1/\(SEq (1:Nat) (fun i=>List.getD [List.map C.dem [C.i (121:Nat) true [C.s Tag.n A10 fun i=>eI (nth (l0T s) i)]]] i []) (List.length (List.take ((0:Nat)+1) (Bi (lsT s)))) fun i=>eLn (nth (List.take ((0:Nat)+1) (Bi (lsT s))) i))/\List.length (l0T s)=List.length (l0T s)/\A21/\OEq A10 (fun x=>((0:Nat),fun x=>[])) A10 (Ce s (0:Nat))/\A5=A5/\A20/\bs s=bs s/\Value.slice none 0 0=Value.slice none 0 0/\Value.slice none 0 0=Value.slice none 0 0)/\∀ (k2:Nat),k2<=b->(decide (k2<b)=true->(decide ((k2:Int)+1<(List.length (mid s):Int))=true->(0<=(k2:Int)+1/\(k2:Int)+1<A5)/\CO Gl 134 [str (nth (mid s) (Int.toNat ((k2:Int)+1))),str [(32:UInt8)]] (.ret (L eS (A4 k2)))/\((0:Int)<=1/\1<=(A13 k2)/\(A13 k2)<=(A13 k2))/\(Int.toNat ((A13 k2)-1)<=maxLen->(A0 k2)/\∀ (k3:Nat),k3<=List.length (tl (A1 k2))->(decide ((k3:Int)<(↑(List.length (tl (nth (mid s) (k2+1)))):Int))=true->(0<=(k3:Int)/\(k3:Int)<(A14 k2))/\CO Gl 136 [str (nth (tl (A1 k2)) k3)] (.ret (A27 k2 k3))/\(List.length (Af (A1 k2) k3)+1)*8<=140737488355328/\List.length (Af (A1 k2) k3)+1<=140737488355328/\iR ((k3:Int)+1)/\k3<List.length (tl (A1 k2))/\(k3:Int)+1=(↑(k3+1):Int)/\(A14 k2)=(A14 k2)/\(sR eS (tl (A1 k2)))/\(k2:Int)+1=(k2:Int)+1/\(A9 k2 k3)/\bs (A1 k2)=bs (A1 k2)/\(k2:Int)+1=(k2:Int)+1/\(sR eLn (A6 k2))/\List.length (l0T s)=List.length (l0T s)/\A21/\OEq A10 (Ce s k2) A10 (Ce s k2)/\A5=A5/\A20/\bs s=bs s/\Value.slice none 0 0=Value.slice none 0 0/\Value.slice none 0 0=Value.slice none 0 0)/\(decide ((k3:Int)<(↑(List.length (tl (nth (mid s) (k2+1)))):Int))=false->false=false/\(List.length (Af (A1 k2) k3)<=maxLen->List.length (l0T s)<=maxLen->CO Gl 135 (A23 k2 k3) (.ret (.tup []))/\(List.length (Af (A1 k2) k3)<=maxLen->(0=(↑(0:Nat):Int)/\(↑(List.length (Af (A1 k2) k3)):Int)=A7/\(sQ eI (Af (A1 k2) k3) (A19 k2))/\(k2:Int)+1=(k2:Int)+1/\(sQ eI (Af (A1 k2) k3) (A19 k2))/\(sR eLn (A6 k2))/\List.length (l0T s)=List.length (l0T s)/\A21/\OEq A10 (Ce s k2) A10 (Ea s k2 (0:Nat))/\A5=A5/\A20/\bs s=bs s/\Value.slice none 0 0=Value.slice none 0 0/\Value.slice none 0 0=Value.slice none 0 0)/\∀ (k4:Nat),k4<=List.length (l0T s)->(decide ((k4:Int)<(List.length (l0T s):Int))=true->(0<=(k4:Int)/\(k4:Int)<(↑(List.length (A19 k2)):Int))/\(0<=(k4:Int)/\(k4:Int)<A7)/\k4<List.length (l0T s)/\(List.length (A12 k2 k4)+1)*8<=140737488355328/\List.length (A12 k2 k4)+1<=140737488355328/\(0<=(k4:Int)/\(k4:Int)<A7)/\k4=k4/\k4<List.length (l0T s)/\iR ((k4:Int)+1)/\k4<List.length (l0T s)/\(k4:Int)+1=(↑(k4+1):Int)/\A7=A7/\(sR eI (A19 k2))/\(k2:Int)+1=(k2:Int)+1/\(sR eI (A19 k2))/\(sR eLn (A6 k2))/\List.length (l0T s)=List.length (l0T s)/\A21/\OEq A10 (Eo (Ea s k2 k4) k4 (List.length (A12 k2 k4)+(1:Nat),Av (List.length (A12 k2 k4)) (fun i=>eI (nth (A12 k2 k4) i)) fun i=>List.getD [List.map C.dem [C.v (Value.int IntKind.i64 (nth (A19 k2) k4))]] i [])) A10 (Ea s k2 (k4+1))/\A5=A5/\A20/\bs s=bs s/\Value.slice none 0 0=Value.slice none 0 0/\Value.slice none 0 0=Value.slice none 0 0)/\(decide ((k4:Int)<(List.length (l0T s):Int))=false->(List.length (A6 k2)+1)*16<=140737488355328/\List.length (A6 k2)+1<=140737488355328/\iR ((k2:Int)+1+(1:Int))/\k2<b/\(k2:Int)+1+1=(↑(k2+1):Int)+1/\(SEq (List.length (A6 k2)+1) (Av (List.length (A6 k2)) (fun i=>eLn (nth (A6 k2) i)) fun i=>List.getD [List.map C.dem [C.i (124:Nat) true [C.s Tag.n (List.length (A19 k2)) fun i=>eI (nth (A19 k2) i)]]] i []) (List.length (List.take (k2+(1:Nat)+1) (Bi (lsT s)))) fun i=>eLn (nth (List.take (k2+(1:Nat)+1) (Bi (lsT s))) i))/\List.length (l0T s)=List.length (l0T s)/\A21/\OEq A10 (Ea s k2 k4) A10 (Ce s (k2+1))/\A5=A5/\A20/\bs s=bs s/\Value.slice none 0 0=Value.slice none 0 0/\Value.slice none 0 0=Value.slice none 0 0))))))/\(decide ((k2:Int)+1<(List.length (mid s):Int))=false->CO Gl 108 [T.d (D.c (C.l eLn (A6 k2)))] (.ret (str (A18 k2)))/\CO Gl 135 (A22 k2) (.ret (.tup []))/\List.length (l0T s)=List.length (l0T s)/\False))/\(decide (k2<b)=false->(decide ((k2:Int)+1<(List.length (mid s):Int))=true->(0<=(k2:Int)+1/\(k2:Int)+1<A5)/\CO Gl 134 [str (nth (mid s) (Int.toNat ((k2:Int)+1))),str [(32:UInt8)]] (.ret (L eS (A4 k2)))/\((0:Int)<=1/\1<=(A13 k2)/\(A13 k2)<=(A13 k2))/\(Int.toNat ((A13 k2)-1)<=maxLen->(A0 k2)/\∀ (k3:Nat),k3<=List.length (tl (A1 k2))->(decide ((k3:Int)<(↑(List.length (tl (nth (mid s) (k2+1)))):Int))=true->(0<=(k3:Int)/\(k3:Int)<(A14 k2))/\CO Gl 136 [str (nth (tl (A1 k2)) k3)] (.ret (A27 k2 k3))/\(List.length (Af (A1 k2) k3)+1)*8<=140737488355328/\List.length (Af (A1 k2) k3)+1<=140737488355328/\iR ((k3:Int)+1)/\k3<List.length (tl (A1 k2))/\(k3:Int)+1=(↑(k3+1):Int)/\(A14 k2)=(A14 k2)/\(sR eS (tl (A1 k2)))/\(k2:Int)+1=(k2:Int)+1/\(A9 k2 k3)/\bs (A1 k2)=bs (A1 k2)/\(k2:Int)+1=(k2:Int)+1/\(sR eLn (A6 k2))/\List.length (l0T s)=List.length (l0T s)/\A21/\OEq A10 (Ce s k2) A10 (Ce s k2)/\A5=A5/\A20/\bs s=bs s/\Value.slice none 0 0=Value.slice none 0 0/\Value.slice none 0 0=Value.slice none 0 0)/\(decide ((k3:Int)<(↑(List.length (tl (nth (mid s) (k2+1)))):Int))=false->false=false/\(List.length (Af (A1 k2) k3)<=maxLen->List.length (l0T s)<=maxLen->CO Gl 135 (A23 k2 k3) (A24 k2)/\Value.iface (135:Nat) (Value.agg (Array.mk [Value.string (bs (A1 k2))]))=Value.iface (135:Nat) (Value.agg (Array.mk [Value.string (bs (nth (mid s) (b+1)))]))))))/\(decide ((k2:Int)+1<(List.length (mid s):Int))=false->CO Gl 108 [T.d (D.c (C.l eLn (A6 k2)))] (.ret (str (A18 k2)))/\CO Gl 135 (A22 k2) (.ret (.tup []))/\List.length (l0T s)=List.length (l0T s)/\False))))))))/\(decide (0<(↑(Int.toNat ((↑(List.length (Ac (10:UInt8) s)):Int)-2-(0:Int))):Int))=false->False))))))) Tryz.func110 (by kernel_rfl) (by kernel_rfl) ?_
 have hsp:=Bv 10 s
 have hml:=Lh (s:=s)
 have hll:=Oa s
 have hrow:∀ i,i<(mid s).length->(nth (mid s) i).length<=150:=fun i hi=>by have:=Nx hi;omega
 have hm0:0<(mid s).length:=by omega
 have hl0:l0T s=nsR (nth (mid s) 0):=Ih hm0
 have h00:nth (Ac 10 s) (Int.toNat 0+Int.toNat 0)=nth (mid s) 0:=(Ht hm0).symm
 have hl0n:(l0T s).length<=150:=by rw [hl0];have:=Me (nth (mid s) 0);have:=hrow 0 hm0;omega
 simp only [stdS,imp_self,implies_true,and_true,h00,Ob]
 refine ⟨Ff hG.len s 10 (by omega),fun _=>⟨Dm S _ _ (by simp;omega),fun _=>⟨(Ad _).2 (by omega),⟨by decide,by omega,by omega⟩,fun _=>⟨fun _=>?_,fun h=>?_⟩⟩⟩⟩
 rotate_left
 ·have:=of_decide_eq_false h
  omega
 refine ⟨⟨by omega,by omega⟩,Ff hG.len _ 32 (by have:=hrow 0 hm0;omega),⟨by omega,by have:=Bv 32 (nth (mid s) 0);omega,by omega⟩,fun _=>⟨⟨by have:=Bv 32 (nth (mid s) 0);rw [Ef];omega,Ii _,by omega,.of ⟨by omega,fun i hi=>by
       show eS (nth (Ac 10 s) (0+i))=eS (nth (mid s) i)
       rw [Ht (by omega),Nat.zero_add]⟩,trivial⟩,fun k1 hk1=>?_⟩⟩
 have hnl:=Iy (r:=nth (mid s) 0) (j:=k1)
 have htl:=Ef (r:=nth (mid s) 0)
 have hsr:=Bv 32 (nth (mid s) 0)
 have hr:=hrow 0 hm0
 refine ⟨fun h1=>?_,fun h1 hmx=>?_⟩
 ·have h1:k1<(tl (nth (mid s) 0)).length:=by simpa using h1
  exact ⟨⟨by omega,by omega⟩,Ix S hG _ (List.all_eq_true.1 (hok 0 (by omega)) _ (Bm h1)),by omega,by omega,(Ad _).2 (by omega),h1,by omega,Dj (Iz h1) rfl,trivial⟩
 ·skip
  have h1:k1=(tl (nth (mid s) 0)).length:=by
   have:¬ k1<(tl (nth (mid s) 0)).length:=by simpa using h1
   omega
  subst h1
  rw [Kh,<-hl0]
  refine ⟨Dm S _ _ (decide_eq_true (by omega)),fun _=>⟨⟨rfl,Be rfl,Be rfl,trivial⟩,fun k2 hk2=>⟨fun hd=>?_,fun hd _=>⟨by omega,by omega,by omega,by decide,by decide,(Ad _).2 (by omega),?_,fun k3 hk3=>⟨fun hc=>⟨fun h3=>?_,fun h3=>?_⟩,fun hc=>⟨fun h3=>?_,fun h3=>?_⟩⟩⟩⟩⟩⟩
  ·have hd:k2<(l0T s).length:=by simpa using hd
   exact ⟨⟨by omega,by omega⟩,Dm S _ _ (decide_eq_true (hf2 _ (Bm hd))),(Ad _).2 (by omega),hd,by omega,trivial⟩
  ·refine ⟨.of ⟨by rw [List.length_take,Gc];omega,fun i hi=>?_⟩,Yt s _,trivial⟩
   have:i=0:=by omega
   subst this
   show [C.i 121 true [C.l eI (l0T s)]]=eLn (nth ((Bi (lsT s)).take 1) 0)
   rw [Tq (by omega),Yo (by omega)]
   rfl
  ·have hc:k3<b:=of_decide_eq_true hc
   have hlt:k3+1<(mid s).length:=by omega
   have hlen:=hf3 k3 hc
   have ht3:((k3:Int)+1).toNat=k3+1:=by omega
   have hrw:=hrow (k3+1) hlt
   have hlk:nth (lsT s) (k3+1)=nsR (nth (mid s) (k3+1)):=Ih hlt
   have hcl:=fun j=>Rr s (k:=k3) (by omega) j
   have hll2:((Bi (lsT s)).take (k3+1)).length=k3+1:=by rw [List.length_take,Gc];omega
   have hbb:∀ j:Nat,Nat.blt j j=false:=fun j=>Fc (Nat.lt_irrefl j)
   have htl:=Ef (r:=nth (mid s) (k3+1))
   have hsr:=Bv 32 (nth (mid s) (k3+1))
   simp only [ht3,hbb,cond_false]
   refine ⟨⟨by omega,by omega⟩,Ff hG.len _ 32 (by omega),⟨by omega,by omega,by omega⟩,fun _=>⟨⟨by omega,Ii _,trivial,trivial⟩,fun k4 hk4=>?_⟩⟩
   have hnl:=Iy (r:=nth (mid s) (k3+1)) (j:=k4)
   refine ⟨fun h4=>?_,fun h4 hmx _=>?_⟩
   ·have h4:k4<(tl (nth (mid s) (k3+1))).length:=by simpa using h4
    exact ⟨⟨by omega,by omega⟩,Ix S hG _ (List.all_eq_true.1 (hok (k3+1) (by omega)) _ (Bm h4)),by omega,by omega,(Ad _).2 (by omega),h4,by omega,Dj (Iz h4) rfl,trivial⟩
   ·skip
    have h4:k4=(tl (nth (mid s) (k3+1))).length:=by
     have:¬ k4<(tl (nth (mid s) (k3+1))).length:=by simpa using h4
     omega
    subst h4
    rw [Kh,<-hlk]
    refine ⟨Dm S _ _ (by rw [hlen];exact beq_self_eq_true _),fun _=>⟨⟨by rw [hlen],Be rfl,Be rfl,Yr s _ _,trivial⟩,fun k5 hk5=>⟨fun h5=>?_,fun h5=>?_⟩⟩⟩
    ·have h5:k5<(l0T s).length:=by simpa using h5
     have:=hcl k5
     exact ⟨⟨by omega,by omega⟩,⟨by omega,by omega⟩,h5,by omega,by omega,⟨by omega,by omega⟩,h5,(Ad _).2 (by omega),h5,by omega,Yq (by omega) _,trivial⟩
    ·have h5:k5=(l0T s).length:=by
      have:¬ k5<(l0T s).length:=by simpa using h5
      omega
     subst h5
     refine ⟨by omega,by omega,(Ad _).2 (by omega),hc,by omega,?_,Ys s _ _,trivial⟩
     refine Jg (by rw [Gc];omega) ?_
     rw [Yp (by omega)]
     rfl
  ·exfalso
   have hc:k3<b:=of_decide_eq_true hc
   have h3:¬ (k3:Int)+1<((mid s).length:Int):=of_decide_eq_false h3
   omega
  ·have hc:k3=b:=by have:¬ k3<b:=of_decide_eq_false hc;omega
   subst hc
   have hlt:k3+1<(mid s).length:=hb
   have ht3:((k3:Int)+1).toNat=k3+1:=by omega
   have hrw:=hrow (k3+1) hlt
   have hlk:nth (lsT s) (k3+1)=nsR (nth (mid s) (k3+1)):=Ih hlt
   have hcl:=fun j=>Rr s (k:=k3) (by omega) j
   have hll2:((Bi (lsT s)).take (k3+1)).length=k3+1:=by rw [List.length_take,Gc];omega
   have hbb:∀ j:Nat,Nat.blt j j=false:=fun j=>Fc (Nat.lt_irrefl j)
   have htl:=Ef (r:=nth (mid s) (k3+1))
   have hsr:=Bv 32 (nth (mid s) (k3+1))
   simp only [ht3,hbb,cond_false]
   refine ⟨⟨by omega,by omega⟩,Ff hG.len _ 32 (by omega),⟨by omega,by omega,by omega⟩,fun _=>⟨⟨by omega,Ii _,trivial,trivial⟩,fun k4 hk4=>?_⟩⟩
   have hnl:=Iy (r:=nth (mid s) (k3+1)) (j:=k4)
   refine ⟨fun h4=>?_,fun h4 hmx _=>?_⟩
   ·have h4:k4<(tl (nth (mid s) (k3+1))).length:=by simpa using h4
    exact ⟨⟨by omega,by omega⟩,Ix S hG _ (List.all_eq_true.1 hok2 _ (Bm h4)),by omega,by omega,(Ad _).2 (by omega),h4,by omega,Dj (Iz h4) rfl,trivial⟩
   ·skip
    have h4:k4=(tl (nth (mid s) (k3+1))).length:=by
     have:¬ k4<(tl (nth (mid s) (k3+1))).length:=by simpa using h4
     omega
    subst h4
    rw [Kh,<-hlk]
    refine ⟨Ny S _ _ (beq_eq_false_iff_ne.2 fun hh=>hne (by omega)),trivial⟩
  ·exfalso
   have h3:¬ (k3:Int)+1<((mid s).length:Int):=of_decide_eq_false h3
   omega
theorem first_bad (p:Nat->Bool):∀ n,(∀ i,i<n->p i=true)∨∃ b,b<n/\p b=false/\∀ i,i<b->p i=true
 |0=>.inl fun _ h=>absurd h (Nat.not_lt_zero _)
 |n+1=>by
  rcases first_bad p n with h|⟨b,h1,h2,h3⟩
  ·cases hp:p n with
   |true=>
    refine .inl fun i hi=>?_
    rcases Nat.lt_or_ge i n with h4|h4
    ·exact h i h4
    ·rw [show i=n by omega];exact hp
   |false=>exact .inr ⟨n,Nat.lt_succ_self n,hp,h⟩
  ·exact .inr ⟨b,by omega,h2,h3⟩
theorem Ax0 {ls:List (List Int)} (h0:0<ls.length) (h1:0<(nth ls 0).length) (h2:∀ n∈nth ls 0,0<=n) (h3:∀ k,k+1<ls.length->(nth ls (k+1)).length=(nth ls 0).length):Gn ls=true:=by
 cases ls with
 |nil=>cases h0
 |cons l r=>
  unfold Gn
  rw [Bool.and_eq_true,Bool.and_eq_true,decide_eq_true_eq,List.all_eq_true,List.all_eq_true]
  refine ⟨h1,fun n hn=>decide_eq_true (h2 n hn),fun x hx=>?_⟩
  obtain ⟨k,hk,rfl⟩:=Ir hx
  have:=h3 k (by simpa using hk)
  exact beq_iff_eq.2 this
theorem Ax1 {Gl} (S:SP Gl) (hG:GlOK Gl) (s:List UInt8) (hs:s.length<=150) (h:Ey s=none):∃ q,CO Gl 110 [str s] (.pan (.iface 135 (.agg #[.string q]))):=by
 rcases Nat.lt_or_ge (Ac 10 s).length 3 with hR|hR
 ·exact ⟨_,Awt S s hG hs hR⟩
 ·have hml:=Lh (s:=s)
  have hll:=Oa s
  have hl0:l0T s=nsR (nth (mid s) 0):=Ih (by omega)
  cases h0:okR (nth (mid s) 0) with
  |false=>exact ⟨_,Awv S s hG hs hR h0⟩
  |true=>
   rcases Nat.eq_zero_or_pos (l0T s).length with hz|hz
   ·exact ⟨_,Aww S s hG hs hR h0 hz⟩
   ·cases hn:(l0T s).all (fun n:Int=>decide (0<=n)) with
    |false=>exact ⟨_,Awx S s hG hs hR h0 hz hn⟩
    |true=>
     have hf2:∀ n∈l0T s,0<=n:=fun n h=>of_decide_eq_true (List.all_eq_true.1 hn n h)
     rcases first_bad (fun k=>okR (nth (mid s) (k+1))&&((nth (lsT s) (k+1)).length==(l0T s).length)) ((mid s).length - 1) with hg|⟨b,hb,hbad,hg⟩
     ·have hg1:∀ i,i<(mid s).length->okR (nth (mid s) i)=true:=fun i hi=>by
       cases i with
       |zero=>exact h0
       |succ i=>have:=hg i (by omega);rw [Bool.and_eq_true] at this;exact this.1
      have hall:(mid s).all okR=true:=List.all_eq_true.2 fun r hr=>by
       obtain ⟨i,hi,rfl⟩:=Ir hr
       exact hg1 i hi
      have hf:Gn (lsT s)=true:=Ax0 (by omega) hz hf2 fun k hk=>by
       have:=hg k (by omega)
       rw [Bool.and_eq_true] at this
       exact eq_of_beq this.2
      refine ⟨_,Awu S s hG hs hR hall hf fun ht=>?_⟩
      unfold Ey at h
      have ht':Cu (Ie ((mid s).map nsR))=s:=ht
      have hf':Gn ((mid s).map nsR)=true:=hf
      rw [hall,hf',ht',decide_eq_true hR,beq_self_eq_true] at h
      cases h
     ·have hok:∀ i,i<b+1->okR (nth (mid s) i)=true:=fun i hi=>by
       cases i with
       |zero=>exact h0
       |succ i=>have:=hg i (by omega);rw [Bool.and_eq_true] at this;exact this.1
      have hf3:∀ k,k<b->(nth (lsT s) (k+1)).length=(l0T s).length:=fun k hk=>by
       have:=hg k hk
       rw [Bool.and_eq_true] at this
       exact eq_of_beq this.2
      cases ho:okR (nth (mid s) (b+1)) with
      |false=>exact ⟨_,Awy S s hG hs b hR (by omega) hok hz hf2 hf3 ho⟩
      |true=>
       rw [ho,Bool.true_and] at hbad
       exact ⟨_,Awz S s hG hs b hR (by omega) hok hz hf2 hf3 ho (beq_eq_false_iff_ne.1 hbad)⟩
theorem Ad9 {Gl} (S:SP Gl) (hG:GlOK Gl) (s:List UInt8) (hs:s.length<=150) {x:Sheet} (h:Ey s=some x):CO Gl 110 [str s] (.ret (Ak x)):=by
 obtain ⟨h1,h2,h3,h4,rfl⟩:=Acx h
 exact Awj S s hG hs h1 h2 h3 h4
def Li (s:List UInt8):Env:=[(2,FAR,live),(FAR+3,0,str s),(2,FAR+1,live),(FAR+4,0,.d (.c Bw)),(FAR+4,1,.d (.c Bw))]
def Rs (x:Sheet):Env:=[(FAR+4,0,.d (.c (.l Ah x.cols))),(FAR+4,1,L eI x.errs)]
theorem Ax2 {Gl} (S:SP Gl) (s:List UInt8) (x:Sheet) (hc:CO Gl 110 [str s] (.ret (Ak x))):Does Tryz.prog Y Gl yd0 109 [.addr FAR 0,.addr (FAR+1) 0] (Li s) (.ret (.tup [])) (Rs x):=by
 refine Ab1 S (.r (.ret (Ak x)) .nil) Tryz.func109 (by kernel_rfl) (CO Gl 110 [str s] (.ret (Ak x))/\True/\(sR Ah x.1)/\(sR eI x.2)/\bs s=bs s) (by kernel_rfl) ?_
 simp only [stdS,imp_self,implies_true,and_true]
 exact ⟨hc,trivial⟩
theorem Ax3 {Gl} (S:SP Gl) (s:List UInt8) (q:ByteArray) (hc:CO Gl 110 [str s] (.pan (.iface 135 (.agg #[.string q])))):Does Tryz.prog Y Gl yd0 109 [.addr FAR 0,.addr (FAR+1) 0] (Li s) (.pan (.iface 135 (.agg #[.string q]))) []:=by
 refine Tp S (let A0:=(Res.pan (Value.iface (135:TypeId) (Value.agg #[Value.string q])));((.r A0 .nil),(CO Gl 110 [str s] A0/\Value.iface (135:Nat) (Value.agg (Array.mk [Value.string q]))=Value.iface (135:Nat) (Value.agg (Array.mk [Value.string q]))/\bs s=bs s/\Value.slice none 0 0=Value.slice none 0 0/\Value.slice none 0 0=Value.slice none 0 0))) Tryz.func109 (by kernel_rfl) (by kernel_rfl) ?_
 simp only [stdS,imp_self,implies_true,and_true]
 exact ⟨hc,trivial⟩
theorem Alc {Gl} (S:SP Gl) (s:List UInt8) (x:Sheet) (hc:CO Gl 110 [str s] (.ret (Ak x))):Does Tryz.prog Y Gl yd0 74 [.fn 109 [] [.addr FAR 0,.addr (FAR+1) 0]] (Li s) (.ret (I 0)) (Rs x):=
 Xt (fst:=[]) rfl rfl (Ax2 S s x hc) .ok
theorem Ax4 {Gl} (S:SP Gl) (s:List UInt8) (q:ByteArray) (hc:CO Gl 110 [str s] (.pan (.iface 135 (.agg #[.string q])))):Does Tryz.prog Y Gl yd0 74 [.fn 109 [] [.addr FAR 0,.addr (FAR+1) 0]] (Li s) (.ret (I 4)) []:=
 Xt (fst:=[]) rfl rfl (Ax3 S s q hc) (.text q)
theorem Ax5 {Gl} (S:SP Gl) (s:List UInt8) (hs:150<s.length):CO Gl 66 [str s] (.ret (.tup [.agg (Bh ⟨[],[]⟩),.c (Ci 3)])):=by
 refine Ch S (.br .nil .nil) Tryz.func66 (by kernel_rfl) ((decide (150<(↑(ByteArray.size (bs s)):Int))=true->(0:Nat)=(0:Nat)/\(0:Nat)=(0:Nat)/\(3:Int)=3)/\(decide (150<(↑(ByteArray.size (bs s)):Int))=false->False)) (by kernel_rfl) ?_
 simp only [stdS,imp_self,implies_true,and_true,Bs]
 intro h;simp at h;omega
theorem Ax6 {Gl} (S:SP Gl) (s:List UInt8) (q:ByteArray) (hs:s.length<=150) (hc:CO Gl 110 [str s] (.pan (.iface 135 (.agg #[.string q])))):CO Gl 66 [str s] (.ret (.tup [.agg (Bh ⟨[],[]⟩),.c (Ci 4)])):=by
 refine Au S (let A0:=[T.fn (109:FuncId) [] [T.addr FAR (0:Nat),T.addr (FAR+1) (0:Nat)]];((.br .nil (.w [(nat_lit 100000,nat_lit 1),(nat_lit 100001,nat_lit 4)] A0 (Li s) (.ret (I 4)) [] (.tt .nil))),((decide (150<(↑(ByteArray.size (bs s)):Int))=true->(0:Nat)=(0:Nat)/\(0:Nat)=(0:Nat)/\(3:Int)=4)/\(decide (150<(↑(ByteArray.size (bs s)):Int))=false->(109:Nat)=(109:Nat)/\bs s=bs s/\Value.slice none 0 0=Value.slice none 0 0/\Value.slice none 0 0=Value.slice none 0 0/\Does Tryz.prog Y Gl yd0 (74:FuncId) A0 (Li s) (.ret (I 4)) []/\true=true/\(0:Nat)=(0:Nat)/\(0:Nat)=(0:Nat)/\(4:Int)=4)))) Tryz.func66 (by kernel_rfl) (by kernel_rfl) ?_
 simp only [stdS,imp_self,implies_true,and_true,Bs]
 exact ⟨fun h=>by simp at h;omega,fun _=>⟨Ax4 S s q hc,trivial⟩⟩
theorem Ax7 {Gl} (S:SP Gl) (s:List UInt8) (x:Sheet) (hs:s.length<=150) (hc:CO Gl 110 [str s] (.ret (Ak x))) (hb:x.ok=false):CO Gl 66 [str s] (.ret (.tup [.agg (Bh ⟨[],[]⟩),.c (Ci 2)])):=by
 refine Au S (let A0:=[T.fn (109:FuncId) [] [T.addr FAR (0:Nat),T.addr (FAR+1) (0:Nat)]];((.br .nil (.w [(nat_lit 100000,nat_lit 1),(nat_lit 100001,nat_lit 4)] A0 (Li s) (.ret (I 0)) (Rs x) (.ff (.r (.ret (B false)) (.tt .nil))))),((decide (150<(↑(ByteArray.size (bs s)):Int))=true->(0:Nat)=(0:Nat)/\(0:Nat)=(0:Nat)/\(3:Int)=2)/\(decide (150<(↑(ByteArray.size (bs s)):Int))=false->(109:Nat)=(109:Nat)/\bs s=bs s/\Value.slice none 0 0=Value.slice none 0 0/\Value.slice none 0 0=Value.slice none 0 0/\Does Tryz.prog Y Gl yd0 (74:FuncId) A0 (Li s) (.ret (I 0)) (Rs x)/\false=false/\CO Gl 81 [Ak x] (.ret (B false))/\true=true/\(0:Nat)=(0:Nat)/\(0:Nat)=(0:Nat)/\(2:Int)=2)))) Tryz.func66 (by kernel_rfl) (by kernel_rfl) ?_
 simp only [stdS,imp_self,implies_true,and_true,Bs]
 exact ⟨fun h=>by simp at h;omega,fun _=>⟨Alc S s x hc,Aiz S x hb,trivial⟩⟩
theorem Ald {Gl} (S:SP Gl) (s:List UInt8) (x:Sheet) (hs:s.length<=150) (hc:CO Gl 110 [str s] (.ret (Ak x))) (hb:x.ok=true):CO Gl 66 [str s] (.ret (.tup [.agg (Bh x),.c (Ci 0)])):=by
 refine Au S (let A0:=[T.fn (109:FuncId) [] [T.addr FAR (0:Nat),T.addr (FAR+1) (0:Nat)]];((.br .nil (.w [(nat_lit 100000,nat_lit 1),(nat_lit 100001,nat_lit 4)] A0 (Li s) (.ret (I 0)) (Rs x) (.ff (.r (.ret (B true)) (.ff .nil))))),((decide (150<(↑(ByteArray.size (bs s)):Int))=true->x.1.length=(0:Nat)/\x.2.length=(0:Nat)/\(3:Int)=0)/\(decide (150<(↑(ByteArray.size (bs s)):Int))=false->(109:Nat)=(109:Nat)/\bs s=bs s/\Value.slice none 0 0=Value.slice none 0 0/\Value.slice none 0 0=Value.slice none 0 0/\Does Tryz.prog Y Gl yd0 (74:FuncId) A0 (Li s) (.ret (I 0)) (Rs x)/\false=false/\CO Gl 81 [Ak x] (.ret (B true))/\false=false/\(sR Ah x.1)/\(sR eI x.2)/\(0:Int)=0)))) Tryz.func66 (by kernel_rfl) (by kernel_rfl) ?_
 simp only [stdS,imp_self,implies_true,and_true,Bs]
 exact ⟨fun h=>by simp at h;omega,fun _=>⟨Alc S s x hc,Jm S x hb,trivial⟩⟩
theorem Ax8 {Gl} (S:SP Gl) (hG:GlOK Gl) (s:List UInt8):CO Gl 66 [str s] (.ret (.tup [.agg (Bh (Hd s)),.c (Ci (Dr s))])):=by
 unfold Dr Hd
 cases hl:decide (150<s.length) with
 |true=>exact Ax5 S s (by simpa using hl)
 |false=>
  have hl:s.length<=150:=by simp at hl;omega
  cases hp:Ey s with
  |none=>
   obtain ⟨q,hq⟩:=Ax1 S hG s hl hp
   exact Ax6 S s q hl hq
  |some x=>
   cases hb:x.ok with
   |true=>
    have:=Ald S s x hl (Ad9 S hG s hl hp) hb
    simpa [hb] using this
   |false=>
    have:=Ax7 S s x hl (Ad9 S hG s hl hp) hb
    simpa [hb] using this
open Go Go.Proofs Go.Vc
def exA:Sheet:=⟨[[123,45,-60,7],[132,45,60,7]],[1,1]⟩
def exB:Sheet:=⟨[[123,45,-60,7],[132,45,60,7],[123,45,60,7]],[1,1,0]⟩
def exD:Sheet:=⟨[[7,7]],[1]⟩
def exT:List UInt8:=[104,97,110,100,115,32,48,10,114,111,119,32,48,10,101,110,100,32,49,51,49,10]
theorem Oc:exA.ok=true:=by decide +kernel
theorem Ax9:exB.ok=true:=by decide +kernel
theorem Ale:exD.ok=true:=by decide +kernel
theorem exE:errOK [132,45,-60,7] [123,45,60,7]=true/\Fb [132,45,-60,7] [123,45,60,7]=[⟨0,1⟩,⟨2,3⟩]:=by decide +kernel
theorem Axa:Abp exA=[0,2]:=by decide +kernel
theorem Axb:agrees exA [123,45,60,7]=true:=by decide +kernel
theorem Pp:0<(Aa exA).length/\Lv (Aa exA)=[123,45,60,7]:=by decide +kernel
theorem Axc:Abl exA (Aa exA)=[1,3]:=by decide +kernel
theorem Axd:Xp exA=2:=by decide +kernel
theorem Axe:Nj exA (Aa exA) 0=[2,1,2,1]:=by decide +kernel
theorem Axf:Ip exA (Aa exA) 0 1 4=[]:=by decide +kernel
theorem Alf:0<(Aa exB).length/\Nk exB (Aa exB)=[3,3,1]:=by decide +kernel
theorem Va:0<(Aa exD).length/\Eh (Aa exD) 1=[-7,7,17,70,107]/\isOpen exD (Aa exD) 1=false/\isOpen exD (Aa exD) 0=true:=by decide +kernel
theorem Axg:Ek ⟨[[0]],[0]⟩=exT:=by decide +kernel
open Go Go.Vc
def Vb (l:List Int) (i:Nat):List C:=(l.map fun x=>List.map C.dem [C.v (Value.int IntKind.i64 x)]).getD i []
theorem litE (l:List Int):Zg l.length (Vb l) l.length (fun i=>eI (nth l i)):=⟨rfl,fun i hi=>by
 show Vb l i=eI (nth l i)
 unfold Vb
 rw [List.getD_eq_getElem?_getD,List.getElem?_map,Ed hi,List.getElem?_eq_getElem hi]
 rfl⟩
theorem Fo (l:List Int):SEq l.length (Vb l) l.length (fun i=>eI (nth l i)):=.of (litE l)
theorem litC (g:Tag) (l:List Int):Ml (List.map C.dem [C.s g l.length (Vb l)]) (Ah l):=⟨.inr (.inr ⟨_,_,_,_,_,_,rfl,rfl,litE l⟩),trivial⟩
theorem Alg {Gl} (S:SP Gl)  :CO Gl 70 [] (.ret (Ak exA)):=by
 refine Au S (let A0:=[[(123:Int),(45:Int),(-60:Int),(7:Int)],[(132:Int),(45:Int),(60:Int),(7:Int)]];((.nil),((SEq (2:Nat) (fun i=>List.getD [List.map C.dem [C.s (Tag.t (1:Nat)) (4:Nat) fun i=>List.getD [List.map C.dem [C.v (Value.int IntKind.i64 (123:Int))],List.map C.dem [C.v (Value.int IntKind.i64 (45:Int))],List.map C.dem [C.v (Value.int IntKind.i64 (-60:Int))],List.map C.dem [C.v (Value.int IntKind.i64 (7:Int))]] i []],List.map C.dem [C.s (Tag.t (2:Nat)) (4:Nat) fun i=>List.getD [List.map C.dem [C.v (Value.int IntKind.i64 (132:Int))],List.map C.dem [C.v (Value.int IntKind.i64 (45:Int))],List.map C.dem [C.v (Value.int IntKind.i64 (60:Int))],List.map C.dem [C.v (Value.int IntKind.i64 (7:Int))]] i []]] i []) (List.length A0) fun i=>Ah (nth A0 i))/\SEq (2:Nat) (fun i=>List.getD [List.map C.dem [C.v (Value.int IntKind.i64 (1:Int))],List.map C.dem [C.v (Value.int IntKind.i64 (1:Int))]] i []) (List.length [(1:Int),(1:Int)]) fun i=>eI (nth [(1:Int),(1:Int)] i)))) Tryz.func70 (by kernel_rfl) (by kernel_rfl) ?_
 dsimp only
 refine ⟨⟨rfl,fun i hi=>?_⟩,Fo [1,1]⟩
 match i,hi with
 |0,_=>exact .inr (litC (.t 1) [123,45,-60,7])
 |1,_=>exact .inr (litC (.t 2) [132,45,60,7])
theorem Alh {Gl} (S:SP Gl)  :CO Gl 71 [] (.ret (Ak exD)):=by
 refine Ch S (.nil) Tryz.func71 (by kernel_rfl) ((SEq (1:Nat) (fun i=>List.getD [List.map C.dem [C.s (Tag.t (1:Nat)) (2:Nat) fun i=>List.getD [List.map C.dem [C.v (Value.int IntKind.i64 (7:Int))],List.map C.dem [C.v (Value.int IntKind.i64 (7:Int))]] i []]] i []) (List.length [[(7:Int),(7:Int)]]) fun i=>Ah (nth [[(7:Int),(7:Int)]] i))/\SEq (1:Nat) (fun i=>List.getD [List.map C.dem [C.v (Value.int IntKind.i64 (1:Int))]] i []) (List.length [(1:Int)]) fun i=>eI (nth [(1:Int)] i)) (by kernel_rfl) ?_
 refine ⟨⟨rfl,fun i hi=>?_⟩,Fo [1]⟩
 match i,hi with
 |0,_=>exact .inr (litC (.t 1) [7,7])
set_option maxRecDepth 100000
theorem Yu (a:List Int):Cl (·==·) a a=true:=by
 unfold Cl
 rw [beq_self_eq_true,Bool.true_and,List.all_eq_true]
 intro i _
 exact beq_self_eq_true _
theorem Od {Gl} (S:SP Gl) (a:List Int) (n:Nat) (f:Nat->List C) (h:SEq n f a.length fun i=>eI (nth a i)):CO Gl 34 [L eI a,.d (.c (.s .n n f))] (.ret (B true)):=by
 have h1:=Abh S a a
 rw [Yu] at h1
 exact h1.args ⟨(Nb _ _).2 trivial,h⟩
theorem Yv {Gl} (S:SP Gl) (a:List Int) (n:Nat) (f:Nat->List C) (h:SEq n f a.length fun i=>eI (nth a i)):CO Gl 54 [L eI a,.d (.c (.s .n n f))] (.ret (B true)):=by
 have h1:=Apy S a a
 rw [Yu] at h1
 exact h1.args ⟨(Nb _ _).2 trivial,h⟩
def Jc:List Err:=[⟨0,1⟩,⟨2,3⟩]
theorem Ali {Gl} (S:SP Gl) (f:Nat->List C) (h:SEq 2 f Jc.length fun i=>Cf (nth Jc i)):CO Gl 25 [L Cf Jc,.d (.c (.s .n 2 f))] (.ret (B true)):=
 (show CO Gl 25 [L Cf Jc,L Cf Jc] (.ret (B true)) from Apz S Jc Jc).args ⟨(Nb _ _).2 trivial,h⟩
theorem kErr {Gl} (S:SP Gl) (f g:Nat->List C) (hf:SEq 4 f [(132:Int),45,-60,7].length fun i=>eI (nth [(132:Int),45,-60,7] i)) (hg:SEq 4 g [(123:Int),45,60,7].length fun i=>eI (nth [(123:Int),45,60,7] i)):CO Gl 22 [.d (.c (.s .n 4 f)),.d (.c (.s .n 4 g))] (.ret (.tup [.c (.l Cf Jc),.c (Ci 0)])):=by
 have h1:=Ajh S [132,45,-60,7] [123,45,60,7] (by decide) (by decide) rfl exE.1
 rw [exE.2] at h1
 exact h1.args ⟨hf,hg⟩
theorem Alj {Gl} (S:SP Gl):CO Gl 53 [Ak exA] (.ret (.tup [.c (.l eI [0,2]),.c (Ci 0)])):=by
 have h1:=Aup S exA Oc
 rw [Axa] at h1
 exact h1
theorem Alk {Gl} (S:SP Gl) (f:Nat->List C) (hf:SEq 4 f [(123:Int),45,60,7].length fun i=>eI (nth [(123:Int),45,60,7] i)):CO Gl 28 [Ak exA,.d (.c (.s .n 4 f))] (.ret (.tup [.c (.v (.bool true)),.c (Ci 0)])):=by
 have h1:=Aul S exA [123,45,60,7] Oc (by decide) rfl
 rw [Axb] at h1
 exact h1.args ⟨(Nb _ _).2 trivial,(Nb _ _).2 trivial,hf⟩
theorem All {Gl} (S:SP Gl):CO Gl 31 [Ak exA] (.ret (.tup [.c (.l eI [123,45,60,7]),.c (Ci 0)])):=by
 have h1:=Ath S exA Oc Pp.1
 rw [Pp.2] at h1
 exact h1
theorem Alm {Gl} (S:SP Gl):CO Gl 37 [Ak exD,I 1] (.ret (.tup [.c (.l eI [-7,7,17,70,107]),.c (Ci 0)])):=by
 have h1:=Ajc S exD 1 Ale Va.1 (by decide)
 rw [Va.2.2.1,Va.2.1] at h1
 exact h1
theorem Aln {Gl} (S:SP Gl):CO Gl 37 [Ak exD,I 0] (.ret (.tup [.c (.l eI []),.c (Ci 8)])):=by
 have h1:=Ajc S exD 0 Ale Va.1 (by decide)
 rw [Va.2.2.2] at h1
 exact h1
theorem Alo {Gl} (S:SP Gl):CO Gl 38 [Ak exA] (.ret (.tup [.c (.l eI [1,3]),.c (Ci 0)])):=by
 have h1:=Ati S exA Oc Pp.1
 rw [Axc] at h1
 exact h1
theorem Alp:Ug exA=0/\Uh exA=0:=by decide +kernel
theorem Alq {Gl} (S:SP Gl):CO Gl 39 [Ak exA] (.ret (.tup [.c (Ci 0),.c (Ci 0)])):=by
 have h1:=Atp S exA Oc Pp.1
 rw [Alp.1,Alp.2] at h1
 exact h1
theorem Alr {Gl} (S:SP Gl):CO Gl 29 [Ak exA] (.ret (.tup [.c (Ci 2),.c (Ci 0)])):=by
 have h1:=Ats S exA Oc Pp.1
 rw [Axd] at h1
 exact h1
theorem Als {Gl} (S:SP Gl):CO Gl 48 [Ak exA,I 0] (.ret (.tup [.c (.l eI [2,1,2,1]),.c (Ci 0)])):=by
 have h1:=Atz S exA 0 Oc Pp.1 (by decide)
 rw [Axe] at h1
 exact h1
theorem Alt {Gl} (S:SP Gl):CO Gl 49 [Ak exB] (.ret (.tup [.c (.l eI [3,3,1]),.c (Ci 0)])):=by
 have h1:=Au0 S exB Ax9 Alf.1
 rw [Alf.2] at h1
 exact h1
theorem Alu {Gl} (S:SP Gl):CO Gl 57 [Ak exA,I 0,I 1] (.ret (.tup [.c (.l eI []),.c (Ci 0)])):=by
 have h1:=Au3 S exA 0 1 Oc Pp.1 (by decide) (by decide) (by decide)
 rw [show rows exA=4 from rfl,Axf] at h1
 exact h1
def exS:Sheet:=⟨[[0]],[0]⟩
theorem Alv:exS.ok=true:=by decide +kernel
theorem Axh:Ey exT=some exS:=by decide +kernel
theorem Alw {Gl} (S:SP Gl) (hG:GlOK Gl):CO Gl 66 [str exT] (.ret (.tup [.agg (Bh exS),.c (Ci 0)])):=
 Ald S exT exS (by decide) (Ad9 S hG exT (by decide) Axh) Alv
theorem Alx {Gl} (S:SP Gl):CO Gl 67 [Ak exS] (.ret (str exT)):=by
 have h1:=Ak4 S exS (Akw Alv)
 rw [show Ek exS=exT from Axg] at h1
 exact h1
theorem Axi {Gl} (S:SP Gl) (hG:GlOK Gl) (hB:CO Gl 72 [] (.ret (Ak exB))):CO Gl 21 [] (.ret (B true)):=by
 refine Au S (let A0:=(D.c (C.s Tag.n (4:Nat) fun i=>List.getD [List.map C.dem [C.v (Value.int IntKind.i64 (123:Int))],List.map C.dem [C.v (Value.int IntKind.i64 (45:Int))],List.map C.dem [C.v (Value.int IntKind.i64 (60:Int))],List.map C.dem [C.v (Value.int IntKind.i64 (7:Int))]] i []));let A1:=(Ak exA);let A2:=(Value.int IntKind.i64 (1:Int));let A3:=(Value.int IntKind.i64 (2:Int));let A4:=(Value.int IntKind.i64 (3:Int));let A5:=[D.c (C.l eI [(-7:Int),(7:Int),(17:Int),(70:Int),(107:Int)]),D.c (Ci 0)];let A6:=[D.c (C.l eI [(123:Int),(45:Int),(60:Int),(7:Int)]),D.c (Ci 0)];let A7:=[D.c (C.l eI [(2:Int),(1:Int),(2:Int),(1:Int)]),D.c (Ci 0)];let A8:=[D.c (C.l eI [(3:Int),(3:Int),(1:Int)]),D.c (Ci 0)];((.r (.ret (.tup [D.c (C.l Cf Jc),D.c (Ci 0)])) (.r (.ret A1) (.r (.ret (.tup [D.c (C.l eI [(0:Int),(2:Int)]),D.c (Ci 0)])) (.r (.ret A1) (.r (.ret (.tup [D.c (C.v (Value.bool true)),D.c (Ci 0)])) (.r (.ret A1) (.r (.ret (.tup A6)) (.r (.ret (Ak exD)) (.r (.ret (.tup A5)) (.r (.ret A1) (.r (.ret (.tup [D.c (C.l eI [(1:Int),(3:Int)]),D.c (Ci 0)])) (.r (.ret A1) (.r (.ret (.tup [D.c (Ci 0),D.c (Ci 0)])) (.r (.ret A1) (.r (.ret (.tup [D.c (Ci 2),D.c (Ci 0)])) (.r (.ret A1) (.r (.ret (.tup A7)) (.r (.ret (Ak exB)) (.r (.ret (.tup A8)) (.r (.ret A1) (.r (.ret (.tup [D.c (C.l eI []),D.c (Ci 0)])) (.r (.ret (.tup [D.agg (Bh exS),D.c (Ci 0)])) (.r (.ret (Ak exD)) (.r (.ret (.tup [D.c (C.l eI []),D.c (Ci 8)])) (.sure 99 (.sure 100 (.sure 103 (.sure 104 (.sure 107 (.sure 108 (.sure 111 (.sure 112 (.sure 115 (.sure 116 (.sure 119 (.sure 120 (.sure 123 (.sure 124 (.sure 127 (.sure 128 (.sure 131 (.sure 132 (.sure 135 (.sure 136 (.sure 139 (.sure 140 (.sure 143 (.sure 144 (.ff (.r (.ret (B true)) (.sure 153 (.sure 154 (.sure 155 (.r (.ret (B true)) (.sure 156 (.sure 159 (.sure 160 (.sure 163 (.sure 164 (.sure 165 (.r (.ret (B true)) (.sure 166 (.sure 169 (.sure 170 (.sure 171 (.r (.ret (B true)) (.sure 172 (.sure 175 (.sure 176 (.sure 177 (.r (.ret (B true)) (.sure 178 (.ff (.sure 183 (.sure 184 (.sure 187 (.sure 188 (.sure 189 (.sure 190 (.sure 191 (.sure 192 (.sure 193 (.r (.ret (B true)) (.sure 196 (.sure 197 (.sure 198 (.sure 199 (.sure 200 (.sure 201 (.r (.ret (B true)) (.sure 204 (.sure 205 (.sure 206 (.sure 209 (.sure 210 (.r (.ret (str exT)) (.sure 211 .nil))))))))))))))))))))))))))))))))))))))))))))))))))))))))))))))))))))))))))))))))))))))))))))))))),(CO Gl 22 [T.d (D.c (C.s Tag.n (4:Nat) fun i=>List.getD [List.map C.dem [C.v (Value.int IntKind.i64 (132:Int))],List.map C.dem [C.v (Value.int IntKind.i64 (45:Int))],List.map C.dem [C.v (Value.int IntKind.i64 (-60:Int))],List.map C.dem [C.v (Value.int IntKind.i64 (7:Int))]] i [])),T.d A0] (.ret (.tup [D.c (C.l Cf Jc),D.c (Ci 0)]))/\CO Gl 70 [] (.ret A1)/\CO Gl 53 [Ak exA] (.ret (.tup [D.c (C.l eI [(0:Int),(2:Int)]),D.c (Ci 0)]))/\CO Gl 70 [] (.ret A1)/\CO Gl 28 [Ak exA,T.d A0] (.ret (.tup [D.c (C.v (Value.bool true)),D.c (Ci 0)]))/\CO Gl 70 [] (.ret A1)/\CO Gl 31 [Ak exA] (.ret (.tup A6))/\CO Gl 71 [] (.ret (Ak exD))/\CO Gl 37 [Ak exD,I 1] (.ret (.tup A5))/\CO Gl 70 [] (.ret A1)/\CO Gl 38 [Ak exA] (.ret (.tup [D.c (C.l eI [(1:Int),(3:Int)]),D.c (Ci 0)]))/\CO Gl 70 [] (.ret A1)/\CO Gl 39 [Ak exA] (.ret (.tup [D.c (Ci 0),D.c (Ci 0)]))/\CO Gl 70 [] (.ret A1)/\CO Gl 29 [Ak exA] (.ret (.tup [D.c (Ci 2),D.c (Ci 0)]))/\CO Gl 70 [] (.ret A1)/\CO Gl 48 [Ak exA,I 0] (.ret (.tup A7))/\CO Gl 72 [] (.ret (Ak exB))/\CO Gl 49 [Ak exB] (.ret (.tup A8))/\CO Gl 70 [] (.ret A1)/\CO Gl 57 [Ak exA,I 0,I 1] (.ret (.tup [D.c (C.l eI []),D.c (Ci 0)]))/\CO Gl 66 [str exT] (.ret (.tup [D.agg (Bh exS),D.c (Ci 0)]))/\CO Gl 71 [] (.ret (Ak exD))/\CO Gl 37 [Ak exD,I 0] (.ret (.tup [D.c (C.l eI []),D.c (Ci 8)]))/\true=true/\true=true/\true=true/\true=true/\true=true/\true=true/\true=true/\true=true/\true=true/\true=true/\true=true/\true=true/\true=true/\true=true/\true=true/\true=true/\true=true/\true=true/\true=true/\true=true/\true=true/\true=true/\true=true/\true=true/\false=false/\CO Gl 25 [L Cf Jc,T.d (D.c (C.s Tag.n (2:Nat) fun i=>List.getD [List.map C.dem (List.map C.dem [C.v (Value.int IntKind.i64 (0:Int)),C.v A2]),List.map C.dem (List.map C.dem [C.v A3,C.v A4])] i []))] (.ret (B true))/\true=true/\true=true/\true=true/\CO Gl 34 [L eI [(0:Int),(2:Int)],T.d (D.c (C.s Tag.n (2:Nat) fun i=>List.getD [List.map C.dem [C.v (Value.int IntKind.i64 (0:Int))],List.map C.dem [C.v A3]] i []))] (.ret (B true))/\true=true/\true=true/\true=true/\true=true/\true=true/\true=true/\CO Gl 34 [L eI [(123:Int),(45:Int),(60:Int),(7:Int)],T.d A0] (.ret (B true))/\true=true/\true=true/\true=true/\true=true/\CO Gl 34 [L eI [(-7:Int),(7:Int),(17:Int),(70:Int),(107:Int)],T.d (D.c (C.s Tag.n (5:Nat) fun i=>List.getD [List.map C.dem [C.v (Value.int IntKind.i64 (-7:Int))],List.map C.dem [C.v (Value.int IntKind.i64 (7:Int))],List.map C.dem [C.v (Value.int IntKind.i64 (17:Int))],List.map C.dem [C.v (Value.int IntKind.i64 (70:Int))],List.map C.dem [C.v (Value.int IntKind.i64 (107:Int))]] i []))] (.ret (B true))/\true=true/\true=true/\true=true/\true=true/\CO Gl 34 [L eI [(1:Int),(3:Int)],T.d (D.c (C.s Tag.n (2:Nat) fun i=>List.getD [List.map C.dem [C.v A2],List.map C.dem [C.v A4]] i []))] (.ret (B true))/\true=true/\false=false/\true=true/\true=true/\true=true/\true=true/\true=true/\true=true/\true=true/\true=true/\true=true/\CO Gl 54 [L eI [(2:Int),(1:Int),(2:Int),(1:Int)],T.d (D.c (C.s Tag.n (4:Nat) fun i=>List.getD [List.map C.dem [C.v A3],List.map C.dem [C.v A2],List.map C.dem [C.v A3],List.map C.dem [C.v A2]] i []))] (.ret (B true))/\true=true/\true=true/\true=true/\true=true/\true=true/\true=true/\CO Gl 54 [L eI [(3:Int),(3:Int),(1:Int)],T.d (D.c (C.s Tag.n (3:Nat) fun i=>List.getD [List.map C.dem [C.v A4],List.map C.dem [C.v A4],List.map C.dem [C.v A2]] i []))] (.ret (B true))/\true=true/\true=true/\((0:Nat)<=maxLen->true=true/\true=true/\true=true/\CO Gl 67 [Ak exS] (.ret (str exT))/\true=true/\true=true)))) Tryz.func21 (by kernel_rfl) (by kernel_rfl) ?_
 dsimp only
 have hE:SEq 2 (fun i=>List.getD [List.map C.dem (List.map C.dem [C.v (Value.int IntKind.i64 0),C.v (Value.int IntKind.i64 1)]),List.map C.dem (List.map C.dem [C.v (Value.int IntKind.i64 2),C.v (Value.int IntKind.i64 3)])] i []) Jc.length fun i=>Cf (nth Jc i):=.of ⟨rfl,fun i hi=>by
  match i,hi with
  |0,_=>rfl
  |1,_=>rfl⟩
 repeat' first|with_reducible apply And.intro|with_reducible intro _
 all_goals first
  |contradiction
  |with_reducible exact rfl
  |with_reducible exact trivial
  |with_reducible exact Alg S
  |with_reducible exact Alh S
  |with_reducible exact hB
  |with_reducible exact kErr S _ _ (Fo [132,45,-60,7]) (Fo [123,45,60,7])
  |with_reducible exact Alj S
  |with_reducible exact Alk S _ (Fo [123,45,60,7])
  |with_reducible exact All S
  |with_reducible exact Alm S
  |with_reducible exact Aln S
  |with_reducible exact Alo S
  |with_reducible exact Alq S
  |with_reducible exact Alr S
  |with_reducible exact Als S
  |with_reducible exact Alt S
  |with_reducible exact Alu S
  |with_reducible exact Alw S hG
  |with_reducible exact Alx S
  |with_reducible exact Ali S _ hE
  |with_reducible exact Od S [0,2] 2 _ (Fo [0,2])
  |with_reducible exact Od S [123,45,60,7] 4 _ (Fo [123,45,60,7])
  |with_reducible exact Od S [-7,7,17,70,107] 5 _ (Fo [-7,7,17,70,107])
  |with_reducible exact Od S [1,3] 2 _ (Fo [1,3])
  |with_reducible exact Yv S [2,1,2,1] 4 _ (Fo [2,1,2,1])
  |with_reducible exact Yv S [3,3,1] 3 _ (Fo [3,3,1])
  |exact rfl
  |exact trivial
  |exact Alg S
  |exact Alh S
  |exact hB
  |exact kErr S _ _ (Fo [132,45,-60,7]) (Fo [123,45,60,7])
  |exact Alj S
  |exact Alk S _ (Fo [123,45,60,7])
  |exact All S
  |exact Alm S
  |exact Aln S
  |exact Alo S
  |exact Alq S
  |exact Alr S
  |exact Als S
  |exact Alt S
  |exact Alu S
  |exact Alw S hG
  |exact Alx S
  |exact Ali S _ hE
  |exact Od S [0,2] 2 _ (Fo [0,2])
  |exact Od S [123,45,60,7] 4 _ (Fo [123,45,60,7])
  |exact Od S [-7,7,17,70,107] 5 _ (Fo [-7,7,17,70,107])
  |exact Od S [1,3] 2 _ (Fo [1,3])
  |exact Yv S [2,1,2,1] 4 _ (Fo [2,1,2,1])
  |exact Yv S [3,3,1] 3 _ (Fo [3,3,1])
  |exact trivial
  |rfl
  |omega
section
variable {P:Program} {Y:TypeId->Ty} {a:Act} {w:World}
theorem Pq (hY:YOK P Y) {o:Oper} {t el:TypeId} {len:Nat} {ps:Array (Nat×Operand)} {vs:List Value} (ho:o.op=.buildSlice t len ps) (hk:(Y t).kind=.slice el) (hkn:(Y el).known=true) (hs:(Y el).size=1)
  (hp:(ps.map fun x=>(x.1,a.eval x.2)).toList=(vs.zipIdx 0).map fun x=>(x.2,x.1)) (hl:vs.length=len) (hpos:1<=len) (hsm:len<=100) (hc:∀ v∈vs,v.cells=#[v]):
  (execOp a.eval o).run P w=.ok (.value (.slice (some ⟨w.heap.size,0,none⟩) len len)) (w.alloc (.cells vs.toArray el)):=by
 obtain ⟨dd,i,z,h1,h2,h3,h4,h5,h6,h7,h8⟩:=hY t (by simp [Ty.known,hk])
 rw [hk] at h7
 simp only [KOK] at h7
 subst h7
 obtain ⟨dd,ie,ze,g1,g2,g3,g4,g5,g6,g7,g8⟩:=hY el hkn
 have hvsz:∀ v∈vs,v.cells.size=1:=fun v hv=>by rw [hc v hv];rfl
 have hfill:=Great.fill_whole (s:=1) (by omega) vs ((Array.range (len*1)).map (ze.cells[· % ze.cells.size]!)) hvsz (by simp [hl])
 have hrow:(vs.flatMap fun v=>v.cells.toList)=vs:=by
  clear hfill hvsz hp hl
  induction vs with
  |nil=>rfl
  |cons v vs ih=>
   rw [List.flatMap_cons,ih fun x hx=>hc x (List.mem_cons_of_mem _ hx),hc v List.mem_cons_self]
   rfl
 rw [hrow] at hfill
 have hrun:=run_buildSlice (P:=P) w t el len (ps.map fun x=>(x.1,a.eval x.2)) _ ie ze h1 g2 g5 (by rw [g3,hs];omega) (by rw [g3,hs];omega) (by rw [hp,g3,hs];exact hfill)
 simp [execOp,ho,hrun]
theorem Axj (hY:YOK P Y) {t el:TypeId} {p q:Operand} {b sb n m sc:Nat} {olds news:List Value} {f1 f2:Nat×Nat} {T1 T2:TypeId} (hk:(Y t).kind=.slice el) (hkn:(Y el).known=true) (hs:(Y el).size=1) (hby:(Y el).bytes<=100)
  (hp:a.eval p=.slice (some ⟨b,0,none⟩) n n) (hq:a.eval q=.slice (some ⟨sb,0,none⟩) m sc) (hn:olds.length=n) (hm:news.length=m) (hm1:1<=m) (hnm:n+m<=100)
  (hb:w.heap[b]?=some (.cells olds.toArray T1 f1)) (hsb:w.heap[sb]?=some (.cells news.toArray T2 f2)):
  ∃ cap zs,n+m<=cap/\cap<=maxLen/\∀ o:Oper,o.op=.call { callee:=.builtin .append,args:=#[p,q],argTypes:=#[t,t] }->(execOp a.eval o).run P w=.ok (.value (.slice (some ⟨w.heap.size,0,none⟩) (n+m) cap)) (w.drew.alloc (.cells (olds.toArray++news.toArray++zs) el)):=by
 obtain ⟨dd,i,z,h1,h2,h3,h4,h5,h6,h7,h8⟩:=hY t (by simp [Ty.known,hk])
 rw [hk] at h7
 simp only [KOK] at h7
 subst h7
 obtain ⟨dd,ie,ze,g1,g2,g3,g4,g5,g6,g7,g8⟩:=hY el hkn
 have hc1:∀ (j:Nat) (v:Value),olds[j]?=some v->w.cell? ((⟨b,0,none⟩:Addr).add j)=some v:=fun j v hj=>by
  rw [Hw]
  simp only [World.cell?,hb,Nat.zero_add]
  simpa using hj
 have hc2:∀ (j:Nat) (v:Value),news[j]?=some v->w.cell? ((⟨sb,0,none⟩:Addr).add j)=some v:=fun j v hj=>by
  rw [Hw]
  simp only [World.cell?,hsb,Nat.zero_add]
  simpa using hj
 have hbound:(n+m)*(Y el).bytes<=140737488355328:=by
  have:=Nat.mul_le_mul hnm hby
  omega
 have hrun:=fun ty=>run_append_grow (P:=P) w t ty el ie ze h1 g2 g5 ⟨b,0,none⟩ n n olds (by rw [g3,hs];omega) hc1 ⟨sb,0,none⟩ m sc news (by rw [g3,hs];omega) hc2 (by omega) (by omega) (by rw [g4];exact growslice_fits (by omega) hbound)
 have hge:=grownCap_ge w (n+m) n el
 refine ⟨grownCap w (n+m) n el,Builtin.zeroCells ze.cells (grownCap w (n+m) n el - (n+m)),hge,?_,?_⟩
 ·exact grownCap_le_maxLen w (n+m) n el (by unfold maxLen;omega)
 ·intro o ho
  simp [execOp,ho,hp,hq,resolve,invoke,builtin,hrun]
theorem Aly (hY:YOK P Y) {o:Oper} {p q:Operand} {t:TypeId} {b k:Nat} {v:Value} {cur:Array Value} {ct:TypeId} (ho:o.op=.store t p q) (hkn:(Y t).known=true) (hsz:(Y t).size=1) (hp:a.eval p=.pointer (some ⟨b,k,none⟩)) (hq:a.eval q=v)
  (hv:v.cells=#[v]) (h1:v.oneCell'=true) (hk:k<cur.size) (hcur:w.heap[b]?=some (.cells cur ct (0,0))):
  (execOp a.eval o).run P w=.ok .skip (w.setRow b (cur.toList.take k++[v]++cur.toList.drop (k+1)).toArray):=by
 have hst:=run_storeCells_at P b k ct [v] 0 cur w hcur (by simp only [List.length_singleton];omega) (fun u hu=>by rw [List.mem_singleton.1 hu];exact h1)
 have hvl:v.cells.toList=[v]:=by rw [hv]
 have hv2:v.cells.size=1:=by rw [hv];rfl
 simp only [Nat.add_zero,List.length_singleton] at hst
 simp [execOp,ho,hp,hq,Instr.storeAt,Instr.sureAddr,storeVar,Eu hY hkn,hsz,hv,hst]
theorem Axk (hY:YOK P Y) {p q:Operand} {t:TypeId} {b:Nat} {v c0 c1:Value} {ct:TypeId} (hkn:(Y t).known=true) (hsz:(Y t).size=1) (hp:a.eval p=.pointer (some ⟨b,0,none⟩)) (hq:a.eval q=v)
  (hv:v.cells=#[v]) (h1:v.oneCell'=true) (hcur:w.heap[b]?=some (.cells #[c0,c1] ct (0,0))):
  ∃ w',(∀ o:Oper,o.op=.store t p q->(execOp a.eval o).run P w=.ok .skip w')/\w'.heap[b]?=some (.cells #[v,c1] ct (0,0))/\Same w w'/\∀ b',b'≠b->w'.heap[b']?=w.heap[b']?:=
 ⟨_,fun o ho=>Aly hY ho hkn hsz hp hq hv h1 (cur:=#[c0,c1]) (Nat.zero_lt_succ 1) hcur,setRow_heap w b _ _ _ _ hcur,⟨rfl,rfl,rfl,by simp [World.setRow]⟩,fun b' hb=>setRow_other w b b' _ hb⟩
theorem Axl (hY:YOK P Y) {p q:Operand} {t:TypeId} {b:Nat} {v c0 c1:Value} {ct:TypeId} (hkn:(Y t).known=true) (hsz:(Y t).size=1) (hp:a.eval p=.pointer (some ⟨b,1,none⟩)) (hq:a.eval q=v)
  (hv:v.cells=#[v]) (h1:v.oneCell'=true) (hcur:w.heap[b]?=some (.cells #[c0,c1] ct (0,0))):
  ∃ w',(∀ o:Oper,o.op=.store t p q->(execOp a.eval o).run P w=.ok .skip w')/\w'.heap[b]?=some (.cells #[c0,v] ct (0,0))/\Same w w'/\∀ b',b'≠b->w'.heap[b']?=w.heap[b']?:=
 ⟨_,fun o ho=>Aly hY ho hkn hsz hp hq hv h1 (cur:=#[c0,c1]) (Nat.lt_succ_self 1) hcur,setRow_heap w b _ _ _ _ hcur,⟨rfl,rfl,rfl,by simp [World.setRow]⟩,fun b' hb=>setRow_other w b b' _ hb⟩
end
theorem Adb {P:Program} {Y:TypeId->Ty} {a:Act} {w:World} (hY:YOK P Y) {o:Oper} {p:Operand} {s:TypeId} {f b off:Nat} {fs:List (Nat×TypeId)} {q:Nat×TypeId} (ho:o.op=.fieldAddr s p f) (hfs:(Y s).fields=some fs) (hq:fs[f]?=some q) (hp:a.eval p=.pointer (some ⟨b,off,none⟩)):
  (execOp a.eval o).run P w=.ok (.value (.pointer (some ⟨b,off+q.1,none⟩))) w:=by
 have hk:=Aer hfs
 obtain ⟨d,i,z,h1,h2,h3,h4,h5,h6,h7,h8⟩:=hY s (Aa7 hk)
 rw [hk] at h7
 obtain ⟨fields,rfl,hmap,hne⟩:=h7
 rw [<-hmap] at hq
 rw [List.getElem?_map] at hq
 cases hf:fields.toList[f]? with
 |none=>rw [hf] at hq;cases hq
 |some fld=>
  rw [hf] at hq
  simp only [Option.map_some,Option.some.injEq] at hq
  subst hq
  obtain ⟨i',hi',hne'⟩:=hne fld (List.mem_of_getElem? hf)
  have hf':fields[f]?=some fld:=by simpa using hf
  simp [execOp,ho,hp,Instr.fieldAt,run_underlying h1,hf',Instr.sureAddr,fieldPlace,sizeOf,typeInfo,hi',hne',Hw]
structure AtA (w w':World) (v:Value) (b1 b2 b3 b4:Nat):Prop where
 same:Same w w'
 old:∀ b,b<w.heap.size->w'.heap[b]?=w.heap[b]?
 val:v=.agg #[.slice (some ⟨b3,0,none⟩) 2 2,.slice (some ⟨b4,0,none⟩) 2 2]
 lo:w.heap.size<=b1/\b1<b2/\b2<b3/\b3<b4/\b4<w'.heap.size
 c1:w'.heap[b1]?=some (.cells #[.int .i64 123,.int .i64 45,.int .i64 (-60),.int .i64 7] 3 (0,0))
 c2:w'.heap[b2]?=some (.cells #[.int .i64 132,.int .i64 45,.int .i64 60,.int .i64 7] 3 (0,0))
 c3:w'.heap[b3]?=some (.cells #[.slice (some ⟨b1,0,none⟩) 4 4,.slice (some ⟨b2,0,none⟩) 4 4] 22 (0,0))
 c4:w'.heap[b4]?=some (.cells #[.int .i64 1,.int .i64 1] 3 (0,0))
theorem k22:(Y 22).kind=.slice 3:=by kernel_rfl
theorem k40:(Y 40).kind=.slice 22:=by kernel_rfl
theorem kn3:(Y 3).known=true:=by kernel_rfl
theorem Yw:(Y 22).known=true:=by kernel_rfl
theorem kn40:(Y 40).known=true:=by kernel_rfl
theorem Ru:(Y 42).known=true:=by kernel_rfl
theorem s3:(Y 3).size=1:=by kernel_rfl
theorem s22:(Y 22).size=1:=by kernel_rfl
theorem s40:(Y 40).size=1:=by kernel_rfl
theorem s42:(Y 42).size=2:=by kernel_rfl
theorem z42:(Y 42).zero.toArray=#[.slice none 0 0,.slice none 0 0]:=by kernel_rfl
theorem a42:(Y 42).agg=some true:=by kernel_rfl
theorem Axm (p q:Option Addr) (n c m d:Nat):Tryz.prog.built 42 [(0,.slice p n c),(1,.slice q m d)]=some #[.slice p n c,.slice q m d]:=by kernel_rfl
theorem Ki (w:World) (o:Obj):∃ w',w.alloc o=w'/\Same w w'/\w'.heap.size=w.heap.size+1/\w'.heap[w.heap.size]?=some o/\∀ b,b<w.heap.size->w'.heap[b]?=w.heap[b]?:=
 ⟨_,rfl,Mv _ _,World.size_alloc ..,World.alloc_heap_new w _,fun b hb=>Hh _ _ hb⟩
theorem Alz {f:Func} {t:Nat} (hf:f.results=#[.cell t 42]) {a:Act} {w:World} {b1:Nat} {cs:Array Value} (h1:a.tmps.getD t undef=.pointer (some ⟨b1,0,none⟩)) (hc:cs.size=2)
  (g1:w.heap[b1]?=some (.cells cs 42 (0,0))):(results f a.tmps).run Tryz.prog w=.ok (.agg cs) w:=by
 have l1:=Tb yok a42 (w:=w) (b:=b1) (off:=0) (us:=cs.toList) (by rw [s42];simpa using hc) fun j u hj=>by
  simp only [World.cell?,g1,Nat.zero_add]
  simpa using hj
 have he:f.results.mapM (Dn a.tmps)=List.toArray <$> f.results.toList.mapM (Dn a.tmps):=Array.mapM_eq_mapM_toList ..
 have he2:results f a.tmps=(f.results.mapM (Dn a.tmps) >>= fun vs=>pure (if h:vs.size=1 then vs[0] else .tuple vs)):=rfl
 have hrun:([ResultVar.cell t 42].mapM (Dn a.tmps)).run Tryz.prog w=.ok [.agg cs] w:=by
  have r1:(Dn a.tmps (.cell t 42)).run Tryz.prog w=.ok (.agg cs) w:=by simp [Dn,h1,asAddr,l1]
  rw [Wl,r1,Result.andThen_ok]
  simp
 rw [he2,he,hf]
 simp only [Sem.run_bind,Sem.run_map,hrun,Result.andThen_ok,Sem.run_pure]
 rfl
theorem Axn (w:World):Calls Tryz.prog 70 #[] w fun en w'=>∃ v b1 b2 b3 b4,en=.returned v/\AtA w w' v b1 b2 b3 b4:=by
 go_enter_defers Tryz.func70,Tryz.ntmps70
 have S:SL { tmps:=#[undef,undef,undef,undef,undef,undef],defers:=[] } 6 (fun t=>#[].getD t undef) []:=by
  exact SL.start #[] 6 (Nat.le_of_ble_eq_true rfl)
 generalize ({ tmps:=#[undef,undef,undef,undef,undef,undef],defers:=[] }:Act)=a at S ⊢
 refine wp_seq (wp_region_list ?_)
 have hal:=fun (o:Oper) (ho:o.op=Op.alloc 42)=>Qr (P:=Tryz.prog) (a:=a) (w:=w) (o:=o) yok (t:=42) ho Ru
 rw [z42] at hal
 refine Cm S (d:=0) rfl (by decide) rfl (hal _ rfl) fun a1 S1=>?_
 obtain ⟨w1,hw1,m1,z1,n1,o1⟩:=Ki w (.cells #[.slice none 0 0,.slice none 0 0] 42)
 rw [hw1]
 refine wp_seq (wp_region_list ?_)
 refine Cm S1 (d:=1) rfl (by decide) rfl (Pq yok (vs:=[.int .i64 123,.int .i64 45,.int .i64 (-60),.int .i64 7]) rfl k22 kn3 s3 (by simp [Act.eval]) rfl (by decide) (by decide) (by simp [Value.cells])) fun a2 S2=>?_
 obtain ⟨w2,hw2,m2,z2,n2,o2⟩:=Ki w1 (.cells [Value.int .i64 123,.int .i64 45,.int .i64 (-60),.int .i64 7].toArray 3)
 rw [hw2]
 refine Cm S2 (d:=2) rfl (by decide) rfl (Pq yok (vs:=[.int .i64 132,.int .i64 45,.int .i64 60,.int .i64 7]) rfl k22 kn3 s3 (by simp [Act.eval]) rfl (by decide) (by decide) (by simp [Value.cells])) fun a3 S3=>?_
 obtain ⟨w3,hw3,m3,z3,n3,o3⟩:=Ki w2 (.cells [Value.int .i64 132,.int .i64 45,.int .i64 60,.int .i64 7].toArray 3)
 rw [hw3]
 refine Cm S3 (d:=3) rfl (by decide) rfl (Pq yok (vs:=[.slice (some ⟨w1.heap.size,0,none⟩) 4 4,.slice (some ⟨w2.heap.size,0,none⟩) 4 4]) rfl k40 Yw s22 (by simp [S3.eval,upd]) rfl (by decide) (by decide) (by simp [Value.cells])) fun a4 S4=>?_
 obtain ⟨w4,hw4,m4,z4,n4,o4⟩:=Ki w3 (.cells [Value.slice (some ⟨w1.heap.size,0,none⟩) 4 4,.slice (some ⟨w2.heap.size,0,none⟩) 4 4].toArray 22)
 rw [hw4]
 refine Cm S4 (d:=4) rfl (by decide) rfl (Pq yok (vs:=[.int .i64 1,.int .i64 1]) rfl k22 kn3 s3 (by simp [Act.eval]) rfl (by decide) (by decide) (by simp [Value.cells])) fun a5 S5=>?_
 obtain ⟨w5,hw5,m5,z5,n5,o5⟩:=Ki w4 (.cells [Value.int .i64 1,.int .i64 1].toArray 3)
 rw [hw5]
 refine Cm S5 (d:=5) (v:=.agg #[.slice (some ⟨w3.heap.size,0,none⟩) 2 2,.slice (some ⟨w4.heap.size,0,none⟩) 2 2]) (w':=w5) rfl (by decide) rfl ?_ fun a6 S6=>?_
 ·simp [execOp,S5.eval,upd,run_build (P:=Tryz.prog) w5 42 _ _ (Axm (some ⟨w3.heap.size,0,none⟩) (some ⟨w4.heap.size,0,none⟩) 2 2 2 2)]
 have g0:w5.heap[w.heap.size]?=some (.cells #[.slice none 0 0,.slice none 0 0] 42 (0,0)):=by rw [o5 _ (by omega),o4 _ (by omega),o3 _ (by omega),o2 _ (by omega)];exact n1
 have H:=fun (o:Oper) (ho:o.op=Op.store 42 (.tmp 0) (.tmp 5))=>Mz (P:=Tryz.prog) (a:=a6) (w:=w5) (v:=.agg #[.slice (some ⟨w3.heap.size,0,none⟩) 2 2,.slice (some ⟨w4.heap.size,0,none⟩) 2 2]) (b:=w.heap.size) (o:=o)
  yok (t:=42) ho Ru (by simp [S6.eval,upd]) (by simp [S6.eval,upd]) (by rw [s42];rfl) (by rw [s42];rfl) (by simp [Value.cells,Value.oneCell']) g0
 obtain ⟨_,t2,t3,t4⟩:=H (stO 42 (.tmp 0) (.tmp 5)) rfl
 refine Ls S6 rfl rfl (H _ rfl).1 fun a7 S7=>?_
 clear H
 generalize w5.setRow w.heap.size (Value.agg #[.slice (some ⟨w3.heap.size,0,none⟩) 2 2,.slice (some ⟨w4.heap.size,0,none⟩) 2 2]).cells=w6 at t2 t3 t4 ⊢
 refine wp_ret ?_
 show Leaves Tryz.prog Tryz.f70 a7.tmps _ a7.defers .returning w6
 rw [S7.defers]
 have r1:=Alz (f:=Tryz.f70) (t:=0) Tryz.results70 (a:=a7) (w:=w6) (b1:=w.heap.size) (by rw [S7.get 0 (by decide)];simp [upd]) rfl t2
 have hsz:=t3.size
 refine ⟨_,r1,_,w1.heap.size,w2.heap.size,w3.heap.size,w4.heap.size,rfl,⟨((((m1.trans m2).trans m3).trans m4).trans m5).trans t3,fun b hb=>?_,rfl,by omega,?_,?_,?_,?_⟩⟩
 ·rw [t4 _ (by omega),o5 _ (by omega),o4 _ (by omega),o3 _ (by omega),o2 _ (by omega),o1 _ hb]
 ·rw [t4 _ (by omega),o5 _ (by omega),o4 _ (by omega),o3 _ (by omega)];exact n2
 ·rw [t4 _ (by omega),o5 _ (by omega),o4 _ (by omega)];exact n3
 ·rw [t4 _ (by omega),o5 _ (by omega)];exact n4
 ·rw [t4 _ (by omega)];exact n5
theorem fs42:(Y 42).fields=some [(0,40),(1,22)]:=by kernel_rfl
theorem fn70:Hj Tryz.prog 70:=⟨Tryz.f70,by kernel_rfl,by kernel_rfl,by kernel_rfl⟩
theorem ag40:(Y 40).agg=some false:=by kernel_rfl
theorem by22:(Y 22).bytes<=100:=Nat.le_of_ble_eq_true (by kernel_rfl)
structure AtB (w w':World) (v:Value) (b1 b2 d1 d3 d4 cap:Nat) (zs:Array Value):Prop where
 same:Same w w'
 old:∀ b,b<w.heap.size->w'.heap[b]?=w.heap[b]?
 val:v=.agg #[.slice (some ⟨d3,0,none⟩) 3 cap,.slice (some ⟨d4,0,none⟩) 3 3]
 cap:3<=cap/\cap<=maxLen
 lo:w.heap.size<=b1/\b1<b2/\b2<d1/\d1<d3/\d3<d4/\d4<w'.heap.size
 c1:w'.heap[b1]?=some (.cells #[.int .i64 123,.int .i64 45,.int .i64 (-60),.int .i64 7] 3 (0,0))
 c2:w'.heap[b2]?=some (.cells #[.int .i64 132,.int .i64 45,.int .i64 60,.int .i64 7] 3 (0,0))
 e1:w'.heap[d1]?=some (.cells #[.int .i64 123,.int .i64 45,.int .i64 60,.int .i64 7] 3 (0,0))
 e3:w'.heap[d3]?=some (.cells (#[.slice (some ⟨b1,0,none⟩) 4 4,.slice (some ⟨b2,0,none⟩) 4 4,.slice (some ⟨d1,0,none⟩) 4 4]++zs) 22 (0,0))
 e4:w'.heap[d4]?=some (.cells #[.int .i64 1,.int .i64 1,.int .i64 0] 3 (0,0))
theorem Axo (w:World):Calls Tryz.prog 72 #[] w fun en w'=>∃ v b1 b2 d1 d3 d4 cap zs,en=.returned v/\AtB w w' v b1 b2 d1 d3 d4 cap zs:=by
 go_enter_defers Tryz.func72,Tryz.ntmps72
 have S:SL { tmps:=#[undef,undef,undef,undef,undef,undef,undef,undef,undef,undef,undef,undef],defers:=[] } 12 (fun t=>#[].getD t undef) []:=by
  exact SL.start #[] 12 (Nat.le_of_ble_eq_true rfl)
 generalize ({ tmps:=#[undef,undef,undef,undef,undef,undef,undef,undef,undef,undef,undef,undef],defers:=[] }:Act)=a at S ⊢
 refine wp_seq (wp_region_list ?_)
 have hal:=fun (o:Oper) (ho:o.op=Op.alloc 42)=>Qr (P:=Tryz.prog) (a:=a) (w:=w) (o:=o) yok (t:=42) ho Ru
 rw [z42] at hal
 refine Cm S (d:=0) rfl (by decide) rfl (hal _ rfl) fun a1 S1=>?_
 obtain ⟨w1,hw1,m1,z1,n1,o1⟩:=Ki w (.cells #[.slice none 0 0,.slice none 0 0] 42)
 rw [hw1]
 refine wp_seq (wp_region_list ?_)
 refine Ap1 S1 (d:=2) (g:=70) (vs:=#[]) rfl (by decide) rfl ?_ (Axn w1) (fun v w2 hr a2 S2=>?_) (fun ch w2 hr=>?_) (fun w2 hr=>?_)
 ·have:=fun (o:Oper) (ho:o.op=Op.call { callee:=Callee.value (.func 70),args:=#[],argTypes:=#[] })=>Aao (P:=Tryz.prog) (a:=a1) (w:=w1) (o:=o) ho rfl fn70 (us:=#[]) (cvs:=#[])
  simpa using this _ rfl
 ·obtain ⟨v',b1,b2,b3,b4,hv,A⟩:=hr
  obtain rfl:v=v':=Ending.returned.inj hv
  have hA:=A.lo
  have hval:=A.val
  subst hval
  have hal:=fun (o:Oper) (ho:o.op=Op.alloc 42)=>Qr (P:=Tryz.prog) (a:=a2) (w:=w2) (o:=o) yok (t:=42) ho Ru
  rw [z42] at hal
  refine Cm S2 (d:=1) rfl (by decide) rfl (hal _ rfl) fun a3 S3=>?_
  obtain ⟨w3,hw3,m3,z3,n3,o3⟩:=Ki w2 (.cells #[.slice none 0 0,.slice none 0 0] 42)
  rw [hw3]
  have H:=fun (o:Oper) (ho:o.op=Op.store 42 (.tmp 1) (.tmp 2))=>Mz (P:=Tryz.prog) (a:=a3) (w:=w3) (v:=.agg #[.slice (some ⟨b3,0,none⟩) 2 2,.slice (some ⟨b4,0,none⟩) 2 2]) (b:=w2.heap.size) (o:=o)
   yok (t:=42) ho Ru (by simp [S3.eval,upd]) (by simp [S3.eval,upd]) (by rw [s42];rfl) (by rw [s42];rfl) (by simp [Value.cells,Value.oneCell']) n3
  obtain ⟨_,t2,t3,t4⟩:=H (stO 42 (.tmp 1) (.tmp 2)) rfl
  refine Ls S3 rfl rfl (H _ rfl).1 fun a4 S4=>?_
  clear H
  generalize w3.setRow w2.heap.size (Value.agg #[.slice (some ⟨b3,0,none⟩) 2 2,.slice (some ⟨b4,0,none⟩) 2 2]).cells=w4 at t2 t3 t4 ⊢
  have hz4:=t3.size
  refine wp_seq (wp_region_list ?_)
  refine Cm S4 (d:=3) rfl (by decide) rfl (Adb yok rfl fs42 rfl (b:=w2.heap.size) (off:=0) (by simp [S4.eval,upd])) fun a5 S5=>?_
  refine Cm S5 (d:=4) rfl (by decide) rfl (Xh yok (b:=w2.heap.size) (k:=0) (u:=.slice (some ⟨b3,0,none⟩) 2 2) rfl ag40 (by simp [S5.eval,upd]) (by simp [World.cell?,t2,Value.cells])) fun a6 S6=>?_
  refine Cm S6 (d:=5) rfl (by decide) rfl (Pq yok (vs:=[.int .i64 123,.int .i64 45,.int .i64 60,.int .i64 7]) rfl k22 kn3 s3 (by simp [Act.eval]) rfl (by decide) (by decide) (by simp [Value.cells])) fun a7 S7=>?_
  obtain ⟨w5,hw5,m5,z5,n5,o5⟩:=Ki w4 (.cells [Value.int .i64 123,.int .i64 45,.int .i64 60,.int .i64 7].toArray 3)
  rw [hw5]
  refine Cm S7 (d:=6) rfl (by decide) rfl (Pq yok (vs:=[.slice (some ⟨w4.heap.size,0,none⟩) 4 4]) rfl k40 Yw s22 (by simp [S7.eval,upd]) rfl (by decide) (by decide) (by simp [Value.cells])) fun a8 S8=>?_
  obtain ⟨w6,hw6,m6,z6,n6,o6⟩:=Ki w5 (.cells [Value.slice (some ⟨w4.heap.size,0,none⟩) 4 4].toArray 22)
  rw [hw6]
  have hb3:w6.heap[b3]?=some (.cells [Value.slice (some ⟨b1,0,none⟩) 4 4,.slice (some ⟨b2,0,none⟩) 4 4].toArray 22 (0,0)):=by
   rw [o6 _ (by omega),o5 _ (by omega),t4 _ (by omega),o3 _ (by omega)];exact A.c3
  obtain ⟨cap,zs,hc1,hc2,hrun⟩:=Axj (P:=Tryz.prog) (a:=a8) (w:=w6) (p:=.tmp 4) (q:=.tmp 6) yok (t:=40) (el:=22) (b:=b3) (sb:=w5.heap.size) (n:=2) (m:=1) (sc:=1)
   (olds:=[Value.slice (some ⟨b1,0,none⟩) 4 4,.slice (some ⟨b2,0,none⟩) 4 4]) (news:=[Value.slice (some ⟨w4.heap.size,0,none⟩) 4 4]) k40 Yw s22 by22 (by simp [S8.eval,upd]) (by simp [S8.eval,upd]) rfl rfl (by decide) (by decide) hb3 n6
  refine Cm S8 (d:=7) rfl (by decide) rfl (hrun _ rfl) fun a9 S9=>?_
  clear hrun
  obtain ⟨w7,hw7,m7,z7,n7,o7⟩:=Ki w6.drew (.cells ([Value.slice (some ⟨b1,0,none⟩) 4 4,.slice (some ⟨b2,0,none⟩) 4 4].toArray++[Value.slice (some ⟨w4.heap.size,0,none⟩) 4 4].toArray++zs) 22)
  rw [hw7]
  have hdh:w6.drew.heap=w6.heap:=rfl
  have hds:Same w6 w6.drew:=⟨rfl,rfl,rfl,Nat.le_refl _⟩
  rw [hdh] at z7 n7 o7
  refine Cm S9 (d:=8) rfl (by decide) rfl (Pq yok (vs:=[.int .i64 1,.int .i64 1,.int .i64 0]) rfl k22 kn3 s3 (by simp [Act.eval]) rfl (by decide) (by decide) (by simp [Value.cells])) fun a10 S10=>?_
  obtain ⟨w8,hw8,m8,z8,n8,o8⟩:=Ki w7 (.cells [Value.int .i64 1,.int .i64 1,.int .i64 0].toArray 3)
  rw [hw8]
  have hc8:w8.heap[w2.heap.size]?=some (.cells #[.slice (some ⟨b3,0,none⟩) 2 2,.slice (some ⟨b4,0,none⟩) 2 2] 42 (0,0)):=by
   rw [o8 _ (by omega),o7 _ (by omega),o6 _ (by omega),o5 _ (by omega)];exact t2
  refine Cm S10 (d:=9) rfl (by decide) rfl (Adb yok rfl fs42 rfl (b:=w2.heap.size) (off:=0) (by simp [S10.eval,upd])) fun a11 S11=>?_
  obtain ⟨w9,q0,q1,q3,q2⟩:=Axk (P:=Tryz.prog) (a:=a11) (w:=w8) (p:=.tmp 9) (q:=.tmp 7) yok (t:=40) kn40 s40 (b:=w2.heap.size) (v:=.slice (some ⟨w6.heap.size,0,none⟩) 3 cap) (by simp [S11.eval,upd]) (by simp [S11.eval,upd]) rfl rfl hc8
  refine Ls S11 rfl rfl (q0 _ rfl) fun a12 S12=>?_
  refine Cm S12 (d:=10) rfl (by decide) rfl (Adb yok rfl fs42 rfl (b:=w2.heap.size) (off:=0) (by simp [S12.eval,upd])) fun a13 S13=>?_
  obtain ⟨w10,r0,r1,r3,r2⟩:=Axl (P:=Tryz.prog) (a:=a13) (w:=w9) (p:=.tmp 10) (q:=.tmp 8) yok (t:=22) Yw s22 (b:=w2.heap.size) (v:=.slice (some ⟨w7.heap.size,0,none⟩) 3 3) (by simp [S13.eval,upd]) (by simp [S13.eval,upd]) rfl rfl q1
  refine Ls S13 rfl rfl (r0 _ rfl) fun a14 S14=>?_
  refine wp_seq (wp_region_list ?_)
  refine Cm S14 (d:=11) rfl (by decide) rfl (Ap2 yok (b:=w2.heap.size) (cur:=#[.slice (some ⟨w6.heap.size,0,none⟩) 3 cap,.slice (some ⟨w7.heap.size,0,none⟩) 3 3]) (t:=42) rfl a42 (by simp [S14.eval,upd]) (by rw [s42];rfl) r1) fun a15 S15=>?_
  have hn0:w10.heap[w.heap.size]?=some (.cells #[.slice none 0 0,.slice none 0 0] 42 (0,0)):=by
   rw [r2 _ (by omega),q2 _ (by omega),o8 _ (by omega),o7 _ (by omega),o6 _ (by omega),o5 _ (by omega),t4 _ (by omega),o3 _ (by omega),A.old _ (by omega)];exact n1
  have H:=fun (o:Oper) (ho:o.op=Op.store 42 (.tmp 0) (.tmp 11))=>Mz (P:=Tryz.prog) (a:=a15) (w:=w10) (v:=.agg #[.slice (some ⟨w6.heap.size,0,none⟩) 3 cap,.slice (some ⟨w7.heap.size,0,none⟩) 3 3]) (b:=w.heap.size) (o:=o)
   yok (t:=42) ho Ru (by simp [S15.eval,upd]) (by simp [S15.eval,upd]) (by rw [s42];rfl) (by rw [s42];rfl) (by simp [Value.cells,Value.oneCell']) hn0
  obtain ⟨_,v2,v3,v4⟩:=H (stO 42 (.tmp 0) (.tmp 11)) rfl
  refine Ls S15 rfl rfl (H _ rfl).1 fun a16 S16=>?_
  clear H
  generalize w10.setRow w.heap.size (Value.agg #[.slice (some ⟨w6.heap.size,0,none⟩) 3 cap,.slice (some ⟨w7.heap.size,0,none⟩) 3 3]).cells=w11 at v2 v3 v4 ⊢
  refine wp_ret ?_
  show Leaves Tryz.prog Tryz.f72 a16.tmps _ a16.defers .returning w11
  rw [S16.defers]
  have e1:=Alz (f:=Tryz.f72) (t:=0) Tryz.results72 (a:=a16) (w:=w11) (b1:=w.heap.size) (by rw [S16.get 0 (by decide)];simp [upd]) rfl v2
  have y1:=q3.size
  have y2:=r3.size
  have y3:=v3.size
  have old:∀ b,b<w8.heap.size->b≠w2.heap.size->b≠w.heap.size->w11.heap[b]?=w8.heap[b]?:=fun b hb h1 h2=>by rw [v4 _ h2,r2 _ h1,q2 _ h1]
  have old6:∀ b,b<w4.heap.size->b≠w2.heap.size->b≠w.heap.size->w11.heap[b]?=w4.heap[b]?:=fun b hb h1 h2=>by rw [old b (by omega) h1 h2,o8 _ (by omega),o7 _ (by omega),o6 _ (by omega),o5 _ hb]
  have oldA:∀ b,b<w2.heap.size->b≠w.heap.size->w11.heap[b]?=w2.heap[b]?:=fun b hb h2=>by rw [old6 b (by omega) (by omega) h2,t4 _ (by omega),o3 _ hb]
  refine ⟨_,e1,_,b1,b2,w4.heap.size,w6.heap.size,w7.heap.size,cap,zs,rfl,⟨?_,fun b hb=>?_,rfl,⟨hc1,hc2⟩,by omega,?_,?_,?_,?_,?_⟩⟩
  ·exact ((((((((((m1.trans A.same).trans m3).trans t3).trans m5).trans m6).trans hds).trans m7).trans m8).trans q3).trans r3).trans v3
  ·rw [oldA b (by omega) (by omega),A.old _ (by omega),o1 _ hb]
  ·rw [oldA _ (by omega) (by omega)];exact A.c1
  ·rw [oldA _ (by omega) (by omega)];exact A.c2
  ·rw [old _ (by omega) (by omega) (by omega),o8 _ (by omega),o7 _ (by omega),o6 _ (by omega)];exact n5
  ·rw [old _ (by omega) (by omega) (by omega),o8 _ (by omega)];exact n7
  ·rw [old _ (by omega) (by omega) (by omega)];exact n8
 ·obtain ⟨_,_,_,_,_,h,_⟩:=hr;cases h
 ·obtain ⟨_,_,_,_,_,h,_⟩:=hr;cases h
theorem Yx {vis:Nat->Nat} {w:World} {b:Nat} {l:List Int} {T:TypeId} {f:Nat×Nat} (hl:l.length<=100) (hb:w.heap[b]?=some (.cells (l.map (Value.int .i64)).toArray T f)) (hv:l.length<=vis b):Rep vis w (.l eI l) (.slice (some ⟨b,0,none⟩) l.length l.length):=by
 refine .s _ _ _ b 0 l.length 1 (fun i _=>.int .i64 (nth l i)) (Nat.le_refl _) (by unfold maxLen;omega) (fun i hi=>rfl) (by omega) (fun i j c hi hj=>?_) (fun i j c hi hj=>?_)
 ·have hj0:j=0:=by
   have:=(List.getElem?_eq_some_iff.1 hj).1
   have h1:(eI (nth l i)).length=1:=rfl
   omega
  subst hj0
  simp only [World.cell?,hb]
  rw [show 0+i*1+0=i by omega]
  simp [Ed hi,hi]
 ·have hj0:j=0:=by
   have:=(List.getElem?_eq_some_iff.1 hj).1
   have h1:(eI (nth l i)).length=1:=rfl
   omega
  subst hj0
  obtain rfl:C.v (.int .i64 (nth l i))=c:=Option.some.inj hj
  exact .v _ rfl
theorem exB72 {Gl:World->Prop}:CO Gl 72 [] (.ret (Ak exB)):=by
 refine ⟨⟨Tryz.f72,by kernel_rfl,by kernel_rfl,by kernel_rfl⟩,fun vis w vs hvis hgl hargs=>?_⟩
 obtain rfl:vs=#[]:=by
  simp only [Ag] at hargs
  exact Array.toList_eq_nil_iff.1 hargs
 refine (Axo w).mono ?_
 rintro en w' ⟨v,b1,b2,d1,d3,d4,cap,zs,rfl,A⟩
 have hA:=A.lo
 have hcap:=A.cap
 refine ⟨⟨A.same.os,A.same.tape,A.same.output,A.same.size,A.old⟩,v,fun b=>if b<w.heap.size then vis b else if b<w'.heap.size then 4 else 0,rfl,fun b hb=>if_pos hb,fun b hb=>?_,?_⟩
 ·have:=A.same.size
  show (if b<w.heap.size then vis b else if b<w'.heap.size then 4 else 0)=0
  rw [if_neg (by omega),if_neg (by omega)]
 ·generalize hvv:(fun b=>if b<w.heap.size then vis b else if b<w'.heap.size then 4 else 0)=vv
  have hv4:∀ b,w.heap.size<=b->b<w'.heap.size->vv b=4:=fun b h1 h2=>by rw [<-hvv];show (if b<w.heap.size then vis b else if b<w'.heap.size then 4 else 0)=4;rw [if_neg (by omega),if_pos h2]
  have hval:=A.val
  subst hval
  have i1:=Yx (vis:=vv) (l:=[123,45,-60,7]) (by decide) A.c1 (by rw [hv4 _ (by omega) (by omega)];decide)
  have i2:=Yx (vis:=vv) (l:=[132,45,60,7]) (by decide) A.c2 (by rw [hv4 _ (by omega) (by omega)];decide)
  have i3:=Yx (vis:=vv) (l:=[123,45,60,7]) (by decide) A.e1 (by rw [hv4 _ (by omega) (by omega)];decide)
  have i4:=Yx (vis:=vv) (l:=[1,1,0]) (by decide) A.e4 (by rw [hv4 _ (by omega) (by omega)];decide)
  refine ⟨_,rfl,rfl,fun j c u hc hu=>?_⟩
  match j,hc,hu with
  |0,hc,hu=>
   obtain rfl:=Option.some.inj hc
   obtain rfl:=Option.some.inj hu
   refine .s _ _ _ d3 0 cap 1 (fun i _=>match i with|0=>.slice (some ⟨b1,0,none⟩) 4 4|1=>.slice (some ⟨b2,0,none⟩) 4 4|_=>.slice (some ⟨d1,0,none⟩) 4 4) hcap.1 hcap.2 (fun i hi=>rfl) (by rw [hv4 _ (by omega) (by omega)];decide) (fun i j c hi hj=>?_) (fun i j c hi hj=>?_)
   ·have hj0:j=0:=by
     have h1:=(List.getElem?_eq_some_iff.1 hj).1
     have h2:(Ah (nth exB.cols i)).length=1:=rfl
     omega
    subst hj0
    have hi:i<3:=hi
    match i,hi with
    |0,_=>
     simp only [World.cell?,A.e3]
     exact (Array.getElem?_append_left (show 0<3 by decide)).trans rfl
    |1,_=>
     simp only [World.cell?,A.e3]
     exact (Array.getElem?_append_left (show 1<3 by decide)).trans rfl
    |2,_=>
     simp only [World.cell?,A.e3]
     exact (Array.getElem?_append_left (show 2<3 by decide)).trans rfl
   ·have hj0:j=0:=by
     have h1:=(List.getElem?_eq_some_iff.1 hj).1
     have h2:(Ah (nth exB.cols i)).length=1:=rfl
     omega
    subst hj0
    obtain rfl:C.l eI (nth exB.cols i)=c:=Option.some.inj hj
    have hi:i<3:=hi
    match i,hi with
    |0,_=>exact i1
    |1,_=>exact i2
    |2,_=>exact i3
  |1,hc,hu=>
   obtain rfl:=Option.some.inj hc
   obtain rfl:=Option.some.inj hu
   exact i4
  |j+2,hc,hu=>cases hc
def Rv (a b:Sheet) (i:Nat):Bool:=Cl (·==·) (nth a.cols i) (nth b.cols i)
def Em (a b:Sheet):Bool:=(Cl (·==·) a.errs b.errs&&a.cols.length==b.cols.length)&&(List.range a.cols.length).all (Rv a b)
theorem Am0 {Gl} (S:SP Gl) (a b:Sheet):CO Gl 68 [Ak a,Ak b] (.ret (B (Em a b))):=by
 refine Au S (let A0:=(eqB (!Cl (fun x1 x2=>x1==x2) a.2 b.2) false=true->eqB (!Cl (fun x1 x2=>x1==x2) a.2 b.2) false=true);let A1:=(fun x1 x2=>x1==x2);let A2:=(List.range (List.length (Sheet.cols a)));let A3:=(bif !Cl A1 a.2 b.2 then true else (a.1.length:Int) != (b.1.length:Int));let A4:=(!Cl A1 a.2 b.2);((.r (.ret (B (Cl A1 a.2 b.2))) (.br .nil (.loop (Bk (Rv a b) A2) (fun k=>v 5 (I k)::v 2 (ad 2)::v 3 (ad 3)::(bx 2 (Bh a)++bx 3 (Bh b))) fun k0=>.br (.r (.ret (B (Cl A1 (nth a.1 k0) (nth b.1 k0)))) (.br .nil .nil)) .nil))),(CO Gl 34 [L eI a.2,L eI b.2] (.ret (B (Cl A1 a.2 b.2)))/\A0/\A0/\((eqB A4 false=true->a.1.length<=maxLen)->A0/\A0/\((eqB A4 false=true->b.1.length<=maxLen)->A0/\A0/\(A4=false->eqB A4 false=true)/\(A3=true->false=Em a b)/\(A3=false->(0=(↑(0:Nat):Int)/\(sR Ah a.1)/\(sR eI a.2)/\(sR Ah b.1)/\sR eI b.2)/\∀ (k0:Nat),k0<=Bk (Rv a b) A2->a.1.length<=maxLen->(decide ((k0:Int)<(a.1.length:Int))=true->(0<=(k0:Int)/\(k0:Int)<(a.1.length:Int))/\(0<=(k0:Int)/\(k0:Int)<(b.1.length:Int))/\CO Gl 34 [L eI (nth a.1 k0),L eI (nth b.1 k0)] (.ret (B (Cl A1 (nth a.1 k0) (nth b.1 k0))))/\((!Cl A1 (nth a.1 k0) (nth b.1 k0))=true->false=Em a b)/\((!Cl A1 (nth a.1 k0) (nth b.1 k0))=false->iR ((k0:Int)+1)/\k0<Bk (Rv a b) A2/\(k0:Int)+1=(↑(k0+1):Int)/\(sR Ah a.1)/\(sR eI a.2)/\(sR Ah b.1)/\sR eI b.2))/\(decide ((k0:Int)<(a.1.length:Int))=false->true=Em a b))))))) Tryz.func68 (by kernel_rfl) (by kernel_rfl) ?_
 simp only [stdS,imp_self,implies_true,and_true,Qw]
 refine ⟨Abh S _ _,fun _ _=>⟨fun h=>?_,fun h=>?_⟩⟩
 ·unfold Em
  cases hx:Cl (·==·) a.errs b.errs<;>cases hy:a.cols.length==b.cols.length<;>rw [hx,hy] at h<;>first|rfl|cases h
 ·have hxy:Cl (·==·) a.errs b.errs=true/\(a.cols.length==b.cols.length)=true:=by
   cases hx:Cl (·==·) a.errs b.errs<;>cases hy:a.cols.length==b.cols.length<;>rw [hx,hy] at h<;>first|exact ⟨rfl,rfl⟩|cases h
  obtain ⟨hx,hy⟩:=hxy
  have hlen:a.cols.length=b.cols.length:=by simpa using hy
  refine fun k hk hm=>⟨fun hd=>?_,fun hd=>?_⟩
  ·have hlt:k<a.cols.length:=by have:=of_decide_eq_true hd;omega
   refine ⟨⟨by omega,by omega⟩,⟨by omega,by omega⟩,Abh S _ _,fun hb=>?_,fun hb=>⟨Abj hd hm,Jf hk (by rw [List.length_range];exact hlt) (by rw [Cd hlt];exact hb),by omega,trivial⟩⟩
   have:(List.range a.cols.length).all (Rv a b)=false:=Pc (k:=k) (by rw [List.length_range];exact hlt) (by rw [Cd hlt];exact hb)
   unfold Em
   rw [this,Bool.and_false]
  ·have hge:¬ (k:Int)<(a.cols.length:Int):=of_decide_eq_false hd
   have:(List.range a.cols.length).all (Rv a b)=true:=Im (by rw [List.length_range];omega)
   unfold Em
   rw [this,hx,hy]
   rfl
section
variable {Gl} (S:SP Gl) (s:Sheet)
include S
end
set_option maxRecDepth 100000
set_option maxHeartbeats 8000000
def prT (s:Sheet):List UInt8:=bif s.ok then Ek s else []
theorem Axp {Gl} (S:SP Gl) (hG:GlOK Gl) (s:Sheet):CO Gl 65 [Ak s] (.ret (.tup [.c (.v (.string (bs (prT s)))),.c (Ci (bif s.ok then 0 else 2))])):=by
 unfold prT
 cases hs:s.ok with
 |true=>exact Aw9 S hG s hs
 |false=>exact Awa S s hs
theorem Rw (s:Sheet):Em s s=true:=by
 unfold Em
 rw [Yu,beq_self_eq_true,Bool.true_and,Bool.true_and,List.all_eq_true]
 exact fun i _=>Yu _
set_option maxRecDepth 100000
set_option maxHeartbeats 8000000
theorem Add {l:List Int}:∀ {k:Nat},Hs l k=true↔∀ i,i<k->0<=nth l i
 |0=>⟨fun _ i hi=>absurd hi (Nat.not_lt_zero i),fun _=>rfl⟩
 |k+1=>by
  unfold Hs
  rw [Bool.and_eq_true,Add,decide_eq_true_eq]
  constructor
  ·rintro ⟨h1,h2⟩ i hi
   rcases Nat.lt_or_ge i k with h|h
   ·exact h1 i h
   ·have:i=k:=by omega
    subst this;exact h2
  ·exact fun h=>⟨fun i hi=>h i (by omega),h k (by omega)⟩
theorem Axq {s:List UInt8} (hs:s.length<=250) (h:okF s=true):Ey s=some (shX s (nRw s)):=by
 unfold okF at h
 rw [Bool.and_eq_true,Bool.and_eq_true,Bool.and_eq_true,decide_eq_true_eq,decide_eq_true_eq,beq_iff_eq] at h
 obtain ⟨h1,h2,h3,h4⟩:=h
 obtain ⟨hl,hr⟩:=Ala hs (k:=nRw s) (by omega) (by omega)
 have hcl:(shX s (nRw s)).cols.length=(e0 s).length:=by unfold shX;rw [List.length_map,List.length_range]
 have hp:∀ n∈(shX s (nRw s)).errs,0<=n:=fun n hn=>by
  unfold Gr at h1
  rw [Bool.and_eq_true,Add] at h1
  have hn:n∈e0 s:=hn
  unfold e0 nsB at hn
  rw [h1.1,cond_true] at hn
  obtain ⟨i,hi,rfl⟩:=Ir hn
  exact h1.2 i hi
 have ht:(shX s (nRw s)).txt:=⟨by omega,by rw [hcl];rfl,hl.eq,hp,hl.ne,hl.nc⟩
 have:=Avf ht
 rw [h4] at this
 exact this
theorem Axr {s:List UInt8} {x:Sheet} (h:Ey s=some x):okF s=true/\shX s (nRw s)=x:=by
 have ht:=Akk h
 have hx:=Avk h
 have hsp:Ac 10 s=Fw x++[Po (Fw x),[]]:=by rw [<-ht];exact Acz hx
 have hrl:(Fw x).length=rows x+1:=by unfold Fw;rw [Ur]
 have h0:Cw s 0=Dh++Aw x.errs:=by
  unfold Cw
  rw [hsp,Pb (by omega)]
  rfl
 have hi:∀ i,i<rows x->Cw s (i+1)=Cv++Aw (Am x i):=fun i hi=>by
  unfold Cw
  rw [hsp,Pb (by omega)]
  exact Ak3 hi
 have hn:nRw s=rows x:=by
  unfold nRw
  rw [hsp,List.length_append,hrl]
  simp
 obtain ⟨a1,a2⟩:=Yl Dh (by decide) hx.ne
 have b1:∀ i,i<rows x->nsR (Cw s (i+1))=Am x i/\okR (Cw s (i+1))=true:=fun i hi'=>by
  rw [hi i hi']
  exact Yl Cv (by decide) (hx.nc i hi')
 have he:e0 s=x.errs:=by
  unfold e0 nsB
  rw [h0,a2,a1]
  rfl
 have h9:∀ i,i<rows x->n9 s i=Am x i:=fun i hi'=>by
  unfold n9 nsB
  rw [(b1 i hi').2,(b1 i hi').1]
  rfl
 have hg:∀ i,i<rows x->Gt s i=true:=fun i hi'=>by
  unfold Gt
  rw [(b1 i hi').2,h9 i hi',Nw,he,hx.l,beq_self_eq_true]
  rfl
 have hgu:gU s=nRw s:=by
  have h1:=Jz (p:=Gt s) (l:=List.range (nRw s))
  rw [List.length_range] at h1
  rcases Nat.lt_or_ge (gU s) (nRw s) with h2|h2
  ·have h3:=Nf (p:=Gt s) (l:=List.range (nRw s)) (by rw [List.length_range];exact h2)
   have h4:Gt s (gU s)=false:=by
    have:nth (List.range (nRw s)) (gU s)=gU s:=Cd h2
    rw [<-this];exact h3
   rw [hg _ (by omega)] at h4
   cases h4
  ·have:gU s<=nRw s:=h1
   omega
 have hX:shX s (nRw s)=x:=by
  unfold shX
  rw [he,hn]
  have:(List.range x.errs.length).map (Fm s (rows x))=x.cols:=by
   refine Rk (by rw [List.length_map,List.length_range];exact hx.l) fun j hj=>?_
   rw [List.length_map,List.length_range] at hj
   have hjc:j<x.cols.length:=by rw [<-hx.l];exact hj
   rw [Cp (by rw [List.length_range];exact hj),Cd hj]
   refine Rk (by rw [Uz,hx.eq j hjc]) fun i hi'=>?_
   rw [Uz] at hi'
   rw [Al9 hi',h9 i hi',Uv hjc]
  rw [this]
 refine ⟨?_,hX⟩
 unfold okF
 rw [hX,ht,hgu,decide_eq_true rfl,beq_self_eq_true,he,decide_eq_true (show 1<=(x.errs.length:Int) by have:=hx.c;have:=hx.l;omega)]
 have hp:Gr (Cw s 0)=true:=by
  unfold Gr
  rw [h0,a2,a1,Add.2 fun i hi'=>hx.pos _ (Bm hi')]
  rfl
 rw [hp]
 rfl
def pB (s:List UInt8):Bool:=(Ey s).isSome
def pS (s:List UInt8):Sheet:=(Ey s).getD ⟨[],[]⟩
theorem Axs {Gl} (S:SP Gl) (s:List UInt8) (hs:s.length<=250):CO Gl 69 [str s] (.ret (.tup [.agg (Bh (pS s)),.c (Cb (pB s))])):=by
 have h:=Awr S s hs
 unfold pS pB
 cases hp:Ey s with
 |some x=>
  obtain ⟨h1,h2⟩:=Axr hp
  rw [h1,h2] at h
  exact h
 |none=>
  have h1:okF s=false:=by
   rw [Bool.eq_false_iff]
   intro hh
   rw [Axq hs hh] at hp
   cases hp
  rw [h1] at h
  exact h
theorem sameE {Gl} (S:SP Gl) (a:Sheet):CO Gl 68 [Ak a,.d (.agg [.v (.slice none 0 0),.v (.slice none 0 0)])] (.ret (B (Em a ⟨[],[]⟩))):=
 (Am0 S a ⟨[],[]⟩).args (xs:=[Ak a,.d (.agg [.v (.slice none 0 0),.v (.slice none 0 0)])]) ⟨Be rfl,Be rfl,rfl,rfl⟩
theorem Axt {Gl} (S:SP Gl) (hG:GlOK Gl) (s:List UInt8):CO Gl 18 [str s] (.ret (B true)):=by
 refine Au S (let A0:=(bif bif Dr s==(0:Int) then Em (Hd s) (pS s) else false then (bif Sheet.ok (Hd s) then (0:Int) else (2:Int))==(0:Int) else false);let A1:=(bif bif bif Dr s==(0:Int) then Em (Hd s) (pS s) else false then (bif Sheet.ok (Hd s) then (0:Int) else (2:Int))==(0:Int) else false then ByteArray.toList (bs (prT (Hd s)))==ByteArray.toList (bs s) else false);let A2:=(Hd s);let A3:=(Sheet.mk [] []);let A4:=(bif Dr s==(0:Int) then Em A2 (pS s) else false);let A5:=[Ak A2,T.d (D.agg [C.v (Value.slice none 0 0),C.v (Value.slice none 0 0)])];let A6:=(bif Dr s==(3:Int) then Em A2 A3 else false);let A7:=(bif Dr s==(4:Int) then Em A2 A3 else false);let A8:=(bif Dr s==(2:Int) then Em A2 A3 else false);let A9:=(Dr s==(3:Int));let A10:=(Dr s==(4:Int));let A11:=(Dr s==(2:Int));let A12:=(Dr s==(0:Int));let A13:=[D.c (C.v (Value.string (bs (prT A2)))),D.c (Ci (bif Sheet.ok A2 then (0:Int) else (2:Int)))];let A14:=(B (Em A2 A3));((.br (.r (.ret (B true)) .nil) (.r (.ret (.tup [D.agg (Bh A2),D.c (Ci (Dr s))])) (.r (.ret (.tup [D.agg (Bh (pS s)),D.c (Cb (pB s))])) (.br (.tt (.r (.ret A14) (.r (.ret (B true)) .nil))) (.br (.tt (.r (.ret A14) (.r (.ret (B true)) .nil))) (.r (.ret (B (Sheet.ok (pS s)))) (.br (.tt (.r (.ret A14) (.r (.ret (B true)) .nil))) (.ff (.r (.ret (.tup A13)) (.r (.ret (B (Em A2 (pS s)))) (.r (.ret (B true)) .nil))))))))))),((decide (250<(↑(ByteArray.size (bs s)):Int))=true->CO Gl 21 [] (.ret (B true))/\true=true)/\(decide (250<(↑(ByteArray.size (bs s)):Int))=false->CO Gl 66 [str s] (.ret (.tup [D.agg (Bh A2),D.c (Ci (Dr s))]))/\CO Gl 69 [str s] (.ret (.tup [D.agg (Bh (pS s)),D.c (Cb (pB s))]))/\(decide (150<(↑(ByteArray.size (bs s)):Int))=true->true=true/\(eqB A9 true=true->eqB A9 true=true)/\(eqB A9 true=true->eqB A9 true=true)/\(eqB A9 true=true->CO Gl 68 A5 (.ret A14))/\(A9=true->eqB A9 true=true)/\(eqB A6 true=true->CO Gl 21 [] (.ret (B true)))/\(A6=true->eqB A6 true=true)/\(bif bif Dr s==(3:Int) then Em A2 A3 else false then true else false)=true)/\(decide (150<(↑(ByteArray.size (bs s)):Int))=false->((!pB s)=true->true=true/\(eqB A10 true=true->eqB A10 true=true)/\(eqB A10 true=true->eqB A10 true=true)/\(eqB A10 true=true->CO Gl 68 A5 (.ret A14))/\(A10=true->eqB A10 true=true)/\(eqB A7 true=true->CO Gl 21 [] (.ret (B true)))/\(A7=true->eqB A7 true=true)/\(bif bif Dr s==(4:Int) then Em A2 A3 else false then true else false)=true)/\((!pB s)=false->CO Gl 32 [Ak (pS s)] (.ret (B (Sheet.ok (pS s))))/\((!Sheet.ok (pS s))=true->true=true/\(eqB A11 true=true->eqB A11 true=true)/\(eqB A11 true=true->eqB A11 true=true)/\(eqB A11 true=true->CO Gl 68 A5 (.ret A14))/\(A11=true->eqB A11 true=true)/\(eqB A8 true=true->CO Gl 21 [] (.ret (B true)))/\(A8=true->eqB A8 true=true)/\(bif bif Dr s==(2:Int) then Em A2 A3 else false then true else false)=true)/\((!Sheet.ok (pS s))=false->false=false/\CO Gl 65 [Ak A2] (.ret (.tup A13))/\(eqB A12 true=true->eqB A12 true=true)/\(eqB A12 true=true->eqB A12 true=true)/\(eqB A12 true=true->CO Gl 68 [Ak A2,Ak (pS s)] (.ret (B (Em A2 (pS s)))))/\(A12=true->eqB A12 true=true)/\(eqB A4 true=true->eqB A4 true=true)/\(A4=true->eqB A4 true=true)/\(eqB A0 true=true->eqB A0 true=true)/\(eqB A0 true=true->eqB A0 true=true)/\(A0=true->eqB A0 true=true)/\(eqB A1 true=true->CO Gl 21 [] (.ret (B true)))/\(A1=true->eqB A1 true=true)/\(bif bif bif bif Dr s==(0:Int) then Em A2 (pS s) else false then (bif Sheet.ok A2 then (0:Int) else (2:Int))==(0:Int) else false then ByteArray.toList (bs (prT A2))==ByteArray.toList (bs s) else false then true else false)=true))))))) Tryz.func18 (by kernel_rfl) (by kernel_rfl) ?_
 have hK:=Axi S hG exB72
 simp only [stdS,imp_self,implies_true,and_true,Bool.or_assoc]
 refine ⟨fun _=>⟨hK,trivial⟩,fun h1=>?_⟩
 have h1:s.length<=250:=by have:=of_decide_eq_false h1;rw [Bs] at this;omega
 have hE:=sameE S (⟨[],[]⟩:Sheet)
 rw [Rw] at hE
 refine ⟨Ax8 S hG s,Axs S s h1,fun h2=>?_,fun h2=>⟨fun hp=>?_,fun hp=>⟨Aq9 S _,fun ho=>?_,fun ho=>?_⟩⟩⟩
 ·have h2:150<s.length:=by have:=of_decide_eq_true h2;rw [Bs] at this;omega
  have e:Hd s=⟨[],[]⟩/\Dr s=3:=by unfold Hd Dr;rw [decide_eq_true h2];exact ⟨rfl,rfl⟩
  rw [e.1,e.2,Rw]
  exact ⟨fun _=>hE,fun _=>hK,rfl⟩
 all_goals
  have h2:¬ 150<s.length:=by have:=of_decide_eq_false h2;rw [Bs] at this;omega
 ·have hn:Ey s=none:=by
   unfold pB at hp
   cases h:Ey s with
   |none=>rfl
   |some x=>rw [h] at hp;cases hp
  have e:Hd s=⟨[],[]⟩/\Dr s=4:=by unfold Hd Dr;rw [decide_eq_false h2,hn];exact ⟨rfl,rfl⟩
  rw [e.1,e.2,Rw]
  exact ⟨fun _=>hE,fun _=>hK,rfl⟩
 all_goals
  obtain ⟨x,hx⟩:∃ x,Ey s=some x:=by
   unfold pB at hp
   cases h:Ey s with
   |none=>rw [h] at hp;cases hp
   |some x=>exact ⟨x,rfl⟩
  have hps:pS s=x:=by unfold pS;rw [hx];rfl
  rw [hps] at ho
 ·have e:Hd s=⟨[],[]⟩/\Dr s=2:=by
   unfold Hd Dr
   rw [decide_eq_false h2,hx]
   simp only [cond_false,ho,and_self]
  rw [e.1,e.2,Rw]
  exact ⟨fun _=>hE,fun _=>hK,rfl⟩
 ·have e:Hd s=x/\Dr s=0:=by
   unfold Hd Dr
   rw [decide_eq_false h2,hx]
   simp only [cond_false,cond_true,ho,and_self]
  have ht:prT x=s:=by unfold prT;rw [ho];exact Akk hx
  have hpr:=Axp S hG x
  have hm:=Am0 S x x
  rw [Rw] at hm
  rw [e.1,e.2,hps,Rw]
  rw [ho,ht] at hpr
  rw [ho,ht]
  simp only [beq_self_eq_true,cond_true,Bool.and_true,Bool.true_and,true_implies]
  ((repeat' (first|with_reducible apply And.intro|with_reducible intro _))<;>first|contradiction|with_reducible rfl|exact hpr|exact hm|exact hK|(simp;done)|omega)
theorem law18 {Gl} (S:SP Gl) (hG:GlOK Gl) (s:ByteArray):CO Gl 18 [.d (.c (.v (.string s)))] (.ret (B true)):=by
 have h:=Axt S hG s.data.toList
 exact h
end Go.Vc.Hn
