/- A part of the proofs over layer 2 (hands): the program and the specification; no condition. -/
import Derived.Test.YtncmcnpjmdpnaaaGreatDoorPE
set_option linter.all false
set_option linter.unusedSimpArgs false
set_option linter.unusedVariables false
namespace Go.Vc.Hn
open Go Go.Proofs Go.Vc Go.RowKit
def Ag4 (r:List UInt8):Nat:=Ap0 okS (tl r)
def Cl5 (s:List UInt8):Nat:=Ap0 (fun n:Int=>decide (0<=n)) (l0T s)
theorem Cn9 {r:List UInt8} (h:okR r=false):Ag4 r<(tl r).length/\okS (nth (tl r) (Ag4 r))=false:=by
 have hlt:Ag4 r<(tl r).length:=by
  rcases Nat.lt_or_ge (Ag4 r) (tl r).length with hh|hh
  ·exact hh
  ·have:(tl r).all okS=true:=Ai3 hh
   unfold okR at h
   rw [this] at h;cases h
 exact ⟨hlt,A59 hlt⟩
theorem Di3 {r:List UInt8} (h:okR r=true):Ag4 r=(tl r).length:=by
 have h1:=Ay6 (p:=okS) (l:=tl r)
 rcases Nat.lt_or_ge (Ag4 r) (tl r).length with hh|hh
 ·have h2:okS (nth (tl r) (Ag4 r))=false:=A59 hh
  have h3:=List.all_eq_true.1 h _ (Ab5 hh)
  rw [h2] at h3;cases h3
 ·unfold Ag4 at hh ⊢;omega
theorem Cg0 {r:List UInt8} {j:Nat} (h:j<Ag4 r):okS (nth (tl r) j)=true:=Ah6 h
theorem Cs6 {Gl} (S:SP Gl) (s:List UInt8) (hG:GlOK Gl) (hs:s.length<=150) (hR:(Aa4 10 s).length<3):CO Gl 110 [str s] (.pan (.iface 135 (.agg #[.string (bs (s))]))):=by
 refine Ac4 S (let A0:=(Res.pan (Value.iface (135:TypeId) (Value.agg #[Value.string (bs s)])));((.r (.ret (L eS (Aa4 (10:UInt8) s))) (.r A0 .nil)),(CO Gl 134 [str s,str [(10:UInt8)]] (.ret (L eS (Aa4 (10:UInt8) s)))/\(List.length (Aa4 (10:UInt8) s)<=maxLen->CO Gl 135 [B (decide (3<=(↑(List.length (Aa4 (10:UInt8) s)):Int))),T.d (D.c (C.v (Value.string (bs s))))] A0/\Value.iface (135:Nat) (Value.agg (Array.mk [Value.string (bs s)]))=Value.iface (135:Nat) (Value.agg (Array.mk [Value.string (bs s)])))))) Tryz.func110 (by kernel_rfl) (by kernel_rfl) ?_
 simp only [stdS,imp_self,implies_true,and_true]
 exact ⟨Ae0 hG.len s 10 (by omega),fun _=>⟨B53 S _ _ (by simp;omega),trivial⟩⟩
theorem Cs5 {Gl} (S:SP Gl) (s:List UInt8) (hG:GlOK Gl) (hs:s.length<=150) (hR:3<=(Aa4 10 s).length) (hall:(mid s).all okR=true) (hf:Cg7 (lsT s)=true) (ht:Ae8 (Ax7 (lsT s))≠s):CO Gl 110 [str s] (.pan (.iface 135 (.agg #[.string (bs (s))]))):=by
 refine Ac4 S (let A0:=(nth (mid s) (0:Nat));let A1:=(Aa4 (32:UInt8) (nth (Aa4 (10:UInt8) s) (Int.toNat (0:Int)+Int.toNat (0:Int))));let A2:=fun (k2:Nat)=>(nth (mid s) (k2+1));let A3:=(List.length (mid s):Int);let A4:=fun (k2:Nat)=>(Aa4 (32:UInt8) (nth (mid s) (Int.toNat ((k2:Int)+1))));let A5:=fun (k2:Nat)=>(List.take (k2+1) (An5 (lsT s)));let A6:=(List.length (l0T s):Int);let A7:=(↑(List.length (Aa4 (10:UInt8) s)):Int);let A8:=(List.length (l0T s));let A9:=fun (k2 k4:Nat)=>(Aq5 s (bif Nat.blt k4 k4 then k2+(1:Nat) else k2) k4);let A10:=(↑(List.length A1):Int);let A11:=(↑(List.length (tl A0)):Int);let A12:=(Aa4 (10:UInt8) s);let A13:=fun (k2:Nat)=>(↑(List.length (A4 k2)):Int);let A14:=fun (k2:Nat)=>(nth (lsT s) (k2+1));let A15:=fun (k2:Nat)=>(List.length (tl (A2 k2)));let A16:=(sR eS (mid s));let A17:=(sR eI (l0T s));let A18:=(Res.pan (Value.iface (135:TypeId) (Value.agg #[Value.string (bs s)])));let A19:=(↑(0:Nat):Int);let A20:=(Int.toNat (A7-2-(0:Int)));let A21:=(nth A12 (Int.toNat (0:Int)+Int.toNat (0:Int)));((.r (.ret (L eS A12)) (.r (.ret (.tup [])) (.pe (.br (.r (.ret (L eS A1)) (.loop (List.length (tl A0)) (fun j=>v 37 (I j)::v 36 (I A11)::v 35 (L eS (tl A0))::v 28 (I 0)::v 8 (Lt 901 eI (Ac1 A0 j))::tk 901 3::v 7 (str A0)::v 6 (I 0)::v 5 (T.d (D.c Av9))::(bx 4 [Av9,Av9]++A92 s)) fun k1=>.br (.r (.ret (I (Aq9 (nth (tl A0) k1)))) .nil) (.tt (.r (.ret (.tup [])) (.loop A8 (fun j=>v 56 (I j)::v 55 (I A6)::v 54 (L eI (l0T s))::v 28 (I 0)::v 8 (Lt 901 eI (l0T s))::tk 901 3::v 7 (str A0)::v 6 (I 0)::v 5 (T.d (D.c Av9))::(bx 4 [Av9,Av9]++A92 s)) fun k2=>.br (.r (.ret (.tup [])) .nil) (.arrA (nat_lit 68) .nil)))))) .nil) (List.length (mid s)-(1:Nat)) (fun k=>v 28 (I ((k:Int)+1))::B70 s k) fun k2=>.br (.r (.ret (L eS (A4 k2))) (.loop (A15 k2) (fun j=>v 37 (I j)::v 36 (I (↑(A15 k2):Int))::v 35 (L eS (tl (A2 k2)))::v 28 (I ((k2:Int)+1))::v 8 (Lt 901 eI (Ac1 (A2 k2) j))::tk 901 3::v 7 (str (A2 k2))::v 6 (I ((k2:Int)+1))::B70 s k2) fun k3=>.br (.r (.ret (I (Aq9 (nth (tl (A2 k2)) k3)))) .nil) (.ff (.r (.ret (.tup [])) (.loop A8 (fun j=>v 87 (I j)::v 86 (I A6)::v 85 (L eI (A14 k2))::v 28 (I ((k2:Int)+1))::v 8 (Lt 901 eI (A14 k2))::tk 901 3::parE s k2 j) fun k4=>.br (.arrA (nat_lit 99) .nil) .nil))))) (.r (.ret (str (Ae8 (List.map lnT (A5 k2))))) (.r A18 .nil))))),(CO Gl 134 [str s,str [(10:UInt8)]] (.ret (L eS A12))/\(List.length A12<=maxLen->CO Gl 135 [B (decide (3<=(↑(List.length (Aa4 (10:UInt8) s)):Int))),T.d (D.c (C.v (Value.string (bs s))))] (.ret (.tup []))/\(List.length A12<=maxLen->iR (A7-2)/\((0:Int)<=0/\0<=A7-2/\A7-2<=A7)/\(Int.toNat (A7-2-(0:Int))<=maxLen->(decide (0<(↑(Int.toNat ((↑(List.length (Aa4 (10:UInt8) s)):Int)-2-(0:Int))):Int))=true->((0:Int)<=0/\0<(↑A20:Int))/\CO Gl 134 [str A21,str [(32:UInt8)]] (.ret (L eS A1))/\((0:Int)<=1/\1<=A10/\A10<=A10)/\(Int.toNat (A10-1)<=maxLen->(0=A19/\(↑(Int.toNat (A10-1)):Int)=A11/\(SEq (Int.toNat (A10-1)) (fun i=>eS (nth A1 (Int.toNat (1:Int)+i))) (List.length (tl A0)) fun i=>eS (nth (tl A0) i))/\(0:Int)=0/\(0:Nat)=(0:Nat)/\bs A21=bs A0/\(0:Int)=0/\Value.slice none 0 0=Value.slice none 0 0/\Value.slice none 0 0=Value.slice none 0 0/\Value.slice none 0 0=Value.slice none 0 0/\(↑A20:Int)=A3/\(SEq A20 (fun i=>eS (nth A12 (Int.toNat (0:Int)+i))) (List.length (mid s)) fun i=>eS (nth (mid s) i))/\bs s=bs s/\Value.slice none 0 0=Value.slice none 0 0/\Value.slice none 0 0=Value.slice none 0 0)/\∀ (k1:Nat),k1<=List.length (tl A0)->(decide ((k1:Int)<(↑(List.length (tl (nth (mid s) (0:Nat)))):Int))=true->(0<=(k1:Int)/\(k1:Int)<A11)/\CO Gl 136 [str (nth (tl A0) k1)] (.ret (I (Aq9 (nth (tl A0) k1))))/\(List.length (Ac1 A0 k1)+1)*8<=140737488355328/\List.length (Ac1 A0 k1)+1<=140737488355328/\iR ((k1:Int)+1)/\k1<List.length (tl A0)/\(k1:Int)+1=(↑(k1+1):Int)/\A11=A11/\(sR eS (tl A0))/\(0:Int)=0/\(SEq (List.length (Ac1 A0 k1)+1) (Aj0 (List.length (Ac1 A0 k1)) (fun i=>eI (nth (Ac1 A0 k1) i)) fun i=>List.getD [List.map C.dem [C.v (Value.int IntKind.i64 (Aq9 (nth (tl A0) k1)))]] i []) (List.length (Ac1 A0 (k1+1))) fun i=>eI (nth (Ac1 A0 (k1+1)) i))/\bs A0=bs A0/\(0:Int)=0/\Value.slice none 0 0=Value.slice none 0 0/\Value.slice none 0 0=Value.slice none 0 0/\Value.slice none 0 0=Value.slice none 0 0/\A3=A3/\A16/\bs s=bs s/\Value.slice none 0 0=Value.slice none 0 0/\Value.slice none 0 0=Value.slice none 0 0)/\(decide ((k1:Int)<(↑(List.length (tl (nth (mid s) (0:Nat)))):Int))=false->true=true/\(List.length (Ac1 A0 k1)<=maxLen->CO Gl 135 [B (decide (0<(↑(List.length (Ac1 (nth (mid s) (0:Nat)) k1)):Int))),T.d (D.c (C.v (Value.string (bs A0))))] (.ret (.tup []))/\(List.length (Ac1 A0 k1)<=maxLen->(0=A19/\(↑(List.length (Ac1 A0 k1)):Int)=A6/\(sQ eI (Ac1 A0 k1) (l0T s))/\(0:Int)=0/\(sQ eI (Ac1 A0 k1) (l0T s))/\bs A0=bs A0/\(0:Int)=0/\Value.slice none 0 0=Value.slice none 0 0/\Value.slice none 0 0=Value.slice none 0 0/\Value.slice none 0 0=Value.slice none 0 0/\A3=A3/\A16/\bs s=bs s/\Value.slice none 0 0=Value.slice none 0 0/\Value.slice none 0 0=Value.slice none 0 0)/\∀ (k2:Nat),k2<=List.length (l0T s)->(decide ((k2:Int)<(List.length (l0T s):Int))=true->(0<=(k2:Int)/\(k2:Int)<A6)/\CO Gl 135 [B (decide ((0:Int)<=nth (l0T s) k2)),T.d (D.c (C.v (Value.string (bs A0))))] (.ret (.tup []))/\iR ((k2:Int)+1)/\k2<List.length (l0T s)/\(k2:Int)+1=(↑(k2+1):Int)/\A6=A6/\A17/\(0:Int)=0/\A17/\bs A0=bs A0/\(0:Int)=0/\Value.slice none 0 0=Value.slice none 0 0/\Value.slice none 0 0=Value.slice none 0 0/\Value.slice none 0 0=Value.slice none 0 0/\A3=A3/\A16/\bs s=bs s/\Value.slice none 0 0=Value.slice none 0 0/\Value.slice none 0 0=Value.slice none 0 0)/\(decide ((k2:Int)<(List.length (l0T s):Int))=false->List.length (l0T s)<=maxLen->A6=A6/\0<=A6/\List.length (l0T s)*24<=140737488355328/\List.length (l0T s)<=(140737488355328:Nat)/\(1:Nat)*16<=140737488355328/\(1:Nat)<=(140737488355328:Nat)/\iR ((0:Int)+1)/\((0:Int)+1=A19+1/\(SEq (1:Nat) (fun i=>List.getD [List.map C.dem [C.i (121:Nat) true [C.s Tag.n A8 fun i=>eI (nth (l0T s) i)]]] i []) (List.length (List.take ((0:Nat)+1) (An5 (lsT s)))) fun i=>eLn (nth (List.take ((0:Nat)+1) (An5 (lsT s))) i))/\List.length (l0T s)=List.length (l0T s)/\A17/\OEq A8 (fun x=>((0:Nat),fun x=>[])) A8 (Ah s (0:Nat))/\A3=A3/\A16/\bs s=bs s/\Value.slice none 0 0=Value.slice none 0 0/\Value.slice none 0 0=Value.slice none 0 0)/\∀ (k2:Nat),k2<=List.length (mid s)-(1:Nat)->(decide ((k2:Int)+1<(List.length (mid s):Int))=true->(0<=(k2:Int)+1/\(k2:Int)+1<A3)/\CO Gl 134 [str (nth (mid s) (Int.toNat ((k2:Int)+1))),str [(32:UInt8)]] (.ret (L eS (A4 k2)))/\((0:Int)<=1/\1<=(A13 k2)/\(A13 k2)<=(A13 k2))/\(Int.toNat ((A13 k2)-1)<=maxLen->(0=A19/\(↑(Int.toNat ((A13 k2)-1)):Int)=(↑(A15 k2):Int)/\(SEq (Int.toNat ((A13 k2)-1)) (fun i=>eS (nth (A4 k2) (Int.toNat (1:Int)+i))) (A15 k2) fun i=>eS (nth (tl (A2 k2)) i))/\(k2:Int)+1=(k2:Int)+1/\(0:Nat)=(0:Nat)/\bs (nth (mid s) (Int.toNat ((k2:Int)+1)))=bs (A2 k2)/\(k2:Int)+1=(k2:Int)+1/\(sR eLn (A5 k2))/\List.length (l0T s)=List.length (l0T s)/\A17/\OEq A8 (Ah s k2) A8 (Ah s k2)/\A3=A3/\A16/\bs s=bs s/\Value.slice none 0 0=Value.slice none 0 0/\Value.slice none 0 0=Value.slice none 0 0)/\∀ (k3:Nat),k3<=List.length (tl (A2 k2))->(decide ((k3:Int)<(↑(List.length (tl (nth (mid s) (k2+1)))):Int))=true->(0<=(k3:Int)/\(k3:Int)<(↑(A15 k2):Int))/\CO Gl 136 [str (nth (tl (A2 k2)) k3)] (.ret (I (Aq9 (nth (tl (A2 k2)) k3))))/\(List.length (Ac1 (A2 k2) k3)+1)*8<=140737488355328/\List.length (Ac1 (A2 k2) k3)+1<=140737488355328/\iR ((k3:Int)+1)/\k3<List.length (tl (A2 k2))/\(k3:Int)+1=(↑(k3+1):Int)/\(↑(A15 k2):Int)=(↑(A15 k2):Int)/\(sR eS (tl (A2 k2)))/\(k2:Int)+1=(k2:Int)+1/\(SEq (List.length (Ac1 (A2 k2) k3)+1) (Aj0 (List.length (Ac1 (A2 k2) k3)) (fun i=>eI (nth (Ac1 (A2 k2) k3) i)) fun i=>List.getD [List.map C.dem [C.v (Value.int IntKind.i64 (Aq9 (nth (tl (A2 k2)) k3)))]] i []) (List.length (Ac1 (A2 k2) (k3+1))) fun i=>eI (nth (Ac1 (A2 k2) (k3+1)) i))/\bs (A2 k2)=bs (A2 k2)/\(k2:Int)+1=(k2:Int)+1/\(sR eLn (A5 k2))/\List.length (l0T s)=List.length (l0T s)/\A17/\OEq A8 (Ah s k2) A8 (Ah s k2)/\A3=A3/\A16/\bs s=bs s/\Value.slice none 0 0=Value.slice none 0 0/\Value.slice none 0 0=Value.slice none 0 0)/\(decide ((k3:Int)<(↑(List.length (tl (nth (mid s) (k2+1)))):Int))=false->false=false/\(List.length (Ac1 (A2 k2) k3)<=maxLen->List.length (l0T s)<=maxLen->CO Gl 135 [B ((↑(List.length (Ac1 (A2 k2) k3)):Int)==A6),T.d (D.c (C.v (Value.string (bs (A2 k2)))))] (.ret (.tup []))/\(List.length (Ac1 (A2 k2) k3)<=maxLen->(0=A19/\(↑(List.length (Ac1 (A2 k2) k3)):Int)=A6/\(sQ eI (Ac1 (A2 k2) k3) (A14 k2))/\(k2:Int)+1=(k2:Int)+1/\(sQ eI (Ac1 (A2 k2) k3) (A14 k2))/\(sR eLn (A5 k2))/\List.length (l0T s)=List.length (l0T s)/\A17/\OEq A8 (Ah s k2) A8 (Bh9 s k2 (0:Nat))/\A3=A3/\A16/\bs s=bs s/\Value.slice none 0 0=Value.slice none 0 0/\Value.slice none 0 0=Value.slice none 0 0)/\∀ (k4:Nat),k4<=List.length (l0T s)->(decide ((k4:Int)<(List.length (l0T s):Int))=true->(0<=(k4:Int)/\(k4:Int)<(↑(List.length (A14 k2)):Int))/\(0<=(k4:Int)/\(k4:Int)<A6)/\k4<List.length (l0T s)/\(List.length (A9 k2 k4)+1)*8<=140737488355328/\List.length (A9 k2 k4)+1<=140737488355328/\(0<=(k4:Int)/\(k4:Int)<A6)/\k4=k4/\k4<List.length (l0T s)/\iR ((k4:Int)+1)/\k4<List.length (l0T s)/\(k4:Int)+1=(↑(k4+1):Int)/\A6=A6/\(sR eI (A14 k2))/\(k2:Int)+1=(k2:Int)+1/\(sR eI (A14 k2))/\(sR eLn (A5 k2))/\List.length (l0T s)=List.length (l0T s)/\A17/\OEq A8 (Bx5 (Bh9 s k2 k4) k4 (List.length (A9 k2 k4)+(1:Nat),Aj0 (List.length (A9 k2 k4)) (fun i=>eI (nth (A9 k2 k4) i)) fun i=>List.getD [List.map C.dem [C.v (Value.int IntKind.i64 (nth (A14 k2) k4))]] i [])) A8 (Bh9 s k2 (k4+1))/\A3=A3/\A16/\bs s=bs s/\Value.slice none 0 0=Value.slice none 0 0/\Value.slice none 0 0=Value.slice none 0 0)/\(decide ((k4:Int)<(List.length (l0T s):Int))=false->(List.length (A5 k2)+1)*16<=140737488355328/\List.length (A5 k2)+1<=140737488355328/\iR ((k2:Int)+1+(1:Int))/\k2<List.length (mid s)-(1:Nat)/\(k2:Int)+1+1=(↑(k2+1):Int)+1/\(SEq (List.length (A5 k2)+1) (Aj0 (List.length (A5 k2)) (fun i=>eLn (nth (A5 k2) i)) fun i=>List.getD [List.map C.dem [C.i (124:Nat) true [C.s Tag.n (List.length (A14 k2)) fun i=>eI (nth (A14 k2) i)]]] i []) (List.length (List.take (k2+(1:Nat)+1) (An5 (lsT s)))) fun i=>eLn (nth (List.take (k2+(1:Nat)+1) (An5 (lsT s))) i))/\List.length (l0T s)=List.length (l0T s)/\A17/\OEq A8 (Bh9 s k2 k4) A8 (Ah s (k2+1))/\A3=A3/\A16/\bs s=bs s/\Value.slice none 0 0=Value.slice none 0 0/\Value.slice none 0 0=Value.slice none 0 0))))))/\(decide ((k2:Int)+1<(List.length (mid s):Int))=false->CO Gl 108 [T.d (D.c (C.l eLn (A5 k2)))] (.ret (str (Ae8 (List.map lnT (A5 k2)))))/\CO Gl 135 [B (ByteArray.toList (bs (Ae8 (List.map lnT (A5 k2))))==ByteArray.toList (bs s)),T.d (D.c (C.v (Value.string (bs s))))] A18/\Value.iface (135:Nat) (Value.agg (Array.mk [Value.string (bs s)]))=Value.iface (135:Nat) (Value.agg (Array.mk [Value.string (bs s)])))))))))/\(decide (0<(↑(Int.toNat ((↑(List.length (Aa4 (10:UInt8) s)):Int)-2-(0:Int))):Int))=false->False))))))) Tryz.func110 (by kernel_rfl) (by kernel_rfl) ?_
 have hsp:=Ab1 10 s
 have hml:=As9 (s:=s)
 have hll:=Az8 s
 have hrow:∀ i,i<(mid s).length->(nth (mid s) i).length<=150:=fun i hi=>by have:=Az3 hi;omega
 have hm0:0<(mid s).length:=by omega
 have hl0:l0T s=nsR (nth (mid s) 0):=Ar7 hm0
 have h00:nth (Aa4 10 s) (Int.toNat 0+Int.toNat 0)=nth (mid s) 0:=(Ak4 hm0).symm
 have hok:∀ i,i<(mid s).length->okR (nth (mid s) i)=true:=fun i hi=>List.all_eq_true.1 hall _ (Ab5 hi)
 obtain ⟨hf1,hf2,hf3⟩:=C63 hf
 have hf1:0<(l0T s).length:=hf1
 have hf2:∀ n∈l0T s,0<=n:=hf2
 have hf3:∀ k,k+1<(lsT s).length->(nth (lsT s) (k+1)).length=(l0T s).length:=hf3
 have hl0n:(l0T s).length<=150:=by rw [hl0];have:=Bf7 (nth (mid s) 0);have:=hrow 0 hm0;omega
 simp only [stdS,imp_self,implies_true,and_true,h00,Ax2]
 refine ⟨Ae0 hG.len s 10 (by omega),fun _=>⟨Al8 S _ _ (by simp;omega),fun _=>⟨(Aa1 _).2 (by omega),⟨by decide,by omega,by omega⟩,fun _=>⟨fun _=>?_,fun h=>?_⟩⟩⟩⟩
 ·refine ⟨⟨by omega,by omega⟩,Ae0 hG.len _ 32 (by have:=hrow 0 hm0;omega),⟨by omega,by have:=Ab1 32 (nth (mid s) 0);omega,by omega⟩,fun _=>⟨?_,fun k1 hk1=>⟨fun h1=>?_,fun h1 hmx=>?_⟩⟩⟩
  ·exact ⟨by have:=Ab1 32 (nth (mid s) 0);rw [Ah7];omega,At6 _,by omega,.of ⟨by omega,fun i hi=>by
    show eS (nth (Aa4 10 s) (0+i))=eS (nth (mid s) i)
    rw [Ak4 (by omega),Nat.zero_add]⟩,trivial⟩
  ·have h1:k1<(tl (nth (mid s) 0)).length:=by simpa using h1
   have hnl:=Ai9 (r:=nth (mid s) 0) (j:=k1)
   have htl:=Ah7 (r:=nth (mid s) 0)
   have hsr:=Ab1 32 (nth (mid s) 0)
   have hr:=hrow 0 hm0
   exact ⟨⟨by omega,by omega⟩,Af S hG _ (List.all_eq_true.1 (hok 0 hm0) _ (Ab5 h1)),by omega,by omega,(Aa1 _).2 (by omega),h1,by omega,Ac5 (Ag3 h1) rfl,trivial⟩
  ·have h1:k1=(tl (nth (mid s) 0)).length:=by
    have:¬ k1<(tl (nth (mid s) 0)).length:=by simpa using h1
    omega
   subst h1
   rw [Al5,<-hl0]
   refine ⟨Al8 S _ _ (decide_eq_true (by omega)),fun _=>⟨⟨rfl,Aa8 rfl,Aa8 rfl,trivial⟩,fun k2 hk2=>⟨fun hd=>?_,fun hd _=>⟨by omega,by omega,by omega,by decide,by decide,(Aa1 _).2 (by omega),?_,fun k3 hk3=>⟨fun h3=>?_,fun h3=>?_⟩⟩⟩⟩⟩
   ·have hd:k2<(l0T s).length:=by simpa using hd
    exact ⟨⟨by omega,by omega⟩,Al8 S _ _ (decide_eq_true (hf2 _ (Ab5 hd))),(Aa1 _).2 (by omega),hd,by omega,trivial⟩
   ·refine ⟨.of ⟨by rw [List.length_take,Af2];omega,fun i hi=>?_⟩,Bj2 s _,trivial⟩
    have:i=0:=by omega
    subst this
    show [C.i 121 true [C.l eI (l0T s)]]=eLn (nth ((An5 (lsT s)).take 1) 0)
    rw [A39 (by omega),A97 (by omega)]
    rfl
   ·have h3:(k3:Int)+1<((mid s).length:Int):=of_decide_eq_true h3
    have hlt:k3+1<(mid s).length:=by omega
    have ht3:((k3:Int)+1).toNat=k3+1:=by omega
    have hrw:=hrow (k3+1) hlt
    have hlk:nth (lsT s) (k3+1)=nsR (nth (mid s) (k3+1)):=Ar7 hlt
    have hlen:=hf3 k3 (by omega)
    have hcl:=fun j=>Av6 s (k:=k3) (by omega) j
    have hll2:((An5 (lsT s)).take (k3+1)).length=k3+1:=by rw [List.length_take,Af2];omega
    have hbb:∀ j:Nat,Nat.blt j j=false:=fun j=>A09 (Nat.lt_irrefl j)
    have htl:=Ah7 (r:=nth (mid s) (k3+1))
    have hsr:=Ab1 32 (nth (mid s) (k3+1))
    simp only [ht3,hbb,cond_false]
    refine ⟨⟨by omega,by omega⟩,Ae0 hG.len _ 32 (by omega),⟨by omega,by omega,by omega⟩,fun _=>⟨⟨by omega,At6 _,trivial,trivial⟩,fun k4 hk4=>⟨fun h4=>?_,fun h4 hmx _=>?_⟩⟩⟩
    ·have h4:k4<(tl (nth (mid s) (k3+1))).length:=by simpa using h4
     have hnl:=Ai9 (r:=nth (mid s) (k3+1)) (j:=k4)
     exact ⟨⟨by omega,by omega⟩,Af S hG _ (List.all_eq_true.1 (hok (k3+1) hlt) _ (Ab5 h4)),by omega,by omega,(Aa1 _).2 (by omega),h4,by omega,Ac5 (Ag3 h4) rfl,trivial⟩
    ·have h4:k4=(tl (nth (mid s) (k3+1))).length:=by
      have:¬ k4<(tl (nth (mid s) (k3+1))).length:=by simpa using h4
      omega
     subst h4
     rw [Al5,<-hlk]
     refine ⟨Al8 S _ _ (by rw [hlen];exact beq_self_eq_true _),fun _=>⟨⟨by rw [hlen],Aa8 rfl,Aa8 rfl,Bb1 s _ _,trivial⟩,fun k5 hk5=>⟨fun h5=>?_,fun h5=>?_⟩⟩⟩
     ·have h5:k5<(l0T s).length:=by simpa using h5
      have:=hcl k5
      exact ⟨⟨by omega,by omega⟩,⟨by omega,by omega⟩,h5,by omega,by omega,⟨by omega,by omega⟩,h5,(Aa1 _).2 (by omega),h5,by omega,B40 (by omega) _,trivial⟩
     ·have h5:k5=(l0T s).length:=by
       have:¬ k5<(l0T s).length:=by simpa using h5
       omega
      subst h5
      refine ⟨by omega,by omega,(Aa1 _).2 (by omega),by omega,by omega,?_,B41 s _ _,trivial⟩
      refine Ak2 (by rw [Af2];omega) ?_
      rw [A98 (by omega)]
      rfl
   ·have h3:¬ (k3:Int)+1<((mid s).length:Int):=of_decide_eq_false h3
    have hke:k3+1=(lsT s).length:=by omega
    have hte:(An5 (lsT s)).take (k3+1)=An5 (lsT s):=List.take_of_length_le (by rw [Af2];omega)
    rw [hte]
    refine ⟨Cd7 S hG _ (by rw [Af2];omega) (Cn hs hall),B53 S _ _ ?_,trivial⟩
    rw [B87,Cb6,Cb6]
    exact beq_eq_false_iff_ne.2 ht
 ·have:=of_decide_eq_false h
  omega
theorem Cs7 {Gl} (S:SP Gl) (s:List UInt8) (hG:GlOK Gl) (hs:s.length<=150) (hR:3<=(Aa4 10 s).length) (hb:okR (nth (mid s) 0)=false):CO Gl 110 [str s] (.pan (.iface 135 (.agg #[.string (bs (nth (tl (nth (mid s) 0)) (Ag4 (nth (mid s) 0))))]))):=by
 refine Ac4 S (let A0:=(nth (mid s) (0:Nat));let A1:=(Aa4 (32:UInt8) (nth (Aa4 (10:UInt8) s) (Int.toNat (0:Int)+Int.toNat (0:Int))));let A2:=(↑(List.length (Aa4 (10:UInt8) s)):Int);let A3:=fun (k1:Nat)=>(List.length (Ac1 A0 k1)<=maxLen->CO Gl 135 [B (decide (0<(↑(List.length (Ac1 (nth (mid s) (0:Nat)) k1)):Int))),T.d (D.c (C.v (Value.string (bs A0))))] (.ret (.tup []))/\(List.length (Ac1 A0 k1)<=maxLen->True/\∀ (k2:Nat),k2<=(0:Nat)->False));let A4:=(↑(List.length (tl A0)):Int);let A5:=(↑(List.length A1):Int);let A6:=(Aa4 (10:UInt8) s);let A7:=fun (k1:Nat)=>(Res.pan (Value.iface (135:TypeId) (Value.agg #[Value.string (bs (nth (tl A0) k1))])));let A8:=(Int.toNat (A2-2-(0:Int)));let A9:=(nth A6 (Int.toNat (0:Int)+Int.toNat (0:Int)));let A10:=(List.length (mid s):Int);((.r (.ret (L eS A6)) (.r (.ret (.tup [])) (.pe (.br (.r (.ret (L eS A1)) (.loop (Ag4 A0) (fun j=>v 37 (I j)::v 36 (I A4)::v 35 (L eS (tl A0))::v 28 (I 0)::v 8 (Lt 901 eI (Ac1 A0 j))::tk 901 3::v 7 (str A0)::v 6 (I 0)::v 5 (T.d (D.c Av9))::(bx 4 [Av9,Av9]++A92 s)) fun k1=>.ite (decide (k1<Ag4 (nth (mid s) (0:Nat)))) (.br (.r (.ret (I (Aq9 (nth (tl A0) k1)))) .nil) (.tt (.r (.ret (.tup [])) (.loop (0:Nat) (fun j=>[]) fun k2=>.nil)))) (.br (.r (A7 k1) .nil) (.tt (.r (.ret (.tup [])) (.loop (0:Nat) (fun j=>[]) fun k2=>.nil)))))) .nil) (0:Nat) (fun k=>[]) fun k=>.nil))),(CO Gl 134 [str s,str [(10:UInt8)]] (.ret (L eS A6))/\(List.length A6<=maxLen->CO Gl 135 [B (decide (3<=(↑(List.length (Aa4 (10:UInt8) s)):Int))),T.d (D.c (C.v (Value.string (bs s))))] (.ret (.tup []))/\(List.length A6<=maxLen->iR (A2-2)/\((0:Int)<=0/\0<=A2-2/\A2-2<=A2)/\(Int.toNat (A2-2-(0:Int))<=maxLen->(decide (0<(↑(Int.toNat ((↑(List.length (Aa4 (10:UInt8) s)):Int)-2-(0:Int))):Int))=true->((0:Int)<=0/\0<(↑A8:Int))/\CO Gl 134 [str A9,str [(32:UInt8)]] (.ret (L eS A1))/\((0:Int)<=1/\1<=A5/\A5<=A5)/\(Int.toNat (A5-1)<=maxLen->(0=(↑(0:Nat):Int)/\(↑(Int.toNat (A5-1)):Int)=A4/\(SEq (Int.toNat (A5-1)) (fun i=>eS (nth A1 (Int.toNat (1:Int)+i))) (List.length (tl A0)) fun i=>eS (nth (tl A0) i))/\(0:Int)=0/\(0:Nat)=(0:Nat)/\bs A9=bs A0/\(0:Int)=0/\Value.slice none 0 0=Value.slice none 0 0/\Value.slice none 0 0=Value.slice none 0 0/\Value.slice none 0 0=Value.slice none 0 0/\(↑A8:Int)=A10/\(SEq A8 (fun i=>eS (nth A6 (Int.toNat (0:Int)+i))) (List.length (mid s)) fun i=>eS (nth (mid s) i))/\bs s=bs s/\Value.slice none 0 0=Value.slice none 0 0/\Value.slice none 0 0=Value.slice none 0 0)/\∀ (k1:Nat),k1<=Ag4 A0->(decide (k1<Ag4 (nth (mid s) (0:Nat)))=true->(decide ((k1:Int)<(↑(List.length (tl (nth (mid s) (0:Nat)))):Int))=true->(0<=(k1:Int)/\(k1:Int)<A4)/\CO Gl 136 [str (nth (tl A0) k1)] (.ret (I (Aq9 (nth (tl A0) k1))))/\(List.length (Ac1 A0 k1)+1)*8<=140737488355328/\List.length (Ac1 A0 k1)+1<=140737488355328/\iR ((k1:Int)+1)/\k1<Ag4 A0/\(k1:Int)+1=(↑(k1+1):Int)/\A4=A4/\(sR eS (tl A0))/\(0:Int)=0/\(SEq (List.length (Ac1 A0 k1)+1) (Aj0 (List.length (Ac1 A0 k1)) (fun i=>eI (nth (Ac1 A0 k1) i)) fun i=>List.getD [List.map C.dem [C.v (Value.int IntKind.i64 (Aq9 (nth (tl A0) k1)))]] i []) (List.length (Ac1 A0 (k1+1))) fun i=>eI (nth (Ac1 A0 (k1+1)) i))/\bs A0=bs A0/\(0:Int)=0/\Value.slice none 0 0=Value.slice none 0 0/\Value.slice none 0 0=Value.slice none 0 0/\Value.slice none 0 0=Value.slice none 0 0/\A10=A10/\(sR eS (mid s))/\bs s=bs s/\Value.slice none 0 0=Value.slice none 0 0/\Value.slice none 0 0=Value.slice none 0 0)/\(decide ((k1:Int)<(↑(List.length (tl (nth (mid s) (0:Nat)))):Int))=false->true=true/\(A3 k1)))/\(decide (k1<Ag4 (nth (mid s) (0:Nat)))=false->(decide ((k1:Int)<(↑(List.length (tl (nth (mid s) (0:Nat)))):Int))=true->(0<=(k1:Int)/\(k1:Int)<A4)/\CO Gl 136 [str (nth (tl A0) k1)] (A7 k1)/\Value.iface (135:Nat) (Value.agg (Array.mk [Value.string (bs (nth (tl A0) k1))]))=Value.iface (135:Nat) (Value.agg (Array.mk [Value.string (bs (nth (tl A0) (Ag4 A0)))])))/\(decide ((k1:Int)<(↑(List.length (tl (nth (mid s) (0:Nat)))):Int))=false->true=true/\(A3 k1)))))/\(decide (0<(↑(Int.toNat ((↑(List.length (Aa4 (10:UInt8) s)):Int)-2-(0:Int))):Int))=false->False))))))) Tryz.func110 (by kernel_rfl) (by kernel_rfl) ?_
 have hsp:=Ab1 10 s
 have hml:=As9 (s:=s)
 have hll:=Az8 s
 have hrow:∀ i,i<(mid s).length->(nth (mid s) i).length<=150:=fun i hi=>by have:=Az3 hi;omega
 have hm0:0<(mid s).length:=by omega
 have hl0:l0T s=nsR (nth (mid s) 0):=Ar7 hm0
 have h00:nth (Aa4 10 s) (Int.toNat 0+Int.toNat 0)=nth (mid s) 0:=(Ak4 hm0).symm
 have hl0n:(l0T s).length<=150:=by rw [hl0];have:=Bf7 (nth (mid s) 0);have:=hrow 0 hm0;omega
 simp only [stdS,imp_self,implies_true,and_true,h00,Ax2]
 refine ⟨Ae0 hG.len s 10 (by omega),fun _=>⟨Al8 S _ _ (by simp;omega),fun _=>⟨(Aa1 _).2 (by omega),⟨by decide,by omega,by omega⟩,fun _=>⟨fun _=>?_,fun h=>?_⟩⟩⟩⟩
 rotate_left
 ·have:=of_decide_eq_false h
  omega
 refine ⟨⟨by omega,by omega⟩,Ae0 hG.len _ 32 (by have:=hrow 0 hm0;omega),⟨by omega,by have:=Ab1 32 (nth (mid s) 0);omega,by omega⟩,fun _=>⟨⟨by have:=Ab1 32 (nth (mid s) 0);rw [Ah7];omega,At6 _,by omega,.of ⟨by omega,fun i hi=>by
       show eS (nth (Aa4 10 s) (0+i))=eS (nth (mid s) i)
       rw [Ak4 (by omega),Nat.zero_add]⟩,trivial⟩,fun k1 hk1=>?_⟩⟩
 have hnl:=Ai9 (r:=nth (mid s) 0) (j:=k1)
 have htl:=Ah7 (r:=nth (mid s) 0)
 have hsr:=Ab1 32 (nth (mid s) 0)
 have hr:=hrow 0 hm0
 obtain ⟨hg1,hg2⟩:=Cn9 hb
 refine ⟨fun hc=>⟨fun h1=>?_,fun h1 _=>?_⟩,fun hc=>⟨fun h1=>?_,fun h1 _=>?_⟩⟩
 ·have hc:k1<Ag4 (nth (mid s) 0):=of_decide_eq_true hc
  have h1:k1<(tl (nth (mid s) 0)).length:=by omega
  exact ⟨⟨by omega,by omega⟩,Af S hG _ (Cg0 hc),by omega,by omega,(Aa1 _).2 (by omega),hc,by omega,Ac5 (Ag3 h1) rfl,trivial⟩
 ·exfalso
  have hc:k1<Ag4 (nth (mid s) 0):=of_decide_eq_true hc
  have h1:¬ (k1:Int)<((tl (nth (mid s) 0)).length:Int):=of_decide_eq_false h1
  omega
 ·have hc:k1=Ag4 (nth (mid s) 0):=by have:¬ k1<Ag4 (nth (mid s) 0):=of_decide_eq_false hc;omega
  subst hc
  exact ⟨⟨by omega,by omega⟩,Bu7 S hG _ hg2,rfl⟩
 ·exfalso
  have hc:¬ k1<Ag4 (nth (mid s) 0):=of_decide_eq_false hc
  have h1:¬ (k1:Int)<((tl (nth (mid s) 0)).length:Int):=of_decide_eq_false h1
  omega
theorem Ce7 {Gl} (S:SP Gl) (s:List UInt8) (hG:GlOK Gl) (hs:s.length<=150) (hR:3<=(Aa4 10 s).length) (hok:okR (nth (mid s) 0)=true) (h0:(l0T s).length=0):CO Gl 110 [str s] (.pan (.iface 135 (.agg #[.string (bs (nth (mid s) 0))]))):=by
 refine Ac4 S (let A0:=(Aa4 (32:UInt8) (nth (Aa4 (10:UInt8) s) (Int.toNat (0:Int)+Int.toNat (0:Int))));let A1:=(nth (mid s) (0:Nat));let A2:=(↑(List.length (Aa4 (10:UInt8) s)):Int);let A3:=(↑(List.length A0):Int);let A4:=(↑(List.length (tl A1)):Int);let A5:=(Aa4 (10:UInt8) s);let A6:=(Res.pan (Value.iface (135:TypeId) (Value.agg #[Value.string (bs A1)])));let A7:=(Int.toNat (A2-2-(0:Int)));let A8:=(nth A5 (Int.toNat (0:Int)+Int.toNat (0:Int)));let A9:=(List.length (mid s):Int);((.r (.ret (L eS A5)) (.r (.ret (.tup [])) (.pe (.br (.r (.ret (L eS A0)) (.loop (List.length (tl A1)) (fun j=>v 37 (I j)::v 36 (I A4)::v 35 (L eS (tl A1))::v 28 (I 0)::v 8 (Lt 901 eI (Ac1 A1 j))::tk 901 3::v 7 (str A1)::v 6 (I 0)::v 5 (T.d (D.c Av9))::(bx 4 [Av9,Av9]++A92 s)) fun k1=>.br (.r (.ret (I (Aq9 (nth (tl A1) k1)))) .nil) (.tt (.r A6 .nil)))) .nil) (0:Nat) (fun k=>[]) fun k=>.nil))),(CO Gl 134 [str s,str [(10:UInt8)]] (.ret (L eS A5))/\(List.length A5<=maxLen->CO Gl 135 [B (decide (3<=(↑(List.length (Aa4 (10:UInt8) s)):Int))),T.d (D.c (C.v (Value.string (bs s))))] (.ret (.tup []))/\(List.length A5<=maxLen->iR (A2-2)/\((0:Int)<=0/\0<=A2-2/\A2-2<=A2)/\(Int.toNat (A2-2-(0:Int))<=maxLen->(decide (0<(↑(Int.toNat ((↑(List.length (Aa4 (10:UInt8) s)):Int)-2-(0:Int))):Int))=true->((0:Int)<=0/\0<(↑A7:Int))/\CO Gl 134 [str A8,str [(32:UInt8)]] (.ret (L eS A0))/\((0:Int)<=1/\1<=A3/\A3<=A3)/\(Int.toNat (A3-1)<=maxLen->(0=(↑(0:Nat):Int)/\(↑(Int.toNat (A3-1)):Int)=A4/\(SEq (Int.toNat (A3-1)) (fun i=>eS (nth A0 (Int.toNat (1:Int)+i))) (List.length (tl A1)) fun i=>eS (nth (tl A1) i))/\(0:Int)=0/\(0:Nat)=(0:Nat)/\bs A8=bs A1/\(0:Int)=0/\Value.slice none 0 0=Value.slice none 0 0/\Value.slice none 0 0=Value.slice none 0 0/\Value.slice none 0 0=Value.slice none 0 0/\(↑A7:Int)=A9/\(SEq A7 (fun i=>eS (nth A5 (Int.toNat (0:Int)+i))) (List.length (mid s)) fun i=>eS (nth (mid s) i))/\bs s=bs s/\Value.slice none 0 0=Value.slice none 0 0/\Value.slice none 0 0=Value.slice none 0 0)/\∀ (k1:Nat),k1<=List.length (tl A1)->(decide ((k1:Int)<(↑(List.length (tl (nth (mid s) (0:Nat)))):Int))=true->(0<=(k1:Int)/\(k1:Int)<A4)/\CO Gl 136 [str (nth (tl A1) k1)] (.ret (I (Aq9 (nth (tl A1) k1))))/\(List.length (Ac1 A1 k1)+1)*8<=140737488355328/\List.length (Ac1 A1 k1)+1<=140737488355328/\iR ((k1:Int)+1)/\k1<List.length (tl A1)/\(k1:Int)+1=(↑(k1+1):Int)/\A4=A4/\(sR eS (tl A1))/\(0:Int)=0/\(SEq (List.length (Ac1 A1 k1)+1) (Aj0 (List.length (Ac1 A1 k1)) (fun i=>eI (nth (Ac1 A1 k1) i)) fun i=>List.getD [List.map C.dem [C.v (Value.int IntKind.i64 (Aq9 (nth (tl A1) k1)))]] i []) (List.length (Ac1 A1 (k1+1))) fun i=>eI (nth (Ac1 A1 (k1+1)) i))/\bs A1=bs A1/\(0:Int)=0/\Value.slice none 0 0=Value.slice none 0 0/\Value.slice none 0 0=Value.slice none 0 0/\Value.slice none 0 0=Value.slice none 0 0/\A9=A9/\(sR eS (mid s))/\bs s=bs s/\Value.slice none 0 0=Value.slice none 0 0/\Value.slice none 0 0=Value.slice none 0 0)/\(decide ((k1:Int)<(↑(List.length (tl (nth (mid s) (0:Nat)))):Int))=false->true=true/\(List.length (Ac1 A1 k1)<=maxLen->CO Gl 135 [B (decide (0<(↑(List.length (Ac1 (nth (mid s) (0:Nat)) k1)):Int))),T.d (D.c (C.v (Value.string (bs A1))))] A6/\Value.iface (135:Nat) (Value.agg (Array.mk [Value.string (bs A1)]))=Value.iface (135:Nat) (Value.agg (Array.mk [Value.string (bs A1)]))))))/\(decide (0<(↑(Int.toNat ((↑(List.length (Aa4 (10:UInt8) s)):Int)-2-(0:Int))):Int))=false->False))))))) Tryz.func110 (by kernel_rfl) (by kernel_rfl) ?_
 have hsp:=Ab1 10 s
 have hml:=As9 (s:=s)
 have hll:=Az8 s
 have hrow:∀ i,i<(mid s).length->(nth (mid s) i).length<=150:=fun i hi=>by have:=Az3 hi;omega
 have hm0:0<(mid s).length:=by omega
 have hl0:l0T s=nsR (nth (mid s) 0):=Ar7 hm0
 have h00:nth (Aa4 10 s) (Int.toNat 0+Int.toNat 0)=nth (mid s) 0:=(Ak4 hm0).symm
 have hl0n:(l0T s).length<=150:=by rw [hl0];have:=Bf7 (nth (mid s) 0);have:=hrow 0 hm0;omega
 simp only [stdS,imp_self,implies_true,and_true,h00,Ax2]
 refine ⟨Ae0 hG.len s 10 (by omega),fun _=>⟨Al8 S _ _ (by simp;omega),fun _=>⟨(Aa1 _).2 (by omega),⟨by decide,by omega,by omega⟩,fun _=>⟨fun _=>?_,fun h=>?_⟩⟩⟩⟩
 rotate_left
 ·have:=of_decide_eq_false h
  omega
 refine ⟨⟨by omega,by omega⟩,Ae0 hG.len _ 32 (by have:=hrow 0 hm0;omega),⟨by omega,by have:=Ab1 32 (nth (mid s) 0);omega,by omega⟩,fun _=>⟨⟨by have:=Ab1 32 (nth (mid s) 0);rw [Ah7];omega,At6 _,by omega,.of ⟨by omega,fun i hi=>by
       show eS (nth (Aa4 10 s) (0+i))=eS (nth (mid s) i)
       rw [Ak4 (by omega),Nat.zero_add]⟩,trivial⟩,fun k1 hk1=>?_⟩⟩
 have hnl:=Ai9 (r:=nth (mid s) 0) (j:=k1)
 have htl:=Ah7 (r:=nth (mid s) 0)
 have hsr:=Ab1 32 (nth (mid s) 0)
 have hr:=hrow 0 hm0
 refine ⟨fun h1=>?_,fun h1 hmx=>?_⟩
 ·have h1:k1<(tl (nth (mid s) 0)).length:=by simpa using h1
  exact ⟨⟨by omega,by omega⟩,Af S hG _ (List.all_eq_true.1 hok _ (Ab5 h1)),by omega,by omega,(Aa1 _).2 (by omega),h1,by omega,Ac5 (Ag3 h1) rfl,trivial⟩
 ·skip
  have h1:k1=(tl (nth (mid s) 0)).length:=by
   have:¬ k1<(tl (nth (mid s) 0)).length:=by simpa using h1
   omega
  subst h1
  rw [Al5,<-hl0]
  exact ⟨B53 S _ _ (decide_eq_false (by omega)),trivial⟩
theorem Ce6 {Gl} (S:SP Gl) (s:List UInt8) (hG:GlOK Gl) (hs:s.length<=150) (hR:3<=(Aa4 10 s).length) (hok:okR (nth (mid s) 0)=true) (h0:0<(l0T s).length) (hn:(l0T s).all (fun n:Int=>decide (0<=n))=false):CO Gl 110 [str s] (.pan (.iface 135 (.agg #[.string (bs (nth (mid s) 0))]))):=by
 refine Ac4 S (let A0:=(nth (mid s) (0:Nat));let A1:=(Aa4 (32:UInt8) (nth (Aa4 (10:UInt8) s) (Int.toNat (0:Int)+Int.toNat (0:Int))));let A2:=(↑(List.length (Aa4 (10:UInt8) s)):Int);let A3:=(List.length (l0T s):Int);let A4:=(List.length (mid s):Int);let A5:=(↑(List.length A1):Int);let A6:=(↑(List.length (tl A0)):Int);let A7:=(Aa4 (10:UInt8) s);let A8:=(Res.pan (Value.iface (135:TypeId) (Value.agg #[Value.string (bs A0)])));let A9:=(D.c (C.v (Value.string (bs A0))));let A10:=(Int.toNat (A2-2-(0:Int)));let A11:=(nth A7 (Int.toNat (0:Int)+Int.toNat (0:Int)));((.r (.ret (L eS A7)) (.r (.ret (.tup [])) (.pe (.br (.r (.ret (L eS A1)) (.loop (List.length (tl A0)) (fun j=>v 37 (I j)::v 36 (I A6)::v 35 (L eS (tl A0))::v 28 (I 0)::v 8 (Lt 901 eI (Ac1 A0 j))::tk 901 3::v 7 (str A0)::v 6 (I 0)::v 5 (T.d (D.c Av9))::(bx 4 [Av9,Av9]++A92 s)) fun k1=>.br (.r (.ret (I (Aq9 (nth (tl A0) k1)))) .nil) (.tt (.r (.ret (.tup [])) (.loop (Cl5 s) (fun j=>v 56 (I j)::v 55 (I A3)::v 54 (L eI (l0T s))::v 28 (I 0)::v 8 (Lt 901 eI (l0T s))::tk 901 3::v 7 (str A0)::v 6 (I 0)::v 5 (T.d (D.c Av9))::(bx 4 [Av9,Av9]++A92 s)) fun k2=>.ite (decide (k2<Cl5 s)) (.br (.r (.ret (.tup [])) .nil) (.arrA (nat_lit 68) .nil)) (.br (.r A8 .nil) (.arrA (nat_lit 68) .nil))))))) .nil) (0:Nat) (fun k=>[]) fun k2=>.nil))),(CO Gl 134 [str s,str [(10:UInt8)]] (.ret (L eS A7))/\(List.length A7<=maxLen->CO Gl 135 [B (decide (3<=(↑(List.length (Aa4 (10:UInt8) s)):Int))),T.d (D.c (C.v (Value.string (bs s))))] (.ret (.tup []))/\(List.length A7<=maxLen->iR (A2-2)/\((0:Int)<=0/\0<=A2-2/\A2-2<=A2)/\(Int.toNat (A2-2-(0:Int))<=maxLen->(decide (0<(↑(Int.toNat ((↑(List.length (Aa4 (10:UInt8) s)):Int)-2-(0:Int))):Int))=true->((0:Int)<=0/\0<(↑A10:Int))/\CO Gl 134 [str A11,str [(32:UInt8)]] (.ret (L eS A1))/\((0:Int)<=1/\1<=A5/\A5<=A5)/\(Int.toNat (A5-1)<=maxLen->(0=(↑(0:Nat):Int)/\(↑(Int.toNat (A5-1)):Int)=A6/\(SEq (Int.toNat (A5-1)) (fun i=>eS (nth A1 (Int.toNat (1:Int)+i))) (List.length (tl A0)) fun i=>eS (nth (tl A0) i))/\(0:Int)=0/\(0:Nat)=(0:Nat)/\bs A11=bs A0/\(0:Int)=0/\Value.slice none 0 0=Value.slice none 0 0/\Value.slice none 0 0=Value.slice none 0 0/\Value.slice none 0 0=Value.slice none 0 0/\(↑A10:Int)=A4/\(SEq A10 (fun i=>eS (nth A7 (Int.toNat (0:Int)+i))) (List.length (mid s)) fun i=>eS (nth (mid s) i))/\bs s=bs s/\Value.slice none 0 0=Value.slice none 0 0/\Value.slice none 0 0=Value.slice none 0 0)/\∀ (k1:Nat),k1<=List.length (tl A0)->(decide ((k1:Int)<(↑(List.length (tl (nth (mid s) (0:Nat)))):Int))=true->(0<=(k1:Int)/\(k1:Int)<A6)/\CO Gl 136 [str (nth (tl A0) k1)] (.ret (I (Aq9 (nth (tl A0) k1))))/\(List.length (Ac1 A0 k1)+1)*8<=140737488355328/\List.length (Ac1 A0 k1)+1<=140737488355328/\iR ((k1:Int)+1)/\k1<List.length (tl A0)/\(k1:Int)+1=(↑(k1+1):Int)/\A6=A6/\(sR eS (tl A0))/\(0:Int)=0/\(SEq (List.length (Ac1 A0 k1)+1) (Aj0 (List.length (Ac1 A0 k1)) (fun i=>eI (nth (Ac1 A0 k1) i)) fun i=>List.getD [List.map C.dem [C.v (Value.int IntKind.i64 (Aq9 (nth (tl A0) k1)))]] i []) (List.length (Ac1 A0 (k1+1))) fun i=>eI (nth (Ac1 A0 (k1+1)) i))/\bs A0=bs A0/\(0:Int)=0/\Value.slice none 0 0=Value.slice none 0 0/\Value.slice none 0 0=Value.slice none 0 0/\Value.slice none 0 0=Value.slice none 0 0/\A4=A4/\(sR eS (mid s))/\bs s=bs s/\Value.slice none 0 0=Value.slice none 0 0/\Value.slice none 0 0=Value.slice none 0 0)/\(decide ((k1:Int)<(↑(List.length (tl (nth (mid s) (0:Nat)))):Int))=false->true=true/\(List.length (Ac1 A0 k1)<=maxLen->CO Gl 135 [B (decide (0<(↑(List.length (Ac1 (nth (mid s) (0:Nat)) k1)):Int))),T.d A9] (.ret (.tup []))/\(List.length (Ac1 A0 k1)<=maxLen->(0=(↑(0:Nat):Int)/\(↑(List.length (Ac1 A0 k1)):Int)=A3/\(sQ eI (Ac1 A0 k1) (l0T s))/\(0:Int)=0/\(sQ eI (Ac1 A0 k1) (l0T s))/\bs A0=bs A0/\(0:Int)=0/\Value.slice none 0 0=Value.slice none 0 0/\Value.slice none 0 0=Value.slice none 0 0/\Value.slice none 0 0=Value.slice none 0 0/\A4=A4/\(sR eS (mid s))/\bs s=bs s/\Value.slice none 0 0=Value.slice none 0 0/\Value.slice none 0 0=Value.slice none 0 0)/\∀ (k2:Nat),k2<=Cl5 s->(decide (k2<Cl5 s)=true->(decide ((k2:Int)<(List.length (l0T s):Int))=true->(0<=(k2:Int)/\(k2:Int)<A3)/\CO Gl 135 [B (decide ((0:Int)<=nth (l0T s) k2)),T.d A9] (.ret (.tup []))/\iR ((k2:Int)+1)/\k2<Cl5 s/\(k2:Int)+1=(↑(k2+1):Int)/\A3=A3/\(sR eI (l0T s))/\(0:Int)=0/\(sR eI (l0T s))/\bs A0=bs A0/\(0:Int)=0/\Value.slice none 0 0=Value.slice none 0 0/\Value.slice none 0 0=Value.slice none 0 0/\Value.slice none 0 0=Value.slice none 0 0/\A4=A4/\(sR eS (mid s))/\bs s=bs s/\Value.slice none 0 0=Value.slice none 0 0/\Value.slice none 0 0=Value.slice none 0 0)/\(decide ((k2:Int)<(List.length (l0T s):Int))=false->List.length (l0T s)<=maxLen->A3=A3/\0<=A3/\List.length (l0T s)*24<=140737488355328/\List.length (l0T s)<=(140737488355328:Nat)/\(1:Nat)*16<=140737488355328/\(1:Nat)<=(140737488355328:Nat)/\iR ((0:Int)+1)/\True/\∀ (k2:Nat),k2<=(0:Nat)->False))/\(decide (k2<Cl5 s)=false->(decide ((k2:Int)<(List.length (l0T s):Int))=true->(0<=(k2:Int)/\(k2:Int)<A3)/\CO Gl 135 [B (decide ((0:Int)<=nth (l0T s) k2)),T.d A9] A8/\Value.iface (135:Nat) (Value.agg (Array.mk [Value.string (bs A0)]))=Value.iface (135:Nat) (Value.agg (Array.mk [Value.string (bs A0)])))/\(decide ((k2:Int)<(List.length (l0T s):Int))=false->List.length (l0T s)<=maxLen->A3=A3/\0<=A3/\List.length (l0T s)*24<=140737488355328/\List.length (l0T s)<=(140737488355328:Nat)/\(1:Nat)*16<=140737488355328/\(1:Nat)<=(140737488355328:Nat)/\iR ((0:Int)+1)/\True/\∀ (k2:Nat),k2<=(0:Nat)->False)))))))/\(decide (0<(↑(Int.toNat ((↑(List.length (Aa4 (10:UInt8) s)):Int)-2-(0:Int))):Int))=false->False))))))) Tryz.func110 (by kernel_rfl) (by kernel_rfl) ?_
 have hsp:=Ab1 10 s
 have hml:=As9 (s:=s)
 have hll:=Az8 s
 have hrow:∀ i,i<(mid s).length->(nth (mid s) i).length<=150:=fun i hi=>by have:=Az3 hi;omega
 have hm0:0<(mid s).length:=by omega
 have hl0:l0T s=nsR (nth (mid s) 0):=Ar7 hm0
 have h00:nth (Aa4 10 s) (Int.toNat 0+Int.toNat 0)=nth (mid s) 0:=(Ak4 hm0).symm
 have hl0n:(l0T s).length<=150:=by rw [hl0];have:=Bf7 (nth (mid s) 0);have:=hrow 0 hm0;omega
 simp only [stdS,imp_self,implies_true,and_true,h00,Ax2]
 refine ⟨Ae0 hG.len s 10 (by omega),fun _=>⟨Al8 S _ _ (by simp;omega),fun _=>⟨(Aa1 _).2 (by omega),⟨by decide,by omega,by omega⟩,fun _=>⟨fun _=>?_,fun h=>?_⟩⟩⟩⟩
 rotate_left
 ·have:=of_decide_eq_false h
  omega
 refine ⟨⟨by omega,by omega⟩,Ae0 hG.len _ 32 (by have:=hrow 0 hm0;omega),⟨by omega,by have:=Ab1 32 (nth (mid s) 0);omega,by omega⟩,fun _=>⟨⟨by have:=Ab1 32 (nth (mid s) 0);rw [Ah7];omega,At6 _,by omega,.of ⟨by omega,fun i hi=>by
       show eS (nth (Aa4 10 s) (0+i))=eS (nth (mid s) i)
       rw [Ak4 (by omega),Nat.zero_add]⟩,trivial⟩,fun k1 hk1=>?_⟩⟩
 have hnl:=Ai9 (r:=nth (mid s) 0) (j:=k1)
 have htl:=Ah7 (r:=nth (mid s) 0)
 have hsr:=Ab1 32 (nth (mid s) 0)
 have hr:=hrow 0 hm0
 refine ⟨fun h1=>?_,fun h1 hmx=>?_⟩
 ·have h1:k1<(tl (nth (mid s) 0)).length:=by simpa using h1
  exact ⟨⟨by omega,by omega⟩,Af S hG _ (List.all_eq_true.1 hok _ (Ab5 h1)),by omega,by omega,(Aa1 _).2 (by omega),h1,by omega,Ac5 (Ag3 h1) rfl,trivial⟩
 ·skip
  have h1:k1=(tl (nth (mid s) 0)).length:=by
   have:¬ k1<(tl (nth (mid s) 0)).length:=by simpa using h1
   omega
  subst h1
  rw [Al5,<-hl0]
  have hpl:Cl5 s<(l0T s).length:=by
   rcases Nat.lt_or_ge (Cl5 s) (l0T s).length with hh|hh
   ·exact hh
   ·have:(l0T s).all (fun n:Int=>decide (0<=n))=true:=Ai3 hh
    rw [this] at hn;cases hn
  have hpb:decide (0<=nth (l0T s) (Cl5 s))=false:=A59 (p:=fun n:Int=>decide (0<=n)) hpl
  refine ⟨Al8 S _ _ (decide_eq_true (by omega)),fun _=>⟨⟨rfl,Aa8 rfl,Aa8 rfl,trivial⟩,fun k2 hk2=>⟨fun hc=>⟨fun hd=>?_,fun hd=>?_⟩,fun hc=>⟨fun hd=>?_,fun hd=>?_⟩⟩⟩⟩
  ·have hc:k2<Cl5 s:=of_decide_eq_true hc
   have hx:decide (0<=nth (l0T s) k2)=true:=Ah6 (p:=fun n:Int=>decide (0<=n)) hc
   exact ⟨⟨by omega,by omega⟩,Al8 S _ _ hx,(Aa1 _).2 (by omega),hc,by omega,trivial⟩
  ·exfalso
   have hc:k2<Cl5 s:=of_decide_eq_true hc
   have hd:¬ (k2:Int)<((l0T s).length:Int):=of_decide_eq_false hd
   omega
  ·have hc:k2=Cl5 s:=by have:¬ k2<Cl5 s:=of_decide_eq_false hc;omega
   subst hc
   exact ⟨⟨by omega,by omega⟩,B53 S _ _ hpb,trivial⟩
  ·exfalso
   have hc:¬ k2<Cl5 s:=of_decide_eq_false hc
   have hd:¬ (k2:Int)<((l0T s).length:Int):=of_decide_eq_false hd
   omega
theorem Ce9 {Gl} (S:SP Gl) (s:List UInt8) (hG:GlOK Gl) (hs:s.length<=150) (b:Nat) (hR:3<=(Aa4 10 s).length) (hb:b+1<(mid s).length) (hok:∀ i,i<b+1->okR (nth (mid s) i)=true) (hf1:0<(l0T s).length) (hf2:∀ n∈l0T s,0<=n) (hf3:∀ k,k<b->(nth (lsT s) (k+1)).length=(l0T s).length) (hbad:okR (nth (mid s) (b+1))=false):CO Gl 110 [str s] (.pan (.iface 135 (.agg #[.string (bs (nth (tl (nth (mid s) (b+1))) (Ag4 (nth (mid s) (b+1)))))]))):=by
 refine Ac4 S (let A0:=fun (k2 k3:Nat)=>(List.length (Ac1 (nth (mid s) (k2+1)) k3)<=maxLen->List.length (l0T s)<=maxLen->CO Gl 135 [B ((↑(List.length (Ac1 (nth (mid s) (k2+1)) k3)):Int)==(List.length (l0T s):Int)),T.d (D.c (C.v (Value.string (bs (nth (mid s) (k2+1))))))] (.ret (.tup []))/\(List.length (Ac1 (nth (mid s) (k2+1)) k3)<=maxLen->(0=(↑(0:Nat):Int)/\(↑(List.length (Ac1 (nth (mid s) (k2+1)) k3)):Int)=(List.length (l0T s):Int)/\(sQ eI (Ac1 (nth (mid s) (k2+1)) k3) (nth (lsT s) (k2+1)))/\(k2:Int)+1=(k2:Int)+1/\(sQ eI (Ac1 (nth (mid s) (k2+1)) k3) (nth (lsT s) (k2+1)))/\(sR eLn (List.take (k2+1) (An5 (lsT s))))/\List.length (l0T s)=List.length (l0T s)/\(sR eI (l0T s))/\OEq (List.length (l0T s)) (Ah s k2) (List.length (l0T s)) (Bh9 s k2 (0:Nat))/\(List.length (mid s):Int)=(List.length (mid s):Int)/\(sR eS (mid s))/\bs s=bs s/\Value.slice none 0 0=Value.slice none 0 0/\Value.slice none 0 0=Value.slice none 0 0)/\∀ (k4:Nat),k4<=List.length (l0T s)->(decide ((k4:Int)<(List.length (l0T s):Int))=true->(0<=(k4:Int)/\(k4:Int)<(↑(List.length (nth (lsT s) (k2+1))):Int))/\(0<=(k4:Int)/\(k4:Int)<(List.length (l0T s):Int))/\k4<List.length (l0T s)/\(List.length (Aq5 s (bif Nat.blt k4 k4 then k2+(1:Nat) else k2) k4)+1)*8<=140737488355328/\List.length (Aq5 s (bif Nat.blt k4 k4 then k2+(1:Nat) else k2) k4)+1<=140737488355328/\(0<=(k4:Int)/\(k4:Int)<(List.length (l0T s):Int))/\k4=k4/\k4<List.length (l0T s)/\iR ((k4:Int)+1)/\k4<List.length (l0T s)/\(k4:Int)+1=(↑(k4+1):Int)/\(List.length (l0T s):Int)=(List.length (l0T s):Int)/\(sR eI (nth (lsT s) (k2+1)))/\(k2:Int)+1=(k2:Int)+1/\(sR eI (nth (lsT s) (k2+1)))/\(sR eLn (List.take (k2+1) (An5 (lsT s))))/\List.length (l0T s)=List.length (l0T s)/\(sR eI (l0T s))/\OEq (List.length (l0T s)) (Bx5 (Bh9 s k2 k4) k4 (List.length (Aq5 s (bif Nat.blt k4 k4 then k2+(1:Nat) else k2) k4)+(1:Nat),Aj0 (List.length (Aq5 s (bif Nat.blt k4 k4 then k2+(1:Nat) else k2) k4)) (fun i=>eI (nth (Aq5 s (bif Nat.blt k4 k4 then k2+(1:Nat) else k2) k4) i)) fun i=>List.getD [List.map C.dem [C.v (Value.int IntKind.i64 (nth (nth (lsT s) (k2+1)) k4))]] i [])) (List.length (l0T s)) (Bh9 s k2 (k4+1))/\(List.length (mid s):Int)=(List.length (mid s):Int)/\(sR eS (mid s))/\bs s=bs s/\Value.slice none 0 0=Value.slice none 0 0/\Value.slice none 0 0=Value.slice none 0 0)/\(decide ((k4:Int)<(List.length (l0T s):Int))=false->(List.length (List.take (k2+1) (An5 (lsT s)))+1)*16<=140737488355328/\List.length (List.take (k2+1) (An5 (lsT s)))+1<=140737488355328/\iR ((k2:Int)+1+(1:Int))/\k2<b/\(k2:Int)+1+1=(↑(k2+1):Int)+1/\(SEq (List.length (List.take (k2+1) (An5 (lsT s)))+1) (Aj0 (List.length (List.take (k2+1) (An5 (lsT s)))) (fun i=>eLn (nth (List.take (k2+1) (An5 (lsT s))) i)) fun i=>List.getD [List.map C.dem [C.i (124:Nat) true [C.s Tag.n (List.length (nth (lsT s) (k2+1))) fun i=>eI (nth (nth (lsT s) (k2+1)) i)]]] i []) (List.length (List.take (k2+(1:Nat)+1) (An5 (lsT s)))) fun i=>eLn (nth (List.take (k2+(1:Nat)+1) (An5 (lsT s))) i))/\List.length (l0T s)=List.length (l0T s)/\(sR eI (l0T s))/\OEq (List.length (l0T s)) (Bh9 s k2 k4) (List.length (l0T s)) (Ah s (k2+1))/\(List.length (mid s):Int)=(List.length (mid s):Int)/\(sR eS (mid s))/\bs s=bs s/\Value.slice none 0 0=Value.slice none 0 0/\Value.slice none 0 0=Value.slice none 0 0)));let A1:=fun (k2:Nat)=>(Int.toNat ((↑(List.length (Aa4 (32:UInt8) (nth (mid s) (Int.toNat ((k2:Int)+1))))):Int)-1)<=maxLen->(0=(↑(0:Nat):Int)/\(↑(Int.toNat ((↑(List.length (Aa4 (32:UInt8) (nth (mid s) (Int.toNat ((k2:Int)+1))))):Int)-1)):Int)=(↑(List.length (tl (nth (mid s) (k2+1)))):Int)/\(SEq (Int.toNat ((↑(List.length (Aa4 (32:UInt8) (nth (mid s) (Int.toNat ((k2:Int)+1))))):Int)-1)) (fun i=>eS (nth (Aa4 (32:UInt8) (nth (mid s) (Int.toNat ((k2:Int)+1)))) (Int.toNat (1:Int)+i))) (List.length (tl (nth (mid s) (k2+1)))) fun i=>eS (nth (tl (nth (mid s) (k2+1))) i))/\(k2:Int)+1=(k2:Int)+1/\(0:Nat)=(0:Nat)/\bs (nth (mid s) (Int.toNat ((k2:Int)+1)))=bs (nth (mid s) (k2+1))/\(k2:Int)+1=(k2:Int)+1/\(sR eLn (List.take (k2+1) (An5 (lsT s))))/\List.length (l0T s)=List.length (l0T s)/\(sR eI (l0T s))/\OEq (List.length (l0T s)) (Ah s k2) (List.length (l0T s)) (Ah s k2)/\(List.length (mid s):Int)=(List.length (mid s):Int)/\(sR eS (mid s))/\bs s=bs s/\Value.slice none 0 0=Value.slice none 0 0/\Value.slice none 0 0=Value.slice none 0 0)/\∀ (k3:Nat),k3<=Ag4 (nth (mid s) (k2+1))->(decide (k3<Ag4 (nth (mid s) (k2+1)))=true->(decide ((k3:Int)<(↑(List.length (tl (nth (mid s) (k2+1)))):Int))=true->(0<=(k3:Int)/\(k3:Int)<(↑(List.length (tl (nth (mid s) (k2+1)))):Int))/\CO Gl 136 [str (nth (tl (nth (mid s) (k2+1))) k3)] (.ret (I (Aq9 (nth (tl (nth (mid s) (k2+1))) k3))))/\(List.length (Ac1 (nth (mid s) (k2+1)) k3)+1)*8<=140737488355328/\List.length (Ac1 (nth (mid s) (k2+1)) k3)+1<=140737488355328/\iR ((k3:Int)+1)/\k3<Ag4 (nth (mid s) (k2+1))/\(k3:Int)+1=(↑(k3+1):Int)/\(↑(List.length (tl (nth (mid s) (k2+1)))):Int)=(↑(List.length (tl (nth (mid s) (k2+1)))):Int)/\(sR eS (tl (nth (mid s) (k2+1))))/\(k2:Int)+1=(k2:Int)+1/\(SEq (List.length (Ac1 (nth (mid s) (k2+1)) k3)+1) (Aj0 (List.length (Ac1 (nth (mid s) (k2+1)) k3)) (fun i=>eI (nth (Ac1 (nth (mid s) (k2+1)) k3) i)) fun i=>List.getD [List.map C.dem [C.v (Value.int IntKind.i64 (Aq9 (nth (tl (nth (mid s) (k2+1))) k3)))]] i []) (List.length (Ac1 (nth (mid s) (k2+1)) (k3+1))) fun i=>eI (nth (Ac1 (nth (mid s) (k2+1)) (k3+1)) i))/\bs (nth (mid s) (k2+1))=bs (nth (mid s) (k2+1))/\(k2:Int)+1=(k2:Int)+1/\(sR eLn (List.take (k2+1) (An5 (lsT s))))/\List.length (l0T s)=List.length (l0T s)/\(sR eI (l0T s))/\OEq (List.length (l0T s)) (Ah s k2) (List.length (l0T s)) (Ah s k2)/\(List.length (mid s):Int)=(List.length (mid s):Int)/\(sR eS (mid s))/\bs s=bs s/\Value.slice none 0 0=Value.slice none 0 0/\Value.slice none 0 0=Value.slice none 0 0)/\(decide ((k3:Int)<(↑(List.length (tl (nth (mid s) (k2+1)))):Int))=false->false=false/\(A0 k2 k3)))/\(decide (k3<Ag4 (nth (mid s) (k2+1)))=false->(decide ((k3:Int)<(↑(List.length (tl (nth (mid s) (k2+1)))):Int))=true->(0<=(k3:Int)/\(k3:Int)<(↑(List.length (tl (nth (mid s) (k2+1)))):Int))/\CO Gl 136 [str (nth (tl (nth (mid s) (k2+1))) k3)] (Res.pan (Value.iface (135:TypeId) (Value.agg #[Value.string (bs (nth (tl (nth (mid s) (k2+1))) k3))])))/\Value.iface (135:Nat) (Value.agg (Array.mk [Value.string (bs (nth (tl (nth (mid s) (k2+1))) k3))]))=Value.iface (135:Nat) (Value.agg (Array.mk [Value.string (bs (nth (tl (nth (mid s) (b+1))) (Ag4 (nth (mid s) (b+1)))))])))/\(decide ((k3:Int)<(↑(List.length (tl (nth (mid s) (k2+1)))):Int))=false->false=false/\(A0 k2 k3))));let A2:=(nth (mid s) (0:Nat));let A3:=(Aa4 (32:UInt8) (nth (Aa4 (10:UInt8) s) (Int.toNat (0:Int)+Int.toNat (0:Int))));let A4:=fun (k2:Nat)=>(fun (j:Nat)=>v 87 (I j)::v 86 (I (List.length (l0T s):Int))::v 85 (L eI (nth (lsT s) (k2+1)))::v 28 (I ((k2:Int)+1))::v 8 (Lt 901 eI (nth (lsT s) (k2+1)))::tk 901 3::parE s k2 j);let A5:=fun (k2:Nat)=>(Aa4 (32:UInt8) (nth (mid s) (Int.toNat ((k2:Int)+1))));let A6:=(↑(List.length (Aa4 (10:UInt8) s)):Int);let A7:=fun (k2:Nat)=>(fun (j:Nat)=>v 37 (I j)::v 36 (I (↑(List.length (tl (nth (mid s) (k2+1)))):Int))::v 35 (L eS (tl (nth (mid s) (k2+1))))::v 28 (I ((k2:Int)+1))::v 8 (Lt 901 eI (Ac1 (nth (mid s) (k2+1)) j))::tk 901 3::v 7 (str (nth (mid s) (k2+1)))::v 6 (I ((k2:Int)+1))::B70 s k2);let A8:=fun (k2:Nat)=>(Ae8 (List.map lnT (List.take (k2+1) (An5 (lsT s)))));let A9:=(List.length (mid s):Int);let A10:=(List.length (l0T s):Int);let A11:=(List.length (l0T s));let A12:=(↑(List.length A3):Int);let A13:=(↑(List.length (tl A2)):Int);let A14:=(Aa4 (10:UInt8) s);let A15:=fun (k2:Nat)=>(↑(List.length (A5 k2)):Int);let A16:=fun (k2:Nat)=>[B (ByteArray.toList (bs (A8 k2))==ByteArray.toList (bs s)),T.d (D.c (C.v (Value.string (bs s))))];let A17:=fun (k2 k3:Nat)=>(Res.pan (Value.iface (135:TypeId) (Value.agg #[Value.string (bs (nth (tl (nth (mid s) (k2+1))) k3))])));let A18:=(Int.toNat (A6-2-(0:Int)));let A19:=(nth A14 (Int.toNat (0:Int)+Int.toNat (0:Int)));((.r (.ret (L eS A14)) (.r (.ret (.tup [])) (.pe (.br (.r (.ret (L eS A3)) (.loop (List.length (tl A2)) (fun j=>v 37 (I j)::v 36 (I A13)::v 35 (L eS (tl A2))::v 28 (I 0)::v 8 (Lt 901 eI (Ac1 A2 j))::tk 901 3::v 7 (str A2)::v 6 (I 0)::v 5 (T.d (D.c Av9))::(bx 4 [Av9,Av9]++A92 s)) fun k1=>.br (.r (.ret (I (Aq9 (nth (tl A2) k1)))) .nil) (.tt (.r (.ret (.tup [])) (.loop A11 (fun j=>v 56 (I j)::v 55 (I A10)::v 54 (L eI (l0T s))::v 28 (I 0)::v 8 (Lt 901 eI (l0T s))::tk 901 3::v 7 (str A2)::v 6 (I 0)::v 5 (T.d (D.c Av9))::(bx 4 [Av9,Av9]++A92 s)) fun k2=>.br (.r (.ret (.tup [])) .nil) (.arrA (nat_lit 68) .nil)))))) .nil) b (fun k=>v 28 (I ((k:Int)+1))::B70 s k) fun k2=>.ite (decide (k2<b)) (.br (.r (.ret (L eS (A5 k2))) (.loop (Ag4 (nth (mid s) (k2+1))) (A7 k2) fun k3=>.ite (decide (k3<Ag4 (nth (mid s) (k2+1)))) (.br (.r (.ret (I (Aq9 (nth (tl (nth (mid s) (k2+1))) k3)))) .nil) (.ff (.r (.ret (.tup [])) (.loop A11 (A4 k2) fun k4=>.br (.arrA (nat_lit 99) .nil) .nil)))) (.br (.r (A17 k2 k3) .nil) (.ff (.r (.ret (.tup [])) (.loop A11 (A4 k2) fun k4=>.br (.arrA (nat_lit 99) .nil) .nil)))))) (.r (.ret (str (A8 k2))) (.r (.ret (.tup [])) .nil))) (.br (.r (.ret (L eS (A5 k2))) (.loop (Ag4 (nth (mid s) (k2+1))) (A7 k2) fun k3=>.ite (decide (k3<Ag4 (nth (mid s) (k2+1)))) (.br (.r (.ret (I (Aq9 (nth (tl (nth (mid s) (k2+1))) k3)))) .nil) (.ff (.r (.ret (.tup [])) (.loop A11 (A4 k2) fun k4=>.br (.arrA (nat_lit 99) .nil) .nil)))) (.br (.r (A17 k2 k3) .nil) (.ff (.r (.ret (.tup [])) (.loop A11 (A4 k2) fun k4=>.br (.arrA (nat_lit 99) .nil) .nil)))))) (.r (.ret (str (A8 k2))) (.r (.ret (.tup [])) .nil)))))),(CO Gl 134 [str s,str [(10:UInt8)]] (.ret (L eS A14))/\(List.length A14<=maxLen->CO Gl 135 [B (decide (3<=(↑(List.length (Aa4 (10:UInt8) s)):Int))),T.d (D.c (C.v (Value.string (bs s))))] (.ret (.tup []))/\(List.length A14<=maxLen->iR (A6-2)/\((0:Int)<=0/\0<=A6-2/\A6-2<=A6)/\(Int.toNat (A6-2-(0:Int))<=maxLen->(decide (0<(↑(Int.toNat ((↑(List.length (Aa4 (10:UInt8) s)):Int)-2-(0:Int))):Int))=true->((0:Int)<=0/\0<(↑A18:Int))/\CO Gl 134 [str A19,str [(32:UInt8)]] (.ret (L eS A3))/\((0:Int)<=1/\1<=A12/\A12<=A12)/\(Int.toNat (A12-1)<=maxLen->(0=(↑(0:Nat):Int)/\(↑(Int.toNat (A12-1)):Int)=A13/\(SEq (Int.toNat (A12-1)) (fun i=>eS (nth A3 (Int.toNat (1:Int)+i))) (List.length (tl A2)) fun i=>eS (nth (tl A2) i))/\(0:Int)=0/\(0:Nat)=(0:Nat)/\bs A19=bs A2/\(0:Int)=0/\Value.slice none 0 0=Value.slice none 0 0/\Value.slice none 0 0=Value.slice none 0 0/\Value.slice none 0 0=Value.slice none 0 0/\(↑A18:Int)=A9/\(SEq A18 (fun i=>eS (nth A14 (Int.toNat (0:Int)+i))) (List.length (mid s)) fun i=>eS (nth (mid s) i))/\bs s=bs s/\Value.slice none 0 0=Value.slice none 0 0/\Value.slice none 0 0=Value.slice none 0 0)/\∀ (k1:Nat),k1<=List.length (tl A2)->(decide ((k1:Int)<(↑(List.length (tl (nth (mid s) (0:Nat)))):Int))=true->(0<=(k1:Int)/\(k1:Int)<A13)/\CO Gl 136 [str (nth (tl A2) k1)] (.ret (I (Aq9 (nth (tl A2) k1))))/\(List.length (Ac1 A2 k1)+1)*8<=140737488355328/\List.length (Ac1 A2 k1)+1<=140737488355328/\iR ((k1:Int)+1)/\k1<List.length (tl A2)/\(k1:Int)+1=(↑(k1+1):Int)/\A13=A13/\(sR eS (tl A2))/\(0:Int)=0/\(SEq (List.length (Ac1 A2 k1)+1) (Aj0 (List.length (Ac1 A2 k1)) (fun i=>eI (nth (Ac1 A2 k1) i)) fun i=>List.getD [List.map C.dem [C.v (Value.int IntKind.i64 (Aq9 (nth (tl A2) k1)))]] i []) (List.length (Ac1 A2 (k1+1))) fun i=>eI (nth (Ac1 A2 (k1+1)) i))/\bs A2=bs A2/\(0:Int)=0/\Value.slice none 0 0=Value.slice none 0 0/\Value.slice none 0 0=Value.slice none 0 0/\Value.slice none 0 0=Value.slice none 0 0/\A9=A9/\(sR eS (mid s))/\bs s=bs s/\Value.slice none 0 0=Value.slice none 0 0/\Value.slice none 0 0=Value.slice none 0 0)/\(decide ((k1:Int)<(↑(List.length (tl (nth (mid s) (0:Nat)))):Int))=false->true=true/\(List.length (Ac1 A2 k1)<=maxLen->CO Gl 135 [B (decide (0<(↑(List.length (Ac1 (nth (mid s) (0:Nat)) k1)):Int))),T.d (D.c (C.v (Value.string (bs A2))))] (.ret (.tup []))/\(List.length (Ac1 A2 k1)<=maxLen->(0=(↑(0:Nat):Int)/\(↑(List.length (Ac1 A2 k1)):Int)=A10/\(sQ eI (Ac1 A2 k1) (l0T s))/\(0:Int)=0/\(sQ eI (Ac1 A2 k1) (l0T s))/\bs A2=bs A2/\(0:Int)=0/\Value.slice none 0 0=Value.slice none 0 0/\Value.slice none 0 0=Value.slice none 0 0/\Value.slice none 0 0=Value.slice none 0 0/\A9=A9/\(sR eS (mid s))/\bs s=bs s/\Value.slice none 0 0=Value.slice none 0 0/\Value.slice none 0 0=Value.slice none 0 0)/\∀ (k2:Nat),k2<=List.length (l0T s)->(decide ((k2:Int)<(List.length (l0T s):Int))=true->(0<=(k2:Int)/\(k2:Int)<A10)/\CO Gl 135 [B (decide ((0:Int)<=nth (l0T s) k2)),T.d (D.c (C.v (Value.string (bs A2))))] (.ret (.tup []))/\iR ((k2:Int)+1)/\k2<List.length (l0T s)/\(k2:Int)+1=(↑(k2+1):Int)/\A10=A10/\(sR eI (l0T s))/\(0:Int)=0/\(sR eI (l0T s))/\bs A2=bs A2/\(0:Int)=0/\Value.slice none 0 0=Value.slice none 0 0/\Value.slice none 0 0=Value.slice none 0 0/\Value.slice none 0 0=Value.slice none 0 0/\A9=A9/\(sR eS (mid s))/\bs s=bs s/\Value.slice none 0 0=Value.slice none 0 0/\Value.slice none 0 0=Value.slice none 0 0)/\(decide ((k2:Int)<(List.length (l0T s):Int))=false->List.length (l0T s)<=maxLen->A10=A10/\0<=A10/\List.length (l0T s)*24<=140737488355328/\List.length (l0T s)<=(140737488355328:Nat)/\(1:Nat)*16<=140737488355328/\(1:Nat)<=(140737488355328:Nat)/\iR ((0:Int)+1)/\((0:Int)+1=(↑(0:Nat):Int)+1/\(SEq (1:Nat) (fun i=>List.getD [List.map C.dem [C.i (121:Nat) true [C.s Tag.n A11 fun i=>eI (nth (l0T s) i)]]] i []) (List.length (List.take ((0:Nat)+1) (An5 (lsT s)))) fun i=>eLn (nth (List.take ((0:Nat)+1) (An5 (lsT s))) i))/\List.length (l0T s)=List.length (l0T s)/\(sR eI (l0T s))/\OEq A11 (fun x=>((0:Nat),fun x=>[])) A11 (Ah s (0:Nat))/\A9=A9/\(sR eS (mid s))/\bs s=bs s/\Value.slice none 0 0=Value.slice none 0 0/\Value.slice none 0 0=Value.slice none 0 0)/\∀ (k2:Nat),k2<=b->(decide (k2<b)=true->(decide ((k2:Int)+1<(List.length (mid s):Int))=true->(0<=(k2:Int)+1/\(k2:Int)+1<A9)/\CO Gl 134 [str (nth (mid s) (Int.toNat ((k2:Int)+1))),str [(32:UInt8)]] (.ret (L eS (A5 k2)))/\((0:Int)<=1/\1<=(A15 k2)/\(A15 k2)<=(A15 k2))/\(A1 k2))/\(decide ((k2:Int)+1<(List.length (mid s):Int))=false->CO Gl 108 [T.d (D.c (C.l eLn (List.take (k2+1) (An5 (lsT s)))))] (.ret (str (A8 k2)))/\CO Gl 135 (A16 k2) (.ret (.tup []))/\List.length (l0T s)=List.length (l0T s)/\False))/\(decide (k2<b)=false->(decide ((k2:Int)+1<(List.length (mid s):Int))=true->(0<=(k2:Int)+1/\(k2:Int)+1<A9)/\CO Gl 134 [str (nth (mid s) (Int.toNat ((k2:Int)+1))),str [(32:UInt8)]] (.ret (L eS (A5 k2)))/\((0:Int)<=1/\1<=(A15 k2)/\(A15 k2)<=(A15 k2))/\(A1 k2))/\(decide ((k2:Int)+1<(List.length (mid s):Int))=false->CO Gl 108 [T.d (D.c (C.l eLn (List.take (k2+1) (An5 (lsT s)))))] (.ret (str (A8 k2)))/\CO Gl 135 (A16 k2) (.ret (.tup []))/\List.length (l0T s)=List.length (l0T s)/\False))))))))/\(decide (0<(↑(Int.toNat ((↑(List.length (Aa4 (10:UInt8) s)):Int)-2-(0:Int))):Int))=false->False))))))) Tryz.func110 (by kernel_rfl) (by kernel_rfl) ?_
 have hsp:=Ab1 10 s
 have hml:=As9 (s:=s)
 have hll:=Az8 s
 have hrow:∀ i,i<(mid s).length->(nth (mid s) i).length<=150:=fun i hi=>by have:=Az3 hi;omega
 have hm0:0<(mid s).length:=by omega
 have hl0:l0T s=nsR (nth (mid s) 0):=Ar7 hm0
 have h00:nth (Aa4 10 s) (Int.toNat 0+Int.toNat 0)=nth (mid s) 0:=(Ak4 hm0).symm
 have hl0n:(l0T s).length<=150:=by rw [hl0];have:=Bf7 (nth (mid s) 0);have:=hrow 0 hm0;omega
 simp only [stdS,imp_self,implies_true,and_true,h00,Ax2]
 refine ⟨Ae0 hG.len s 10 (by omega),fun _=>⟨Al8 S _ _ (by simp;omega),fun _=>⟨(Aa1 _).2 (by omega),⟨by decide,by omega,by omega⟩,fun _=>⟨fun _=>?_,fun h=>?_⟩⟩⟩⟩
 rotate_left
 ·have:=of_decide_eq_false h
  omega
 refine ⟨⟨by omega,by omega⟩,Ae0 hG.len _ 32 (by have:=hrow 0 hm0;omega),⟨by omega,by have:=Ab1 32 (nth (mid s) 0);omega,by omega⟩,fun _=>⟨⟨by have:=Ab1 32 (nth (mid s) 0);rw [Ah7];omega,At6 _,by omega,.of ⟨by omega,fun i hi=>by
       show eS (nth (Aa4 10 s) (0+i))=eS (nth (mid s) i)
       rw [Ak4 (by omega),Nat.zero_add]⟩,trivial⟩,fun k1 hk1=>?_⟩⟩
 have hnl:=Ai9 (r:=nth (mid s) 0) (j:=k1)
 have htl:=Ah7 (r:=nth (mid s) 0)
 have hsr:=Ab1 32 (nth (mid s) 0)
 have hr:=hrow 0 hm0
 refine ⟨fun h1=>?_,fun h1 hmx=>?_⟩
 ·have h1:k1<(tl (nth (mid s) 0)).length:=by simpa using h1
  exact ⟨⟨by omega,by omega⟩,Af S hG _ (List.all_eq_true.1 (hok 0 (by omega)) _ (Ab5 h1)),by omega,by omega,(Aa1 _).2 (by omega),h1,by omega,Ac5 (Ag3 h1) rfl,trivial⟩
 ·skip
  have h1:k1=(tl (nth (mid s) 0)).length:=by
   have:¬ k1<(tl (nth (mid s) 0)).length:=by simpa using h1
   omega
  subst h1
  rw [Al5,<-hl0]
  refine ⟨Al8 S _ _ (decide_eq_true (by omega)),fun _=>⟨⟨rfl,Aa8 rfl,Aa8 rfl,trivial⟩,fun k2 hk2=>⟨fun hd=>?_,fun hd _=>⟨by omega,by omega,by omega,by decide,by decide,(Aa1 _).2 (by omega),?_,fun k3 hk3=>⟨fun hc=>⟨fun h3=>?_,fun h3=>?_⟩,fun hc=>⟨fun h3=>?_,fun h3=>?_⟩⟩⟩⟩⟩⟩
  ·have hd:k2<(l0T s).length:=by simpa using hd
   exact ⟨⟨by omega,by omega⟩,Al8 S _ _ (decide_eq_true (hf2 _ (Ab5 hd))),(Aa1 _).2 (by omega),hd,by omega,trivial⟩
  ·refine ⟨.of ⟨by rw [List.length_take,Af2];omega,fun i hi=>?_⟩,Bj2 s _,trivial⟩
   have:i=0:=by omega
   subst this
   show [C.i 121 true [C.l eI (l0T s)]]=eLn (nth ((An5 (lsT s)).take 1) 0)
   rw [A39 (by omega),A97 (by omega)]
   rfl
  ·have hc:k3<b:=of_decide_eq_true hc
   have hlt:k3+1<(mid s).length:=by omega
   have hlen:=hf3 k3 hc
   have ht3:((k3:Int)+1).toNat=k3+1:=by omega
   have hrw:=hrow (k3+1) hlt
   have hlk:nth (lsT s) (k3+1)=nsR (nth (mid s) (k3+1)):=Ar7 hlt
   have hcl:=fun j=>Av6 s (k:=k3) (by omega) j
   have hll2:((An5 (lsT s)).take (k3+1)).length=k3+1:=by rw [List.length_take,Af2];omega
   have hbb:∀ j:Nat,Nat.blt j j=false:=fun j=>A09 (Nat.lt_irrefl j)
   have htl:=Ah7 (r:=nth (mid s) (k3+1))
   have hsr:=Ab1 32 (nth (mid s) (k3+1))
   simp only [ht3,hbb,cond_false]
   refine ⟨⟨by omega,by omega⟩,Ae0 hG.len _ 32 (by omega),⟨by omega,by omega,by omega⟩,fun _=>⟨⟨by omega,At6 _,trivial,trivial⟩,fun k4 hk4=>?_⟩⟩
   have hnl:=Ai9 (r:=nth (mid s) (k3+1)) (j:=k4)
   have hga:=Di3 (r:=nth (mid s) (k3+1)) (hok (k3+1) (by omega))
   refine ⟨fun hg=>⟨fun h4=>?_,fun h4 hmx _=>?_⟩,fun hg=>⟨fun h4=>?_,fun h4 hmx _=>?_⟩⟩
   ·have hg:k4<Ag4 (nth (mid s) (k3+1)):=of_decide_eq_true hg
    have h4:k4<(tl (nth (mid s) (k3+1))).length:=by omega
    exact ⟨⟨by omega,by omega⟩,Af S hG _ (Cg0 hg),by omega,by omega,(Aa1 _).2 (by omega),hg,by omega,Ac5 (Ag3 h4) rfl,trivial⟩
   ·exfalso
    have hg:k4<Ag4 (nth (mid s) (k3+1)):=of_decide_eq_true hg
    have h4:¬ (k4:Int)<((tl (nth (mid s) (k3+1))).length:Int):=of_decide_eq_false h4
    omega
   ·exfalso
    have hg:¬ k4<Ag4 (nth (mid s) (k3+1)):=of_decide_eq_false hg
    have h4:(k4:Int)<((tl (nth (mid s) (k3+1))).length:Int):=of_decide_eq_true h4
    omega
   ·skip
    have h4:k4=(tl (nth (mid s) (k3+1))).length:=by
     have:¬ k4<(tl (nth (mid s) (k3+1))).length:=by simpa using h4
     omega
    subst h4
    rw [Al5,<-hlk]
    refine ⟨Al8 S _ _ (by rw [hlen];exact beq_self_eq_true _),fun _=>⟨⟨by rw [hlen],Aa8 rfl,Aa8 rfl,Bb1 s _ _,trivial⟩,fun k5 hk5=>⟨fun h5=>?_,fun h5=>?_⟩⟩⟩
    ·have h5:k5<(l0T s).length:=by simpa using h5
     have:=hcl k5
     exact ⟨⟨by omega,by omega⟩,⟨by omega,by omega⟩,h5,by omega,by omega,⟨by omega,by omega⟩,h5,(Aa1 _).2 (by omega),h5,by omega,B40 (by omega) _,trivial⟩
    ·have h5:k5=(l0T s).length:=by
      have:¬ k5<(l0T s).length:=by simpa using h5
      omega
     subst h5
     refine ⟨by omega,by omega,(Aa1 _).2 (by omega),hc,by omega,?_,B41 s _ _,trivial⟩
     refine Ak2 (by rw [Af2];omega) ?_
     rw [A98 (by omega)]
     rfl
  ·exfalso
   have hc:k3<b:=of_decide_eq_true hc
   have h3:¬ (k3:Int)+1<((mid s).length:Int):=of_decide_eq_false h3
   omega
  ·have hc:k3=b:=by have:¬ k3<b:=of_decide_eq_false hc;omega
   subst hc
   have hlt:k3+1<(mid s).length:=hb
   have ht3:((k3:Int)+1).toNat=k3+1:=by omega
   have hrw:=hrow (k3+1) hlt
   have hlk:nth (lsT s) (k3+1)=nsR (nth (mid s) (k3+1)):=Ar7 hlt
   have hcl:=fun j=>Av6 s (k:=k3) (by omega) j
   have hll2:((An5 (lsT s)).take (k3+1)).length=k3+1:=by rw [List.length_take,Af2];omega
   have hbb:∀ j:Nat,Nat.blt j j=false:=fun j=>A09 (Nat.lt_irrefl j)
   have htl:=Ah7 (r:=nth (mid s) (k3+1))
   have hsr:=Ab1 32 (nth (mid s) (k3+1))
   simp only [ht3,hbb,cond_false]
   refine ⟨⟨by omega,by omega⟩,Ae0 hG.len _ 32 (by omega),⟨by omega,by omega,by omega⟩,fun _=>⟨⟨by omega,At6 _,trivial,trivial⟩,fun k4 hk4=>?_⟩⟩
   have hnl:=Ai9 (r:=nth (mid s) (k3+1)) (j:=k4)
   obtain ⟨hg1,hg2⟩:=Cn9 hbad
   refine ⟨fun hg=>⟨fun h4=>?_,fun h4 hmx _=>?_⟩,fun hg=>⟨fun h4=>?_,fun h4 hmx _=>?_⟩⟩
   ·have hg:k4<Ag4 (nth (mid s) (k3+1)):=of_decide_eq_true hg
    have h4:k4<(tl (nth (mid s) (k3+1))).length:=by omega
    exact ⟨⟨by omega,by omega⟩,Af S hG _ (Cg0 hg),by omega,by omega,(Aa1 _).2 (by omega),hg,by omega,Ac5 (Ag3 h4) rfl,trivial⟩
   ·exfalso
    have hg:k4<Ag4 (nth (mid s) (k3+1)):=of_decide_eq_true hg
    have h4:¬ (k4:Int)<((tl (nth (mid s) (k3+1))).length:Int):=of_decide_eq_false h4
    omega
   ·have hg:k4=Ag4 (nth (mid s) (k3+1)):=by have:¬ k4<Ag4 (nth (mid s) (k3+1)):=of_decide_eq_false hg;omega
    subst hg
    exact ⟨⟨by omega,by omega⟩,Bu7 S hG _ hg2,rfl⟩
   ·exfalso
    have hg:¬ k4<Ag4 (nth (mid s) (k3+1)):=of_decide_eq_false hg
    have h4:¬ (k4:Int)<((tl (nth (mid s) (k3+1))).length:Int):=of_decide_eq_false h4
    omega
  ·exfalso
   have h3:¬ (k3:Int)+1<((mid s).length:Int):=of_decide_eq_false h3
   omega
theorem Ce8 {Gl} (S:SP Gl) (s:List UInt8) (hG:GlOK Gl) (hs:s.length<=150) (b:Nat) (hR:3<=(Aa4 10 s).length) (hb:b+1<(mid s).length) (hok:∀ i,i<b+1->okR (nth (mid s) i)=true) (hf1:0<(l0T s).length) (hf2:∀ n∈l0T s,0<=n) (hf3:∀ k,k<b->(nth (lsT s) (k+1)).length=(l0T s).length) (hok2:okR (nth (mid s) (b+1))=true) (hne:(nth (lsT s) (b+1)).length≠(l0T s).length):CO Gl 110 [str s] (.pan (.iface 135 (.agg #[.string (bs (nth (mid s) (b+1)))]))):=by
 refine Ac4 S (let A0:=fun (k2:Nat)=>(0=(↑(0:Nat):Int)/\(↑(Int.toNat ((↑(List.length (Aa4 (32:UInt8) (nth (mid s) (Int.toNat ((k2:Int)+1))))):Int)-1)):Int)=(↑(List.length (tl (nth (mid s) (k2+1)))):Int)/\(SEq (Int.toNat ((↑(List.length (Aa4 (32:UInt8) (nth (mid s) (Int.toNat ((k2:Int)+1))))):Int)-1)) (fun i=>eS (nth (Aa4 (32:UInt8) (nth (mid s) (Int.toNat ((k2:Int)+1)))) (Int.toNat (1:Int)+i))) (List.length (tl (nth (mid s) (k2+1)))) fun i=>eS (nth (tl (nth (mid s) (k2+1))) i))/\(k2:Int)+1=(k2:Int)+1/\(0:Nat)=(0:Nat)/\bs (nth (mid s) (Int.toNat ((k2:Int)+1)))=bs (nth (mid s) (k2+1))/\(k2:Int)+1=(k2:Int)+1/\(sR eLn (List.take (k2+1) (An5 (lsT s))))/\List.length (l0T s)=List.length (l0T s)/\(sR eI (l0T s))/\OEq (List.length (l0T s)) (Ah s k2) (List.length (l0T s)) (Ah s k2)/\(List.length (mid s):Int)=(List.length (mid s):Int)/\(sR eS (mid s))/\bs s=bs s/\Value.slice none 0 0=Value.slice none 0 0/\Value.slice none 0 0=Value.slice none 0 0);let A1:=fun (k2:Nat)=>(nth (mid s) (k2+1));let A2:=(nth (mid s) (0:Nat));let A3:=(Aa4 (32:UInt8) (nth (Aa4 (10:UInt8) s) (Int.toNat (0:Int)+Int.toNat (0:Int))));let A4:=fun (k2:Nat)=>(Aa4 (32:UInt8) (nth (mid s) (Int.toNat ((k2:Int)+1))));let A5:=(List.length (mid s):Int);let A6:=fun (k2:Nat)=>(List.take (k2+1) (An5 (lsT s)));let A7:=(List.length (l0T s):Int);let A8:=(↑(List.length (Aa4 (10:UInt8) s)):Int);let A9:=fun (k2 k3:Nat)=>(SEq (List.length (Ac1 (A1 k2) k3)+1) (Aj0 (List.length (Ac1 (A1 k2) k3)) (fun i=>eI (nth (Ac1 (A1 k2) k3) i)) fun i=>List.getD [List.map C.dem [C.v (Value.int IntKind.i64 (Aq9 (nth (tl (A1 k2)) k3)))]] i []) (List.length (Ac1 (A1 k2) (k3+1))) fun i=>eI (nth (Ac1 (A1 k2) (k3+1)) i));let A10:=(List.length (l0T s));let A11:=fun (k2:Nat)=>(fun (j:Nat)=>v 37 (I j)::v 36 (I (↑(List.length (tl (A1 k2))):Int))::v 35 (L eS (tl (A1 k2)))::v 28 (I ((k2:Int)+1))::v 8 (Lt 901 eI (Ac1 (A1 k2) j))::tk 901 3::v 7 (str (A1 k2))::v 6 (I ((k2:Int)+1))::B70 s k2);let A12:=fun (k2 k4:Nat)=>(Aq5 s (bif Nat.blt k4 k4 then k2+(1:Nat) else k2) k4);let A13:=fun (k2:Nat)=>(↑(List.length (A4 k2)):Int);let A14:=fun (k2:Nat)=>(↑(List.length (tl (A1 k2))):Int);let A15:=(↑(List.length A3):Int);let A16:=(↑(List.length (tl A2)):Int);let A17:=(Aa4 (10:UInt8) s);let A18:=fun (k2:Nat)=>(Ae8 (List.map lnT (A6 k2)));let A19:=fun (k2:Nat)=>(nth (lsT s) (k2+1));let A20:=(sR eS (mid s));let A21:=(sR eI (l0T s));let A22:=fun (k2:Nat)=>[B (ByteArray.toList (bs (A18 k2))==ByteArray.toList (bs s)),T.d (D.c (C.v (Value.string (bs s))))];let A23:=fun (k2 k3:Nat)=>[B ((↑(List.length (Ac1 (A1 k2) k3)):Int)==A7),T.d (D.c (C.v (Value.string (bs (A1 k2)))))];let A24:=fun (k2:Nat)=>(Res.pan (Value.iface (135:TypeId) (Value.agg #[Value.string (bs (A1 k2))])));let A25:=(Int.toNat (A8-2-(0:Int)));let A26:=(nth A17 (Int.toNat (0:Int)+Int.toNat (0:Int)));let A27:=fun (k2 k3:Nat)=>(I (Aq9 (nth (tl (A1 k2)) k3)));((.r (.ret (L eS A17)) (.r (.ret (.tup [])) (.pe (.br (.r (.ret (L eS A3)) (.loop (List.length (tl A2)) (fun j=>v 37 (I j)::v 36 (I A16)::v 35 (L eS (tl A2))::v 28 (I 0)::v 8 (Lt 901 eI (Ac1 A2 j))::tk 901 3::v 7 (str A2)::v 6 (I 0)::v 5 (T.d (D.c Av9))::(bx 4 [Av9,Av9]++A92 s)) fun k1=>.br (.r (.ret (I (Aq9 (nth (tl A2) k1)))) .nil) (.tt (.r (.ret (.tup [])) (.loop A10 (fun j=>v 56 (I j)::v 55 (I A7)::v 54 (L eI (l0T s))::v 28 (I 0)::v 8 (Lt 901 eI (l0T s))::tk 901 3::v 7 (str A2)::v 6 (I 0)::v 5 (T.d (D.c Av9))::(bx 4 [Av9,Av9]++A92 s)) fun k2=>.br (.r (.ret (.tup [])) .nil) (.arrA (nat_lit 68) .nil)))))) .nil) b (fun k=>v 28 (I ((k:Int)+1))::B70 s k) fun k2=>.ite (decide (k2<b)) (.br (.r (.ret (L eS (A4 k2))) (.loop (List.length (tl (A1 k2))) (A11 k2) fun k3=>.br (.r (.ret (A27 k2 k3)) .nil) (.ff (.r (.ret (.tup [])) (.loop A10 (fun j=>v 87 (I j)::v 86 (I A7)::v 85 (L eI (A19 k2))::v 28 (I ((k2:Int)+1))::v 8 (Lt 901 eI (A19 k2))::tk 901 3::parE s k2 j) fun k4=>.br (.arrA (nat_lit 99) .nil) .nil))))) (.r (.ret (str (A18 k2))) (.r (.ret (.tup [])) .nil))) (.br (.r (.ret (L eS (A4 k2))) (.loop (List.length (tl (A1 k2))) (A11 k2) fun k3=>.br (.r (.ret (A27 k2 k3)) .nil) (.ff (.r (A24 k2) .nil)))) (.r (.ret (str (A18 k2))) (.r (.ret (.tup [])) .nil)))))),(CO Gl 134 [str s,str [(10:UInt8)]] (.ret (L eS A17))/\(List.length A17<=maxLen->CO Gl 135 [B (decide (3<=(↑(List.length (Aa4 (10:UInt8) s)):Int))),T.d (D.c (C.v (Value.string (bs s))))] (.ret (.tup []))/\(List.length A17<=maxLen->iR (A8-2)/\((0:Int)<=0/\0<=A8-2/\A8-2<=A8)/\(Int.toNat (A8-2-(0:Int))<=maxLen->(decide (0<(↑(Int.toNat ((↑(List.length (Aa4 (10:UInt8) s)):Int)-2-(0:Int))):Int))=true->((0:Int)<=0/\0<(↑A25:Int))/\CO Gl 134 [str A26,str [(32:UInt8)]] (.ret (L eS A3))/\((0:Int)<=1/\1<=A15/\A15<=A15)/\(Int.toNat (A15-1)<=maxLen->(0=(↑(0:Nat):Int)/\(↑(Int.toNat (A15-1)):Int)=A16/\(SEq (Int.toNat (A15-1)) (fun i=>eS (nth A3 (Int.toNat (1:Int)+i))) (List.length (tl A2)) fun i=>eS (nth (tl A2) i))/\(0:Int)=0/\(0:Nat)=(0:Nat)/\bs A26=bs A2/\(0:Int)=0/\Value.slice none 0 0=Value.slice none 0 0/\Value.slice none 0 0=Value.slice none 0 0/\Value.slice none 0 0=Value.slice none 0 0/\(↑A25:Int)=A5/\(SEq A25 (fun i=>eS (nth A17 (Int.toNat (0:Int)+i))) (List.length (mid s)) fun i=>eS (nth (mid s) i))/\bs s=bs s/\Value.slice none 0 0=Value.slice none 0 0/\Value.slice none 0 0=Value.slice none 0 0)/\∀ (k1:Nat),k1<=List.length (tl A2)->(decide ((k1:Int)<(↑(List.length (tl (nth (mid s) (0:Nat)))):Int))=true->(0<=(k1:Int)/\(k1:Int)<A16)/\CO Gl 136 [str (nth (tl A2) k1)] (.ret (I (Aq9 (nth (tl A2) k1))))/\(List.length (Ac1 A2 k1)+1)*8<=140737488355328/\List.length (Ac1 A2 k1)+1<=140737488355328/\iR ((k1:Int)+1)/\k1<List.length (tl A2)/\(k1:Int)+1=(↑(k1+1):Int)/\A16=A16/\(sR eS (tl A2))/\(0:Int)=0/\(SEq (List.length (Ac1 A2 k1)+1) (Aj0 (List.length (Ac1 A2 k1)) (fun i=>eI (nth (Ac1 A2 k1) i)) fun i=>List.getD [List.map C.dem [C.v (Value.int IntKind.i64 (Aq9 (nth (tl A2) k1)))]] i []) (List.length (Ac1 A2 (k1+1))) fun i=>eI (nth (Ac1 A2 (k1+1)) i))/\bs A2=bs A2/\(0:Int)=0/\Value.slice none 0 0=Value.slice none 0 0/\Value.slice none 0 0=Value.slice none 0 0/\Value.slice none 0 0=Value.slice none 0 0/\A5=A5/\A20/\bs s=bs s/\Value.slice none 0 0=Value.slice none 0 0/\Value.slice none 0 0=Value.slice none 0 0)/\(decide ((k1:Int)<(↑(List.length (tl (nth (mid s) (0:Nat)))):Int))=false->true=true/\(List.length (Ac1 A2 k1)<=maxLen->CO Gl 135 [B (decide (0<(↑(List.length (Ac1 (nth (mid s) (0:Nat)) k1)):Int))),T.d (D.c (C.v (Value.string (bs A2))))] (.ret (.tup []))/\(List.length (Ac1 A2 k1)<=maxLen->(0=(↑(0:Nat):Int)/\(↑(List.length (Ac1 A2 k1)):Int)=A7/\(sQ eI (Ac1 A2 k1) (l0T s))/\(0:Int)=0/\(sQ eI (Ac1 A2 k1) (l0T s))/\bs A2=bs A2/\(0:Int)=0/\Value.slice none 0 0=Value.slice none 0 0/\Value.slice none 0 0=Value.slice none 0 0/\Value.slice none 0 0=Value.slice none 0 0/\A5=A5/\A20/\bs s=bs s/\Value.slice none 0 0=Value.slice none 0 0/\Value.slice none 0 0=Value.slice none 0 0)/\∀ (k2:Nat),k2<=List.length (l0T s)->(decide ((k2:Int)<(List.length (l0T s):Int))=true->(0<=(k2:Int)/\(k2:Int)<A7)/\CO Gl 135 [B (decide ((0:Int)<=nth (l0T s) k2)),T.d (D.c (C.v (Value.string (bs A2))))] (.ret (.tup []))/\iR ((k2:Int)+1)/\k2<List.length (l0T s)/\(k2:Int)+1=(↑(k2+1):Int)/\A7=A7/\A21/\(0:Int)=0/\A21/\bs A2=bs A2/\(0:Int)=0/\Value.slice none 0 0=Value.slice none 0 0/\Value.slice none 0 0=Value.slice none 0 0/\Value.slice none 0 0=Value.slice none 0 0/\A5=A5/\A20/\bs s=bs s/\Value.slice none 0 0=Value.slice none 0 0/\Value.slice none 0 0=Value.slice none 0 0)/\(decide ((k2:Int)<(List.length (l0T s):Int))=false->List.length (l0T s)<=maxLen->A7=A7/\0<=A7/\List.length (l0T s)*24<=140737488355328/\List.length (l0T s)<=(140737488355328:Nat)/\(1:Nat)*16<=140737488355328/\(1:Nat)<=(140737488355328:Nat)/\iR ((0:Int)+1)/\((0:Int)+1=(↑(0:Nat):Int)+1/\(SEq (1:Nat) (fun i=>List.getD [List.map C.dem [C.i (121:Nat) true [C.s Tag.n A10 fun i=>eI (nth (l0T s) i)]]] i []) (List.length (List.take ((0:Nat)+1) (An5 (lsT s)))) fun i=>eLn (nth (List.take ((0:Nat)+1) (An5 (lsT s))) i))/\List.length (l0T s)=List.length (l0T s)/\A21/\OEq A10 (fun x=>((0:Nat),fun x=>[])) A10 (Ah s (0:Nat))/\A5=A5/\A20/\bs s=bs s/\Value.slice none 0 0=Value.slice none 0 0/\Value.slice none 0 0=Value.slice none 0 0)/\∀ (k2:Nat),k2<=b->(decide (k2<b)=true->(decide ((k2:Int)+1<(List.length (mid s):Int))=true->(0<=(k2:Int)+1/\(k2:Int)+1<A5)/\CO Gl 134 [str (nth (mid s) (Int.toNat ((k2:Int)+1))),str [(32:UInt8)]] (.ret (L eS (A4 k2)))/\((0:Int)<=1/\1<=(A13 k2)/\(A13 k2)<=(A13 k2))/\(Int.toNat ((A13 k2)-1)<=maxLen->(A0 k2)/\∀ (k3:Nat),k3<=List.length (tl (A1 k2))->(decide ((k3:Int)<(↑(List.length (tl (nth (mid s) (k2+1)))):Int))=true->(0<=(k3:Int)/\(k3:Int)<(A14 k2))/\CO Gl 136 [str (nth (tl (A1 k2)) k3)] (.ret (A27 k2 k3))/\(List.length (Ac1 (A1 k2) k3)+1)*8<=140737488355328/\List.length (Ac1 (A1 k2) k3)+1<=140737488355328/\iR ((k3:Int)+1)/\k3<List.length (tl (A1 k2))/\(k3:Int)+1=(↑(k3+1):Int)/\(A14 k2)=(A14 k2)/\(sR eS (tl (A1 k2)))/\(k2:Int)+1=(k2:Int)+1/\(A9 k2 k3)/\bs (A1 k2)=bs (A1 k2)/\(k2:Int)+1=(k2:Int)+1/\(sR eLn (A6 k2))/\List.length (l0T s)=List.length (l0T s)/\A21/\OEq A10 (Ah s k2) A10 (Ah s k2)/\A5=A5/\A20/\bs s=bs s/\Value.slice none 0 0=Value.slice none 0 0/\Value.slice none 0 0=Value.slice none 0 0)/\(decide ((k3:Int)<(↑(List.length (tl (nth (mid s) (k2+1)))):Int))=false->false=false/\(List.length (Ac1 (A1 k2) k3)<=maxLen->List.length (l0T s)<=maxLen->CO Gl 135 (A23 k2 k3) (.ret (.tup []))/\(List.length (Ac1 (A1 k2) k3)<=maxLen->(0=(↑(0:Nat):Int)/\(↑(List.length (Ac1 (A1 k2) k3)):Int)=A7/\(sQ eI (Ac1 (A1 k2) k3) (A19 k2))/\(k2:Int)+1=(k2:Int)+1/\(sQ eI (Ac1 (A1 k2) k3) (A19 k2))/\(sR eLn (A6 k2))/\List.length (l0T s)=List.length (l0T s)/\A21/\OEq A10 (Ah s k2) A10 (Bh9 s k2 (0:Nat))/\A5=A5/\A20/\bs s=bs s/\Value.slice none 0 0=Value.slice none 0 0/\Value.slice none 0 0=Value.slice none 0 0)/\∀ (k4:Nat),k4<=List.length (l0T s)->(decide ((k4:Int)<(List.length (l0T s):Int))=true->(0<=(k4:Int)/\(k4:Int)<(↑(List.length (A19 k2)):Int))/\(0<=(k4:Int)/\(k4:Int)<A7)/\k4<List.length (l0T s)/\(List.length (A12 k2 k4)+1)*8<=140737488355328/\List.length (A12 k2 k4)+1<=140737488355328/\(0<=(k4:Int)/\(k4:Int)<A7)/\k4=k4/\k4<List.length (l0T s)/\iR ((k4:Int)+1)/\k4<List.length (l0T s)/\(k4:Int)+1=(↑(k4+1):Int)/\A7=A7/\(sR eI (A19 k2))/\(k2:Int)+1=(k2:Int)+1/\(sR eI (A19 k2))/\(sR eLn (A6 k2))/\List.length (l0T s)=List.length (l0T s)/\A21/\OEq A10 (Bx5 (Bh9 s k2 k4) k4 (List.length (A12 k2 k4)+(1:Nat),Aj0 (List.length (A12 k2 k4)) (fun i=>eI (nth (A12 k2 k4) i)) fun i=>List.getD [List.map C.dem [C.v (Value.int IntKind.i64 (nth (A19 k2) k4))]] i [])) A10 (Bh9 s k2 (k4+1))/\A5=A5/\A20/\bs s=bs s/\Value.slice none 0 0=Value.slice none 0 0/\Value.slice none 0 0=Value.slice none 0 0)/\(decide ((k4:Int)<(List.length (l0T s):Int))=false->(List.length (A6 k2)+1)*16<=140737488355328/\List.length (A6 k2)+1<=140737488355328/\iR ((k2:Int)+1+(1:Int))/\k2<b/\(k2:Int)+1+1=(↑(k2+1):Int)+1/\(SEq (List.length (A6 k2)+1) (Aj0 (List.length (A6 k2)) (fun i=>eLn (nth (A6 k2) i)) fun i=>List.getD [List.map C.dem [C.i (124:Nat) true [C.s Tag.n (List.length (A19 k2)) fun i=>eI (nth (A19 k2) i)]]] i []) (List.length (List.take (k2+(1:Nat)+1) (An5 (lsT s)))) fun i=>eLn (nth (List.take (k2+(1:Nat)+1) (An5 (lsT s))) i))/\List.length (l0T s)=List.length (l0T s)/\A21/\OEq A10 (Bh9 s k2 k4) A10 (Ah s (k2+1))/\A5=A5/\A20/\bs s=bs s/\Value.slice none 0 0=Value.slice none 0 0/\Value.slice none 0 0=Value.slice none 0 0))))))/\(decide ((k2:Int)+1<(List.length (mid s):Int))=false->CO Gl 108 [T.d (D.c (C.l eLn (A6 k2)))] (.ret (str (A18 k2)))/\CO Gl 135 (A22 k2) (.ret (.tup []))/\List.length (l0T s)=List.length (l0T s)/\False))/\(decide (k2<b)=false->(decide ((k2:Int)+1<(List.length (mid s):Int))=true->(0<=(k2:Int)+1/\(k2:Int)+1<A5)/\CO Gl 134 [str (nth (mid s) (Int.toNat ((k2:Int)+1))),str [(32:UInt8)]] (.ret (L eS (A4 k2)))/\((0:Int)<=1/\1<=(A13 k2)/\(A13 k2)<=(A13 k2))/\(Int.toNat ((A13 k2)-1)<=maxLen->(A0 k2)/\∀ (k3:Nat),k3<=List.length (tl (A1 k2))->(decide ((k3:Int)<(↑(List.length (tl (nth (mid s) (k2+1)))):Int))=true->(0<=(k3:Int)/\(k3:Int)<(A14 k2))/\CO Gl 136 [str (nth (tl (A1 k2)) k3)] (.ret (A27 k2 k3))/\(List.length (Ac1 (A1 k2) k3)+1)*8<=140737488355328/\List.length (Ac1 (A1 k2) k3)+1<=140737488355328/\iR ((k3:Int)+1)/\k3<List.length (tl (A1 k2))/\(k3:Int)+1=(↑(k3+1):Int)/\(A14 k2)=(A14 k2)/\(sR eS (tl (A1 k2)))/\(k2:Int)+1=(k2:Int)+1/\(A9 k2 k3)/\bs (A1 k2)=bs (A1 k2)/\(k2:Int)+1=(k2:Int)+1/\(sR eLn (A6 k2))/\List.length (l0T s)=List.length (l0T s)/\A21/\OEq A10 (Ah s k2) A10 (Ah s k2)/\A5=A5/\A20/\bs s=bs s/\Value.slice none 0 0=Value.slice none 0 0/\Value.slice none 0 0=Value.slice none 0 0)/\(decide ((k3:Int)<(↑(List.length (tl (nth (mid s) (k2+1)))):Int))=false->false=false/\(List.length (Ac1 (A1 k2) k3)<=maxLen->List.length (l0T s)<=maxLen->CO Gl 135 (A23 k2 k3) (A24 k2)/\Value.iface (135:Nat) (Value.agg (Array.mk [Value.string (bs (A1 k2))]))=Value.iface (135:Nat) (Value.agg (Array.mk [Value.string (bs (nth (mid s) (b+1)))]))))))/\(decide ((k2:Int)+1<(List.length (mid s):Int))=false->CO Gl 108 [T.d (D.c (C.l eLn (A6 k2)))] (.ret (str (A18 k2)))/\CO Gl 135 (A22 k2) (.ret (.tup []))/\List.length (l0T s)=List.length (l0T s)/\False))))))))/\(decide (0<(↑(Int.toNat ((↑(List.length (Aa4 (10:UInt8) s)):Int)-2-(0:Int))):Int))=false->False))))))) Tryz.func110 (by kernel_rfl) (by kernel_rfl) ?_
 have hsp:=Ab1 10 s
 have hml:=As9 (s:=s)
 have hll:=Az8 s
 have hrow:∀ i,i<(mid s).length->(nth (mid s) i).length<=150:=fun i hi=>by have:=Az3 hi;omega
 have hm0:0<(mid s).length:=by omega
 have hl0:l0T s=nsR (nth (mid s) 0):=Ar7 hm0
 have h00:nth (Aa4 10 s) (Int.toNat 0+Int.toNat 0)=nth (mid s) 0:=(Ak4 hm0).symm
 have hl0n:(l0T s).length<=150:=by rw [hl0];have:=Bf7 (nth (mid s) 0);have:=hrow 0 hm0;omega
 simp only [stdS,imp_self,implies_true,and_true,h00,Ax2]
 refine ⟨Ae0 hG.len s 10 (by omega),fun _=>⟨Al8 S _ _ (by simp;omega),fun _=>⟨(Aa1 _).2 (by omega),⟨by decide,by omega,by omega⟩,fun _=>⟨fun _=>?_,fun h=>?_⟩⟩⟩⟩
 rotate_left
 ·have:=of_decide_eq_false h
  omega
 refine ⟨⟨by omega,by omega⟩,Ae0 hG.len _ 32 (by have:=hrow 0 hm0;omega),⟨by omega,by have:=Ab1 32 (nth (mid s) 0);omega,by omega⟩,fun _=>⟨⟨by have:=Ab1 32 (nth (mid s) 0);rw [Ah7];omega,At6 _,by omega,.of ⟨by omega,fun i hi=>by
       show eS (nth (Aa4 10 s) (0+i))=eS (nth (mid s) i)
       rw [Ak4 (by omega),Nat.zero_add]⟩,trivial⟩,fun k1 hk1=>?_⟩⟩
 have hnl:=Ai9 (r:=nth (mid s) 0) (j:=k1)
 have htl:=Ah7 (r:=nth (mid s) 0)
 have hsr:=Ab1 32 (nth (mid s) 0)
 have hr:=hrow 0 hm0
 refine ⟨fun h1=>?_,fun h1 hmx=>?_⟩
 ·have h1:k1<(tl (nth (mid s) 0)).length:=by simpa using h1
  exact ⟨⟨by omega,by omega⟩,Af S hG _ (List.all_eq_true.1 (hok 0 (by omega)) _ (Ab5 h1)),by omega,by omega,(Aa1 _).2 (by omega),h1,by omega,Ac5 (Ag3 h1) rfl,trivial⟩
 ·skip
  have h1:k1=(tl (nth (mid s) 0)).length:=by
   have:¬ k1<(tl (nth (mid s) 0)).length:=by simpa using h1
   omega
  subst h1
  rw [Al5,<-hl0]
  refine ⟨Al8 S _ _ (decide_eq_true (by omega)),fun _=>⟨⟨rfl,Aa8 rfl,Aa8 rfl,trivial⟩,fun k2 hk2=>⟨fun hd=>?_,fun hd _=>⟨by omega,by omega,by omega,by decide,by decide,(Aa1 _).2 (by omega),?_,fun k3 hk3=>⟨fun hc=>⟨fun h3=>?_,fun h3=>?_⟩,fun hc=>⟨fun h3=>?_,fun h3=>?_⟩⟩⟩⟩⟩⟩
  ·have hd:k2<(l0T s).length:=by simpa using hd
   exact ⟨⟨by omega,by omega⟩,Al8 S _ _ (decide_eq_true (hf2 _ (Ab5 hd))),(Aa1 _).2 (by omega),hd,by omega,trivial⟩
  ·refine ⟨.of ⟨by rw [List.length_take,Af2];omega,fun i hi=>?_⟩,Bj2 s _,trivial⟩
   have:i=0:=by omega
   subst this
   show [C.i 121 true [C.l eI (l0T s)]]=eLn (nth ((An5 (lsT s)).take 1) 0)
   rw [A39 (by omega),A97 (by omega)]
   rfl
  ·have hc:k3<b:=of_decide_eq_true hc
   have hlt:k3+1<(mid s).length:=by omega
   have hlen:=hf3 k3 hc
   have ht3:((k3:Int)+1).toNat=k3+1:=by omega
   have hrw:=hrow (k3+1) hlt
   have hlk:nth (lsT s) (k3+1)=nsR (nth (mid s) (k3+1)):=Ar7 hlt
   have hcl:=fun j=>Av6 s (k:=k3) (by omega) j
   have hll2:((An5 (lsT s)).take (k3+1)).length=k3+1:=by rw [List.length_take,Af2];omega
   have hbb:∀ j:Nat,Nat.blt j j=false:=fun j=>A09 (Nat.lt_irrefl j)
   have htl:=Ah7 (r:=nth (mid s) (k3+1))
   have hsr:=Ab1 32 (nth (mid s) (k3+1))
   simp only [ht3,hbb,cond_false]
   refine ⟨⟨by omega,by omega⟩,Ae0 hG.len _ 32 (by omega),⟨by omega,by omega,by omega⟩,fun _=>⟨⟨by omega,At6 _,trivial,trivial⟩,fun k4 hk4=>?_⟩⟩
   have hnl:=Ai9 (r:=nth (mid s) (k3+1)) (j:=k4)
   refine ⟨fun h4=>?_,fun h4 hmx _=>?_⟩
   ·have h4:k4<(tl (nth (mid s) (k3+1))).length:=by simpa using h4
    exact ⟨⟨by omega,by omega⟩,Af S hG _ (List.all_eq_true.1 (hok (k3+1) (by omega)) _ (Ab5 h4)),by omega,by omega,(Aa1 _).2 (by omega),h4,by omega,Ac5 (Ag3 h4) rfl,trivial⟩
   ·skip
    have h4:k4=(tl (nth (mid s) (k3+1))).length:=by
     have:¬ k4<(tl (nth (mid s) (k3+1))).length:=by simpa using h4
     omega
    subst h4
    rw [Al5,<-hlk]
    refine ⟨Al8 S _ _ (by rw [hlen];exact beq_self_eq_true _),fun _=>⟨⟨by rw [hlen],Aa8 rfl,Aa8 rfl,Bb1 s _ _,trivial⟩,fun k5 hk5=>⟨fun h5=>?_,fun h5=>?_⟩⟩⟩
    ·have h5:k5<(l0T s).length:=by simpa using h5
     have:=hcl k5
     exact ⟨⟨by omega,by omega⟩,⟨by omega,by omega⟩,h5,by omega,by omega,⟨by omega,by omega⟩,h5,(Aa1 _).2 (by omega),h5,by omega,B40 (by omega) _,trivial⟩
    ·have h5:k5=(l0T s).length:=by
      have:¬ k5<(l0T s).length:=by simpa using h5
      omega
     subst h5
     refine ⟨by omega,by omega,(Aa1 _).2 (by omega),hc,by omega,?_,B41 s _ _,trivial⟩
     refine Ak2 (by rw [Af2];omega) ?_
     rw [A98 (by omega)]
     rfl
  ·exfalso
   have hc:k3<b:=of_decide_eq_true hc
   have h3:¬ (k3:Int)+1<((mid s).length:Int):=of_decide_eq_false h3
   omega
  ·have hc:k3=b:=by have:¬ k3<b:=of_decide_eq_false hc;omega
   subst hc
   have hlt:k3+1<(mid s).length:=hb
   have ht3:((k3:Int)+1).toNat=k3+1:=by omega
   have hrw:=hrow (k3+1) hlt
   have hlk:nth (lsT s) (k3+1)=nsR (nth (mid s) (k3+1)):=Ar7 hlt
   have hcl:=fun j=>Av6 s (k:=k3) (by omega) j
   have hll2:((An5 (lsT s)).take (k3+1)).length=k3+1:=by rw [List.length_take,Af2];omega
   have hbb:∀ j:Nat,Nat.blt j j=false:=fun j=>A09 (Nat.lt_irrefl j)
   have htl:=Ah7 (r:=nth (mid s) (k3+1))
   have hsr:=Ab1 32 (nth (mid s) (k3+1))
   simp only [ht3,hbb,cond_false]
   refine ⟨⟨by omega,by omega⟩,Ae0 hG.len _ 32 (by omega),⟨by omega,by omega,by omega⟩,fun _=>⟨⟨by omega,At6 _,trivial,trivial⟩,fun k4 hk4=>?_⟩⟩
   have hnl:=Ai9 (r:=nth (mid s) (k3+1)) (j:=k4)
   refine ⟨fun h4=>?_,fun h4 hmx _=>?_⟩
   ·have h4:k4<(tl (nth (mid s) (k3+1))).length:=by simpa using h4
    exact ⟨⟨by omega,by omega⟩,Af S hG _ (List.all_eq_true.1 hok2 _ (Ab5 h4)),by omega,by omega,(Aa1 _).2 (by omega),h4,by omega,Ac5 (Ag3 h4) rfl,trivial⟩
   ·skip
    have h4:k4=(tl (nth (mid s) (k3+1))).length:=by
     have:¬ k4<(tl (nth (mid s) (k3+1))).length:=by simpa using h4
     omega
    subst h4
    rw [Al5,<-hlk]
    refine ⟨B53 S _ _ (beq_eq_false_iff_ne.2 fun hh=>hne (by omega)),trivial⟩
  ·exfalso
   have h3:¬ (k3:Int)+1<((mid s).length:Int):=of_decide_eq_false h3
   omega
theorem first_bad (p:Nat->Bool):∀ n,(∀ i,i<n->p i=true)∨∃ b,b<n/\p b=false/\∀ i,i<b->p i=true
 |0=>.inl fun _ h=>absurd h (Nat.not_lt_zero _)
 |n+1=>by
  rcases first_bad p n with h|⟨b,h1,h2,h3⟩
  ·cases hp:p n with
   |true=>
    refine .inl fun i hi=>?_
    rcases Nat.lt_or_ge i n with h4|h4
    ·exact h i h4
    ·rw [show i=n by omega];exact hp
   |false=>exact .inr ⟨n,Nat.lt_succ_self n,hp,h⟩
  ·exact .inr ⟨b,by omega,h2,h3⟩
theorem Dw5 {ls:List (List Int)} (h0:0<ls.length) (h1:0<(nth ls 0).length) (h2:∀ n∈nth ls 0,0<=n) (h3:∀ k,k+1<ls.length->(nth ls (k+1)).length=(nth ls 0).length):Cg7 ls=true:=by
 cases ls with
 |nil=>cases h0
 |cons l r=>
  unfold Cg7
  rw [Bool.and_eq_true,Bool.and_eq_true,decide_eq_true_eq,List.all_eq_true,List.all_eq_true]
  refine ⟨h1,fun n hn=>decide_eq_true (h2 n hn),fun x hx=>?_⟩
  obtain ⟨k,hk,rfl⟩:=Am2 hx
  have:=h3 k (by simpa using hk)
  exact beq_iff_eq.2 this
theorem B0 {Gl} (S:SP Gl) (hG:GlOK Gl) (s:List UInt8) (hs:s.length<=150) (h:Bd s=none):∃ q,CO Gl 110 [str s] (.pan (.iface 135 (.agg #[.string q]))):=by
 rcases Nat.lt_or_ge (Aa4 10 s).length 3 with hR|hR
 ·exact ⟨_,Cs6 S s hG hs hR⟩
 ·have hml:=As9 (s:=s)
  have hll:=Az8 s
  have hl0:l0T s=nsR (nth (mid s) 0):=Ar7 (by omega)
  cases h0:okR (nth (mid s) 0) with
  |false=>exact ⟨_,Cs7 S s hG hs hR h0⟩
  |true=>
   rcases Nat.eq_zero_or_pos (l0T s).length with hz|hz
   ·exact ⟨_,Ce7 S s hG hs hR h0 hz⟩
   ·cases hn:(l0T s).all (fun n:Int=>decide (0<=n)) with
    |false=>exact ⟨_,Ce6 S s hG hs hR h0 hz hn⟩
    |true=>
     have hf2:∀ n∈l0T s,0<=n:=fun n h=>of_decide_eq_true (List.all_eq_true.1 hn n h)
     rcases first_bad (fun k=>okR (nth (mid s) (k+1))&&((nth (lsT s) (k+1)).length==(l0T s).length)) ((mid s).length - 1) with hg|⟨b,hb,hbad,hg⟩
     ·have hg1:∀ i,i<(mid s).length->okR (nth (mid s) i)=true:=fun i hi=>by
       cases i with
       |zero=>exact h0
       |succ i=>have:=hg i (by omega);rw [Bool.and_eq_true] at this;exact this.1
      have hall:(mid s).all okR=true:=List.all_eq_true.2 fun r hr=>by
       obtain ⟨i,hi,rfl⟩:=Am2 hr
       exact hg1 i hi
      have hf:Cg7 (lsT s)=true:=Dw5 (by omega) hz hf2 fun k hk=>by
       have:=hg k (by omega)
       rw [Bool.and_eq_true] at this
       exact eq_of_beq this.2
      refine ⟨_,Cs5 S s hG hs hR hall hf fun ht=>?_⟩
      unfold Bd at h
      have ht':Ae8 (Ax7 ((mid s).map nsR))=s:=ht
      have hf':Cg7 ((mid s).map nsR)=true:=hf
      rw [hall,hf',ht',decide_eq_true hR,beq_self_eq_true] at h
      cases h
     ·have hok:∀ i,i<b+1->okR (nth (mid s) i)=true:=fun i hi=>by
       cases i with
       |zero=>exact h0
       |succ i=>have:=hg i (by omega);rw [Bool.and_eq_true] at this;exact this.1
      have hf3:∀ k,k<b->(nth (lsT s) (k+1)).length=(l0T s).length:=fun k hk=>by
       have:=hg k hk
       rw [Bool.and_eq_true] at this
       exact eq_of_beq this.2
      cases ho:okR (nth (mid s) (b+1)) with
      |false=>exact ⟨_,Ce9 S s hG hs b hR (by omega) hok hz hf2 hf3 ho⟩
      |true=>
       rw [ho,Bool.true_and] at hbad
       exact ⟨_,Ce8 S s hG hs b hR (by omega) hok hz hf2 hf3 ho (beq_eq_false_iff_ne.1 hbad)⟩
theorem Aw5 {Gl} (S:SP Gl) (hG:GlOK Gl) (s:List UInt8) (hs:s.length<=150) {x:Sheet} (h:Bd s=some x):CO Gl 110 [str s] (.ret (Aa6 x)):=by
 obtain ⟨h1,h2,h3,h4,rfl⟩:=Bc9 h
 exact C11 S s hG hs h1 h2 h3 h4
def As7 (s:List UInt8):Env:=[(2,FAR,live),(FAR+3,0,str s),(2,FAR+1,live),(FAR+4,0,.d (.c Av9)),(FAR+4,1,.d (.c Av9))]
def A37 (x:Sheet):Env:=[(FAR+4,0,.d (.c (.l Ac2 x.cols))),(FAR+4,1,L eI x.errs)]
theorem Dt6 {Gl} (S:SP Gl) (s:List UInt8) (x:Sheet) (hc:CO Gl 110 [str s] (.ret (Aa6 x))):Does Tryz.prog Y Gl yd0 109 [.addr FAR 0,.addr (FAR+1) 0] (As7 s) (.ret (.tup [])) (A37 x):=by
 refine Co2 S (.r (.ret (Aa6 x)) .nil) Tryz.func109 (by kernel_rfl) (CO Gl 110 [str s] (.ret (Aa6 x))/\True/\(sR Ac2 x.1)/\(sR eI x.2)/\bs s=bs s) (by kernel_rfl) ?_
 simp only [stdS,imp_self,implies_true,and_true]
 exact ⟨hc,trivial⟩
theorem Df2 {Gl} (S:SP Gl) (s:List UInt8) (q:ByteArray) (hc:CO Gl 110 [str s] (.pan (.iface 135 (.agg #[.string q])))):Does Tryz.prog Y Gl yd0 109 [.addr FAR 0,.addr (FAR+1) 0] (As7 s) (.pan (.iface 135 (.agg #[.string q]))) []:=by
 refine Cu6 S (let A0:=(Res.pan (Value.iface (135:TypeId) (Value.agg #[Value.string q])));((.r A0 .nil),(CO Gl 110 [str s] A0/\Value.iface (135:Nat) (Value.agg (Array.mk [Value.string q]))=Value.iface (135:Nat) (Value.agg (Array.mk [Value.string q]))/\bs s=bs s/\Value.slice none 0 0=Value.slice none 0 0/\Value.slice none 0 0=Value.slice none 0 0))) Tryz.func109 (by kernel_rfl) (by kernel_rfl) ?_
 simp only [stdS,imp_self,implies_true,and_true]
 exact ⟨hc,trivial⟩
theorem readA {Gl} (S:SP Gl) (s:List UInt8) (x:Sheet) (hc:CO Gl 110 [str s] (.ret (Aa6 x))):Does Tryz.prog Y Gl yd0 74 [.fn 109 [] [.addr FAR 0,.addr (FAR+1) 0]] (As7 s) (.ret (I 0)) (A37 x):=
 An (fst:=[]) rfl rfl (Dt6 S s x hc) .ok
theorem readAe {Gl} (S:SP Gl) (s:List UInt8) (q:ByteArray) (hc:CO Gl 110 [str s] (.pan (.iface 135 (.agg #[.string q])))):Does Tryz.prog Y Gl yd0 74 [.fn 109 [] [.addr FAR 0,.addr (FAR+1) 0]] (As7 s) (.ret (I 4)) []:=
 An (fst:=[]) rfl rfl (Df2 S s q hc) (.text q)
theorem Dt2 {Gl} (S:SP Gl) (s:List UInt8) (hs:150<s.length):CO Gl 66 [str s] (.ret (.tup [.agg (Ac0 ⟨[],[]⟩),.c (Ci 3)])):=by
 refine Ag5 S (.br .nil .nil) Tryz.func66 (by kernel_rfl) ((decide (150<(↑(ByteArray.size (bs s)):Int))=true->(0:Nat)=(0:Nat)/\(0:Nat)=(0:Nat)/\(3:Int)=3)/\(decide (150<(↑(ByteArray.size (bs s)):Int))=false->False)) (by kernel_rfl) ?_
 simp only [stdS,imp_self,implies_true,and_true,Ac]
 intro h;simp at h;omega
theorem Dt3 {Gl} (S:SP Gl) (s:List UInt8) (q:ByteArray) (hs:s.length<=150) (hc:CO Gl 110 [str s] (.pan (.iface 135 (.agg #[.string q])))):CO Gl 66 [str s] (.ret (.tup [.agg (Ac0 ⟨[],[]⟩),.c (Ci 4)])):=by
 refine Ac4 S (let A0:=[T.fn (109:FuncId) [] [T.addr FAR (0:Nat),T.addr (FAR+1) (0:Nat)]];((.br .nil (.w [(nat_lit 100000,nat_lit 1),(nat_lit 100001,nat_lit 4)] A0 (As7 s) (.ret (I 4)) [] (.tt .nil))),((decide (150<(↑(ByteArray.size (bs s)):Int))=true->(0:Nat)=(0:Nat)/\(0:Nat)=(0:Nat)/\(3:Int)=4)/\(decide (150<(↑(ByteArray.size (bs s)):Int))=false->(109:Nat)=(109:Nat)/\bs s=bs s/\Value.slice none 0 0=Value.slice none 0 0/\Value.slice none 0 0=Value.slice none 0 0/\Does Tryz.prog Y Gl yd0 (74:FuncId) A0 (As7 s) (.ret (I 4)) []/\true=true/\(0:Nat)=(0:Nat)/\(0:Nat)=(0:Nat)/\(4:Int)=4)))) Tryz.func66 (by kernel_rfl) (by kernel_rfl) ?_
 simp only [stdS,imp_self,implies_true,and_true,Ac]
 exact ⟨fun h=>by simp at h;omega,fun _=>⟨readAe S s q hc,trivial⟩⟩
theorem Dt4 {Gl} (S:SP Gl) (s:List UInt8) (x:Sheet) (hs:s.length<=150) (hc:CO Gl 110 [str s] (.ret (Aa6 x))) (hb:x.ok=false):CO Gl 66 [str s] (.ret (.tup [.agg (Ac0 ⟨[],[]⟩),.c (Ci 2)])):=by
 refine Ac4 S (let A0:=[T.fn (109:FuncId) [] [T.addr FAR (0:Nat),T.addr (FAR+1) (0:Nat)]];((.br .nil (.w [(nat_lit 100000,nat_lit 1),(nat_lit 100001,nat_lit 4)] A0 (As7 s) (.ret (I 0)) (A37 x) (.ff (.r (.ret (B false)) (.tt .nil))))),((decide (150<(↑(ByteArray.size (bs s)):Int))=true->(0:Nat)=(0:Nat)/\(0:Nat)=(0:Nat)/\(3:Int)=2)/\(decide (150<(↑(ByteArray.size (bs s)):Int))=false->(109:Nat)=(109:Nat)/\bs s=bs s/\Value.slice none 0 0=Value.slice none 0 0/\Value.slice none 0 0=Value.slice none 0 0/\Does Tryz.prog Y Gl yd0 (74:FuncId) A0 (As7 s) (.ret (I 0)) (A37 x)/\false=false/\CO Gl 81 [Aa6 x] (.ret (B false))/\true=true/\(0:Nat)=(0:Nat)/\(0:Nat)=(0:Nat)/\(2:Int)=2)))) Tryz.func66 (by kernel_rfl) (by kernel_rfl) ?_
 simp only [stdS,imp_self,implies_true,and_true,Ac]
 exact ⟨fun h=>by simp at h;omega,fun _=>⟨readA S s x hc,Di0 S x hb,trivial⟩⟩
theorem Dn0 {Gl} (S:SP Gl) (s:List UInt8) (x:Sheet) (hs:s.length<=150) (hc:CO Gl 110 [str s] (.ret (Aa6 x))) (hb:x.ok=true):CO Gl 66 [str s] (.ret (.tup [.agg (Ac0 x),.c (Ci 0)])):=by
 refine Ac4 S (let A0:=[T.fn (109:FuncId) [] [T.addr FAR (0:Nat),T.addr (FAR+1) (0:Nat)]];((.br .nil (.w [(nat_lit 100000,nat_lit 1),(nat_lit 100001,nat_lit 4)] A0 (As7 s) (.ret (I 0)) (A37 x) (.ff (.r (.ret (B true)) (.ff .nil))))),((decide (150<(↑(ByteArray.size (bs s)):Int))=true->x.1.length=(0:Nat)/\x.2.length=(0:Nat)/\(3:Int)=0)/\(decide (150<(↑(ByteArray.size (bs s)):Int))=false->(109:Nat)=(109:Nat)/\bs s=bs s/\Value.slice none 0 0=Value.slice none 0 0/\Value.slice none 0 0=Value.slice none 0 0/\Does Tryz.prog Y Gl yd0 (74:FuncId) A0 (As7 s) (.ret (I 0)) (A37 x)/\false=false/\CO Gl 81 [Aa6 x] (.ret (B true))/\false=false/\(sR Ac2 x.1)/\(sR eI x.2)/\(0:Int)=0)))) Tryz.func66 (by kernel_rfl) (by kernel_rfl) ?_
 simp only [stdS,imp_self,implies_true,and_true,Ac]
 exact ⟨fun h=>by simp at h;omega,fun _=>⟨readA S s x hc,Ak S x hb,trivial⟩⟩
theorem C05 {Gl} (S:SP Gl) (hG:GlOK Gl) (s:List UInt8):CO Gl 66 [str s] (.ret (.tup [.agg (Ac0 (Cl s)),.c (Ci (Cl0 s))])):=by
 unfold Cl0 Cl
 cases hl:decide (150<s.length) with
 |true=>exact Dt2 S s (by simpa using hl)
 |false=>
  have hl:s.length<=150:=by simp at hl;omega
  cases hp:Bd s with
  |none=>
   obtain ⟨q,hq⟩:=B0 S hG s hl hp
   exact Dt3 S s q hl hq
  |some x=>
   cases hb:x.ok with
   |true=>
    have:=Dn0 S s x hl (Aw5 S hG s hl hp) hb
    simpa [hb] using this
   |false=>
    have:=Dt4 S s x hl (Aw5 S hG s hl hp) hb
    simpa [hb] using this
open Go Go.Proofs Go.Vc
def exA:Sheet:=⟨[[123,45,-60,7],[132,45,60,7]],[1,1]⟩
def exB:Sheet:=⟨[[123,45,-60,7],[132,45,60,7],[123,45,60,7]],[1,1,0]⟩
def exD:Sheet:=⟨[[7,7]],[1]⟩
def exT:List UInt8:=[104,97,110,100,115,32,48,10,114,111,119,32,48,10,101,110,100,32,49,51,49,10]
theorem Bg4:exA.ok=true:=by decide +kernel
theorem exB_ok:exB.ok=true:=by decide +kernel
theorem Dp4:exD.ok=true:=by decide +kernel
theorem exE:errOK [132,45,-60,7] [123,45,60,7]=true/\Bs8 [132,45,-60,7] [123,45,60,7]=[⟨0,1⟩,⟨2,3⟩]:=by decide +kernel
theorem C70:Da4 exA=[0,2]:=by decide +kernel
theorem Cu7:agrees exA [123,45,60,7]=true:=by decide +kernel
theorem Aq4:0<(Aa2 exA).length/\Ba2 (Aa2 exA)=[123,45,60,7]:=by decide +kernel
theorem Dj:Dr3 exA (Aa2 exA)=[1,3]:=by decide +kernel
theorem C7:Cn1 exA=2:=by decide +kernel
theorem C69:Ay5 exA (Aa2 exA) 0=[2,1,2,1]:=by decide +kernel
theorem Dj0:Av8 exA (Aa2 exA) 0 1 4=[]:=by decide +kernel
theorem Ca1:0<(Aa2 exB).length/\Bg1 exB (Aa2 exB)=[3,3,1]:=by decide +kernel
theorem Ba4:0<(Aa2 exD).length/\Bj7 (Aa2 exD) 1=[-7,7,17,70,107]/\isOpen exD (Aa2 exD) 1=false/\isOpen exD (Aa2 exD) 0=true:=by decide +kernel
theorem Di9:Ab6 ⟨[[0]],[0]⟩=exT:=by decide +kernel
open Go Go.Vc
def litF (l:List Int) (i:Nat):List C:=(l.map fun x=>List.map C.dem [C.v (Value.int IntKind.i64 x)]).getD i []
theorem litE (l:List Int):SEqE l.length (litF l) l.length (fun i=>eI (nth l i)):=⟨rfl,fun i hi=>by
 show litF l i=eI (nth l i)
 unfold litF
 rw [List.getD_eq_getElem?_getD,List.getElem?_map,Aj3 hi,List.getElem?_eq_getElem hi]
 rfl⟩
theorem Bu9 (l:List Int):SEq l.length (litF l) l.length (fun i=>eI (nth l i)):=.of (litE l)
theorem litC (g:Tag) (l:List Int):Db5 (List.map C.dem [C.s g l.length (litF l)]) (Ac2 l):=⟨.inr (.inr ⟨_,_,_,_,_,_,rfl,rfl,litE l⟩),trivial⟩
theorem exA70 {Gl} (S:SP Gl)  :CO Gl 70 [] (.ret (Aa6 exA)):=by
 refine Ac4 S (let A0:=[[(123:Int),(45:Int),(-60:Int),(7:Int)],[(132:Int),(45:Int),(60:Int),(7:Int)]];((.nil),((SEq (2:Nat) (fun i=>List.getD [List.map C.dem [C.s (Tag.t (1:Nat)) (4:Nat) fun i=>List.getD [List.map C.dem [C.v (Value.int IntKind.i64 (123:Int))],List.map C.dem [C.v (Value.int IntKind.i64 (45:Int))],List.map C.dem [C.v (Value.int IntKind.i64 (-60:Int))],List.map C.dem [C.v (Value.int IntKind.i64 (7:Int))]] i []],List.map C.dem [C.s (Tag.t (2:Nat)) (4:Nat) fun i=>List.getD [List.map C.dem [C.v (Value.int IntKind.i64 (132:Int))],List.map C.dem [C.v (Value.int IntKind.i64 (45:Int))],List.map C.dem [C.v (Value.int IntKind.i64 (60:Int))],List.map C.dem [C.v (Value.int IntKind.i64 (7:Int))]] i []]] i []) (List.length A0) fun i=>Ac2 (nth A0 i))/\SEq (2:Nat) (fun i=>List.getD [List.map C.dem [C.v (Value.int IntKind.i64 (1:Int))],List.map C.dem [C.v (Value.int IntKind.i64 (1:Int))]] i []) (List.length [(1:Int),(1:Int)]) fun i=>eI (nth [(1:Int),(1:Int)] i)))) Tryz.func70 (by kernel_rfl) (by kernel_rfl) ?_
 dsimp only
 refine ⟨⟨rfl,fun i hi=>?_⟩,Bu9 [1,1]⟩
 match i,hi with
 |0,_=>exact .inr (litC (.t 1) [123,45,-60,7])
 |1,_=>exact .inr (litC (.t 2) [132,45,60,7])
theorem exD71 {Gl} (S:SP Gl)  :CO Gl 71 [] (.ret (Aa6 exD)):=by
 refine Ag5 S (.nil) Tryz.func71 (by kernel_rfl) ((SEq (1:Nat) (fun i=>List.getD [List.map C.dem [C.s (Tag.t (1:Nat)) (2:Nat) fun i=>List.getD [List.map C.dem [C.v (Value.int IntKind.i64 (7:Int))],List.map C.dem [C.v (Value.int IntKind.i64 (7:Int))]] i []]] i []) (List.length [[(7:Int),(7:Int)]]) fun i=>Ac2 (nth [[(7:Int),(7:Int)]] i))/\SEq (1:Nat) (fun i=>List.getD [List.map C.dem [C.v (Value.int IntKind.i64 (1:Int))]] i []) (List.length [(1:Int)]) fun i=>eI (nth [(1:Int)] i)) (by kernel_rfl) ?_
 refine ⟨⟨rfl,fun i hi=>?_⟩,Bu9 [1]⟩
 match i,hi with
 |0,_=>exact .inr (litC (.t 1) [7,7])
def shUp (s:Sheet):Nat:=Ap0 (fun l:List Int=>decide (l.length<=8)) (s.cols.take 5)
def shortB (s:Sheet):Bool:=(s.cols.take 5).all (fun l=>decide (l.length<=8))&&(decide (s.cols.length<=5)&&decide (s.errs.length<=5))
theorem Dr7 {Gl} (S:SP Gl) (s:Sheet):CO Gl 30 [Aa6 s] (.ret (B (shortB s))):=by
 refine Ac4 S (let A0:=(eqB (decide ((s.1.length:Int)<=5)) true=true->eqB (decide ((s.1.length:Int)<=5)) true=true);let A1:=fun (k0:Nat)=>(bif decide ((k0:Int)<(s.1.length:Int)) then decide ((k0:Int)<5) else false);((.loop (shUp s) (fun k=>v 3 (I k)::v 1 (ad 1)::bx 1 (Ac0 s)) fun k0=>.br (.br .nil .nil) .nil),((0=(↑(0:Nat):Int)/\(sR Ac2 s.1)/\sR eI s.2)/\∀ (k0:Nat),k0<=shUp s->s.1.length<=maxLen->(eqB (decide ((k0:Int)<(s.1.length:Int))) true=true->eqB (decide ((k0:Int)<(s.1.length:Int))) true=true)/\(decide ((k0:Int)<(s.1.length:Int))=true->eqB (decide ((k0:Int)<(s.1.length:Int))) true=true)/\((A1 k0)=true->(0<=(k0:Int)/\(k0:Int)<(s.1.length:Int))/\(List.length (nth s.1 k0)<=maxLen->(decide (8<(List.length (nth s.1 k0):Int))=true->false=shortB s)/\(decide (8<(List.length (nth s.1 k0):Int))=false->iR ((k0:Int)+1)/\k0<shUp s/\(k0:Int)+1=(↑(k0+1):Int)/\(sR Ac2 s.1)/\sR eI s.2)))/\((A1 k0)=false->s.1.length<=maxLen->A0/\A0/\((eqB (decide ((s.1.length:Int)<=5)) true=true->s.2.length<=maxLen)->A0/\(decide ((s.1.length:Int)<=5)=true->eqB (decide ((s.1.length:Int)<=5)) true=true)/\(bif decide ((s.1.length:Int)<=5) then decide ((s.2.length:Int)<=5) else false)=shortB s))))) Tryz.func30 (by kernel_rfl) (by kernel_rfl) ?_
 have htl:(s.cols.take 5).length=min 5 s.cols.length:=List.length_take
 have hat:∀ k,k<(s.cols.take 5).length->nth (s.cols.take 5) k=nth s.cols k:=fun k hk=>A39 (by omega)
 have hle:shUp s<=(s.cols.take 5).length:=Ay6
 simp only [stdS,imp_self,implies_true,and_true]
 refine fun k hk hm=>⟨fun hc=>?_,fun hc=>?_⟩
 ·rw [Bool.and_eq_true,decide_eq_true_eq,decide_eq_true_eq] at hc
  have hlt:k<(s.cols.take 5).length:=by omega
  refine ⟨by omega,fun _=>⟨fun h=>?_,fun h=>⟨(Aa1 _).2 (by omega),Ap hk hlt ?_,by omega,trivial⟩⟩⟩
  ·have h:=of_decide_eq_true h
   unfold shortB
   rw [An1 (p:=fun l:List Int=>decide (l.length<=8)) (k:=k) hlt (by rw [hat k hlt];exact decide_eq_false (by omega))]
   rfl
  ·have h:=of_decide_eq_false h
   rw [hat k hlt]
   exact decide_eq_true (by omega)
 ·have hge:(s.cols.take 5).length<=k:=by
   rw [Bool.and_eq_false_iff,decide_eq_false_iff_not,decide_eq_false_iff_not] at hc
   omega
  unfold shortB
  rw [Ai3 (p:=fun l:List Int=>decide (l.length<=8)) (l:=s.cols.take 5) (by unfold shUp at hk;omega),Bool.true_and]
  intro _ _
  have e:∀ n m:Nat,decide ((n:Int)<=(m:Int))=decide (n<=m):=fun n m=>by rw [decide_eq_decide];omega
  have e5:=e s.cols.length 5
  have e6:=e s.errs.length 5
  rw [<-e5,<-e6]
  rfl
theorem Dt {Gl} (S:SP Gl) (s:Sheet):CO Gl 44 [Aa6 s] (.ret (B (shortB s&&s.ok))):=by
 refine Ag5 S (.r (.ret (B (shortB s))) (.r (.ret (B (Sheet.ok s))) .nil)) Tryz.func44 (by kernel_rfl) (CO Gl 30 [Aa6 s] (.ret (B (shortB s)))/\(eqB (shortB s) true=true->eqB (shortB s) true=true)/\(eqB (shortB s) true=true->CO Gl 32 [Aa6 s] (.ret (B (Sheet.ok s))))/\(shortB s=true->eqB (shortB s) true=true)/\(bif shortB s then Sheet.ok s else false)=(shortB s&&Sheet.ok s)) (by kernel_rfl) ?_
 exact ⟨Dr7 S s,fun h=>h,fun _=>Dr8 S s,fun h=>by rw [h];rfl,by cases shortB s<;>rfl⟩
set_option maxRecDepth 100000
theorem Bu (a:List Int):Ah8 (·==·) a a=true:=by
 unfold Ah8
 rw [beq_self_eq_true,Bool.true_and,List.all_eq_true]
 intro i _
 exact beq_self_eq_true _
theorem B90 {Gl} (S:SP Gl) (a:List Int) (n:Nat) (f:Nat->List C) (h:SEq n f a.length fun i=>eI (nth a i)):CO Gl 34 [L eI a,.d (.c (.s .n n f))] (.ret (B true)):=by
 have h1:=Cz1 S a a
 rw [Bu] at h1
 exact h1.args ⟨(A50 _ _).2 trivial,h⟩
theorem Cn6 {Gl} (S:SP Gl) (a:List Int) (n:Nat) (f:Nat->List C) (h:SEq n f a.length fun i=>eI (nth a i)):CO Gl 54 [L eI a,.d (.c (.s .n n f))] (.ret (B true)):=by
 have h1:=Ds5 S a a
 rw [Bu] at h1
 exact h1.args ⟨(A50 _ _).2 trivial,h⟩
def Be:List Err:=[⟨0,1⟩,⟨2,3⟩]
theorem Do2 {Gl} (S:SP Gl) (f:Nat->List C) (h:SEq 2 f Be.length fun i=>Ay (nth Be i)):CO Gl 25 [L Ay Be,.d (.c (.s .n 2 f))] (.ret (B true)):=
 (show CO Gl 25 [L Ay Be,L Ay Be] (.ret (B true)) from B61 S Be Be).args ⟨(A50 _ _).2 trivial,h⟩
theorem kErr {Gl} (S:SP Gl) (f g:Nat->List C) (hf:SEq 4 f [(132:Int),45,-60,7].length fun i=>eI (nth [(132:Int),45,-60,7] i)) (hg:SEq 4 g [(123:Int),45,60,7].length fun i=>eI (nth [(123:Int),45,60,7] i)):CO Gl 22 [.d (.c (.s .n 4 f)),.d (.c (.s .n 4 g))] (.ret (.tup [.c (.l Ay Be),.c (Ci 0)])):=by
 have h1:=Co6 S [132,45,-60,7] [123,45,60,7] (by decide) (by decide) rfl exE.1
 rw [exE.2] at h1
 exact h1.args ⟨hf,hg⟩
theorem Do7 {Gl} (S:SP Gl):CO Gl 53 [Aa6 exA] (.ret (.tup [.c (.l eI [0,2]),.c (Ci 0)])):=by
 have h1:=Dy9 S exA Bg4
 rw [C70] at h1
 exact h1
theorem C50 {Gl} (S:SP Gl) (f:Nat->List C) (hf:SEq 4 f [(123:Int),45,60,7].length fun i=>eI (nth [(123:Int),45,60,7] i)):CO Gl 28 [Aa6 exA,.d (.c (.s .n 4 f))] (.ret (.tup [.c (.v (.bool true)),.c (Ci 0)])):=by
 have h1:=Dl9 S exA [123,45,60,7] Bg4 (by decide) rfl
 rw [Cu7] at h1
 exact h1.args ⟨(A50 _ _).2 trivial,(A50 _ _).2 trivial,hf⟩
theorem Do6 {Gl} (S:SP Gl):CO Gl 31 [Aa6 exA] (.ret (.tup [.c (.l eI [123,45,60,7]),.c (Ci 0)])):=by
 have h1:=Dw6 S exA Bg4 Aq4.1
 rw [Aq4.2] at h1
 exact h1
theorem kVals {Gl} (S:SP Gl):CO Gl 37 [Aa6 exD,I 1] (.ret (.tup [.c (.l eI [-7,7,17,70,107]),.c (Ci 0)])):=by
 have h1:=Cj S exD 1 Dp4 Ba4.1 (by decide)
 rw [Ba4.2.2.1,Ba4.2.1] at h1
 exact h1
theorem kOpen {Gl} (S:SP Gl):CO Gl 37 [Aa6 exD,I 0] (.ret (.tup [.c (.l eI []),.c (Ci 8)])):=by
 have h1:=Cj S exD 0 Dp4 Ba4.1 (by decide)
 rw [Ba4.2.2.2] at h1
 exact h1
theorem kSure {Gl} (S:SP Gl):CO Gl 38 [Aa6 exA] (.ret (.tup [.c (.l eI [1,3]),.c (Ci 0)])):=by
 have h1:=sure38 S exA Bg4 Aq4.1
 rw [Dj] at h1
 exact h1
theorem Ca2:C32 exA=0/\C33 exA=0:=by decide +kernel
theorem kNext {Gl} (S:SP Gl):CO Gl 39 [Aa6 exA] (.ret (.tup [.c (Ci 0),.c (Ci 0)])):=by
 have h1:=next39 S exA Bg4 Aq4.1
 rw [Ca2.1,Ca2.2] at h1
 exact h1
theorem Do4 {Gl} (S:SP Gl):CO Gl 29 [Aa6 exA] (.ret (.tup [.c (Ci 2),.c (Ci 0)])):=by
 have h1:=Dv3 S exA Bg4 Aq4.1
 rw [C7] at h1
 exact h1
theorem Do1 {Gl} (S:SP Gl):CO Gl 48 [Aa6 exA,I 0] (.ret (.tup [.c (.l eI [2,1,2,1]),.c (Ci 0)])):=by
 have h1:=Dq0 S exA 0 Bg4 Aq4.1 (by decide)
 rw [C69] at h1
 exact h1
theorem Do5 {Gl} (S:SP Gl):CO Gl 49 [Aa6 exB] (.ret (.tup [.c (.l eI [3,3,1]),.c (Ci 0)])):=by
 have h1:=Dw1 S exB exB_ok Ca1.1
 rw [Ca1.2] at h1
 exact h1
theorem kBoth {Gl} (S:SP Gl):CO Gl 57 [Aa6 exA,I 0,I 1] (.ret (.tup [.c (.l eI []),.c (Ci 0)])):=by
 have h1:=both57 S exA 0 1 Bg4 Aq4.1 (by decide) (by decide) (by decide)
 rw [show rows exA=4 from rfl,Dj0] at h1
 exact h1
def exS:Sheet:=⟨[[0]],[0]⟩
theorem Dp3:exS.ok=true:=by decide +kernel
theorem C68:Bd exT=some exS:=by decide +kernel
theorem kRead {Gl} (S:SP Gl) (hG:GlOK Gl):CO Gl 66 [str exT] (.ret (.tup [.agg (Ac0 exS),.c (Ci 0)])):=
 Dn0 S exT exS (by decide) (Aw5 S hG exT (by decide) C68) Dp3
theorem Do3 {Gl} (S:SP Gl):CO Gl 67 [Aa6 exS] (.ret (str exT)):=by
 have h1:=Dt8 S exS (Dn4 Dp3)
 rw [show Ab6 exS=exT from Di9] at h1
 exact h1
theorem Ai0 {Gl} (S:SP Gl) (hG:GlOK Gl) (hB:CO Gl 72 [] (.ret (Aa6 exB))):CO Gl 21 [] (.ret (B true)):=by
 refine Ac4 S (let A0:=(D.c (C.s Tag.n (4:Nat) fun i=>List.getD [List.map C.dem [C.v (Value.int IntKind.i64 (123:Int))],List.map C.dem [C.v (Value.int IntKind.i64 (45:Int))],List.map C.dem [C.v (Value.int IntKind.i64 (60:Int))],List.map C.dem [C.v (Value.int IntKind.i64 (7:Int))]] i []));let A1:=(Aa6 exA);let A2:=(Value.int IntKind.i64 (1:Int));let A3:=(Value.int IntKind.i64 (2:Int));let A4:=(Value.int IntKind.i64 (3:Int));let A5:=[D.c (C.l eI [(-7:Int),(7:Int),(17:Int),(70:Int),(107:Int)]),D.c (Ci 0)];let A6:=[D.c (C.l eI [(123:Int),(45:Int),(60:Int),(7:Int)]),D.c (Ci 0)];let A7:=[D.c (C.l eI [(2:Int),(1:Int),(2:Int),(1:Int)]),D.c (Ci 0)];let A8:=[D.c (C.l eI [(3:Int),(3:Int),(1:Int)]),D.c (Ci 0)];((.r (.ret (.tup [D.c (C.l Ay Be),D.c (Ci 0)])) (.r (.ret A1) (.r (.ret (.tup [D.c (C.l eI [(0:Int),(2:Int)]),D.c (Ci 0)])) (.r (.ret A1) (.r (.ret (.tup [D.c (C.v (Value.bool true)),D.c (Ci 0)])) (.r (.ret A1) (.r (.ret (.tup A6)) (.r (.ret (Aa6 exD)) (.r (.ret (.tup A5)) (.r (.ret A1) (.r (.ret (.tup [D.c (C.l eI [(1:Int),(3:Int)]),D.c (Ci 0)])) (.r (.ret A1) (.r (.ret (.tup [D.c (Ci 0),D.c (Ci 0)])) (.r (.ret A1) (.r (.ret (.tup [D.c (Ci 2),D.c (Ci 0)])) (.r (.ret A1) (.r (.ret (.tup A7)) (.r (.ret (Aa6 exB)) (.r (.ret (.tup A8)) (.r (.ret A1) (.r (.ret (.tup [D.c (C.l eI []),D.c (Ci 0)])) (.r (.ret (.tup [D.agg (Ac0 exS),D.c (Ci 0)])) (.r (.ret (Aa6 exD)) (.r (.ret (.tup [D.c (C.l eI []),D.c (Ci 8)])) (.sure 99 (.sure 100 (.sure 103 (.sure 104 (.sure 107 (.sure 108 (.sure 111 (.sure 112 (.sure 115 (.sure 116 (.sure 119 (.sure 120 (.sure 123 (.sure 124 (.sure 127 (.sure 128 (.sure 131 (.sure 132 (.sure 135 (.sure 136 (.sure 139 (.sure 140 (.sure 143 (.sure 144 (.ff (.r (.ret (B true)) (.sure 153 (.sure 154 (.sure 155 (.r (.ret (B true)) (.sure 156 (.sure 159 (.sure 160 (.sure 163 (.sure 164 (.sure 165 (.r (.ret (B true)) (.sure 166 (.sure 169 (.sure 170 (.sure 171 (.r (.ret (B true)) (.sure 172 (.sure 175 (.sure 176 (.sure 177 (.r (.ret (B true)) (.sure 178 (.ff (.sure 183 (.sure 184 (.sure 187 (.sure 188 (.sure 189 (.sure 190 (.sure 191 (.sure 192 (.sure 193 (.r (.ret (B true)) (.sure 196 (.sure 197 (.sure 198 (.sure 199 (.sure 200 (.sure 201 (.r (.ret (B true)) (.sure 204 (.sure 205 (.sure 206 (.sure 209 (.sure 210 (.r (.ret (str exT)) (.sure 211 .nil))))))))))))))))))))))))))))))))))))))))))))))))))))))))))))))))))))))))))))))))))))))))))))))))),(CO Gl 22 [T.d (D.c (C.s Tag.n (4:Nat) fun i=>List.getD [List.map C.dem [C.v (Value.int IntKind.i64 (132:Int))],List.map C.dem [C.v (Value.int IntKind.i64 (45:Int))],List.map C.dem [C.v (Value.int IntKind.i64 (-60:Int))],List.map C.dem [C.v (Value.int IntKind.i64 (7:Int))]] i [])),T.d A0] (.ret (.tup [D.c (C.l Ay Be),D.c (Ci 0)]))/\CO Gl 70 [] (.ret A1)/\CO Gl 53 [Aa6 exA] (.ret (.tup [D.c (C.l eI [(0:Int),(2:Int)]),D.c (Ci 0)]))/\CO Gl 70 [] (.ret A1)/\CO Gl 28 [Aa6 exA,T.d A0] (.ret (.tup [D.c (C.v (Value.bool true)),D.c (Ci 0)]))/\CO Gl 70 [] (.ret A1)/\CO Gl 31 [Aa6 exA] (.ret (.tup A6))/\CO Gl 71 [] (.ret (Aa6 exD))/\CO Gl 37 [Aa6 exD,I 1] (.ret (.tup A5))/\CO Gl 70 [] (.ret A1)/\CO Gl 38 [Aa6 exA] (.ret (.tup [D.c (C.l eI [(1:Int),(3:Int)]),D.c (Ci 0)]))/\CO Gl 70 [] (.ret A1)/\CO Gl 39 [Aa6 exA] (.ret (.tup [D.c (Ci 0),D.c (Ci 0)]))/\CO Gl 70 [] (.ret A1)/\CO Gl 29 [Aa6 exA] (.ret (.tup [D.c (Ci 2),D.c (Ci 0)]))/\CO Gl 70 [] (.ret A1)/\CO Gl 48 [Aa6 exA,I 0] (.ret (.tup A7))/\CO Gl 72 [] (.ret (Aa6 exB))/\CO Gl 49 [Aa6 exB] (.ret (.tup A8))/\CO Gl 70 [] (.ret A1)/\CO Gl 57 [Aa6 exA,I 0,I 1] (.ret (.tup [D.c (C.l eI []),D.c (Ci 0)]))/\CO Gl 66 [str exT] (.ret (.tup [D.agg (Ac0 exS),D.c (Ci 0)]))/\CO Gl 71 [] (.ret (Aa6 exD))/\CO Gl 37 [Aa6 exD,I 0] (.ret (.tup [D.c (C.l eI []),D.c (Ci 8)]))/\true=true/\true=true/\true=true/\true=true/\true=true/\true=true/\true=true/\true=true/\true=true/\true=true/\true=true/\true=true/\true=true/\true=true/\true=true/\true=true/\true=true/\true=true/\true=true/\true=true/\true=true/\true=true/\true=true/\true=true/\false=false/\CO Gl 25 [L Ay Be,T.d (D.c (C.s Tag.n (2:Nat) fun i=>List.getD [List.map C.dem (List.map C.dem [C.v (Value.int IntKind.i64 (0:Int)),C.v A2]),List.map C.dem (List.map C.dem [C.v A3,C.v A4])] i []))] (.ret (B true))/\true=true/\true=true/\true=true/\CO Gl 34 [L eI [(0:Int),(2:Int)],T.d (D.c (C.s Tag.n (2:Nat) fun i=>List.getD [List.map C.dem [C.v (Value.int IntKind.i64 (0:Int))],List.map C.dem [C.v A3]] i []))] (.ret (B true))/\true=true/\true=true/\true=true/\true=true/\true=true/\true=true/\CO Gl 34 [L eI [(123:Int),(45:Int),(60:Int),(7:Int)],T.d A0] (.ret (B true))/\true=true/\true=true/\true=true/\true=true/\CO Gl 34 [L eI [(-7:Int),(7:Int),(17:Int),(70:Int),(107:Int)],T.d (D.c (C.s Tag.n (5:Nat) fun i=>List.getD [List.map C.dem [C.v (Value.int IntKind.i64 (-7:Int))],List.map C.dem [C.v (Value.int IntKind.i64 (7:Int))],List.map C.dem [C.v (Value.int IntKind.i64 (17:Int))],List.map C.dem [C.v (Value.int IntKind.i64 (70:Int))],List.map C.dem [C.v (Value.int IntKind.i64 (107:Int))]] i []))] (.ret (B true))/\true=true/\true=true/\true=true/\true=true/\CO Gl 34 [L eI [(1:Int),(3:Int)],T.d (D.c (C.s Tag.n (2:Nat) fun i=>List.getD [List.map C.dem [C.v A2],List.map C.dem [C.v A4]] i []))] (.ret (B true))/\true=true/\false=false/\true=true/\true=true/\true=true/\true=true/\true=true/\true=true/\true=true/\true=true/\true=true/\CO Gl 54 [L eI [(2:Int),(1:Int),(2:Int),(1:Int)],T.d (D.c (C.s Tag.n (4:Nat) fun i=>List.getD [List.map C.dem [C.v A3],List.map C.dem [C.v A2],List.map C.dem [C.v A3],List.map C.dem [C.v A2]] i []))] (.ret (B true))/\true=true/\true=true/\true=true/\true=true/\true=true/\true=true/\CO Gl 54 [L eI [(3:Int),(3:Int),(1:Int)],T.d (D.c (C.s Tag.n (3:Nat) fun i=>List.getD [List.map C.dem [C.v A4],List.map C.dem [C.v A4],List.map C.dem [C.v A2]] i []))] (.ret (B true))/\true=true/\true=true/\((0:Nat)<=maxLen->true=true/\true=true/\true=true/\CO Gl 67 [Aa6 exS] (.ret (str exT))/\true=true/\true=true)))) Tryz.func21 (by kernel_rfl) (by kernel_rfl) ?_
 dsimp only
 have hE:SEq 2 (fun i=>List.getD [List.map C.dem (List.map C.dem [C.v (Value.int IntKind.i64 0),C.v (Value.int IntKind.i64 1)]),List.map C.dem (List.map C.dem [C.v (Value.int IntKind.i64 2),C.v (Value.int IntKind.i64 3)])] i []) Be.length fun i=>Ay (nth Be i):=.of ⟨rfl,fun i hi=>by
  match i,hi with
  |0,_=>rfl
  |1,_=>rfl⟩
 repeat' first|with_reducible apply And.intro|with_reducible intro _
 all_goals first
  |contradiction
  |with_reducible exact rfl
  |with_reducible exact trivial
  |with_reducible exact exA70 S
  |with_reducible exact exD71 S
  |with_reducible exact hB
  |with_reducible exact kErr S _ _ (Bu9 [132,45,-60,7]) (Bu9 [123,45,60,7])
  |with_reducible exact Do7 S
  |with_reducible exact C50 S _ (Bu9 [123,45,60,7])
  |with_reducible exact Do6 S
  |with_reducible exact kVals S
  |with_reducible exact kOpen S
  |with_reducible exact kSure S
  |with_reducible exact kNext S
  |with_reducible exact Do4 S
  |with_reducible exact Do1 S
  |with_reducible exact Do5 S
  |with_reducible exact kBoth S
  |with_reducible exact kRead S hG
  |with_reducible exact Do3 S
  |with_reducible exact Do2 S _ hE
  |with_reducible exact B90 S [0,2] 2 _ (Bu9 [0,2])
  |with_reducible exact B90 S [123,45,60,7] 4 _ (Bu9 [123,45,60,7])
  |with_reducible exact B90 S [-7,7,17,70,107] 5 _ (Bu9 [-7,7,17,70,107])
  |with_reducible exact B90 S [1,3] 2 _ (Bu9 [1,3])
  |with_reducible exact Cn6 S [2,1,2,1] 4 _ (Bu9 [2,1,2,1])
  |with_reducible exact Cn6 S [3,3,1] 3 _ (Bu9 [3,3,1])
  |exact rfl
  |exact trivial
  |exact exA70 S
  |exact exD71 S
  |exact hB
  |exact kErr S _ _ (Bu9 [132,45,-60,7]) (Bu9 [123,45,60,7])
  |exact Do7 S
  |exact C50 S _ (Bu9 [123,45,60,7])
  |exact Do6 S
  |exact kVals S
  |exact kOpen S
  |exact kSure S
  |exact kNext S
  |exact Do4 S
  |exact Do1 S
  |exact Do5 S
  |exact kBoth S
  |exact kRead S hG
  |exact Do3 S
  |exact Do2 S _ hE
  |exact B90 S [0,2] 2 _ (Bu9 [0,2])
  |exact B90 S [123,45,60,7] 4 _ (Bu9 [123,45,60,7])
  |exact B90 S [-7,7,17,70,107] 5 _ (Bu9 [-7,7,17,70,107])
  |exact B90 S [1,3] 2 _ (Bu9 [1,3])
  |exact Cn6 S [2,1,2,1] 4 _ (Bu9 [2,1,2,1])
  |exact Cn6 S [3,3,1] 3 _ (Bu9 [3,3,1])
  |exact trivial
  |rfl
  |omega
section
variable {P:Program} {Y:TypeId->Ty} {a:Act} {w:World}
theorem Ap5 (hY:YOK P Y) {o:Oper} {t el:TypeId} {len:Nat} {ps:Array (Nat×Operand)} {vs:List Value} (ho:o.op=.buildSlice t len ps) (hk:(Y t).kind=.slice el) (hkn:(Y el).known=true) (hs:(Y el).size=1)
  (hp:(ps.map fun x=>(x.1,a.eval x.2)).toList=(vs.zipIdx 0).map fun x=>(x.2,x.1)) (hl:vs.length=len) (hpos:1<=len) (hsm:len<=100) (hc:∀ v∈vs,v.cells=#[v]):
  (execOp a.eval o).run P w=.ok (.value (.slice (some ⟨w.heap.size,0,none⟩) len len)) (w.alloc (.cells vs.toArray el)):=by
 obtain ⟨dd,i,z,h1,h2,h3,h4,h5,h6,h7,h8⟩:=hY t (by simp [Ty.known,hk])
 rw [hk] at h7
 simp only [KOK] at h7
 subst h7
 obtain ⟨dd,ie,ze,g1,g2,g3,g4,g5,g6,g7,g8⟩:=hY el hkn
 have hvsz:∀ v∈vs,v.cells.size=1:=fun v hv=>by rw [hc v hv];rfl
 have hfill:=Great.fill_whole (s:=1) (by omega) vs ((Array.range (len*1)).map (ze.cells[· % ze.cells.size]!)) hvsz (by simp [hl])
 have hrow:(vs.flatMap fun v=>v.cells.toList)=vs:=by
  clear hfill hvsz hp hl
  induction vs with
  |nil=>rfl
  |cons v vs ih=>
   rw [List.flatMap_cons,ih fun x hx=>hc x (List.mem_cons_of_mem _ hx),hc v List.mem_cons_self]
   rfl
 rw [hrow] at hfill
 have hrun:=run_buildSlice (P:=P) w t el len (ps.map fun x=>(x.1,a.eval x.2)) _ ie ze h1 g2 g5 (by rw [g3,hs];omega) (by rw [g3,hs];omega) (by rw [hp,g3,hs];exact hfill)
 simp [execOp,ho,hrun]
theorem Df5 (hY:YOK P Y) {t el:TypeId} {p q:Operand} {b sb n m sc:Nat} {olds news:List Value} {f1 f2:Nat×Nat} {T1 T2:TypeId} (hk:(Y t).kind=.slice el) (hkn:(Y el).known=true) (hs:(Y el).size=1) (hby:(Y el).bytes<=100)
  (hp:a.eval p=.slice (some ⟨b,0,none⟩) n n) (hq:a.eval q=.slice (some ⟨sb,0,none⟩) m sc) (hn:olds.length=n) (hm:news.length=m) (hm1:1<=m) (hnm:n+m<=100)
  (hb:w.heap[b]?=some (.cells olds.toArray T1 f1)) (hsb:w.heap[sb]?=some (.cells news.toArray T2 f2)):
  ∃ cap zs,n+m<=cap/\cap<=maxLen/\∀ o:Oper,o.op=.call { callee:=.builtin .append,args:=#[p,q],argTypes:=#[t,t] }->(execOp a.eval o).run P w=.ok (.value (.slice (some ⟨w.heap.size,0,none⟩) (n+m) cap)) (w.drew.alloc (.cells (olds.toArray++news.toArray++zs) el)):=by
 obtain ⟨dd,i,z,h1,h2,h3,h4,h5,h6,h7,h8⟩:=hY t (by simp [Ty.known,hk])
 rw [hk] at h7
 simp only [KOK] at h7
 subst h7
 obtain ⟨dd,ie,ze,g1,g2,g3,g4,g5,g6,g7,g8⟩:=hY el hkn
 have hc1:∀ (j:Nat) (v:Value),olds[j]?=some v->w.cell? ((⟨b,0,none⟩:Addr).add j)=some v:=fun j v hj=>by
  rw [Ah0]
  simp only [World.cell?,hb,Nat.zero_add]
  simpa using hj
 have hc2:∀ (j:Nat) (v:Value),news[j]?=some v->w.cell? ((⟨sb,0,none⟩:Addr).add j)=some v:=fun j v hj=>by
  rw [Ah0]
  simp only [World.cell?,hsb,Nat.zero_add]
  simpa using hj
 have hbound:(n+m)*(Y el).bytes<=140737488355328:=by
  have:=Nat.mul_le_mul hnm hby
  omega
 have hrun:=fun ty=>run_append_grow (P:=P) w t ty el ie ze h1 g2 g5 ⟨b,0,none⟩ n n olds (by rw [g3,hs];omega) hc1 ⟨sb,0,none⟩ m sc news (by rw [g3,hs];omega) hc2 (by omega) (by omega) (by rw [g4];exact growslice_fits (by omega) hbound)
 have hge:=grownCap_ge w (n+m) n el
 refine ⟨grownCap w (n+m) n el,Builtin.zeroCells ze.cells (grownCap w (n+m) n el - (n+m)),hge,?_,?_⟩
 ·exact grownCap_le_maxLen w (n+m) n el (by unfold maxLen;omega)
 ·intro o ho
  simp [execOp,ho,hp,hq,resolve,invoke,builtin,hrun]
theorem C06 (hY:YOK P Y) {o:Oper} {p q:Operand} {t:TypeId} {b k:Nat} {v:Value} {cur:Array Value} {ct:TypeId} (ho:o.op=.store t p q) (hkn:(Y t).known=true) (hsz:(Y t).size=1) (hp:a.eval p=.pointer (some ⟨b,k,none⟩)) (hq:a.eval q=v)
  (hv:v.cells=#[v]) (h1:v.oneCell'=true) (hk:k<cur.size) (hcur:w.heap[b]?=some (.cells cur ct (0,0))):
  (execOp a.eval o).run P w=.ok .skip (w.setRow b (cur.toList.take k++[v]++cur.toList.drop (k+1)).toArray):=by
 have hst:=run_storeCells_at P b k ct [v] 0 cur w hcur (by simp only [List.length_singleton];omega) (fun u hu=>by rw [List.mem_singleton.1 hu];exact h1)
 have hvl:v.cells.toList=[v]:=by rw [hv]
 have hv2:v.cells.size=1:=by rw [hv];rfl
 simp only [Nat.add_zero,List.length_singleton] at hst
 simp [execOp,ho,hp,hq,Instr.storeAt,Instr.sureAddr,storeVar,Ab9 hY hkn,hsz,hv,hst]
theorem Df4 (hY:YOK P Y) {p q:Operand} {t:TypeId} {b:Nat} {v c0 c1:Value} {ct:TypeId} (hkn:(Y t).known=true) (hsz:(Y t).size=1) (hp:a.eval p=.pointer (some ⟨b,0,none⟩)) (hq:a.eval q=v)
  (hv:v.cells=#[v]) (h1:v.oneCell'=true) (hcur:w.heap[b]?=some (.cells #[c0,c1] ct (0,0))):
  ∃ w',(∀ o:Oper,o.op=.store t p q->(execOp a.eval o).run P w=.ok .skip w')/\w'.heap[b]?=some (.cells #[v,c1] ct (0,0))/\Same w w'/\∀ b',b'≠b->w'.heap[b']?=w.heap[b']?:=
 ⟨_,fun o ho=>C06 hY ho hkn hsz hp hq hv h1 (cur:=#[c0,c1]) (Nat.zero_lt_succ 1) hcur,setRow_heap w b _ _ _ _ hcur,⟨rfl,rfl,rfl,by simp [World.setRow]⟩,fun b' hb=>setRow_other w b b' _ hb⟩
theorem Df3 (hY:YOK P Y) {p q:Operand} {t:TypeId} {b:Nat} {v c0 c1:Value} {ct:TypeId} (hkn:(Y t).known=true) (hsz:(Y t).size=1) (hp:a.eval p=.pointer (some ⟨b,1,none⟩)) (hq:a.eval q=v)
  (hv:v.cells=#[v]) (h1:v.oneCell'=true) (hcur:w.heap[b]?=some (.cells #[c0,c1] ct (0,0))):
  ∃ w',(∀ o:Oper,o.op=.store t p q->(execOp a.eval o).run P w=.ok .skip w')/\w'.heap[b]?=some (.cells #[c0,v] ct (0,0))/\Same w w'/\∀ b',b'≠b->w'.heap[b']?=w.heap[b']?:=
 ⟨_,fun o ho=>C06 hY ho hkn hsz hp hq hv h1 (cur:=#[c0,c1]) (Nat.lt_succ_self 1) hcur,setRow_heap w b _ _ _ _ hcur,⟨rfl,rfl,rfl,by simp [World.setRow]⟩,fun b' hb=>setRow_other w b b' _ hb⟩
end
theorem Bm5 {P:Program} {Y:TypeId->Ty} {a:Act} {w:World} (hY:YOK P Y) {o:Oper} {p:Operand} {s:TypeId} {f b off:Nat} {fs:List (Nat×TypeId)} {q:Nat×TypeId} (ho:o.op=.fieldAddr s p f) (hfs:(Y s).fields=some fs) (hq:fs[f]?=some q) (hp:a.eval p=.pointer (some ⟨b,off,none⟩)):
  (execOp a.eval o).run P w=.ok (.value (.pointer (some ⟨b,off+q.1,none⟩))) w:=by
 have hk:=Aw7 hfs
 obtain ⟨d,i,z,h1,h2,h3,h4,h5,h6,h7,h8⟩:=hY s (Ar2 hk)
 rw [hk] at h7
 obtain ⟨fields,rfl,hmap,hne⟩:=h7
 rw [<-hmap] at hq
 rw [List.getElem?_map] at hq
 cases hf:fields.toList[f]? with
 |none=>rw [hf] at hq;cases hq
 |some fld=>
  rw [hf] at hq
  simp only [Option.map_some,Option.some.injEq] at hq
  subst hq
  obtain ⟨i',hi',hne'⟩:=hne fld (List.mem_of_getElem? hf)
  have hf':fields[f]?=some fld:=by simpa using hf
  simp [execOp,ho,hp,Instr.fieldAt,run_underlying h1,hf',Instr.sureAddr,fieldPlace,sizeOf,typeInfo,hi',hne',Ah0]
structure AtA (w w':World) (v:Value) (b1 b2 b3 b4:Nat):Prop where
 same:Same w w'
 old:∀ b,b<w.heap.size->w'.heap[b]?=w.heap[b]?
 val:v=.agg #[.slice (some ⟨b3,0,none⟩) 2 2,.slice (some ⟨b4,0,none⟩) 2 2]
 lo:w.heap.size<=b1/\b1<b2/\b2<b3/\b3<b4/\b4<w'.heap.size
 c1:w'.heap[b1]?=some (.cells #[.int .i64 123,.int .i64 45,.int .i64 (-60),.int .i64 7] 3 (0,0))
 c2:w'.heap[b2]?=some (.cells #[.int .i64 132,.int .i64 45,.int .i64 60,.int .i64 7] 3 (0,0))
 c3:w'.heap[b3]?=some (.cells #[.slice (some ⟨b1,0,none⟩) 4 4,.slice (some ⟨b2,0,none⟩) 4 4] 22 (0,0))
 c4:w'.heap[b4]?=some (.cells #[.int .i64 1,.int .i64 1] 3 (0,0))
theorem k22:(Y 22).kind=.slice 3:=by kernel_rfl
theorem k40:(Y 40).kind=.slice 22:=by kernel_rfl
theorem kn3:(Y 3).known=true:=by kernel_rfl
theorem kn22:(Y 22).known=true:=by kernel_rfl
theorem kn40:(Y 40).known=true:=by kernel_rfl
theorem kn42:(Y 42).known=true:=by kernel_rfl
theorem s3:(Y 3).size=1:=by kernel_rfl
theorem s22:(Y 22).size=1:=by kernel_rfl
theorem s40:(Y 40).size=1:=by kernel_rfl
theorem s42:(Y 42).size=2:=by kernel_rfl
theorem z42:(Y 42).zero.toArray=#[.slice none 0 0,.slice none 0 0]:=by kernel_rfl
theorem a42:(Y 42).agg=some true:=by kernel_rfl
theorem Dy3 (p q:Option Addr) (n c m d:Nat):Tryz.prog.built 42 [(0,.slice p n c),(1,.slice q m d)]=some #[.slice p n c,.slice q m d]:=by kernel_rfl
theorem Af1 (w:World) (o:Obj):∃ w',w.alloc o=w'/\Same w w'/\w'.heap.size=w.heap.size+1/\w'.heap[w.heap.size]?=some o/\∀ b,b<w.heap.size->w'.heap[b]?=w.heap[b]?:=
 ⟨_,rfl,Ai5 _ _,World.size_alloc ..,World.alloc_heap_new w _,fun b hb=>Ab7 _ _ hb⟩
theorem A84 {f:Func} {t:Nat} (hf:f.results=#[.cell t 42]) {a:Act} {w:World} {b1:Nat} {cs:Array Value} (h1:a.tmps.getD t undef=.pointer (some ⟨b1,0,none⟩)) (hc:cs.size=2)
  (g1:w.heap[b1]?=some (.cells cs 42 (0,0))):(results f a.tmps).run Tryz.prog w=.ok (.agg cs) w:=by
 have l1:=Am1 yok a42 (w:=w) (b:=b1) (off:=0) (us:=cs.toList) (by rw [s42];simpa using hc) fun j u hj=>by
  simp only [World.cell?,g1,Nat.zero_add]
  simpa using hj
 have he:f.results.mapM (Bc7 a.tmps)=List.toArray <$> f.results.toList.mapM (Bc7 a.tmps):=Array.mapM_eq_mapM_toList ..
 have he2:results f a.tmps=(f.results.mapM (Bc7 a.tmps) >>= fun vs=>pure (if h:vs.size=1 then vs[0] else .tuple vs)):=rfl
 have hrun:([ResultVar.cell t 42].mapM (Bc7 a.tmps)).run Tryz.prog w=.ok [.agg cs] w:=by
  have r1:(Bc7 a.tmps (.cell t 42)).run Tryz.prog w=.ok (.agg cs) w:=by simp [Bc7,h1,asAddr,l1]
  rw [Al2,r1,Result.andThen_ok]
  simp
 rw [he2,he,hf]
 simp only [Sem.run_bind,Sem.run_map,hrun,Result.andThen_ok,Sem.run_pure]
 rfl
theorem Dy0 (w:World):Calls Tryz.prog 70 #[] w fun en w'=>∃ v b1 b2 b3 b4,en=.returned v/\AtA w w' v b1 b2 b3 b4:=by
 go_enter_defers Tryz.func70,Tryz.ntmps70
 have S:SL { tmps:=#[undef,undef,undef,undef,undef,undef],defers:=[] } 6 (fun t=>#[].getD t undef) []:=by
  exact SL.start #[] 6 (Nat.le_of_ble_eq_true rfl)
 generalize ({ tmps:=#[undef,undef,undef,undef,undef,undef],defers:=[] }:Act)=a at S ⊢
 refine wp_seq (wp_region_list ?_)
 have hal:=fun (o:Oper) (ho:o.op=Op.alloc 42)=>Ap6 (P:=Tryz.prog) (a:=a) (w:=w) (o:=o) yok (t:=42) ho kn42
 rw [z42] at hal
 refine Ae2 S (d:=0) rfl (by decide) rfl (hal _ rfl) fun a1 S1=>?_
 obtain ⟨w1,hw1,m1,z1,n1,o1⟩:=Af1 w (.cells #[.slice none 0 0,.slice none 0 0] 42)
 rw [hw1]
 refine wp_seq (wp_region_list ?_)
 refine Ae2 S1 (d:=1) rfl (by decide) rfl (Ap5 yok (vs:=[.int .i64 123,.int .i64 45,.int .i64 (-60),.int .i64 7]) rfl k22 kn3 s3 (by simp [Act.eval]) rfl (by decide) (by decide) (by simp [Value.cells])) fun a2 S2=>?_
 obtain ⟨w2,hw2,m2,z2,n2,o2⟩:=Af1 w1 (.cells [Value.int .i64 123,.int .i64 45,.int .i64 (-60),.int .i64 7].toArray 3)
 rw [hw2]
 refine Ae2 S2 (d:=2) rfl (by decide) rfl (Ap5 yok (vs:=[.int .i64 132,.int .i64 45,.int .i64 60,.int .i64 7]) rfl k22 kn3 s3 (by simp [Act.eval]) rfl (by decide) (by decide) (by simp [Value.cells])) fun a3 S3=>?_
 obtain ⟨w3,hw3,m3,z3,n3,o3⟩:=Af1 w2 (.cells [Value.int .i64 132,.int .i64 45,.int .i64 60,.int .i64 7].toArray 3)
 rw [hw3]
 refine Ae2 S3 (d:=3) rfl (by decide) rfl (Ap5 yok (vs:=[.slice (some ⟨w1.heap.size,0,none⟩) 4 4,.slice (some ⟨w2.heap.size,0,none⟩) 4 4]) rfl k40 kn22 s22 (by simp [S3.eval,upd]) rfl (by decide) (by decide) (by simp [Value.cells])) fun a4 S4=>?_
 obtain ⟨w4,hw4,m4,z4,n4,o4⟩:=Af1 w3 (.cells [Value.slice (some ⟨w1.heap.size,0,none⟩) 4 4,.slice (some ⟨w2.heap.size,0,none⟩) 4 4].toArray 22)
 rw [hw4]
 refine Ae2 S4 (d:=4) rfl (by decide) rfl (Ap5 yok (vs:=[.int .i64 1,.int .i64 1]) rfl k22 kn3 s3 (by simp [Act.eval]) rfl (by decide) (by decide) (by simp [Value.cells])) fun a5 S5=>?_
 obtain ⟨w5,hw5,m5,z5,n5,o5⟩:=Af1 w4 (.cells [Value.int .i64 1,.int .i64 1].toArray 3)
 rw [hw5]
 refine Ae2 S5 (d:=5) (v:=.agg #[.slice (some ⟨w3.heap.size,0,none⟩) 2 2,.slice (some ⟨w4.heap.size,0,none⟩) 2 2]) (w':=w5) rfl (by decide) rfl ?_ fun a6 S6=>?_
 ·simp [execOp,S5.eval,upd,run_build (P:=Tryz.prog) w5 42 _ _ (Dy3 (some ⟨w3.heap.size,0,none⟩) (some ⟨w4.heap.size,0,none⟩) 2 2 2 2)]
 have g0:w5.heap[w.heap.size]?=some (.cells #[.slice none 0 0,.slice none 0 0] 42 (0,0)):=by rw [o5 _ (by omega),o4 _ (by omega),o3 _ (by omega),o2 _ (by omega)];exact n1
 have H:=fun (o:Oper) (ho:o.op=Op.store 42 (.tmp 0) (.tmp 5))=>Al3 (P:=Tryz.prog) (a:=a6) (w:=w5) (v:=.agg #[.slice (some ⟨w3.heap.size,0,none⟩) 2 2,.slice (some ⟨w4.heap.size,0,none⟩) 2 2]) (b:=w.heap.size) (o:=o)
  yok (t:=42) ho kn42 (by simp [S6.eval,upd]) (by simp [S6.eval,upd]) (by rw [s42];rfl) (by rw [s42];rfl) (by simp [Value.cells,Value.oneCell']) g0
 obtain ⟨_,t2,t3,t4⟩:=H (stO 42 (.tmp 0) (.tmp 5)) rfl
 refine As6 S6 rfl rfl (H _ rfl).1 fun a7 S7=>?_
 clear H
 generalize w5.setRow w.heap.size (Value.agg #[.slice (some ⟨w3.heap.size,0,none⟩) 2 2,.slice (some ⟨w4.heap.size,0,none⟩) 2 2]).cells=w6 at t2 t3 t4 ⊢
 refine wp_ret ?_
 show Leaves Tryz.prog Tryz.f70 a7.tmps _ a7.defers .returning w6
 rw [S7.defers]
 have r1:=A84 (f:=Tryz.f70) (t:=0) Tryz.results70 (a:=a7) (w:=w6) (b1:=w.heap.size) (by rw [S7.get 0 (by decide)];simp [upd]) rfl t2
 have hsz:=t3.size
 refine ⟨_,r1,_,w1.heap.size,w2.heap.size,w3.heap.size,w4.heap.size,rfl,⟨((((m1.trans m2).trans m3).trans m4).trans m5).trans t3,fun b hb=>?_,rfl,by omega,?_,?_,?_,?_⟩⟩
 ·rw [t4 _ (by omega),o5 _ (by omega),o4 _ (by omega),o3 _ (by omega),o2 _ (by omega),o1 _ hb]
 ·rw [t4 _ (by omega),o5 _ (by omega),o4 _ (by omega),o3 _ (by omega)];exact n2
 ·rw [t4 _ (by omega),o5 _ (by omega),o4 _ (by omega)];exact n3
 ·rw [t4 _ (by omega),o5 _ (by omega)];exact n4
 ·rw [t4 _ (by omega)];exact n5
theorem fs42:(Y 42).fields=some [(0,40),(1,22)]:=by kernel_rfl
theorem fn70:Cc8 Tryz.prog 70:=⟨Tryz.f70,by kernel_rfl,by kernel_rfl,by kernel_rfl⟩
theorem ag40:(Y 40).agg=some false:=by kernel_rfl
theorem by22:(Y 22).bytes<=100:=Nat.le_of_ble_eq_true (by kernel_rfl)
structure AtB (w w':World) (v:Value) (b1 b2 d1 d3 d4 cap:Nat) (zs:Array Value):Prop where
 same:Same w w'
 old:∀ b,b<w.heap.size->w'.heap[b]?=w.heap[b]?
 val:v=.agg #[.slice (some ⟨d3,0,none⟩) 3 cap,.slice (some ⟨d4,0,none⟩) 3 3]
 cap:3<=cap/\cap<=maxLen
 lo:w.heap.size<=b1/\b1<b2/\b2<d1/\d1<d3/\d3<d4/\d4<w'.heap.size
 c1:w'.heap[b1]?=some (.cells #[.int .i64 123,.int .i64 45,.int .i64 (-60),.int .i64 7] 3 (0,0))
 c2:w'.heap[b2]?=some (.cells #[.int .i64 132,.int .i64 45,.int .i64 60,.int .i64 7] 3 (0,0))
 e1:w'.heap[d1]?=some (.cells #[.int .i64 123,.int .i64 45,.int .i64 60,.int .i64 7] 3 (0,0))
 e3:w'.heap[d3]?=some (.cells (#[.slice (some ⟨b1,0,none⟩) 4 4,.slice (some ⟨b2,0,none⟩) 4 4,.slice (some ⟨d1,0,none⟩) 4 4]++zs) 22 (0,0))
 e4:w'.heap[d4]?=some (.cells #[.int .i64 1,.int .i64 1,.int .i64 0] 3 (0,0))
theorem Dy (w:World):Calls Tryz.prog 72 #[] w fun en w'=>∃ v b1 b2 d1 d3 d4 cap zs,en=.returned v/\AtB w w' v b1 b2 d1 d3 d4 cap zs:=by
 go_enter_defers Tryz.func72,Tryz.ntmps72
 have S:SL { tmps:=#[undef,undef,undef,undef,undef,undef,undef,undef,undef,undef,undef,undef],defers:=[] } 12 (fun t=>#[].getD t undef) []:=by
  exact SL.start #[] 12 (Nat.le_of_ble_eq_true rfl)
 generalize ({ tmps:=#[undef,undef,undef,undef,undef,undef,undef,undef,undef,undef,undef,undef],defers:=[] }:Act)=a at S ⊢
 refine wp_seq (wp_region_list ?_)
 have hal:=fun (o:Oper) (ho:o.op=Op.alloc 42)=>Ap6 (P:=Tryz.prog) (a:=a) (w:=w) (o:=o) yok (t:=42) ho kn42
 rw [z42] at hal
 refine Ae2 S (d:=0) rfl (by decide) rfl (hal _ rfl) fun a1 S1=>?_
 obtain ⟨w1,hw1,m1,z1,n1,o1⟩:=Af1 w (.cells #[.slice none 0 0,.slice none 0 0] 42)
 rw [hw1]
 refine wp_seq (wp_region_list ?_)
 refine Cz8 S1 (d:=2) (g:=70) (vs:=#[]) rfl (by decide) rfl ?_ (Dy0 w1) (fun v w2 hr a2 S2=>?_) (fun ch w2 hr=>?_) (fun w2 hr=>?_)
 ·have:=fun (o:Oper) (ho:o.op=Op.call { callee:=Callee.value (.func 70),args:=#[],argTypes:=#[] })=>Ba3 (P:=Tryz.prog) (a:=a1) (w:=w1) (o:=o) ho rfl fn70 (us:=#[]) (cvs:=#[])
  simpa using this _ rfl
 ·obtain ⟨v',b1,b2,b3,b4,hv,A⟩:=hr
  obtain rfl:v=v':=Ending.returned.inj hv
  have hA:=A.lo
  have hval:=A.val
  subst hval
  have hal:=fun (o:Oper) (ho:o.op=Op.alloc 42)=>Ap6 (P:=Tryz.prog) (a:=a2) (w:=w2) (o:=o) yok (t:=42) ho kn42
  rw [z42] at hal
  refine Ae2 S2 (d:=1) rfl (by decide) rfl (hal _ rfl) fun a3 S3=>?_
  obtain ⟨w3,hw3,m3,z3,n3,o3⟩:=Af1 w2 (.cells #[.slice none 0 0,.slice none 0 0] 42)
  rw [hw3]
  have H:=fun (o:Oper) (ho:o.op=Op.store 42 (.tmp 1) (.tmp 2))=>Al3 (P:=Tryz.prog) (a:=a3) (w:=w3) (v:=.agg #[.slice (some ⟨b3,0,none⟩) 2 2,.slice (some ⟨b4,0,none⟩) 2 2]) (b:=w2.heap.size) (o:=o)
   yok (t:=42) ho kn42 (by simp [S3.eval,upd]) (by simp [S3.eval,upd]) (by rw [s42];rfl) (by rw [s42];rfl) (by simp [Value.cells,Value.oneCell']) n3
  obtain ⟨_,t2,t3,t4⟩:=H (stO 42 (.tmp 1) (.tmp 2)) rfl
  refine As6 S3 rfl rfl (H _ rfl).1 fun a4 S4=>?_
  clear H
  generalize w3.setRow w2.heap.size (Value.agg #[.slice (some ⟨b3,0,none⟩) 2 2,.slice (some ⟨b4,0,none⟩) 2 2]).cells=w4 at t2 t3 t4 ⊢
  have hz4:=t3.size
  refine wp_seq (wp_region_list ?_)
  refine Ae2 S4 (d:=3) rfl (by decide) rfl (Bm5 yok rfl fs42 rfl (b:=w2.heap.size) (off:=0) (by simp [S4.eval,upd])) fun a5 S5=>?_
  refine Ae2 S5 (d:=4) rfl (by decide) rfl (A89 yok (b:=w2.heap.size) (k:=0) (u:=.slice (some ⟨b3,0,none⟩) 2 2) rfl ag40 (by simp [S5.eval,upd]) (by simp [World.cell?,t2,Value.cells])) fun a6 S6=>?_
  refine Ae2 S6 (d:=5) rfl (by decide) rfl (Ap5 yok (vs:=[.int .i64 123,.int .i64 45,.int .i64 60,.int .i64 7]) rfl k22 kn3 s3 (by simp [Act.eval]) rfl (by decide) (by decide) (by simp [Value.cells])) fun a7 S7=>?_
  obtain ⟨w5,hw5,m5,z5,n5,o5⟩:=Af1 w4 (.cells [Value.int .i64 123,.int .i64 45,.int .i64 60,.int .i64 7].toArray 3)
  rw [hw5]
  refine Ae2 S7 (d:=6) rfl (by decide) rfl (Ap5 yok (vs:=[.slice (some ⟨w4.heap.size,0,none⟩) 4 4]) rfl k40 kn22 s22 (by simp [S7.eval,upd]) rfl (by decide) (by decide) (by simp [Value.cells])) fun a8 S8=>?_
  obtain ⟨w6,hw6,m6,z6,n6,o6⟩:=Af1 w5 (.cells [Value.slice (some ⟨w4.heap.size,0,none⟩) 4 4].toArray 22)
  rw [hw6]
  have hb3:w6.heap[b3]?=some (.cells [Value.slice (some ⟨b1,0,none⟩) 4 4,.slice (some ⟨b2,0,none⟩) 4 4].toArray 22 (0,0)):=by
   rw [o6 _ (by omega),o5 _ (by omega),t4 _ (by omega),o3 _ (by omega)];exact A.c3
  obtain ⟨cap,zs,hc1,hc2,hrun⟩:=Df5 (P:=Tryz.prog) (a:=a8) (w:=w6) (p:=.tmp 4) (q:=.tmp 6) yok (t:=40) (el:=22) (b:=b3) (sb:=w5.heap.size) (n:=2) (m:=1) (sc:=1)
   (olds:=[Value.slice (some ⟨b1,0,none⟩) 4 4,.slice (some ⟨b2,0,none⟩) 4 4]) (news:=[Value.slice (some ⟨w4.heap.size,0,none⟩) 4 4]) k40 kn22 s22 by22 (by simp [S8.eval,upd]) (by simp [S8.eval,upd]) rfl rfl (by decide) (by decide) hb3 n6
  refine Ae2 S8 (d:=7) rfl (by decide) rfl (hrun _ rfl) fun a9 S9=>?_
  clear hrun
  obtain ⟨w7,hw7,m7,z7,n7,o7⟩:=Af1 w6.drew (.cells ([Value.slice (some ⟨b1,0,none⟩) 4 4,.slice (some ⟨b2,0,none⟩) 4 4].toArray++[Value.slice (some ⟨w4.heap.size,0,none⟩) 4 4].toArray++zs) 22)
  rw [hw7]
  have hdh:w6.drew.heap=w6.heap:=rfl
  have hds:Same w6 w6.drew:=⟨rfl,rfl,rfl,Nat.le_refl _⟩
  rw [hdh] at z7 n7 o7
  refine Ae2 S9 (d:=8) rfl (by decide) rfl (Ap5 yok (vs:=[.int .i64 1,.int .i64 1,.int .i64 0]) rfl k22 kn3 s3 (by simp [Act.eval]) rfl (by decide) (by decide) (by simp [Value.cells])) fun a10 S10=>?_
  obtain ⟨w8,hw8,m8,z8,n8,o8⟩:=Af1 w7 (.cells [Value.int .i64 1,.int .i64 1,.int .i64 0].toArray 3)
  rw [hw8]
  have hc8:w8.heap[w2.heap.size]?=some (.cells #[.slice (some ⟨b3,0,none⟩) 2 2,.slice (some ⟨b4,0,none⟩) 2 2] 42 (0,0)):=by
   rw [o8 _ (by omega),o7 _ (by omega),o6 _ (by omega),o5 _ (by omega)];exact t2
  refine Ae2 S10 (d:=9) rfl (by decide) rfl (Bm5 yok rfl fs42 rfl (b:=w2.heap.size) (off:=0) (by simp [S10.eval,upd])) fun a11 S11=>?_
  obtain ⟨w9,q0,q1,q3,q2⟩:=Df4 (P:=Tryz.prog) (a:=a11) (w:=w8) (p:=.tmp 9) (q:=.tmp 7) yok (t:=40) kn40 s40 (b:=w2.heap.size) (v:=.slice (some ⟨w6.heap.size,0,none⟩) 3 cap) (by simp [S11.eval,upd]) (by simp [S11.eval,upd]) rfl rfl hc8
  refine As6 S11 rfl rfl (q0 _ rfl) fun a12 S12=>?_
  refine Ae2 S12 (d:=10) rfl (by decide) rfl (Bm5 yok rfl fs42 rfl (b:=w2.heap.size) (off:=0) (by simp [S12.eval,upd])) fun a13 S13=>?_
  obtain ⟨w10,r0,r1,r3,r2⟩:=Df3 (P:=Tryz.prog) (a:=a13) (w:=w9) (p:=.tmp 10) (q:=.tmp 8) yok (t:=22) kn22 s22 (b:=w2.heap.size) (v:=.slice (some ⟨w7.heap.size,0,none⟩) 3 3) (by simp [S13.eval,upd]) (by simp [S13.eval,upd]) rfl rfl q1
  refine As6 S13 rfl rfl (r0 _ rfl) fun a14 S14=>?_
  refine wp_seq (wp_region_list ?_)
  refine Ae2 S14 (d:=11) rfl (by decide) rfl (Cl1 yok (b:=w2.heap.size) (cur:=#[.slice (some ⟨w6.heap.size,0,none⟩) 3 cap,.slice (some ⟨w7.heap.size,0,none⟩) 3 3]) (t:=42) rfl a42 (by simp [S14.eval,upd]) (by rw [s42];rfl) r1) fun a15 S15=>?_
  have hn0:w10.heap[w.heap.size]?=some (.cells #[.slice none 0 0,.slice none 0 0] 42 (0,0)):=by
   rw [r2 _ (by omega),q2 _ (by omega),o8 _ (by omega),o7 _ (by omega),o6 _ (by omega),o5 _ (by omega),t4 _ (by omega),o3 _ (by omega),A.old _ (by omega)];exact n1
  have H:=fun (o:Oper) (ho:o.op=Op.store 42 (.tmp 0) (.tmp 11))=>Al3 (P:=Tryz.prog) (a:=a15) (w:=w10) (v:=.agg #[.slice (some ⟨w6.heap.size,0,none⟩) 3 cap,.slice (some ⟨w7.heap.size,0,none⟩) 3 3]) (b:=w.heap.size) (o:=o)
   yok (t:=42) ho kn42 (by simp [S15.eval,upd]) (by simp [S15.eval,upd]) (by rw [s42];rfl) (by rw [s42];rfl) (by simp [Value.cells,Value.oneCell']) hn0
  obtain ⟨_,v2,v3,v4⟩:=H (stO 42 (.tmp 0) (.tmp 11)) rfl
  refine As6 S15 rfl rfl (H _ rfl).1 fun a16 S16=>?_
  clear H
  generalize w10.setRow w.heap.size (Value.agg #[.slice (some ⟨w6.heap.size,0,none⟩) 3 cap,.slice (some ⟨w7.heap.size,0,none⟩) 3 3]).cells=w11 at v2 v3 v4 ⊢
  refine wp_ret ?_
  show Leaves Tryz.prog Tryz.f72 a16.tmps _ a16.defers .returning w11
  rw [S16.defers]
  have e1:=A84 (f:=Tryz.f72) (t:=0) Tryz.results72 (a:=a16) (w:=w11) (b1:=w.heap.size) (by rw [S16.get 0 (by decide)];simp [upd]) rfl v2
  have y1:=q3.size
  have y2:=r3.size
  have y3:=v3.size
  have old:∀ b,b<w8.heap.size->b≠w2.heap.size->b≠w.heap.size->w11.heap[b]?=w8.heap[b]?:=fun b hb h1 h2=>by rw [v4 _ h2,r2 _ h1,q2 _ h1]
  have old6:∀ b,b<w4.heap.size->b≠w2.heap.size->b≠w.heap.size->w11.heap[b]?=w4.heap[b]?:=fun b hb h1 h2=>by rw [old b (by omega) h1 h2,o8 _ (by omega),o7 _ (by omega),o6 _ (by omega),o5 _ hb]
  have oldA:∀ b,b<w2.heap.size->b≠w.heap.size->w11.heap[b]?=w2.heap[b]?:=fun b hb h2=>by rw [old6 b (by omega) (by omega) h2,t4 _ (by omega),o3 _ hb]
  refine ⟨_,e1,_,b1,b2,w4.heap.size,w6.heap.size,w7.heap.size,cap,zs,rfl,⟨?_,fun b hb=>?_,rfl,⟨hc1,hc2⟩,by omega,?_,?_,?_,?_,?_⟩⟩
  ·exact ((((((((((m1.trans A.same).trans m3).trans t3).trans m5).trans m6).trans hds).trans m7).trans m8).trans q3).trans r3).trans v3
  ·rw [oldA b (by omega) (by omega),A.old _ (by omega),o1 _ hb]
  ·rw [oldA _ (by omega) (by omega)];exact A.c1
  ·rw [oldA _ (by omega) (by omega)];exact A.c2
  ·rw [old _ (by omega) (by omega) (by omega),o8 _ (by omega),o7 _ (by omega),o6 _ (by omega)];exact n5
  ·rw [old _ (by omega) (by omega) (by omega),o8 _ (by omega)];exact n7
  ·rw [old _ (by omega) (by omega) (by omega)];exact n8
 ·obtain ⟨_,_,_,_,_,h,_⟩:=hr;cases h
 ·obtain ⟨_,_,_,_,_,h,_⟩:=hr;cases h
theorem Bi2 {vis:Nat->Nat} {w:World} {b:Nat} {l:List Int} {T:TypeId} {f:Nat×Nat} (hl:l.length<=100) (hb:w.heap[b]?=some (.cells (l.map (Value.int .i64)).toArray T f)) (hv:l.length<=vis b):Rep vis w (.l eI l) (.slice (some ⟨b,0,none⟩) l.length l.length):=by
 refine .s _ _ _ b 0 l.length 1 (fun i _=>.int .i64 (nth l i)) (Nat.le_refl _) (by unfold maxLen;omega) (fun i hi=>rfl) (by omega) (fun i j c hi hj=>?_) (fun i j c hi hj=>?_)
 ·have hj0:j=0:=by
   have:=(List.getElem?_eq_some_iff.1 hj).1
   have h1:(eI (nth l i)).length=1:=rfl
   omega
  subst hj0
  simp only [World.cell?,hb]
  rw [show 0+i*1+0=i by omega]
  simp [Aj3 hi,hi]
 ·have hj0:j=0:=by
   have:=(List.getElem?_eq_some_iff.1 hj).1
   have h1:(eI (nth l i)).length=1:=rfl
   omega
  subst hj0
  obtain rfl:C.v (.int .i64 (nth l i))=c:=Option.some.inj hj
  exact .v _ rfl
theorem A03 {Gl:World->Prop}:CO Gl 72 [] (.ret (Aa6 exB)):=by
 refine ⟨⟨Tryz.f72,by kernel_rfl,by kernel_rfl,by kernel_rfl⟩,fun vis w vs hvis hgl hargs=>?_⟩
 obtain rfl:vs=#[]:=by
  simp only [Ab0] at hargs
  exact Array.toList_eq_nil_iff.1 hargs
 refine (Dy w).mono ?_
 rintro en w' ⟨v,b1,b2,d1,d3,d4,cap,zs,rfl,A⟩
 have hA:=A.lo
 have hcap:=A.cap
 refine ⟨⟨A.same.os,A.same.tape,A.same.output,A.same.size,A.old⟩,v,fun b=>if b<w.heap.size then vis b else if b<w'.heap.size then 4 else 0,rfl,fun b hb=>if_pos hb,fun b hb=>?_,?_⟩
 ·have:=A.same.size
  show (if b<w.heap.size then vis b else if b<w'.heap.size then 4 else 0)=0
  rw [if_neg (by omega),if_neg (by omega)]
 ·generalize hvv:(fun b=>if b<w.heap.size then vis b else if b<w'.heap.size then 4 else 0)=vv
  have hv4:∀ b,w.heap.size<=b->b<w'.heap.size->vv b=4:=fun b h1 h2=>by rw [<-hvv];show (if b<w.heap.size then vis b else if b<w'.heap.size then 4 else 0)=4;rw [if_neg (by omega),if_pos h2]
  have hval:=A.val
  subst hval
  have i1:=Bi2 (vis:=vv) (l:=[123,45,-60,7]) (by decide) A.c1 (by rw [hv4 _ (by omega) (by omega)];decide)
  have i2:=Bi2 (vis:=vv) (l:=[132,45,60,7]) (by decide) A.c2 (by rw [hv4 _ (by omega) (by omega)];decide)
  have i3:=Bi2 (vis:=vv) (l:=[123,45,60,7]) (by decide) A.e1 (by rw [hv4 _ (by omega) (by omega)];decide)
  have i4:=Bi2 (vis:=vv) (l:=[1,1,0]) (by decide) A.e4 (by rw [hv4 _ (by omega) (by omega)];decide)
  refine ⟨_,rfl,rfl,fun j c u hc hu=>?_⟩
  match j,hc,hu with
  |0,hc,hu=>
   obtain rfl:=Option.some.inj hc
   obtain rfl:=Option.some.inj hu
   refine .s _ _ _ d3 0 cap 1 (fun i _=>match i with|0=>.slice (some ⟨b1,0,none⟩) 4 4|1=>.slice (some ⟨b2,0,none⟩) 4 4|_=>.slice (some ⟨d1,0,none⟩) 4 4) hcap.1 hcap.2 (fun i hi=>rfl) (by rw [hv4 _ (by omega) (by omega)];decide) (fun i j c hi hj=>?_) (fun i j c hi hj=>?_)
   ·have hj0:j=0:=by
     have h1:=(List.getElem?_eq_some_iff.1 hj).1
     have h2:(Ac2 (nth exB.cols i)).length=1:=rfl
     omega
    subst hj0
    have hi:i<3:=hi
    match i,hi with
    |0,_=>
     simp only [World.cell?,A.e3]
     exact (Array.getElem?_append_left (show 0<3 by decide)).trans rfl
    |1,_=>
     simp only [World.cell?,A.e3]
     exact (Array.getElem?_append_left (show 1<3 by decide)).trans rfl
    |2,_=>
     simp only [World.cell?,A.e3]
     exact (Array.getElem?_append_left (show 2<3 by decide)).trans rfl
   ·have hj0:j=0:=by
     have h1:=(List.getElem?_eq_some_iff.1 hj).1
     have h2:(Ac2 (nth exB.cols i)).length=1:=rfl
     omega
    subst hj0
    obtain rfl:C.l eI (nth exB.cols i)=c:=Option.some.inj hj
    have hi:i<3:=hi
    match i,hi with
    |0,_=>exact i1
    |1,_=>exact i2
    |2,_=>exact i3
  |1,hc,hu=>
   obtain rfl:=Option.some.inj hc
   obtain rfl:=Option.some.inj hu
   exact i4
  |j+2,hc,hu=>cases hc
def Bc2 (a b:Sheet) (i:Nat):Bool:=Ah8 (·==·) (nth a.cols i) (nth b.cols i)
def Ap3 (a b:Sheet):Bool:=(Ah8 (·==·) a.errs b.errs&&a.cols.length==b.cols.length)&&(List.range a.cols.length).all (Bc2 a b)
theorem B60 {Gl} (S:SP Gl) (a b:Sheet):CO Gl 68 [Aa6 a,Aa6 b] (.ret (B (Ap3 a b))):=by
 refine Ac4 S (let A0:=(eqB (!Ah8 (fun x1 x2=>x1==x2) a.2 b.2) false=true->eqB (!Ah8 (fun x1 x2=>x1==x2) a.2 b.2) false=true);let A1:=(fun x1 x2=>x1==x2);let A2:=(List.range (List.length (Sheet.cols a)));let A3:=(bif !Ah8 A1 a.2 b.2 then true else (a.1.length:Int) != (b.1.length:Int));let A4:=(!Ah8 A1 a.2 b.2);((.r (.ret (B (Ah8 A1 a.2 b.2))) (.br .nil (.loop (Ap0 (Bc2 a b) A2) (fun k=>v 5 (I k)::v 2 (ad 2)::v 3 (ad 3)::(bx 2 (Ac0 a)++bx 3 (Ac0 b))) fun k0=>.br (.r (.ret (B (Ah8 A1 (nth a.1 k0) (nth b.1 k0)))) (.br .nil .nil)) .nil))),(CO Gl 34 [L eI a.2,L eI b.2] (.ret (B (Ah8 A1 a.2 b.2)))/\A0/\A0/\((eqB A4 false=true->a.1.length<=maxLen)->A0/\A0/\((eqB A4 false=true->b.1.length<=maxLen)->A0/\A0/\(A4=false->eqB A4 false=true)/\(A3=true->false=Ap3 a b)/\(A3=false->(0=(↑(0:Nat):Int)/\(sR Ac2 a.1)/\(sR eI a.2)/\(sR Ac2 b.1)/\sR eI b.2)/\∀ (k0:Nat),k0<=Ap0 (Bc2 a b) A2->a.1.length<=maxLen->(decide ((k0:Int)<(a.1.length:Int))=true->(0<=(k0:Int)/\(k0:Int)<(a.1.length:Int))/\(0<=(k0:Int)/\(k0:Int)<(b.1.length:Int))/\CO Gl 34 [L eI (nth a.1 k0),L eI (nth b.1 k0)] (.ret (B (Ah8 A1 (nth a.1 k0) (nth b.1 k0))))/\((!Ah8 A1 (nth a.1 k0) (nth b.1 k0))=true->false=Ap3 a b)/\((!Ah8 A1 (nth a.1 k0) (nth b.1 k0))=false->iR ((k0:Int)+1)/\k0<Ap0 (Bc2 a b) A2/\(k0:Int)+1=(↑(k0+1):Int)/\(sR Ac2 a.1)/\(sR eI a.2)/\(sR Ac2 b.1)/\sR eI b.2))/\(decide ((k0:Int)<(a.1.length:Int))=false->true=Ap3 a b))))))) Tryz.func68 (by kernel_rfl) (by kernel_rfl) ?_
 simp only [stdS,imp_self,implies_true,and_true,A48]
 refine ⟨Cz1 S _ _,fun _ _=>⟨fun h=>?_,fun h=>?_⟩⟩
 ·unfold Ap3
  cases hx:Ah8 (·==·) a.errs b.errs<;>cases hy:a.cols.length==b.cols.length<;>rw [hx,hy] at h<;>first|rfl|cases h
 ·have hxy:Ah8 (·==·) a.errs b.errs=true/\(a.cols.length==b.cols.length)=true:=by
   cases hx:Ah8 (·==·) a.errs b.errs<;>cases hy:a.cols.length==b.cols.length<;>rw [hx,hy] at h<;>first|exact ⟨rfl,rfl⟩|cases h
  obtain ⟨hx,hy⟩:=hxy
  have hlen:a.cols.length=b.cols.length:=by simpa using hy
  refine fun k hk hm=>⟨fun hd=>?_,fun hd=>?_⟩
  ·have hlt:k<a.cols.length:=by have:=of_decide_eq_true hd;omega
   refine ⟨⟨by omega,by omega⟩,⟨by omega,by omega⟩,Cz1 S _ _,fun hb=>?_,fun hb=>⟨Bz7 hd hm,Ap hk (by rw [List.length_range];exact hlt) (by rw [Ab4 hlt];exact hb),by omega,trivial⟩⟩
   have:(List.range a.cols.length).all (Bc2 a b)=false:=An1 (k:=k) (by rw [List.length_range];exact hlt) (by rw [Ab4 hlt];exact hb)
   unfold Ap3
   rw [this,Bool.and_false]
  ·have hge:¬ (k:Int)<(a.cols.length:Int):=of_decide_eq_false hd
   have:(List.range a.cols.length).all (Bc2 a b)=true:=Ai3 (by rw [List.length_range];omega)
   unfold Ap3
   rw [this,hx,hy]
   rfl
section
variable {Gl} (S:SP Gl) (s:Sheet)
include S
end
set_option maxRecDepth 100000
set_option maxHeartbeats 8000000
theorem Dt5 {Gl} (S:SP Gl) (hG:GlOK Gl) (t:List UInt8) {x:Sheet} {e:Int} (h1:Cl t=x) (h2:Cl0 t=e):CO Gl 66 [str t] (.ret (.tup [.agg (Ac0 x),.c (Ci e)])):=by
 subst h1;subst h2;exact C05 S hG t
theorem sameN {Gl} (S:SP Gl):CO Gl 68 [Aa6 ⟨[],[]⟩,.d (.agg [.v (.slice none 0 0),.v (.slice none 0 0)])] (.ret (B true)):=
 (B60 S ⟨[],[]⟩ ⟨[],[]⟩).args (xs:=[Aa6 ⟨[],[]⟩,.d (.agg [.v (.slice none 0 0),.v (.slice none 0 0)])]) ⟨Aa8 rfl,Aa8 rfl,rfl,rfl⟩
theorem Af6 {Gl} (S:SP Gl) (s:Sheet) {b:Bool} (h:(shortB s&&s.ok)=b):CO Gl 44 [Aa6 s] (.ret (B b)):=by
 rw [<-h];exact Dt S s
theorem Bc4 {s:Sheet} (h:(shortB s&&s.ok)=true):s.ok=true:=(Bool.and_eq_true_iff.1 h).2
theorem law19a {Gl} (S:SP Gl) (s:Sheet) (at' digit:Int) (hG:GlOK Gl) (h:(shortB s&&s.ok)=false):CO Gl 19 [Aa6 s,I at',I digit] (.ret (B true)):=by
 refine Ag5 S (.r (.ret (B false)) (.skip (16:Nat) (.skip (17:Nat) (.skip (20:Nat) (.skip (21:Nat) (.tt (.r (.ret (B true)) .nil))))))) Tryz.func19 (by kernel_rfl) (CO Gl 44 [Aa6 s] (.ret (B false))/\false=false/\false=false/\(true=false->false=true)/\false=false/\false=false/\(true=false->false=true)/\true=true/\CO Gl 21 [] (.ret (B true))/\true=true) (by kernel_rfl) ?_
 simp only [stdS,imp_self,implies_true,and_true,Bool.false_and,Bool.true_and,Bool.and_true,Bool.and_false,Bool.false_or,Bool.true_or,Bool.or_false,Bool.or_true,Bool.false_eq_true,false_implies,true_implies]
 repeat' first|with_reducible apply And.intro|with_reducible intro _
 all_goals first
  |contradiction
  |with_reducible exact Ai0 S hG A03
  |with_reducible exact Af6 S s h
  |exact Ai0 S hG A03
  |exact Af6 S s h
  |exact trivial
  |rfl
  |omega
theorem law19b {Gl} (S:SP Gl) (s:Sheet) (at' digit:Int) (hG:GlOK Gl) (h:(shortB s&&s.ok)=true) (e1:decide (digit<0)=true):CO Gl 19 [Aa6 s,I at',I digit] (.ret (B true)):=by
 refine Ag5 S (.r (.ret (B true)) (.sure 16 (.val 17 true (.sure 17 (.skip (20:Nat) (.skip (21:Nat) (.tt (.r (.ret (B true)) .nil)))))))) Tryz.func19 (by kernel_rfl) (CO Gl 44 [Aa6 s] (.ret (B true))/\true=true/\decide (digit<(0:Int))=true/\true=true/\false=false/\false=false/\(true=false->false=true)/\true=true/\CO Gl 21 [] (.ret (B true))/\true=true) (by kernel_rfl) ?_
 simp only [stdS,imp_self,implies_true,and_true,Bool.false_and,Bool.true_and,Bool.and_true,Bool.and_false,Bool.false_or,Bool.true_or,Bool.or_false,Bool.or_true,Bool.false_eq_true,false_implies,true_implies,e1]
 repeat' first|with_reducible apply And.intro|with_reducible intro _
 all_goals first
  |contradiction
  |with_reducible exact Ai0 S hG A03
  |with_reducible exact Af6 S s h
  |exact Ai0 S hG A03
  |exact Af6 S s h
  |exact trivial
  |rfl
  |omega
theorem law19c {Gl} (S:SP Gl) (s:Sheet) (at' digit:Int) (hG:GlOK Gl) (h:(shortB s&&s.ok)=true) (e1:decide (digit<0)=false) (e2:decide (9<digit)=true):CO Gl 19 [Aa6 s,I at',I digit] (.ret (B true)):=by
 refine Ag5 S (.r (.ret (B true)) (.sure 16 (.val 17 false (.sure 17 (.sure 20 (.val 21 true (.sure 21 (.tt (.r (.ret (B true)) .nil))))))))) Tryz.func19 (by kernel_rfl) (CO Gl 44 [Aa6 s] (.ret (B true))/\true=true/\decide (digit<(0:Int))=false/\true=true/\true=true/\decide ((9:Int)<digit)=true/\true=true/\true=true/\CO Gl 21 [] (.ret (B true))/\true=true) (by kernel_rfl) ?_
 simp only [stdS,imp_self,implies_true,and_true,Bool.false_and,Bool.true_and,Bool.and_true,Bool.and_false,Bool.false_or,Bool.true_or,Bool.or_false,Bool.or_true,Bool.false_eq_true,false_implies,true_implies,e1,e2]
 repeat' first|with_reducible apply And.intro|with_reducible intro _
 all_goals first
  |contradiction
  |with_reducible exact Ai0 S hG A03
  |with_reducible exact Af6 S s h
  |exact Ai0 S hG A03
  |exact Af6 S s h
  |exact trivial
  |rfl
  |omega
theorem law19d {Gl} (S:SP Gl) (s:Sheet) (at' digit:Int) (hG:GlOK Gl) (h:(shortB s&&s.ok)=true) (e1:decide (digit<0)=false) (e2:decide (9<digit)=false) (e3:decide (at'<0)=true):CO Gl 19 [Aa6 s,I at',I digit] (.ret (B true)):=by
 refine Ac4 S (let A0:=(true=false->false=true);let A1:=[D.c (C.v (Value.string (bs (Ab6 s)))),D.c (Ci 0)];((.r (.ret (B true)) (.sure 16 (.val 17 false (.sure 17 (.sure 20 (.val 21 false (.sure 21 (.ff (.r (.ret (.tup A1)) (.ff (.val 32 true (.skip (34:Nat) (.skip (35:Nat) (.skip (36:Nat) (.skip (37:Nat) (.skip (40:Nat) (.skip (41:Nat) (.skip (42:Nat) (.skip (43:Nat) (.skip (46:Nat) (.skip (47:Nat) (.skip (48:Nat) (.skip (49:Nat) (.skip (52:Nat) (.skip (53:Nat) (.skip (54:Nat) (.skip (55:Nat) (.skip (56:Nat) (.skip (57:Nat) (.skip (58:Nat) (.tt (.r (.ret (B true)) .nil)))))))))))))))))))))))))))))))),(CO Gl 44 [Aa6 s] (.ret (B true))/\true=true/\decide (digit<(0:Int))=false/\true=true/\true=true/\decide ((9:Int)<digit)=false/\true=true/\false=false/\CO Gl 65 [Aa6 s] (.ret (.tup A1))/\false=false/\decide (at'<(0:Int))=true/\false=false/\false=false/\false=false/\false=false/\A0/\false=false/\false=false/\false=false/\false=false/\A0/\false=false/\false=false/\false=false/\false=false/\A0/\false=false/\false=false/\false=false/\false=false/\false=false/\false=false/\false=false/\A0/\true=true/\CO Gl 21 [] (.ret (B true))/\true=true))) Tryz.func19 (by kernel_rfl) (by kernel_rfl) ?_
 simp only [stdS,imp_self,implies_true,and_true,Bool.false_and,Bool.true_and,Bool.and_true,Bool.and_false,Bool.false_or,Bool.true_or,Bool.or_false,Bool.or_true,Bool.false_eq_true,false_implies,true_implies,e1,e2,e3]
 repeat' first|with_reducible apply And.intro|with_reducible intro _
 all_goals first
  |contradiction
  |with_reducible exact Ai0 S hG A03
  |with_reducible exact Af6 S s h
  |with_reducible exact Ap8 S hG s (Bc4 h)
  |exact Ai0 S hG A03
  |exact Af6 S s h
  |exact Ap8 S hG s (Bc4 h)
  |exact trivial
  |rfl
  |omega
theorem law19e {Gl} (S:SP Gl) (s:Sheet) (at' digit:Int) (hG:GlOK Gl) (h:(shortB s&&s.ok)=true) (e1:decide (digit<0)=false) (e2:decide (9<digit)=false) (e3:decide (at'<0)=false) (e4:decide (((bs (Ab6 s)).size:Int)<=at')=true):CO Gl 19 [Aa6 s,I at',I digit] (.ret (B true)):=by
 refine Ac4 S (let A0:=[D.c (C.v (Value.string (bs (Ab6 s)))),D.c (Ci 0)];let A1:=(true=false->false=true);((.r (.ret (B true)) (.sure 16 (.val 17 false (.sure 17 (.sure 20 (.val 21 false (.sure 21 (.ff (.r (.ret (.tup A0)) (.ff (.val 32 false (.sure 34 (.sure 35 (.sure 36 (.val 37 true (.sure 37 (.skip (40:Nat) (.skip (41:Nat) (.skip (42:Nat) (.skip (43:Nat) (.skip (46:Nat) (.skip (47:Nat) (.skip (48:Nat) (.skip (49:Nat) (.skip (52:Nat) (.skip (53:Nat) (.skip (54:Nat) (.skip (55:Nat) (.skip (56:Nat) (.skip (57:Nat) (.skip (58:Nat) (.tt (.r (.ret (B true)) .nil))))))))))))))))))))))))))))))))),(CO Gl 44 [Aa6 s] (.ret (B true))/\true=true/\decide (digit<(0:Int))=false/\true=true/\true=true/\decide ((9:Int)<digit)=false/\true=true/\false=false/\CO Gl 65 [Aa6 s] (.ret (.tup A0))/\false=false/\decide (at'<(0:Int))=false/\true=true/\true=true/\true=true/\decide ((↑(ByteArray.size (bs (Ab6 s))):Int)<=at')=true/\true=true/\false=false/\false=false/\false=false/\false=false/\A1/\false=false/\false=false/\false=false/\false=false/\A1/\false=false/\false=false/\false=false/\false=false/\false=false/\false=false/\false=false/\A1/\true=true/\CO Gl 21 [] (.ret (B true))/\true=true))) Tryz.func19 (by kernel_rfl) (by kernel_rfl) ?_
 simp only [stdS,imp_self,implies_true,and_true,Bool.false_and,Bool.true_and,Bool.and_true,Bool.and_false,Bool.false_or,Bool.true_or,Bool.or_false,Bool.or_true,Bool.false_eq_true,false_implies,true_implies,e1,e2,e3,e4]
 repeat' first|with_reducible apply And.intro|with_reducible intro _
 all_goals first
  |contradiction
  |with_reducible exact Ai0 S hG A03
  |with_reducible exact Af6 S s h
  |with_reducible exact Ap8 S hG s (Bc4 h)
  |exact Ai0 S hG A03
  |exact Af6 S s h
  |exact Ap8 S hG s (Bc4 h)
  |exact trivial
  |rfl
  |omega
theorem law19f {Gl} (S:SP Gl) (s:Sheet) (at' digit:Int) (hG:GlOK Gl) (h:(shortB s&&s.ok)=true) (e1:decide (digit<0)=false) (e2:decide (9<digit)=false) (e3:decide (at'<0)=false) (e4:decide (((bs (Ab6 s)).size:Int)<=at')=false) (e5:decide (Ad6 (bs (Ab6 s)) at'.toNat<48)=true):CO Gl 19 [Aa6 s,I at',I digit] (.ret (B true)):=by
 refine Ac4 S (let A0:=[D.c (C.v (Value.string (bs (Ab6 s)))),D.c (Ci 0)];((.r (.ret (B true)) (.sure 16 (.val 17 false (.sure 17 (.sure 20 (.val 21 false (.sure 21 (.ff (.r (.ret (.tup A0)) (.ff (.val 32 false (.sure 34 (.sure 35 (.sure 36 (.val 37 false (.sure 37 (.sure 40 (.sure 41 (.sure 42 (.val 43 true (.sure 43 (.skip (46:Nat) (.skip (47:Nat) (.skip (48:Nat) (.skip (49:Nat) (.skip (52:Nat) (.skip (53:Nat) (.skip (54:Nat) (.skip (55:Nat) (.skip (56:Nat) (.skip (57:Nat) (.skip (58:Nat) (.tt (.r (.ret (B true)) .nil)))))))))))))))))))))))))))))))))),(CO Gl 44 [Aa6 s] (.ret (B true))/\true=true/\decide (digit<(0:Int))=false/\true=true/\true=true/\decide ((9:Int)<digit)=false/\true=true/\false=false/\CO Gl 65 [Aa6 s] (.ret (.tup A0))/\false=false/\decide (at'<(0:Int))=false/\true=true/\true=true/\true=true/\decide ((↑(ByteArray.size (bs (Ab6 s))):Int)<=at')=false/\true=true/\true=true/\true=true/\true=true/\((0:Int)<=at'/\at'<(↑(ByteArray.size (bs (Ab6 s))):Int))/\decide (Ad6 (bs (Ab6 s)) (Int.toNat at')<(48:Int))=true/\true=true/\false=false/\false=false/\false=false/\false=false/\(true=false->false=true)/\false=false/\false=false/\false=false/\false=false/\false=false/\false=false/\false=false/\(true=false->false=true)/\true=true/\CO Gl 21 [] (.ret (B true))/\true=true))) Tryz.func19 (by kernel_rfl) (by kernel_rfl) ?_
 have f1:=of_decide_eq_false e1
 have f2:=of_decide_eq_false e2
 have f3:=of_decide_eq_false e3
 have f4:=of_decide_eq_false e4
 simp only [stdS,imp_self,implies_true,and_true,Bool.false_and,Bool.true_and,Bool.and_true,Bool.and_false,Bool.false_or,Bool.true_or,Bool.or_false,Bool.or_true,Bool.false_eq_true,false_implies,true_implies,e1,e2,e3,e4,e5,Aa1,Bf0]
 repeat' first|with_reducible apply And.intro|with_reducible intro _
 all_goals first
  |contradiction
  |with_reducible exact Ai0 S hG A03
  |with_reducible exact Af6 S s h
  |with_reducible exact Ap8 S hG s (Bc4 h)
  |exact Ai0 S hG A03
  |exact Af6 S s h
  |exact Ap8 S hG s (Bc4 h)
  |exact trivial
  |rfl
  |omega
theorem law19g {Gl} (S:SP Gl) (s:Sheet) (at' digit:Int) (hG:GlOK Gl) (h:(shortB s&&s.ok)=true) (e1:decide (digit<0)=false) (e2:decide (9<digit)=false) (e3:decide (at'<0)=false) (e4:decide (((bs (Ab6 s)).size:Int)<=at')=false) (e5:decide (Ad6 (bs (Ab6 s)) at'.toNat<48)=false) (e6:decide (57<Ad6 (bs (Ab6 s)) at'.toNat)=true):CO Gl 19 [Aa6 s,I at',I digit] (.ret (B true)):=by
 refine Ac4 S (let A0:=((0:Int)<=at'/\at'<(↑(ByteArray.size (bs (Ab6 s))):Int));let A1:=[D.c (C.v (Value.string (bs (Ab6 s)))),D.c (Ci 0)];((.r (.ret (B true)) (.sure 16 (.val 17 false (.sure 17 (.sure 20 (.val 21 false (.sure 21 (.ff (.r (.ret (.tup A1)) (.ff (.val 32 false (.sure 34 (.sure 35 (.sure 36 (.val 37 false (.sure 37 (.sure 40 (.sure 41 (.sure 42 (.val 43 false (.sure 43 (.sure 46 (.sure 47 (.sure 48 (.val 49 true (.sure 49 (.skip (52:Nat) (.skip (53:Nat) (.skip (54:Nat) (.skip (55:Nat) (.skip (56:Nat) (.skip (57:Nat) (.skip (58:Nat) (.tt (.r (.ret (B true)) .nil))))))))))))))))))))))))))))))))))),(CO Gl 44 [Aa6 s] (.ret (B true))/\true=true/\decide (digit<(0:Int))=false/\true=true/\true=true/\decide ((9:Int)<digit)=false/\true=true/\false=false/\CO Gl 65 [Aa6 s] (.ret (.tup A1))/\false=false/\decide (at'<(0:Int))=false/\true=true/\true=true/\true=true/\decide ((↑(ByteArray.size (bs (Ab6 s))):Int)<=at')=false/\true=true/\true=true/\true=true/\true=true/\A0/\decide (Ad6 (bs (Ab6 s)) (Int.toNat at')<(48:Int))=false/\true=true/\true=true/\true=true/\true=true/\A0/\decide ((57:Int)<Ad6 (bs (Ab6 s)) (Int.toNat at'))=true/\true=true/\false=false/\false=false/\false=false/\false=false/\false=false/\false=false/\false=false/\(true=false->false=true)/\true=true/\CO Gl 21 [] (.ret (B true))/\true=true))) Tryz.func19 (by kernel_rfl) (by kernel_rfl) ?_
 have f1:=of_decide_eq_false e1
 have f2:=of_decide_eq_false e2
 have f3:=of_decide_eq_false e3
 have f4:=of_decide_eq_false e4
 have f5:=of_decide_eq_false e5
 simp only [stdS,imp_self,implies_true,and_true,Bool.false_and,Bool.true_and,Bool.and_true,Bool.and_false,Bool.false_or,Bool.true_or,Bool.or_false,Bool.or_true,Bool.false_eq_true,false_implies,true_implies,e1,e2,e3,e4,e5,e6,Aa1,Bf0]
 repeat' first|with_reducible apply And.intro|with_reducible intro _
 all_goals first
  |contradiction
  |with_reducible exact Ai0 S hG A03
  |with_reducible exact Af6 S s h
  |with_reducible exact Ap8 S hG s (Bc4 h)
  |exact Ai0 S hG A03
  |exact Af6 S s h
  |exact Ap8 S hG s (Bc4 h)
  |exact trivial
  |rfl
  |omega
theorem law19i {Gl} (S:SP Gl) (s:Sheet) (at' digit:Int) (hG:GlOK Gl) (h:(shortB s&&s.ok)=true) (e1:decide (digit<0)=false) (e2:decide (9<digit)=false) (e3:decide (at'<0)=false) (e4:decide (((bs (Ab6 s)).size:Int)<=at')=false) (e5:decide (Ad6 (bs (Ab6 s)) at'.toNat<48)=false) (e6:decide (57<Ad6 (bs (Ab6 s)) at'.toNat)=false) (e7:(Ad6 (bs (Ab6 s)) at'.toNat - 48==digit)=true):CO Gl 19 [Aa6 s,I at',I digit] (.ret (B true)):=by
 refine Ac4 S (let A0:=((0:Int)<=at'/\at'<(↑(ByteArray.size (bs (Ab6 s))):Int));let A1:=[D.c (C.v (Value.string (bs (Ab6 s)))),D.c (Ci 0)];let A2:=(Ad6 (bs (Ab6 s)) (Int.toNat at')-(48:Int));((.r (.ret (B true)) (.sure 16 (.val 17 false (.sure 17 (.sure 20 (.val 21 false (.sure 21 (.ff (.r (.ret (.tup A1)) (.ff (.val 32 false (.sure 34 (.sure 35 (.sure 36 (.val 37 false (.sure 37 (.sure 40 (.sure 41 (.sure 42 (.val 43 false (.sure 43 (.sure 46 (.sure 47 (.sure 48 (.val 49 false (.sure 49 (.sure 52 (.sure 53 (.sure 54 (.sure 55 (.sure 56 (.sure 57 (.val 58 true (.sure 58 (.tt (.r (.ret (B true)) .nil)))))))))))))))))))))))))))))))))))),(CO Gl 44 [Aa6 s] (.ret (B true))/\true=true/\decide (digit<(0:Int))=false/\true=true/\true=true/\decide ((9:Int)<digit)=false/\true=true/\false=false/\CO Gl 65 [Aa6 s] (.ret (.tup A1))/\false=false/\decide (at'<(0:Int))=false/\true=true/\true=true/\true=true/\decide ((↑(ByteArray.size (bs (Ab6 s))):Int)<=at')=false/\true=true/\true=true/\true=true/\true=true/\A0/\decide (Ad6 (bs (Ab6 s)) (Int.toNat at')<(48:Int))=false/\true=true/\true=true/\true=true/\true=true/\A0/\decide ((57:Int)<Ad6 (bs (Ab6 s)) (Int.toNat at'))=false/\true=true/\true=true/\true=true/\true=true/\A0/\true=true/\inRange IntKind.u8 A2/\true=true/\iR A2/\true=true/\(Ad6 (bs (Ab6 s)) (Int.toNat at')-(48:Int)==digit)=true/\true=true/\true=true/\CO Gl 21 [] (.ret (B true))/\true=true))) Tryz.func19 (by kernel_rfl) (by kernel_rfl) ?_
 have f1:=of_decide_eq_false e1
 have f2:=of_decide_eq_false e2
 have f3:=of_decide_eq_false e3
 have f4:=of_decide_eq_false e4
 have f5:=of_decide_eq_false e5
 have f6:=of_decide_eq_false e6
 simp only [stdS,imp_self,implies_true,and_true,Bool.false_and,Bool.true_and,Bool.and_true,Bool.and_false,Bool.false_or,Bool.true_or,Bool.or_false,Bool.or_true,Bool.false_eq_true,false_implies,true_implies,e1,e2,e3,e4,e5,e6,e7,Aa1,Bf0]
 repeat' first|with_reducible apply And.intro|with_reducible intro _
 all_goals first
  |contradiction
  |with_reducible exact Ai0 S hG A03
  |with_reducible exact Af6 S s h
  |with_reducible exact Ap8 S hG s (Bc4 h)
  |exact Ai0 S hG A03
  |exact Af6 S s h
  |exact Ap8 S hG s (Bc4 h)
  |exact trivial
  |rfl
  |omega
def spX (s:Sheet) (at' digit:Int):ByteArray:=
 Al9 (bs (Ab6 s)).size (Cd3 (fun i=>[C.v (Value.int IntKind.u8 (((Ab6 s).toArray.getD i 0).toNat:Int))]) at'.toNat [C.v (Value.int IntKind.u8 (48+digit))])
theorem law19h {Gl} (S:SP Gl) (s:Sheet) (at' digit:Int) (hG:GlOK Gl) (h:(shortB s&&s.ok)=true) (e1:decide (digit<0)=false) (e2:decide (9<digit)=false) (e3:decide (at'<0)=false) (e4:decide (((bs (Ab6 s)).size:Int)<=at')=false) (e5:decide (Ad6 (bs (Ab6 s)) at'.toNat<48)=false) (e6:decide (57<Ad6 (bs (Ab6 s)) at'.toNat)=false) (e7:(Ad6 (bs (Ab6 s)) at'.toNat - 48==digit)=false) (hlen:(bs (Ab6 s)).size<=150) (h70:CO Gl 66 [.d (.c (.v (.string (spX s at' digit))))] (.ret (.tup [.agg (Ac0 ⟨[],[]⟩),.c (Ci 4)]))):CO Gl 19 [Aa6 s,I at',I digit] (.ret (B true)):=by
 refine Ac4 S (let A0:=((0:Int)<=at'/\at'<(↑(ByteArray.size (bs (Ab6 s))):Int));let A1:=(fun (i:Nat)=>[C.v (Value.int IntKind.u8 (↑(UInt8.toNat (Array.getD (List.toArray (Ab6 s)) i (0:UInt8))):Int))]);let A2:=(bs (Ab6 s));let A3:=(List.map C.dem [C.v (Value.int IntKind.u8 ((48:Int)+digit))]);let A4:=(Int.toNat at');((.r (.ret (B true)) (.sure 16 (.val 17 false (.sure 17 (.sure 20 (.val 21 false (.sure 21 (.ff (.r (.ret (.tup [D.c (C.v (Value.string A2)),D.c (Ci 0)])) (.ff (.val 32 false (.sure 34 (.sure 35 (.sure 36 (.val 37 false (.sure 37 (.sure 40 (.sure 41 (.sure 42 (.val 43 false (.sure 43 (.sure 46 (.sure 47 (.sure 48 (.val 49 false (.sure 49 (.sure 52 (.sure 53 (.sure 54 (.sure 55 (.sure 56 (.sure 57 (.val 58 false (.sure 58 (.ff (.arrA (nat_lit 62) (.r (.ret (.tup [D.agg (Ac0 (Sheet.mk [] [])),D.c (Ci 4)])) (.sure 78 (.sure 79 (.sure 80 (.r (.ret (B true)) (.sure 83 (.r (.ret (B true)) .nil))))))))))))))))))))))))))))))))))))))))))),(CO Gl 44 [Aa6 s] (.ret (B true))/\true=true/\decide (digit<(0:Int))=false/\true=true/\true=true/\decide ((9:Int)<digit)=false/\true=true/\false=false/\CO Gl 65 [Aa6 s] (.ret (.tup [D.c (C.v (Value.string A2)),D.c (Ci 0)]))/\false=false/\decide (at'<(0:Int))=false/\true=true/\true=true/\true=true/\decide ((↑(ByteArray.size (bs (Ab6 s))):Int)<=at')=false/\true=true/\true=true/\true=true/\true=true/\A0/\decide (Ad6 (bs (Ab6 s)) (Int.toNat at')<(48:Int))=false/\true=true/\true=true/\true=true/\true=true/\A0/\decide ((57:Int)<Ad6 (bs (Ab6 s)) (Int.toNat at'))=false/\true=true/\true=true/\true=true/\true=true/\A0/\true=true/\inRange IntKind.u8 (Ad6 A2 A4-(48:Int))/\true=true/\iR (Ad6 A2 A4-(48:Int))/\true=true/\(Ad6 A2 A4-(48:Int)==digit)=false/\true=true/\false=false/\ByteArray.size A2<=(140737488355328:Nat)/\iR ((48:Int)+digit)/\inRange IntKind.u8 ((48:Int)+digit)/\A0/\Int.toNat at'<ByteArray.size A2/\ByteArray.size A2=ByteArray.size A2/\(∀ (i:Nat),i<ByteArray.size A2->Cd3 A1 A4 A3 i=[C.v (Value.int IntKind.u8 (Bs2 (Cd3 A1 A4 A3 i)))])/\CO Gl 66 [T.d (D.c (C.v (Value.string (spX s at' digit))))] (.ret (.tup [D.agg (Ac0 (Sheet.mk [] [])),D.c (Ci 4)]))/\true=true/\true=true/\true=true/\CO Gl 68 [Aa6 (Sheet.mk [] []),T.d (D.agg [C.v (Value.slice none 0 0),C.v (Value.slice none 0 0)])] (.ret (B true))/\true=true/\CO Gl 21 [] (.ret (B true))/\true=true))) Tryz.func19 (by kernel_rfl) (by kernel_rfl) ?_
 have f1:=of_decide_eq_false e1
 have f2:=of_decide_eq_false e2
 have f3:=of_decide_eq_false e3
 have f4:=of_decide_eq_false e4
 have f5:=of_decide_eq_false e5
 have f6:=of_decide_eq_false e6
 simp only [stdS,imp_self,implies_true,and_true,Bool.false_and,Bool.true_and,Bool.and_true,Bool.and_false,Bool.false_or,Bool.true_or,Bool.or_false,Bool.or_true,Bool.false_eq_true,false_implies,true_implies,e1,e2,e3,e4,e5,e6,e7,Aa1,Bf0]
 refine ⟨Af6 S s h,Ap8 S hG s (Bc4 h),by omega,by omega,by omega,by omega,by omega,by omega,by omega,by omega,by omega,by omega,fun i _=>?_,h70,?_⟩
 ·unfold Cd3
  cases Nat.beq i at'.toNat<;>rfl
 all_goals
  repeat' first|with_reducible apply And.intro|with_reducible intro _
  all_goals first|exact sameN S|exact Ai0 S hG A03|trivial|rfl
theorem spX_eq {s:Sheet} {at' digit:Int} (h1:at'.toNat<(Ab6 s).length):spX s at' digit=bs ((Ab6 s).set at'.toNat (UInt8.ofNat (48+digit).toNat)):=by
 have hl:(List.range (bs (Ab6 s)).size).map (fun i=>UInt8.ofNat (Bs2 (Cd3 (fun i=>[C.v (Value.int IntKind.u8 (((Ab6 s).toArray.getD i 0).toNat:Int))]) at'.toNat [C.v (Value.int IntKind.u8 (48+digit))] i)).toNat)=(Ab6 s).set at'.toNat (UInt8.ofNat (48+digit).toNat):=by
  refine List.ext_getElem (by rw [List.length_map,List.length_range,List.length_set,Ac]) fun i hi1 hi2=>?_
  rw [List.length_set] at hi2
  rw [List.getElem_map,List.getElem_range,List.getElem_set]
  unfold Cd3
  by_cases hk:at'.toNat=i
  ·rw [if_pos hk,hk,show Nat.beq i i=true from Nat.beq_refl i]
   rfl
  ·rw [if_neg hk,show Nat.beq i at'.toNat=false from (by
    cases hh:Nat.beq i at'.toNat with
    |false=>rfl
    |true=>exact absurd (Nat.eq_of_beq_eq_true hh).symm hk)]
   have e:(Ab6 s).toArray.getD i 0=(Ab6 s)[i]:=by
    rw [Array.getD_eq_getD_getElem?,List.getElem?_toArray,List.getElem?_eq_getElem hi2]
    rfl
   show UInt8.ofNat (((Ab6 s).toArray.getD i 0).toNat:Int).toNat=(Ab6 s)[i]
   rw [e,Int.toNat_natCast,UInt8.ofNat_toNat]
 show ByteArray.mk _=ByteArray.mk _
 rw [hl]
theorem law19z {Gl} (S:SP Gl) (s:Sheet) (at' digit:Int) (hG:GlOK Gl):CO Gl 19 [Aa6 s,I at',I digit] (.ret (B true)):=by
 cases h:(shortB s&&s.ok) with
 |false=>exact law19a S s at' digit hG h
 |true=>
 cases e1:decide (digit<0) with
 |true=>exact law19b S s at' digit hG h e1
 |false=>
 cases e2:decide (9<digit) with
 |true=>exact law19c S s at' digit hG h e1 e2
 |false=>
 cases e3:decide (at'<0) with
 |true=>exact law19d S s at' digit hG h e1 e2 e3
 |false=>
 cases e4:decide (((bs (Ab6 s)).size:Int)<=at') with
 |true=>exact law19e S s at' digit hG h e1 e2 e3 e4
 |false=>
 cases e5:decide (Ad6 (bs (Ab6 s)) at'.toNat<48) with
 |true=>exact law19f S s at' digit hG h e1 e2 e3 e4 e5
 |false=>
 cases e6:decide (57<Ad6 (bs (Ab6 s)) at'.toNat) with
 |true=>exact law19g S s at' digit hG h e1 e2 e3 e4 e5 e6
 |false=>
 cases e7:(Ad6 (bs (Ab6 s)) at'.toNat - 48==digit) with
 |true=>exact law19i S s at' digit hG h e1 e2 e3 e4 e5 e6 e7
 |false=>
  have f1:=of_decide_eq_false e1
  have f2:=of_decide_eq_false e2
  have f3:=of_decide_eq_false e3
  have f4:=of_decide_eq_false e4
  have f5:=of_decide_eq_false e5
  have f6:=of_decide_eq_false e6
  have hlen:=Dd7 (Bc4 h)
  rw [Ac] at f4
  have hp:at'.toNat<(Ab6 s).length:=by omega
  have hx:=Bq5 hp
  have hy:(UInt8.ofNat (48+digit).toNat).toNat=(48+digit).toNat:=by
   rw [UInt8.toNat_ofNat']
   omega
  have hd:Al6 (nth (Ab6 s) at'.toNat)=true:=by
   unfold Al6
   rw [Bool.and_eq_true,decide_eq_true_eq,decide_eq_true_eq]
   omega
  have hyd:Al6 (UInt8.ofNat (48+digit).toNat)=true:=by
   unfold Al6
   rw [Bool.and_eq_true,decide_eq_true_eq,decide_eq_true_eq,hy]
   omega
  have hne:UInt8.ofNat (48+digit).toNat≠nth (Ab6 s) at'.toNat:=fun hh=>by
   have h2:=beq_eq_false_iff_ne.1 e7
   have h3:=congrArg UInt8.toNat hh
   rw [hy] at h3
   omega
  have hs:=spoilt (Bc4 h) hp hd hyd hne
  have hl:((Ab6 s).set at'.toNat (UInt8.ofNat (48+digit).toNat)).length=(Ab6 s).length:=List.length_set
  have hlong:decide (150<((Ab6 s).set at'.toNat (UInt8.ofNat (48+digit).toNat)).length)=false:=decide_eq_false (by omega)
  refine law19h S s at' digit hG h e1 e2 e3 e4 e5 e6 e7 (by rw [Ac];exact hlen) ?_
  rw [spX_eq hp]
  exact Dt5 S hG _ (by unfold Cl;rw [hlong,hs];rfl) (by unfold Cl0;rw [hlong,hs];rfl)
theorem law19 {Gl} (S:SP Gl) (hG:GlOK Gl) (s:Sheet) (at' digit:Int):CO Gl 19 [Aa6 s,I at',I digit] (.ret (B true)):=law19z S s at' digit hG
end Go.Vc.Hn
