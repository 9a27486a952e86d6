/- A part of the proofs over layer 2 (hands): the program and the specification; no condition. -/
import Derived.Test.YtncmcnpjmdpnaaaGreatDoorOE
set_option linter.all false
set_option linter.unusedSimpArgs false
set_option linter.unusedVariables false
namespace Go.Vc.Hn
open Go Go.Proofs Go.Vc Go.RowKit
def nsTo (r:List UInt8) (j:Nat):List Int:=((tl r).take j).map numS
theorem nsTo_len {r:List UInt8} {j:Nat}:(nsTo r j).length<=(tl r).length:=by
 unfold nsTo
 rw [List.length_map,List.length_take]
 omega
theorem nsTo_succ {r:List UInt8} {j:Nat} (h:j<(tl r).length):nsTo r (j+1)=nsTo r j++[numS (nth (tl r) j)]:=by
 unfold nsTo
 rw [take_succ h,List.map_append]
 rfl
theorem nsTo_all (r:List UInt8):nsTo r (tl r).length=nsR r:=by unfold nsTo nsR;rw [List.take_length]
def lnOf:List (List Int)->List Ln
 | []=>[]
 |l::r=>(true,l)::r.map fun x=>(false,x)
def lsT (s:List UInt8):List (List Int):=(mid s).map nsR
def l0T (s:List UInt8):List Int:=nth (lsT s) 0
def colTo (s:List UInt8) (k h:Nat):List Int:=(((lsT s).drop 1).take k).map fun l=>nth l h
def arrE (s:List UInt8) (k j:Nat):Nat->Nat×(Nat->List C):=fun h=>((colTo s (bif Nat.blt h j then k+1 else k) h).length,fun i=>eI (nth (colTo s (bif Nat.blt h j then k+1 else k) h) i))
def arrEk (s:List UInt8) (k:Nat):Nat->Nat×(Nat->List C):=fun h=>((colTo s k h).length,fun i=>eI (nth (colTo s k h) i))
def nilS:C:=.v (.slice none 0 0)
def parE0 (s:List UInt8):Env:=v 27 (I (mid s).length)::v 26 (L eS (mid s))::v 4 (ad 4)::v 2 (ad 2)::v 0 (str s)::tk 900 158::bx 2 [nilS,nilS]
def parE (s:List UInt8) (k j:Nat):Env:=v 5 (Lt 900 eLn ((lnOf (lsT s)).take (k+1)))::(2,4,live)::(7,0,.arr 68 (l0T s).length)::(7,1,L eI (l0T s))::(2,68,.arro 3 1 (l0T s).length (arrE s k j) none)::parE0 s
def parEk (s:List UInt8) (k:Nat):Env:=v 5 (Lt 900 eLn ((lnOf (lsT s)).take (k+1)))::(2,4,live)::(7,0,.arr 68 (l0T s).length)::(7,1,L eI (l0T s))::(2,68,.arro 3 1 (l0T s).length (arrEk s k) none)::parE0 s
theorem lsT_len (s:List UInt8):(lsT s).length=(mid s).length:=List.length_map ..
theorem lsT_at {s:List UInt8} {k:Nat} (h:k<(mid s).length):nth (lsT s) k=nsR (nth (mid s) k):=nth_map h
theorem lnOf_len (ls:List (List Int)):(lnOf ls).length=ls.length:=by
 cases ls with
 |nil=>rfl
 |cons l r=>show (List.map _ r).length+1=r.length+1;rw [List.length_map]
theorem lnOf_zero {ls:List (List Int)} (h:0<ls.length):nth (lnOf ls) 0=(true,nth ls 0):=by
 cases ls with
 |nil=>cases h
 |cons l r=>rfl
theorem lnOf_succ {ls:List (List Int)} {k:Nat} (h:k+1<ls.length):nth (lnOf ls) (k+1)=(false,nth ls (k+1)):=by
 cases ls with
 |nil=>cases h
 |cons l r=>
  show nth (r.map fun x=>(false,x)) k=(false,nth r k)
  exact nth_map (by simpa using h)
theorem lnOf_text (ls:List (List Int)):(lnOf ls).map lnT=linesT ls:=by
 cases ls with
 |nil=>rfl
 |cons l r=>
  show lnT (true,l)::(r.map fun x=>((false,x):Ln)).map lnT=headW l::r.map rowW
  rw [List.map_map]
  rfl
theorem colTo_len (s:List UInt8) {k:Nat} (h:k<(lsT s).length) (j:Nat):(colTo s k j).length=k:=by
 unfold colTo
 rw [List.length_map,List.length_take,List.length_drop]
 omega
theorem colTo_succ {s:List UInt8} {k:Nat} (h:k+1<(lsT s).length) (j:Nat):colTo s (k+1) j=colTo s k j++[nth (nth (lsT s) (k+1)) j]:=by
 unfold colTo
 rw [take_succ (by rw [List.length_drop];omega),List.map_append,nth_drop,Nat.add_comm 1 k]
 rfl
theorem shT_cols {s:List UInt8} (h:0<(lsT s).length):(shT (lsT s)).cols.length=(l0T s).length/\(shT (lsT s)).errs=l0T s/\∀ j,j<(l0T s).length->nth (shT (lsT s)).cols j=colTo s ((lsT s).length - 1) j:=by
 unfold l0T colTo
 cases hl:lsT s with
 |nil=>rw [hl] at h;cases h
 |cons l r=>
  refine ⟨colsT_len _ _,rfl,fun j hj=>?_⟩
  have hj:j<l.length:=hj
  show nth (colsT l.length r) j=_
  rw [colsT_at hj]
  show _=(r.take r.length).map _
  rw [List.take_length]
theorem lines_ok {s:List UInt8} (hs:s.length<=150) (hall:(mid s).all okR=true):∀ p∈lnOf (lsT s),lnOK p:=by
 have main:∀ l∈lsT s,l.length<=150/\(∀ n∈l,si n)/\(nums3 l).length<=150:=fun l hl=>by
  obtain ⟨r,hr,rfl⟩:=List.mem_map.1 hl
  obtain ⟨i,hi,rfl⟩:=mem_nth hr
  have h1:=nsR_le (nth (mid s) i)
  have h2:=row_len hi
  have h3:=row_nums_len (List.all_eq_true.1 hall _ hr)
  refine ⟨by omega,fun n hn=>?_,by omega⟩
  unfold nsR at hn
  obtain ⟨w,hw,rfl⟩:=List.mem_map.1 hn
  exact numS_si w
 intro p hp
 cases hl:lsT s with
 |nil=>rw [hl] at hp;cases hp
 |cons l r=>
  rw [hl] at hp main
  rcases List.mem_cons.1 hp with rfl|hp
  ·obtain ⟨h1,h2,h3⟩:=main l List.mem_cons_self
   refine ⟨by show l.length<=1000;omega,h2,?_⟩
   show (lHands++nums3 l).length<=300
   rw [List.length_append]
   have:lHands.length=5:=rfl
   omega
  ·obtain ⟨x,hx,rfl⟩:=List.mem_map.1 hp
   obtain ⟨h1,h2,h3⟩:=main x (List.mem_cons_of_mem _ hx)
   refine ⟨by show x.length<=1000;omega,h2,?_⟩
   show (lRow++nums3 x).length<=300
   rw [List.length_append]
   have:lRow.length=3:=rfl
   omega
theorem tl_SEq (r:List UInt8):SEq (Int.toNat (((splitL 32 r).length:Int) - 1)) (fun i=>eS (nth (splitL 32 r) (Int.toNat 1+i))) (tl r).length fun i=>eS (nth (tl r) i):=
 .of ⟨by have:=split_pos 32 r;rw [tl_len];omega,fun i hi=>by
  have:=split_pos 32 r
  show eS (nth (splitL 32 r) (1+i))=eS (nth (tl r) i)
  rw [tl_nth (by rw [tl_len];omega)]⟩
theorem OEq_self (n:Nat) (f:Nat->Nat×(Nat->List C)):OEq n f n f↔True:=⟨fun _=>trivial,fun _=>⟨rfl,fun _ _=>⟨rfl,fun _ _=>rfl⟩⟩⟩
theorem snoc_eq {l:List Int} {x:Int} {i:Nat} (hi:i<l.length+1):catF l.length (fun i=>eI (nth l i)) (fun i=>[List.map C.dem [C.v (Value.int IntKind.i64 x)]].getD i []) i=eI (nth (l++[x]) i):=by
 unfold catF
 by_cases h:i<l.length
 ·rw [blt_t h,cond_true,nth_append_lt h]
 ·rw [blt_f h,cond_false,nth_append_ge (by omega),show i - l.length=0 by omega]
  rfl
theorem arr_upd {s:List UInt8} {k j:Nat} (hk:k+1<(lsT s).length) (n:Nat):OEq n (updO (arrE s k j) j ((colTo s k j).length+1,catF (colTo s k j).length (fun i=>eI (nth (colTo s k j) i)) fun i=>[List.map C.dem [C.v (Value.int IntKind.i64 (nth (nth (lsT s) (k+1)) j))]].getD i [])) n (arrE s k (j+1)):=by
 refine ⟨rfl,fun h _=>?_⟩
 by_cases hj:h=j
 ·subst hj
  unfold updO arrE
  rw [show Nat.beq h h=true from Nat.beq_refl h,cond_true,blt_t (Nat.lt_succ_self h),cond_true,colTo_succ hk]
  refine ⟨by rw [List.length_append];rfl,fun i hi=>snoc_eq hi⟩
 ·have hb:Nat.beq h j=false:=by
   cases hb:Nat.beq h j with
   |false=>rfl
   |true=>exact absurd (Nat.eq_of_beq_eq_true hb) hj
  have hbl:Nat.blt h (j+1)=Nat.blt h j:=by
   by_cases h2:h<j
   ·rw [blt_t h2,blt_t (by omega)]
   ·rw [blt_f h2,blt_f (by omega)]
  unfold updO arrE
  rw [hb,cond_false,hbl]
  exact ⟨rfl,fun _ _=>rfl⟩
theorem arr_start (s:List UInt8) (k n:Nat):OEq n (arrEk s k) n (arrE s k 0):=by
 refine ⟨rfl,fun h _=>?_⟩
 unfold arrEk arrE
 rw [blt_f (Nat.not_lt_zero h),cond_false]
 exact ⟨rfl,fun _ _=>rfl⟩
theorem arr_end (s:List UInt8) (k n:Nat):OEq n (arrE s k n) n (arrEk s (k+1)):=by
 refine ⟨rfl,fun h hh=>?_⟩
 unfold arrEk arrE
 rw [blt_t hh,cond_true]
 exact ⟨rfl,fun _ _=>rfl⟩
theorem arr_zero (s:List UInt8) (n:Nat):OEq n (fun _=>(0,fun _=>[])) n (arrEk s 0):=by
 refine ⟨rfl,fun h _=>?_⟩
 unfold arrEk colTo
 rw [List.take_zero]
 exact ⟨rfl,fun _ hi=>absurd hi (Nat.not_lt_zero _)⟩
theorem fits_at {ls:List (List Int)} (h:fits ls=true):0<(nth ls 0).length/\(∀ n∈nth ls 0,0<=n)/\∀ k,k+1<ls.length->(nth ls (k+1)).length=(nth ls 0).length:=by
 cases ls with
 |nil=>cases h
 |cons l r=>
  obtain ⟨h1,h2,h3⟩:=fits_spec h
  exact ⟨h1,h2,fun k hk=>h3 _ (nth_mem (show k<r.length by simpa using hk))⟩
theorem parsed110 {Gl} (S:SP Gl) (s:List UInt8) (hG:GlOK Gl) (hs:s.length<=150) (hR:3<=(splitL 10 s).length) (hall:(mid s).all okR=true) (hf:fits (lsT s)=true) (ht:sealed (linesT (lsT s))=s):CO Gl 110 [str s] (.ret (tSheet (shT (lsT s)))):=by
 refine fn_iq S (let A0:=(nth (mid s) (0:Nat));let A1:=(splitL (32:UInt8) (nth (splitL (10:UInt8) s) (Int.toNat (0:Int)+Int.toNat (0:Int))));let A2:=fun (k2:Nat)=>(nth (mid s) (k2+1));let A3:=(List.length (mid s):Int);let A4:=fun (k2:Nat)=>(splitL (32:UInt8) (nth (mid s) (Int.toNat ((k2:Int)+1))));let A5:=fun (k2:Nat)=>(List.take (k2+1) (lnOf (lsT s)));let A6:=(List.length (l0T s):Int);let A7:=(↑(List.length (splitL (10:UInt8) s)):Int);let A8:=(List.length (l0T s));let A9:=fun (k2 k4:Nat)=>(colTo s (bif Nat.blt k4 k4 then k2+(1:Nat) else k2) k4);let A10:=(↑(List.length A1):Int);let A11:=(↑(List.length (tl A0)):Int);let A12:=(splitL (10:UInt8) s);let A13:=fun (k2:Nat)=>(↑(List.length (A4 k2)):Int);let A14:=fun (k2:Nat)=>(nth (lsT s) (k2+1));let A15:=fun (k2:Nat)=>(List.length (tl (A2 k2)));let A16:=(sR eS (mid s));let A17:=(sR eI (l0T s));let A18:=(↑(0:Nat):Int);let A19:=(Int.toNat (A7-2-(0:Int)));let A20:=(nth A12 (Int.toNat (0:Int)+Int.toNat (0:Int)));((.r (.ret (L eS A12)) (.r (.ret (.tup [])) (.pe (.br (.r (.ret (L eS A1)) (.loop (List.length (tl A0)) (fun j=>v 37 (I j)::v 36 (I A11)::v 35 (L eS (tl A0))::v 28 (I 0)::v 8 (Lt 901 eI (nsTo A0 j))::tk 901 3::v 7 (str A0)::v 6 (I 0)::v 5 (T.d (D.c nilS))::(bx 4 [nilS,nilS]++parE0 s)) fun k1=>.br (.r (.ret (I (numS (nth (tl A0) k1)))) .nil) (.tt (.r (.ret (.tup [])) (.loop A8 (fun j=>v 56 (I j)::v 55 (I A6)::v 54 (L eI (l0T s))::v 28 (I 0)::v 8 (Lt 901 eI (l0T s))::tk 901 3::v 7 (str A0)::v 6 (I 0)::v 5 (T.d (D.c nilS))::(bx 4 [nilS,nilS]++parE0 s)) fun k2=>.br (.r (.ret (.tup [])) .nil) (.arrA (nat_lit 68) .nil)))))) .nil) (List.length (mid s)-(1:Nat)) (fun k=>v 28 (I ((k:Int)+1))::parEk s k) fun k2=>.br (.r (.ret (L eS (A4 k2))) (.loop (A15 k2) (fun j=>v 37 (I j)::v 36 (I (↑(A15 k2):Int))::v 35 (L eS (tl (A2 k2)))::v 28 (I ((k2:Int)+1))::v 8 (Lt 901 eI (nsTo (A2 k2) j))::tk 901 3::v 7 (str (A2 k2))::v 6 (I ((k2:Int)+1))::parEk s k2) fun k3=>.br (.r (.ret (I (numS (nth (tl (A2 k2)) k3)))) .nil) (.ff (.r (.ret (.tup [])) (.loop A8 (fun j=>v 87 (I j)::v 86 (I A6)::v 85 (L eI (A14 k2))::v 28 (I ((k2:Int)+1))::v 8 (Lt 901 eI (A14 k2))::tk 901 3::parE s k2 j) fun k4=>.br (.arrA (nat_lit 99) .nil) .nil))))) (.r (.ret (str (sealed (List.map lnT (A5 k2))))) (.r (.ret (.tup [])) .nil))))),(CO Gl 134 [str s,str [(10:UInt8)]] (.ret (L eS A12))/\(List.length A12<=maxLen->CO Gl 135 [B (decide (3<=(↑(List.length (splitL (10:UInt8) s)):Int))),T.d (D.c (C.v (Value.string (bs s))))] (.ret (.tup []))/\(List.length A12<=maxLen->iR (A7-2)/\((0:Int)<=0/\0<=A7-2/\A7-2<=A7)/\(Int.toNat (A7-2-(0:Int))<=maxLen->(decide (0<(↑(Int.toNat ((↑(List.length (splitL (10:UInt8) s)):Int)-2-(0:Int))):Int))=true->((0:Int)<=0/\0<(↑A19:Int))/\CO Gl 134 [str A20,str [(32:UInt8)]] (.ret (L eS A1))/\((0:Int)<=1/\1<=A10/\A10<=A10)/\(Int.toNat (A10-1)<=maxLen->(0=A18/\(↑(Int.toNat (A10-1)):Int)=A11/\(SEq (Int.toNat (A10-1)) (fun i=>eS (nth A1 (Int.toNat (1:Int)+i))) (List.length (tl A0)) fun i=>eS (nth (tl A0) i))/\(0:Int)=0/\(0:Nat)=(0:Nat)/\bs A20=bs A0/\(0:Int)=0/\Value.slice none 0 0=Value.slice none 0 0/\Value.slice none 0 0=Value.slice none 0 0/\Value.slice none 0 0=Value.slice none 0 0/\(↑A19:Int)=A3/\(SEq A19 (fun i=>eS (nth A12 (Int.toNat (0:Int)+i))) (List.length (mid s)) fun i=>eS (nth (mid s) i))/\bs s=bs s/\Value.slice none 0 0=Value.slice none 0 0/\Value.slice none 0 0=Value.slice none 0 0)/\∀ (k1:Nat),k1<=List.length (tl A0)->(decide ((k1:Int)<(↑(List.length (tl (nth (mid s) (0:Nat)))):Int))=true->(0<=(k1:Int)/\(k1:Int)<A11)/\CO Gl 136 [str (nth (tl A0) k1)] (.ret (I (numS (nth (tl A0) k1))))/\(List.length (nsTo A0 k1)+1)*8<=140737488355328/\List.length (nsTo A0 k1)+1<=140737488355328/\iR ((k1:Int)+1)/\k1<List.length (tl A0)/\(k1:Int)+1=(↑(k1+1):Int)/\A11=A11/\(sR eS (tl A0))/\(0:Int)=0/\(SEq (List.length (nsTo A0 k1)+1) (catF (List.length (nsTo A0 k1)) (fun i=>eI (nth (nsTo A0 k1) i)) fun i=>List.getD [List.map C.dem [C.v (Value.int IntKind.i64 (numS (nth (tl A0) k1)))]] i []) (List.length (nsTo A0 (k1+1))) fun i=>eI (nth (nsTo A0 (k1+1)) i))/\bs A0=bs A0/\(0:Int)=0/\Value.slice none 0 0=Value.slice none 0 0/\Value.slice none 0 0=Value.slice none 0 0/\Value.slice none 0 0=Value.slice none 0 0/\A3=A3/\A16/\bs s=bs s/\Value.slice none 0 0=Value.slice none 0 0/\Value.slice none 0 0=Value.slice none 0 0)/\(decide ((k1:Int)<(↑(List.length (tl (nth (mid s) (0:Nat)))):Int))=false->true=true/\(List.length (nsTo A0 k1)<=maxLen->CO Gl 135 [B (decide (0<(↑(List.length (nsTo (nth (mid s) (0:Nat)) k1)):Int))),T.d (D.c (C.v (Value.string (bs A0))))] (.ret (.tup []))/\(List.length (nsTo A0 k1)<=maxLen->(0=A18/\(↑(List.length (nsTo A0 k1)):Int)=A6/\(sQ eI (nsTo A0 k1) (l0T s))/\(0:Int)=0/\(sQ eI (nsTo A0 k1) (l0T s))/\bs A0=bs A0/\(0:Int)=0/\Value.slice none 0 0=Value.slice none 0 0/\Value.slice none 0 0=Value.slice none 0 0/\Value.slice none 0 0=Value.slice none 0 0/\A3=A3/\A16/\bs s=bs s/\Value.slice none 0 0=Value.slice none 0 0/\Value.slice none 0 0=Value.slice none 0 0)/\∀ (k2:Nat),k2<=List.length (l0T s)->(decide ((k2:Int)<(List.length (l0T s):Int))=true->(0<=(k2:Int)/\(k2:Int)<A6)/\CO Gl 135 [B (decide ((0:Int)<=nth (l0T s) k2)),T.d (D.c (C.v (Value.string (bs A0))))] (.ret (.tup []))/\iR ((k2:Int)+1)/\k2<List.length (l0T s)/\(k2:Int)+1=(↑(k2+1):Int)/\A6=A6/\A17/\(0:Int)=0/\A17/\bs A0=bs A0/\(0:Int)=0/\Value.slice none 0 0=Value.slice none 0 0/\Value.slice none 0 0=Value.slice none 0 0/\Value.slice none 0 0=Value.slice none 0 0/\A3=A3/\A16/\bs s=bs s/\Value.slice none 0 0=Value.slice none 0 0/\Value.slice none 0 0=Value.slice none 0 0)/\(decide ((k2:Int)<(List.length (l0T s):Int))=false->List.length (l0T s)<=maxLen->A6=A6/\0<=A6/\List.length (l0T s)*24<=140737488355328/\List.length (l0T s)<=(140737488355328:Nat)/\(1:Nat)*16<=140737488355328/\(1:Nat)<=(140737488355328:Nat)/\iR ((0:Int)+1)/\((0:Int)+1=A18+1/\(SEq (1:Nat) (fun i=>List.getD [List.map C.dem [C.i (121:Nat) true [C.s Tag.n A8 fun i=>eI (nth (l0T s) i)]]] i []) (List.length (List.take ((0:Nat)+1) (lnOf (lsT s)))) fun i=>eLn (nth (List.take ((0:Nat)+1) (lnOf (lsT s))) i))/\List.length (l0T s)=List.length (l0T s)/\A17/\OEq A8 (fun x=>((0:Nat),fun x=>[])) A8 (arrEk s (0:Nat))/\A3=A3/\A16/\bs s=bs s/\Value.slice none 0 0=Value.slice none 0 0/\Value.slice none 0 0=Value.slice none 0 0)/\∀ (k2:Nat),k2<=List.length (mid s)-(1:Nat)->(decide ((k2:Int)+1<(List.length (mid s):Int))=true->(0<=(k2:Int)+1/\(k2:Int)+1<A3)/\CO Gl 134 [str (nth (mid s) (Int.toNat ((k2:Int)+1))),str [(32:UInt8)]] (.ret (L eS (A4 k2)))/\((0:Int)<=1/\1<=(A13 k2)/\(A13 k2)<=(A13 k2))/\(Int.toNat ((A13 k2)-1)<=maxLen->(0=A18/\(↑(Int.toNat ((A13 k2)-1)):Int)=(↑(A15 k2):Int)/\(SEq (Int.toNat ((A13 k2)-1)) (fun i=>eS (nth (A4 k2) (Int.toNat (1:Int)+i))) (A15 k2) fun i=>eS (nth (tl (A2 k2)) i))/\(k2:Int)+1=(k2:Int)+1/\(0:Nat)=(0:Nat)/\bs (nth (mid s) (Int.toNat ((k2:Int)+1)))=bs (A2 k2)/\(k2:Int)+1=(k2:Int)+1/\(sR eLn (A5 k2))/\List.length (l0T s)=List.length (l0T s)/\A17/\OEq A8 (arrEk s k2) A8 (arrEk s k2)/\A3=A3/\A16/\bs s=bs s/\Value.slice none 0 0=Value.slice none 0 0/\Value.slice none 0 0=Value.slice none 0 0)/\∀ (k3:Nat),k3<=List.length (tl (A2 k2))->(decide ((k3:Int)<(↑(List.length (tl (nth (mid s) (k2+1)))):Int))=true->(0<=(k3:Int)/\(k3:Int)<(↑(A15 k2):Int))/\CO Gl 136 [str (nth (tl (A2 k2)) k3)] (.ret (I (numS (nth (tl (A2 k2)) k3))))/\(List.length (nsTo (A2 k2) k3)+1)*8<=140737488355328/\List.length (nsTo (A2 k2) k3)+1<=140737488355328/\iR ((k3:Int)+1)/\k3<List.length (tl (A2 k2))/\(k3:Int)+1=(↑(k3+1):Int)/\(↑(A15 k2):Int)=(↑(A15 k2):Int)/\(sR eS (tl (A2 k2)))/\(k2:Int)+1=(k2:Int)+1/\(SEq (List.length (nsTo (A2 k2) k3)+1) (catF (List.length (nsTo (A2 k2) k3)) (fun i=>eI (nth (nsTo (A2 k2) k3) i)) fun i=>List.getD [List.map C.dem [C.v (Value.int IntKind.i64 (numS (nth (tl (A2 k2)) k3)))]] i []) (List.length (nsTo (A2 k2) (k3+1))) fun i=>eI (nth (nsTo (A2 k2) (k3+1)) i))/\bs (A2 k2)=bs (A2 k2)/\(k2:Int)+1=(k2:Int)+1/\(sR eLn (A5 k2))/\List.length (l0T s)=List.length (l0T s)/\A17/\OEq A8 (arrEk s k2) A8 (arrEk s k2)/\A3=A3/\A16/\bs s=bs s/\Value.slice none 0 0=Value.slice none 0 0/\Value.slice none 0 0=Value.slice none 0 0)/\(decide ((k3:Int)<(↑(List.length (tl (nth (mid s) (k2+1)))):Int))=false->false=false/\(List.length (nsTo (A2 k2) k3)<=maxLen->List.length (l0T s)<=maxLen->CO Gl 135 [B ((↑(List.length (nsTo (A2 k2) k3)):Int)==A6),T.d (D.c (C.v (Value.string (bs (A2 k2)))))] (.ret (.tup []))/\(List.length (nsTo (A2 k2) k3)<=maxLen->(0=A18/\(↑(List.length (nsTo (A2 k2) k3)):Int)=A6/\(sQ eI (nsTo (A2 k2) k3) (A14 k2))/\(k2:Int)+1=(k2:Int)+1/\(sQ eI (nsTo (A2 k2) k3) (A14 k2))/\(sR eLn (A5 k2))/\List.length (l0T s)=List.length (l0T s)/\A17/\OEq A8 (arrEk s k2) A8 (arrE s k2 (0:Nat))/\A3=A3/\A16/\bs s=bs s/\Value.slice none 0 0=Value.slice none 0 0/\Value.slice none 0 0=Value.slice none 0 0)/\∀ (k4:Nat),k4<=List.length (l0T s)->(decide ((k4:Int)<(List.length (l0T s):Int))=true->(0<=(k4:Int)/\(k4:Int)<(↑(List.length (A14 k2)):Int))/\(0<=(k4:Int)/\(k4:Int)<A6)/\k4<List.length (l0T s)/\(List.length (A9 k2 k4)+1)*8<=140737488355328/\List.length (A9 k2 k4)+1<=140737488355328/\(0<=(k4:Int)/\(k4:Int)<A6)/\k4=k4/\k4<List.length (l0T s)/\iR ((k4:Int)+1)/\k4<List.length (l0T s)/\(k4:Int)+1=(↑(k4+1):Int)/\A6=A6/\(sR eI (A14 k2))/\(k2:Int)+1=(k2:Int)+1/\(sR eI (A14 k2))/\(sR eLn (A5 k2))/\List.length (l0T s)=List.length (l0T s)/\A17/\OEq A8 (updO (arrE s k2 k4) k4 (List.length (A9 k2 k4)+(1:Nat),catF (List.length (A9 k2 k4)) (fun i=>eI (nth (A9 k2 k4) i)) fun i=>List.getD [List.map C.dem [C.v (Value.int IntKind.i64 (nth (A14 k2) k4))]] i [])) A8 (arrE s k2 (k4+1))/\A3=A3/\A16/\bs s=bs s/\Value.slice none 0 0=Value.slice none 0 0/\Value.slice none 0 0=Value.slice none 0 0)/\(decide ((k4:Int)<(List.length (l0T s):Int))=false->(List.length (A5 k2)+1)*16<=140737488355328/\List.length (A5 k2)+1<=140737488355328/\iR ((k2:Int)+1+(1:Int))/\k2<List.length (mid s)-(1:Nat)/\(k2:Int)+1+1=(↑(k2+1):Int)+1/\(SEq (List.length (A5 k2)+1) (catF (List.length (A5 k2)) (fun i=>eLn (nth (A5 k2) i)) fun i=>List.getD [List.map C.dem [C.i (124:Nat) true [C.s Tag.n (List.length (A14 k2)) fun i=>eI (nth (A14 k2) i)]]] i []) (List.length (List.take (k2+(1:Nat)+1) (lnOf (lsT s)))) fun i=>eLn (nth (List.take (k2+(1:Nat)+1) (lnOf (lsT s))) i))/\List.length (l0T s)=List.length (l0T s)/\A17/\OEq A8 (arrE s k2 k4) A8 (arrEk s (k2+1))/\A3=A3/\A16/\bs s=bs s/\Value.slice none 0 0=Value.slice none 0 0/\Value.slice none 0 0=Value.slice none 0 0))))))/\(decide ((k2:Int)+1<(List.length (mid s):Int))=false->CO Gl 108 [T.d (D.c (C.l eLn (A5 k2)))] (.ret (str (sealed (List.map lnT (A5 k2)))))/\CO Gl 135 [B (ByteArray.toList (bs (sealed (List.map lnT (A5 k2))))==ByteArray.toList (bs s)),T.d (D.c (C.v (Value.string (bs s))))] (.ret (.tup []))/\List.length (l0T s)=List.length (l0T s)/\(SEq A8 (oroF (arrEk s k2)) (List.length (shT (lsT s)).1) fun i=>eCol (nth (shT (lsT s)).1 i))/\sQ eI (l0T s) ((shT (lsT s)).2))))))))/\(decide (0<(↑(Int.toNat ((↑(List.length (splitL (10:UInt8) s)):Int)-2-(0:Int))):Int))=false->False))))))) Tryz.func110 (by kernel_rfl) (by kernel_rfl) ?_
 have hsp:=split_pos 10 s
 have hml:=mid_len (s:=s)
 have hll:=lsT_len s
 have hrow:∀ i,i<(mid s).length->(nth (mid s) i).length<=150:=fun i hi=>by have:=row_len hi;omega
 have hm0:0<(mid s).length:=by omega
 have hl0:l0T s=nsR (nth (mid s) 0):=lsT_at hm0
 have h00:nth (splitL 10 s) (Int.toNat 0+Int.toNat 0)=nth (mid s) 0:=(mid_nth hm0).symm
 have hok:∀ i,i<(mid s).length->okR (nth (mid s) i)=true:=fun i hi=>List.all_eq_true.1 hall _ (nth_mem hi)
 obtain ⟨hf1,hf2,hf3⟩:=fits_at hf
 have hf1:0<(l0T s).length:=hf1
 have hf2:∀ n∈l0T s,0<=n:=hf2
 have hf3:∀ k,k+1<(lsT s).length->(nth (lsT s) (k+1)).length=(l0T s).length:=hf3
 have hl0n:(l0T s).length<=150:=by rw [hl0];have:=nsR_le (nth (mid s) 0);have:=hrow 0 hm0;omega
 simp only [stdS,imp_self,implies_true,and_true,h00,OEq_self]
 refine ⟨split134 hG.len s 10 (by omega),fun _=>⟨sureT S _ _ (by simp;omega),fun _=>⟨(rng_iff _).2 (by omega),⟨by decide,by omega,by omega⟩,fun _=>⟨fun _=>?_,fun h=>?_⟩⟩⟩⟩
 ·refine ⟨⟨by omega,by omega⟩,split134 hG.len _ 32 (by have:=hrow 0 hm0;omega),⟨by omega,by have:=split_pos 32 (nth (mid s) 0);omega,by omega⟩,fun _=>⟨?_,fun k1 hk1=>⟨fun h1=>?_,fun h1 hmx=>?_⟩⟩⟩
  ·exact ⟨by have:=split_pos 32 (nth (mid s) 0);rw [tl_len];omega,tl_SEq _,by omega,.of ⟨by omega,fun i hi=>by
    show eS (nth (splitL 10 s) (0+i))=eS (nth (mid s) i)
    rw [mid_nth (by omega),Nat.zero_add]⟩,trivial⟩
  ·have h1:k1<(tl (nth (mid s) 0)).length:=by simpa using h1
   have hnl:=nsTo_len (r:=nth (mid s) 0) (j:=k1)
   have htl:=tl_len (r:=nth (mid s) 0)
   have hsr:=split_pos 32 (nth (mid s) 0)
   have hr:=hrow 0 hm0
   exact ⟨⟨by omega,by omega⟩,number136T S hG _ (List.all_eq_true.1 (hok 0 hm0) _ (nth_mem h1)),by omega,by omega,(rng_iff _).2 (by omega),h1,by omega,SEq_push1 (nsTo_succ h1) rfl,trivial⟩
  ·have h1:k1=(tl (nth (mid s) 0)).length:=by
    have:¬ k1<(tl (nth (mid s) 0)).length:=by simpa using h1
    omega
   subst h1
   rw [nsTo_all,<-hl0]
   refine ⟨sureT S _ _ (decide_eq_true (by omega)),fun _=>⟨⟨rfl,SEq_whole rfl,SEq_whole rfl,trivial⟩,fun k2 hk2=>⟨fun hd=>?_,fun hd _=>⟨by omega,by omega,by omega,by decide,by decide,(rng_iff _).2 (by omega),?_,fun k3 hk3=>⟨fun h3=>?_,fun h3=>?_⟩⟩⟩⟩⟩
   ·have hd:k2<(l0T s).length:=by simpa using hd
    exact ⟨⟨by omega,by omega⟩,sureT S _ _ (decide_eq_true (hf2 _ (nth_mem hd))),(rng_iff _).2 (by omega),hd,by omega,trivial⟩
   ·refine ⟨.of ⟨by rw [List.length_take,lnOf_len];omega,fun i hi=>?_⟩,arr_zero s _,trivial⟩
    have:i=0:=by omega
    subst this
    show [C.i 121 true [C.l eI (l0T s)]]=eLn (nth ((lnOf (lsT s)).take 1) 0)
    rw [nth_take (by omega),lnOf_zero (by omega)]
    rfl
   ·have h3:(k3:Int)+1<((mid s).length:Int):=of_decide_eq_true h3
    have hlt:k3+1<(mid s).length:=by omega
    have ht3:((k3:Int)+1).toNat=k3+1:=by omega
    have hrw:=hrow (k3+1) hlt
    have hlk:nth (lsT s) (k3+1)=nsR (nth (mid s) (k3+1)):=lsT_at hlt
    have hlen:=hf3 k3 (by omega)
    have hcl:=fun j=>colTo_len s (k:=k3) (by omega) j
    have hll2:((lnOf (lsT s)).take (k3+1)).length=k3+1:=by rw [List.length_take,lnOf_len];omega
    have hbb:∀ j:Nat,Nat.blt j j=false:=fun j=>blt_f (Nat.lt_irrefl j)
    have htl:=tl_len (r:=nth (mid s) (k3+1))
    have hsr:=split_pos 32 (nth (mid s) (k3+1))
    simp only [ht3,hbb,cond_false]
    refine ⟨⟨by omega,by omega⟩,split134 hG.len _ 32 (by omega),⟨by omega,by omega,by omega⟩,fun _=>⟨⟨by omega,tl_SEq _,trivial,trivial⟩,fun k4 hk4=>⟨fun h4=>?_,fun h4 hmx _=>?_⟩⟩⟩
    ·have h4:k4<(tl (nth (mid s) (k3+1))).length:=by simpa using h4
     have hnl:=nsTo_len (r:=nth (mid s) (k3+1)) (j:=k4)
     exact ⟨⟨by omega,by omega⟩,number136T S hG _ (List.all_eq_true.1 (hok (k3+1) hlt) _ (nth_mem h4)),by omega,by omega,(rng_iff _).2 (by omega),h4,by omega,SEq_push1 (nsTo_succ h4) rfl,trivial⟩
    ·have h4:k4=(tl (nth (mid s) (k3+1))).length:=by
      have:¬ k4<(tl (nth (mid s) (k3+1))).length:=by simpa using h4
      omega
     subst h4
     rw [nsTo_all,<-hlk]
     refine ⟨sureT S _ _ (by rw [hlen];exact beq_self_eq_true _),fun _=>⟨⟨by rw [hlen],SEq_whole rfl,SEq_whole rfl,arr_start s _ _,trivial⟩,fun k5 hk5=>⟨fun h5=>?_,fun h5=>?_⟩⟩⟩
     ·have h5:k5<(l0T s).length:=by simpa using h5
      have:=hcl k5
      exact ⟨⟨by omega,by omega⟩,⟨by omega,by omega⟩,h5,by omega,by omega,⟨by omega,by omega⟩,h5,(rng_iff _).2 (by omega),h5,by omega,arr_upd (by omega) _,trivial⟩
     ·have h5:k5=(l0T s).length:=by
       have:¬ k5<(l0T s).length:=by simpa using h5
       omega
      subst h5
      refine ⟨by omega,by omega,(rng_iff _).2 (by omega),by omega,by omega,?_,arr_end s _ _,trivial⟩
      refine SEq_push (by rw [lnOf_len];omega) ?_
      rw [lnOf_succ (by omega)]
      rfl
   ·have h3:¬ (k3:Int)+1<((mid s).length:Int):=of_decide_eq_false h3
    have hke:k3+1=(lsT s).length:=by omega
    have hte:(lnOf (lsT s)).take (k3+1)=lnOf (lsT s):=List.take_of_length_le (by rw [lnOf_len];omega)
    obtain ⟨g1,g2,g3⟩:=shT_cols (s:=s) (by omega)
    rw [hte]
    refine ⟨text108 S hG _ (by rw [lnOf_len];omega) (lines_ok hs hall),sureT S _ _ ?_,.of ⟨g1.symm,fun j hj=>?_⟩,?_⟩
    ·rw [lnOf_text,ht]
     exact beq_self_eq_true _
    ·show oroF (arrEk s k3) j=eCol (nth (shT (lsT s)).cols j)
     rw [g3 j hj,show (lsT s).length - 1=k3 by omega]
     rfl
    ·rw [g2]
     exact SEq_whole rfl
 ·have:=of_decide_eq_false h
  omega
theorem parsed110some {Gl} (S:SP Gl) (hG:GlOK Gl) (s:List UInt8) (hs:s.length<=150) {x:Sheet} (h:parse s=some x):CO Gl 110 [str s] (.ret (tSheet x)):=by
 obtain ⟨h1,h2,h3,h4,rfl⟩:=parse_spec h
 exact parsed110 S s hG hs h1 h2 h3 h4
def readPre (s:List UInt8):Env:=[(2,FAR,live),(FAR+3,0,str s),(2,FAR+1,live),(FAR+4,0,.d (.c nilS)),(FAR+4,1,.d (.c nilS))]
def readPost (x:Sheet):Env:=[(FAR+4,0,.d (.c (.l eCol x.cols))),(FAR+4,1,L eI x.errs)]
theorem read109 {Gl} (S:SP Gl) (s:List UInt8) (x:Sheet) (hc:CO Gl 110 [str s] (.ret (tSheet x))):Does Tryz.prog Y Gl yd0 109 [.addr FAR 0,.addr (FAR+1) 0] (readPre s) (.ret (.tup [])) (readPost x):=by
 refine fn_is2 S (.r (.ret (tSheet x)) .nil) Tryz.func109 (by kernel_rfl) (CO Gl 110 [str s] (.ret (tSheet x))/\True/\(sR eCol x.1)/\(sR eI x.2)/\bs s=bs s) (by kernel_rfl) ?_
 simp only [stdS,imp_self,implies_true,and_true]
 exact ⟨hc,trivial⟩
theorem readA {Gl} (S:SP Gl) (s:List UInt8) (x:Sheet) (hc:CO Gl 110 [str s] (.ret (tSheet x))):Does Tryz.prog Y Gl yd0 74 [.fn 109 [] [.addr FAR 0,.addr (FAR+1) 0]] (readPre s) (.ret (I 0)) (readPost x):=
 attempt74_does (fst:=[]) rfl rfl (read109 S s x hc) .ok
theorem read66 {Gl} (S:SP Gl) (s:List UInt8) (x:Sheet) (hs:s.length<=150) (hc:CO Gl 110 [str s] (.ret (tSheet x))) (hb:x.ok=true):CO Gl 66 [str s] (.ret (.tup [.agg (cSheet x),.c (Ci 0)])):=by
 refine fn_iq S (let A0:=[T.fn (109:FuncId) [] [T.addr FAR (0:Nat),T.addr (FAR+1) (0:Nat)]];((.br .nil (.w [(nat_lit 100000,nat_lit 1),(nat_lit 100001,nat_lit 4)] A0 (readPre s) (.ret (I 0)) (readPost x) (.ff (.r (.ret (B true)) (.ff .nil))))),((decide (150<(↑(ByteArray.size (bs s)):Int))=true->x.1.length=(0:Nat)/\x.2.length=(0:Nat)/\(3:Int)=0)/\(decide (150<(↑(ByteArray.size (bs s)):Int))=false->(109:Nat)=(109:Nat)/\bs s=bs s/\Value.slice none 0 0=Value.slice none 0 0/\Value.slice none 0 0=Value.slice none 0 0/\Does Tryz.prog Y Gl yd0 (74:FuncId) A0 (readPre s) (.ret (I 0)) (readPost x)/\false=false/\CO Gl 81 [tSheet x] (.ret (B true))/\false=false/\(sR eCol x.1)/\(sR eI x.2)/\(0:Int)=0)))) Tryz.func66 (by kernel_rfl) (by kernel_rfl) ?_
 simp only [stdS,imp_self,implies_true,and_true,bs_size]
 exact ⟨fun h=>by simp at h;omega,fun _=>⟨readA S s x hc,isSheetT S x hb,trivial⟩⟩
open Go Go.Proofs Go.Vc
def exA:Sheet:=⟨[[123,45,-60,7],[132,45,60,7]],[1,1]⟩
def exB:Sheet:=⟨[[123,45,-60,7],[132,45,60,7],[123,45,60,7]],[1,1,0]⟩
def exD:Sheet:=⟨[[7,7]],[1]⟩
def exT:List UInt8:=[104,97,110,100,115,32,48,10,114,111,119,32,48,10,101,110,100,32,49,51,49,10]
theorem exA_ok:exA.ok=true:=by decide +kernel
theorem exB_ok:exB.ok=true:=by decide +kernel
theorem exD_ok:exD.ok=true:=by decide +kernel
theorem exE:errOK [132,45,-60,7] [123,45,60,7]=true/\errL [132,45,-60,7] [123,45,60,7]=[⟨0,1⟩,⟨2,3⟩]:=by decide +kernel
theorem exA_apart:apartL exA=[0,2]:=by decide +kernel
theorem exA_agrees:agrees exA [123,45,60,7]=true:=by decide +kernel
theorem exA_first:0<(allR exA).length/\firstL (allR exA)=[123,45,60,7]:=by decide +kernel
theorem exA_sure:sureL exA (allR exA)=[1,3]:=by decide +kernel
theorem exA_least:leastA exA=2:=by decide +kernel
theorem exA_wrong:wrongsL exA (allR exA) 0=[2,1,2,1]:=by decide +kernel
theorem exA_both:bothTo exA (allR exA) 0 1 4=[]:=by decide +kernel
theorem exB_hands:0<(allR exB).length/\handsL exB (allR exB)=[3,3,1]:=by decide +kernel
theorem exD_vals:0<(allR exD).length/\valL (allR exD) 1=[-7,7,17,70,107]/\isOpen exD (allR exD) 1=false/\isOpen exD (allR exD) 0=true:=by decide +kernel
theorem exT_text:textS ⟨[[0]],[0]⟩=exT:=by decide +kernel
open Go Go.Vc
def litF (l:List Int) (i:Nat):List C:=(l.map fun x=>List.map C.dem [C.v (Value.int IntKind.i64 x)]).getD i []
theorem litE (l:List Int):SEqE l.length (litF l) l.length (fun i=>eI (nth l i)):=⟨rfl,fun i hi=>by
 show litF l i=eI (nth l i)
 unfold litF
 rw [List.getD_eq_getElem?_getD,List.getElem?_map,nth_eq hi,List.getElem?_eq_getElem hi]
 rfl⟩
theorem litS (l:List Int):SEq l.length (litF l) l.length (fun i=>eI (nth l i)):=.of (litE l)
theorem litC (g:Tag) (l:List Int):EqCs (List.map C.dem [C.s g l.length (litF l)]) (eCol l):=⟨.inr (.inr ⟨_,_,_,_,_,_,rfl,rfl,litE l⟩),trivial⟩
theorem exA70 {Gl} (S:SP Gl)  :CO Gl 70 [] (.ret (tSheet exA)):=by
 refine fn_iq S (let A0:=[[(123:Int),(45:Int),(-60:Int),(7:Int)],[(132:Int),(45:Int),(60:Int),(7:Int)]];((.nil),((SEq (2:Nat) (fun i=>List.getD [List.map C.dem [C.s (Tag.t (1:Nat)) (4:Nat) fun i=>List.getD [List.map C.dem [C.v (Value.int IntKind.i64 (123:Int))],List.map C.dem [C.v (Value.int IntKind.i64 (45:Int))],List.map C.dem [C.v (Value.int IntKind.i64 (-60:Int))],List.map C.dem [C.v (Value.int IntKind.i64 (7:Int))]] i []],List.map C.dem [C.s (Tag.t (2:Nat)) (4:Nat) fun i=>List.getD [List.map C.dem [C.v (Value.int IntKind.i64 (132:Int))],List.map C.dem [C.v (Value.int IntKind.i64 (45:Int))],List.map C.dem [C.v (Value.int IntKind.i64 (60:Int))],List.map C.dem [C.v (Value.int IntKind.i64 (7:Int))]] i []]] i []) (List.length A0) fun i=>eCol (nth A0 i))/\SEq (2:Nat) (fun i=>List.getD [List.map C.dem [C.v (Value.int IntKind.i64 (1:Int))],List.map C.dem [C.v (Value.int IntKind.i64 (1:Int))]] i []) (List.length [(1:Int),(1:Int)]) fun i=>eI (nth [(1:Int),(1:Int)] i)))) Tryz.func70 (by kernel_rfl) (by kernel_rfl) ?_
 dsimp only
 refine ⟨⟨rfl,fun i hi=>?_⟩,litS [1,1]⟩
 match i,hi with
 |0,_=>exact .inr (litC (.t 1) [123,45,-60,7])
 |1,_=>exact .inr (litC (.t 2) [132,45,60,7])
theorem exD71 {Gl} (S:SP Gl)  :CO Gl 71 [] (.ret (tSheet exD)):=by
 refine fn_is S (.nil) Tryz.func71 (by kernel_rfl) ((SEq (1:Nat) (fun i=>List.getD [List.map C.dem [C.s (Tag.t (1:Nat)) (2:Nat) fun i=>List.getD [List.map C.dem [C.v (Value.int IntKind.i64 (7:Int))],List.map C.dem [C.v (Value.int IntKind.i64 (7:Int))]] i []]] i []) (List.length [[(7:Int),(7:Int)]]) fun i=>eCol (nth [[(7:Int),(7:Int)]] i))/\SEq (1:Nat) (fun i=>List.getD [List.map C.dem [C.v (Value.int IntKind.i64 (1:Int))]] i []) (List.length [(1:Int)]) fun i=>eI (nth [(1:Int)] i)) (by kernel_rfl) ?_
 refine ⟨⟨rfl,fun i hi=>?_⟩,litS [1]⟩
 match i,hi with
 |0,_=>exact .inr (litC (.t 1) [7,7])
theorem can47 {Gl} (S:SP Gl) (s:Sheet) (l:List Int) (hs:s.ok=true) (hr:isCol l=true) (hl:l.length=rows s):CO Gl 47 [tSheet s,L eI l] (.ret (.tup [.c (.v (.bool (agrees s l))),.c (.v (.bool true))])):=by
 refine fn_is S (.r (.ret (.tup [D.c (C.v (Value.bool (agrees s l))),D.c (Ci 0)])) .nil) Tryz.func47 (by kernel_rfl) (CO Gl 28 [tSheet s,L eI l] (.ret (.tup [D.c (C.v (Value.bool (agrees s l))),D.c (Ci 0)]))/\agrees s l=agrees s l/\true=true) (by kernel_rfl) ?_
 exact ⟨agrees28 S s l hs hr hl,rfl,rfl⟩
def shUp (s:Sheet):Nat:=upto (fun l:List Int=>decide (l.length<=8)) (s.cols.take 5)
def shortB (s:Sheet):Bool:=(s.cols.take 5).all (fun l=>decide (l.length<=8))&&(decide (s.cols.length<=5)&&decide (s.errs.length<=5))
theorem short30 {Gl} (S:SP Gl) (s:Sheet):CO Gl 30 [tSheet s] (.ret (B (shortB s))):=by
 refine fn_iq S (let A0:=(eqB (decide ((s.1.length:Int)<=5)) true=true->eqB (decide ((s.1.length:Int)<=5)) true=true);let A1:=fun (k0:Nat)=>(bif decide ((k0:Int)<(s.1.length:Int)) then decide ((k0:Int)<5) else false);((.loop (shUp s) (fun k=>v 3 (I k)::v 1 (ad 1)::bx 1 (cSheet s)) fun k0=>.br (.br .nil .nil) .nil),((0=(↑(0:Nat):Int)/\(sR eCol s.1)/\sR eI s.2)/\∀ (k0:Nat),k0<=shUp s->s.1.length<=maxLen->(eqB (decide ((k0:Int)<(s.1.length:Int))) true=true->eqB (decide ((k0:Int)<(s.1.length:Int))) true=true)/\(decide ((k0:Int)<(s.1.length:Int))=true->eqB (decide ((k0:Int)<(s.1.length:Int))) true=true)/\((A1 k0)=true->(0<=(k0:Int)/\(k0:Int)<(s.1.length:Int))/\(List.length (nth s.1 k0)<=maxLen->(decide (8<(List.length (nth s.1 k0):Int))=true->false=shortB s)/\(decide (8<(List.length (nth s.1 k0):Int))=false->iR ((k0:Int)+1)/\k0<shUp s/\(k0:Int)+1=(↑(k0+1):Int)/\(sR eCol s.1)/\sR eI s.2)))/\((A1 k0)=false->s.1.length<=maxLen->A0/\A0/\((eqB (decide ((s.1.length:Int)<=5)) true=true->s.2.length<=maxLen)->A0/\(decide ((s.1.length:Int)<=5)=true->eqB (decide ((s.1.length:Int)<=5)) true=true)/\(bif decide ((s.1.length:Int)<=5) then decide ((s.2.length:Int)<=5) else false)=shortB s))))) Tryz.func30 (by kernel_rfl) (by kernel_rfl) ?_
 have htl:(s.cols.take 5).length=min 5 s.cols.length:=List.length_take
 have hat:∀ k,k<(s.cols.take 5).length->nth (s.cols.take 5) k=nth s.cols k:=fun k hk=>nth_take (by omega)
 have hle:shUp s<=(s.cols.take 5).length:=upto_le
 simp only [stdS,imp_self,implies_true,and_true]
 refine fun k hk hm=>⟨fun hc=>?_,fun hc=>?_⟩
 ·rw [Bool.and_eq_true,decide_eq_true_eq,decide_eq_true_eq] at hc
  have hlt:k<(s.cols.take 5).length:=by omega
  refine ⟨by omega,fun _=>⟨fun h=>?_,fun h=>⟨(rng_iff _).2 (by omega),upto_lt hk hlt ?_,by omega,trivial⟩⟩⟩
  ·have h:=of_decide_eq_true h
   unfold shortB
   rw [upto_some (p:=fun l:List Int=>decide (l.length<=8)) (k:=k) hlt (by rw [hat k hlt];exact decide_eq_false (by omega))]
   rfl
  ·have h:=of_decide_eq_false h
   rw [hat k hlt]
   exact decide_eq_true (by omega)
 ·have hge:(s.cols.take 5).length<=k:=by
   rw [Bool.and_eq_false_iff,decide_eq_false_iff_not,decide_eq_false_iff_not] at hc
   omega
  unfold shortB
  rw [upto_all (p:=fun l:List Int=>decide (l.length<=8)) (l:=s.cols.take 5) (by unfold shUp at hk;omega),Bool.true_and]
  intro _ _
  have e:∀ n m:Nat,decide ((n:Int)<=(m:Int))=decide (n<=m):=fun n m=>by rw [decide_eq_decide];omega
  have e5:=e s.cols.length 5
  have e6:=e s.errs.length 5
  rw [<-e5,<-e6]
  rfl
theorem right44 {Gl} (S:SP Gl) (s:Sheet):CO Gl 44 [tSheet s] (.ret (B (shortB s&&s.ok))):=by
 refine fn_is S (.r (.ret (B (shortB s))) (.r (.ret (B (Sheet.ok s))) .nil)) Tryz.func44 (by kernel_rfl) (CO Gl 30 [tSheet s] (.ret (B (shortB s)))/\(eqB (shortB s) true=true->eqB (shortB s) true=true)/\(eqB (shortB s) true=true->CO Gl 32 [tSheet s] (.ret (B (Sheet.ok s))))/\(shortB s=true->eqB (shortB s) true=true)/\(bif shortB s then Sheet.ok s else false)=(shortB s&&Sheet.ok s)) (by kernel_rfl) ?_
 exact ⟨short30 S s,fun h=>h,fun _=>sheet32 S s,fun h=>by rw [h];rfl,by cases shortB s<;>rfl⟩
theorem backwards61 {Gl} (S:SP Gl) (l:List Int) (hl:l.length<=1000):CO Gl 61 [L eI l] (.ret (L eI l.reverse)):=by
 refine fn_iq S (let A0:=(List.reverse l);let A1:=(l.length:Int);((.loop l.length (fun k=>[v 4 (I (A1-1-(k:Int))),v 0 (L eI l),tk 900 3,v 3 (Lt 900 eI (List.take k A0))]) fun k0=>.br .nil .nil),(l.length<=maxLen->iR (A1-1)/\(A1-1=A1-1-(↑(0:Nat):Int)/\(sR eI l)/\(0:Nat)=(0:Nat))/\∀ (k0:Nat),k0<=l.length->(decide (0<=(l.length:Int)-1-(k0:Int))=true->(0<=A1-1-(k0:Int)/\A1-1-(k0:Int)<A1)/\(List.length (List.take k0 A0)+1)*8<=140737488355328/\List.length (List.take k0 A0)+1<=140737488355328/\iR (A1-1-(k0:Int)-1)/\k0<l.length/\A1-1-(k0:Int)-1=A1-1-(↑(k0+1):Int)/\(sR eI l)/\SEq (List.length (List.take k0 A0)+1) (catF (List.length (List.take k0 A0)) (fun i=>eI (nth (List.take k0 A0) i)) fun i=>List.getD [List.map C.dem [C.v (Value.int IntKind.i64 (nth l (Int.toNat (A1-1-(k0:Int)))))]] i []) (List.length (List.take (k0+1) A0)) fun i=>eI (nth (List.take (k0+1) A0) i))/\(decide (0<=(l.length:Int)-1-(k0:Int))=false->sQ eI (List.take k0 A0) A0)))) Tryz.func61 (by kernel_rfl) (by kernel_rfl) ?_
 have hrl:l.reverse.length=l.length:=List.length_reverse
 simp only [stdS,imp_self,implies_true,and_true]
 refine fun hm=>⟨(rng_iff _).2 (by omega),?_,fun k hk=>⟨fun hd=>?_,fun hd=>?_⟩⟩
 ·exact ⟨by omega,trivial⟩
 ·have hd:0<=(l.length:Int) - 1 - (k:Int):=of_decide_eq_true hd
  have htk:(l.reverse.take k).length=k:=by rw [List.length_take];omega
  refine ⟨⟨by omega,by omega⟩,by omega,by omega,(rng_iff _).2 (by omega),by omega,by omega,SEq_push (by omega) ?_⟩
  have:nth l (Int.toNat ((l.length:Int) - 1 - (k:Int)))=nth l.reverse k:=by
   rw [nth_eq (show k<l.reverse.length by omega),List.getElem_reverse,nth_eq (show Int.toNat ((l.length:Int) - 1 - (k:Int))<l.length by omega)]
   congr 1
   omega
  rw [this]
  rfl
 ·have hd:¬ 0<=(l.length:Int) - 1 - (k:Int):=of_decide_eq_false hd
  have:k=l.length:=by omega
  subst this
  exact SEq_whole (by rw [<-hrl,List.take_length])
set_option maxRecDepth 100000
theorem sameL_self (a:List Int):sameL (·==·) a a=true:=by
 unfold sameL
 rw [beq_self_eq_true,Bool.true_and,List.all_eq_true]
 intro i _
 exact beq_self_eq_true _
theorem kSame {Gl} (S:SP Gl) (a:List Int) (n:Nat) (f:Nat->List C) (h:SEq n f a.length fun i=>eI (nth a i)):CO Gl 34 [L eI a,.d (.c (.s .n n f))] (.ret (B true)):=by
 have h1:=same34 S a a
 rw [sameL_self] at h1
 exact h1.args ⟨(SEq_refl _ _).2 trivial,h⟩
theorem kSameW {Gl} (S:SP Gl) (a:List Int) (n:Nat) (f:Nat->List C) (h:SEq n f a.length fun i=>eI (nth a i)):CO Gl 54 [L eI a,.d (.c (.s .n n f))] (.ret (B true)):=by
 have h1:=same68w S a a
 rw [sameL_self] at h1
 exact h1.args ⟨(SEq_refl _ _).2 trivial,h⟩
def errsX:List Err:=[⟨0,1⟩,⟨2,3⟩]
theorem kSameE {Gl} (S:SP Gl) (f:Nat->List C) (h:SEq 2 f errsX.length fun i=>eErr (nth errsX i)):CO Gl 25 [L eErr errsX,.d (.c (.s .n 2 f))] (.ret (B true)):=
 (show CO Gl 25 [L eErr errsX,L eErr errsX] (.ret (B true)) from sameErrors25 S errsX errsX).args ⟨(SEq_refl _ _).2 trivial,h⟩
theorem kErr {Gl} (S:SP Gl) (f g:Nat->List C) (hf:SEq 4 f [(132:Int),45,-60,7].length fun i=>eI (nth [(132:Int),45,-60,7] i)) (hg:SEq 4 g [(123:Int),45,60,7].length fun i=>eI (nth [(123:Int),45,60,7] i)):CO Gl 22 [.d (.c (.s .n 4 f)),.d (.c (.s .n 4 g))] (.ret (.tup [.c (.l eErr errsX),.c (Ci 0)])):=by
 have h1:=errors22 S [132,45,-60,7] [123,45,60,7] (by decide) (by decide) rfl exE.1
 rw [exE.2] at h1
 exact h1.args ⟨hf,hg⟩
theorem kApart {Gl} (S:SP Gl):CO Gl 53 [tSheet exA] (.ret (.tup [.c (.l eI [0,2]),.c (Ci 0)])):=by
 have h1:=apart53 S exA exA_ok
 rw [exA_apart] at h1
 exact h1
theorem kAgrees {Gl} (S:SP Gl) (f:Nat->List C) (hf:SEq 4 f [(123:Int),45,60,7].length fun i=>eI (nth [(123:Int),45,60,7] i)):CO Gl 28 [tSheet exA,.d (.c (.s .n 4 f))] (.ret (.tup [.c (.v (.bool true)),.c (Ci 0)])):=by
 have h1:=agrees28 S exA [123,45,60,7] exA_ok (by decide) rfl
 rw [exA_agrees] at h1
 exact h1.args ⟨(SEq_refl _ _).2 trivial,(SEq_refl _ _).2 trivial,hf⟩
theorem kFirst {Gl} (S:SP Gl):CO Gl 31 [tSheet exA] (.ret (.tup [.c (.l eI [123,45,60,7]),.c (Ci 0)])):=by
 have h1:=first31 S exA exA_ok exA_first.1
 rw [exA_first.2] at h1
 exact h1
theorem kVals {Gl} (S:SP Gl):CO Gl 37 [tSheet exD,I 1] (.ret (.tup [.c (.l eI [-7,7,17,70,107]),.c (Ci 0)])):=by
 have h1:=values37 S exD 1 exD_ok exD_vals.1 (by decide)
 rw [exD_vals.2.2.1,exD_vals.2.1] at h1
 exact h1
theorem kOpen {Gl} (S:SP Gl):CO Gl 37 [tSheet exD,I 0] (.ret (.tup [.c (.l eI []),.c (Ci 8)])):=by
 have h1:=values37 S exD 0 exD_ok exD_vals.1 (by decide)
 rw [exD_vals.2.2.2] at h1
 exact h1
theorem kSure {Gl} (S:SP Gl):CO Gl 38 [tSheet exA] (.ret (.tup [.c (.l eI [1,3]),.c (Ci 0)])):=by
 have h1:=sure38 S exA exA_ok exA_first.1
 rw [exA_sure] at h1
 exact h1
theorem exA_nextN:nextN exA=0/\nextC exA=0:=by decide +kernel
theorem kNext {Gl} (S:SP Gl):CO Gl 39 [tSheet exA] (.ret (.tup [.c (Ci 0),.c (Ci 0)])):=by
 have h1:=next39 S exA exA_ok exA_first.1
 rw [exA_nextN.1,exA_nextN.2] at h1
 exact h1
theorem kLeast {Gl} (S:SP Gl):CO Gl 29 [tSheet exA] (.ret (.tup [.c (Ci 2),.c (Ci 0)])):=by
 have h1:=least29 S exA exA_ok exA_first.1
 rw [exA_least] at h1
 exact h1
theorem kWrong {Gl} (S:SP Gl):CO Gl 48 [tSheet exA,I 0] (.ret (.tup [.c (.l eI [2,1,2,1]),.c (Ci 0)])):=by
 have h1:=wrong48 S exA 0 exA_ok exA_first.1 (by decide)
 rw [exA_wrong] at h1
 exact h1
theorem kHands {Gl} (S:SP Gl):CO Gl 49 [tSheet exB] (.ret (.tup [.c (.l eI [3,3,1]),.c (Ci 0)])):=by
 have h1:=hands49 S exB exB_ok exB_hands.1
 rw [exB_hands.2] at h1
 exact h1
theorem kBoth {Gl} (S:SP Gl):CO Gl 57 [tSheet exA,I 0,I 1] (.ret (.tup [.c (.l eI []),.c (Ci 0)])):=by
 have h1:=both57 S exA 0 1 exA_ok exA_first.1 (by decide) (by decide) (by decide)
 rw [show rows exA=4 from rfl,exA_both] at h1
 exact h1
def exS:Sheet:=⟨[[0]],[0]⟩
theorem exS_ok:exS.ok=true:=by decide +kernel
theorem exT_parse:parse exT=some exS:=by decide +kernel
theorem kRead {Gl} (S:SP Gl) (hG:GlOK Gl):CO Gl 66 [str exT] (.ret (.tup [.agg (cSheet exS),.c (Ci 0)])):=
 read66 S exT exS (by decide) (parsed110some S hG exT (by decide) exT_parse) exS_ok
theorem kPrint {Gl} (S:SP Gl):CO Gl 67 [tSheet exS] (.ret (str exT)):=by
 have h1:=print67 S exS (ok_low exS_ok)
 rw [show textS exS=exT from exT_text] at h1
 exact h1
theorem known21 {Gl} (S:SP Gl) (hG:GlOK Gl) (hB:CO Gl 72 [] (.ret (tSheet exB))):CO Gl 21 [] (.ret (B true)):=by
 refine fn_iq S (let A0:=(D.c (C.s Tag.n (4:Nat) fun i=>List.getD [List.map C.dem [C.v (Value.int IntKind.i64 (123:Int))],List.map C.dem [C.v (Value.int IntKind.i64 (45:Int))],List.map C.dem [C.v (Value.int IntKind.i64 (60:Int))],List.map C.dem [C.v (Value.int IntKind.i64 (7:Int))]] i []));let A1:=(tSheet exA);let A2:=(Value.int IntKind.i64 (1:Int));let A3:=(Value.int IntKind.i64 (2:Int));let A4:=(Value.int IntKind.i64 (3:Int));let A5:=[D.c (C.l eI [(-7:Int),(7:Int),(17:Int),(70:Int),(107:Int)]),D.c (Ci 0)];let A6:=[D.c (C.l eI [(123:Int),(45:Int),(60:Int),(7:Int)]),D.c (Ci 0)];let A7:=[D.c (C.l eI [(2:Int),(1:Int),(2:Int),(1:Int)]),D.c (Ci 0)];let A8:=[D.c (C.l eI [(3:Int),(3:Int),(1:Int)]),D.c (Ci 0)];((.r (.ret (.tup [D.c (C.l eErr errsX),D.c (Ci 0)])) (.r (.ret A1) (.r (.ret (.tup [D.c (C.l eI [(0:Int),(2:Int)]),D.c (Ci 0)])) (.r (.ret A1) (.r (.ret (.tup [D.c (C.v (Value.bool true)),D.c (Ci 0)])) (.r (.ret A1) (.r (.ret (.tup A6)) (.r (.ret (tSheet exD)) (.r (.ret (.tup A5)) (.r (.ret A1) (.r (.ret (.tup [D.c (C.l eI [(1:Int),(3:Int)]),D.c (Ci 0)])) (.r (.ret A1) (.r (.ret (.tup [D.c (Ci 0),D.c (Ci 0)])) (.r (.ret A1) (.r (.ret (.tup [D.c (Ci 2),D.c (Ci 0)])) (.r (.ret A1) (.r (.ret (.tup A7)) (.r (.ret (tSheet exB)) (.r (.ret (.tup A8)) (.r (.ret A1) (.r (.ret (.tup [D.c (C.l eI []),D.c (Ci 0)])) (.r (.ret (.tup [D.agg (cSheet exS),D.c (Ci 0)])) (.r (.ret (tSheet exD)) (.r (.ret (.tup [D.c (C.l eI []),D.c (Ci 8)])) (.sure 99 (.sure 100 (.sure 103 (.sure 104 (.sure 107 (.sure 108 (.sure 111 (.sure 112 (.sure 115 (.sure 116 (.sure 119 (.sure 120 (.sure 123 (.sure 124 (.sure 127 (.sure 128 (.sure 131 (.sure 132 (.sure 135 (.sure 136 (.sure 139 (.sure 140 (.sure 143 (.sure 144 (.ff (.r (.ret (B true)) (.sure 153 (.sure 154 (.sure 155 (.r (.ret (B true)) (.sure 156 (.sure 159 (.sure 160 (.sure 163 (.sure 164 (.sure 165 (.r (.ret (B true)) (.sure 166 (.sure 169 (.sure 170 (.sure 171 (.r (.ret (B true)) (.sure 172 (.sure 175 (.sure 176 (.sure 177 (.r (.ret (B true)) (.sure 178 (.ff (.sure 183 (.sure 184 (.sure 187 (.sure 188 (.sure 189 (.sure 190 (.sure 191 (.sure 192 (.sure 193 (.r (.ret (B true)) (.sure 196 (.sure 197 (.sure 198 (.sure 199 (.sure 200 (.sure 201 (.r (.ret (B true)) (.sure 204 (.sure 205 (.sure 206 (.sure 209 (.sure 210 (.r (.ret (str exT)) (.sure 211 .nil))))))))))))))))))))))))))))))))))))))))))))))))))))))))))))))))))))))))))))))))))))))))))))))))),(CO Gl 22 [T.d (D.c (C.s Tag.n (4:Nat) fun i=>List.getD [List.map C.dem [C.v (Value.int IntKind.i64 (132:Int))],List.map C.dem [C.v (Value.int IntKind.i64 (45:Int))],List.map C.dem [C.v (Value.int IntKind.i64 (-60:Int))],List.map C.dem [C.v (Value.int IntKind.i64 (7:Int))]] i [])),T.d A0] (.ret (.tup [D.c (C.l eErr errsX),D.c (Ci 0)]))/\CO Gl 70 [] (.ret A1)/\CO Gl 53 [tSheet exA] (.ret (.tup [D.c (C.l eI [(0:Int),(2:Int)]),D.c (Ci 0)]))/\CO Gl 70 [] (.ret A1)/\CO Gl 28 [tSheet exA,T.d A0] (.ret (.tup [D.c (C.v (Value.bool true)),D.c (Ci 0)]))/\CO Gl 70 [] (.ret A1)/\CO Gl 31 [tSheet exA] (.ret (.tup A6))/\CO Gl 71 [] (.ret (tSheet exD))/\CO Gl 37 [tSheet exD,I 1] (.ret (.tup A5))/\CO Gl 70 [] (.ret A1)/\CO Gl 38 [tSheet exA] (.ret (.tup [D.c (C.l eI [(1:Int),(3:Int)]),D.c (Ci 0)]))/\CO Gl 70 [] (.ret A1)/\CO Gl 39 [tSheet exA] (.ret (.tup [D.c (Ci 0),D.c (Ci 0)]))/\CO Gl 70 [] (.ret A1)/\CO Gl 29 [tSheet exA] (.ret (.tup [D.c (Ci 2),D.c (Ci 0)]))/\CO Gl 70 [] (.ret A1)/\CO Gl 48 [tSheet exA,I 0] (.ret (.tup A7))/\CO Gl 72 [] (.ret (tSheet exB))/\CO Gl 49 [tSheet exB] (.ret (.tup A8))/\CO Gl 70 [] (.ret A1)/\CO Gl 57 [tSheet exA,I 0,I 1] (.ret (.tup [D.c (C.l eI []),D.c (Ci 0)]))/\CO Gl 66 [str exT] (.ret (.tup [D.agg (cSheet exS),D.c (Ci 0)]))/\CO Gl 71 [] (.ret (tSheet exD))/\CO Gl 37 [tSheet exD,I 0] (.ret (.tup [D.c (C.l eI []),D.c (Ci 8)]))/\true=true/\true=true/\true=true/\true=true/\true=true/\true=true/\true=true/\true=true/\true=true/\true=true/\true=true/\true=true/\true=true/\true=true/\true=true/\true=true/\true=true/\true=true/\true=true/\true=true/\true=true/\true=true/\true=true/\true=true/\false=false/\CO Gl 25 [L eErr errsX,T.d (D.c (C.s Tag.n (2:Nat) fun i=>List.getD [List.map C.dem (List.map C.dem [C.v (Value.int IntKind.i64 (0:Int)),C.v A2]),List.map C.dem (List.map C.dem [C.v A3,C.v A4])] i []))] (.ret (B true))/\true=true/\true=true/\true=true/\CO Gl 34 [L eI [(0:Int),(2:Int)],T.d (D.c (C.s Tag.n (2:Nat) fun i=>List.getD [List.map C.dem [C.v (Value.int IntKind.i64 (0:Int))],List.map C.dem [C.v A3]] i []))] (.ret (B true))/\true=true/\true=true/\true=true/\true=true/\true=true/\true=true/\CO Gl 34 [L eI [(123:Int),(45:Int),(60:Int),(7:Int)],T.d A0] (.ret (B true))/\true=true/\true=true/\true=true/\true=true/\CO Gl 34 [L eI [(-7:Int),(7:Int),(17:Int),(70:Int),(107:Int)],T.d (D.c (C.s Tag.n (5:Nat) fun i=>List.getD [List.map C.dem [C.v (Value.int IntKind.i64 (-7:Int))],List.map C.dem [C.v (Value.int IntKind.i64 (7:Int))],List.map C.dem [C.v (Value.int IntKind.i64 (17:Int))],List.map C.dem [C.v (Value.int IntKind.i64 (70:Int))],List.map C.dem [C.v (Value.int IntKind.i64 (107:Int))]] i []))] (.ret (B true))/\true=true/\true=true/\true=true/\true=true/\CO Gl 34 [L eI [(1:Int),(3:Int)],T.d (D.c (C.s Tag.n (2:Nat) fun i=>List.getD [List.map C.dem [C.v A2],List.map C.dem [C.v A4]] i []))] (.ret (B true))/\true=true/\false=false/\true=true/\true=true/\true=true/\true=true/\true=true/\true=true/\true=true/\true=true/\true=true/\CO Gl 54 [L eI [(2:Int),(1:Int),(2:Int),(1:Int)],T.d (D.c (C.s Tag.n (4:Nat) fun i=>List.getD [List.map C.dem [C.v A3],List.map C.dem [C.v A2],List.map C.dem [C.v A3],List.map C.dem [C.v A2]] i []))] (.ret (B true))/\true=true/\true=true/\true=true/\true=true/\true=true/\true=true/\CO Gl 54 [L eI [(3:Int),(3:Int),(1:Int)],T.d (D.c (C.s Tag.n (3:Nat) fun i=>List.getD [List.map C.dem [C.v A4],List.map C.dem [C.v A4],List.map C.dem [C.v A2]] i []))] (.ret (B true))/\true=true/\true=true/\((0:Nat)<=maxLen->true=true/\true=true/\true=true/\CO Gl 67 [tSheet exS] (.ret (str exT))/\true=true/\true=true)))) Tryz.func21 (by kernel_rfl) (by kernel_rfl) ?_
 dsimp only
 have hE:SEq 2 (fun i=>List.getD [List.map C.dem (List.map C.dem [C.v (Value.int IntKind.i64 0),C.v (Value.int IntKind.i64 1)]),List.map C.dem (List.map C.dem [C.v (Value.int IntKind.i64 2),C.v (Value.int IntKind.i64 3)])] i []) errsX.length fun i=>eErr (nth errsX i):=.of ⟨rfl,fun i hi=>by
  match i,hi with
  |0,_=>rfl
  |1,_=>rfl⟩
 repeat' first|with_reducible apply And.intro|with_reducible intro _
 all_goals first
  |contradiction
  |with_reducible exact rfl
  |with_reducible exact trivial
  |with_reducible exact exA70 S
  |with_reducible exact exD71 S
  |with_reducible exact hB
  |with_reducible exact kErr S _ _ (litS [132,45,-60,7]) (litS [123,45,60,7])
  |with_reducible exact kApart S
  |with_reducible exact kAgrees S _ (litS [123,45,60,7])
  |with_reducible exact kFirst S
  |with_reducible exact kVals S
  |with_reducible exact kOpen S
  |with_reducible exact kSure S
  |with_reducible exact kNext S
  |with_reducible exact kLeast S
  |with_reducible exact kWrong S
  |with_reducible exact kHands S
  |with_reducible exact kBoth S
  |with_reducible exact kRead S hG
  |with_reducible exact kPrint S
  |with_reducible exact kSameE S _ hE
  |with_reducible exact kSame S [0,2] 2 _ (litS [0,2])
  |with_reducible exact kSame S [123,45,60,7] 4 _ (litS [123,45,60,7])
  |with_reducible exact kSame S [-7,7,17,70,107] 5 _ (litS [-7,7,17,70,107])
  |with_reducible exact kSame S [1,3] 2 _ (litS [1,3])
  |with_reducible exact kSameW S [2,1,2,1] 4 _ (litS [2,1,2,1])
  |with_reducible exact kSameW S [3,3,1] 3 _ (litS [3,3,1])
  |exact rfl
  |exact trivial
  |exact exA70 S
  |exact exD71 S
  |exact hB
  |exact kErr S _ _ (litS [132,45,-60,7]) (litS [123,45,60,7])
  |exact kApart S
  |exact kAgrees S _ (litS [123,45,60,7])
  |exact kFirst S
  |exact kVals S
  |exact kOpen S
  |exact kSure S
  |exact kNext S
  |exact kLeast S
  |exact kWrong S
  |exact kHands S
  |exact kBoth S
  |exact kRead S hG
  |exact kPrint S
  |exact kSameE S _ hE
  |exact kSame S [0,2] 2 _ (litS [0,2])
  |exact kSame S [123,45,60,7] 4 _ (litS [123,45,60,7])
  |exact kSame S [-7,7,17,70,107] 5 _ (litS [-7,7,17,70,107])
  |exact kSame S [1,3] 2 _ (litS [1,3])
  |exact kSameW S [2,1,2,1] 4 _ (litS [2,1,2,1])
  |exact kSameW S [3,3,1] 3 _ (litS [3,3,1])
  |exact trivial
  |rfl
  |omega
section
variable {P:Program} {Y:TypeId->Ty} {a:Act} {w:World}
theorem raw_slice (hY:YOK P Y) {o:Oper} {t el:TypeId} {len:Nat} {ps:Array (Nat×Operand)} {vs:List Value} (ho:o.op=.buildSlice t len ps) (hk:(Y t).kind=.slice el) (hkn:(Y el).known=true) (hs:(Y el).size=1)
  (hp:(ps.map fun x=>(x.1,a.eval x.2)).toList=(vs.zipIdx 0).map fun x=>(x.2,x.1)) (hl:vs.length=len) (hpos:1<=len) (hsm:len<=100) (hc:∀ v∈vs,v.cells=#[v]):
  (execOp a.eval o).run P w=.ok (.value (.slice (some ⟨w.heap.size,0,none⟩) len len)) (w.alloc (.cells vs.toArray el)):=by
 obtain ⟨dd,i,z,h1,h2,h3,h4,h5,h6,h7,h8⟩:=hY t (by simp [Ty.known,hk])
 rw [hk] at h7
 simp only [KOK] at h7
 subst h7
 obtain ⟨dd,ie,ze,g1,g2,g3,g4,g5,g6,g7,g8⟩:=hY el hkn
 have hvsz:∀ v∈vs,v.cells.size=1:=fun v hv=>by rw [hc v hv];rfl
 have hfill:=Great.fill_whole (s:=1) (by omega) vs ((Array.range (len*1)).map (ze.cells[· % ze.cells.size]!)) hvsz (by simp [hl])
 have hrow:(vs.flatMap fun v=>v.cells.toList)=vs:=by
  clear hfill hvsz hp hl
  induction vs with
  |nil=>rfl
  |cons v vs ih=>
   rw [List.flatMap_cons,ih fun x hx=>hc x (List.mem_cons_of_mem _ hx),hc v List.mem_cons_self]
   rfl
 rw [hrow] at hfill
 have hrun:=run_buildSlice (P:=P) w t el len (ps.map fun x=>(x.1,a.eval x.2)) _ ie ze h1 g2 g5 (by rw [g3,hs];omega) (by rw [g3,hs];omega) (by rw [hp,g3,hs];exact hfill)
 simp [execOp,ho,hrun]
theorem raw_grow (hY:YOK P Y) {t el:TypeId} {p q:Operand} {b sb n m sc:Nat} {olds news:List Value} {f1 f2:Nat×Nat} {T1 T2:TypeId} (hk:(Y t).kind=.slice el) (hkn:(Y el).known=true) (hs:(Y el).size=1) (hby:(Y el).bytes<=100)
  (hp:a.eval p=.slice (some ⟨b,0,none⟩) n n) (hq:a.eval q=.slice (some ⟨sb,0,none⟩) m sc) (hn:olds.length=n) (hm:news.length=m) (hm1:1<=m) (hnm:n+m<=100)
  (hb:w.heap[b]?=some (.cells olds.toArray T1 f1)) (hsb:w.heap[sb]?=some (.cells news.toArray T2 f2)):
  ∃ cap zs,n+m<=cap/\cap<=maxLen/\∀ o:Oper,o.op=.call { callee:=.builtin .append,args:=#[p,q],argTypes:=#[t,t] }->(execOp a.eval o).run P w=.ok (.value (.slice (some ⟨w.heap.size,0,none⟩) (n+m) cap)) (w.drew.alloc (.cells (olds.toArray++news.toArray++zs) el)):=by
 obtain ⟨dd,i,z,h1,h2,h3,h4,h5,h6,h7,h8⟩:=hY t (by simp [Ty.known,hk])
 rw [hk] at h7
 simp only [KOK] at h7
 subst h7
 obtain ⟨dd,ie,ze,g1,g2,g3,g4,g5,g6,g7,g8⟩:=hY el hkn
 have hc1:∀ (j:Nat) (v:Value),olds[j]?=some v->w.cell? ((⟨b,0,none⟩:Addr).add j)=some v:=fun j v hj=>by
  rw [addr_add]
  simp only [World.cell?,hb,Nat.zero_add]
  simpa using hj
 have hc2:∀ (j:Nat) (v:Value),news[j]?=some v->w.cell? ((⟨sb,0,none⟩:Addr).add j)=some v:=fun j v hj=>by
  rw [addr_add]
  simp only [World.cell?,hsb,Nat.zero_add]
  simpa using hj
 have hbound:(n+m)*(Y el).bytes<=140737488355328:=by
  have:=Nat.mul_le_mul hnm hby
  omega
 have hrun:=fun ty=>run_append_grow (P:=P) w t ty el ie ze h1 g2 g5 ⟨b,0,none⟩ n n olds (by rw [g3,hs];omega) hc1 ⟨sb,0,none⟩ m sc news (by rw [g3,hs];omega) hc2 (by omega) (by omega) (by rw [g4];exact growslice_fits (by omega) hbound)
 have hge:=grownCap_ge w (n+m) n el
 refine ⟨grownCap w (n+m) n el,Builtin.zeroCells ze.cells (grownCap w (n+m) n el - (n+m)),hge,?_,?_⟩
 ·exact grownCap_le_maxLen w (n+m) n el (by unfold maxLen;omega)
 ·intro o ho
  simp [execOp,ho,hp,hq,resolve,invoke,builtin,hrun]
theorem raw_put (hY:YOK P Y) {o:Oper} {p q:Operand} {t:TypeId} {b k:Nat} {v:Value} {cur:Array Value} {ct:TypeId} (ho:o.op=.store t p q) (hkn:(Y t).known=true) (hsz:(Y t).size=1) (hp:a.eval p=.pointer (some ⟨b,k,none⟩)) (hq:a.eval q=v)
  (hv:v.cells=#[v]) (h1:v.oneCell'=true) (hk:k<cur.size) (hcur:w.heap[b]?=some (.cells cur ct (0,0))):
  (execOp a.eval o).run P w=.ok .skip (w.setRow b (cur.toList.take k++[v]++cur.toList.drop (k+1)).toArray):=by
 have hst:=run_storeCells_at P b k ct [v] 0 cur w hcur (by simp only [List.length_singleton];omega) (fun u hu=>by rw [List.mem_singleton.1 hu];exact h1)
 have hvl:v.cells.toList=[v]:=by rw [hv]
 have hv2:v.cells.size=1:=by rw [hv];rfl
 simp only [Nat.add_zero,List.length_singleton] at hst
 simp [execOp,ho,hp,hq,Instr.storeAt,Instr.sureAddr,storeVar,run_sizeOf hY hkn,hsz,hv,hst]
theorem raw_put0 (hY:YOK P Y) {p q:Operand} {t:TypeId} {b:Nat} {v c0 c1:Value} {ct:TypeId} (hkn:(Y t).known=true) (hsz:(Y t).size=1) (hp:a.eval p=.pointer (some ⟨b,0,none⟩)) (hq:a.eval q=v)
  (hv:v.cells=#[v]) (h1:v.oneCell'=true) (hcur:w.heap[b]?=some (.cells #[c0,c1] ct (0,0))):
  ∃ w',(∀ o:Oper,o.op=.store t p q->(execOp a.eval o).run P w=.ok .skip w')/\w'.heap[b]?=some (.cells #[v,c1] ct (0,0))/\Same w w'/\∀ b',b'≠b->w'.heap[b']?=w.heap[b']?:=
 ⟨_,fun o ho=>raw_put hY ho hkn hsz hp hq hv h1 (cur:=#[c0,c1]) (Nat.zero_lt_succ 1) hcur,setRow_heap w b _ _ _ _ hcur,⟨rfl,rfl,rfl,by simp [World.setRow]⟩,fun b' hb=>setRow_other w b b' _ hb⟩
theorem raw_put1 (hY:YOK P Y) {p q:Operand} {t:TypeId} {b:Nat} {v c0 c1:Value} {ct:TypeId} (hkn:(Y t).known=true) (hsz:(Y t).size=1) (hp:a.eval p=.pointer (some ⟨b,1,none⟩)) (hq:a.eval q=v)
  (hv:v.cells=#[v]) (h1:v.oneCell'=true) (hcur:w.heap[b]?=some (.cells #[c0,c1] ct (0,0))):
  ∃ w',(∀ o:Oper,o.op=.store t p q->(execOp a.eval o).run P w=.ok .skip w')/\w'.heap[b]?=some (.cells #[c0,v] ct (0,0))/\Same w w'/\∀ b',b'≠b->w'.heap[b']?=w.heap[b']?:=
 ⟨_,fun o ho=>raw_put hY ho hkn hsz hp hq hv h1 (cur:=#[c0,c1]) (Nat.lt_succ_self 1) hcur,setRow_heap w b _ _ _ _ hcur,⟨rfl,rfl,rfl,by simp [World.setRow]⟩,fun b' hb=>setRow_other w b b' _ hb⟩
end
theorem raw_field {P:Program} {Y:TypeId->Ty} {a:Act} {w:World} (hY:YOK P Y) {o:Oper} {p:Operand} {s:TypeId} {f b off:Nat} {fs:List (Nat×TypeId)} {q:Nat×TypeId} (ho:o.op=.fieldAddr s p f) (hfs:(Y s).fields=some fs) (hq:fs[f]?=some q) (hp:a.eval p=.pointer (some ⟨b,off,none⟩)):
  (execOp a.eval o).run P w=.ok (.value (.pointer (some ⟨b,off+q.1,none⟩))) w:=by
 have hk:=fields_struct hfs
 obtain ⟨d,i,z,h1,h2,h3,h4,h5,h6,h7,h8⟩:=hY s (struct_known hk)
 rw [hk] at h7
 obtain ⟨fields,rfl,hmap,hne⟩:=h7
 rw [<-hmap] at hq
 rw [List.getElem?_map] at hq
 cases hf:fields.toList[f]? with
 |none=>rw [hf] at hq;cases hq
 |some fld=>
  rw [hf] at hq
  simp only [Option.map_some,Option.some.injEq] at hq
  subst hq
  obtain ⟨i',hi',hne'⟩:=hne fld (List.mem_of_getElem? hf)
  have hf':fields[f]?=some fld:=by simpa using hf
  simp [execOp,ho,hp,Instr.fieldAt,run_underlying h1,hf',Instr.sureAddr,fieldPlace,sizeOf,typeInfo,hi',hne',addr_add]
structure AtA (w w':World) (v:Value) (b1 b2 b3 b4:Nat):Prop where
 same:Same w w'
 old:∀ b,b<w.heap.size->w'.heap[b]?=w.heap[b]?
 val:v=.agg #[.slice (some ⟨b3,0,none⟩) 2 2,.slice (some ⟨b4,0,none⟩) 2 2]
 lo:w.heap.size<=b1/\b1<b2/\b2<b3/\b3<b4/\b4<w'.heap.size
 c1:w'.heap[b1]?=some (.cells #[.int .i64 123,.int .i64 45,.int .i64 (-60),.int .i64 7] 3 (0,0))
 c2:w'.heap[b2]?=some (.cells #[.int .i64 132,.int .i64 45,.int .i64 60,.int .i64 7] 3 (0,0))
 c3:w'.heap[b3]?=some (.cells #[.slice (some ⟨b1,0,none⟩) 4 4,.slice (some ⟨b2,0,none⟩) 4 4] 22 (0,0))
 c4:w'.heap[b4]?=some (.cells #[.int .i64 1,.int .i64 1] 3 (0,0))
theorem k22:(Y 22).kind=.slice 3:=by kernel_rfl
theorem k40:(Y 40).kind=.slice 22:=by kernel_rfl
theorem kn3:(Y 3).known=true:=by kernel_rfl
theorem kn22:(Y 22).known=true:=by kernel_rfl
theorem kn40:(Y 40).known=true:=by kernel_rfl
theorem kn42:(Y 42).known=true:=by kernel_rfl
theorem s3:(Y 3).size=1:=by kernel_rfl
theorem s22:(Y 22).size=1:=by kernel_rfl
theorem s40:(Y 40).size=1:=by kernel_rfl
theorem s42:(Y 42).size=2:=by kernel_rfl
theorem z42:(Y 42).zero.toArray=#[.slice none 0 0,.slice none 0 0]:=by kernel_rfl
theorem a42:(Y 42).agg=some true:=by kernel_rfl
theorem built42 (p q:Option Addr) (n c m d:Nat):Tryz.prog.built 42 [(0,.slice p n c),(1,.slice q m d)]=some #[.slice p n c,.slice q m d]:=by kernel_rfl
theorem alloc_facts (w:World) (o:Obj):∃ w',w.alloc o=w'/\Same w w'/\w'.heap.size=w.heap.size+1/\w'.heap[w.heap.size]?=some o/\∀ b,b<w.heap.size->w'.heap[b]?=w.heap[b]?:=
 ⟨_,rfl,same_alloc _ _,World.size_alloc ..,World.alloc_heap_new w _,fun b hb=>heap_alloc_lt _ _ hb⟩
theorem sheet_results {f:Func} {t:Nat} (hf:f.results=#[.cell t 42]) {a:Act} {w:World} {b1:Nat} {cs:Array Value} (h1:a.tmps.getD t undef=.pointer (some ⟨b1,0,none⟩)) (hc:cs.size=2)
  (g1:w.heap[b1]?=some (.cells cs 42 (0,0))):(results f a.tmps).run Tryz.prog w=.ok (.agg cs) w:=by
 have l1:=run_loadAgg yok a42 (w:=w) (b:=b1) (off:=0) (us:=cs.toList) (by rw [s42];simpa using hc) fun j u hj=>by
  simp only [World.cell?,g1,Nat.zero_add]
  simpa using hj
 have he:f.results.mapM (resM a.tmps)=List.toArray <$> f.results.toList.mapM (resM a.tmps):=Array.mapM_eq_mapM_toList ..
 have he2:results f a.tmps=(f.results.mapM (resM a.tmps) >>= fun vs=>pure (if h:vs.size=1 then vs[0] else .tuple vs)):=rfl
 have hrun:([ResultVar.cell t 42].mapM (resM a.tmps)).run Tryz.prog w=.ok [.agg cs] w:=by
  have r1:(resM a.tmps (.cell t 42)).run Tryz.prog w=.ok (.agg cs) w:=by simp [resM,h1,asAddr,l1]
  rw [run_mapM_cons,r1,Result.andThen_ok]
  simp
 rw [he2,he,hf]
 simp only [Sem.run_bind,Sem.run_map,hrun,Result.andThen_ok,Sem.run_pure]
 rfl
theorem calls70 (w:World):Calls Tryz.prog 70 #[] w fun en w'=>∃ v b1 b2 b3 b4,en=.returned v/\AtA w w' v b1 b2 b3 b4:=by
 go_enter_defers Tryz.func70,Tryz.ntmps70
 have S:SL { tmps:=#[undef,undef,undef,undef,undef,undef],defers:=[] } 6 (fun t=>#[].getD t undef) []:=by
  exact SL.start #[] 6 (Nat.le_of_ble_eq_true rfl)
 generalize ({ tmps:=#[undef,undef,undef,undef,undef,undef],defers:=[] }:Act)=a at S ⊢
 refine wp_seq (wp_region_list ?_)
 have hal:=fun (o:Oper) (ho:o.op=Op.alloc 42)=>raw_alloc (P:=Tryz.prog) (a:=a) (w:=w) (o:=o) yok (t:=42) ho kn42
 rw [z42] at hal
 refine rl_val S (d:=0) rfl (by decide) rfl (hal _ rfl) fun a1 S1=>?_
 obtain ⟨w1,hw1,m1,z1,n1,o1⟩:=alloc_facts w (.cells #[.slice none 0 0,.slice none 0 0] 42)
 rw [hw1]
 refine wp_seq (wp_region_list ?_)
 refine rl_val S1 (d:=1) rfl (by decide) rfl (raw_slice yok (vs:=[.int .i64 123,.int .i64 45,.int .i64 (-60),.int .i64 7]) rfl k22 kn3 s3 (by simp [Act.eval]) rfl (by decide) (by decide) (by simp [Value.cells])) fun a2 S2=>?_
 obtain ⟨w2,hw2,m2,z2,n2,o2⟩:=alloc_facts w1 (.cells [Value.int .i64 123,.int .i64 45,.int .i64 (-60),.int .i64 7].toArray 3)
 rw [hw2]
 refine rl_val S2 (d:=2) rfl (by decide) rfl (raw_slice yok (vs:=[.int .i64 132,.int .i64 45,.int .i64 60,.int .i64 7]) rfl k22 kn3 s3 (by simp [Act.eval]) rfl (by decide) (by decide) (by simp [Value.cells])) fun a3 S3=>?_
 obtain ⟨w3,hw3,m3,z3,n3,o3⟩:=alloc_facts w2 (.cells [Value.int .i64 132,.int .i64 45,.int .i64 60,.int .i64 7].toArray 3)
 rw [hw3]
 refine rl_val S3 (d:=3) rfl (by decide) rfl (raw_slice yok (vs:=[.slice (some ⟨w1.heap.size,0,none⟩) 4 4,.slice (some ⟨w2.heap.size,0,none⟩) 4 4]) rfl k40 kn22 s22 (by simp [S3.eval,upd]) rfl (by decide) (by decide) (by simp [Value.cells])) fun a4 S4=>?_
 obtain ⟨w4,hw4,m4,z4,n4,o4⟩:=alloc_facts w3 (.cells [Value.slice (some ⟨w1.heap.size,0,none⟩) 4 4,.slice (some ⟨w2.heap.size,0,none⟩) 4 4].toArray 22)
 rw [hw4]
 refine rl_val S4 (d:=4) rfl (by decide) rfl (raw_slice yok (vs:=[.int .i64 1,.int .i64 1]) rfl k22 kn3 s3 (by simp [Act.eval]) rfl (by decide) (by decide) (by simp [Value.cells])) fun a5 S5=>?_
 obtain ⟨w5,hw5,m5,z5,n5,o5⟩:=alloc_facts w4 (.cells [Value.int .i64 1,.int .i64 1].toArray 3)
 rw [hw5]
 refine rl_val S5 (d:=5) (v:=.agg #[.slice (some ⟨w3.heap.size,0,none⟩) 2 2,.slice (some ⟨w4.heap.size,0,none⟩) 2 2]) (w':=w5) rfl (by decide) rfl ?_ fun a6 S6=>?_
 ·simp [execOp,S5.eval,upd,run_build (P:=Tryz.prog) w5 42 _ _ (built42 (some ⟨w3.heap.size,0,none⟩) (some ⟨w4.heap.size,0,none⟩) 2 2 2 2)]
 have g0:w5.heap[w.heap.size]?=some (.cells #[.slice none 0 0,.slice none 0 0] 42 (0,0)):=by rw [o5 _ (by omega),o4 _ (by omega),o3 _ (by omega),o2 _ (by omega)];exact n1
 have H:=fun (o:Oper) (ho:o.op=Op.store 42 (.tmp 0) (.tmp 5))=>raw_store (P:=Tryz.prog) (a:=a6) (w:=w5) (v:=.agg #[.slice (some ⟨w3.heap.size,0,none⟩) 2 2,.slice (some ⟨w4.heap.size,0,none⟩) 2 2]) (b:=w.heap.size) (o:=o)
  yok (t:=42) ho kn42 (by simp [S6.eval,upd]) (by simp [S6.eval,upd]) (by rw [s42];rfl) (by rw [s42];rfl) (by simp [Value.cells,Value.oneCell']) g0
 obtain ⟨_,t2,t3,t4⟩:=H (stO 42 (.tmp 0) (.tmp 5)) rfl
 refine rl_skip S6 rfl rfl (H _ rfl).1 fun a7 S7=>?_
 clear H
 generalize w5.setRow w.heap.size (Value.agg #[.slice (some ⟨w3.heap.size,0,none⟩) 2 2,.slice (some ⟨w4.heap.size,0,none⟩) 2 2]).cells=w6 at t2 t3 t4 ⊢
 refine wp_ret ?_
 show Leaves Tryz.prog Tryz.f70 a7.tmps _ a7.defers .returning w6
 rw [S7.defers]
 have r1:=sheet_results (f:=Tryz.f70) (t:=0) Tryz.results70 (a:=a7) (w:=w6) (b1:=w.heap.size) (by rw [S7.get 0 (by decide)];simp [upd]) rfl t2
 have hsz:=t3.size
 refine ⟨_,r1,_,w1.heap.size,w2.heap.size,w3.heap.size,w4.heap.size,rfl,⟨((((m1.trans m2).trans m3).trans m4).trans m5).trans t3,fun b hb=>?_,rfl,by omega,?_,?_,?_,?_⟩⟩
 ·rw [t4 _ (by omega),o5 _ (by omega),o4 _ (by omega),o3 _ (by omega),o2 _ (by omega),o1 _ hb]
 ·rw [t4 _ (by omega),o5 _ (by omega),o4 _ (by omega),o3 _ (by omega)];exact n2
 ·rw [t4 _ (by omega),o5 _ (by omega),o4 _ (by omega)];exact n3
 ·rw [t4 _ (by omega),o5 _ (by omega)];exact n4
 ·rw [t4 _ (by omega)];exact n5
theorem fs42:(Y 42).fields=some [(0,40),(1,22)]:=by kernel_rfl
theorem fn70:FnOK Tryz.prog 70:=⟨Tryz.f70,by kernel_rfl,by kernel_rfl,by kernel_rfl⟩
theorem ag40:(Y 40).agg=some false:=by kernel_rfl
theorem by22:(Y 22).bytes<=100:=Nat.le_of_ble_eq_true (by kernel_rfl)
structure AtB (w w':World) (v:Value) (b1 b2 d1 d3 d4 cap:Nat) (zs:Array Value):Prop where
 same:Same w w'
 old:∀ b,b<w.heap.size->w'.heap[b]?=w.heap[b]?
 val:v=.agg #[.slice (some ⟨d3,0,none⟩) 3 cap,.slice (some ⟨d4,0,none⟩) 3 3]
 cap:3<=cap/\cap<=maxLen
 lo:w.heap.size<=b1/\b1<b2/\b2<d1/\d1<d3/\d3<d4/\d4<w'.heap.size
 c1:w'.heap[b1]?=some (.cells #[.int .i64 123,.int .i64 45,.int .i64 (-60),.int .i64 7] 3 (0,0))
 c2:w'.heap[b2]?=some (.cells #[.int .i64 132,.int .i64 45,.int .i64 60,.int .i64 7] 3 (0,0))
 e1:w'.heap[d1]?=some (.cells #[.int .i64 123,.int .i64 45,.int .i64 60,.int .i64 7] 3 (0,0))
 e3:w'.heap[d3]?=some (.cells (#[.slice (some ⟨b1,0,none⟩) 4 4,.slice (some ⟨b2,0,none⟩) 4 4,.slice (some ⟨d1,0,none⟩) 4 4]++zs) 22 (0,0))
 e4:w'.heap[d4]?=some (.cells #[.int .i64 1,.int .i64 1,.int .i64 0] 3 (0,0))
theorem calls72 (w:World):Calls Tryz.prog 72 #[] w fun en w'=>∃ v b1 b2 d1 d3 d4 cap zs,en=.returned v/\AtB w w' v b1 b2 d1 d3 d4 cap zs:=by
 go_enter_defers Tryz.func72,Tryz.ntmps72
 have S:SL { tmps:=#[undef,undef,undef,undef,undef,undef,undef,undef,undef,undef,undef,undef],defers:=[] } 12 (fun t=>#[].getD t undef) []:=by
  exact SL.start #[] 12 (Nat.le_of_ble_eq_true rfl)
 generalize ({ tmps:=#[undef,undef,undef,undef,undef,undef,undef,undef,undef,undef,undef,undef],defers:=[] }:Act)=a at S ⊢
 refine wp_seq (wp_region_list ?_)
 have hal:=fun (o:Oper) (ho:o.op=Op.alloc 42)=>raw_alloc (P:=Tryz.prog) (a:=a) (w:=w) (o:=o) yok (t:=42) ho kn42
 rw [z42] at hal
 refine rl_val S (d:=0) rfl (by decide) rfl (hal _ rfl) fun a1 S1=>?_
 obtain ⟨w1,hw1,m1,z1,n1,o1⟩:=alloc_facts w (.cells #[.slice none 0 0,.slice none 0 0] 42)
 rw [hw1]
 refine wp_seq (wp_region_list ?_)
 refine rl_call S1 (d:=2) (g:=70) (vs:=#[]) rfl (by decide) rfl ?_ (calls70 w1) (fun v w2 hr a2 S2=>?_) (fun ch w2 hr=>?_) (fun w2 hr=>?_)
 ·have:=fun (o:Oper) (ho:o.op=Op.call { callee:=Callee.value (.func 70),args:=#[],argTypes:=#[] })=>exec_call (P:=Tryz.prog) (a:=a1) (w:=w1) (o:=o) ho rfl fn70 (us:=#[]) (cvs:=#[])
  simpa using this _ rfl
 ·obtain ⟨v',b1,b2,b3,b4,hv,A⟩:=hr
  obtain rfl:v=v':=Ending.returned.inj hv
  have hA:=A.lo
  have hval:=A.val
  subst hval
  have hal:=fun (o:Oper) (ho:o.op=Op.alloc 42)=>raw_alloc (P:=Tryz.prog) (a:=a2) (w:=w2) (o:=o) yok (t:=42) ho kn42
  rw [z42] at hal
  refine rl_val S2 (d:=1) rfl (by decide) rfl (hal _ rfl) fun a3 S3=>?_
  obtain ⟨w3,hw3,m3,z3,n3,o3⟩:=alloc_facts w2 (.cells #[.slice none 0 0,.slice none 0 0] 42)
  rw [hw3]
  have H:=fun (o:Oper) (ho:o.op=Op.store 42 (.tmp 1) (.tmp 2))=>raw_store (P:=Tryz.prog) (a:=a3) (w:=w3) (v:=.agg #[.slice (some ⟨b3,0,none⟩) 2 2,.slice (some ⟨b4,0,none⟩) 2 2]) (b:=w2.heap.size) (o:=o)
   yok (t:=42) ho kn42 (by simp [S3.eval,upd]) (by simp [S3.eval,upd]) (by rw [s42];rfl) (by rw [s42];rfl) (by simp [Value.cells,Value.oneCell']) n3
  obtain ⟨_,t2,t3,t4⟩:=H (stO 42 (.tmp 1) (.tmp 2)) rfl
  refine rl_skip S3 rfl rfl (H _ rfl).1 fun a4 S4=>?_
  clear H
  generalize w3.setRow w2.heap.size (Value.agg #[.slice (some ⟨b3,0,none⟩) 2 2,.slice (some ⟨b4,0,none⟩) 2 2]).cells=w4 at t2 t3 t4 ⊢
  have hz4:=t3.size
  refine wp_seq (wp_region_list ?_)
  refine rl_val S4 (d:=3) rfl (by decide) rfl (raw_field yok rfl fs42 rfl (b:=w2.heap.size) (off:=0) (by simp [S4.eval,upd])) fun a5 S5=>?_
  refine rl_val S5 (d:=4) rfl (by decide) rfl (raw_load1 yok (b:=w2.heap.size) (k:=0) (u:=.slice (some ⟨b3,0,none⟩) 2 2) rfl ag40 (by simp [S5.eval,upd]) (by simp [World.cell?,t2,Value.cells])) fun a6 S6=>?_
  refine rl_val S6 (d:=5) rfl (by decide) rfl (raw_slice yok (vs:=[.int .i64 123,.int .i64 45,.int .i64 60,.int .i64 7]) rfl k22 kn3 s3 (by simp [Act.eval]) rfl (by decide) (by decide) (by simp [Value.cells])) fun a7 S7=>?_
  obtain ⟨w5,hw5,m5,z5,n5,o5⟩:=alloc_facts w4 (.cells [Value.int .i64 123,.int .i64 45,.int .i64 60,.int .i64 7].toArray 3)
  rw [hw5]
  refine rl_val S7 (d:=6) rfl (by decide) rfl (raw_slice yok (vs:=[.slice (some ⟨w4.heap.size,0,none⟩) 4 4]) rfl k40 kn22 s22 (by simp [S7.eval,upd]) rfl (by decide) (by decide) (by simp [Value.cells])) fun a8 S8=>?_
  obtain ⟨w6,hw6,m6,z6,n6,o6⟩:=alloc_facts w5 (.cells [Value.slice (some ⟨w4.heap.size,0,none⟩) 4 4].toArray 22)
  rw [hw6]
  have hb3:w6.heap[b3]?=some (.cells [Value.slice (some ⟨b1,0,none⟩) 4 4,.slice (some ⟨b2,0,none⟩) 4 4].toArray 22 (0,0)):=by
   rw [o6 _ (by omega),o5 _ (by omega),t4 _ (by omega),o3 _ (by omega)];exact A.c3
  obtain ⟨cap,zs,hc1,hc2,hrun⟩:=raw_grow (P:=Tryz.prog) (a:=a8) (w:=w6) (p:=.tmp 4) (q:=.tmp 6) yok (t:=40) (el:=22) (b:=b3) (sb:=w5.heap.size) (n:=2) (m:=1) (sc:=1)
   (olds:=[Value.slice (some ⟨b1,0,none⟩) 4 4,.slice (some ⟨b2,0,none⟩) 4 4]) (news:=[Value.slice (some ⟨w4.heap.size,0,none⟩) 4 4]) k40 kn22 s22 by22 (by simp [S8.eval,upd]) (by simp [S8.eval,upd]) rfl rfl (by decide) (by decide) hb3 n6
  refine rl_val S8 (d:=7) rfl (by decide) rfl (hrun _ rfl) fun a9 S9=>?_
  clear hrun
  obtain ⟨w7,hw7,m7,z7,n7,o7⟩:=alloc_facts w6.drew (.cells ([Value.slice (some ⟨b1,0,none⟩) 4 4,.slice (some ⟨b2,0,none⟩) 4 4].toArray++[Value.slice (some ⟨w4.heap.size,0,none⟩) 4 4].toArray++zs) 22)
  rw [hw7]
  have hdh:w6.drew.heap=w6.heap:=rfl
  have hds:Same w6 w6.drew:=⟨rfl,rfl,rfl,Nat.le_refl _⟩
  rw [hdh] at z7 n7 o7
  refine rl_val S9 (d:=8) rfl (by decide) rfl (raw_slice yok (vs:=[.int .i64 1,.int .i64 1,.int .i64 0]) rfl k22 kn3 s3 (by simp [Act.eval]) rfl (by decide) (by decide) (by simp [Value.cells])) fun a10 S10=>?_
  obtain ⟨w8,hw8,m8,z8,n8,o8⟩:=alloc_facts w7 (.cells [Value.int .i64 1,.int .i64 1,.int .i64 0].toArray 3)
  rw [hw8]
  have hc8:w8.heap[w2.heap.size]?=some (.cells #[.slice (some ⟨b3,0,none⟩) 2 2,.slice (some ⟨b4,0,none⟩) 2 2] 42 (0,0)):=by
   rw [o8 _ (by omega),o7 _ (by omega),o6 _ (by omega),o5 _ (by omega)];exact t2
  refine rl_val S10 (d:=9) rfl (by decide) rfl (raw_field yok rfl fs42 rfl (b:=w2.heap.size) (off:=0) (by simp [S10.eval,upd])) fun a11 S11=>?_
  obtain ⟨w9,q0,q1,q3,q2⟩:=raw_put0 (P:=Tryz.prog) (a:=a11) (w:=w8) (p:=.tmp 9) (q:=.tmp 7) yok (t:=40) kn40 s40 (b:=w2.heap.size) (v:=.slice (some ⟨w6.heap.size,0,none⟩) 3 cap) (by simp [S11.eval,upd]) (by simp [S11.eval,upd]) rfl rfl hc8
  refine rl_skip S11 rfl rfl (q0 _ rfl) fun a12 S12=>?_
  refine rl_val S12 (d:=10) rfl (by decide) rfl (raw_field yok rfl fs42 rfl (b:=w2.heap.size) (off:=0) (by simp [S12.eval,upd])) fun a13 S13=>?_
  obtain ⟨w10,r0,r1,r3,r2⟩:=raw_put1 (P:=Tryz.prog) (a:=a13) (w:=w9) (p:=.tmp 10) (q:=.tmp 8) yok (t:=22) kn22 s22 (b:=w2.heap.size) (v:=.slice (some ⟨w7.heap.size,0,none⟩) 3 3) (by simp [S13.eval,upd]) (by simp [S13.eval,upd]) rfl rfl q1
  refine rl_skip S13 rfl rfl (r0 _ rfl) fun a14 S14=>?_
  refine wp_seq (wp_region_list ?_)
  refine rl_val S14 (d:=11) rfl (by decide) rfl (raw_load yok (b:=w2.heap.size) (cur:=#[.slice (some ⟨w6.heap.size,0,none⟩) 3 cap,.slice (some ⟨w7.heap.size,0,none⟩) 3 3]) (t:=42) rfl a42 (by simp [S14.eval,upd]) (by rw [s42];rfl) r1) fun a15 S15=>?_
  have hn0:w10.heap[w.heap.size]?=some (.cells #[.slice none 0 0,.slice none 0 0] 42 (0,0)):=by
   rw [r2 _ (by omega),q2 _ (by omega),o8 _ (by omega),o7 _ (by omega),o6 _ (by omega),o5 _ (by omega),t4 _ (by omega),o3 _ (by omega),A.old _ (by omega)];exact n1
  have H:=fun (o:Oper) (ho:o.op=Op.store 42 (.tmp 0) (.tmp 11))=>raw_store (P:=Tryz.prog) (a:=a15) (w:=w10) (v:=.agg #[.slice (some ⟨w6.heap.size,0,none⟩) 3 cap,.slice (some ⟨w7.heap.size,0,none⟩) 3 3]) (b:=w.heap.size) (o:=o)
   yok (t:=42) ho kn42 (by simp [S15.eval,upd]) (by simp [S15.eval,upd]) (by rw [s42];rfl) (by rw [s42];rfl) (by simp [Value.cells,Value.oneCell']) hn0
  obtain ⟨_,v2,v3,v4⟩:=H (stO 42 (.tmp 0) (.tmp 11)) rfl
  refine rl_skip S15 rfl rfl (H _ rfl).1 fun a16 S16=>?_
  clear H
  generalize w10.setRow w.heap.size (Value.agg #[.slice (some ⟨w6.heap.size,0,none⟩) 3 cap,.slice (some ⟨w7.heap.size,0,none⟩) 3 3]).cells=w11 at v2 v3 v4 ⊢
  refine wp_ret ?_
  show Leaves Tryz.prog Tryz.f72 a16.tmps _ a16.defers .returning w11
  rw [S16.defers]
  have e1:=sheet_results (f:=Tryz.f72) (t:=0) Tryz.results72 (a:=a16) (w:=w11) (b1:=w.heap.size) (by rw [S16.get 0 (by decide)];simp [upd]) rfl v2
  have y1:=q3.size
  have y2:=r3.size
  have y3:=v3.size
  have old:∀ b,b<w8.heap.size->b≠w2.heap.size->b≠w.heap.size->w11.heap[b]?=w8.heap[b]?:=fun b hb h1 h2=>by rw [v4 _ h2,r2 _ h1,q2 _ h1]
  have old6:∀ b,b<w4.heap.size->b≠w2.heap.size->b≠w.heap.size->w11.heap[b]?=w4.heap[b]?:=fun b hb h1 h2=>by rw [old b (by omega) h1 h2,o8 _ (by omega),o7 _ (by omega),o6 _ (by omega),o5 _ hb]
  have oldA:∀ b,b<w2.heap.size->b≠w.heap.size->w11.heap[b]?=w2.heap[b]?:=fun b hb h2=>by rw [old6 b (by omega) (by omega) h2,t4 _ (by omega),o3 _ hb]
  refine ⟨_,e1,_,b1,b2,w4.heap.size,w6.heap.size,w7.heap.size,cap,zs,rfl,⟨?_,fun b hb=>?_,rfl,⟨hc1,hc2⟩,by omega,?_,?_,?_,?_,?_⟩⟩
  ·exact ((((((((((m1.trans A.same).trans m3).trans t3).trans m5).trans m6).trans hds).trans m7).trans m8).trans q3).trans r3).trans v3
  ·rw [oldA b (by omega) (by omega),A.old _ (by omega),o1 _ hb]
  ·rw [oldA _ (by omega) (by omega)];exact A.c1
  ·rw [oldA _ (by omega) (by omega)];exact A.c2
  ·rw [old _ (by omega) (by omega) (by omega),o8 _ (by omega),o7 _ (by omega),o6 _ (by omega)];exact n5
  ·rw [old _ (by omega) (by omega) (by omega),o8 _ (by omega)];exact n7
  ·rw [old _ (by omega) (by omega) (by omega)];exact n8
 ·obtain ⟨_,_,_,_,_,h,_⟩:=hr;cases h
 ·obtain ⟨_,_,_,_,_,h,_⟩:=hr;cases h
theorem rep_ints {vis:Nat->Nat} {w:World} {b:Nat} {l:List Int} {T:TypeId} {f:Nat×Nat} (hl:l.length<=100) (hb:w.heap[b]?=some (.cells (l.map (Value.int .i64)).toArray T f)) (hv:l.length<=vis b):Rep vis w (.l eI l) (.slice (some ⟨b,0,none⟩) l.length l.length):=by
 refine .s _ _ _ b 0 l.length 1 (fun i _=>.int .i64 (nth l i)) (Nat.le_refl _) (by unfold maxLen;omega) (fun i hi=>rfl) (by omega) (fun i j c hi hj=>?_) (fun i j c hi hj=>?_)
 ·have hj0:j=0:=by
   have:=(List.getElem?_eq_some_iff.1 hj).1
   have h1:(eI (nth l i)).length=1:=rfl
   omega
  subst hj0
  simp only [World.cell?,hb]
  rw [show 0+i*1+0=i by omega]
  simp [nth_eq hi,hi]
 ·have hj0:j=0:=by
   have:=(List.getElem?_eq_some_iff.1 hj).1
   have h1:(eI (nth l i)).length=1:=rfl
   omega
  subst hj0
  obtain rfl:C.v (.int .i64 (nth l i))=c:=Option.some.inj hj
  exact .v _ rfl
theorem exB72 {Gl:World->Prop}:CO Gl 72 [] (.ret (tSheet exB)):=by
 refine ⟨⟨Tryz.f72,by kernel_rfl,by kernel_rfl,by kernel_rfl⟩,fun vis w vs hvis hgl hargs=>?_⟩
 obtain rfl:vs=#[]:=by
  simp only [RelTs] at hargs
  exact Array.toList_eq_nil_iff.1 hargs
 refine (calls72 w).mono ?_
 rintro en w' ⟨v,b1,b2,d1,d3,d4,cap,zs,rfl,A⟩
 have hA:=A.lo
 have hcap:=A.cap
 refine ⟨⟨A.same.os,A.same.tape,A.same.output,A.same.size,A.old⟩,v,fun b=>if b<w.heap.size then vis b else if b<w'.heap.size then 4 else 0,rfl,fun b hb=>if_pos hb,fun b hb=>?_,?_⟩
 ·have:=A.same.size
  show (if b<w.heap.size then vis b else if b<w'.heap.size then 4 else 0)=0
  rw [if_neg (by omega),if_neg (by omega)]
 ·generalize hvv:(fun b=>if b<w.heap.size then vis b else if b<w'.heap.size then 4 else 0)=vv
  have hv4:∀ b,w.heap.size<=b->b<w'.heap.size->vv b=4:=fun b h1 h2=>by rw [<-hvv];show (if b<w.heap.size then vis b else if b<w'.heap.size then 4 else 0)=4;rw [if_neg (by omega),if_pos h2]
  have hval:=A.val
  subst hval
  have i1:=rep_ints (vis:=vv) (l:=[123,45,-60,7]) (by decide) A.c1 (by rw [hv4 _ (by omega) (by omega)];decide)
  have i2:=rep_ints (vis:=vv) (l:=[132,45,60,7]) (by decide) A.c2 (by rw [hv4 _ (by omega) (by omega)];decide)
  have i3:=rep_ints (vis:=vv) (l:=[123,45,60,7]) (by decide) A.e1 (by rw [hv4 _ (by omega) (by omega)];decide)
  have i4:=rep_ints (vis:=vv) (l:=[1,1,0]) (by decide) A.e4 (by rw [hv4 _ (by omega) (by omega)];decide)
  refine ⟨_,rfl,rfl,fun j c u hc hu=>?_⟩
  match j,hc,hu with
  |0,hc,hu=>
   obtain rfl:=Option.some.inj hc
   obtain rfl:=Option.some.inj hu
   refine .s _ _ _ d3 0 cap 1 (fun i _=>match i with|0=>.slice (some ⟨b1,0,none⟩) 4 4|1=>.slice (some ⟨b2,0,none⟩) 4 4|_=>.slice (some ⟨d1,0,none⟩) 4 4) hcap.1 hcap.2 (fun i hi=>rfl) (by rw [hv4 _ (by omega) (by omega)];decide) (fun i j c hi hj=>?_) (fun i j c hi hj=>?_)
   ·have hj0:j=0:=by
     have h1:=(List.getElem?_eq_some_iff.1 hj).1
     have h2:(eCol (nth exB.cols i)).length=1:=rfl
     omega
    subst hj0
    have hi:i<3:=hi
    match i,hi with
    |0,_=>
     simp only [World.cell?,A.e3]
     exact (Array.getElem?_append_left (show 0<3 by decide)).trans rfl
    |1,_=>
     simp only [World.cell?,A.e3]
     exact (Array.getElem?_append_left (show 1<3 by decide)).trans rfl
    |2,_=>
     simp only [World.cell?,A.e3]
     exact (Array.getElem?_append_left (show 2<3 by decide)).trans rfl
   ·have hj0:j=0:=by
     have h1:=(List.getElem?_eq_some_iff.1 hj).1
     have h2:(eCol (nth exB.cols i)).length=1:=rfl
     omega
    subst hj0
    obtain rfl:C.l eI (nth exB.cols i)=c:=Option.some.inj hj
    have hi:i<3:=hi
    match i,hi with
    |0,_=>exact i1
    |1,_=>exact i2
    |2,_=>exact i3
  |1,hc,hu=>
   obtain rfl:=Option.some.inj hc
   obtain rfl:=Option.some.inj hu
   exact i4
  |j+2,hc,hu=>cases hc
theorem slim20 {Gl} (S:SP Gl) (l:List Int):CO Gl 20 [L eI l] (.ret (B (decide ((l.length:Int)<=8)))):=by
 refine fn_is S (.nil) Tryz.func20 (by kernel_rfl) (l.length<=maxLen->decide ((l.length:Int)<=8)=decide ((l.length:Int)<=8)) (by kernel_rfl) ?_
 simp only [stdS,imp_self,implies_true,and_true]
theorem opposite59 {Gl} (S:SP Gl) (l:List Int) (h:l.all num=true) (hl:l.length<=1000):CO Gl 59 [L eI l] (.ret (L eI (l.map fun x=>-x))):=by
 refine fn_iq S (let A0:=(List.map (fun x=>-x) l);((.loop l.length (fun k=>[v 4 (I k),v 0 (L eI l),tk 100 3,v 3 (Lt 100 eI (List.take k A0))]) fun k0=>.br .nil .nil),((0=(↑(0:Nat):Int)/\(sR eI l)/\(0:Nat)=(0:Nat))/\∀ (k0:Nat),k0<=l.length->l.length<=maxLen->(decide ((k0:Int)<(l.length:Int))=true->(0<=(k0:Int)/\(k0:Int)<(l.length:Int))/\iR (-nth l k0)/\(List.length (List.take k0 A0)+1)*8<=140737488355328/\List.length (List.take k0 A0)+1<=140737488355328/\iR ((k0:Int)+1)/\k0<l.length/\(k0:Int)+1=(↑(k0+1):Int)/\(sR eI l)/\SEq (List.length (List.take k0 A0)+1) (catF (List.length (List.take k0 A0)) (fun i=>eI (nth (List.take k0 A0) i)) fun i=>List.getD [List.map C.dem [C.v (Value.int IntKind.i64 (-nth l k0))]] i []) (List.length (List.take (k0+1) A0)) fun i=>eI (nth (List.take (k0+1) A0) i))/\(decide ((k0:Int)<(l.length:Int))=false->sQ eI (List.take k0 A0) A0)))) Tryz.func59 (by kernel_rfl) (by kernel_rfl) ?_
 simp only [stdS,imp_self,implies_true,and_true]
 have hn:(l.map fun x=>-x).length=l.length:=List.length_map ..
 refine fun k hk hm=>⟨fun hd=>?_,fun hd=>?_⟩
 ·have hlt:k<l.length:=by have:=of_decide_eq_true hd;omega
  have ht:((l.map fun x=>-x).take k).length<=1000:=by rw [List.length_take];omega
  have hx:=num_iff.1 (num_nth h k hlt)
  exact ⟨⟨by omega,by omega⟩,(rng_iff _).2 (by omega),by omega,by omega,rng_succ hd hm,hlt,by omega,SEq_push (by omega) (by rw [nth_map hlt];rfl)⟩
 ·have hke:k=l.length:=by have:=of_decide_eq_false hd;omega
  exact SEq_whole (by rw [hke,<-hn,List.take_length])
def stF (s:Sheet):Bool:=s.ok&&decide (0<(allR s).length)
def stC (s:Sheet):Int:=bif s.ok then (bif decide (0<(allR s).length) then 0 else 5) else 2
theorem stF_yes {s:Sheet} (h:stF s=true):s.ok=true/\0<(allR s).length/\stC s=0:=by
 unfold stF at h
 rw [Bool.and_eq_true,decide_eq_true_eq] at h
 unfold stC
 rw [h.1,decide_eq_true h.2]
 exact ⟨rfl,h.2,rfl⟩
theorem st_cases (s:Sheet):(s.ok=true/\0<(allR s).length/\stF s=true/\stC s=0)∨(s.ok=true/\(allR s).length=0/\stF s=false/\stC s=5)∨(s.ok=false/\stF s=false/\stC s=2):=by
 unfold stF stC
 cases hs:s.ok with
 |false=>exact .inr (.inr ⟨rfl,rfl,rfl⟩)
 |true=>
  rcases Nat.eq_zero_or_pos (allR s).length with h|h
  ·exact .inr (.inl ⟨rfl,h,by rw [h];rfl,by rw [h];rfl⟩)
  ·exact .inl ⟨rfl,h,by rw [decide_eq_true h];rfl,by rw [decide_eq_true h];rfl⟩
section
variable {Gl} (S:SP Gl) (s:Sheet)
include S
theorem least29a:CO Gl 29 [tSheet s] (.ret (.tup [.c (Ci (bif stF s then leastA s else 0)),.c (Ci (stC s))])):=by
 rcases st_cases s with ⟨h1,h2,h3,h4⟩|⟨h1,h2,h3,h4⟩|⟨h1,h3,h4⟩<;>rw [h3,h4]
 ·exact least29 S s h1 h2
 ·exact least29n S s h1 h2
 ·exact least29e S s h1
theorem sure38a:CO Gl 38 [tSheet s] (.ret (.tup [.c (.l eI (bif stF s then sureL s (allR s) else [])),.c (Ci (stC s))])):=by
 rcases st_cases s with ⟨h1,h2,h3,h4⟩|⟨h1,h2,h3,h4⟩|⟨h1,h3,h4⟩<;>rw [h3,h4]
 ·exact sure38 S s h1 h2
 ·exact sure38n S s h1 h2
 ·exact sure38e S s h1
theorem hands49a:CO Gl 49 [tSheet s] (.ret (.tup [.c (.l eI (bif stF s then handsL s (allR s) else [])),.c (Ci (stC s))])):=by
 rcases st_cases s with ⟨h1,h2,h3,h4⟩|⟨h1,h2,h3,h4⟩|⟨h1,h3,h4⟩<;>rw [h3,h4]
 ·exact hands49 S s h1 h2
 ·exact hands49n S s h1 h2
 ·exact hands49e S s h1
def rowC (s:Sheet) (r:Int):Int:=bif s.ok&&inR r 0 ((rows s:Int) - 1) then stC s else 2
def rowF (s:Sheet) (r:Int):Bool:=stF s&&inR r 0 ((rows s:Int) - 1)
theorem values37a (r:Int):CO Gl 37 [tSheet s,I r] (.ret (.tup [.c (.l eI (bif rowF s r&&!isOpen s (allR s) r.toNat then valL (allR s) r.toNat else [])),.c (Ci (bif rowF s r&&isOpen s (allR s) r.toNat then 8 else rowC s r))])):=by
 unfold rowF rowC
 cases hr:inR r 0 ((rows s:Int) - 1) with
 |false=>
  simp only [Bool.and_false,Bool.false_and,cond_false]
  cases hs:s.ok with
  |false=>exact values37e S s r hs
  |true=>exact values37r S s r hs hr
 |true=>
  obtain ⟨h5,h6⟩:=inR_iff.1 hr
  have hrn:((r.toNat:Nat):Int)=r:=by omega
  simp only [Bool.and_true]
  rcases st_cases s with ⟨h1,h2,h3,h4⟩|⟨h1,h2,h3,h4⟩|⟨h1,h3,h4⟩<;>rw [h3,h4,h1]
  ·have h:=values37 S s r.toNat h1 h2 (by omega)
   rw [hrn] at h
   cases ho:isOpen s (allR s) r.toNat<;>rw [ho] at h<;>exact h
  ·have h:=values37n S s r.toNat h1 h2 (by omega)
   rw [hrn] at h
   exact h
  ·exact values37e S s r h1
end
set_option maxRecDepth 100000
set_option maxRecDepth 100000
set_option maxRecDepth 100000
set_option maxHeartbeats 4000000
set_option maxRecDepth 100000
set_option maxHeartbeats 4000000
set_option maxRecDepth 100000
set_option maxHeartbeats 8000000
set_option maxRecDepth 100000
set_option maxHeartbeats 8000000
section
variable {Gl:World->Prop} {s:Sheet} {w:List Int} {e:Int}
end
def vV (s:Sheet) (r:Int):List Int:=bif rowF s r&&!isOpen s (allR s) r.toNat then valL (allR s) r.toNat else []
def cV (s:Sheet) (r:Int):Int:=bif rowF s r&&isOpen s (allR s) r.toNat then 8 else rowC s r
section
variable {Gl} (S:SP Gl) (s:Sheet) (w:List Int) (e:Int)
include S
theorem values37v (r:Int):CO Gl 37 [tSheet s,I r] (.ret (.tup [.c (.l eI (vV s r)),.c (Ci (cV s r))])):=values37a S s r
end
theorem cV_some {s:Sheet} {r:Int} (hs:s.ok=true) (h3:stF s=true) (h4:stC s=0) (hr:isRow s r=true):cV s r=(bif isOpen s (allR s) r.toNat then 8 else 0)/\vV s r=(bif !isOpen s (allR s) r.toNat then valL (allR s) r.toNat else []):=by
 have hr':inR r 0 ((rows s:Int) - 1)=true:=hr
 unfold cV vV rowF rowC
 rw [h3,hs,hr',h4]
 exact ⟨rfl,rfl⟩
theorem cV_none {s:Sheet} {r:Int} (hs:s.ok=true) (h3:stF s=false) (h4:stC s=5) (hr:isRow s r=true):cV s r=5/\vV s r=[]:=by
 have hr':inR r 0 ((rows s:Int) - 1)=true:=hr
 unfold cV vV rowF rowC
 rw [h3,hs,hr',h4]
 exact ⟨rfl,rfl⟩
set_option maxRecDepth 100000
set_option maxHeartbeats 8000000
def negK (s:Sheet) (k:Nat):Sheet:=⟨(negS s).cols.take k,s.errs⟩
theorem negK_all {s:Sheet} {k:Nat} (h:k=s.cols.length):negK s k=negS s:=by
 unfold negK
 rw [h,<-neg_len (s:=s),List.take_length]
 rfl
theorem neg_st {s:Sheet} (hs:s.ok=true):stF (negS s)=stF s/\stC (negS s)=stC s:=by
 unfold stF stC
 rw [neg_ok hs,hs,decide_eq_decide.2 (neg_some hs)]
 exact ⟨rfl,rfl⟩
theorem neg_row {s:Sheet} (hs:s.ok=true) (r:Int):isRow (negS s) r=isRow s r:=by unfold isRow;rw [neg_rows hs]
theorem neg_cV {s:Sheet} (hs:s.ok=true) {r:Int} (hr:isRow s r=true):cV (negS s) r=cV s r/\vV s r=(negL (vV (negS s) r)).reverse/\(vV (negS s) r).length<=21/\(vV (negS s) r).all num=true:=by
 have hx:=neg_ok hs
 have hr2:isRow (negS s) r=true:=by rw [neg_row hs];exact hr
 obtain ⟨e1,e2⟩:=neg_st hs
 obtain ⟨r1,r2⟩:=inR_iff.1 hr
 have hr':r.toNat<rows s:=by omega
 have hrx:r.toNat<rows (negS s):=by rw [neg_rows hs];exact hr'
 rcases st_cases s with ⟨_,h2,h3,h4⟩|⟨_,h2,h3,h4⟩|⟨g,_,_⟩
 ·obtain ⟨q1,q2⟩:=cV_some hs h3 h4 hr
  obtain ⟨q3,q4⟩:=cV_some hx (by rw [e1];exact h3) (by rw [e2];exact h4) hr2
  rw [q1,q2,q3,q4,neg_open hs hr']
  cases oS:isOpen s (allR s) r.toNat with
  |true=>exact ⟨rfl,rfl,Nat.zero_le _,rfl⟩
  |false=>
   have oX:isOpen (negS s) (allR (negS s)) r.toNat=false:=by rw [neg_open hs hr'];exact oS
   refine ⟨rfl,neg_val hs hr' oS,val_len hx hrx oX,List.all_eq_true.2 fun x hxm=>?_⟩
   obtain ⟨c,hc,rfl⟩:=(val_iff hx hrx oX).1 hxm
   exact List.all_eq_true.1 hc.2.1 _ (nth_mem (by rw [hc.1];exact hrx))
 ·obtain ⟨q1,q2⟩:=cV_none hs h3 h4 hr
  obtain ⟨q3,q4⟩:=cV_none hx (by rw [e1];exact h3) (by rw [e2];exact h4) hr2
  rw [q1,q2,q3,q4]
  exact ⟨rfl,rfl,Nat.zero_le _,rfl⟩
 ·rw [hs] at g;cases g
theorem neg_handsL {s:Sheet} (hs:s.ok=true) (h0:0<(allR s).length):handsL (negS s) (allR (negS s))=handsL s (allR s):=by
 have h1:∀ x:Sheet,(handsL x (allR x)).length=x.cols.length:=fun x=>by unfold handsL;rw [List.length_map,List.length_range]
 refine List.ext_getElem (by rw [h1,h1,neg_len]) fun i hi hi2=>?_
 rw [<-nth_eq hi,<-nth_eq hi2]
 rw [h1] at hi2
 rw [handsL_at (by rw [neg_len];exact hi2),handsL_at hi2,neg_hand hs h0 hi2]
section
variable {Gl} (S:SP Gl) (s:Sheet) (k:Nat) (hk:k=s.cols.length) (hs:s.ok=true)
include S hk hs
theorem can47z (l:List Int) (hl:isCol l=true) (hn:l.length=rows s):CO Gl 47 [tSheet (negK s k),L eI (l.map fun x=>-x)] (.ret (.tup [D.c (C.v (Value.bool (agrees s l))),D.c (C.v (Value.bool true))])):=by
 rw [negK_all hk]
 have h:=can47 S (negS s) (negL l) (neg_ok hs) (by unfold isCol at hl ⊢;rw [negL_num,negL_len];exact hl) (by rw [negL_len,neg_rows hs];exact hn)
 rw [neg_agrees_eq hs hn] at h
 exact h
theorem values37z (r:Int) (hr:isRow s r=true):CO Gl 37 [tSheet (negK s k),I r] (.ret (.tup [.c (.l eI (vV (negS s) r)),.c (Ci (cV s r))])):=by
 rw [negK_all hk]
 have h:=values37v S (negS s) r
 rw [(neg_cV hs hr).1] at h
 exact h
theorem sure38z:CO Gl 38 [tSheet (negK s k)] (.ret (.tup [.c (.l eI (bif stF s then sureL s (allR s) else [])),.c (Ci (stC s))])):=by
 rw [negK_all hk]
 have h:=sure38a S (negS s)
 rw [(neg_st hs).1,(neg_st hs).2,neg_sures hs] at h
 exact h
theorem least29z:CO Gl 29 [tSheet (negK s k)] (.ret (.tup [.c (Ci (bif stF s then leastA s else 0)),.c (Ci (stC s))])):=by
 rw [negK_all hk]
 have h:=least29a S (negS s)
 rw [(neg_st hs).1,(neg_st hs).2] at h
 cases u:stF s with
 |false=>simp only [u,cond_false] at h ⊢;exact h
 |true=>
  rw [u,cond_true,neg_least hs (stF_yes u).2.1] at h
  simp only [cond_true]
  exact h
theorem hands49z:CO Gl 49 [tSheet (negK s k)] (.ret (.tup [.c (.l eI (bif stF s then handsL s (allR s) else [])),.c (Ci (stC s))])):=by
 rw [negK_all hk]
 have h:=hands49a S (negS s)
 rw [(neg_st hs).1,(neg_st hs).2] at h
 cases u:stF s with
 |false=>simp only [u,cond_false] at h ⊢;exact h
 |true=>
  rw [u,cond_true,neg_handsL hs (stF_yes u).2.1] at h
  simp only [cond_true]
  exact h
end
theorem law15 {Gl} (S:SP Gl) (hG:GlOK Gl) (s:Sheet) (l:List Int) (r:Int):CO Gl 15 [tSheet s,L eI l,I r] (.ret (B true)):=by
 refine fn_iq S (let A0:=(bif bif bif bif bif bif bif bif bif false then true else bif true then !agrees s l==agrees s l else agrees s l==agrees s l then true else cV s r != cV s r then true else decide (25<(List.length (vV s r):Int)) then true else decide (25<(↑(List.length (vV (negS s) r)):Int)) then true else stC s != stC s then true else !sameL (fun x1 x2=>x1==x2) (bif stF s then sureL s (allR s) else []) (bif stF s then sureL s (allR s) else []) then true else stC s != stC s then true else (bif stF s then leastA s else (0:Int)) != bif stF s then leastA s else (0:Int) then true else stC s != stC s);let A1:=(bif bif bif bif bif bif bif bif false then true else bif true then !agrees s l==agrees s l else agrees s l==agrees s l then true else cV s r != cV s r then true else decide (25<(List.length (vV s r):Int)) then true else decide (25<(↑(List.length (vV (negS s) r)):Int)) then true else stC s != stC s then true else !sameL (fun x1 x2=>x1==x2) (bif stF s then sureL s (allR s) else []) (bif stF s then sureL s (allR s) else []) then true else stC s != stC s then true else (bif stF s then leastA s else (0:Int)) != bif stF s then leastA s else (0:Int));let A2:=(bif bif bif bif bif false then true else bif true then !agrees s l==agrees s l else agrees s l==agrees s l then true else cV s r != cV s r then true else decide (25<(List.length (vV s r):Int)) then true else decide (25<(↑(List.length (vV (negS s) r)):Int)) then true else stC s != stC s);let A3:=(bif bif bif bif bif bif bif false then true else bif true then !agrees s l==agrees s l else agrees s l==agrees s l then true else cV s r != cV s r then true else decide (25<(List.length (vV s r):Int)) then true else decide (25<(↑(List.length (vV (negS s) r)):Int)) then true else stC s != stC s then true else !sameL (fun x1 x2=>x1==x2) (bif stF s then sureL s (allR s) else []) (bif stF s then sureL s (allR s) else []) then true else stC s != stC s);let A4:=(bif bif bif bif bif bif false then true else bif true then !agrees s l==agrees s l else agrees s l==agrees s l then true else cV s r != cV s r then true else decide (25<(List.length (vV s r):Int)) then true else decide (25<(↑(List.length (vV (negS s) r)):Int)) then true else stC s != stC s then true else !sameL (fun x1 x2=>x1==x2) (bif stF s then sureL s (allR s) else []) (bif stF s then sureL s (allR s) else []));let A5:=(bif bif bif bif false then true else bif true then !agrees s l==agrees s l else agrees s l==agrees s l then true else cV s r != cV s r then true else decide (25<(List.length (vV s r):Int)) then true else decide (25<(↑(List.length (vV (negS s) r)):Int)));let A6:=(bif bif bif false then true else bif true then !agrees s l==agrees s l else agrees s l==agrees s l then true else cV s r != cV s r then true else decide (25<(List.length (vV s r):Int)));let A7:=(bif bif !(shortB s&&Sheet.ok s) then true else !decide ((l.length:Int)<=8) then true else !isRight s l);let A8:=(bif bif false then true else bif true then !agrees s l==agrees s l else agrees s l==agrees s l then true else cV s r != cV s r);let A9:=(bif bif bif bif bif bif bif bif bif bif false then true else bif true then !agrees s l==agrees s l else agrees s l==agrees s l then true else cV s r != cV s r then true else decide (25<(List.length (vV s r):Int)) then true else decide (25<(↑(List.length (vV (negS s) r)):Int)) then true else stC s != stC s then true else !sameL (fun x1 x2=>x1==x2) (bif stF s then sureL s (allR s) else []) (bif stF s then sureL s (allR s) else []) then true else stC s != stC s then true else (bif stF s then leastA s else (0:Int)) != bif stF s then leastA s else (0:Int) then true else stC s != stC s then true else !sameL (fun x1 x2=>x1==x2) (bif stF s then handsL s (allR s) else []) (bif stF s then handsL s (allR s) else []));let A10:=(bif !(shortB s&&Sheet.ok s) then true else !decide ((l.length:Int)<=8));let A11:=(bif false then true else bif true then !agrees s l==agrees s l else agrees s l==agrees s l);let A12:=(List.reverse (List.map (fun x=>-x) (vV (negS s) r)));let A13:=(bif stF s then handsL s (allR s) else []);let A14:=(bif stF s then sureL s (allR s) else []);let A15:=(vV (negS s) r);let A16:=[D.c (Ci (bif stF s then leastA s else (0:Int))),D.c (Ci (stC s))];let A17:=[D.c (C.v (Value.bool (agrees s l))),D.c (C.v (Value.bool true))];let A18:=(shortB s&&Sheet.ok s);let A19:=(fun x1 x2=>x1==x2);let A20:=(bif bif bif !A18 then true else !decide ((l.length:Int)<=8) then true else !isRight s l then true else !isRow s r);let A21:=[D.c (C.l eI A14),D.c (Ci (stC s))];let A22:=[D.c (C.l eI A13),D.c (Ci (stC s))];let A23:=(List.map negL s.1);let A24:=(eqB A10 false=true->eqB A10 false=true);let A25:=(eqB A7 false=true->eqB A7 false=true);let A26:=(eqB A2 false=true->eqB A2 false=true);let A27:=(eqB A0 false=true->eqB A0 false=true);let A28:=(fun x=>-x);let A29:=(sameL A19 (vV s r) A12);let A30:=(Sheet.cols s);let A31:=(eqB (!A18) false=true->eqB (!A18) false=true);((.r (.ret (B A18)) (.r (.ret (B (decide ((l.length:Int)<=8)))) (.r (.ret (B (isRight s l))) (.r (.ret (B (isRow s r))) (.br (.r (.ret (B true)) .nil) (.loop (List.length A30) (fun k=>v 8 (I k)::v 7 (ad 7)::((2:Nat),(7:Nat),live)::((10:Nat),(0:Nat),T.d (D.c (C.s (Tag.t (900:Nat)) (List.length (List.take k (Sheet.cols (negS s)))) fun i=>eCol (nth (List.take k (Sheet.cols (negS s))) i))))::((10:Nat),(1:Nat),T.d (D.c (C.l eI (Sheet.errs s))))::tk 900 22::v 1 (L eI l)::v 2 (I r)::v 3 (ad 3)::bx 3 (cSheet s)) fun k0=>.br (.r (.ret (L eI (List.map A28 (nth A30 k0)))) .nil) (.r (.ret (.tup A17)) (.r (.ret (L eI (List.map A28 l))) (.r (.ret (.tup A17)) (.r (.ret (.tup [D.c (C.l eI (vV s r)),D.c (Ci (cV s r))])) (.r (.ret (.tup [D.c (C.l eI A15),D.c (Ci (cV s r))])) (.r (.ret (.tup A21)) (.r (.ret (.tup A21)) (.r (.ret (.tup A16)) (.r (.ret (.tup A16)) (.r (.ret (.tup A22)) (.r (.ret (.tup A22)) (.sure 130 (.sure 131 (.sure 134 (.sure 135 (.sure 136 (.r (.ret (B (sameL A19 A14 A14))) (.r (.ret (B (sameL A19 A13 A13))) (.br .nil (.loop (List.length A15) (fun k=>[v 29 (I k),v 15 (L eI A15),v 13 (L eI (vV s r))]) fun k1=>.br (.r (.ret (B (num (nth A15 k1)))) (.br .nil .nil)) (.r (.ret (L eI (List.map A28 A15))) (.r (.ret (L eI A12)) (.r (.ret (B A29)) (.r (.ret (B true)) .nil)))))))))))))))))))))))))))))),(CO Gl 44 [tSheet s] (.ret (B A18))/\A31/\(eqB (!A18) false=true->CO Gl 20 [L eI l] (.ret (B (decide ((l.length:Int)<=8)))))/\A31/\((!A18)=false->eqB (!A18) false=true)/\A24/\A24/\(eqB A10 false=true->CO Gl 45 [tSheet s,L eI l] (.ret (B (isRight s l))))/\A24/\(A10=false->eqB A10 false=true)/\A25/\A25/\(eqB A7 false=true->CO Gl 42 [tSheet s,I r] (.ret (B (isRow s r))))/\A25/\(A7=false->eqB A7 false=true)/\(A20=true->CO Gl 21 [] (.ret (B true))/\true=true)/\(A20=false->(0=(↑(0:Nat):Int)/\(0:Nat)=(0:Nat)/\(sR eI s.2)/\(sR eI l)/\r=r/\(sR eCol s.1)/\sR eI s.2)/\∀ (k0:Nat),k0<=List.length A30->s.1.length<=maxLen->(decide ((k0:Int)<(s.1.length:Int))=true->(0<=(k0:Int)/\(k0:Int)<(s.1.length:Int))/\CO Gl 59 [L eI (nth A30 k0)] (.ret (L eI (List.map A28 (nth A30 k0))))/\(List.length (List.take k0 A23)+1)*24<=140737488355328/\List.length (List.take k0 A23)+1<=140737488355328/\iR ((k0:Int)+1)/\k0<List.length A30/\(k0:Int)+1=(↑(k0+1):Int)/\(SEq (List.length (List.take k0 A23)+1) (catF (List.length (List.take k0 A23)) (fun i=>eCol (nth (List.take k0 A23) i)) fun i=>List.getD [List.map C.dem [C.s Tag.n (List.length (List.map A28 (nth s.1 k0))) fun i=>eI (nth (List.map A28 (nth s.1 k0)) i)]] i []) (List.length (List.take (k0+1) A23)) fun i=>eCol (nth (List.take (k0+1) A23) i))/\(sR eI s.2)/\(sR eI l)/\r=r/\(sR eCol s.1)/\sR eI s.2)/\(decide ((k0:Int)<(s.1.length:Int))=false->CO Gl 47 [tSheet s,L eI l] (.ret (.tup A17))/\CO Gl 59 [L eI l] (.ret (L eI (List.map A28 l)))/\CO Gl 47 [tSheet (negK s k0),L eI (List.map A28 l)] (.ret (.tup A17))/\CO Gl 37 [tSheet s,I r] (.ret (.tup [D.c (C.l eI (vV s r)),D.c (Ci (cV s r))]))/\CO Gl 37 [tSheet (negK s k0),I r] (.ret (.tup [D.c (C.l eI A15),D.c (Ci (cV s r))]))/\CO Gl 38 [tSheet s] (.ret (.tup A21))/\CO Gl 38 [tSheet (negK s k0)] (.ret (.tup A21))/\CO Gl 29 [tSheet s] (.ret (.tup A16))/\CO Gl 29 [tSheet (negK s k0)] (.ret (.tup A16))/\CO Gl 49 [tSheet s] (.ret (.tup A22))/\CO Gl 49 [tSheet (negK s k0)] (.ret (.tup A22))/\true=true/\true=true/\true=true/\true=true/\true=true/\(eqB A11 false=true->eqB A11 false=true)/\(eqB A11 false=true->eqB A11 false=true)/\(A11=false->eqB A11 false=true)/\(eqB A8 false=true->eqB A8 false=true)/\((eqB A8 false=true->List.length (vV s r)<=maxLen)->(eqB A8 false=true->eqB A8 false=true)/\(A8=false->eqB A8 false=true)/\(eqB A6 false=true->eqB A6 false=true)/\((eqB A6 false=true->List.length A15<=maxLen)->(eqB A6 false=true->eqB A6 false=true)/\(A6=false->eqB A6 false=true)/\(eqB A5 false=true->eqB A5 false=true)/\(eqB A5 false=true->eqB A5 false=true)/\(A5=false->eqB A5 false=true)/\A26/\A26/\(eqB A2 false=true->CO Gl 34 [L eI A14,L eI A14] (.ret (B (sameL A19 A14 A14))))/\A26/\(A2=false->eqB A2 false=true)/\(eqB A4 false=true->eqB A4 false=true)/\(eqB A4 false=true->eqB A4 false=true)/\(A4=false->eqB A4 false=true)/\(eqB A3 false=true->eqB A3 false=true)/\(eqB A3 false=true->eqB A3 false=true)/\(A3=false->eqB A3 false=true)/\(eqB A1 false=true->eqB A1 false=true)/\(eqB A1 false=true->eqB A1 false=true)/\(A1=false->eqB A1 false=true)/\A27/\A27/\(eqB A0 false=true->CO Gl 54 [L eI A13,L eI A13] (.ret (B (sameL A19 A13 A13))))/\A27/\(A0=false->eqB A0 false=true)/\(A9=true->false=true)/\(A9=false->(0=(↑(0:Nat):Int)/\(sR eI A15)/\sR eI (vV s r))/\∀ (k1:Nat),k1<=List.length A15->List.length A15<=maxLen->(decide ((k1:Int)<(↑(List.length (vV (negS s) r)):Int))=true->(0<=(k1:Int)/\(k1:Int)<(↑(List.length A15):Int))/\CO Gl 60 [I (nth A15 k1)] (.ret (B (num (nth A15 k1))))/\((!num (nth A15 k1))=true->false=true)/\((!num (nth A15 k1))=false->iR ((k1:Int)+1)/\k1<List.length A15/\(k1:Int)+1=(↑(k1+1):Int)/\(sR eI A15)/\sR eI (vV s r)))/\(decide ((k1:Int)<(↑(List.length (vV (negS s) r)):Int))=false->CO Gl 59 [L eI A15] (.ret (L eI (List.map A28 A15)))/\CO Gl 61 [L eI (List.map A28 A15)] (.ret (L eI A12))/\CO Gl 34 [L eI (vV s r),L eI A12] (.ret (B A29))/\(eqB A29 true=true->CO Gl 21 [] (.ret (B true)))/\(sameL A19 (vV s r) A12=true->eqB A29 true=true)/\(bif sameL A19 (vV s r) A12 then true else false)=true))))))))) Tryz.func15 (by kernel_rfl) (by kernel_rfl) ?_
 have hK:=known21 S hG exB72
 have c0:=right44 S s
 have c1:=slim20 S l
 simp (config:={ maxSteps:=20000000 }) only [zero_cast,eqB_true,eqB_false,imp_self,true_and,and_true,and_self,implies_true,bif_and,bif_or,bif_nand,bif_nor,Bool.and_assoc,Bool.not_eq_eq_eq_not,Bool.not_true,Bool.not_false,SEq_refl,Bool.or_assoc]
 cases e1:(shortB s&&s.ok)
 ·rw [e1] at c0
  simp only [e1,cond_true,cond_false,Bool.and_true,Bool.and_false,Bool.true_and,Bool.false_and,Bool.or_false,Bool.false_or,Bool.or_true,Bool.true_or,Bool.not_true,Bool.not_false] at c0 ⊢
  ((repeat' (first|with_reducible apply And.intro|with_reducible intro _))<;>first|contradiction|with_reducible rfl|exact c0|exact hK|(simp;done)|omega)
 obtain ⟨e0,h1⟩:=Bool.and_eq_true_iff.1 e1
 rw [e1] at c0
 have hrs:=(col_len ((ok_len h1).2.2.2 0 (by have:=(ok_len h1).1;omega))).2.2
 have hcl:=(ok_len h1).1
 have hcm:=(ok_len h1).2.1
 have c2:=right45 S s l (by omega) (by omega)
 have c3:=row42 S s r (by omega) (by omega)
 cases e2:decide ((l.length:Int)<=8)
 ·rw [e2] at c1
  simp only [e1,e2,cond_true,cond_false,Bool.and_true,Bool.and_false,Bool.true_and,Bool.false_and,Bool.or_false,Bool.false_or,Bool.or_true,Bool.true_or,Bool.not_true,Bool.not_false] at *
  ((repeat' (first|with_reducible apply And.intro|with_reducible intro _))<;>first|contradiction|with_reducible rfl|exact c0|exact hK|exact c1|exact c2|exact c3|(simp;done)|omega)
 rw [e2] at c1
 cases e3:isRight s l
 ·rw [e3] at c2
  simp only [e1,e2,e3,cond_true,cond_false,Bool.and_true,Bool.and_false,Bool.true_and,Bool.false_and,Bool.or_false,Bool.false_or,Bool.or_true,Bool.true_or,Bool.not_true,Bool.not_false] at *
  ((repeat' (first|with_reducible apply And.intro|with_reducible intro _))<;>first|contradiction|with_reducible rfl|exact c0|exact hK|exact c1|exact c2|exact c3|(simp;done)|omega)
 rw [e3] at c2
 cases e4:isRow s r
 ·rw [e4] at c3
  simp only [e1,e2,e3,e4,cond_true,cond_false,Bool.and_true,Bool.and_false,Bool.true_and,Bool.false_and,Bool.or_false,Bool.false_or,Bool.or_true,Bool.true_or,Bool.not_true,Bool.not_false] at *
  ((repeat' (first|with_reducible apply And.intro|with_reducible intro _))<;>first|contradiction|with_reducible rfl|exact c0|exact hK|exact c1|exact c2|exact c3|(simp;done)|omega)
 rw [e4] at c3
 obtain ⟨l1,l2⟩:=Bool.and_eq_true_iff.1 e3
 have l3:l.length=rows s:=beq_iff_eq.1 l2
 have hel:s.errs.length=s.cols.length:=(ok_len h1).2.2.1
 obtain ⟨q1,q2,q3,q4⟩:=neg_cV h1 e4
 have m:∀ x:List Int,sameL (fun x1 x2=>x1==x2) x x=true:=sameL_self
 have hneg:negL (vV (negS s) r)=(vV (negS s) r).map fun x=>-x:=rfl
 have hlen:(vV s r).length<=21:=by rw [q2,List.length_reverse,negL_len];exact q3
 have v1:decide (25<((vV s r).length:Int))=false:=decide_eq_false (by omega)
 have v2:decide (25<((vV (negS s) r).length:Int))=false:=decide_eq_false (by omega)
 have hre:(List.map (fun x=>-x) (vV (negS s) r)).reverse=vV s r:=by rw [<-hneg];exact q2.symm
 have hb:=backwards61 S ((vV (negS s) r).map fun x=>-x) (by rw [List.length_map];omega)
 rw [hre] at hb
 have ho:=opposite59 S (vV (negS s) r) q4 (by omega)
 have c15:∀ x:List Int,CO Gl 34 [L eI x,L eI x] (.ret (B true)):=fun x=>by have:=same34 S x x;rw [sameL_self] at this;exact this
 have c16:∀ x:List Int,CO Gl 54 [L eI x,L eI x] (.ret (B true)):=fun x=>by have:=same68w S x x;rw [sameL_self] at this;exact this
 have fN:∀ k:Nat,decide ((k:Int)<((vV (negS s) r).length:Int))=true->¬ num (nth (vV (negS s) r) k)=false:=fun k hk h=>by
  have:=List.all_eq_true.1 q4 _ (nth_mem (l:=vV (negS s) r) (k:=k) (by have:=of_decide_eq_true hk;omega))
  rw [h] at this;cases this
 have fR:∀ k:Nat,decide ((k:Int)<((vV (negS s) r).length:Int))=true->(k:Int)<((vV (negS s) r).length:Int)/\k<(vV (negS s) r).length/\iR ((k:Int)+1):=fun k hk=>by
  have hk':=of_decide_eq_true hk
  exact ⟨hk',by omega,(rng_iff _).2 (by omega)⟩
 simp only [e1,e2,e3,e4,v1,v2,hre,m,cond_true,cond_false,Bool.and_true,Bool.and_false,Bool.true_and,Bool.false_and,Bool.or_false,Bool.false_or,Bool.or_true,Bool.true_or,Bool.not_true,Bool.not_false,Int.reduceBNe,Int.reduceBEq,Bool.false_eq_true,true_implies,false_implies,imp_self,and_true,true_and,implies_true,bne_self_eq_false,beq_self_eq_true,imp_false,Bool.true_eq_false,not_false_eq_true]
 refine ⟨c0,c1,c2,c3,fun k0 hk0 _=>⟨fun hd=>?_,fun hd=>?_⟩⟩
 ·have hlt:k0<s.cols.length:=by have:=of_decide_eq_true hd;omega
  obtain ⟨d1,d2,_⟩:=col_len ((ok_len h1).2.2.2 k0 hlt)
  have d1:(nth s.cols k0).length=rows s:=d1
  have d2:(nth s.cols k0).all num=true:=d2
  have ht:(List.take k0 (List.map negL s.cols)).length=k0:=by rw [List.length_take,List.length_map];omega
  refine ⟨⟨by omega,by omega⟩,opposite59 S _ d2 (by omega),by rw [ht];omega,by rw [ht];omega,(rng_iff _).2 (by omega),hlt,by omega,?_,trivial⟩
  refine SEq_push (f:=eCol) (l:=s.cols.map negL) (by rw [List.length_map];exact hlt) ?_
  rw [nth_map hlt]
  rfl
 ·have hke:k0=s.cols.length:=by have:=of_decide_eq_false hd;omega
  refine ⟨can47 S s l h1 l1 l3,opposite59 S l (Bool.and_eq_true_iff.1 l1).1 (by omega),can47z S s k0 hke h1 l l1 l3,values37v S s r,values37z S s k0 hke h1 r e4,sure38a S s,sure38z S s k0 hke h1,least29a S s,least29z S s k0 hke h1,hands49a S s,hands49z S s k0 hke h1,?_⟩
  ((repeat' (first|with_reducible apply And.intro|with_reducible intro _))<;>first|contradiction|with_reducible rfl|exact hK|exact c15 _|exact c16 _|exact number60 S _|exact ho|exact hb|exact fN _ (by assumption)|exact (fR _ (by assumption)).1|exact (fR _ (by assumption)).2.1|exact (fR _ (by assumption)).2.2|(simp;done)|omega)
end Go.Vc.Hn
