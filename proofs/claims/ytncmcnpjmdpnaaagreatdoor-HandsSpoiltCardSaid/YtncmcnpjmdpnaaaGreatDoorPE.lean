/- A part of the proofs over layer 2 (hands): the program and the specification; no condition. -/
import Derived.Test.YtncmcnpjmdpnaaaGreatDoorPD
import Derived.RangeFuncBox
import Derived.Stop.LaidErr
import Derived.JoinedOf
import Derived.SevenTiedAt
set_option linter.all false
set_option linter.unusedSimpArgs false
set_option linter.unusedVariables false
namespace Go.Vc.Hn
open Go Go.Proofs Go.Vc Go.RowKit
noncomputable def Cx3:List Code×Code:=match Tryz.f94.body with|some c=>Cp5 2 c|none=>([],.skip)
theorem valCB:Tryz.f94.body=some (Cw1 Cx3.1 Cx3.2):=by kernel_rfl
noncomputable def Dc6:Code:=match Cx3.2 with| .seq (.seq x _) _=>x|_=>.skip
noncomputable def Dd0:Code:=match Cx3.2 with| .seq (.seq _ (.block _ (.rangeFunc _ _ x _))) _=>x|_=>.skip
noncomputable def Dd:Code:=match Cx3.2 with| .seq (.seq _ (.block _ (.rangeFunc _ _ _ x))) _=>x|_=>.skip
noncomputable def Ax4:Nat->Array Oper
 |0=>match Cx3.2 with| .seq _ (.seq (.region _ o _) _)=>o|_=>#[]
 |_=>match Cx3.2 with| .seq _ (.seq _ (.seq (.region _ o _) _))=>o|_=>#[]
theorem Dq9:Cx3.2=.seq (Cw1 [Dc6] (.block 0 (.rangeFunc (.tmp 9) #[10] Dd0 Dd))) (.seq (.region 6 (Ax4 0) false) (.seq (.region 7 (Ax4 1) false) .ret)):=by kernel_rfl
noncomputable def A51 (r i:Nat):Oper:=((Ax4 r)[i]?).getD default
theorem Dq8:(Ax4 0)[0]?=some (A51 0 0)/\(A51 0 0).guard=none/\(A51 0 0).op=.load 22 (.tmp 5)/\(A51 0 0).dst=some 20:=⟨by kernel_rfl,by kernel_rfl,by kernel_rfl,by kernel_rfl⟩
theorem Dq7:(Ax4 0)[1]?=some (A51 0 1)/\(A51 0 1).guard=none/\(A51 0 1).op=.call { callee:=.value (.func 130),args:=#[.tmp 20],argTypes:=#[22] }/\(A51 0 1).dst=some 21:=⟨by kernel_rfl,by kernel_rfl,by kernel_rfl,by kernel_rfl⟩
theorem Dq6:(Ax4 1)[0]?=some (A51 1 0)/\(A51 1 0).guard=none/\(A51 1 0).op=.load 22 (.tmp 5)/\(A51 1 0).dst=some 22:=⟨by kernel_rfl,by kernel_rfl,by kernel_rfl,by kernel_rfl⟩
theorem Dq5:(Ax4 1)[1]?=some (A51 1 1)/\(A51 1 1).guard=none/\(A51 1 1).op=.assign (.tmp 22)/\(A51 1 1).dst=some 4:=⟨by kernel_rfl,by kernel_rfl,by kernel_rfl,by kernel_rfl⟩
theorem valR0:List.range (Ax4 0).size=[0,1]:=by kernel_rfl
theorem valR1:List.range (Ax4 1).size=[0,1]:=by kernel_rfl
def pick (row:Int) (h:List (List Int)):List Int:=(h.filter fun k=>nth k 0==row).map fun k=>nth k 1
def mC (P:List (List Int)):C:=.m 2 false (Af9 P P.length) (fun key=>[Cb (Af9 P P.length key)])
def Dc8 (s:Sheet) (P:List (List Int)) (row:Int):Env:=v 2 (ad 2)::v 3 (ad 3)::v 5 (ad 5)::(bx 2 (Ak9 s P)++(bx 3 [Ci row]++bx 5 [.v (.slice none 0 0)]))
def Dc9 (row:Int) (h:List (List Int)):Env:=v 3 (ad 3)::v 5 (ad 5)::tk 100 3::(bx 3 [Ci row]++bx 5 [.lt 100 eI (pick row h)])
def Cx2 (P:List (List Int)) (row:Int):Env:=v 9 (.fn 151 [] [.d (.c (.p [mC P]))])::Dc9 row []
theorem Dv7 {Gl} (S:SP Gl) (P:List (List Int)):CO Gl 129 [.d (.c (mC P))] (.ret (.fn 151 [] [.d (.c (.p [mC P]))])):=by
 refine Dp2 S (t:=2) (id:=1) .nil Tryz.func129 (by kernel_rfl) Tryz.results129 (by decide) (by decide) (T.fn 151 [] [.addr 1 0]=T.fn 151 [] [.addr 1 0]/\live=live/\(.d (.c (mC P)):T)=.d (.c (mC P))/\True) (by kernel_rfl) ?_
 exact ⟨rfl,rfl,rfl,trivial⟩
theorem Cx0 {Gl} (S:SP Gl) (s:Sheet) (P:List (List Int)) (row:Int):wp (CO Gl) (Does Tryz.prog Y Gl) Y Tryz.f94.ntmps yd0 false (Cw1 [Dc6] .skip) (A82 (Cx2 P row)) (
  Orc.r (Res.ret (T.fn (151:FuncId) [] [T.d (D.c (C.p [mC P]))])) Orc.nil) (Dc8 s P row):=by
 have hq:(
  CO Gl (129:FuncId) [T.d (D.c (mC P))] (Res.ret (T.fn (151:FuncId) [] [T.d (D.c (C.p [mC P]))]))/\
   (151:Nat)=(151:Nat)/\
    [C.m (2:Nat) false (Af9 P (List.length P)) fun key=>[Cb (Af9 P (List.length P) key)]]=
      [C.m (2:Nat) false (Af9 P (List.length P)) fun key=>[Cb (Af9 P (List.length P) key)]]/\
     row=row/\(0:Nat)=(0:Nat)
  )=wp (CO Gl) (Does Tryz.prog Y Gl) Y Tryz.f94.ntmps yd0 false (Cw1 [Dc6] .skip) (A82 (Cx2 P row)) (
  Orc.r (Res.ret (T.fn (151:FuncId) [] [T.d (D.c (C.p [mC P]))])) Orc.nil) (Dc8 s P row):=by kernel_rfl
 rw [<-hq]
 exact ⟨Dv7 S P,rfl,rfl,rfl,rfl⟩
theorem Dc7 (P:List (List Int)) (row:Int):le (Cx2 P row) (Dc9 row []):=by
 have hq:(
  row=row/\SEq (List.length (pick row [])) (fun i=>eI (nth (pick row []) i)) (List.length (pick row [])) fun i=>eI (nth (pick row []) i)
  )=le (Cx2 P row) (Dc9 row []):=by kernel_rfl
 rw [<-hq]
 exact ⟨rfl,Aa8 rfl⟩
theorem B69 (row:Int) (h:List (List Int)) (k:List Int):pick row (h++[k])=pick row h++(bif nth k 0==row then [nth k 1] else []):=by
 unfold pick
 rw [List.filter_append,List.map_append]
 congr 1
 cases hb:nth k 0==row<;>simp [hb]
theorem Cw9 {Gl:World->Prop} (row:Int) (h:List (List Int)) (k:List Int) (hl:(pick row h).length<=1000000):Dm9 (CO Gl) (Does Tryz.prog Y Gl) Y Tryz.f94.ntmps [10] Dd0 Dd (Cu0 k) (Dc9 row h) (Dc9 row (h++[k])) (
  Orc.br Orc.nil Orc.nil):=by
 have hq:(
  ((nth k (0:Nat)==row)=true->
    (List.length (pick row h)+(1:Nat))*(8:Nat)<=(140737488355328:Nat)/\
     List.length (pick row h)+(1:Nat)<=(140737488355328:Nat)/\
      (0:Nat)<(1:Nat)/\
       row=row/\
        SEq (List.length (pick row h)+(1:Nat))
         (Aj0 (List.length (pick row h)) (fun i=>eI (nth (pick row h) i)) fun i=>
          List.getD [List.map C.dem [C.v (Value.int IntKind.i64 (nth k (1:Nat)))]] i [])
         (List.length (pick row (h++[k]))) fun i=>eI (nth (pick row (h++[k])) i))/\
   ((nth k (0:Nat)==row)=false->
    (0:Nat)<(1:Nat)/\
     row=row/\
      SEq (List.length (pick row h)) (fun i=>eI (nth (pick row h) i)) (List.length (pick row (h++[k]))) fun i=>eI (nth (pick row (h++[k])) i))
  )=Dm9 (CO Gl) (Does Tryz.prog Y Gl) Y Tryz.f94.ntmps [10] Dd0 Dd (Cu0 k) (Dc9 row h) (Dc9 row (h++[k])) (
  Orc.br Orc.nil Orc.nil):=by kernel_rfl
 rw [<-hq]
 refine ⟨fun hk=>⟨by omega,by omega,by decide,rfl,Ac5 (x:=nth k 1) ?_ rfl⟩,fun hk=>⟨by decide,rfl,Aa8 ?_⟩⟩
 ·rw [B69,hk];rfl
 ·rw [B69,hk];exact List.append_nil _
theorem Cm6 {row x:Int} {h:List (List Int)}:x∈pick row h↔∃ k,k∈h/\nth k 0=row/\nth k 1=x:=by
 unfold pick
 rw [List.mem_map]
 constructor
 ·rintro ⟨k,hk,rfl⟩
  rw [List.mem_filter] at hk
  exact ⟨k,hk.1,eq_of_beq hk.2,rfl⟩
 ·rintro ⟨k,hk,h1,h2⟩
  exact ⟨k,List.mem_filter.2 ⟨hk,beq_iff_eq.2 h1⟩,h2⟩
theorem Ci0 {P:List (List Int)} {p:Nat} {k:List Int} (h:Af9 P p k=true):k=[nth k 0,nth k 1]:=by
 unfold Af9 at h
 rw [List.any_eq_true] at h
 obtain ⟨c,_,h⟩:=h
 rw [List.any_eq_true] at h
 obtain ⟨i,_,h⟩:=h
 rw [eq_of_beq h]
 rfl
theorem Bu4 {P:List (List Int)} {p:Nat} {row:Int} {h:List (List Int)} (hd:∀ k∈h,Af9 P p k=true) (hn:h.Nodup):(pick row h).Nodup:=by
 unfold pick List.Nodup
 rw [List.pairwise_map]
 refine List.Pairwise.imp_of_mem (fun {a b} ha hb hab hh=>hab ?_) (List.Pairwise.filter _ hn)
 rw [List.mem_filter] at ha hb
 rw [Ci0 (hd a ha.1),Ci0 (hd b hb.1),hh,eq_of_beq ha.2,eq_of_beq hb.2]
theorem C92 {s:Sheet} (hs:s.ok=true) {row:Nat} (hr:row<rows s) {x:Int}:Af9 (Aa2 s) (Aa2 s).length [(row:Int),x]=true↔x∈Bj7 (Aa2 s) row:=by
 rw [Bi6]
 unfold Af9
 rw [List.take_length,List.any_eq_true]
 constructor
 ·rintro ⟨c,hc,h⟩
  rw [List.any_eq_true] at h
  obtain ⟨i,_,h⟩:=h
  have h:=eq_of_beq h
  have h1:(row:Int)=(i:Int):=(List.cons.inj h).1
  have h2:x=nth c i:=(List.cons.inj (List.cons.inj h).2).1
  have:row=i:=by omega
  subst this
  exact ⟨c,hc,h2.symm⟩
 ·rintro ⟨c,hc,rfl⟩
  refine ⟨c,hc,List.any_eq_true.2 ⟨row,List.mem_range.2 ?_,beq_self_eq_true _⟩⟩
  rw [((Ar6 hs c).1 hc).1]
  exact hr
theorem Cl6 {s:Sheet} (hs:s.ok=true) {row:Nat} (hr:row<rows s) {h:List (List Int)} (hd:∀ k∈h,Af9 (Aa2 s) (Aa2 s).length k=true) {x:Int} (hx:x∈pick row h):x∈Bj7 (Aa2 s) row:=by
 obtain ⟨k,hk,h1,h2⟩:=Cm6.1 hx
 have:=hd k hk
 rw [Ci0 this,h1,h2] at this
 exact (C92 hs hr).1 this
theorem Cl7 {s:Sheet} (hs:s.ok=true) {row:Nat} (hr:row<rows s) {h:List (List Int)} (hd:∀ k∈h,Af9 (Aa2 s) (Aa2 s).length k=true) (hn:h.Nodup):(pick row h).length<=28:=
 Nat.le_trans (Bx7 _ _ (Bu4 hd hn) fun _ hx=>Cl6 hs hr hd hx) (Cx1 hs (Da6 hs) row _ (Nat.le_refl _))
theorem Cs0 {zs:List Int} {x:Int}:x∈Ax6 zs↔x∈zs:=(List.mergeSort_perm zs _).mem_iff
theorem By1 {zs:List Int} (hn:zs.Nodup):(Ax6 zs).Pairwise (·<·):=by
 have h1:(Ax6 zs).Pairwise fun x y=>decide (x<=y)=true:=List.pairwise_mergeSort (fun a b c h1 h2=>by simp at *;omega) (fun a b=>by simp;omega) zs
 have h2:(Ax6 zs).Nodup:=(List.mergeSort_perm zs _).nodup_iff.2 hn
 refine (List.pairwise_and_iff.2 ⟨h1,h2⟩).imp fun {a b} h=>?_
 have:=of_decide_eq_true h.1
 have:=h.2
 omega
theorem Ce5 {s:Sheet} (hs:s.ok=true) {row:Nat} (hr:row<rows s) {h:List (List Int)} (he:Enum (Af9 (Aa2 s) (Aa2 s).length) h):Ax6 (pick row h)=Bj7 (Aa2 s) row:=by
 have hd:∀ k∈h,Af9 (Aa2 s) (Aa2 s).length k=true:=fun k hk=>(he.2 k).1 hk
 refine At8 (By1 (Bu4 hd he.1)) (A58 _ _) fun x=>?_
 rw [Cs0]
 refine ⟨fun hx=>Cl6 hs hr hd hx,fun hx=>Cm6.2 ⟨[(row:Int),x],(he.2 _).2 ((C92 hs hr).2 hx),rfl,rfl⟩⟩
theorem Dc5 {Gl} (S:SP Gl) (s:Sheet) (row:Nat) (hs:s.ok=true) (hr:row<rows s) {X:Cx} {vis:Nat->Nat} {w0:World} {a:Act} {w:World} {G:Gh} (Tl:Tail Tryz.prog Gl Y X Tryz.f94 (Dc8 s (Aa2 s) row) vis w0 a w G):
  Cx3.2.wpIn (Fr none) 0 Tryz.prog (bodyPostM (Fr none) 0 Tryz.prog Tryz.f94 fun en w'=>Below w0.heap.size w0 w'/\Ax3 vis w0 en w' (.ret (L eI (Bj7 (Aa2 s) row)))) a w:=by
 rw [Dq9]
 refine wpIn_seq ?_
 refine Cy3 (fu:=0) (nt:=Tryz.f94.ntmps) (ds:=[]) S (Tl.sur S) (E:=Cx2 (Aa2 s) row) (fun a2 w2 ⟨G2,R2⟩=>?_) [Dc6] _ _ a w (Cx0 S s (Aa2 s) row) ⟨G,Tl.rel⟩
 refine wpIn_block (wpIn_mono (rk_ok S (Tl.sur S) (Cr1 S Dd0 true) (Cr1 S Dd true) (f:=151) (fst:=[]) (caps:=[.d (.c (.p [mC (Aa2 s)]))]) (xs:=[.d (.c (.p [mC (Aa2 s)]))]) (rr:=[]) (by kernel_rfl) (by kernel_rfl) rfl (by kernel_rfl) (el:=Cu0) (st:=Dc9 row) (Di _ _) (Dc7 _ _) (fun k _=>by kernel_rfl) (fun h k hn=>Cw9 row h k (by have:=Cl7 hs hr hn.1 hn.2.1;omega)) R2) fun ex a3 w3 hq=>?_)
 cases ex with
 |normal=>
  obtain ⟨_,e3,⟨_,h,he,rfl⟩,G3,R3⟩:=hq
  have hz:(pick row h).length<=1000000:=by have:=Cl7 hs hr (fun k hk=>(he.2 k).1 hk) he.1;omega
  have hps:=Ce5 hs hr he
  obtain ⟨zs,hzs⟩:∃ zs,pick (row:Int) h=zs:=⟨_,rfl⟩
  have hst:Dc9 row h=v 3 (ad 3)::v 5 (ad 5)::tk 100 3::(bx 3 [Ci row]++bx 5 [.lt 100 eI zs]):=by rw [<-hzs];rfl
  rw [hst] at R3
  rw [hzs] at hz hps
  obtain ⟨b1,b2,_⟩:=R3.mem.box 5 (by show live≠.any;exact Ad4)
  obtain ⟨_,_,u,hu,hvok⟩:=R3.mem.cells 5 0 (by show (T.d (D.c (C.lt 100 eI zs)))≠.any;intro hh;cases hh)
  have hsl:=(R3.slots 5).rel
  have hslot:a3.tmps.getD 5 undef=.pointer (some ⟨G3.bk 5,0,none⟩):=by
   unfold Ap2 at hsl
   rw [if_pos (by decide)] at hsl
   exact hsl
  have hrep:Rep G3.vis w3 (.s (.t 100) zs.length fun i=>eI (nth zs i)) u:=hvok.reld
  have hown:Own G3 w3 Y 100 3 zs.length (fun i=>eI (nth zs i)) u:=hvok.own 3 rfl
  obtain ⟨Q,hsort,hcomp⟩:=Cj6 R3 (by decide) hz hrep hown
  have hsz:a3.tmps.size=23:=R3.size
  have S0:SL a3 23 (fun t=>a3.tmps.getD t undef) a3.defers:=⟨hsz,rfl,fun _ _=>rfl⟩
  show (Code.seq (.region 6 (Ax4 0) false) (.seq (.region 7 (Ax4 1) false) .ret)).wpIn (Fr none) 0 Tryz.prog _ a3 w3
  refine wpIn_seq (wpIn_region ?_)
  rw [valR0]
  obtain ⟨o1,o2,o3,o4⟩:=Dq8
  refine Ag2 o1 o2 (by rw [o3];intro c hc;cases hc) (A89 yok (b:=G3.bk 5) (k:=0) (u:=u) o3 rfl (by rw [S0.eval (by decide)];exact hslot) hu) ?_
  rw [o4]
  have S1:=S0.put (d:=20) (by decide) u
  obtain ⟨o1,o2,o3,o4⟩:=Dq7
  refine B02 o1 o2 (by rw [o3];intro c hc;cases hc) (Bd9 S1 o3 (by decide) fn130) hsort ?_
  rintro _ w4 ⟨rfl,hQ⟩
  refine ⟨_,rfl,?_⟩
  rw [o4]
  have S2:=S1.put (d:=21) (by decide) (.tuple #[])
  obtain ⟨hb1,⟨vis',hO⟩,_⟩:=hcomp w4 hQ
  have hu1:w4.cell? ⟨G3.bk 5,0,none⟩=some u:=by
   rw [World.cell?_of_block (hb1 _ (fun h=>(R3.tks (.o 100) _ h).2.2.2.2 5 (by show live≠.any;exact Ad4) rfl) b2)]
   exact hu
  show (Code.seq (.region 7 (Ax4 1) false) .ret).wpIn (Fr none) 0 Tryz.prog _ _ w4
  refine wpIn_seq (wpIn_region ?_)
  rw [valR1]
  obtain ⟨o1,o2,o3,o4⟩:=Dq6
  refine Ag2 o1 o2 (by rw [o3];intro c hc;cases hc) (A89 yok (b:=G3.bk 5) (k:=0) (u:=u) o3 rfl (by rw [S2.eval (by decide)];exact hslot) hu1) ?_
  rw [o4]
  have S3:=S2.put (d:=22) (by decide) u
  obtain ⟨o1,o2,o3,o4⟩:=Dq5
  refine Ag2 o1 o2 (by rw [o3];intro c hc;cases hc) (v:=u) (w':=w4) (by simp [execOp,o3,S3.eval,upd]) ?_
  rw [o4]
  have S4:=S3.put (d:=4) (by decide) u
  refine wpIn_ret ?_
  have hj:=R3.jj
  rw [Tl.J] at hj
  have R':=R3.anew (a':=Act.put (Act.put (Act.put (Act.put a3 (some 20) u) (some 21) (.tuple #[])) (some 22) u) (some 4) u) (w':=w4) (vis':=vis') (e':=[(0,4,.d (.c (.l eI (Ax6 zs))))]) (fun _=>rfl) (fun _=>rfl) (fun _ _=>rfl)
   (by rw [S4.size,hsz]) S4.defers hO.size (fun D hD=>hO.mark D (R3.marks D hD).2.1) (fun t ht=>?_) hO.fresh hO.vold (by
    rw [Tl.J]
    refine ⟨hj.1,hj.2.trans ⟨hO.os,hO.tape,hO.output,hO.size,fun b hb=>hO.old b (by rw [Tl.base];exact hb)⟩⟩)
  ·rw [hps] at R'
   exact Tl.leave S R' (Aa8 rfl)
  ·by_cases h4:t=4
   ·subst h4
    refine VOK.dem (x:=.c (.l eI (Ax6 zs))) ?_
    have:=S4.get 4 (by decide)
    unfold Ap2
    rw [if_pos (by decide),this]
    exact hO.rep
   ·refine absurd ?_ ht
    rw [Aa3 (fun hh=>h4 hh.2.symm)]
    rfl
 |exit id=>obtain ⟨_,_,⟨h,_⟩,_⟩:=hq;cases h
 |ret=>obtain ⟨_,_,⟨h,_⟩,_⟩:=hq;cases h
 |panic ch=>obtain ⟨_,_,_,_,⟨h,_⟩,_⟩:=hq;cases h
 |goto l=>exact hq.elim
 |outgrown=>exact hq.elim
theorem Ci9 {Gl} (S:SP Gl) (s:Sheet) (row:Nat) (hs:s.ok=true) (hr:row<rows s):CO Gl 94 [.d (.agg (Ak9 s (Aa2 s))),I row] (.ret (L eI (Bj7 (Aa2 s) row))):=by
 refine C60 S (E:=Dc8 s (Aa2 s) row) (xs:=Cx3.1) (tl:=Cx3.2) (.nil) Tryz.func94 (by kernel_rfl) valCB rfl ((sR Ac2 s.1)/\(sR eI s.2)/\(sR Ac2 (Aa2 s))/\(MEq (Af9 (Aa2 s) (List.length (Aa2 s))) (fun key=>[Cb (Af9 (Aa2 s) (List.length (Aa2 s)) key)]) (Af9 (Aa2 s) (List.length (Aa2 s))) fun key=>[Cb (Af9 (Aa2 s) (List.length (Aa2 s)) key)])/\(MEq (Ad s (List.length (Aa2 s))) (fun key=>[Cb (Ad0 s (Aa2 s) (List.length (Aa2 s)) key)]) (Ad s (List.length (Aa2 s))) fun key=>[Cb (Ad0 s (Aa2 s) (List.length (Aa2 s)) key)])/\(row:Int)=(row:Int)/\Value.slice none 0 0=Value.slice none 0 0) (by kernel_rfl) ?_ (fun X vis w0 a w G T=>Dc5 S s row hs hr T)
 exact ⟨Aa8 rfl,Aa8 rfl,Aa8 rfl,Aj1,Aj1,rfl,rfl⟩
def Ca9 (a b:Int):Int:=bif decide (a<b) then -1 else bif decide (b<a) then 1 else 0
def B44:List Int->List Int->Int
 | [],[]=>0
 | [],_::_=>-1
 |_::_,[]=>1
 |x::a,y::b=>bif x==y then B44 a b else Ca9 x y
theorem C83:∀ {a b:List Int} {k:Nat},(∀ i,i<k->nth a i=nth b i)->k<a.length->k<b.length->nth a k≠nth b k->B44 a b=Ca9 (nth a k) (nth b k)
 | [],_,k,_,h,_,_=>by simp at h
 |_::_,[],k,_,_,h,_=>by simp at h
 |x::a,y::b,0,_,_,_,hne=>by
  have h:x≠y:=hne
  unfold B44
  rw [beq_eq_false_iff_ne.2 h]
  rfl
 |x::a,y::b,k+1,he,h1,h2,hne=>by
  have h0:x=y:=he 0 (by omega)
  unfold B44
  rw [beq_iff_eq.2 h0]
  exact C83 (a:=a) (b:=b) (k:=k) (fun i hi=>he (i+1) (by omega)) (by simpa using h1) (by simpa using h2) hne
theorem Bj1:∀ {a b:List Int},(∀ i,i<min a.length b.length->nth a i=nth b i)->B44 a b=bif decide (a.length<b.length) then -1 else bif decide (b.length<a.length) then 1 else 0
 | [],[],_=>rfl
 | [],_::_,_=>by simp [B44]
 |_::_,[],_=>by simp [B44]
 |x::a,y::b,h=>by
  have h0:x=y:=h 0 (by simp)
  unfold B44
  rw [beq_iff_eq.2 h0,cond_true,Bj1 (a:=a) (b:=b) fun i hi=>h (i+1) (by simp only [List.length_cons];omega)]
  simp
theorem Cp6:∀ a b:List Int,decide (B44 a b<0)=ltL a b
 | [],[]=>rfl
 | [],_::_=>rfl
 |_::_,[]=>rfl
 |x::a,y::b=>by
  unfold B44 ltL
  cases h:x==y
  ·simp only [cond_false]
   have hne:x≠y:=by intro h2;subst h2;simp at h
   unfold Ca9
   by_cases h1:x<y
   ·rw [decide_eq_true h1];rfl
   ·rw [decide_eq_false h1,decide_eq_true (show y<x by omega)];rfl
  ·simp only [cond_true]
   exact Cp6 a b
theorem Cn7 {Gl} (S:SP Gl) (n:Int):CO Gl 150 [I n] (.ret (B false)):=by
 refine Ag5 S (.nil) Tryz.func150 (by kernel_rfl) ((n != n)=false) (by kernel_rfl) ?_
 exact bne_self_eq_false n
theorem Cv4 {Gl} (S:SP Gl) (a b:Int):CO Gl 128 [I a,I b] (.ret (I (Ca9 a b))):=by
 refine Ag5 S (.r (.ret (B false)) (.r (.ret (B false)) (.ff (.ff (.br .nil (.br .nil .nil)))))) Tryz.func128 (by kernel_rfl) (CO Gl 150 [I a] (.ret (B false))/\CO Gl 150 [I b] (.ret (B false))/\false=false/\false=false/\(decide (a<b)=true->(-1:Int)=Ca9 a b)/\(decide (a<b)=false->(decide (b<a)=true->(1:Int)=Ca9 a b)/\(decide (b<a)=false->(0:Int)=Ca9 a b))) (by kernel_rfl) ?_
 unfold Ca9
 exact ⟨Cn7 S a,Cn7 S b,rfl,rfl,fun h=>by rw [h];rfl,fun h=>⟨fun h2=>by rw [h,h2];rfl,fun h2=>by rw [h,h2];rfl⟩⟩
theorem C80 {Gl} (S:SP Gl) (a b:List Int):CO Gl 89 [L eI a,L eI b] (.ret (I (B44 a b))):=by
 refine Ag5 S (.loop (Bl6 a b) (fun k=>[v 11 (I k),v 10 (I a.length),v 9 (L eI a),v 0 (L eI a),v 1 (L eI b)]) fun k0=>.br (.br .nil (.r (.ret (I (Ca9 (nth a k0) (nth b k0)))) (.br .nil .nil))) (.br .nil .nil)) Tryz.func89 (by kernel_rfl) (a.length<=maxLen->(0=(↑(0:Nat):Int)/\(a.length:Int)=(a.length:Int)/\(sR eI a)/\(sR eI a)/\sR eI b)/\∀ (k0:Nat),k0<=Bl6 a b->(decide ((k0:Int)<(a.length:Int))=true->(0<=(k0:Int)/\(k0:Int)<(a.length:Int))/\(b.length<=maxLen->(decide ((b.length:Int)<=(k0:Int))=true->(1:Int)=B44 a b)/\(decide ((b.length:Int)<=(k0:Int))=false->(0<=(k0:Int)/\(k0:Int)<(b.length:Int))/\CO Gl 128 [I (nth a k0),I (nth b k0)] (.ret (I (Ca9 (nth a k0) (nth b k0))))/\((Ca9 (nth a k0) (nth b k0) != (0:Int))=true->Ca9 (nth a k0) (nth b k0)=B44 a b)/\((Ca9 (nth a k0) (nth b k0) != (0:Int))=false->iR ((k0:Int)+1)/\k0<Bl6 a b/\(k0:Int)+1=(↑(k0+1):Int)/\(a.length:Int)=(a.length:Int)/\(sR eI a)/\(sR eI a)/\sR eI b))))/\(decide ((k0:Int)<(a.length:Int))=false->a.length<=maxLen->b.length<=maxLen->(decide ((a.length:Int)<(b.length:Int))=true->(-1:Int)=B44 a b)/\(decide ((a.length:Int)<(b.length:Int))=false->(0:Int)=B44 a b))) (by kernel_rfl) ?_
 simp only [stdS,imp_self,implies_true,and_true,decide_eq_true_eq,decide_eq_false_iff_not,Ae3,Aa1]
 have hmin:(List.range (min a.length b.length)).length=min a.length b.length:=List.length_range
 have hle:Bl6 a b<=min a.length b.length:=by have:=Ay6 (p:=fun i=>nth a i==nth b i) (l:=List.range (min a.length b.length));unfold Bl6;omega
 have hbef:∀ k,k<=Bl6 a b->∀ i,i<k->nth a i=nth b i:=fun k hk i hi=>by
  have h1:i<(List.range (min a.length b.length)).length:=Nat.lt_of_lt_of_le (Nat.lt_of_lt_of_le hi hk) Ay6
  have:=Ah6 (p:=fun i=>nth a i==nth b i) (l:=List.range (min a.length b.length)) (i:=i) (by unfold Bl6 at hk;omega)
  rw [Ab4 (by omega)] at this
  exact eq_of_beq this
 have hne:∀ x y:Int,x≠y->Ca9 x y≠0:=fun x y h=>by
  unfold Ca9
  by_cases h1:x<y
  ·rw [decide_eq_true h1,cond_true];omega
  ·rw [decide_eq_false h1,decide_eq_true (show y<x by omega),cond_false,cond_true];omega
 have heq:∀ x:Int,Ca9 x x=0:=fun x=>by
  unfold Ca9
  rw [decide_eq_false (show ¬ x<x by omega)];rfl
 refine fun hm k hk=>⟨fun hl=>⟨by omega,fun hmb=>⟨fun hb=>?_,fun hb=>⟨by omega,Cv4 S _ _,fun h=>?_,fun h=>⟨by omega,Ap hk (by omega) ?_,by omega,trivial⟩⟩⟩⟩,fun hl _ _=>⟨fun hb=>?_,fun hb=>?_⟩⟩
 ·rw [Bj1 fun i hi=>hbef k hk i (by omega),decide_eq_false (show ¬ a.length<b.length by omega),decide_eq_true (show b.length<a.length by omega)];rfl
 ·refine (C83 (hbef k hk) (by omega) (by omega) ?_).symm
  intro he
  rw [he,heq] at h
  exact absurd h (by decide)
 ·rw [Ab4 (by omega)]
  by_cases he:nth a k=nth b k
  ·simp [he]
  ·have:=hne _ _ he
   simp at h
   exact absurd h this
 ·rw [Bj1 fun i hi=>hbef k hk i (by omega),decide_eq_true (show a.length<b.length by omega)];rfl
 ·rw [Bj1 fun i hi=>hbef k hk i (by omega),decide_eq_false (show ¬ a.length<b.length by omega),decide_eq_false (show ¬ b.length<a.length by omega)];rfl
theorem Dl3 {Gl} (S:SP Gl) (a b:List Int):CO Gl 88 [L eI a,L eI b] (.ret (B (ltL a b))):=by
 refine Ag5 S (.r (.ret (I (B44 a b))) .nil) Tryz.func88 (by kernel_rfl) (CO Gl 89 [L eI a,L eI b] (.ret (I (B44 a b)))/\decide (B44 a b<(0:Int))=ltL a b) (by kernel_rfl) ?_
 exact ⟨C80 S a b,Cp6 a b⟩
theorem best87 {Gl} (S:SP Gl) (l:List (List Int)) (h:0<l.length):CO Gl 87 [.d (.c (.l Ac2 l)),.fn 88 [] []] (.ret (L eI (Ar1 ltL l))):=by
 refine Ac4 S (let A0:=(List.drop (1:Nat) l);let A1:=(l.length:Int);let A2:=fun (k0:Nat)=>(Ac6 ltL l k0);((.loop (List.length l-(1:Nat)) (fun k=>[v 14 (I k),v 13 (I (A1-1)),v 12 (T.d (D.c (C.l Ac2 A0))),v 1 (T.fn (88:FuncId) [] []),v 5 (L eI (Ac6 ltL l k))]) fun k0=>.br (.r (.ret (B (ltL (nth A0 k0) (A2 k0)))) (.br .nil .nil)) .nil),(((0:Int)<=0/\0<A1)/\((0:Int)<=1/\1<=A1/\A1<=A1)/\(Int.toNat (A1-1)<=maxLen->(0=(↑(0:Nat):Int)/\(↑(Int.toNat (A1-1)):Int)=A1-1/\(SEq (Int.toNat (A1-1)) (fun i=>Ac2 (nth l (Int.toNat (1:Int)+i))) (List.length A0) fun i=>Ac2 (nth A0 i))/\(88:Nat)=(88:Nat)/\sQ eI (nth l (Int.toNat (0:Int))) (Ac6 ltL l (0:Nat)))/\∀ (k0:Nat),k0<=List.length l-(1:Nat)->(decide ((k0:Int)<(l.length:Int)-1)=true->(0<=(k0:Int)/\(k0:Int)<(↑(List.length A0):Int))/\CO Gl 88 [L eI (nth A0 k0),L eI (A2 k0)] (.ret (B (ltL (nth A0 k0) (A2 k0))))/\(ltL (nth A0 k0) (A2 k0)=true->iR ((k0:Int)+1)/\k0<List.length l-(1:Nat)/\(k0:Int)+1=(↑(k0+1):Int)/\A1-1=A1-1/\(sR Ac2 A0)/\(88:Nat)=(88:Nat)/\sQ eI (nth A0 k0) (Ac6 ltL l (k0+1)))/\(ltL (nth A0 k0) (A2 k0)=false->iR ((k0:Int)+1)/\k0<List.length l-(1:Nat)/\(k0:Int)+1=(↑(k0+1):Int)/\A1-1=A1-1/\(sR Ac2 A0)/\(88:Nat)=(88:Nat)/\sQ eI (A2 k0) (Ac6 ltL l (k0+1))))/\(decide ((k0:Int)<(l.length:Int)-1)=false->sQ eI (A2 k0) (Ar1 ltL l)))))) Tryz.func87 (by kernel_rfl) (by kernel_rfl) ?_
 simp only [stdS,imp_self,implies_true,and_true,decide_eq_true_eq,decide_eq_false_iff_not,Ae3,Aa1]
 have hd:(l.drop 1).length=l.length - 1:=List.length_drop
 have hn:∀ k,nth (l.drop 1) k=nth l (k+1):=fun k=>by rw [Ar4,Nat.add_comm]
 have hst:∀ k,Ac6 ltL l (k+1)=bif ltL (nth l (k+1)) (Ac6 ltL l k) then nth l (k+1) else Ac6 ltL l k:=fun k=>rfl
 refine ⟨by omega,by omega,fun hm=>⟨⟨by omega,.of ⟨by omega,fun i _=>congrArg Ac2 (Ar4 (l:=l) (i:=i) (k:=1)).symm⟩,Aa8 rfl⟩,fun k hk=>⟨fun hl=>⟨by omega,Dl3 S _ _,fun hb=>⟨by omega,by omega,by omega,?_⟩,fun hb=>⟨by omega,by omega,by omega,?_⟩⟩,fun hl=>?_⟩⟩⟩
 ·rw [hn] at hb ⊢
  rw [hst,hb]
  exact Aa8 rfl
 ·rw [hn] at hb
  rw [hst,hb]
  exact Aa8 rfl
 ·have:k=l.length - 1:=by omega
  subst this
  exact Aa8 rfl
theorem less86 {Gl} (S:SP Gl) (a b:Int):CO Gl 86 [I a,I b] (.ret (B (decide (a<b)))):=by
 refine Ag5 S (.nil) Tryz.func86 (by kernel_rfl) (decide (a<b)=decide (a<b)) (by kernel_rfl) ?_
 exact rfl
theorem best85 {Gl} (S:SP Gl) (l:List Int) (h:0<l.length):CO Gl 85 [L eI l,.fn 86 [] []] (.ret (I (Ar1 (fun x y:Int=>decide (x<y)) l))):=by
 refine Ac4 S (let A0:=(fun x y=>decide (x<y));let A1:=(l.length:Int);let A2:=(List.drop (1:Nat) l);((.loop (List.length l-(1:Nat)) (fun k=>[v 14 (I k),v 13 (I (A1-1)),v 12 (L eI A2),v 1 (T.fn (86:FuncId) [] []),v 5 (I (Ac6 A0 l k))]) fun k0=>.br (.r (.ret (B (decide (nth (List.drop (1:Nat) l) k0<Ac6 (fun x y=>decide (x<y)) l k0)))) (.br .nil .nil)) .nil),(((0:Int)<=0/\0<A1)/\((0:Int)<=1/\1<=A1/\A1<=A1)/\(Int.toNat (A1-1)<=maxLen->(0=(↑(0:Nat):Int)/\(↑(Int.toNat (A1-1)):Int)=A1-1/\(SEq (Int.toNat (A1-1)) (fun i=>eI (nth l (Int.toNat (1:Int)+i))) (List.length A2) fun i=>eI (nth A2 i))/\(86:Nat)=(86:Nat)/\nth l (Int.toNat (0:Int))=Ac6 A0 l (0:Nat))/\∀ (k0:Nat),k0<=List.length l-(1:Nat)->(decide ((k0:Int)<(l.length:Int)-1)=true->(0<=(k0:Int)/\(k0:Int)<(↑(List.length A2):Int))/\CO Gl 86 [I (nth A2 k0),I (Ac6 A0 l k0)] (.ret (B (decide (nth (List.drop (1:Nat) l) k0<Ac6 (fun x y=>decide (x<y)) l k0))))/\(decide (nth (List.drop (1:Nat) l) k0<Ac6 (fun x y=>decide (x<y)) l k0)=true->iR ((k0:Int)+1)/\k0<List.length l-(1:Nat)/\(k0:Int)+1=(↑(k0+1):Int)/\A1-1=A1-1/\(sR eI A2)/\(86:Nat)=(86:Nat)/\nth A2 k0=Ac6 A0 l (k0+1))/\(decide (nth (List.drop (1:Nat) l) k0<Ac6 (fun x y=>decide (x<y)) l k0)=false->iR ((k0:Int)+1)/\k0<List.length l-(1:Nat)/\(k0:Int)+1=(↑(k0+1):Int)/\A1-1=A1-1/\(sR eI A2)/\(86:Nat)=(86:Nat)/\Ac6 A0 l k0=Ac6 A0 l (k0+1)))/\(decide ((k0:Int)<(l.length:Int)-1)=false->Ac6 A0 l k0=Ar1 A0 l))))) Tryz.func85 (by kernel_rfl) (by kernel_rfl) ?_
 simp only [stdS,imp_self,implies_true,and_true,decide_eq_true_eq,decide_eq_false_iff_not,Ae3,Aa1]
 have hd:(l.drop 1).length=l.length - 1:=List.length_drop
 have hn:∀ k,nth (l.drop 1) k=nth l (k+1):=fun k=>by rw [Ar4,Nat.add_comm]
 have hst:∀ k,Ac6 (fun x y:Int=>decide (x<y)) l (k+1)=bif (fun x y:Int=>decide (x<y)) (nth l (k+1)) (Ac6 (fun x y:Int=>decide (x<y)) l k) then nth l (k+1) else Ac6 (fun x y:Int=>decide (x<y)) l k:=fun k=>rfl
 refine ⟨by omega,by omega,fun hm=>⟨⟨by omega,.of ⟨by omega,fun i _=>congrArg eI (Ar4 (l:=l) (i:=i) (k:=1)).symm⟩,rfl⟩,fun k hk=>⟨fun hl=>⟨by omega,less86 S _ _,fun hb=>⟨by omega,by omega,by omega,?_⟩,fun hb=>⟨by omega,by omega,by omega,?_⟩⟩,fun hl=>?_⟩⟩⟩
 ·rw [hn] at hb ⊢
  rw [hst]
  show _=bif decide (nth l (k+1)<Ac6 (fun x y:Int=>decide (x<y)) l k) then _ else _
  rw [decide_eq_true hb]
  rfl
 ·rw [hn] at hb
  rw [hst]
  show _=bif decide (nth l (k+1)<Ac6 (fun x y:Int=>decide (x<y)) l k) then _ else _
  rw [decide_eq_false hb]
  rfl
 ·have:k=l.length - 1:=by omega
  subst this
  rfl
theorem C15 {s:Sheet} (P:List (List Int)) {r:Nat} (hr:r<rows s):Ad0 s P P.length [(r:Int)]=isOpen s P r:=by
 unfold Ad0
 rw [Bc6 hr,Bool.true_and,List.take_length,Cu2,Cn5]
 rfl
theorem Cm7 {Gl} (S:SP Gl) (s:Sheet) (r:Nat) (hs:s.ok=true) (hr:r<rows s):CO Gl 95 [.d (.agg (Ak9 s (Aa2 s))),I r] (.ret (I (Af0 s (Aa2 s) r))):=by
 refine Ac4 S (let A0:=(List.length (Aa2 s));((.br .nil (.r (.ret (L eI (Bj7 (Aa2 s) r))) .nil)),((Ad s A0 [(r:Int)]=false->[C.v (Value.bool (Ad0 s (Aa2 s) A0 [(r:Int)]))]=[C.v (Value.bool false)])/\(Ad0 s (Aa2 s) A0 [(r:Int)]=true->(1999:Int)=Af0 s (Aa2 s) r)/\(Ad0 s (Aa2 s) A0 [(r:Int)]=false->CO Gl 94 [T.d (D.agg (Ak9 s (Aa2 s))),I r] (.ret (L eI (Bj7 (Aa2 s) r)))/\(List.length (Bj7 (Aa2 s) r)<=maxLen->(↑(List.length (Bj7 (Aa2 s) r)):Int)=Af0 s (Aa2 s) r))))) Tryz.func95 (by kernel_rfl) (by kernel_rfl) ?_
 dsimp only
 have ho:=C15 (Aa2 s) hr
 refine ⟨fun h=>?_,fun h=>?_,fun h=>⟨Ci9 S s r hs hr,fun _=>?_⟩⟩
 ·unfold Ad at h
  rw [Bc6 hr,Bool.and_true] at h
  have h0:(Aa2 s).length=0:=by have:=of_decide_eq_false h;omega
  unfold Ad0
  rw [h0,List.take_zero,List.any_nil,Bool.and_false]
 ·unfold Af0
  rw [<-ho,h]
  rfl
 ·unfold Af0
  rw [<-ho,h]
  rfl
theorem more96 {Gl} (S:SP Gl) (s:Sheet) (a b:Nat) (hs:s.ok=true) (ha:a<rows s) (hb:b<rows s):CO Gl 96 [I a,I b,.d (.rd (Ak9 s (Aa2 s)))] (.ret (B (decide (Af0 s (Aa2 s) a>Af0 s (Aa2 s) b)))):=by
 refine Ag5 S (.r (.ret (I (Af0 s (Aa2 s) a))) (.r (.ret (I (Af0 s (Aa2 s) b))) .nil)) Tryz.func96 (by kernel_rfl) (CO Gl 95 [T.d (D.agg (Ak9 s (Aa2 s))),I a] (.ret (I (Af0 s (Aa2 s) a)))/\CO Gl 95 [T.d (D.agg (Ak9 s (Aa2 s))),I b] (.ret (I (Af0 s (Aa2 s) b)))/\decide (Af0 s (Aa2 s) b<Af0 s (Aa2 s) a)=decide (Af0 s (Aa2 s) a>Af0 s (Aa2 s) b)) (by kernel_rfl) ?_
 exact ⟨Cm7 S s a hs ha,Cm7 S s b hs hb,rfl⟩
theorem Ak {Gl} (S:SP Gl) (s:Sheet) (hs:s.ok=true):CO Gl 81 [Aa6 s] (.ret (B true)):=by
 have h:=B91 S s
 rw [hs] at h
 exact h
theorem Di0 {Gl} (S:SP Gl) (s:Sheet) (hs:s.ok=false):CO Gl 81 [Aa6 s] (.ret (B false)):=by
 have h:=B91 S s
 rw [hs] at h
 exact h
theorem An0 (dom:List Int->Bool) (val:List Int->List C):MEq dom val dom val↔True:=⟨fun _=>trivial,fun _=>Aj1⟩
theorem C40 (s:Sheet) (l:List (List Int)) (r:Nat):(Af0 s l r==1)=sureAt s l r:=by
 unfold Af0 sureAt
 cases isOpen s l r
 ·rfl
 ·rfl
def upR (n:Nat):List Int:=(List.range n).map fun i:Nat=>(i:Int)
theorem Dw6 {Gl} (S:SP Gl) (s:Sheet) (hs:s.ok=true) (h0:0<(Aa2 s).length):CO Gl 31 [Aa6 s] (.ret (.tup [.c (.l eI (Ba2 (Aa2 s))),.c (Ci 0)])):=by
 refine Ag5 S (.r (.ret (B true)) (.r (.ret (.tup [D.agg (Ak9 s (Aa2 s)),D.c (Ci 0)])) (.ff (.r (.ret (L eI (Ar1 ltL (Aa2 s)))) .nil)))) Tryz.func31 (by kernel_rfl) (CO Gl 81 [Aa6 s] (.ret (B true))/\CO Gl 82 [Aa6 s,B true] (.ret (.tup [D.agg (Ak9 s (Aa2 s)),D.c (Ci 0)]))/\false=false/\CO Gl 87 [T.d (D.c (C.l Ac2 (Aa2 s))),T.fn (88:FuncId) [] []] (.ret (L eI (Ar1 ltL (Aa2 s))))/\(sQ eI (Ar1 ltL (Aa2 s)) (Ba2 (Aa2 s)))/\(0:Int)=0) (by kernel_rfl) ?_
 exact ⟨Ak S s hs,Bf3 S s hs h0,rfl,best87 S (Aa2 s) h0,Aa8 (Cg8 h0).symm,rfl⟩
theorem sure38 {Gl} (S:SP Gl) (s:Sheet) (hs:s.ok=true) (h0:0<(Aa2 s).length):CO Gl 38 [Aa6 s] (.ret (.tup [.c (.l eI (Dr3 s (Aa2 s))),.c (Ci 0)])):=by
 refine Ac4 S (let A0:=(List.length (Aa2 s));let A1:=(MEq (Af9 (Aa2 s) A0) (fun key=>[Cb (Af9 (Aa2 s) A0 key)]) (Af9 (Aa2 s) A0) fun key=>[Cb (Af9 (Aa2 s) A0 key)]);let A2:=fun (k0:Nat)=>(Ay8 s (Aa2 s) k0);let A3:=(fun key=>[Cb (Ad0 s (Aa2 s) A0 key)]);let A4:=(↑(rows s):Int);let A5:=(Ak9 s (Aa2 s));((.r (.ret (B true)) (.r (.ret (.tup [D.agg A5,D.c (Ci 0)])) (.ff (.loop (rows s) (fun k=>v 23 (I k)::v 22 (I A4)::v 4 (ad 4)::tk 100 3::v 6 (Lt 100 eI (Ay8 s (Aa2 s) k))::bx 4 A5) fun k0=>.br (.r (.ret (I (Af0 s (Aa2 s) k0))) (.br .nil .nil)) .nil)))),(CO Gl 81 [Aa6 s] (.ret (B true))/\CO Gl 82 [Aa6 s,B true] (.ret (.tup [D.agg A5,D.c (Ci 0)]))/\false=false/\((0:Int)<=0/\0<(s.1.length:Int))/\(List.length (nth s.1 (Int.toNat (0:Int)))<=maxLen->(0=(↑(0:Nat):Int)/\(↑(List.length (nth s.1 (Int.toNat (0:Int)))):Int)=A4/\(0:Nat)=(0:Nat)/\(sR Ac2 s.1)/\(sR eI s.2)/\(sR Ac2 (Aa2 s))/\A1/\MEq (Ad s A0) A3 (Ad s A0) fun key=>[Cb (Ad0 s (Aa2 s) A0 key)])/\∀ (k0:Nat),k0<=rows s->(decide ((k0:Int)<(↑(rows s):Int))=true->CO Gl 95 [T.d (D.agg A5),I k0] (.ret (I (Af0 s (Aa2 s) k0)))/\((Af0 s (Aa2 s) k0==(1:Int))=true->(List.length (A2 k0)+1)*8<=140737488355328/\List.length (A2 k0)+1<=140737488355328/\iR ((k0:Int)+1)/\k0<rows s/\(k0:Int)+1=(↑(k0+1):Int)/\A4=A4/\(SEq (List.length (A2 k0)+1) (Aj0 (List.length (A2 k0)) (fun i=>eI (nth (A2 k0) i)) fun i=>List.getD [List.map C.dem [C.v (Value.int IntKind.i64 (k0:Int))]] i []) (List.length (Ay8 s (Aa2 s) (k0+1))) fun i=>eI (nth (Ay8 s (Aa2 s) (k0+1)) i))/\(sR Ac2 s.1)/\(sR eI s.2)/\(sR Ac2 (Aa2 s))/\A1/\MEq (Ad s A0) A3 (Ad s A0) fun key=>[Cb (Ad0 s (Aa2 s) A0 key)])/\((Af0 s (Aa2 s) k0==(1:Int))=false->iR ((k0:Int)+1)/\k0<rows s/\(k0:Int)+1=(↑(k0+1):Int)/\A4=A4/\(sQ eI (A2 k0) (Ay8 s (Aa2 s) (k0+1)))/\(sR Ac2 s.1)/\(sR eI s.2)/\(sR Ac2 (Aa2 s))/\A1/\MEq (Ad s A0) A3 (Ad s A0) fun key=>[Cb (Ad0 s (Aa2 s) A0 key)]))/\(decide ((k0:Int)<(↑(rows s):Int))=false->(sQ eI (A2 k0) (Dr3 s (Aa2 s)))/\(0:Int)=0))))) Tryz.func38 (by kernel_rfl) (by kernel_rfl) ?_
 obtain ⟨l1,l2,l3,l4⟩:=Af4 hs
 have hrs:=(Ac3 (l4 0 (by omega))).2.2
 simp only [stdS,imp_self,implies_true,and_true,An0,C40]
 refine ⟨Ak S s hs,Bf3 S s hs h0,by omega,fun hm=>⟨⟨rfl,trivial⟩,fun k hk=>⟨fun hd=>?_,fun hd=>?_⟩⟩⟩
 ·have hlt:k<rows s:=by have:=of_decide_eq_true hd;omega
  have h1:=Bt6 s (Aa2 s) k
  have hst:Ay8 s (Aa2 s) (k+1)=Ay8 s (Aa2 s) k++bif sureAt s (Aa2 s) k then [(k:Int)] else []:=rfl
  refine ⟨Cm7 S s k hs hlt,fun hb=>⟨by omega,by omega,(Aa1 _).2 (by omega),hlt,by omega,?_,trivial⟩,fun hb=>⟨(Aa1 _).2 (by omega),hlt,by omega,?_,trivial⟩⟩
  ·refine Ac5 (x:=(k:Int)) ?_ rfl
   rw [hst,hb];rfl
  ·refine Aa8 ?_
   rw [hst,hb];exact List.append_nil _
 ·have hke:k=rows s:=by have:=of_decide_eq_false hd;omega
  subst hke
  exact ⟨Aa8 rfl,trivial⟩
open Go Go.Vc
/-! Dc1 -/
def cntP (p:List Int->Bool) (l:List (List Int)):Nat:=l.countP p
def A79 (p:List Int->Bool) (l:List (List Int)):Int:=Af3 (cntP p l) l.length
theorem count1 (p:List Int->Bool) (x:List Int):[x].countP p=bif p x then 1 else 0:=by
 rw [List.countP_singleton]
 cases p x<;>rfl
theorem Bq1 (l:List (List Int)) (r:Nat) (c:Int):∀ k,k<=l.length->Ak5 l r c k=(l.take k).countP fun d=>nth d r != c
 |0,_=>rfl
 |k+1,hk=>by
  rw [Af5 hk,List.countP_append,count1,<-Bq1 l r c k (by omega)]
  rfl
theorem Bf (s:Sheet) (l:List (List Int)) (h r:Nat):wrongAt s l h r=A79 (fun d=>nth d r != cell s h r) l:=by
 unfold wrongAt A79 cntP cell
 rw [Bq1 _ _ _ _ (Nat.le_refl _),List.take_length]
theorem Cw6 (p:List Int->Bool) (l:List (List Int)):inR (A79 p l) 1 3=true:=by
 unfold A79 Af3
 rw [Aj4]
 cases ((cntP p l:Nat):Int)==0<;>cases ((cntP p l:Nat):Int)==(l.length:Int)<;>simp
theorem Bt2 (p:List Int->Bool) (l:List (List Int)):A79 p l=1↔∀ c,c∈l->p c=false:=by
 have h0:cntP p l=0↔∀ c,c∈l->p c=false:=by
  unfold cntP
  rw [List.countP_eq_zero]
  exact ⟨fun h c hc=>Bool.eq_false_iff.2 (h c hc),fun h c hc=>by rw [h c hc];exact Bool.false_ne_true⟩
 rw [<-h0]
 unfold A79 Af3
 cases hb:((cntP p l:Nat):Int)==0 with
 |true=>
  have:=eq_of_beq hb
  exact ⟨fun _=>by omega,fun _=>rfl⟩
 |false=>
  have:=beq_eq_false_iff_ne.1 hb
  constructor
  ·intro h
   cases hc:((cntP p l:Nat):Int)==(l.length:Int)<;>rw [hc] at h<;>cases h
  ·intro h
   rw [h] at this
   exact absurd rfl this
theorem B47 (p:List Int->Bool) {l:List (List Int)} (hl:0<l.length):A79 p l=3↔∀ c,c∈l->p c=true:=by
 have h0:cntP p l=l.length↔∀ c,c∈l->p c=true:=by
  unfold cntP
  rw [List.countP_eq_length]
 rw [<-h0]
 unfold A79 Af3
 cases hb:((cntP p l:Nat):Int)==0 with
 |true=>
  have:=eq_of_beq hb
  constructor
  ·intro h;cases h
  ·intro h;omega
 |false=>
  cases hc:((cntP p l:Nat):Int)==(l.length:Int) with
  |true=>
   have:=eq_of_beq hc
   exact ⟨fun _=>by omega,fun _=>rfl⟩
  |false=>
   have:=beq_eq_false_iff_ne.1 hc
   constructor
   ·intro h;cases h
   ·intro h;rw [h] at this;exact absurd rfl this
theorem Dq1 {p q:List Int->Bool} {l m:List (List Int)} (hl:0<l.length) (hm:0<m.length) (h0:(∀ c,c∈l->p c=false)↔∀ c,c∈m->q c=false) (h1:(∀ c,c∈l->p c=true)↔∀ c,c∈m->q c=true):A79 p l=A79 q m:=by
 have a0:=Bt2 p l
 have b0:=Bt2 q m
 have a1:=B47 p hl
 have b1:=B47 q hm
 have ai:=Aj4.1 (Cw6 p l)
 have bi:=Aj4.1 (Cw6 q m)
 have e0:A79 p l=1↔A79 q m=1:=by rw [a0,b0,h0]
 have e1:A79 p l=3↔A79 q m=3:=by rw [a1,b1,h1]
 omega
/-! errors of a hand -/
theorem Ch0 {s:Sheet} (hs:s.ok=true) {c:List Int} (hc:isR s c) {h:Nat} (hh:h<s.cols.length):Dw7 s h c=decide (0<wrongTo c (nth s.cols h) (rows s)):=by
 obtain ⟨h1,h2⟩:=Bt1 hs hc.1 hc.2.2 hh
 have hcl:(nth s.cols h).length=rows s:=(Ac3 ((Af4 hs).2.2.2 h hh)).1
 unfold Dw7
 rw [<-h1]
 unfold wrongN
 rw [hcl,Bool.eq_iff_iff,decide_eq_true_eq,decide_eq_true_eq]
 omega
/-! the fewest errors -/
def Cn1 (s:Sheet):Int:=Bn8 s (Aa2 s) (Aa2 s).length
/-! the first one -/
theorem B85:∀ {a b c:List Int},ltL a b=true->ltL b c=true->ltL a c=true
 | [],[],_,h,_=>by cases h
 | [],_::_,[],_,h=>by cases h
 | [],_::_,_::_,_,_=>rfl
 |_::_,[],_,h,_=>by cases h
 |_::_,_::_,[],_,h=>by cases h
 |x::a,y::b,z::c,h1,h2=>by
  have e1:ltL (x::a) (y::b)=bif x==y then ltL a b else decide (x<y):=rfl
  have e2:ltL (y::b) (z::c)=bif y==z then ltL b c else decide (y<z):=rfl
  have e3:ltL (x::a) (z::c)=bif x==z then ltL a c else decide (x<z):=rfl
  rw [e1] at h1
  rw [e2] at h2
  rw [e3]
  by_cases hxy:x=y
  ·subst hxy
   rw [beq_self_eq_true,cond_true] at h1
   by_cases hxz:x=z
   ·subst hxz
    rw [beq_self_eq_true,cond_true] at h2 ⊢
    exact B85 h1 h2
   ·rw [beq_eq_false_iff_ne.2 hxz,cond_false] at h2 ⊢
    exact h2
  ·rw [beq_eq_false_iff_ne.2 hxy,cond_false] at h1
   have h1:=of_decide_eq_true h1
   by_cases hyz:y=z
   ·subst hyz
    rw [beq_eq_false_iff_ne.2 hxy,cond_false]
    exact decide_eq_true h1
   ·rw [beq_eq_false_iff_ne.2 hyz,cond_false] at h2
    have h2:=of_decide_eq_true h2
    rw [beq_eq_false_iff_ne.2 (by omega),cond_false]
    exact decide_eq_true (by omega)
theorem B86:∀ {a b:List Int},ltL a b=false->ltL b a=false->a=b
 | [],[],_,_=>rfl
 | [],_::_,h,_=>by cases h
 |_::_,[],_,h=>by cases h
 |x::a,y::b,h1,h2=>by
  have e1:ltL (x::a) (y::b)=bif x==y then ltL a b else decide (x<y):=rfl
  have e2:ltL (y::b) (x::a)=bif y==x then ltL b a else decide (y<x):=rfl
  rw [e1] at h1
  rw [e2] at h2
  by_cases hxy:x=y
  ·subst hxy
   rw [beq_self_eq_true,cond_true] at h1 h2
   rw [B86 h1 h2]
  ·rw [beq_eq_false_iff_ne.2 hxy,cond_false] at h1
   rw [beq_eq_false_iff_ne.2 fun h=>hxy h.symm,cond_false] at h2
   have h1:=of_decide_eq_false h1
   have h2:=of_decide_eq_false h2
   omega
theorem A01 {l:List (List Int)} (hl:0<l.length):∀ {k:Nat},k<=l.length->An8 l k∈l/\∀ i,i<k->ltL (nth l i) (An8 l k)=false
 |0,_=>⟨Ab5 hl,fun i hi=>absurd hi (Nat.not_lt_zero _)⟩
 |k+1,hk=>by
  obtain ⟨h1,h2⟩:=A01 hl (k:=k) (by omega)
  have e:An8 l (k+1)=bif ltL (nth l k) (An8 l k) then nth l k else An8 l k:=rfl
  rw [e]
  cases hb:ltL (nth l k) (An8 l k) with
  |true=>
   refine ⟨Ab5 hk,fun i hi=>?_⟩
   rw [cond_true]
   rcases Nat.lt_or_ge i k with hlt|hge
   ·rw [Bool.eq_false_iff]
    intro hc
    have:=B85 hc hb
    rw [h2 i hlt] at this
    cases this
   ·have:i=k:=by omega
    subst this
    exact C42 _
  |false=>
   refine ⟨h1,fun i hi=>?_⟩
   rw [cond_false]
   rcases Nat.lt_or_ge i k with hlt|hge
   ·exact h2 i hlt
   ·have:i=k:=by omega
    subst this
    exact hb
theorem Bw {l:List (List Int)} (hl:0<l.length):Ba2 l∈l:=(A01 hl (Nat.le_refl _)).1
theorem Bv9 {l:List (List Int)} (hl:0<l.length) {c:List Int} (hc:c∈l):ltL c (Ba2 l)=false:=by
 obtain ⟨k,hk,rfl⟩:=Am2 hc
 exact (A01 hl (Nat.le_refl _)).2 k hk
/-! how many numbers a row can have -/
/-! rows that differ,and errors -/
theorem Bl7 {s:Sheet} {r:Nat}:∀ {n:Nat},sameR s r n=true↔∀ h,h<n->cell s h r=cell s 0 r
 |0=>⟨fun _ h hh=>absurd hh (Nat.not_lt_zero _),fun _=>rfl⟩
 |n+1=>by
  have ih:=Bl7 (s:=s) (r:=r) (n:=n)
  have e:sameR s r (n+1)=(sameR s r n&&cell s n r==cell s 0 r):=rfl
  rw [e,Bool.and_eq_true,ih,beq_iff_eq]
  constructor
  ·rintro ⟨h1,h2⟩ h hh
   rcases Nat.lt_or_ge h n with hl|hl
   ·exact h1 h hl
   ·have:h=n:=by omega
    subst this;exact h2
  ·intro h1
   exact ⟨fun h hh=>h1 h (by omega),h1 n (by omega)⟩
/-! the next row -/
/-! lists of rows -/
theorem Cd5 (n:Nat):(upR n).length=n:=by unfold upR;rw [List.length_map,List.length_range]
theorem Cx5 {n i:Nat} (h:i<n):nth (upR n) i=(i:Int):=by unfold upR;rw [Ae6 (by rw [List.length_range];exact h),Ab4 h]
theorem Dd3 (n:Nat):upR (n+1)=upR n++[(n:Int)]:=by unfold upR;rw [List.range_succ,List.map_append];rfl
def Am7 (s:Sheet) (c:List Int):List Int:=s.cols.map fun own=>(wrongN c own:Int)
def moreB (s:Sheet) (x y:Int):Bool:=decide (Af0 s (Aa2 s) x.toNat>Af0 s (Aa2 s) y.toNat)
theorem moreS {Gl} (S:SP Gl) (s:Sheet) (x y:Int) (hs:s.ok=true) (hx:0<=x/\x<(rows s:Int)) (hy:0<=y/\y<(rows s:Int)):CO Gl 96 [I x,I y,.d (.rd (Ak9 s (Aa2 s)))] (.ret (B (moreB s x y))):=by
 have h:=more96 S s x.toNat y.toNat hs (by omega) (by omega)
 rw [show ((x.toNat:Nat):Int)=x by omega,show ((y.toNat:Nat):Int)=y by omega] at h
 exact h
theorem manyS {Gl} (S:SP Gl) (s:Sheet) (x:Int) (hs:s.ok=true) (hx:0<=x/\x<(rows s:Int)):CO Gl 95 [.d (.agg (Ak9 s (Aa2 s))),I x] (.ret (I (Af0 s (Aa2 s) x.toNat))):=by
 have h:=Cm7 S s x.toNat hs (by omega)
 rw [show ((x.toNat:Nat):Int)=x by omega] at h
 exact h
theorem Bq8 {s:Sheet} {n:Nat} (hn:0<n):∀ k,k<n->0<=Ac6 (moreB s) (upR n) k/\Ac6 (moreB s) (upR n) k<(n:Int)
 |0,_=>by
  show 0<=nth (upR n) 0/\nth (upR n) 0<(n:Int)
  rw [Cx5 hn];omega
 |k+1,hk=>by
  have ih:=Bq8 (s:=s) hn k (by omega)
  show 0<=(bif moreB s (nth (upR n) (k+1)) (Ac6 (moreB s) (upR n) k) then nth (upR n) (k+1) else Ac6 (moreB s) (upR n) k)/\(bif moreB s (nth (upR n) (k+1)) (Ac6 (moreB s) (upR n) k) then nth (upR n) (k+1) else Ac6 (moreB s) (upR n) k)<(n:Int)
  rw [Cx5 hk]
  cases moreB s ((k+1:Nat):Int) (Ac6 (moreB s) (upR n) k)
  ·exact ih
  ·rw [cond_true];omega
theorem C34 {s:Sheet} {n:Nat} (hn:0<n):0<=Ar1 (moreB s) (upR n)/\Ar1 (moreB s) (upR n)<(n:Int):=by
 unfold Ar1
 rw [Cd5]
 exact Bq8 hn _ (by omega)
theorem Dy6 {Gl} (S:SP Gl) (s:Sheet) (n:Nat) (hs:s.ok=true) (h0:0<n) (hn:n<=rows s):CO Gl 85 [L eI (upR n),.fn 96 [] [.d (.rd (Ak9 s (Aa2 s)))]] (.ret (I (Ar1 (moreB s) (upR n)))):=by
 refine Ac4 S (let A0:=(List.length (Aa2 s));let A1:=(List.drop (1:Nat) (upR n));let A2:=(MEq (Af9 (Aa2 s) A0) (fun key=>[Cb (Af9 (Aa2 s) A0 key)]) (Af9 (Aa2 s) A0) fun key=>[Cb (Af9 (Aa2 s) A0 key)]);let A3:=(MEq (Ad s A0) (fun key=>[Cb (Ad0 s (Aa2 s) A0 key)]) (Ad s A0) fun key=>[Cb (Ad0 s (Aa2 s) A0 key)]);let A4:=(List.length (upR n):Int);let A5:=fun (k0:Nat)=>(Ac6 (moreB s) (upR n) k0);((.loop (n-(1:Nat)) (fun k=>[v 14 (I k),v 13 (I ((n:Int)-1)),v 12 (L eI A1),v 1 (T.fn (96:FuncId) [] [T.d (D.rd (Ak9 s (Aa2 s)))]),v 5 (I (Ac6 (moreB s) (upR n) k))]) fun k0=>.br (.r (.ret (B (moreB s (nth A1 k0) (A5 k0)))) (.br .nil .nil)) .nil),(((0:Int)<=0/\0<A4)/\((0:Int)<=1/\1<=A4/\A4<=A4)/\(Int.toNat (A4-1)<=maxLen->(0=(↑(0:Nat):Int)/\(↑(Int.toNat (A4-1)):Int)=(n:Int)-1/\(SEq (Int.toNat (A4-1)) (fun i=>eI (nth (upR n) (Int.toNat (1:Int)+i))) (List.length A1) fun i=>eI (nth A1 i))/\(96:Nat)=(96:Nat)/\(sR Ac2 s.1)/\(sR eI s.2)/\(sR Ac2 (Aa2 s))/\A2/\A3/\nth (upR n) (Int.toNat (0:Int))=Ac6 (moreB s) (upR n) (0:Nat))/\∀ (k0:Nat),k0<=n-(1:Nat)->(decide ((k0:Int)<(n:Int)-1)=true->(0<=(k0:Int)/\(k0:Int)<(↑(List.length A1):Int))/\CO Gl 96 [I (nth A1 k0),I (A5 k0),T.d (D.rd (Ak9 s (Aa2 s)))] (.ret (B (moreB s (nth A1 k0) (A5 k0))))/\(moreB s (nth A1 k0) (A5 k0)=true->iR ((k0:Int)+1)/\k0<n-(1:Nat)/\(k0:Int)+1=(↑(k0+1):Int)/\(n:Int)-1=(n:Int)-1/\(sR eI A1)/\(96:Nat)=(96:Nat)/\(sR Ac2 s.1)/\(sR eI s.2)/\(sR Ac2 (Aa2 s))/\A2/\A3/\nth A1 k0=Ac6 (moreB s) (upR n) (k0+1))/\(moreB s (nth A1 k0) (A5 k0)=false->iR ((k0:Int)+1)/\k0<n-(1:Nat)/\(k0:Int)+1=(↑(k0+1):Int)/\(n:Int)-1=(n:Int)-1/\(sR eI A1)/\(96:Nat)=(96:Nat)/\(sR Ac2 s.1)/\(sR eI s.2)/\(sR Ac2 (Aa2 s))/\A2/\A3/\Ac6 (moreB s) (upR n) k0=Ac6 (moreB s) (upR n) (k0+1)))/\(decide ((k0:Int)<(n:Int)-1)=false->Ac6 (moreB s) (upR n) k0=Ar1 (moreB s) (upR n)))))) Tryz.func85 (by kernel_rfl) (by kernel_rfl) ?_
 have hup:=Cd5 n
 have hd:((upR n).drop 1).length=n - 1:=by rw [List.length_drop,hup]
 have hnd:∀ k,nth ((upR n).drop 1) k=nth (upR n) (k+1):=fun k=>by rw [Ar4,Nat.add_comm]
 have hst:∀ k,Ac6 (moreB s) (upR n) (k+1)=bif moreB s (nth (upR n) (k+1)) (Ac6 (moreB s) (upR n) k) then nth (upR n) (k+1) else Ac6 (moreB s) (upR n) k:=fun k=>rfl
 simp only [stdS,imp_self,implies_true,and_true,decide_eq_true_eq,decide_eq_false_iff_not,Ae3,Aa1,An0,hup]
 refine ⟨by omega,by omega,fun hm=>⟨⟨by omega,.of ⟨by omega,fun i _=>congrArg eI (Ar4 (l:=upR n) (i:=i) (k:=1)).symm⟩,rfl⟩,fun k hk=>⟨fun hl=>⟨by omega,?_,fun hb=>⟨by omega,by omega,by omega,?_⟩,fun hb=>⟨by omega,by omega,by omega,?_⟩⟩,fun hl=>?_⟩⟩⟩
 ·have h1:=Bq8 (s:=s) h0 k (by omega)
  refine moreS S s _ _ hs ?_ (by omega)
  rw [hnd,Cx5 (by omega)]
  omega
 ·rw [hnd] at hb ⊢
  rw [hst,hb]
  rfl
 ·rw [hnd] at hb
  rw [hst,hb]
  rfl
 ·have:k=n - 1:=by omega
  subst this
  unfold Ar1
  rw [hup]
def Dh1 (s:Sheet):Int:=Ar1 (moreB s) (upR (rows s))
def C32 (s:Sheet):Int:=bif Af0 s (Aa2 s) (Dh1 s).toNat==1 then 0 else Dh1 s
def C33 (s:Sheet):Int:=bif Af0 s (Aa2 s) (Dh1 s).toNat==1 then 5 else 0
theorem next39 {Gl} (S:SP Gl) (s:Sheet) (hs:s.ok=true) (h0:0<(Aa2 s).length):CO Gl 39 [Aa6 s] (.ret (.tup [.c (Ci (C32 s)),.c (Ci (C33 s))])):=by
 refine Ac4 S (let A0:=(List.length (Aa2 s));let A1:=(MEq (Af9 (Aa2 s) A0) (fun key=>[Cb (Af9 (Aa2 s) A0 key)]) (Af9 (Aa2 s) A0) fun key=>[Cb (Af9 (Aa2 s) A0 key)]);let A2:=fun (k0:Nat)=>(Ar1 (moreB s) (upR k0));let A3:=(Ak9 s (Aa2 s));((.r (.ret (B true)) (.r (.ret (.tup [D.agg A3,D.c (Ci 0)])) (.ff (.loop (rows s) (fun k=>v 24 (I k)::v 23 (I (↑(rows s):Int))::v 4 (ad 4)::tk 100 3::v 6 (Lt 100 eI (upR k))::bx 4 A3) fun k0=>.br .nil (.r (.ret (I (A2 k0))) (.r (.ret (I (Af0 s (Aa2 s) (Int.toNat (A2 k0))))) (.br .nil .nil))))))),(CO Gl 81 [Aa6 s] (.ret (B true))/\CO Gl 82 [Aa6 s,B true] (.ret (.tup [D.agg A3,D.c (Ci 0)]))/\false=false/\((0:Int)<=0/\0<(s.1.length:Int))/\(List.length (nth s.1 (Int.toNat (0:Int)))<=maxLen->(0=(↑(0:Nat):Int)/\(↑(List.length (nth s.1 (Int.toNat (0:Int)))):Int)=(↑(rows s):Int)/\(0:Nat)=(0:Nat)/\(sR Ac2 s.1)/\(sR eI s.2)/\(sR Ac2 (Aa2 s))/\A1/\MEq (Ad s A0) (fun key=>[Cb (Ad0 s (Aa2 s) A0 key)]) (Ad s A0) fun key=>[Cb (Ad0 s (Aa2 s) A0 key)])/\∀ (k0:Nat),k0<=rows s->(decide ((k0:Int)<(↑(rows s):Int))=true->(List.length (upR k0)+1)*8<=140737488355328/\List.length (upR k0)+1<=140737488355328/\iR ((k0:Int)+1)/\k0<rows s/\(k0:Int)+1=(↑(k0+1):Int)/\(↑(rows s):Int)=(↑(rows s):Int)/\(SEq (List.length (upR k0)+1) (Aj0 (List.length (upR k0)) (fun i=>eI (nth (upR k0) i)) fun i=>List.getD [List.map C.dem [C.v (Value.int IntKind.i64 (k0:Int))]] i []) (List.length (upR (k0+1))) fun i=>eI (nth (upR (k0+1)) i))/\(sR Ac2 s.1)/\(sR eI s.2)/\(sR Ac2 (Aa2 s))/\A1/\MEq (Ad s A0) (fun key=>[Cb (Ad0 s (Aa2 s) A0 key)]) (Ad s A0) fun key=>[Cb (Ad0 s (Aa2 s) A0 key)])/\(decide ((k0:Int)<(↑(rows s):Int))=false->CO Gl 85 [L eI (upR k0),T.fn (96:FuncId) [] [T.d (D.rd A3)]] (.ret (I (A2 k0)))/\CO Gl 95 [T.d (D.agg A3),I (A2 k0)] (.ret (I (Af0 s (Aa2 s) (Int.toNat (A2 k0)))))/\((Af0 s (Aa2 s) (Int.toNat (A2 k0))==(1:Int))=true->(0:Int)=C32 s/\(5:Int)=C33 s)/\((Af0 s (Aa2 s) (Int.toNat (A2 k0))==(1:Int))=false->Ar1 (moreB s) (upR k0)=C32 s/\(0:Int)=C33 s)))))) Tryz.func39 (by kernel_rfl) (by kernel_rfl) ?_
 obtain ⟨l1,l2,l3,l4⟩:=Af4 hs
 have hrs:=(Ac3 (l4 0 (by omega))).2.2
 have hul:=Cd5
 simp only [stdS,imp_self,implies_true,and_true,An0]
 refine ⟨Ak S s hs,Bf3 S s hs h0,by omega,fun hm=>⟨⟨rfl,trivial⟩,fun k hk=>⟨fun hd=>?_,fun hd=>?_⟩⟩⟩
 ·have hlt:k<rows s:=by have:=of_decide_eq_true hd;omega
  have:=hul k
  exact ⟨by omega,by omega,(Aa1 _).2 (by omega),hlt,by omega,Ac5 (x:=(k:Int)) (Dd3 k) rfl,trivial⟩
 ·have hke:k=rows s:=by have:=of_decide_eq_false hd;omega
  subst hke
  refine ⟨Dy6 S s _ hs (by omega) (Nat.le_refl _),manyS S s _ hs (C34 (by omega)),fun hb=>?_,fun hb=>?_⟩
  all_goals
   have hb':(Af0 s (Aa2 s) (Dh1 s).toNat==1)=_:=hb
   unfold C32 C33
   rw [hb']
   exact ⟨rfl,rfl⟩
theorem B46 (s:Sheet) (c:List Int):(Am7 s c).length=s.cols.length:=List.length_map ..
theorem Bj5 {s:Sheet} {c:List Int} {h:Nat} (hh:h<s.cols.length):nth (Am7 s c) h=(wrongN c (nth s.cols h):Int):=Ae6 hh
theorem Bk1 (s:Sheet) (c:List Int):∀ h,h<=s.cols.length->A83 (Am7 s c) h=Ap1 s c h
 |0,_=>rfl
 |h+1,hh=>by
  unfold A83 Ap1
  rw [Bk1 s c h (by omega),Bj5 (by omega)]
theorem Cx9 {s:Sheet} (hs:s.ok=true) (c:List Int):∀ h:Nat,h<=s.cols.length->0<=Ap1 s c h/\Ap1 s c h<=6*(h:Int)
 |0,_=>⟨Int.le_refl _,Int.le_refl _⟩
 |h+1,hh=>by
  have h1:=Cx9 hs c h (by omega)
  have h2:=Ac3 ((Af4 hs).2.2.2 h (by omega))
  have h3:=Bb4 c (nth s.cols h) (nth s.cols h).length
  have h4:(nth s.cols h).length=rows s:=h2.1
  have h5:=h2.2.2
  unfold Ap1 wrongN
  omega
theorem Bj3 {s:Sheet} (hs:s.ok=true):(Aa2 s).length<=481890304:=by
 obtain ⟨l1,l2,l3,l4⟩:=Af4 hs
 have hrs:=(Ac3 (l4 0 (by omega))).2.2
 have h1:=Bq0 (s:=s) (fun r=>(Bd3 hs r).1) (rows s) [] s.errs
 have h2:28 ^ rows s<=28 ^ 6:=Nat.pow_le_pow_right (by decide) (by omega)
 unfold Aa2
 omega
theorem Cr5 (s:Sheet) (l:List (List Int)):(Al7 s l).length=l.length:=List.length_map ..
theorem Dv3 {Gl} (S:SP Gl) (s:Sheet) (hs:s.ok=true) (h0:0<(Aa2 s).length):CO Gl 29 [Aa6 s] (.ret (.tup [.c (Ci (Cn1 s)),.c (Ci 0)])):=by
 refine Ac4 S (let A0:=(MEq (Af9 (Aa2 s) (List.length (Aa2 s))) (fun key=>[Cb (Af9 (Aa2 s) (List.length (Aa2 s)) key)]) (Af9 (Aa2 s) (List.length (Aa2 s))) fun key=>[Cb (Af9 (Aa2 s) (List.length (Aa2 s)) key)]);let A1:=(List.length (Aa2 s));let A2:=fun (k0:Nat)=>(List.take k0 (Al7 s (Aa2 s)));let A3:=fun (k0 k1:Nat)=>(List.take k1 (Am7 s (nth (Aa2 s) k0)));let A4:=(List.length (Aa2 s):Int);let A5:=(fun key=>[Cb (Ad0 s (Aa2 s) A1 key)]);let A6:=(sR Ac2 (Aa2 s));let A7:=fun (k0:Nat)=>(nth (Aa2 s) k0);let A8:=(Ad s A1);let A9:=(s.1.length:Int);let A10:=(sR Ac2 s.1);let A11:=(Ak9 s (Aa2 s));((.r (.ret (B true)) (.r (.ret (.tup [D.agg A11,D.c (Ci 0)])) (.ff (.loop A1 (fun k=>v 25 (I k)::v 24 (I A4)::v 23 (T.d (D.c (C.l Ac2 (Aa2 s))))::v 4 (ad 4)::tk 100 3::v 6 (Lt 100 eI (List.take k (Al7 s (Aa2 s))))::bx 4 A11) fun k0=>.br (.loop (List.length (Sheet.cols s)) (fun k=>v 33 (I k)::v 32 (I (List.length (Sheet.cols s):Int))::v 31 (T.d (D.c (C.l Ac2 (Sheet.cols s))))::v 25 (I k0)::v 24 (I A4)::v 23 (T.d (D.c (C.l Ac2 (Aa2 s))))::v 8 (L eI (A7 k0))::v 4 (ad 4)::tk 100 3::v 6 (Lt 100 eI (A2 k0))::tk 101 3::v 9 (Lt 101 eI (List.take k (Am7 s (A7 k0))))::bx 4 A11) fun k1=>.br (.r (.ret (I (↑(wrongN (A7 k0) (nth s.1 k1)):Int))) .nil) (.r (.ret (I (sumL (A3 k0 k1)))) .nil)) (.r (.ret (I (Ar1 (fun x y=>decide (x<y)) (A2 k0)))) .nil))))),(CO Gl 81 [Aa6 s] (.ret (B true))/\CO Gl 82 [Aa6 s,B true] (.ret (.tup [D.agg A11,D.c (Ci 0)]))/\false=false/\(List.length (Aa2 s)<=maxLen->(0=(↑(0:Nat):Int)/\A4=A4/\A6/\(0:Nat)=(0:Nat)/\A10/\(sR eI s.2)/\A6/\A0/\MEq A8 A5 A8 fun key=>[Cb (Ad0 s (Aa2 s) A1 key)])/\∀ (k0:Nat),k0<=List.length (Aa2 s)->(decide ((k0:Int)<(List.length (Aa2 s):Int))=true->(0<=(k0:Int)/\(k0:Int)<A4)/\(s.1.length<=maxLen->(0=(↑(0:Nat):Int)/\A9=A9/\A10/\(k0:Int)=(k0:Int)/\A4=A4/\A6/\(sR eI (A7 k0))/\(sR eI (A2 k0))/\(0:Nat)=(0:Nat)/\A10/\(sR eI s.2)/\A6/\A0/\MEq A8 A5 A8 fun key=>[Cb (Ad0 s (Aa2 s) A1 key)])/\∀ (k1:Nat),k1<=List.length (Sheet.cols s)->(decide ((k1:Int)<(s.1.length:Int))=true->(0<=(k1:Int)/\(k1:Int)<A9)/\CO Gl 83 [L eI (A7 k0),L eI (nth s.1 k1)] (.ret (I (↑(wrongN (A7 k0) (nth s.1 k1)):Int)))/\(List.length (A3 k0 k1)+1)*8<=140737488355328/\List.length (A3 k0 k1)+1<=140737488355328/\iR ((k1:Int)+1)/\k1<List.length (Sheet.cols s)/\(k1:Int)+1=(↑(k1+1):Int)/\A9=A9/\A10/\(k0:Int)=(k0:Int)/\A4=A4/\A6/\(sR eI (A7 k0))/\(sR eI (A2 k0))/\(SEq (List.length (A3 k0 k1)+1) (Aj0 (List.length (A3 k0 k1)) (fun i=>eI (nth (A3 k0 k1) i)) fun i=>List.getD [List.map C.dem [C.v (Value.int IntKind.i64 (↑(wrongN (A7 k0) (nth s.1 k1)):Int))]] i []) (List.length (List.take (k1+1) (Am7 s (A7 k0)))) fun i=>eI (nth (List.take (k1+1) (Am7 s (A7 k0))) i))/\A10/\(sR eI s.2)/\A6/\A0/\MEq A8 A5 A8 fun key=>[Cb (Ad0 s (Aa2 s) A1 key)])/\(decide ((k1:Int)<(s.1.length:Int))=false->CO Gl 84 [L eI (A3 k0 k1)] (.ret (I (sumL (A3 k0 k1))))/\(List.length (A2 k0)+1)*8<=140737488355328/\List.length (A2 k0)+1<=140737488355328/\iR ((k0:Int)+1)/\k0<List.length (Aa2 s)/\(k0:Int)+1=(↑(k0+1):Int)/\A4=A4/\A6/\(SEq (List.length (A2 k0)+1) (Aj0 (List.length (A2 k0)) (fun i=>eI (nth (A2 k0) i)) fun i=>List.getD [List.map C.dem [C.v (Value.int IntKind.i64 (sumL (A3 k0 k1)))]] i []) (List.length (List.take (k0+1) (Al7 s (Aa2 s)))) fun i=>eI (nth (List.take (k0+1) (Al7 s (Aa2 s))) i))/\A10/\(sR eI s.2)/\A6/\A0/\MEq A8 A5 A8 fun key=>[Cb (Ad0 s (Aa2 s) A1 key)])))/\(decide ((k0:Int)<(List.length (Aa2 s):Int))=false->CO Gl 85 [L eI (A2 k0),T.fn (86:FuncId) [] []] (.ret (I (Ar1 (fun x y=>decide (x<y)) (A2 k0))))/\Ar1 (fun x y=>decide (x<y)) (A2 k0)=Cn1 s/\(0:Int)=0))))) Tryz.func29 (by kernel_rfl) (by kernel_rfl) ?_
 obtain ⟨l1,l2,l3,l4⟩:=Af4 hs
 have hrs:=(Ac3 (l4 0 (by omega))).2.2
 have hcl:∀ i,i<s.cols.length->(nth s.cols i).length=rows s:=fun i hi=>(Ac3 (l4 i hi)).1
 have hlen:∀ k,k<(Aa2 s).length->(nth (Aa2 s) k).length=rows s:=fun k hk=>(Bb2 hs hk).1
 have hall:=Bj3 hs
 have htl:=Cr5 s (Aa2 s)
 simp only [stdS,imp_self,implies_true,and_true,An0]
 refine ⟨Ak S s hs,Bf3 S s hs h0,fun hm k hk=>⟨fun hd=>?_,fun hd=>?_⟩⟩
 ·have hlt:k<(Aa2 s).length:=by have:=of_decide_eq_true hd;omega
  have h1:=hlen k hlt
  have htk:((Al7 s (Aa2 s)).take k).length=k:=by rw [List.length_take];omega
  have hwl:=B46 s (nth (Aa2 s) k)
  refine ⟨⟨by omega,by omega⟩,fun hm2 k1 hk1=>⟨fun hd1=>?_,fun hd1=>?_⟩⟩
  ·have hlt1:k1<s.cols.length:=by have:=of_decide_eq_true hd1;exact Int.ofNat_lt.1 this
   have htk1:((Am7 s (nth (Aa2 s) k)).take k1).length=k1:=by rw [List.length_take];omega
   have h2:=hcl k1 hlt1
   exact ⟨⟨by omega,Int.ofNat_lt.2 hlt1⟩,Cw4 S _ _ (by show (nth s.cols k1).length<=_;omega) (by show (nth s.cols k1).length<=_;omega),by omega,by omega,(Aa1 _).2 (by omega),hlt1,by omega,Ak2 (by omega) (by rw [Bj5 hlt1];rfl),trivial⟩
  ·have hke1:k1=s.cols.length:=by have:=of_decide_eq_false hd1;have h5:¬ (k1:Int)<(s.cols.length:Int):=this;omega
   subst hke1
   have hte:(Am7 s (nth (Aa2 s) k)).take s.cols.length=Am7 s (nth (Aa2 s) k):=List.take_of_length_le (by omega)
   rw [hte]
   refine ⟨sum84 S _ fun h hh=>?_,by omega,by omega,(Aa1 _).2 (by omega),hlt,by omega,Ak2 (by omega) ?_,trivial⟩
   ·rw [Bk1 s _ h (by omega)]
    have:=Cx9 hs (nth (Aa2 s) k) h (by omega)
    omega
   ·unfold Al7 sumL
    rw [Ae6 hlt,hwl,Bk1 s _ _ (Nat.le_refl _)]
    rfl
 ·have hke:k=(Aa2 s).length:=by have:=of_decide_eq_false hd;omega
  subst hke
  have hte:(Al7 s (Aa2 s)).take (Aa2 s).length=Al7 s (Aa2 s):=List.take_of_length_le (by omega)
  rw [hte]
  refine ⟨best85 S _ (by omega),?_⟩
  unfold Ar1 Cn1
  rw [htl,Bv1 hs (fun c hc=>⟨((Ar6 hs c).1 hc).1,((Ar6 hs c).1 hc).2.2⟩) _ (by omega),show (Aa2 s).length - 1+1=(Aa2 s).length by omega]
  exact ⟨rfl,trivial⟩
theorem Df7 {Gl} (S:SP Gl) (d:List Int) (r:Nat) (c:Int) (h:r<d.length):CO Gl 101 [L eI d,.d (.rd [Ci r]),.d (.rd [Ci c])] (.ret (B (nth d r != c))):=by
 refine Ag5 S (.nil) Tryz.func101 (by kernel_rfl) ((0<=(r:Int)/\(r:Int)<(d.length:Int))/\(nth d r != c)=(nth d r != c)) (by kernel_rfl) ?_
 simp only [stdS,imp_self,implies_true,and_true]
 exact ⟨⟨by omega,Int.ofNat_lt.2 h⟩,trivial⟩
theorem B48 {Gl} (S:SP Gl) (s:Sheet) (r:Nat) (c:Int) (hs:s.ok=true) (hr:r<rows s):CO Gl 100 [.d (.agg (Ak9 s (Aa2 s))),.fn 101 [] [.d (.rd [Ci r]),.d (.rd [Ci c])]] (.ret (I (Af3 (Ak5 (Aa2 s) r c (Aa2 s).length) (Aa2 s).length))):=by
 refine Ac4 S (let A0:=(List.length (Aa2 s));let A1:=(List.length (Aa2 s):Int);let A2:=(MEq (Af9 (Aa2 s) A0) (fun key=>[Cb (Af9 (Aa2 s) A0 key)]) (Af9 (Aa2 s) A0) fun key=>[Cb (Af9 (Aa2 s) A0 key)]);let A3:=fun (k0:Nat)=>(↑(Ak5 (Aa2 s) r c k0):Int);let A4:=(fun key=>[Cb (Ad0 s (Aa2 s) A0 key)]);let A5:=(sR Ac2 (Aa2 s));let A6:=(↑(Ak5 (Aa2 s) r c A0):Int);let A7:=fun (k0:Nat)=>(nth (nth (Aa2 s) k0) r != c);((.loop A0 (fun k=>v 11 (I k)::v 10 (I A1)::v 9 (T.d (D.c (C.l Ac2 (Aa2 s))))::v 1 (T.fn (101:FuncId) [] [T.d (D.rd [Ci r]),T.d (D.rd [Ci c])])::v 2 (ad 2)::v 5 (I (↑(Ak5 (Aa2 s) r c k):Int))::bx 2 (Ak9 s (Aa2 s))) fun k0=>.br (.r (.ret (B (A7 k0))) (.br .nil .nil)) (.br .nil (.br .nil .nil))),(List.length (Aa2 s)<=maxLen->(0=(↑(0:Nat):Int)/\A1=A1/\A5/\(101:Nat)=(101:Nat)/\(r:Int)=(r:Int)/\c=c/\0=(↑(Ak5 (Aa2 s) r c (0:Nat)):Int)/\(sR Ac2 s.1)/\(sR eI s.2)/\A5/\A2/\MEq (Ad s A0) A4 (Ad s A0) fun key=>[Cb (Ad0 s (Aa2 s) A0 key)])/\∀ (k0:Nat),k0<=List.length (Aa2 s)->(decide ((k0:Int)<(List.length (Aa2 s):Int))=true->(0<=(k0:Int)/\(k0:Int)<A1)/\CO Gl 101 [L eI (nth (Aa2 s) k0),T.d (D.rd [Ci r]),T.d (D.rd [Ci c])] (.ret (B (A7 k0)))/\((A7 k0)=true->iR ((A3 k0)+1)/\iR ((k0:Int)+1)/\k0<List.length (Aa2 s)/\(k0:Int)+1=(↑(k0+1):Int)/\A1=A1/\A5/\(101:Nat)=(101:Nat)/\(r:Int)=(r:Int)/\c=c/\(A3 k0)+1=(↑(Ak5 (Aa2 s) r c (k0+1)):Int)/\(sR Ac2 s.1)/\(sR eI s.2)/\A5/\A2/\MEq (Ad s A0) A4 (Ad s A0) fun key=>[Cb (Ad0 s (Aa2 s) A0 key)])/\((A7 k0)=false->iR ((k0:Int)+1)/\k0<List.length (Aa2 s)/\(k0:Int)+1=(↑(k0+1):Int)/\A1=A1/\A5/\(101:Nat)=(101:Nat)/\(r:Int)=(r:Int)/\c=c/\(A3 k0)=(↑(Ak5 (Aa2 s) r c (k0+1)):Int)/\(sR Ac2 s.1)/\(sR eI s.2)/\A5/\A2/\MEq (Ad s A0) A4 (Ad s A0) fun key=>[Cb (Ad0 s (Aa2 s) A0 key)]))/\(decide ((k0:Int)<(List.length (Aa2 s):Int))=false->(((A3 k0)==0)=true->(1:Int)=Af3 A6 A1)/\(((A3 k0)==0)=false->List.length (Aa2 s)<=maxLen->(((A3 k0)==A1)=true->(3:Int)=Af3 A6 A1)/\(((A3 k0)==A1)=false->(2:Int)=Af3 A6 A1)))))) Tryz.func100 (by kernel_rfl) (by kernel_rfl) ?_
 have hall:=Bj3 hs
 simp only [stdS,imp_self,implies_true,and_true,An0]
 refine fun hm=>⟨⟨rfl,trivial⟩,fun k hk=>⟨fun hd=>?_,fun hd=>?_⟩⟩
 ·have hlt:k<(Aa2 s).length:=by have:=of_decide_eq_true hd;omega
  have h1:=(Bb2 hs hlt).1
  have hcn:=B34 (Aa2 s) r c k
  have hst:Ak5 (Aa2 s) r c (k+1)=Ak5 (Aa2 s) r c k+bif nth (nth (Aa2 s) k) r != c then 1 else 0:=rfl
  refine ⟨⟨by omega,by omega⟩,Df7 S _ r c (by omega),fun hb=>⟨(Aa1 _).2 (by omega),(Aa1 _).2 (by omega),hlt,by omega,?_,trivial⟩,fun hb=>⟨(Aa1 _).2 (by omega),hlt,by omega,?_,trivial⟩⟩
  ·rw [hst,hb];rfl
  ·rw [hst,hb];rfl
 ·have hke:k=(Aa2 s).length:=by have:=of_decide_eq_false hd;omega
  subst hke
  unfold Af3
  exact ⟨fun h=>by rw [h];rfl,fun h _=>⟨fun h2=>by rw [h,h2];rfl,fun h2=>by rw [h,h2];rfl⟩⟩
theorem Dl8 {Gl} (S:SP Gl) (d:List Int) (r:Nat) (c:Int) (h:r<d.length):CO Gl 107 [L eI d,.d (.rd [Ci r]),.d (.rd [Ci c])] (.ret (B (nth d r != c))):=by
 refine Ag5 S (.nil) Tryz.func107 (by kernel_rfl) ((0<=(r:Int)/\(r:Int)<(d.length:Int))/\(nth d r != c)=(nth d r != c)) (by kernel_rfl) ?_
 simp only [stdS,imp_self,implies_true,and_true]
 exact ⟨⟨by omega,Int.ofNat_lt.2 h⟩,trivial⟩
theorem B49 {Gl} (S:SP Gl) (s:Sheet) (r:Nat) (c:Int) (hs:s.ok=true) (hr:r<rows s):CO Gl 100 [.d (.agg (Ak9 s (Aa2 s))),.fn 107 [] [.d (.rd [Ci r]),.d (.rd [Ci c])]] (.ret (I (Af3 (Ak5 (Aa2 s) r c (Aa2 s).length) (Aa2 s).length))):=by
 refine Ac4 S (let A0:=(List.length (Aa2 s));let A1:=(List.length (Aa2 s):Int);let A2:=(MEq (Af9 (Aa2 s) A0) (fun key=>[Cb (Af9 (Aa2 s) A0 key)]) (Af9 (Aa2 s) A0) fun key=>[Cb (Af9 (Aa2 s) A0 key)]);let A3:=fun (k0:Nat)=>(↑(Ak5 (Aa2 s) r c k0):Int);let A4:=(fun key=>[Cb (Ad0 s (Aa2 s) A0 key)]);let A5:=(sR Ac2 (Aa2 s));let A6:=(↑(Ak5 (Aa2 s) r c A0):Int);let A7:=fun (k0:Nat)=>(nth (nth (Aa2 s) k0) r != c);((.loop A0 (fun k=>v 11 (I k)::v 10 (I A1)::v 9 (T.d (D.c (C.l Ac2 (Aa2 s))))::v 1 (T.fn (107:FuncId) [] [T.d (D.rd [Ci r]),T.d (D.rd [Ci c])])::v 2 (ad 2)::v 5 (I (↑(Ak5 (Aa2 s) r c k):Int))::bx 2 (Ak9 s (Aa2 s))) fun k0=>.br (.r (.ret (B (A7 k0))) (.br .nil .nil)) (.br .nil (.br .nil .nil))),(List.length (Aa2 s)<=maxLen->(0=(↑(0:Nat):Int)/\A1=A1/\A5/\(107:Nat)=(107:Nat)/\(r:Int)=(r:Int)/\c=c/\0=(↑(Ak5 (Aa2 s) r c (0:Nat)):Int)/\(sR Ac2 s.1)/\(sR eI s.2)/\A5/\A2/\MEq (Ad s A0) A4 (Ad s A0) fun key=>[Cb (Ad0 s (Aa2 s) A0 key)])/\∀ (k0:Nat),k0<=List.length (Aa2 s)->(decide ((k0:Int)<(List.length (Aa2 s):Int))=true->(0<=(k0:Int)/\(k0:Int)<A1)/\CO Gl 107 [L eI (nth (Aa2 s) k0),T.d (D.rd [Ci r]),T.d (D.rd [Ci c])] (.ret (B (A7 k0)))/\((A7 k0)=true->iR ((A3 k0)+1)/\iR ((k0:Int)+1)/\k0<List.length (Aa2 s)/\(k0:Int)+1=(↑(k0+1):Int)/\A1=A1/\A5/\(107:Nat)=(107:Nat)/\(r:Int)=(r:Int)/\c=c/\(A3 k0)+1=(↑(Ak5 (Aa2 s) r c (k0+1)):Int)/\(sR Ac2 s.1)/\(sR eI s.2)/\A5/\A2/\MEq (Ad s A0) A4 (Ad s A0) fun key=>[Cb (Ad0 s (Aa2 s) A0 key)])/\((A7 k0)=false->iR ((k0:Int)+1)/\k0<List.length (Aa2 s)/\(k0:Int)+1=(↑(k0+1):Int)/\A1=A1/\A5/\(107:Nat)=(107:Nat)/\(r:Int)=(r:Int)/\c=c/\(A3 k0)=(↑(Ak5 (Aa2 s) r c (k0+1)):Int)/\(sR Ac2 s.1)/\(sR eI s.2)/\A5/\A2/\MEq (Ad s A0) A4 (Ad s A0) fun key=>[Cb (Ad0 s (Aa2 s) A0 key)]))/\(decide ((k0:Int)<(List.length (Aa2 s):Int))=false->(((A3 k0)==0)=true->(1:Int)=Af3 A6 A1)/\(((A3 k0)==0)=false->List.length (Aa2 s)<=maxLen->(((A3 k0)==A1)=true->(3:Int)=Af3 A6 A1)/\(((A3 k0)==A1)=false->(2:Int)=Af3 A6 A1)))))) Tryz.func100 (by kernel_rfl) (by kernel_rfl) ?_
 have hall:=Bj3 hs
 simp only [stdS,imp_self,implies_true,and_true,An0]
 refine fun hm=>⟨⟨rfl,trivial⟩,fun k hk=>⟨fun hd=>?_,fun hd=>?_⟩⟩
 ·have hlt:k<(Aa2 s).length:=by have:=of_decide_eq_true hd;omega
  have h1:=(Bb2 hs hlt).1
  have hcn:=B34 (Aa2 s) r c k
  have hst:Ak5 (Aa2 s) r c (k+1)=Ak5 (Aa2 s) r c k+bif nth (nth (Aa2 s) k) r != c then 1 else 0:=rfl
  refine ⟨⟨by omega,by omega⟩,Dl8 S _ r c (by omega),fun hb=>⟨(Aa1 _).2 (by omega),(Aa1 _).2 (by omega),hlt,by omega,?_,trivial⟩,fun hb=>⟨(Aa1 _).2 (by omega),hlt,by omega,?_,trivial⟩⟩
  ·rw [hst,hb];rfl
  ·rw [hst,hb];rfl
 ·have hke:k=(Aa2 s).length:=by have:=of_decide_eq_false hd;omega
  subst hke
  unfold Af3
  exact ⟨fun h=>by rw [h];rfl,fun h _=>⟨fun h2=>by rw [h,h2];rfl,fun h2=>by rw [h,h2];rfl⟩⟩
def Ch8 (l:List (List Int)) (own:List Int):Nat->Nat
 |0=>0
 |k+1=>Ch8 l own k+bif decide (0<(wrongN (nth l k) own:Int)) then 1 else 0
theorem C82 (l:List (List Int)) (own:List Int):∀ k,Ch8 l own k<=k
 |0=>Nat.le_refl _
 |k+1=>by
  have:=C82 l own k
  unfold Ch8
  cases decide (0<(wrongN (nth l k) own:Int))<;>simp<;>omega
theorem Dr5 {Gl} (S:SP Gl) (d own:List Int) (h:own.length<=d.length) (hl:own.length<=1000):CO Gl 102 [L eI d,.d (.rd [.l eI own])] (.ret (B (decide (0<(wrongN d own:Int))))):=by
 refine Ag5 S (.r (.ret (I (↑(wrongN d own):Int))) .nil) Tryz.func102 (by kernel_rfl) (CO Gl 83 [L eI d,L eI own] (.ret (I (↑(wrongN d own):Int)))/\decide (0<(↑(wrongN d own):Int))=decide (0<(↑(wrongN d own):Int))) (by kernel_rfl) ?_
 exact ⟨Cw4 S d own h hl,rfl⟩
theorem Cd0 {Gl} (S:SP Gl) (s:Sheet) (own:List Int) (hs:s.ok=true) (hr:own.length=rows s):CO Gl 100 [.d (.agg (Ak9 s (Aa2 s))),.fn 102 [] [.d (.rd [.l eI own])]] (.ret (I (Af3 (Ch8 (Aa2 s) own (Aa2 s).length) (Aa2 s).length))):=by
 refine Ac4 S (let A0:=(List.length (Aa2 s));let A1:=(List.length (Aa2 s):Int);let A2:=(MEq (Af9 (Aa2 s) A0) (fun key=>[Cb (Af9 (Aa2 s) A0 key)]) (Af9 (Aa2 s) A0) fun key=>[Cb (Af9 (Aa2 s) A0 key)]);let A3:=fun (k0:Nat)=>(↑(Ch8 (Aa2 s) own k0):Int);let A4:=(fun key=>[Cb (Ad0 s (Aa2 s) A0 key)]);let A5:=(sR Ac2 (Aa2 s));let A6:=(↑(Ch8 (Aa2 s) own A0):Int);((.loop A0 (fun k=>v 11 (I k)::v 10 (I A1)::v 9 (T.d (D.c (C.l Ac2 (Aa2 s))))::v 1 (T.fn (102:FuncId) [] [T.d (D.rd [C.l eI own])])::v 2 (ad 2)::v 5 (I (↑(Ch8 (Aa2 s) own k):Int))::bx 2 (Ak9 s (Aa2 s))) fun k0=>.br (.r (.ret (B (decide (0<(↑(wrongN (nth (Aa2 s) k0) own):Int))))) (.br .nil .nil)) (.br .nil (.br .nil .nil))),(List.length (Aa2 s)<=maxLen->(0=(↑(0:Nat):Int)/\A1=A1/\A5/\(102:Nat)=(102:Nat)/\(sR eI own)/\0=(↑(Ch8 (Aa2 s) own (0:Nat)):Int)/\(sR Ac2 s.1)/\(sR eI s.2)/\A5/\A2/\MEq (Ad s A0) A4 (Ad s A0) fun key=>[Cb (Ad0 s (Aa2 s) A0 key)])/\∀ (k0:Nat),k0<=List.length (Aa2 s)->(decide ((k0:Int)<(List.length (Aa2 s):Int))=true->(0<=(k0:Int)/\(k0:Int)<A1)/\CO Gl 102 [L eI (nth (Aa2 s) k0),T.d (D.rd [C.l eI own])] (.ret (B (decide (0<(↑(wrongN (nth (Aa2 s) k0) own):Int)))))/\(decide (0<(↑(wrongN (nth (Aa2 s) k0) own):Int))=true->iR ((A3 k0)+1)/\iR ((k0:Int)+1)/\k0<List.length (Aa2 s)/\(k0:Int)+1=(↑(k0+1):Int)/\A1=A1/\A5/\(102:Nat)=(102:Nat)/\(sR eI own)/\(A3 k0)+1=(↑(Ch8 (Aa2 s) own (k0+1)):Int)/\(sR Ac2 s.1)/\(sR eI s.2)/\A5/\A2/\MEq (Ad s A0) A4 (Ad s A0) fun key=>[Cb (Ad0 s (Aa2 s) A0 key)])/\(decide (0<(↑(wrongN (nth (Aa2 s) k0) own):Int))=false->iR ((k0:Int)+1)/\k0<List.length (Aa2 s)/\(k0:Int)+1=(↑(k0+1):Int)/\A1=A1/\A5/\(102:Nat)=(102:Nat)/\(sR eI own)/\(A3 k0)=(↑(Ch8 (Aa2 s) own (k0+1)):Int)/\(sR Ac2 s.1)/\(sR eI s.2)/\A5/\A2/\MEq (Ad s A0) A4 (Ad s A0) fun key=>[Cb (Ad0 s (Aa2 s) A0 key)]))/\(decide ((k0:Int)<(List.length (Aa2 s):Int))=false->(((A3 k0)==0)=true->(1:Int)=Af3 A6 A1)/\(((A3 k0)==0)=false->List.length (Aa2 s)<=maxLen->(((A3 k0)==A1)=true->(3:Int)=Af3 A6 A1)/\(((A3 k0)==A1)=false->(2:Int)=Af3 A6 A1)))))) Tryz.func100 (by kernel_rfl) (by kernel_rfl) ?_
 have hall:=Bj3 hs
 obtain ⟨l1,l2,l3,l4⟩:=Af4 hs
 have hrs:=(Ac3 (l4 0 (by omega))).2.2
 simp only [stdS,imp_self,implies_true,and_true,An0]
 refine fun hm=>⟨⟨rfl,trivial⟩,fun k hk=>⟨fun hd=>?_,fun hd=>?_⟩⟩
 ·have hlt:k<(Aa2 s).length:=by have:=of_decide_eq_true hd;omega
  have h1:=(Bb2 hs hlt).1
  have hcn:=C82 (Aa2 s) own k
  have hst:Ch8 (Aa2 s) own (k+1)=Ch8 (Aa2 s) own k+bif decide (0<(wrongN (nth (Aa2 s) k) own:Int)) then 1 else 0:=rfl
  refine ⟨⟨by omega,by omega⟩,Dr5 S _ own (by omega) (by omega),fun hb=>⟨(Aa1 _).2 (by omega),(Aa1 _).2 (by omega),hlt,by omega,?_,trivial⟩,fun hb=>⟨(Aa1 _).2 (by omega),hlt,by omega,?_,trivial⟩⟩
  ·rw [hst,hb];rfl
  ·rw [hst,hb];rfl
 ·have hke:k=(Aa2 s).length:=by have:=of_decide_eq_false hd;omega
  subst hke
  unfold Af3
  exact ⟨fun h=>by rw [h];rfl,fun h _=>⟨fun h2=>by rw [h,h2];rfl,fun h2=>by rw [h,h2];rfl⟩⟩
theorem inT {Gl} (S:SP Gl) (x lo hi:Int) (h:inR x lo hi=true):CO Gl 93 [I x,I lo,I hi] (.ret (B true)):=by
 have h1:=in93 S x lo hi
 rw [h] at h1
 exact h1
theorem Cj {Gl} (S:SP Gl) (s:Sheet) (r:Nat) (hs:s.ok=true) (h0:0<(Aa2 s).length) (hr:r<rows s):CO Gl 37 [Aa6 s,I r] (.ret (.tup [.c (.l eI (bif isOpen s (Aa2 s) r then [] else Bj7 (Aa2 s) r)),.c (Ci (bif isOpen s (Aa2 s) r then 8 else 0))])):=by
 refine Ac4 S (let A0:=(List.length (Aa2 s));let A1:=(bif isOpen s (Aa2 s) r then [] else Bj7 (Aa2 s) r);((.r (.ret (B true)) (.sure 13 (.sure 14 (.sure 15 (.sure 16 (.sure 17 (.sure 18 (.sure 19 (.sure 20 (.r (.ret (B true)) (.r (.ret (.tup [D.agg (Ak9 s (Aa2 s)),D.c (Ci 0)])) (.ff (.br .nil (.r (.ret (L eI (Bj7 (Aa2 s) r))) .nil)))))))))))))),(CO Gl 81 [Aa6 s] (.ret (B true))/\true=true/\true=true/\true=true/\true=true/\((0:Int)<=0/\0<(s.1.length:Int))/\true=true/\true=true/\(List.length (nth s.1 (Int.toNat (0:Int)))<=maxLen->true=true/\iR ((↑(List.length (nth s.1 (Int.toNat (0:Int)))):Int)-1)/\true=true/\CO Gl 93 [I r,I 0,I ((↑(rows s):Int)-1)] (.ret (B true))/\CO Gl 82 [Aa6 s,B true] (.ret (.tup [D.agg (Ak9 s (Aa2 s)),D.c (Ci 0)]))/\false=false/\(Ad s A0 [(r:Int)]=false->[C.v (Value.bool (Ad0 s (Aa2 s) A0 [(r:Int)]))]=[C.v (Value.bool false)])/\(Ad0 s (Aa2 s) A0 [(r:Int)]=true->List.length A1=(0:Nat)/\(8:Int)=bif isOpen s (Aa2 s) r then (8:Int) else (0:Int))/\(Ad0 s (Aa2 s) A0 [(r:Int)]=false->CO Gl 94 [T.d (D.agg (Ak9 s (Aa2 s))),I r] (.ret (L eI (Bj7 (Aa2 s) r)))/\(sQ eI (Bj7 (Aa2 s) r) A1)/\(0:Int)=bif isOpen s (Aa2 s) r then (8:Int) else (0:Int)))))) Tryz.func37 (by kernel_rfl) (by kernel_rfl) ?_
 obtain ⟨l1,l2,l3,l4⟩:=Af4 hs
 have hrs:=(Ac3 (l4 0 (by omega))).2.2
 have hl0:(nth s.cols (Int.toNat 0)).length=rows s:=rfl
 simp only [stdS,imp_self,implies_true,and_true]
 rw [hl0]
 have ho:=C15 (Aa2 s) hr
 refine ⟨Ak S s hs,by omega,fun hm=>⟨(Aa1 _).2 (by omega),inT S _ _ _ (Aj4.2 ⟨by omega,by omega⟩),Bf3 S s hs h0,fun h=>?_,fun h=>?_,fun h=>⟨Ci9 S s r hs hr,?_⟩⟩⟩
 ·unfold Ad at h
  rw [Bc6 hr,Bool.and_true] at h
  have:=of_decide_eq_false h
  omega
 ·rw [<-ho,h]
  exact ⟨rfl,rfl⟩
 ·rw [<-ho,h]
  exact ⟨Aa8 rfl,rfl⟩
theorem Dq0 {Gl} (S:SP Gl) (s:Sheet) (h:Nat) (hs:s.ok=true) (h0:0<(Aa2 s).length) (hh:h<s.cols.length):CO Gl 48 [Aa6 s,I h] (.ret (.tup [.c (.l eI (Ay5 s (Aa2 s) h)),.c (Ci 0)])):=by
 refine Ac4 S (let A0:=(List.length (Aa2 s));let A1:=(Ay5 s (Aa2 s) h);let A2:=fun (k0:Nat)=>(Af3 (↑(Ak5 (Aa2 s) k0 (nth (nth s.1 h) k0) A0):Int) (List.length (Aa2 s):Int));let A3:=(MEq (Af9 (Aa2 s) A0) (fun key=>[Cb (Af9 (Aa2 s) A0 key)]) (Af9 (Aa2 s) A0) fun key=>[Cb (Af9 (Aa2 s) A0 key)]);let A4:=(Ak9 s (Aa2 s));((.r (.ret (B true)) (.sure 16 (.sure 17 (.sure 18 (.sure 19 (.sure 20 (.sure 21 (.r (.ret (B true)) (.r (.ret (.tup [D.agg A4,D.c (Ci 0)])) (.ff (.loop (rows s) (fun k=>v 36 (I k)::v 35 (I (↑(rows s):Int))::v 34 (L eI (nth (Sheet.cols s) h))::v 6 (ad 6)::tk 100 68::v 8 (Lt 100 eI (List.take k A1))::bx 6 A4) fun k0=>.br (.r (.ret (I (A2 k0))) .nil) .nil))))))))))),(CO Gl 81 [Aa6 s] (.ret (B true))/\true=true/\true=true/\true=true/\true=true/\(s.1.length<=maxLen->true=true/\iR ((s.1.length:Int)-1)/\true=true/\CO Gl 93 [I h,I 0,I ((List.length (Sheet.cols s):Int)-1)] (.ret (B true))/\CO Gl 82 [Aa6 s,B true] (.ret (.tup [D.agg A4,D.c (Ci 0)]))/\false=false/\(0<=(h:Int)/\(h:Int)<(s.1.length:Int))/\(List.length (nth s.1 h)<=maxLen->(0=(↑(0:Nat):Int)/\(List.length (nth s.1 h):Int)=(↑(rows s):Int)/\(sR eI (nth s.1 h))/\(0:Nat)=(0:Nat)/\(sR Ac2 s.1)/\(sR eI s.2)/\(sR Ac2 (Aa2 s))/\A3/\MEq (Ad s A0) (fun key=>[Cb (Ad0 s (Aa2 s) A0 key)]) (Ad s A0) fun key=>[Cb (Ad0 s (Aa2 s) A0 key)])/\∀ (k0:Nat),k0<=rows s->(decide ((k0:Int)<(↑(rows s):Int))=true->(0<=(k0:Int)/\(k0:Int)<(List.length (nth s.1 h):Int))/\CO Gl 100 [T.d (D.agg A4),T.fn (101:FuncId) [] [T.d (D.rd [Ci k0]),T.d (D.rd [Ci (nth (nth s.1 h) k0)])]] (.ret (I (A2 k0)))/\(List.length (List.take k0 A1)+1)*8<=140737488355328/\List.length (List.take k0 A1)+1<=140737488355328/\iR ((k0:Int)+1)/\k0<rows s/\(k0:Int)+1=(↑(k0+1):Int)/\(↑(rows s):Int)=(↑(rows s):Int)/\(sR eI (nth s.1 h))/\(SEq (List.length (List.take k0 A1)+1) (Aj0 (List.length (List.take k0 A1)) (fun i=>eI (nth (List.take k0 A1) i)) fun i=>List.getD [List.map C.dem [C.v (Value.int IntKind.i64 (A2 k0))]] i []) (List.length (List.take (k0+1) A1)) fun i=>eI (nth (List.take (k0+1) A1) i))/\(sR Ac2 s.1)/\(sR eI s.2)/\(sR Ac2 (Aa2 s))/\A3/\MEq (Ad s A0) (fun key=>[Cb (Ad0 s (Aa2 s) A0 key)]) (Ad s A0) fun key=>[Cb (Ad0 s (Aa2 s) A0 key)])/\(decide ((k0:Int)<(↑(rows s):Int))=false->(sQ eI (List.take k0 A1) A1)/\(0:Int)=0)))))) Tryz.func48 (by kernel_rfl) (by kernel_rfl) ?_
 obtain ⟨l1,l2,l3,l4⟩:=Af4 hs
 have hrs:=(Ac3 (l4 0 (by omega))).2.2
 have hl0:(nth s.cols (Int.toNat 0)).length=rows s:=rfl
 have hch:(nth s.cols h).length=rows s:=(Ac3 (l4 h hh)).1
 have hn:(Ay5 s (Aa2 s) h).length=rows s:=by unfold Ay5;rw [List.length_map,List.length_range]
 simp only [stdS,imp_self,implies_true,and_true,An0]
 refine ⟨Ak S s hs,fun hm=>⟨(Aa1 _).2 (by omega),inT S _ _ _ (Aj4.2 ⟨by omega,by omega⟩),Bf3 S s hs h0,⟨by omega,Int.ofNat_lt.2 hh⟩,fun hm2=>⟨⟨by omega,trivial⟩,fun k hk=>⟨fun hd=>?_,fun hd=>?_⟩⟩⟩⟩
 ·have hlt:k<rows s:=by have:=of_decide_eq_true hd;omega
  have htk:((Ay5 s (Aa2 s) h).take k).length=k:=by rw [List.length_take];omega
  have hx:nth (Ay5 s (Aa2 s) h) k=Af3 (Ak5 (Aa2 s) k (nth (nth s.cols h) k) (Aa2 s).length) (Aa2 s).length:=by
   unfold Ay5
   rw [Ae6 (by rw [List.length_range];exact hlt),Ab4 hlt]
   rfl
  exact ⟨⟨by omega,by omega⟩,B48 S s k _ hs hlt,by omega,by omega,(Aa1 _).2 (by omega),hlt,by omega,Ak2 (by omega) (by rw [hx];rfl),trivial⟩
 ·have hke:k=rows s:=by have:=of_decide_eq_false hd;omega
  subst hke
  exact ⟨Aa8 (by rw [<-hn,List.take_length]),trivial⟩
theorem Dp6 {s:Sheet} (hs:s.ok=true) {h:Nat} (hh:h<s.cols.length):∀ {k:Nat},k<=(Aa2 s).length->Ch8 (Aa2 s) (nth s.cols h) k=cntH s (Aa2 s) h k
 |0,_=>rfl
 |k+1,hk=>by
  have ih:=Dp6 hs hh (k:=k) (by omega)
  have he:=Ch0 hs (Da5 hs (Ab5 (show k<(Aa2 s).length by omega))) hh
  have hcl:(nth s.cols h).length=rows s:=(Ac3 ((Af4 hs).2.2.2 h hh)).1
  unfold Ch8 cntH
  rw [ih,he]
  unfold wrongN
  rw [hcl]
  congr 1
  by_cases h2:0<wrongTo (nth (Aa2 s) k) (nth s.cols h) (rows s)
  ·rw [decide_eq_true h2,decide_eq_true (show (0:Int)<(wrongTo (nth (Aa2 s) k) (nth s.cols h) (rows s):Int) by omega)]
  ·rw [decide_eq_false h2,decide_eq_false (show ¬ (0:Int)<(wrongTo (nth (Aa2 s) k) (nth s.cols h) (rows s):Int) by omega)]
theorem Dw1 {Gl} (S:SP Gl) (s:Sheet) (hs:s.ok=true) (h0:0<(Aa2 s).length):CO Gl 49 [Aa6 s] (.ret (.tup [.c (.l eI (Bg1 s (Aa2 s))),.c (Ci 0)])):=by
 refine Ac4 S (let A0:=(List.length (Aa2 s));let A1:=(Bg1 s (Aa2 s));let A2:=fun (k0:Nat)=>(Af3 (↑(Ch8 (Aa2 s) (nth s.1 k0) A0):Int) (List.length (Aa2 s):Int));let A3:=(MEq (Af9 (Aa2 s) A0) (fun key=>[Cb (Af9 (Aa2 s) A0 key)]) (Af9 (Aa2 s) A0) fun key=>[Cb (Af9 (Aa2 s) A0 key)]);let A4:=(s.1.length:Int);let A5:=(Ak9 s (Aa2 s));((.r (.ret (B true)) (.r (.ret (.tup [D.agg A5,D.c (Ci 0)])) (.ff (.loop (List.length (Sheet.cols s)) (fun k=>v 23 (I k)::v 22 (I (List.length (Sheet.cols s):Int))::v 21 (T.d (D.c (C.l Ac2 (Sheet.cols s))))::v 4 (ad 4)::tk 100 68::v 6 (Lt 100 eI (List.take k A1))::bx 4 A5) fun k0=>.br (.r (.ret (I (A2 k0))) .nil) .nil)))),(CO Gl 81 [Aa6 s] (.ret (B true))/\CO Gl 82 [Aa6 s,B true] (.ret (.tup [D.agg A5,D.c (Ci 0)]))/\false=false/\(s.1.length<=maxLen->(0=(↑(0:Nat):Int)/\A4=A4/\(sR Ac2 s.1)/\(0:Nat)=(0:Nat)/\(sR Ac2 s.1)/\(sR eI s.2)/\(sR Ac2 (Aa2 s))/\A3/\MEq (Ad s A0) (fun key=>[Cb (Ad0 s (Aa2 s) A0 key)]) (Ad s A0) fun key=>[Cb (Ad0 s (Aa2 s) A0 key)])/\∀ (k0:Nat),k0<=List.length (Sheet.cols s)->(decide ((k0:Int)<(s.1.length:Int))=true->(0<=(k0:Int)/\(k0:Int)<A4)/\CO Gl 100 [T.d (D.agg A5),T.fn (102:FuncId) [] [T.d (D.rd [C.l eI (nth s.1 k0)])]] (.ret (I (A2 k0)))/\(List.length (List.take k0 A1)+1)*8<=140737488355328/\List.length (List.take k0 A1)+1<=140737488355328/\iR ((k0:Int)+1)/\k0<List.length (Sheet.cols s)/\(k0:Int)+1=(↑(k0+1):Int)/\A4=A4/\(sR Ac2 s.1)/\(SEq (List.length (List.take k0 A1)+1) (Aj0 (List.length (List.take k0 A1)) (fun i=>eI (nth (List.take k0 A1) i)) fun i=>List.getD [List.map C.dem [C.v (Value.int IntKind.i64 (A2 k0))]] i []) (List.length (List.take (k0+1) A1)) fun i=>eI (nth (List.take (k0+1) A1) i))/\(sR Ac2 s.1)/\(sR eI s.2)/\(sR Ac2 (Aa2 s))/\A3/\MEq (Ad s A0) (fun key=>[Cb (Ad0 s (Aa2 s) A0 key)]) (Ad s A0) fun key=>[Cb (Ad0 s (Aa2 s) A0 key)])/\(decide ((k0:Int)<(s.1.length:Int))=false->(sQ eI (List.take k0 A1) A1)/\(0:Int)=0))))) Tryz.func49 (by kernel_rfl) (by kernel_rfl) ?_
 obtain ⟨l1,l2,l3,l4⟩:=Af4 hs
 have hrs:=(Ac3 (l4 0 (by omega))).2.2
 have hl0:(nth s.cols (Int.toNat 0)).length=rows s:=rfl
 have hn:(Bg1 s (Aa2 s)).length=s.cols.length:=by unfold Bg1;rw [List.length_map,List.length_range]
 have hcl:∀ i,i<s.cols.length->(nth s.cols i).length=rows s:=fun i hi=>(Ac3 (l4 i hi)).1
 simp only [stdS,imp_self,implies_true,and_true,An0]
 refine ⟨Ak S s hs,Bf3 S s hs h0,fun hm k hk=>⟨fun hd=>?_,fun hd=>?_⟩⟩
 ·have hlt:k<s.cols.length:=by have:=of_decide_eq_true hd;exact Int.ofNat_lt.1 this
  have htk:((Bg1 s (Aa2 s)).take k).length=k:=by rw [List.length_take];omega
  have hx:nth (Bg1 s (Aa2 s)) k=Af3 (cntH s (Aa2 s) k (Aa2 s).length) (Aa2 s).length:=by
   unfold Bg1
   rw [Ae6 (by rw [List.length_range];exact hlt),Ab4 hlt]
  have h1:=hcl k hlt
  exact ⟨⟨by omega,Int.ofNat_lt.2 hlt⟩,Cd0 S s _ hs h1,by omega,by omega,(Aa1 _).2 (by omega),hlt,by omega,Ak2 (by omega) (by rw [hx,<-Dp6 hs hlt (Nat.le_refl _)];rfl),trivial⟩
 ·have hke:k=s.cols.length:=by have:=of_decide_eq_false hd;have h5:¬ (k:Int)<(s.cols.length:Int):=this;omega
  subst hke
  exact ⟨Aa8 (by rw [<-hn,List.take_length]),trivial⟩
theorem C4 (s:Sheet) (l:List (List Int)) (a b r:Nat):∀ k,metTo s l a b r k=(nth (nth s.cols a) r==nth (nth s.cols b) r&&!(Ak5 l r (nth (nth s.cols a) r) k==0))
 |0=>by
  unfold metTo Ak5
  simp
 |k+1=>by
  unfold metTo Ak5
  rw [C4 s l a b r k]
  cases nth (nth s.cols a) r==nth (nth s.cols b) r
  ·rfl
  ·cases nth (nth l k) r != nth (nth s.cols a) r
   ·simp
   ·simp
theorem Dc2 (n:Nat) (m:Int):(Af3 (n:Int) m != 1)=!(n==0):=by
 unfold Af3
 cases n with
 |zero=>rfl
 |succ n=>
  rw [show (((n+1:Nat):Int)==0)=false from beq_eq_false_iff_ne.2 (by omega),cond_false]
  cases ((n+1:Nat):Int)==m<;>rfl
theorem Dh2 (s:Sheet) (l:List (List Int)) (a b r:Nat) (m:Int):(bif nth (nth s.cols b) r==nth (nth s.cols a) r then Af3 (Ak5 l r (nth (nth s.cols a) r) l.length:Int) m != 1 else false)=metTo s l a b r l.length:=by
 rw [C4,Dc2]
 have hc:(nth (nth s.cols b) r==nth (nth s.cols a) r)=(nth (nth s.cols a) r==nth (nth s.cols b) r):=by rw [Bool.eq_iff_iff,beq_iff_eq,beq_iff_eq];exact eq_comm
 rw [hc]
 cases nth (nth s.cols a) r==nth (nth s.cols b) r<;>rfl
theorem both57 {Gl} (S:SP Gl) (s:Sheet) (a b:Nat) (hs:s.ok=true) (h0:0<(Aa2 s).length) (ha:a<s.cols.length) (hb:b<s.cols.length) (hab:((a:Int) != (b:Int))=true):CO Gl 57 [Aa6 s,I a,I b] (.ret (.tup [.c (.l eI (Av8 s (Aa2 s) a b (rows s))),.c (Ci 0)])):=by
 refine Ac4 S (let A0:=(List.length (Aa2 s));let A1:=fun (k0:Nat)=>(nth (nth s.1 b) k0==nth (nth s.1 a) k0);let A2:=(MEq (Af9 (Aa2 s) A0) (fun key=>[Cb (Af9 (Aa2 s) A0 key)]) (Af9 (Aa2 s) A0) fun key=>[Cb (Af9 (Aa2 s) A0 key)]);let A3:=fun (k0:Nat)=>(bif nth (nth s.1 b) k0==nth (nth s.1 a) k0 then Af3 (↑(Ak5 (Aa2 s) k0 (nth (nth s.1 a) k0) A0):Int) (List.length (Aa2 s):Int) != (1:Int) else false);let A4:=fun (k0:Nat)=>(Av8 s (Aa2 s) a b k0);let A5:=(fun key=>[Cb (Ad0 s (Aa2 s) A0 key)]);let A6:=fun (k0:Nat)=>(I (Af3 (↑(Ak5 (Aa2 s) k0 (nth (nth s.1 a) k0) A0):Int) (List.length (Aa2 s):Int)));let A7:=fun (k0:Nat)=>(eqB (A1 k0) true=true->eqB (A1 k0) true=true);let A8:=(↑(rows s):Int);let A9:=(Ak9 s (Aa2 s));let A10:=(nth s.1 a);((.r (.ret (B true)) (.sure 18 (.sure 19 (.sure 20 (.sure 21 (.sure 22 (.sure 23 (.r (.ret (B true)) (.sure 26 (.sure 27 (.sure 28 (.sure 29 (.sure 30 (.sure 31 (.r (.ret (B true)) (.sure 34 (.sure 35 (.val 36 true (.sure 36 (.r (.ret (.tup [D.agg A9,D.c (Ci 0)])) (.ff (.loop (rows s) (fun k=>v 51 (I k)::v 50 (I A8)::v 49 (L eI (nth (Sheet.cols s) a))::v 8 (ad 8)::v 2 (I b)::tk 100 3::v 10 (Lt 100 eI (Av8 s (Aa2 s) a b k))::bx 8 A9) fun k0=>.br (.r (.ret (A6 k0)) (.br .nil .nil)) .nil)))))))))))))))))))))),(CO Gl 81 [Aa6 s] (.ret (B true))/\true=true/\true=true/\true=true/\true=true/\(s.1.length<=maxLen->true=true/\iR ((s.1.length:Int)-1)/\true=true/\CO Gl 93 [I a,I 0,I ((List.length (Sheet.cols s):Int)-1)] (.ret (B true))/\true=true/\true=true/\true=true/\true=true/\(s.1.length<=maxLen->true=true/\iR ((s.1.length:Int)-1)/\true=true/\CO Gl 93 [I b,I 0,I ((List.length (Sheet.cols s):Int)-1)] (.ret (B true))/\true=true/\true=true/\((a:Int) != (b:Int))=true/\true=true/\CO Gl 82 [Aa6 s,B true] (.ret (.tup [D.agg A9,D.c (Ci 0)]))/\false=false/\(0<=(a:Int)/\(a:Int)<(s.1.length:Int))/\(List.length A10<=maxLen->(0=(↑(0:Nat):Int)/\(List.length A10:Int)=A8/\(sR eI A10)/\(b:Int)=(b:Int)/\(0:Nat)=(0:Nat)/\(sR Ac2 s.1)/\(sR eI s.2)/\(sR Ac2 (Aa2 s))/\A2/\MEq (Ad s A0) A5 (Ad s A0) fun key=>[Cb (Ad0 s (Aa2 s) A0 key)])/\∀ (k0:Nat),k0<=rows s->(decide ((k0:Int)<(↑(rows s):Int))=true->(0<=(k0:Int)/\(k0:Int)<(List.length A10:Int))/\(0<=(b:Int)/\(b:Int)<(s.1.length:Int))/\(0<=(k0:Int)/\(k0:Int)<(List.length (nth s.1 b):Int))/\(A7 k0)/\(A7 k0)/\(eqB (A1 k0) true=true->CO Gl 100 [T.d (D.agg A9),T.fn (107:FuncId) [] [T.d (D.rd [Ci k0]),T.d (D.rd [Ci (nth A10 k0)])]] (.ret (A6 k0)))/\(A7 k0)/\((A1 k0)=true->eqB (A1 k0) true=true)/\((A3 k0)=true->(List.length (A4 k0)+1)*8<=140737488355328/\List.length (A4 k0)+1<=140737488355328/\iR ((k0:Int)+1)/\k0<rows s/\(k0:Int)+1=(↑(k0+1):Int)/\A8=A8/\(sR eI A10)/\(b:Int)=(b:Int)/\(SEq (List.length (A4 k0)+1) (Aj0 (List.length (A4 k0)) (fun i=>eI (nth (A4 k0) i)) fun i=>List.getD [List.map C.dem [C.v (Value.int IntKind.i64 (k0:Int))]] i []) (List.length (Av8 s (Aa2 s) a b (k0+1))) fun i=>eI (nth (Av8 s (Aa2 s) a b (k0+1)) i))/\(sR Ac2 s.1)/\(sR eI s.2)/\(sR Ac2 (Aa2 s))/\A2/\MEq (Ad s A0) A5 (Ad s A0) fun key=>[Cb (Ad0 s (Aa2 s) A0 key)])/\((A3 k0)=false->iR ((k0:Int)+1)/\k0<rows s/\(k0:Int)+1=(↑(k0+1):Int)/\A8=A8/\(sR eI A10)/\(b:Int)=(b:Int)/\(sQ eI (A4 k0) (Av8 s (Aa2 s) a b (k0+1)))/\(sR Ac2 s.1)/\(sR eI s.2)/\(sR Ac2 (Aa2 s))/\A2/\MEq (Ad s A0) A5 (Ad s A0) fun key=>[Cb (Ad0 s (Aa2 s) A0 key)]))/\(decide ((k0:Int)<(↑(rows s):Int))=false->(sQ eI (A4 k0) (Av8 s (Aa2 s) a b (rows s)))/\(0:Int)=0))))))) Tryz.func57 (by kernel_rfl) (by kernel_rfl) ?_
 obtain ⟨l1,l2,l3,l4⟩:=Af4 hs
 have hrs:=(Ac3 (l4 0 (by omega))).2.2
 have hca:(nth s.cols a).length=rows s:=(Ac3 (l4 a ha)).1
 have hcb:(nth s.cols b).length=rows s:=(Ac3 (l4 b hb)).1
 simp only [stdS,imp_self,implies_true,and_true,An0]
 refine ⟨Ak S s hs,fun hm=>⟨(Aa1 _).2 (by omega),inT S _ _ _ (Aj4.2 ⟨by omega,by omega⟩),fun hm2=>⟨(Aa1 _).2 (by omega),inT S _ _ _ (Aj4.2 ⟨by omega,by omega⟩),hab,Bf3 S s hs h0,⟨by omega,Int.ofNat_lt.2 ha⟩,fun hm3=>⟨⟨by omega,trivial⟩,fun k hk=>⟨fun hd=>?_,fun hd=>?_⟩⟩⟩⟩⟩
 ·have hlt:k<rows s:=by have:=of_decide_eq_true hd;omega
  have hbl:=Bw8 s (Aa2 s) a b k
  have hst:Av8 s (Aa2 s) a b (k+1)=Av8 s (Aa2 s) a b k++bif metTo s (Aa2 s) a b k (Aa2 s).length then [(k:Int)] else []:=rfl
  have hw:=Dh2 s (Aa2 s) a b k (Aa2 s).length
  rw [C99] at hw
  refine ⟨⟨by omega,by omega⟩,⟨by omega,Int.ofNat_lt.2 hb⟩,⟨by omega,by omega⟩,fun _=>B49 S s k _ hs hlt,fun h=>⟨by omega,by omega,(Aa1 _).2 (by omega),hlt,by omega,?_,trivial⟩,fun h=>⟨(Aa1 _).2 (by omega),hlt,by omega,?_,trivial⟩⟩
  ·refine Ac5 (x:=(k:Int)) ?_ rfl
   rw [hst,<-hw,h];rfl
  ·refine Aa8 ?_
   rw [hst,<-hw,h];exact List.append_nil _
 ·have hke:k=rows s:=by have:=of_decide_eq_false hd;omega
  subst hke
  exact ⟨Aa8 rfl,trivial⟩
end Go.Vc.Hn
namespace Go.Vc
open Go Go.RowKit
mutual
theorem Ab3.weak {G:Gh} {w:World} {O O':Nat->Prop} (h:∀ b,O b->O' b):∀ {x:T} {v:Value},Ab3 G w O x v->Ab3 G w O' x v
 | .d x,v,r=>by simp only [Ab3] at r ⊢;exact r.weak h
 | .tup xs,v,r=>by simp only [Ab3] at r ⊢;obtain ⟨vs,hv,hr⟩:=r;exact ⟨vs,hv,hr.1,fun j x v hj hv=>(hr.2 j x v hj hv).weak h⟩
 | .fn f a b,v,r=>by
  simp only [Ab3] at r ⊢
  obtain ⟨us,vs,hv,h1,h2⟩:=r
  exact ⟨us,vs,hv,Ab0.weak h h1,Ab0.weak h h2⟩
 | .may b x,v,r=>by simp only [Ab3] at r ⊢;exact ⟨fun hb=>Ab3.weak h (r.1 hb),r.2⟩
 | .nx b xs,v,r=>by
  simp only [Ab3] at r ⊢
  exact ⟨fun hb=>by obtain ⟨vs,hv,hr⟩:=r.1 hb;exact ⟨vs,hv,hr.1,fun j x v hj hv=>(hr.2 j x v hj hv).weak h⟩,r.2⟩
 | .ag xs,v,r=>by simp only [Ab3] at r ⊢;obtain ⟨vs,hv,hr⟩:=r;exact ⟨vs,hv,Ab0.weak h hr⟩
 | .addr _ _,v,r| .any,v,r| .arr _ _,v,r| .elt _ _ _,v,r| .mp _,v,r| .it _,v,r| .yl _,v,r| .tr _,v,r=>by simp only [Ab3] at r ⊢<;>exact r
 | .tok _,v,r| .tkd _ _ _ _,v,r| .own _ _ _,v,r| .arrc _ _ _ _,v,r| .mapc _ _ _ _ _,v,r| .itc _ _,v,r=>by simp only [Ab3] at r
theorem Ab0.weak {G:Gh} {w:World} {O O':Nat->Prop} (h:∀ b,O b->O' b):∀ {xs:List T} {vs:List Value},Ab0 G w O xs vs->Ab0 G w O' xs vs
 | [],vs,r=>by simp only [Ab0] at r ⊢;exact r
 |x::xs,vs,r=>by
  simp only [Ab0] at r ⊢
  obtain ⟨v,us,hv,h1,h2⟩:=r
  exact ⟨v,us,hv,Ab3.weak h h1,Ab0.weak h h2⟩
end
theorem Mem.keep {Y:TypeId->Ty} {m:Env} {w w':World} {G:Gh} (ho:∀ id,m.get 2 id≠.any->At1 (m.get 2 id)=true) (h1:∀ k,m.get 1 k=.any) (hb:∀ id,m.get 2 id≠.any->w'.heap[G.bk id]?=w.heap[G.bk id]?) (hk:KeepV G.vis w w') (hs:Same w w') (M:Mem Y (fun _=>False) m w G):Mem Y (fun _=>False) m w' G:=by
 have hext:Ext (fun _=>False) G G w w':=⟨fun _=>Nat.le_refl _,hk,fun _ h=>h.elim⟩
 refine ⟨fun id k hid=>?_,fun id hid=>?_,M.inj⟩
 ·obtain ⟨q1,q2,u,q3,q4⟩:=M.cells id k hid
  refine ⟨q1,q2,u,?_,VOK.mono hext (fun _ _=>rfl) (fun _ h=>h) (fun k h=>absurd (h1 k) h) (fun k b h=>absurd (h1 k) h) q4⟩
  rw [World.cell?_of_block (hb id (by rw [q1];exact Ad4))]
  exact q3
 ·obtain ⟨q1,q2,q3⟩:=M.box id hid
  refine ⟨q1,Nat.lt_of_lt_of_le q2 hs.size,?_⟩
  have hh:=hb id hid
  unfold Al at q3 ⊢
  split at q3
  ·rw [hh];exact q3
  ·rw [hh]
   obtain ⟨⟨cs,t,z,h3,hz,h4,h5⟩,h6⟩:=q3
   refine ⟨⟨cs,t,z,h3,hz,h4,fun i hi=>?_⟩,h6⟩
   obtain ⟨h7,h8⟩:=h5 i hi
   exact ⟨h7,fun j c hc=>by obtain ⟨u,h9,h10⟩:=h8 j c hc;exact ⟨u,h9,h10.mono hext⟩⟩
  ·rw [hh]
   obtain ⟨⟨es,cl,h3,h4,h5⟩,h6⟩:=q3
   exact ⟨⟨es,cl,h3,h4,fun i en k he hk=>⟨(h5 i en k he hk).1,(h5 i en k he hk).2.mono hext⟩⟩,h6⟩
  ·rw [hh];exact q3
  ·have:=ho id hid
   simp_all [At1]
  ·exact q3.elim
end Go.Vc
namespace Go.Vc.Hn
open Go Go.Proofs Go.Vc Go.RowKit
theorem Az2 {P:Program} {t tx:TypeId} {vx:Value} {w:World} (d:Nat) (h:∃ ms,P.underlying t=some (.interface ms)):(Op.equalIn (d+1) t (.iface tx vx) .nilIface).run P w=.ok false w:=by
 obtain ⟨ms,h⟩:=h
 simp [Op.equalIn,run_underlying h]
theorem Au1 {P:Program} {t tx:TypeId} {vx:Value} {w:World} (h:∃ ms,P.underlying t=some (.interface ms)):(binOp .eql t (.iface tx vx) .nilIface).run P w=.ok (.bool false) w:=by
 have:(Op.equal t (.iface tx vx) .nilIface).run P w=.ok false w:=Az2 9999 h
 simp only [binOp]
 simp [this]
theorem A65 {P:Program} {t:TypeId} {w:World} (d:Nat) (h:∃ ms,P.underlying t=some (.interface ms)):(Op.equalIn (d+1) t .nilIface .nilIface).run P w=.ok true w:=by
 obtain ⟨ms,h⟩:=h
 simp [Op.equalIn,run_underlying h]
theorem Bl8 {P:Program} {t:TypeId} {w:World} (h:∃ ms,P.underlying t=some (.interface ms)):(binOp .eql t .nilIface .nilIface).run P w=.ok (.bool true) w:=by
 have:(Op.equal t .nilIface .nilIface).run P w=.ok true w:=A65 9999 h
 simp only [binOp]
 simp [this]
theorem A54 {P:Program} {t xt:TypeId} {v:Value} {w:World} {y:Ty} (hY:Dz1 P t y) (hk:∃ fs,y.kind=.struct fs):(Instr.typeAssert (.iface t v) xt t true).run P w=.ok (.tuple #[v,.bool true]) w:=by
 obtain ⟨d,i,z,h1,_,_,_,_,_,h7,_⟩:=hY
 obtain ⟨fs,hk⟩:=hk
 rw [hk] at h7
 obtain ⟨fields,rfl,_⟩:=h7
 simp [Instr.typeAssert,run_underlying h1]
theorem Bz6 {P:Program} {Y:TypeId->Ty} {t t' xt:TypeId} {v:Value} {w:World} (hY:YOK P Y) (hk:∃ fs,(Y t).kind=.struct fs) (hne:t'≠t):∃ z,(Instr.typeAssert (.iface t' v) xt t true).run P w=.ok (.tuple #[z,.bool false]) w:=by
 obtain ⟨fs,hk⟩:=hk
 have hkn:(Y t).known=true:=Ar2 hk
 obtain ⟨z,hz,_⟩:=Ao2 hY hkn w
 obtain ⟨d,i,z',h1,_,_,_,_,_,h7,_⟩:=hY t hkn
 rw [hk] at h7
 obtain ⟨fields,rfl,_⟩:=h7
 refine ⟨z,?_⟩
 simp [Instr.typeAssert,run_underlying h1,hne,hz]
theorem Dr:∃ ms,Tryz.prog.underlying 20=some (.interface ms):=by
 obtain ⟨d,i,z,h1,_,_,_,_,_,h7,_⟩:=yok 20 (by kernel_rfl)
 obtain ⟨ms,rfl⟩:∃ ms,d=.interface ms:=h7
 exact ⟨ms,h1⟩
theorem k133:(Y 133).kind=.struct [(0,3)]:=by kernel_rfl
theorem k135:(Y 135).kind=.struct [(0,9)]:=by kernel_rfl
theorem z133:(Y 133).zero.toArray=#[.int .i64 0]:=by kernel_rfl
theorem z135:(Y 135).zero.toArray=#[.string (ByteArray.mk #[])]:=by kernel_rfl
theorem z26:(Y 26).zero.toArray=#[.int .i64 0]:=by kernel_rfl
theorem s133:(Y 133).size=1:=by kernel_rfl
theorem s135:(Y 135).size=1:=by kernel_rfl
theorem s26:(Y 26).size=1:=by kernel_rfl
theorem Dv6:(Y 133).known=true:=by kernel_rfl
theorem Dv5:(Y 135).known=true:=by kernel_rfl
theorem kn26:(Y 26).known=true:=by kernel_rfl
theorem B24 {a:Act} {v:Value}:a.eval (.const v)=v:=rfl
theorem sl1 (p v:Value):SL { tmps:=#[p]++(Array.replicate 13 undef).setIfInBounds 4 v,defers:=[] } 14 (upd (fun t=>#[p].getD t undef) 5 v) []:=by
 have:=(SL.start #[p] 14 (Nat.le_of_ble_eq_true rfl)).put (d:=5) (by decide) v
 simpa [Act.put] using this
def stO (t:TypeId) (p q:Operand):Oper:={ dst:=none,op:=Op.store t p q,type:=0,pos:= "",after:=#[],guard:=none }
theorem Cv9 (p:Value) (w:World):
  CallsD Tryz.prog 118 #[p] .returning w fun e u' w'=>e=.returned (.tuple #[])/\u'=.returning/\w'=w:=by
 refine callsD_of_wpS Tryz.func118 rfl fun c₀ cs hu=>?_
 apply wpS_seq
 apply wpS_region
 simp [wpOpsS,go_sem,recoverD,hu,Tryz.ntmps118,Exit.thenS]
 have S:=sl1 p .nilIface
 refine wpS_of_wp (wp_block (wp_seq (wp_region_list ?_)))
 generalize ({ tmps:=#[p]++(Array.replicate 13 undef).setIfInBounds 4 Value.nilIface,defers:=[] }:Act)=a at S ⊢
 refine Ae2 S (d:=7) (v:=.bool true) (w':=w) rfl (by decide) rfl ?_ fun a1 S1=>?_
 ·simp [execOp,S.eval,upd,Bl8 Dr,B24,eqGuard]
 refine wp_cond_true (by simp [S1.eval,upd]) (wp_region_list ?_)
 refine Ae2 S1 (d:=1) (v:=.nilIface) (w':=w) rfl (by decide) rfl ?_ fun a2 S2=>?_
 ·simp [execOp,S1.eval,upd]
 cases c₀
 simp_all [wpList,bodyPostS,results,Tryz.results118,Exit.inBlock,S2.defers]
theorem C89 (b1:Nat) (x:Int) (older:List PanicEntry) (w:World) (h1:w.heap[b1]?=some (.cells #[.int .i64 0] 26 (0,0))):
  CallsD Tryz.prog 118 #[.pointer (some ⟨b1,0,none⟩)] (.panicking ({ v:=.iface 133 (.agg #[.int .i64 x]),recovered:=false }::older)) w fun e u' w'=>
   e=.returned (.tuple #[])/\u'=.panicking ({ v:=.iface 133 (.agg #[.int .i64 x]),recovered:=true }::older)/\Same w w'/\w'.heap[b1]?=some (.cells #[.int .i64 5] 26 (0,0))/\
   ∀ b,b<w.heap.size->b≠b1->w'.heap[b]?=w.heap[b]?:=by
 have l1:b1<w.heap.size:=(Array.getElem?_eq_some_iff.1 h1).1
 refine callsD_of_wpS Tryz.func118 rfl fun c₀ cs hu=>?_
 apply wpS_seq
 apply wpS_region
 simp [wpOpsS,go_sem,recoverD,hu,Tryz.ntmps118,Exit.thenS]
 have S:=sl1 (.pointer (some ⟨b1,0,none⟩)) (.iface 133 (.agg #[.int .i64 x]))
 refine wpS_of_wp (wp_block (wp_seq (wp_region_list ?_)))
 generalize ({ tmps:=#[Value.pointer (some ⟨b1,0,none⟩)]++(Array.replicate 13 undef).setIfInBounds 4 (Value.iface 133 (.agg #[.int .i64 x])),defers:=[] }:Act)=a at S ⊢
 refine Ae2 S (d:=7) (v:=.bool false) (w':=w) rfl (by decide) rfl ?_ fun a1 S1=>?_
 ·simp [execOp,S.eval,upd,Au1 Dr,B24,eqGuard]
 refine wp_cond_false (by simp [S1.eval,upd]) (wp_seq (wp_region_list ?_))
 refine Ae2 S1 (d:=8) (v:=.tuple #[.agg #[.int .i64 x],.bool true]) (w':=w) rfl (by decide) rfl ?_ fun a2 S2=>?_
 ·simp [execOp,S1.eval,upd,A54 (yok 133 Dv6) ⟨_,k133⟩]
 refine Ae2 S2 (d:=9) (v:=.bool true) (w':=w) rfl (by decide) rfl ?_ fun a3 S3=>?_
 ·simp [execOp,S2.eval,upd,Instr.extract]
 refine Ae2 S3 (d:=10) (v:=.agg #[.int .i64 x]) (w':=w) rfl (by decide) rfl ?_ fun a7 S7=>?_
 ·simp [execOp,S3.eval,upd,Instr.extract]
 refine wp_cond_true (by simp [S7.eval,upd]) (wp_seq (wp_region_list ?_))
 have hal:=fun (o:Oper) (ho:o.op=Op.alloc 133)=>Ap6 (P:=Tryz.prog) (a:=a7) (w:=w) (o:=o) yok (t:=133) ho Dv6
 rw [z133] at hal
 refine Ae2 S7 (d:=2) rfl (by decide) rfl (hal _ rfl) fun a8 S8=>?_
 obtain ⟨w1,hw1⟩:∃ w1,w.alloc (.cells #[.int .i64 0] 133 (0,0))=w1:=⟨_,rfl⟩
 have hw1':w.alloc (.cells #[.int .i64 0] 133)=w1:=hw1
 rw [hw1']
 have g1:Same w w1:=by rw [<-hw1];exact Ai5 _ _
 have g2:∀ b,b<w.heap.size->w1.heap[b]?=w.heap[b]?:=fun b hb=>by rw [<-hw1];exact Ab7 _ _ hb
 have g3:w1.heap[w.heap.size]?=some (.cells #[.int .i64 0] 133 (0,0)):=by rw [<-hw1];exact World.alloc_heap_new w _
 have H:=fun (o:Oper) (ho:o.op=Op.store 133 (.tmp 2) (.tmp 10))=>Al3 (P:=Tryz.prog) (a:=a8) (w:=w1) (v:=.agg #[.int .i64 x]) (b:=w.heap.size) (o:=o)
  yok (t:=133) ho Dv6 (by simp [S8.eval,upd]) (by simp [S8.eval,upd]) (by rw [s133];rfl) (by rw [s133];rfl) (by simp [Value.cells,Value.oneCell']) g3
 obtain ⟨_,r2,r3,r4⟩:=H (stO 133 (.tmp 2) (.tmp 10)) rfl
 refine As6 S8 rfl rfl (H _ rfl).1 fun a9 S9=>?_
 clear H
 generalize w1.setRow w.heap.size (Value.agg #[.int .i64 x]).cells=w2 at r2 r3 r4 ⊢
 refine wp_region_list ?_
 have g5:w2.heap[b1]?=some (.cells #[.int .i64 0] 26 (0,0)):=by rw [r4 _ (by omega),g2 _ l1];exact h1
 have H:=fun (o:Oper) (ho:o.op=Op.store 26 (.tmp 0) (.const (.int .i64 5)))=>Al3 (P:=Tryz.prog) (a:=a9) (w:=w2) (v:=.int .i64 5) (b:=b1) (o:=o)
  yok (t:=26) ho kn26 (by simp [S9.eval,upd]) rfl (by rw [s26];rfl) (by rw [s26];rfl) (by simp [Value.cells,Value.oneCell']) g5
 obtain ⟨_,t2,t3,t4⟩:=H (stO 26 (.tmp 0) (.const (.int .i64 5))) rfl
 refine As6 S9 rfl rfl (H _ rfl).1 fun a10 S10=>?_
 clear H
 generalize w2.setRow b1 (Value.int .i64 5).cells=w4 at t2 t3 t4 ⊢
 have e3:∀ b,b<w.heap.size->b≠b1->w4.heap[b]?=w.heap[b]?:=fun b hb h1=>by rw [t4 _ h1,r4 _ (by omega),g2 _ hb]
 have e4:Same w w4:=(g1.trans r3).trans t3
 exact ⟨S10.defers,_,rfl,.tuple #[],by simp [results,Tryz.results118],rfl,rfl,e4,t2,e3⟩
theorem Cv8 (b1:Nat) (x:ByteArray) (older:List PanicEntry) (w:World) (h1:w.heap[b1]?=some (.cells #[.int .i64 0] 26 (0,0))):
  CallsD Tryz.prog 118 #[.pointer (some ⟨b1,0,none⟩)] (.panicking ({ v:=.iface 135 (.agg #[.string x]),recovered:=false }::older)) w fun e u' w'=>
   e=.returned (.tuple #[])/\u'=.panicking ({ v:=.iface 135 (.agg #[.string x]),recovered:=true }::older)/\Same w w'/\w'.heap[b1]?=some (.cells #[.int .i64 4] 26 (0,0))/\
   ∀ b,b<w.heap.size->b≠b1->w'.heap[b]?=w.heap[b]?:=by
 have l1:b1<w.heap.size:=(Array.getElem?_eq_some_iff.1 h1).1
 refine callsD_of_wpS Tryz.func118 rfl fun c₀ cs hu=>?_
 apply wpS_seq
 apply wpS_region
 simp [wpOpsS,go_sem,recoverD,hu,Tryz.ntmps118,Exit.thenS]
 have S:=sl1 (.pointer (some ⟨b1,0,none⟩)) (.iface 135 (.agg #[.string x]))
 refine wpS_of_wp (wp_block (wp_seq (wp_region_list ?_)))
 generalize ({ tmps:=#[Value.pointer (some ⟨b1,0,none⟩)]++(Array.replicate 13 undef).setIfInBounds 4 (Value.iface 135 (.agg #[.string x])),defers:=[] }:Act)=a at S ⊢
 refine Ae2 S (d:=7) (v:=.bool false) (w':=w) rfl (by decide) rfl ?_ fun a1 S1=>?_
 ·simp [execOp,S.eval,upd,Au1 Dr,B24,eqGuard]
 refine wp_cond_false (by simp [S1.eval,upd]) (wp_seq (wp_region_list ?_))
 obtain ⟨z,hz⟩:=Bz6 (Y:=Y) (t:=133) (t':=135) (xt:=20) (v:=.agg #[.string x]) (w:=w) yok ⟨_,k133⟩ (by decide)
 refine Ae2 S1 (d:=8) (v:=.tuple #[z,.bool false]) (w':=w) rfl (by decide) rfl ?_ fun a2 S2=>?_
 ·simp [execOp,S1.eval,upd,hz]
 refine Ae2 S2 (d:=9) (v:=.bool false) (w':=w) rfl (by decide) rfl ?_ fun a3 S3=>?_
 ·simp [execOp,S2.eval,upd,Instr.extract]
 refine Ae2 S3 (d:=10) (v:=z) (w':=w) rfl (by decide) rfl ?_ fun a4 S4=>?_
 ·simp [execOp,S3.eval,upd,Instr.extract]
 refine wp_cond_false (by simp [S4.eval,upd]) (wp_seq (wp_region_list ?_))
 refine Ae2 S4 (d:=11) (v:=.tuple #[.agg #[.string x],.bool true]) (w':=w) rfl (by decide) rfl ?_ fun a5 S5=>?_
 ·simp [execOp,S4.eval,upd,A54 (yok 135 Dv5) ⟨_,k135⟩]
 refine Ae2 S5 (d:=12) (v:=.bool true) (w':=w) rfl (by decide) rfl ?_ fun a6 S6=>?_
 ·simp [execOp,S5.eval,upd,Instr.extract]
 refine Ae2 S6 (d:=13) (v:=.agg #[.string x]) (w':=w) rfl (by decide) rfl ?_ fun a7 S7=>?_
 ·simp [execOp,S6.eval,upd,Instr.extract]
 refine wp_cond_true (by simp [S7.eval,upd]) (wp_seq (wp_region_list ?_))
 have hal:=fun (o:Oper) (ho:o.op=Op.alloc 135)=>Ap6 (P:=Tryz.prog) (a:=a7) (w:=w) (o:=o) yok (t:=135) ho Dv5
 rw [z135] at hal
 refine Ae2 S7 (d:=3) rfl (by decide) rfl (hal _ rfl) fun a8 S8=>?_
 obtain ⟨w1,hw1⟩:∃ w1,w.alloc (.cells #[.string (ByteArray.mk #[])] 135 (0,0))=w1:=⟨_,rfl⟩
 have hw1':w.alloc (.cells #[.string (ByteArray.mk #[])] 135)=w1:=hw1
 rw [hw1']
 have g1:Same w w1:=by rw [<-hw1];exact Ai5 _ _
 have g2:∀ b,b<w.heap.size->w1.heap[b]?=w.heap[b]?:=fun b hb=>by rw [<-hw1];exact Ab7 _ _ hb
 have g3:w1.heap[w.heap.size]?=some (.cells #[.string (ByteArray.mk #[])] 135 (0,0)):=by rw [<-hw1];exact World.alloc_heap_new w _
 have H:=fun (o:Oper) (ho:o.op=Op.store 135 (.tmp 3) (.tmp 13))=>Al3 (P:=Tryz.prog) (a:=a8) (w:=w1) (v:=.agg #[.string x]) (b:=w.heap.size) (o:=o)
  yok (t:=135) ho Dv5 (by simp [S8.eval,upd]) (by simp [S8.eval,upd]) (by rw [s135];rfl) (by rw [s135];rfl) (by simp [Value.cells,Value.oneCell']) g3
 obtain ⟨_,r2,r3,r4⟩:=H (stO 135 (.tmp 3) (.tmp 13)) rfl
 refine As6 S8 rfl rfl (H _ rfl).1 fun a9 S9=>?_
 clear H
 generalize w1.setRow w.heap.size (Value.agg #[.string x]).cells=w2 at r2 r3 r4 ⊢
 refine wp_region_list ?_
 have g5:w2.heap[b1]?=some (.cells #[.int .i64 0] 26 (0,0)):=by rw [r4 _ (by omega),g2 _ l1];exact h1
 have H:=fun (o:Oper) (ho:o.op=Op.store 26 (.tmp 0) (.const (.int .i64 4)))=>Al3 (P:=Tryz.prog) (a:=a9) (w:=w2) (v:=.int .i64 4) (b:=b1) (o:=o)
  yok (t:=26) ho kn26 (by simp [S9.eval,upd]) rfl (by rw [s26];rfl) (by rw [s26];rfl) (by simp [Value.cells,Value.oneCell']) g5
 obtain ⟨_,t2,t3,t4⟩:=H (stO 26 (.tmp 0) (.const (.int .i64 4))) rfl
 refine As6 S9 rfl rfl (H _ rfl).1 fun a10 S10=>?_
 clear H
 generalize w2.setRow b1 (Value.int .i64 4).cells=w4 at t2 t3 t4 ⊢
 have e3:∀ b,b<w.heap.size->b≠b1->w4.heap[b]?=w.heap[b]?:=fun b hb h1=>by rw [t4 _ h1,r4 _ (by omega),g2 _ hb]
 have e4:Same w w4:=(g1.trans r3).trans t3
 exact ⟨S10.defers,_,rfl,.tuple #[],by simp [results,Tryz.results118],rfl,rfl,e4,t2,e3⟩
def attV:Ending->Value
 | .panicked [{ v:=.iface 133 _,.. }]=>.int .i64 5
 | .panicked [{ v:=.iface 135 _,.. }]=>.int .i64 4
 |_=>.int .i64 0
def Ci2 (w:World):World:=w.alloc (.cells #[.int .i64 0] 26 (0,0))
structure AttOK (w w':World) (en:Ending):Prop where
 one:w'.heap[w.heap.size]?=some (.cells #[.int .i64 0] 26 (0,0))
 en:en=.returned (.tuple #[])∨(∃ x,en=.panicked [{ v:=.iface 133 (.agg #[.int .i64 x]),recovered:=false }])∨∃ s,en=.panicked [{ v:=.iface 135 (.agg #[.string s]),recovered:=false }]
theorem A76 {a:Act} {w:World} {b1:Nat} {x:Value} (h1:a.tmps.getD 2 undef=.pointer (some ⟨b1,0,none⟩))
  (g1:w.heap[b1]?=some (.cells #[x] 26 (0,0))):(results Tryz.f74 a.tmps).run Tryz.prog w=.ok x w:=by
 have l1:=Au yok (t:=26) (by kernel_rfl) (w:=w) (b:=b1) (off:=0) (u:=x) (by simp [World.cell?,g1])
 have he:Tryz.f74.results.mapM (Bc7 a.tmps)=List.toArray <$> Tryz.f74.results.toList.mapM (Bc7 a.tmps):=Array.mapM_eq_mapM_toList ..
 have he2:results Tryz.f74 a.tmps=(Tryz.f74.results.mapM (Bc7 a.tmps) >>= fun vs=>pure (if h:vs.size=1 then vs[0] else .tuple vs)):=rfl
 have hrun:([ResultVar.cell 2 26].mapM (Bc7 a.tmps)).run Tryz.prog w=.ok [x] w:=by
  have r1:(Bc7 a.tmps (.cell 2 26)).run Tryz.prog w=.ok x w:=by simp [Bc7,h1,asAddr,l1]
  rw [Al2,r1,Result.andThen_ok]
  simp
 rw [he2,he,Tryz.results74]
 simp only [Sem.run_bind,Sem.run_map,hrun,Result.andThen_ok,Sem.run_pure]
 rfl
theorem B39 (g:FuncId) (hg:Cc8 Tryz.prog g) (us vs:Array Value) (w:World) (R:Ending->World->Prop) (hcall:Calls Tryz.prog g (us++vs) (Ci2 w) R) (hR:∀ en w',R en w'->AttOK w w' en):
  Calls Tryz.prog 74 #[.func (.func g) us vs] w fun en w''=>∃ en0 w',R en0 w'/\Same w' w''/\(∀ b,b<w'.heap.size->b≠w.heap.size->w''.heap[b]?=w'.heap[b]?)/\en=.returned (attV en0):=by
 go_enter_defers Tryz.func74,Tryz.ntmps74
 have S:SL { tmps:=#[Value.func (Fn.func g) us vs,undef,undef,undef,undef,undef],defers:=[] } 6 (fun t=>#[Value.func (Fn.func g) us vs].getD t undef) []:=by
  exact SL.start #[Value.func (Fn.func g) us vs] 6 (Nat.le_of_ble_eq_true rfl)
 generalize ({ tmps:=#[Value.func (Fn.func g) us vs,undef,undef,undef,undef,undef],defers:=[] }:Act)=a at S ⊢
 refine wp_seq (wp_region_list ?_)
 have hal:=fun (o:Oper) (ho:o.op=Op.alloc 26)=>Ap6 (P:=Tryz.prog) (a:=a) (w:=w) (o:=o) yok (t:=26) ho kn26
 rw [z26] at hal
 refine Ae2 S (d:=2) rfl (by decide) rfl (hal _ rfl) fun a2 S2=>?_
 show Code.wp Tryz.prog _ _ a2 (Ci2 w)
 generalize hw1:Ci2 w=w1 at hcall ⊢
 refine wp_seq (wp_region_list ?_)
 refine Ae2 S2 (d:=3) (v:=.func (.func 118) #[] #[.pointer (some ⟨w.heap.size,0,none⟩)]) (w':=w1) rfl (by decide) rfl ?_ fun a3 S3=>?_
 ·simp [execOp,S2.eval,upd,Instr.makeFunc]
 refine Df S3 (d:={ target:=.fn (.func 118) #[.pointer (some ⟨w.heap.size,0,none⟩)],args:=#[] }) rfl rfl ?_ fun a4 S4=>?_
 ·simp [execOp,resolve,S3.eval,upd,Deferred.ofValue]
 refine wp_seq (wp_region_list ?_)
 refine Ae2 S4 (d:=4) (v:=.func (.func g) us vs) (w':=w1) rfl (by decide) rfl ?_ fun a5 S5=>?_
 ·simp [execOp,S4.eval,upd]
 have hinv:∀ (p:Value) (w:World),(invoke (.fn (.func 118) #[p]) #[]).run Tryz.prog w=.ok (.enter 118 #[p]) w:=fun p w=>by
  have h2:(Tryz.f118.name== "runtime.NumGoroutine")=false:=by kernel_rfl
  have h3:Tryz.f118.body.isNone=false:=by kernel_rfl
  have h2':Tryz.f118.name≠ "runtime.NumGoroutine":=by simpa using h2
  have h3':Tryz.f118.body≠none:=by intro hh;rw [hh] at h3;cases h3
  simp [invoke,callFunc,Tryz.func118,h2',h3']
 refine Cz8 S5 (d:=5) (g:=g) (vs:=us++vs) (R:=R) rfl (by decide) rfl ?_ hcall (fun v w2 hr a6 S6=>?_) (fun ch w2 hr=>?_) (fun w2 hr=>?_)
 ·have:=fun (o:Oper) (ho:o.op=Op.call { callee:=Callee.value (Operand.tmp 4),args:=#[],argTypes:=#[] })=>Ba3 (P:=Tryz.prog) (a:=a5) (w:=w1) (o:=o) ho (by simp [S5.eval,upd]) hg (us:=us) (cvs:=vs)
  simpa using this _ rfl
 ·obtain ⟨c1,c3⟩:=hR _ _ hr
  have l1:w.heap.size<w2.heap.size:=(Array.getElem?_eq_some_iff.1 c1).1
  refine wp_seq (wp_region_list ?_)
  have H:=fun (o:Oper) (ho:o.op=Op.store 26 (.tmp 2) (.const (.int .i64 0)))=>Al3 (P:=Tryz.prog) (a:=a6) (w:=w2) (v:=.int .i64 0) (b:=w.heap.size) (o:=o)
   yok (t:=26) ho kn26 (by simp [S6.eval,upd]) rfl (by rw [s26];rfl) (by rw [s26];rfl) (by simp [Value.cells,Value.oneCell']) c1
  obtain ⟨_,t2,t3,t4⟩:=H (stO 26 (.tmp 2) (.const (.int .i64 0))) rfl
  refine As6 S6 rfl rfl (H _ rfl).1 fun a9 S9=>?_
  clear H
  generalize w2.setRow w.heap.size (Value.int .i64 0).cells=w4 at t2 t3 t4 ⊢
  refine wp_ret ?_
  show Leaves Tryz.prog Tryz.f74 a9.tmps _ a9.defers .returning w4
  rw [S9.defers]
  refine leaves_cons (by simp) (hinv _ w4) ((Cv9 _ w4).mono ?_)
  rintro e u' w5 ⟨rfl,rfl,rfl⟩
  have r1:=A76 (a:=a9) (w:=w5) (b1:=w.heap.size) (by rw [S9.get 2 (by decide)];simp [upd]) t2
  refine ⟨_,r1,_,_,hr,t3,fun b hb h1=>t4 _ h1,?_⟩
  rcases c3 with h|⟨_,h⟩|⟨_,h⟩<;>cases h
  rfl
 ·obtain ⟨c1,c3⟩:=hR _ _ hr
  have l1:w.heap.size<w2.heap.size:=(Array.getElem?_eq_some_iff.1 c1).1
  show Leaves Tryz.prog Tryz.f74 a5.tmps _ a5.defers (.panicking ch) w2
  rw [S5.defers]
  refine leaves_cons (by simp) (hinv _ w2) ?_
  have e1:a5.tmps.getD 2 undef=.pointer (some ⟨w.heap.size,0,none⟩):=by rw [S5.get 2 (by decide)];simp [upd]
  rcases c3 with h|⟨x,h⟩|⟨s,h⟩
  ·cases h
  ·obtain rfl:ch=[{ v:=.iface 133 (.agg #[.int .i64 x]),recovered:=false }]:=Ending.panicked.inj h
   refine (C89 _ x [] w2 c1).mono ?_
   rintro e u' w5 ⟨rfl,rfl,g1,g2,g4⟩
   have r1:=A76 (a:=a5) (w:=w5) e1 g2
   exact ⟨_,r1,_,_,hr,g1,g4,rfl⟩
  ·obtain rfl:ch=[{ v:=.iface 135 (.agg #[.string s]),recovered:=false }]:=Ending.panicked.inj h
   refine (Cv8 _ s [] w2 c1).mono ?_
   rintro e u' w5 ⟨rfl,rfl,g1,g2,g4⟩
   have r1:=A76 (a:=a5) (w:=w5) e1 g2
   exact ⟨_,r1,_,_,hr,g1,g4,rfl⟩
 ·obtain ⟨_,c3⟩:=hR _ _ hr
  rcases c3 with h|⟨_,h⟩|⟨_,h⟩<;>cases h
variable {Gl:World->Prop}
inductive AttR:Res->Int->Prop
 |ok:AttR (.ret (.tup [])) 0
 |row (x:Int):AttR (.pan (.iface 133 (.agg #[.int .i64 x]))) 5
 |text (s:ByteArray):AttR (.pan (.iface 135 (.agg #[.string s]))) 4
theorem Da0 (w:World):(Ci2 w).heap.size=w.heap.size+1:=by simp [Ci2,World.size_alloc]
theorem Be7 (w:World) {b:Nat} (h:b<w.heap.size):(Ci2 w).heap[b]?=w.heap[b]?:=by
 unfold Ci2
 exact Ab7 _ _ h
theorem Br (w:World):Same w (Ci2 w):=Ai5 _ _
theorem Dl4 (w:World):(Ci2 w).heap[w.heap.size]?=some (.cells #[.int .i64 0] 26 (0,0)):=World.alloc_heap_new w _
theorem Da1 {vis:Nat->Nat} {w:World} (h:∀ b,w.heap.size<=b->vis b=0):KeepV vis w (Ci2 w):=
 ⟨fun b i hi=>World.cell?_of_block (Be7 w (by
  rcases Nat.lt_or_ge b w.heap.size with hb|hb
  ·exact hb
  ·rw [h b hb] at hi;omega)),fun b hb es c he=>by rw [Be7 w (Array.getElem?_eq_some_iff.1 he).1];exact he⟩
theorem Ci1 {base:Nat} {vis:Nat->Nat} {w:World} (e:Int):Br7 base vis w (I e) (.int .i64 e):=Rep.v _ rfl
theorem An {g:FuncId} {fst caps:List T} {r:Res} {ev:Int} {pre post:Env} {yd:Yd} (hpre:A53 pre=true) (hpost:A55 pre post=true) (h:Does Tryz.prog Y Gl yd g (fst++caps) pre r post) (ha:AttR r ev):Does Tryz.prog Y Gl yd 74 [.fn g fst caps] pre (.ret (I ev)) post:=by
 obtain ⟨p0,p1,p2⟩:=Au7 hpre
 obtain ⟨o1,o2,o3⟩:=Au8 hpost
 refine ⟨⟨_,Tryz.func74,name74,by kernel_rfl⟩,fun J G w vs hst hgl hyl hfr hH hJ hmem hargs=>?_⟩
 simp only [Ab0,Ab3] at hargs
 obtain ⟨v,vs1,hvs,⟨us,cvs,rfl,hu,hc⟩,rfl⟩:=hargs
 obtain rfl:vs=#[.func (.func g) us cvs]:=by rw [<-Array.toArray_toList (xs:=vs),hvs]
 have hkv:=Da1 (w:=w) hfr
 have hext:Ext (fun _=>False) G G w (Ci2 w):=⟨fun _=>Nat.le_refl _,hkv,fun b hb=>hb.elim⟩
 have hrel:Ab0 G (Ci2 w) (fun _=>False) (fst++caps) (us++cvs).toList:=by
  rw [Array.toList_append]
  exact (Ab0.mono hext (fun _ _=>rfl) hu).app (Ab0.mono hext (fun _ _=>rfl) hc)
 have hbk:∀ id,pre.get 2 id≠.any->G.bk id<w.heap.size:=fun id hid=>(hmem.box id hid).2.1
 have hJ1:=hst.1 _ _ _ _ _ hJ (fun b hb=>Be7 w (hH b hb)) hkv (Br w)
 have hmem1:Mem Y (fun _=>False) pre (Ci2 w) G:=Mem.keep (Ap9 hpre) p1 (fun id hid=>Be7 w (hbk id hid)) hkv (Br w) hmem
 have hsz:=Da0 w
 have hused:∀ id,Env.get (Af8 post pre) 2 id≠.any->pre.get 2 id≠.any:=fun id hid=>by
  rw [Ak0] at hid
  split at hid
  ·rename_i hk
   have:=o2 id hk
   intro hh
   rw [hh] at this
   unfold Ax8 at this
   split at this<;>first|(rename_i hx;cases hx;done)|cases this
  ·exact hid
 have htok:∀ k,Env.get (Af8 post pre) 1 k=.any:=fun k=>by
  rw [Ak0,o1 k,if_neg (by decide)];exact p1 k
 have hobj:∀ id,Env.get (Af8 post pre) 2 id≠.any->At1 (Env.get (Af8 post pre) 2 id)=true:=fun id hid=>by
  rw [Ak0] at hid ⊢
  split
  ·rename_i hk
   have:=o2 id hk
   unfold Ax8 at this
   split at this<;>first|(rename_i hx _;rw [hx];rfl)|(rename_i hx;rw [hx];rfl)|(cases this)
  ·rename_i hk
   rw [if_neg hk] at hid
   exact Ap9 hpre id hid
 have hcall:=h.2 J G (Ci2 w) (us++cvs) hst hgl hyl (fun b hb=>hfr b (by omega)) (fun b hb=>by have:=hH b hb;omega) hJ1 hmem1 hrel
 refine (B39 g h.1 us cvs w _ hcall fun en w' ⟨h1,h2,h3,h4,h5⟩=>⟨?_,?_⟩).mono ?_
 ·rw [h3 _ (by omega) (fun hh=>by have:=hH _ hh;omega) (fun id hid hh=>by have:=hbk id hid;omega)];exact Dl4 w
 ·obtain ⟨G',_,_,_,_,_,_,_,hr⟩:=h5
  cases ha with
  |ok=>
   obtain ⟨v,rfl,vs,rfl,hr⟩:=hr
   obtain rfl:vs=#[]:=by
    have:=hr.1
    exact Array.eq_empty_of_size_eq_zero (by simpa using this.symm)
   exact .inl rfl
  |row x=>exact .inr (.inl ⟨x,hr⟩)
  |text s=>exact .inr (.inr ⟨s,hr⟩)
 ·rintro en w2 ⟨en0,w',⟨h1,h2,h3,h4,h5⟩,hs,hh,rfl⟩
  have s1:=h1.size
  have s2:=hs.size
  obtain ⟨G',g1,g2,g3,g4,g5,g6,g7,hr⟩:=h5
  have hkeep2:∀ vis:Nat->Nat,(∀ b,w'.heap.size<=b->vis b=0)->vis w.heap.size=0->KeepV vis w' w2:=fun vis v1 v2=>by
   have hv:∀ b,0<vis b->w2.heap[b]?=w'.heap[b]?:=fun b hb=>hh b (by
    rcases Nat.lt_or_ge b w'.heap.size with h|h
    ·exact h
    ·rw [v1 b h] at hb;omega) (fun h=>by rw [h,v2] at hb;omega)
   exact ⟨fun b i hi=>World.cell?_of_block (hv b (by omega)),fun b hb es c he=>by rw [hv b hb];exact he⟩
  have hH':∀ b,G'.H b->w2.heap[b]?=w'.heap[b]?:=fun b hb=>by
   refine hh b (g5 b hb) (fun he=>?_)
   have:=hH b ((g4 b (by omega)).1 hb);omega
  have v1:G'.vis w.heap.size=0:=by rw [g2 _ (by omega)];exact hfr _ (by omega)
  refine ⟨((Br w).trans h1).trans hs,(hkv.trans h2).trans (hkeep2 G.vis (fun b hb=>hfr b (by omega)) (hfr _ (by omega))),fun b hb hn hno=>?_,fun id k hl hk=>?_,G',g1,fun b hb=>g2 b (by omega),fun b hb=>g3 b (by omega),
   fun b hb=>g4 b (by omega),fun b hb=>by have:=g5 b hb;omega,hst.1 _ _ _ _ _ g6 hH' (hkeep2 G'.vis g3 v1) hs,Mem.keep hobj htok (fun id hid=>?_) (hkeep2 G'.vis g3 v1) hs g7,?_⟩
  ·rw [hh b (by omega) (by omega),h3 b (by omega) hn hno,Be7 w hb]
  ·have hid:pre.get 2 id≠.any:=by rw [hl];exact Ad4
   have hlt:=hbk id hid
   rw [World.cell?_of_block (show w2.heap[G.bk id]?=w'.heap[G.bk id]? from hh _ (by omega) (by omega)),h4 id k hl hk,World.cell?_of_block (show (Ci2 w).heap[G.bk id]?=w.heap[G.bk id]? from Be7 w hlt)]
  ·have hlt:=hbk id (hused id hid)
   rw [g1]
   exact hh _ (by omega) (by omega)
  ·cases ha with
   |ok=>
    obtain ⟨v,rfl,_⟩:=hr
    exact ⟨_,rfl,Ci1 0⟩
   |row x=>
    have hr:en0=_:=hr
    subst hr
    exact ⟨_,rfl,Ci1 5⟩
   |text s=>
    have hr:en0=_:=hr
    subst hr
    exact ⟨_,rfl,Ci1 4⟩
theorem B93 {Gl} (S:SP Gl) (l:List Int) (h:isCol l=true):CO Gl 73 [L eI l] (.ret (B true)):=by
 have h1:=Bv4 S l
 rw [h] at h1
 exact h1
def Bg5 (r l:List Int):Env:=[(2,FAR,live),(FAR+3,0,L eI r),(2,FAR+1,live),(FAR+4,0,L eI l),(2,FAR+2,live),(FAR+5,0,.d (.c (.v (.slice none 0 0))))]
def B28 (r l:List Int):Env:=[(FAR+5,0,L Ay (Ag6 r l r.length))]
theorem Bo2 {l:List Int}:isCol l=true↔(1<=l.length/\l.length<=6)/\l.all num=true:=by
 unfold isCol
 rw [Bool.and_eq_true,Aj4]
 constructor
 ·intro h;exact ⟨by have:=h.2;omega,h.1⟩
 ·intro h;exact ⟨h.2,by have:=h.1;omega⟩
theorem call75 {Gl} (S:SP Gl) (r l:List Int) (hr:r.all num=true) (hl:l.length=r.length) (hm:r.length<=1000) (hok:errOK r l=true):Does Tryz.prog Y Gl yd0 75 [.addr FAR 0,.addr (FAR+1) 0,.addr (FAR+2) 0] (Bg5 r l) (.ret (.tup [])) (B28 r l):=by
 refine Co2 S (.r (.ret (L Ay (Ag6 r l r.length))) .nil) Tryz.func75 (by kernel_rfl) (CO Gl 76 [L eI r,L eI l] (.ret (L Ay (Ag6 r l r.length)))/\True/\(sR Ay (Ag6 r l r.length))/\(sR eI r)/\sR eI l) (by kernel_rfl) ?_
 simp only [stdS,imp_self,implies_true,and_true]
 exact ⟨Dj2 S r l hr hl hm hok,trivial⟩
theorem Dy2 {Gl} (S:SP Gl) (r l:List Int) (hr:r.all num=true) (hl:l.length=r.length) (hm:r.length<=1000) (hok:errOK r l=false):Does Tryz.prog Y Gl yd0 75 [.addr FAR 0,.addr (FAR+1) 0,.addr (FAR+2) 0] (Bg5 r l) (.pan (.iface 133 (.agg #[.int .i64 (errUp r l:Nat)]))) []:=by
 refine Cu6 S (let A0:=(Res.pan (Value.iface (133:TypeId) (Value.agg #[Value.int IntKind.i64 (↑(errUp r l):Int)])));let A1:=(Value.agg (Array.mk [Value.int IntKind.i64 (↑(errUp r l):Int)]));((.r A0 .nil),(CO Gl 76 [L eI r,L eI l] A0/\Value.iface (133:Nat) A1=Value.iface (133:Nat) A1/\(sR eI r)/\(sR eI l)/\Value.slice none 0 0=Value.slice none 0 0))) Tryz.func75 (by kernel_rfl) (by kernel_rfl) ?_
 simp only [stdS,imp_self,implies_true,and_true]
 exact ⟨C8 S r l hr hl hm hok,trivial⟩
theorem att74 {Gl} (S:SP Gl) (r l:List Int) (hr:r.all num=true) (hl:l.length=r.length) (hm:r.length<=1000) (hok:errOK r l=true):Does Tryz.prog Y Gl yd0 74 [.fn 75 [] [.addr FAR 0,.addr (FAR+1) 0,.addr (FAR+2) 0]] (Bg5 r l) (.ret (I 0)) (B28 r l):=
 An (fst:=[]) rfl rfl (call75 S r l hr hl hm hok) .ok
theorem att74p {Gl} (S:SP Gl) (r l:List Int) (hr:r.all num=true) (hl:l.length=r.length) (hm:r.length<=1000) (hok:errOK r l=false):Does Tryz.prog Y Gl yd0 74 [.fn 75 [] [.addr FAR 0,.addr (FAR+1) 0,.addr (FAR+2) 0]] (Bg5 r l) (.ret (I 5)) []:=
 An (fst:=[]) rfl rfl (Dy2 S r l hr hl hm hok) (.row _)
theorem Co6 {Gl} (S:SP Gl) (r l:List Int) (hr:isCol r=true) (hl:isCol l=true) (hn:l.length=r.length) (hok:errOK r l=true):CO Gl 22 [L eI r,L eI l] (.ret (.tup [.c (.l Ay (Bs8 r l)),.c (Ci 0)])):=by
 refine Ac4 S (let A0:=[T.fn (75:FuncId) [] [T.addr FAR (0:Nat),T.addr (FAR+1) (0:Nat),T.addr (FAR+2) (0:Nat)]];let A1:=(bif false then true else (r.length:Int) != (l.length:Int));((.r (.ret (B true)) (.sure 12 (.sure 13 (.r (.ret (B true)) (.sure 14 (.sure 17 (.sure 18 (.sure 19 (.sure 20 (.sure 21 (.br .nil (.w [(nat_lit 100000,nat_lit 2),(nat_lit 100001,nat_lit 3),(nat_lit 100002,nat_lit 6)] A0 (Bg5 r l) (.ret (I 0)) (B28 r l) (.ff .nil))))))))))))),(CO Gl 73 [L eI r] (.ret (B true))/\true=true/\true=true/\CO Gl 73 [L eI l] (.ret (B true))/\true=true/\true=true/\true=true/\(r.length<=maxLen->true=true/\true=true/\(l.length<=maxLen->true=true/\(A1=true->List.length (Bs8 r l)=(0:Nat)/\(2:Int)=0)/\(A1=false->(75:Nat)=(75:Nat)/\(sR eI r)/\(sR eI l)/\Value.slice none 0 0=Value.slice none 0 0/\Does Tryz.prog Y Gl yd0 (74:FuncId) A0 (Bg5 r l) (.ret (I 0)) (B28 r l)/\false=false/\(sQ Ay (Ag6 r l r.length) (Bs8 r l))/\(0:Int)=0)))))) Tryz.func22 (by kernel_rfl) (by kernel_rfl) ?_
 obtain ⟨c1,c2⟩:=Bo2.1 hr
 simp only [stdS,imp_self,implies_true,and_true,cond_false]
 refine ⟨B93 S r hr,B93 S l hl,fun hm hm2=>⟨fun h=>?_,fun h=>⟨att74 S r l c2 hn (by omega) hok,?_⟩⟩⟩
 ·rw [hn] at h
  simp at h
 ·unfold Bs8
  rw [hok]
  exact ⟨Aa8 rfl,trivial⟩
theorem C73 {Gl} (S:SP Gl) (r l:List Int) (hr:isCol r=true) (hl:isCol l=true) (hn:l.length=r.length) (hok:errOK r l=false):CO Gl 22 [L eI r,L eI l] (.ret (.tup [.c (.l Ay []),.c (Ci 5)])):=by
 refine Ac4 S (let A0:=[T.fn (75:FuncId) [] [T.addr FAR (0:Nat),T.addr (FAR+1) (0:Nat),T.addr (FAR+2) (0:Nat)]];let A1:=(bif false then true else (r.length:Int) != (l.length:Int));((.r (.ret (B true)) (.sure 12 (.sure 13 (.r (.ret (B true)) (.sure 14 (.sure 17 (.sure 18 (.sure 19 (.sure 20 (.sure 21 (.br .nil (.w [(nat_lit 100000,nat_lit 2),(nat_lit 100001,nat_lit 3),(nat_lit 100002,nat_lit 6)] A0 (Bg5 r l) (.ret (I 5)) [] (.tt .nil))))))))))))),(CO Gl 73 [L eI r] (.ret (B true))/\true=true/\true=true/\CO Gl 73 [L eI l] (.ret (B true))/\true=true/\true=true/\true=true/\(r.length<=maxLen->true=true/\true=true/\(l.length<=maxLen->true=true/\(A1=true->(0:Nat)=(0:Nat)/\(2:Int)=5)/\(A1=false->(75:Nat)=(75:Nat)/\(sR eI r)/\(sR eI l)/\Value.slice none 0 0=Value.slice none 0 0/\Does Tryz.prog Y Gl yd0 (74:FuncId) A0 (Bg5 r l) (.ret (I 5)) []/\true=true/\(0:Nat)=(0:Nat)/\(5:Int)=5)))))) Tryz.func22 (by kernel_rfl) (by kernel_rfl) ?_
 obtain ⟨c1,c2⟩:=Bo2.1 hr
 simp only [stdS,imp_self,implies_true,and_true,cond_false]
 refine ⟨B93 S r hr,B93 S l hl,fun hm hm2=>⟨fun h=>?_,fun h=>⟨att74p S r l c2 hn (by omega) hok,trivial⟩⟩⟩
 rw [hn] at h
 simp at h
theorem C72 {Gl} (S:SP Gl) (r l:List Int) (hr:isCol r=true) (hl:isCol l=true) (hn:l.length=r.length):CO Gl 22 [L eI r,L eI l] (.ret (.tup [.c (.l Ay (Bs8 r l)),.c (Ci (bif errOK r l then 0 else 5))])):=by
 cases hok:errOK r l with
 |true=>exact Co6 S r l hr hl hn hok
 |false=>
  have:=C73 S r l hr hl hn hok
  unfold Bs8
  rw [hok]
  exact this
theorem ag_eq (s:Sheet) (r:List Int) (k:Nat):(((bif errOK r (nth s.cols k) then (0:Int) else 5) != 0)||decide (nth s.errs k<((Bs8 r (nth s.cols k)).length:Int)))=!At3 s r k:=by
 rw [<-Cw]
 cases errOK r (nth s.cols k)<;>rfl
theorem Cm3 (s:Sheet) (r:Nat) {i:Nat} (h:i<s.cols.length):nth (Aa5 s r) i=Dj9 s i r:=Ae6 h
theorem Ck (s:Sheet) (r:Nat):∀ k,k<=s.cols.length->sameR s r k=((Aa5 s r).take k).all fun x=>x==Dj9 s 0 r
 |0,_=>by rw [List.take_zero];rfl
 |k+1,h=>by
  have hl:=Ag9 s r
  unfold sameR
  rw [Ck s r k (by omega),Af5 (by omega),List.all_append,Cm3 s r (by omega)]
  simp
theorem Cv1 (s:Sheet) (r:Nat) (h:0<s.cols.length):(!(Aa5 s r).all (fun x=>!(x != nth (Aa5 s r) 0)))=!sameR s r s.cols.length:=by
 have hl:=Ag9 s r
 rw [Ck s r _ (Nat.le_refl _),List.take_of_length_le (by omega),Cm3 s r h]
 congr 1
 congr 1
 funext x
 unfold bne
 rw [Bool.not_not]
theorem Dl9 {Gl} (S:SP Gl) (s:Sheet) (r:List Int) (hs:s.ok=true) (hr:isCol r=true) (hl:r.length=rows s):CO Gl 28 [Aa6 s,L eI r] (.ret (.tup [.c (.v (.bool (agrees s r))),.c (Ci 0)])):=by
 refine Ac4 S (let A0:=fun (k0:Nat)=>((bif errOK r (nth s.1 k0) then (0:Int) else (5:Int)) != (0:Int));let A1:=fun (k0:Nat)=>(eqB (A0 k0) false=true->eqB (A0 k0) false=true);let A2:=fun (k0:Nat)=>(bif (bif errOK r (nth s.1 k0) then (0:Int) else (5:Int)) != (0:Int) then true else decide (nth s.2 k0<(↑(List.length (Bs8 r (nth s.1 k0))):Int)));let A3:=fun (k0:Nat)=>[D.c (C.l Ay (Bs8 r (nth (Sheet.cols s) k0))),D.c (Ci (bif errOK r (nth (Sheet.cols s) k0) then (0:Int) else (5:Int)))];let A4:=(bif false then true else (r.length:Int) != (↑(List.length (nth s.1 (Int.toNat (0:Int)))):Int));let A5:=(s.1.length:Int);((.r (.ret (B true)) (.sure 14 (.sure 15 (.r (.ret (B true)) (.sure 16 (.sure 19 (.sure 20 (.sure 21 (.sure 22 (.sure 23 (.sure 24 (.sure 25 (.sure 26 (.br .nil (.loop (agUp s r) (fun k=>v 31 (I k)::v 30 (I (List.length (Sheet.cols s):Int))::v 29 (T.d (D.c (C.l Ac2 (Sheet.cols s))))::v 2 (ad 2)::v 1 (L eI r)::bx 2 (Ac0 s)) fun k0=>.br (.r (.ret (.tup (A3 k0))) (.br .nil .nil)) .nil))))))))))))))),(CO Gl 81 [Aa6 s] (.ret (B true))/\true=true/\true=true/\CO Gl 73 [L eI r] (.ret (B true))/\true=true/\true=true/\true=true/\(r.length<=maxLen->true=true/\true=true/\true=true/\((0:Int)<=0/\0<A5)/\true=true/\true=true/\(List.length (nth s.1 (Int.toNat (0:Int)))<=maxLen->true=true/\(A4=true->false=agrees s r/\(2:Int)=0)/\(A4=false->s.1.length<=maxLen->(0=(↑(0:Nat):Int)/\A5=A5/\(sR Ac2 s.1)/\(sR eI r)/\(sR Ac2 s.1)/\sR eI s.2)/\∀ (k0:Nat),k0<=agUp s r->(decide ((k0:Int)<(s.1.length:Int))=true->(0<=(k0:Int)/\(k0:Int)<A5)/\CO Gl 22 [L eI r,L eI (nth (Sheet.cols s) k0)] (.ret (.tup (A3 k0)))/\(A1 k0)/\((eqB (A0 k0) false=true->List.length (Bs8 r (nth s.1 k0))<=maxLen)->(A1 k0)/\(A1 k0)/\(A1 k0)/\(eqB (A0 k0) false=true->0<=(k0:Int)/\(k0:Int)<(s.2.length:Int))/\(A1 k0)/\(A1 k0)/\(A1 k0)/\((A0 k0)=false->eqB (A0 k0) false=true)/\((A2 k0)=true->false=agrees s r/\(0:Int)=0)/\((A2 k0)=false->iR ((k0:Int)+1)/\k0<agUp s r/\(k0:Int)+1=(↑(k0+1):Int)/\A5=A5/\(sR Ac2 s.1)/\(sR eI r)/\(sR Ac2 s.1)/\sR eI s.2)))/\(decide ((k0:Int)<(s.1.length:Int))=false->true=agrees s r/\(0:Int)=0))))))) Tryz.func28 (by kernel_rfl) (by kernel_rfl) ?_
 obtain ⟨l1,l2,l3,l4⟩:=Af4 hs
 have hrs:=(Ac3 (l4 0 (by omega))).2.2
 have hl0:(nth s.cols (Int.toNat 0)).length=rows s:=rfl
 simp only [stdS,imp_self,implies_true,and_true,cond_false,ag_eq,hl0]
 refine ⟨Ak S s hs,B93 S r hr,fun hm=>⟨by omega,fun hm2=>⟨fun h=>?_,fun h hm3 k hk=>⟨fun hd=>?_,fun hd=>?_⟩⟩⟩⟩
 ·rw [hl] at h
  simp at h
 ·have hlt:k<s.cols.length:=by have h5:(k:Int)<(s.cols.length:Int):=of_decide_eq_true hd;omega
  obtain ⟨c1,c2,c3,c4,c5,c6⟩:=Ac3 (l4 k hlt)
  have hck:isCol (nth s.cols k)=true:=Bo2.2 ⟨by have:(nth s.cols k).length=rows s:=c1;omega,c2⟩
  refine ⟨⟨by omega,Int.ofNat_lt.2 hlt⟩,C72 S r _ hr hck (by rw [hl];exact c1),fun _=>⟨fun _=>⟨by omega,by rw [l3];exact Int.ofNat_lt.2 hlt⟩,fun hb=>⟨?_,trivial⟩,fun hb=>⟨(Aa1 _).2 (by omega),?_,by omega,trivial⟩⟩⟩
  ·exact (An1 (p:=At3 s r) (k:=k) (by rw [List.length_range];exact hlt) (by rw [Ab4 hlt];simpa using hb)).symm
  ·exact Ap hk (by rw [List.length_range];exact hlt) (by rw [Ab4 hlt];simpa using hb)
 ·have hge:¬ (k:Int)<(s.cols.length:Int):=of_decide_eq_false hd
  exact ⟨(Ai3 (p:=At3 s r) (by rw [List.length_range];unfold agUp at hk;omega)).symm,trivial⟩
theorem C77 {Gl} (S:SP Gl) (n:Int) (l:List Int) (h:0<l.length):CO Gl 105 [I n,.d (.rd [.l eI l])] (.ret (B (n != nth l 0))):=by
 refine Ag5 S (.nil) Tryz.func105 (by kernel_rfl) (((0:Int)<=0/\0<(l.length:Int))/\(n != nth l (Int.toNat (0:Int)))=(n != nth l 0)) (by kernel_rfl) ?_
 exact ⟨by omega,rfl⟩
theorem Dw {Gl} (S:SP Gl) (l:List Int) (h:0<l.length):CO Gl 131 [L eI l,.fn 105 [] [.d (.rd [.l eI l])]] (.ret (I (A78 (fun n=>n != nth l 0) l))):=by
 refine Ac4 S (let A0:=(fun n=>n != nth l 0);((.loop (Ay3 A0 l) (fun k=>[v 8 (I k),v 7 (I l.length),v 0 (L eI l),v 1 (T.fn (105:FuncId) [] [T.d (D.rd [C.l eI l])])]) fun k0=>.br (.r (.ret (B (nth l k0 != nth l 0))) (.br .nil .nil)) .nil),(l.length<=maxLen->(0=(↑(0:Nat):Int)/\(l.length:Int)=(l.length:Int)/\(sR eI l)/\(105:Nat)=(105:Nat)/\sR eI l)/\∀ (k0:Nat),k0<=Ay3 A0 l->(decide ((k0:Int)<(l.length:Int))=true->(0<=(k0:Int)/\(k0:Int)<(l.length:Int))/\CO Gl 105 [I (nth l k0),T.d (D.rd [C.l eI l])] (.ret (B (nth l k0 != nth l 0)))/\((nth l k0 != nth l 0)=true->(k0:Int)=A78 A0 l)/\((nth l k0 != nth l 0)=false->iR ((k0:Int)+1)/\k0<Ay3 A0 l/\(k0:Int)+1=(↑(k0+1):Int)/\(l.length:Int)=(l.length:Int)/\(sR eI l)/\(105:Nat)=(105:Nat)/\sR eI l))/\(decide ((k0:Int)<(l.length:Int))=false->(-1:Int)=A78 A0 l)))) Tryz.func131 (by kernel_rfl) (by kernel_rfl) ?_
 simp only [stdS,imp_self,implies_true,and_true,decide_eq_true_eq,decide_eq_false_iff_not,Ae3,Aa1]
 exact Bi7 (fun n=>n != nth l 0) l _ fun k _=>C77 S (nth l k) l h
theorem Dw0 {Gl} (S:SP Gl) (l:List Int) (h:0<l.length):CO Gl 104 [L eI l,.fn 105 [] [.d (.rd [.l eI l])]] (.ret (B (!l.all (fun x=>!(x != nth l 0))))):=by
 refine Ag5 S (.r (.ret (I (A78 (fun n=>n != nth l 0) l))) .nil) Tryz.func104 (by kernel_rfl) (CO Gl 131 [L eI l,T.fn (105:FuncId) [] [T.d (D.rd [C.l eI l])]] (.ret (I (A78 (fun n=>n != nth l 0) l)))/\decide ((0:Int)<=A78 (fun n=>n != nth l 0) l)=!List.all l fun x=>!x != nth l 0) (by kernel_rfl) ?_
 exact ⟨Dw S l h,Ba0 (fun n=>n != nth l 0) l⟩
theorem Dy9 {Gl} (S:SP Gl) (s:Sheet) (hs:s.ok=true):CO Gl 53 [Aa6 s] (.ret (.tup [.c (.l eI (Da4 s)),.c (Ci 0)])):=by
 refine Ac4 S (let A0:=fun (k0:Nat)=>(Aa5 s k0);let A1:=(↑(rows s):Int);((.r (.ret (B true)) (.ff (.loop (rows s) (fun k=>v 15 (I k)::v 14 (I A1)::v 1 (ad 1)::tk 100 3::v 4 (Lt 100 eI (Ai2 s k))::bx 1 (Ac0 s)) fun k0=>.br (.r (.ret (L eI (A0 k0))) (.r (.ret (B !List.all (A0 k0) fun x=>!x != nth (A0 k0) (0:Nat))) (.br .nil .nil))) .nil))),(CO Gl 81 [Aa6 s] (.ret (B true))/\false=false/\((0:Int)<=0/\0<(s.1.length:Int))/\(List.length (nth s.1 (Int.toNat (0:Int)))<=maxLen->(0=(↑(0:Nat):Int)/\(↑(List.length (nth s.1 (Int.toNat (0:Int)))):Int)=A1/\(0:Nat)=(0:Nat)/\(sR Ac2 s.1)/\sR eI s.2)/\∀ (k0:Nat),k0<=rows s->(decide ((k0:Int)<(↑(rows s):Int))=true->CO Gl 103 [Aa6 s,I k0] (.ret (L eI (A0 k0)))/\CO Gl 104 [L eI (A0 k0),T.fn (105:FuncId) [] [T.d (D.rd [C.l eI (A0 k0)])]] (.ret (B !List.all (A0 k0) fun x=>!x != nth (A0 k0) (0:Nat)))/\((!List.all (A0 k0) fun x=>!x != nth (A0 k0) (0:Nat))=true->(List.length (Ai2 s k0)+1)*8<=140737488355328/\List.length (Ai2 s k0)+1<=140737488355328/\iR ((k0:Int)+1)/\k0<rows s/\(k0:Int)+1=(↑(k0+1):Int)/\A1=A1/\(SEq (List.length (Ai2 s k0)+1) (Aj0 (List.length (Ai2 s k0)) (fun i=>eI (nth (Ai2 s k0) i)) fun i=>List.getD [List.map C.dem [C.v (Value.int IntKind.i64 (k0:Int))]] i []) (List.length (Ai2 s (k0+1))) fun i=>eI (nth (Ai2 s (k0+1)) i))/\(sR Ac2 s.1)/\sR eI s.2)/\((!List.all (A0 k0) fun x=>!x != nth (A0 k0) (0:Nat))=false->iR ((k0:Int)+1)/\k0<rows s/\(k0:Int)+1=(↑(k0+1):Int)/\A1=A1/\(sQ eI (Ai2 s k0) (Ai2 s (k0+1)))/\(sR Ac2 s.1)/\sR eI s.2))/\(decide ((k0:Int)<(↑(rows s):Int))=false->(sQ eI (Ai2 s k0) (Da4 s))/\(0:Int)=0))))) Tryz.func53 (by kernel_rfl) (by kernel_rfl) ?_
 obtain ⟨l1,l2,l3,l4⟩:=Af4 hs
 have hrs:=(Ac3 (l4 0 (by omega))).2.2
 have hl0:(nth s.cols (Int.toNat 0)).length=rows s:=rfl
 have hcl:∀ i,i<s.cols.length->(nth s.cols i).length=rows s:=fun i hi=>(Ac3 (l4 i hi)).1
 have hnl:=Ag9 s
 have hdf:=fun r=>Cv1 s r (by omega)
 simp only [stdS,imp_self,implies_true,and_true,hdf]
 refine ⟨Ak S s hs,by omega,fun hm=>⟨⟨rfl,trivial⟩,fun k hk=>⟨fun hd=>?_,fun hd=>?_⟩⟩⟩
 ·have hlt:k<rows s:=by have:=of_decide_eq_true hd;omega
  have hal:=Br2 s k
  have ha:Ai2 s (k+1)=Ai2 s k++bif sameR s k s.cols.length then [] else [(k:Int)]:=rfl
  refine ⟨A38 S s k (fun i hi=>by rw [hcl i hi];exact hlt) (by omega),?_,fun hf=>⟨by omega,by omega,(Aa1 _).2 (by omega),hlt,by omega,Ac5 (f:=eI) ?_ rfl,trivial⟩,fun ht=>⟨(Aa1 _).2 (by omega),hlt,by omega,?_,trivial⟩⟩
  ·have:=Dw0 S (Aa5 s k) (by rw [hnl];omega)
   rw [hdf k] at this
   exact this
  ·rw [ha]
   cases hb:sameR s k s.cols.length
   ·rfl
   ·rw [hb] at hf;cases hf
  ·rw [ha]
   cases hb:sameR s k s.cols.length
   ·rw [hb] at ht;cases ht
   ·exact Aa8 (List.append_nil _)
 ·have hke:k=rows s:=by have:=of_decide_eq_false hd;omega
  subst hke
  exact ⟨Aa8 rfl,trivial⟩
end Go.Vc.Hn
namespace Go.Vc
open Go Go.RowKit
section
variable {P:Program} {Gl:World->Prop}
theorem B32 {f:FuncId} {args:List T} {x:D} (hf:Cc8 P f) (h:∀ vis w (vs:Array Value),Gl w->Ab0 (Gh0 vis) w (Lo w.heap.size) args vs.toList->∃ v,An6 vis w (fun _=>False) x v/\Calls P f vs w fun e w'=>e=.returned v/\w'=w):Computes P Gl f args (.ret (.d x)):=by
 refine ⟨hf,fun vis w vs hvis hgl hargs=>?_⟩
 obtain ⟨v,hx,hc⟩:=h vis w vs hgl hargs
 refine hc.mono fun e w' he=>?_
 obtain ⟨rfl,rfl⟩:=he
 exact ⟨.refl _ _,v,vis,rfl,fun _ _=>rfl,hvis,hx⟩
theorem args1 {G:Gh} {w:World} {O:Nat->Prop} {u:Value} {vs:Array Value} (h:Ab0 G w O [.d (.c (.v u))] vs.toList):vs=#[u]:=by
 simp only [Ab0] at h
 obtain ⟨v,us,hv,h1,rfl⟩:=h
 simp only [Ab3,An6] at h1
 cases h1
 apply Array.ext'
 rw [hv]
theorem args2 {G:Gh} {w:World} {O:Nat->Prop} {u u':Value} {vs:Array Value} (h:Ab0 G w O [.d (.c (.v u)),.d (.c (.v u'))] vs.toList):vs=#[u,u']:=by
 simp only [Ab0] at h
 obtain ⟨v,us,hv,h1,v',us',rfl,h2,rfl⟩:=h
 simp only [Ab3,An6] at h1 h2
 cases h1
 cases h2
 apply Array.ext'
 rw [hv]
end
end Go.Vc
namespace Go.Vc.Hn
open Go Go.Proofs Go.Vc Go.RowKit
def bs (l:List UInt8):ByteArray:=⟨l.toArray⟩
theorem As3 (a b:List UInt8):bs a++bs b=bs (a++b):=by
 apply ByteArray.ext
 rw [ByteArray.data_append]
 simp [bs]
theorem Ac (a:List UInt8):(bs a).size=a.length:=by simp [bs,ByteArray.size]
theorem Ax0 (a:List UInt8):(bs a).data.toList=a:=by simp [bs]
def str (l:List UInt8):T:=.d (.c (.v (.string (bs l))))
def eS (l:List UInt8):List C:=[.v (.string (bs l))]
def dec (n:Int):List UInt8:=Lib.decDigits n.toNat
theorem fn133:Cc8 Tryz.prog 133:=⟨Tryz.f133,by kernel_rfl,by kernel_rfl,by kernel_rfl⟩
theorem fn134:Cc8 Tryz.prog 134:=⟨Tryz.f134,by kernel_rfl,by kernel_rfl,by kernel_rfl⟩
def Aa4 (c:UInt8):List UInt8->List (List UInt8)
 | []=>[[]]
 |x::r=>bif x==c then []::Aa4 c r else match Aa4 c r with
  | []=>[[x]]
  |p::q=>(x::p)::q
theorem At7 (c:UInt8):∀ l,Aa4 c l≠[]
 | []=>by simp [Aa4]
 |x::r=>by
  unfold Aa4
  cases x==c with
  |true=>simp
  |false=>
   simp only [cond_false]
   split<;>simp
theorem A32 (c:UInt8):∀ l,(Aa4 c l).length=l.count c+1
 | []=>rfl
 |x::r=>by
  have ih:=A32 c r
  have hne:=At7 c r
  unfold Aa4
  rw [List.count_cons]
  cases hx:x==c with
  |true=>simp [ih]
  |false=>
   simp only [cond_false]
   cases hs:Aa4 c r with
   |nil=>exact absurd hs hne
   |cons p q=>rw [hs] at ih;simpa using ih
theorem Bb8 (c:UInt8):∀ (a:List UInt8) (b:List UInt8),c ∉ a->Aa4 c (a++c::b)=a::Aa4 c b
 | [],b,_=>by simp [Aa4]
 |x::a,b,h=>by
  have hx:(x==c)=false:=by rw [beq_eq_false_iff_ne];intro hh;exact h (by rw [hh];exact List.mem_cons_self)
  have ih:=Bb8 c a b (fun hh=>h (List.mem_cons_of_mem _ hh))
  rw [List.cons_append,Aa4,hx,cond_false,ih]
theorem Bt8 (c:UInt8):∀ s:List UInt8,Lib.splitK [c] 0 (s.count c) s=Aa4 c s
 | []=>rfl
 |b::l=>by
  have ih:=Bt8 c l
  unfold Aa4
  cases hb:b==c with
  |true=>
   obtain rfl:=beq_iff_eq.1 hb
   have hix:Lib.index (b::l) [b]=0:=by rw [Lib.index];simp [List.isPrefixOf]
   rw [List.count_cons_self,Lib.splitK,hix]
   simp only [cond_true]
   rw [<-ih]
   rfl
  |false=>
   have hne:b≠c:=beq_eq_false_iff_ne.1 hb
   have hp:([c]:List UInt8).isPrefixOf (b::l)=false:=by simp [List.isPrefixOf,Ne.symm hne]
   have hix:Lib.index (b::l) [c]=if Lib.index l [c]==-1 then -1 else Lib.index l [c]+1:=by rw [Lib.index,hp];simp
   rw [List.count_cons_of_ne hne,cond_false,<-ih]
   by_cases hm:Lib.index l [c]=-1
   ·have h0:l.count c=0:=by rw [<-Lib.count_one,Lib.count_miss hm]
    rw [h0]
    rfl
   ·have hge:=Lib.index_ge l [c]
    obtain ⟨j,hj⟩:∃ j:Nat,Lib.index l [c]=j:=⟨(Lib.index l [c]).toNat,by omega⟩
    have hcnt:l.count c=Lib.count (l.drop (j+1)) [c]+1:=by
     rw [<-Lib.count_one,Lib.count_hit (by simp) hj]
     simp;omega
    rw [hcnt]
    unfold Lib.splitK
    have e1:(Lib.index l [c]==-1)=false:=by rw [beq_eq_false_iff_ne];exact hm
    have e2:Lib.index (b::l) [c]=((j+1:Nat):Int):=by rw [hix,e1,hj];simp
    have e3:(Lib.index (b::l) [c]==-1)=false:=by rw [e2,beq_eq_false_iff_ne];omega
    rw [e1,e3,e2,hj]
    simp
theorem Cr9 (c:UInt8) (s:List UInt8):Lib.splitB (bs [c]) 0 (Lib.countB (bs s) (bs [c])) (bs s)=(Aa4 c s).map bs:=by
 have h:=Lib.splitB_data (bs [c]) 0 (Lib.countB (bs s) (bs [c])) (bs s)
 have hc:Lib.countB (bs s) (bs [c])=s.count c:=by
  show Lib.count (bs s).data.toList (bs [c]).data.toList=_
  rw [Ax0,Ax0,Lib.count_one]
 rw [hc] at h ⊢
 rw [Ax0,Ax0,Bt8] at h
 rw [<-h,List.map_map]
 have:(bs∘fun x:ByteArray=>x.data.toList)=id:=by funext x;rfl
 rw [this,List.map_id]
theorem Ae0 {Gl:World->Prop} (hG:∀ w,Gl w->∃ m,w.cell? ⟨1,0,none⟩=some (.int .i64 m)) (s:List UInt8) (c:UInt8) (hs:s.length<4294967281):CO Gl 134 [str s,str [c]] (.ret (L eS (Aa4 c s))):=by
 refine ⟨fn134,fun vis w vs hvis hgl hargs=>?_⟩
 rw [args2 hargs]
 obtain ⟨m,hm⟩:=hG w hgl
 have hsp:=Cr9 c s
 have hc:Lib.countB (bs s) (bs [c])+1=(Aa4 c s).length:=by
  rw [A32]
  show Lib.count (bs s).data.toList (bs [c]).data.toList+1=_
  rw [Ax0,Ax0,Lib.count_one]
 have hlen:(Aa4 c s).length<=4294967282:=by
  rw [A32]
  have:=List.count_le_length (a:=c) (l:=s)
  omega
 refine (Tryz.strings_Split (bs s) (bs [c]) m w (by rw [Ac];exact hs) hm (by rw [Ac];simp)).mono fun e w' he=>?_
 obtain ⟨rfl,rfl⟩:=he
 rw [hsp,hc]
 refine ⟨(Below.refl _ _).alloc (Nat.le_refl _) _,_,fun b=>if b=w.heap.size then (Aa4 c s).length else vis b,rfl,fun b hb=>?_,fun b hb=>?_,?_⟩
 ·dsimp only
  rw [if_neg (by omega)]
 ·rw [World.size_alloc] at hb
  dsimp only
  rw [if_neg (by omega)]
  exact hvis b (by omega)
 ·refine .s _ _ _ w.heap.size 0 (Aa4 c s).length 1 (fun i _=>.string (bs (nth (Aa4 c s) i))) (Nat.le_refl _) (by unfold maxLen;omega) (fun i hi=>rfl) (by simp) (fun i j c' hi hj=>?_) (fun i j c' hi hj=>?_)
  ·have hj0:j=0:=by
    have:=(List.getElem?_eq_some_iff.1 hj).1
    have h1:(eS (nth (Aa4 c s) i)).length=1:=rfl
    omega
   subst hj0
   rw [World.cell?_alloc_new]
   simp [Aj3 hi,hi]
  ·have hj0:j=0:=by
    have:=(List.getElem?_eq_some_iff.1 hj).1
    have h1:(eS (nth (Aa4 c s) i)).length=1:=rfl
    omega
   subst hj0
   obtain rfl:C.v (.string (bs (nth (Aa4 c s) i)))=c':=Option.some.inj hj
   exact .v _ rfl
open Go Go.Proofs Go.Vc
def sm (n:Int):Prop:=0<=n/\n<1000
def si (n:Int):Prop:=-1000<n/\n<1000
theorem Aw8 {n:Int} (h:sm n):1<=(dec n).length/\(dec n).length<=3:=by
 obtain ⟨h0,h1⟩:=h
 unfold dec
 have h2:n.toNat<1000:=by omega
 by_cases h:n.toNat<10
 ·rw [Lib.decDigits,dif_pos h];simp
 ·by_cases h3:n.toNat<100
  ·rw [Lib.decDigits,dif_neg h,Lib.decDigits,dif_pos (by omega)];simp
  ·rw [Lib.decDigits,dif_neg h,Lib.decDigits,dif_neg (by omega),Lib.decDigits,dif_pos (by omega)];simp
theorem Bf0 (n:Int):inRange IntKind.u8 n↔0<=n/\n<=255:=Iff.rfl
theorem Dd4 (x:Int):∀ (i:Nat),i<1->[List.map C.dem [C.v (Value.int IntKind.u8 x)]].getD i []=[C.v (Value.int IntKind.u8 (Bs2 ([List.map C.dem [C.v (Value.int IntKind.u8 x)]].getD i [])))]:=by
 intro i hi
 have:i=0:=by omega
 subst this
 rfl
theorem str1 (x:Int):(Al9 1 fun i=>[List.map C.dem [C.v (Value.int IntKind.u8 x)]].getD i [])=bs [UInt8.ofNat x.toNat]:=rfl
theorem B29 {n:Int} (h0:0<=n) (h1:n<10):dec n=[UInt8.ofNat (48+n).toNat]:=by
 unfold dec
 rw [Lib.decDigits,dif_pos (by omega)]
 congr 2
 omega
theorem Bp8 {n:Int} (h0:10<=n):dec n=dec (n / 10)++[UInt8.ofNat (48+n % 10).toNat]:=by
 unfold dec
 rw [Lib.decDigits,dif_neg (by omega)]
 congr 2
 ·congr 1;omega
 ·congr 1;omega
def Ah5 (n:Int):List UInt8:=bif decide (n<0) then 45::dec (-n) else dec n
theorem Aw9 {n:Int} (h:0<=n):Ah5 n=dec n:=by
 unfold Ah5
 have:decide (n<0)=false:=by simp;omega
 rw [this];rfl
theorem B30 {n:Int} (h:n<0):Ah5 n=45::dec (-n):=by
 unfold Ah5
 have:decide (n<0)=true:=by simpa using h
 rw [this];rfl
theorem Bj {n:Int} (h:si n):1<=(Ah5 n).length/\(Ah5 n).length<=4:=by
 obtain ⟨h0,h1⟩:=h
 by_cases hn:n<0
 ·rw [B30 hn,List.length_cons]
  have:=Aw8 (n:=-n) ⟨by omega,by omega⟩
  omega
 ·rw [Aw9 (by omega)]
  have:=Aw8 (n:=n) ⟨by omega,by omega⟩
  omega
theorem Aq2:IntKind.i64.max=9223372036854775807:=rfl
theorem Cp3 {n:Int} (h:sm n):(bs (dec n)).size<=3:=by rw [Ac];exact (Aw8 h).2
theorem Cp2 {Gl} (S:SP Gl) (n:Int) (h0:0<=n) (h1:n<10):CO Gl 137 [I n] (.ret (str (dec n))):=by
 refine Ac4 S (let A0:=[List.map C.dem [C.v (Value.int IntKind.u8 ((48:Int)-n))]];let A1:=[List.map C.dem [C.v (Value.int IntKind.u8 ((48:Int)+n))]];let A2:=((10:Int)≠(0:Int)/\iR (Int.tdiv n (10:Int)));let A3:=(bif decide ((-10:Int)<n) then decide (n<(0:Int)) else false);((.br .nil (.br .nil (.br .nil .nil))),((eqB (decide ((-10:Int)<n)) true=true->eqB (decide ((-10:Int)<n)) true=true)/\(decide ((-10:Int)<n)=true->eqB (decide ((-10:Int)<n)) true=true)/\(A3=true->iR ((48:Int)-n)/\inRange IntKind.u8 ((48:Int)-n)/\(∀ (i:Nat),i<(1:Nat)->List.getD A0 i []=[C.v (Value.int IntKind.u8 (Bs2 (List.getD A0 i [])))])/\(↑(ByteArray.size (ByteArray.mk #[(45:UInt8)])+ByteArray.size (Al9 (1:Nat) fun i=>List.getD A0 i [])):Int)<=IntKind.max IntKind.i64/\(ByteArray.mk #[(45:UInt8)]++Al9 (1:Nat) fun i=>List.getD A0 i [])=bs (dec n))/\(A3=false->(decide (n<(0:Int))=true->A2/\False)/\(decide (n<(0:Int))=false->(decide (n<(10:Int))=true->iR ((48:Int)+n)/\inRange IntKind.u8 ((48:Int)+n)/\(∀ (i:Nat),i<(1:Nat)->List.getD A1 i []=[C.v (Value.int IntKind.u8 (Bs2 (List.getD A1 i [])))])/\(Al9 (1:Nat) fun i=>List.getD A1 i [])=bs (dec n))/\(decide (n<(10:Int))=false->A2/\False)))))) Tryz.func137 (by kernel_rfl) (by kernel_rfl) ?_
 simp only [stdS,imp_self,implies_true,and_true,str1]
 refine ⟨fun h=>?_,fun _=>⟨fun h=>?_,fun _=>⟨fun _=>⟨(Aa1 _).2 (by omega),(Bf0 _).2 (by omega),Dd4 _,by rw [B29 h0 h1]⟩,fun h=>?_⟩⟩⟩
 ·simp at h;omega
 ·simp at h;omega
 ·simp at h;omega
theorem Cp1 {Gl} (S:SP Gl) (n:Int) (h0:10<=n) (h1:n<1000) (ih:CO Gl 137 [I (Int.tdiv n 10)] (.ret (str (dec (n / 10))))):CO Gl 137 [I n] (.ret (str (dec n))):=by
 refine Ac4 S (let A0:=[List.map C.dem [C.v (Value.int IntKind.u8 ((48:Int)-Int.tmod n (10:Int)))]];let A1:=[List.map C.dem [C.v (Value.int IntKind.u8 ((48:Int)+Int.tmod n (10:Int)))]];let A2:=[List.map C.dem [C.v (Value.int IntKind.u8 ((48:Int)-n))]];let A3:=(dec (n / (10:Int)));let A4:=[List.map C.dem [C.v (Value.int IntKind.u8 ((48:Int)+n))]];let A5:=((10:Int)≠(0:Int)/\iR (Int.tdiv n (10:Int)));let A6:=(bif decide ((-10:Int)<n) then decide (n<(0:Int)) else false);((.br .nil (.br (.r (.ret (str A3)) .nil) (.br .nil (.r (.ret (str A3)) .nil)))),((eqB (decide ((-10:Int)<n)) true=true->eqB (decide ((-10:Int)<n)) true=true)/\(decide ((-10:Int)<n)=true->eqB (decide ((-10:Int)<n)) true=true)/\(A6=true->iR ((48:Int)-n)/\inRange IntKind.u8 ((48:Int)-n)/\(∀ (i:Nat),i<(1:Nat)->List.getD A2 i []=[C.v (Value.int IntKind.u8 (Bs2 (List.getD A2 i [])))])/\(↑(ByteArray.size (ByteArray.mk #[(45:UInt8)])+ByteArray.size (Al9 (1:Nat) fun i=>List.getD A2 i [])):Int)<=IntKind.max IntKind.i64/\(ByteArray.mk #[(45:UInt8)]++Al9 (1:Nat) fun i=>List.getD A2 i [])=bs (dec n))/\(A6=false->(decide (n<(0:Int))=true->A5/\CO Gl 137 [I (Int.tdiv n (10:Int))] (.ret (str A3))/\(10:Int)≠(0:Int)/\iR ((48:Int)-Int.tmod n (10:Int))/\inRange IntKind.u8 ((48:Int)-Int.tmod n (10:Int))/\(∀ (i:Nat),i<(1:Nat)->List.getD A0 i []=[C.v (Value.int IntKind.u8 (Bs2 (List.getD A0 i [])))])/\(↑(ByteArray.size (bs A3)+ByteArray.size (Al9 (1:Nat) fun i=>List.getD A0 i [])):Int)<=IntKind.max IntKind.i64/\(bs A3++Al9 (1:Nat) fun i=>List.getD A0 i [])=bs (dec n))/\(decide (n<(0:Int))=false->(decide (n<(10:Int))=true->iR ((48:Int)+n)/\inRange IntKind.u8 ((48:Int)+n)/\(∀ (i:Nat),i<(1:Nat)->List.getD A4 i []=[C.v (Value.int IntKind.u8 (Bs2 (List.getD A4 i [])))])/\(Al9 (1:Nat) fun i=>List.getD A4 i [])=bs (dec n))/\(decide (n<(10:Int))=false->A5/\CO Gl 137 [I (Int.tdiv n (10:Int))] (.ret (str A3))/\(10:Int)≠(0:Int)/\iR ((48:Int)+Int.tmod n (10:Int))/\inRange IntKind.u8 ((48:Int)+Int.tmod n (10:Int))/\(∀ (i:Nat),i<(1:Nat)->List.getD A1 i []=[C.v (Value.int IntKind.u8 (Bs2 (List.getD A1 i [])))])/\(↑(ByteArray.size (bs A3)+ByteArray.size (Al9 (1:Nat) fun i=>List.getD A1 i [])):Int)<=IntKind.max IntKind.i64/\(bs A3++Al9 (1:Nat) fun i=>List.getD A1 i [])=bs (dec n))))))) Tryz.func137 (by kernel_rfl) (by kernel_rfl) ?_
 dsimp only
 have hd:Int.tdiv n 10=n / 10:=Int.tdiv_eq_ediv_of_nonneg (by omega)
 have hm:Int.tmod n 10=n % 10:=Int.tmod_eq_emod_of_nonneg (by omega)
 rw [hd] at ih
 simp only [stdS,imp_self,implies_true,and_true,str1,hd,hm]
 refine ⟨fun h=>?_,fun _=>⟨fun h=>?_,fun _=>⟨fun h=>?_,fun _=>⟨⟨by decide,(Aa1 _).2 (by omega)⟩,ih,by decide,(Aa1 _).2 (by omega),(Bf0 _).2 (by omega),Dd4 _,?_,by rw [As3,<-Bp8 h0]⟩⟩⟩⟩
 ·simp at h;omega
 ·simp at h;omega
 ·simp at h;omega
 ·have:=Cp3 (n:=n / 10) ⟨by omega,by omega⟩
  rw [Aq2,Ac [_]]
  simp only [List.length_singleton]
  omega
theorem Ca7 {Gl} (S:SP Gl) (n:Int) (h0:-10<n) (h1:n<0):CO Gl 137 [I n] (.ret (str (45::dec (-n)))):=by
 refine Ac4 S (let A0:=[List.map C.dem [C.v (Value.int IntKind.u8 ((48:Int)-n))]];let A1:=[List.map C.dem [C.v (Value.int IntKind.u8 ((48:Int)+n))]];let A2:=((10:Int)≠(0:Int)/\iR (Int.tdiv n (10:Int)));let A3:=(bif decide ((-10:Int)<n) then decide (n<(0:Int)) else false);((.br .nil (.br .nil (.br .nil .nil))),((eqB (decide ((-10:Int)<n)) true=true->eqB (decide ((-10:Int)<n)) true=true)/\(decide ((-10:Int)<n)=true->eqB (decide ((-10:Int)<n)) true=true)/\(A3=true->iR ((48:Int)-n)/\inRange IntKind.u8 ((48:Int)-n)/\(∀ (i:Nat),i<(1:Nat)->List.getD A0 i []=[C.v (Value.int IntKind.u8 (Bs2 (List.getD A0 i [])))])/\(↑(ByteArray.size (ByteArray.mk #[(45:UInt8)])+ByteArray.size (Al9 (1:Nat) fun i=>List.getD A0 i [])):Int)<=IntKind.max IntKind.i64/\(ByteArray.mk #[(45:UInt8)]++Al9 (1:Nat) fun i=>List.getD A0 i [])=bs ((45:UInt8)::dec (-n)))/\(A3=false->(decide (n<(0:Int))=true->A2/\False)/\(decide (n<(0:Int))=false->(decide (n<(10:Int))=true->iR ((48:Int)+n)/\inRange IntKind.u8 ((48:Int)+n)/\(∀ (i:Nat),i<(1:Nat)->List.getD A1 i []=[C.v (Value.int IntKind.u8 (Bs2 (List.getD A1 i [])))])/\(Al9 (1:Nat) fun i=>List.getD A1 i [])=bs ((45:UInt8)::dec (-n)))/\(decide (n<(10:Int))=false->A2/\False)))))) Tryz.func137 (by kernel_rfl) (by kernel_rfl) ?_
 have e45:({ data:=#[45] }:ByteArray)=bs [45]:=rfl
 simp only [stdS,imp_self,implies_true,and_true,str1,e45]
 refine ⟨fun _=>⟨(Aa1 _).2 (by omega),(Bf0 _).2 (by omega),Dd4 _,by rw [Ac,Ac,Aq2];show ((1+1:Nat):Int)<=9223372036854775807;decide,?_⟩,fun h=>?_⟩
 ·rw [As3,B29 (by omega) (by omega)];rfl
 ·simp at h;omega
theorem Ca6 {Gl} (S:SP Gl) (n:Int) (h0:-1000<n) (h1:n<=-10) (ih:CO Gl 137 [I (Int.tdiv n 10)] (.ret (str (45::dec (-n / 10))))):CO Gl 137 [I n] (.ret (str (45::dec (-n)))):=by
 refine Ac4 S (let A0:=[List.map C.dem [C.v (Value.int IntKind.u8 ((48:Int)-Int.tmod n (10:Int)))]];let A1:=[List.map C.dem [C.v (Value.int IntKind.u8 ((48:Int)+Int.tmod n (10:Int)))]];let A2:=((45:UInt8)::dec (-n / (10:Int)));let A3:=[List.map C.dem [C.v (Value.int IntKind.u8 ((48:Int)-n))]];let A4:=[List.map C.dem [C.v (Value.int IntKind.u8 ((48:Int)+n))]];let A5:=((10:Int)≠(0:Int)/\iR (Int.tdiv n (10:Int)));let A6:=(bif decide ((-10:Int)<n) then decide (n<(0:Int)) else false);let A7:=((45:UInt8)::dec (-n));((.br .nil (.br (.r (.ret (str A2)) .nil) (.br .nil (.r (.ret (str A2)) .nil)))),((eqB (decide ((-10:Int)<n)) true=true->eqB (decide ((-10:Int)<n)) true=true)/\(decide ((-10:Int)<n)=true->eqB (decide ((-10:Int)<n)) true=true)/\(A6=true->iR ((48:Int)-n)/\inRange IntKind.u8 ((48:Int)-n)/\(∀ (i:Nat),i<(1:Nat)->List.getD A3 i []=[C.v (Value.int IntKind.u8 (Bs2 (List.getD A3 i [])))])/\(↑(ByteArray.size (ByteArray.mk #[(45:UInt8)])+ByteArray.size (Al9 (1:Nat) fun i=>List.getD A3 i [])):Int)<=IntKind.max IntKind.i64/\(ByteArray.mk #[(45:UInt8)]++Al9 (1:Nat) fun i=>List.getD A3 i [])=bs A7)/\(A6=false->(decide (n<(0:Int))=true->A5/\CO Gl 137 [I (Int.tdiv n (10:Int))] (.ret (str A2))/\(10:Int)≠(0:Int)/\iR ((48:Int)-Int.tmod n (10:Int))/\inRange IntKind.u8 ((48:Int)-Int.tmod n (10:Int))/\(∀ (i:Nat),i<(1:Nat)->List.getD A0 i []=[C.v (Value.int IntKind.u8 (Bs2 (List.getD A0 i [])))])/\(↑(ByteArray.size (bs A2)+ByteArray.size (Al9 (1:Nat) fun i=>List.getD A0 i [])):Int)<=IntKind.max IntKind.i64/\(bs A2++Al9 (1:Nat) fun i=>List.getD A0 i [])=bs A7)/\(decide (n<(0:Int))=false->(decide (n<(10:Int))=true->iR ((48:Int)+n)/\inRange IntKind.u8 ((48:Int)+n)/\(∀ (i:Nat),i<(1:Nat)->List.getD A4 i []=[C.v (Value.int IntKind.u8 (Bs2 (List.getD A4 i [])))])/\(Al9 (1:Nat) fun i=>List.getD A4 i [])=bs A7)/\(decide (n<(10:Int))=false->A5/\CO Gl 137 [I (Int.tdiv n (10:Int))] (.ret (str A2))/\(10:Int)≠(0:Int)/\iR ((48:Int)+Int.tmod n (10:Int))/\inRange IntKind.u8 ((48:Int)+Int.tmod n (10:Int))/\(∀ (i:Nat),i<(1:Nat)->List.getD A1 i []=[C.v (Value.int IntKind.u8 (Bs2 (List.getD A1 i [])))])/\(↑(ByteArray.size (bs A2)+ByteArray.size (Al9 (1:Nat) fun i=>List.getD A1 i [])):Int)<=IntKind.max IntKind.i64/\(bs A2++Al9 (1:Nat) fun i=>List.getD A1 i [])=bs A7)))))) Tryz.func137 (by kernel_rfl) (by kernel_rfl) ?_
 dsimp only
 have hd:Int.tdiv n 10=-(-n / 10):=by
  have:Int.tdiv (-(-n)) 10=-(Int.tdiv (-n) 10):=Int.neg_tdiv ..
  rw [Int.neg_neg] at this
  rw [this,Int.tdiv_eq_ediv_of_nonneg (by omega)]
 have hm:Int.tmod n 10=-(-n % 10):=by
  have:Int.tmod (-(-n)) 10=-(Int.tmod (-n) 10):=Int.neg_tmod ..
  rw [Int.neg_neg] at this
  rw [this,Int.tmod_eq_emod_of_nonneg (by omega)]
 rw [hd] at ih
 simp only [stdS,imp_self,implies_true,and_true,str1,hd,hm]
 refine ⟨fun h=>?_,fun _=>⟨fun _=>⟨⟨by decide,(Aa1 _).2 (by omega)⟩,ih,by decide,(Aa1 _).2 (by omega),(Bf0 _).2 (by omega),Dd4 _,?_,?_⟩,fun h=>?_⟩⟩
 ·simp at h;omega
 ·have:=Cp3 (n:=-n / 10) ⟨by omega,by omega⟩
  rw [Ac] at this
  rw [Aq2,Ac,Ac [_]]
  simp only [List.length_singleton,List.length_cons,List.length_nil]
  omega
 ·rw [As3,Bp8 (n:=-n) (by omega),Int.sub_neg];rfl
 ·simp at h;omega
theorem Cp0 {Gl} (S:SP Gl) (n:Int) (h0:0<=n) (h1:n<100):CO Gl 137 [I n] (.ret (str (dec n))):=by
 by_cases h:n<10
 ·exact Cp2 S n h0 h
 ·have hd:Int.tdiv n 10=n / 10:=Int.tdiv_eq_ediv_of_nonneg (by omega)
  exact Cp1 S n (by omega) (by omega) (by rw [hd];exact Cp2 S _ (by omega) (by omega))
theorem A46 {Gl} (S:SP Gl) (n:Int) (h:sm n):CO Gl 137 [I n] (.ret (str (dec n))):=by
 by_cases h1:n<100
 ·exact Cp0 S n h.1 h1
 ·have hd:Int.tdiv n 10=n / 10:=Int.tdiv_eq_ediv_of_nonneg h.1
  exact Cp1 S n (by omega) h.2 (by rw [hd];exact Cp0 S _ (by omega) (by have:=h.2;omega))
theorem Bt5 (n:Int) (h:n<=0):Int.tdiv n 10=-(-n / 10):=by
 have:Int.tdiv (-(-n)) 10=-(Int.tdiv (-n) 10):=Int.neg_tdiv ..
 rw [Int.neg_neg] at this
 rw [this,Int.tdiv_eq_ediv_of_nonneg (by omega)]
theorem Cp {Gl} (S:SP Gl) (n:Int) (h0:-100<n) (h1:n<0):CO Gl 137 [I n] (.ret (str (45::dec (-n)))):=by
 by_cases h:-10<n
 ·exact Ca7 S n h h1
 ·refine Ca6 S n (by omega) (by omega) ?_
  have:=Ca7 S (-(-n / 10)) (by omega) (by omega)
  rw [Int.neg_neg] at this
  rw [Bt5 n (by omega)]
  exact this
theorem Ch3 {Gl} (S:SP Gl) (n:Int) (h:si n):CO Gl 137 [I n] (.ret (str (Ah5 n))):=by
 obtain ⟨h0,h1⟩:=h
 by_cases hn:n<0
 ·rw [B30 hn]
  by_cases h2:-100<n
  ·exact Cp S n h2 hn
  ·refine Ca6 S n (by omega) (by omega) ?_
   have:=Cp S (-(-n / 10)) (by omega) (by omega)
   rw [Int.neg_neg] at this
   rw [Bt5 n (by omega)]
   exact this
 ·rw [Aw9 (by omega)]
  exact A46 S n ⟨by omega,h1⟩
def Ad7 (l:List Int):List UInt8:=l.flatMap fun n=>32::Ah5 n
theorem Az5:∀ {l:List Int},(∀ n∈l,si n)->(Ad7 l).length<=5*l.length
 | [],_=>Nat.zero_le _
 |n::l,h=>by
  have ih:=Az5 (l:=l) fun x hx=>h x (List.mem_cons_of_mem _ hx)
  have:=Bj (h n List.mem_cons_self)
  simp only [Ad7,List.flatMap_cons,List.length_append,List.length_cons] at ih ⊢
  omega
theorem Bd1 {l:List Int} {k:Nat} (h:k<l.length):Ad7 (l.take (k+1))=Ad7 (l.take k)++32::Ah5 (nth l k):=by
 rw [Af5 h]
 simp [Ad7]
theorem Dm8 {Gl} (S:SP Gl) (w:List UInt8) (l:List Int) (hw:w.length<=100) (hl:l.length<=1000) (hn:∀ n∈l,si n):CO Gl 111 [str w,L eI l] (.ret (str (w++Ad7 l))):=by
 refine Ac4 S (let A0:=fun (k0:Nat)=>(w++Ad7 (List.take k0 l));((.loop l.length (fun k=>[v 5 (I k),v 1 (L eI l),v 0 (str (w++Ad7 (List.take k l)))]) fun k0=>.br (.r (.ret (str (Ah5 (nth l k0)))) .nil) .nil),((0=(↑(0:Nat):Int)/\(sR eI l)/\bs w=bs (w++Ad7 (List.take (0:Nat) l)))/\∀ (k0:Nat),k0<=l.length->l.length<=maxLen->(decide ((k0:Int)<(l.length:Int))=true->(↑(ByteArray.size (bs (A0 k0))+ByteArray.size (ByteArray.mk #[(32:UInt8)])):Int)<=IntKind.max IntKind.i64/\(0<=(k0:Int)/\(k0:Int)<(l.length:Int))/\CO Gl 137 [I (nth l k0)] (.ret (str (Ah5 (nth l k0))))/\(↑(ByteArray.size (bs (A0 k0)++ByteArray.mk #[(32:UInt8)])+ByteArray.size (bs (Ah5 (nth l k0)))):Int)<=IntKind.max IntKind.i64/\iR ((k0:Int)+1)/\k0<l.length/\(k0:Int)+1=(↑(k0+1):Int)/\(sR eI l)/\bs (A0 k0)++ByteArray.mk #[(32:UInt8)]++bs (Ah5 (nth l k0))=bs (w++Ad7 (List.take (k0+1) l)))/\(decide ((k0:Int)<(l.length:Int))=false->bs (A0 k0)=bs (w++Ad7 l))))) Tryz.func111 (by kernel_rfl) (by kernel_rfl) ?_
 dsimp only
 have hlen:∀ k,(Ad7 (l.take k)).length<=5*l.length:=fun k=>by
  have:=Az5 (l:=l.take k) fun x hx=>hn x (List.mem_of_mem_take hx)
  rw [List.length_take] at this
  omega
 have e32:({ data:=#[32] }:ByteArray)=bs [32]:=rfl
 simp only [stdS,imp_self,implies_true,and_true,e32]
 refine ⟨by simp [Ad7],fun k hk _=>⟨fun hlt=>?_,fun hlt=>?_⟩⟩
 ·have hlt:k<l.length:=by simpa using hlt
  have hs:=hn (nth l k) (Ab5 hlt)
  have hd:=Bj hs
  have h1:=hlen k
  refine ⟨?_,⟨by omega,by omega⟩,Ch3 S _ hs,?_,(Aa1 _).2 (by omega),hlt,rfl,?_⟩
  ·rw [Aq2,Ac,Ac]
   simp only [List.length_append,List.length_singleton]
   omega
  ·rw [As3,Aq2,Ac,Ac]
   simp only [List.length_append,List.length_singleton]
   omega
  ·rw [As3,As3,Bd1 hlt]
   simp
 ·have hlt:¬ k<l.length:=by simpa using hlt
  rw [List.take_of_length_le (by omega)]
def A56 (w:List UInt8) (i:Nat):Nat->Int
 |0=>0
 |k+1=>A56 w i k+((nth w k).toNat:Int)*((k:Int)+1)*((i:Int)+1)
def checkTo (rows:List (List UInt8)):Nat->Int
 |0=>0
 |i+1=>checkTo rows i+A56 (nth rows i) i (nth rows i).length
def Aq (rows:List (List UInt8)):Nat->List UInt8
 |0=>[]
 |i+1=>Aq rows i++(nth rows i++[10])
def Dh8:List UInt8:=[101,110,100,32]
def Ad9 (rows:List (List UInt8)):Int:=Int.tmod (checkTo rows rows.length) 229
def Ae8 (rows:List (List UInt8)):List UInt8:=Aq rows rows.length++Dh8++dec (Int.tdiv (Ad9 rows) 100)++dec (Int.tmod (Int.tdiv (Ad9 rows) 10) 10)++dec (Int.tmod (Ad9 rows) 10)++[10]
theorem Bq5 {w:List UInt8} {k:Nat} (h:k<w.length):Ad6 (bs w) k=((nth w k).toNat:Int):=by
 unfold Ad6
 rw [Ax0,Aj3 h]
 simp [List.getD,h]
theorem Cd8 {x:UInt8} {k i:Nat} (hk:k<=300) (hi:i<=901):0<=(x.toNat:Int)*((k:Int)+1)/\(x.toNat:Int)*((k:Int)+1)<=76755/\0<=(x.toNat:Int)*((k:Int)+1)*((i:Int)+1)/\(x.toNat:Int)*((k:Int)+1)*((i:Int)+1)<=70000000:=by
 have hx:x.toNat<=255:=by have:=x.toNat_lt;omega
 have h1:x.toNat*(k+1)<=255*301:=Nat.mul_le_mul hx (by omega)
 have h2:x.toNat*(k+1)*(i+1)<=255*301*902:=Nat.mul_le_mul h1 (by omega)
 have e1:(x.toNat:Int)*((k:Int)+1)=((x.toNat*(k+1):Nat):Int):=by push_cast;rfl
 have e2:(x.toNat:Int)*((k:Int)+1)*((i:Int)+1)=((x.toNat*(k+1)*(i+1):Nat):Int):=by push_cast;rfl
 rw [e2,e1]
 omega
theorem B35 {w:List UInt8} {i:Nat} (hi:i<=901):∀ k,k<=301->0<=A56 w i k/\A56 w i k<=70000000*k
 |0,_=>by unfold A56;omega
 |k+1,hk=>by
  have ih:=B35 (w:=w) hi k (by omega)
  have:=Cd8 (x:=nth w k) (k:=k) (i:=i) (by omega) hi
  unfold A56
  push_cast
  omega
theorem Av7 {rows:List (List UInt8)} (h:∀ i,i<rows.length->(nth rows i).length<=300):∀ i,i<=rows.length->i<=901->0<=checkTo rows i/\checkTo rows i<=21000000000*i
 |0,_,_=>by unfold checkTo;omega
 |i+1,hi,hi2=>by
  have ih:=Av7 h i (by omega) (by omega)
  have hl:=h i (by omega)
  have:=B35 (w:=nth rows i) (i:=i) (by omega) (nth rows i).length (by omega)
  unfold checkTo
  push_cast
  omega
theorem A93 {rows:List (List UInt8)} (h:∀ i,i<rows.length->(nth rows i).length<=300):∀ i,i<=rows.length->(Aq rows i).length<=301*i
 |0,_=>by unfold Aq;simp
 |i+1,hi=>by
  have ih:=A93 h i (by omega)
  have hl:=h i (by omega)
  unfold Aq
  simp only [List.length_append,List.length_singleton]
  omega
theorem Cz {Gl} (S:SP Gl) (rows:List (List UInt8)) (hn:rows.length<=901) (hrl:∀ i,i<rows.length->(nth rows i).length<=300):CO Gl 112 [L eS rows,I 229] (.ret (str (Ae8 rows))):=by
 refine Ac4 S (let A0:=fun (k0:Nat)=>(Int.tmod (checkTo rows k0) (229:Int));let A1:=fun (k0:Nat)=>(Int.tmod (Int.tdiv (A0 k0) (10:Int)) (10:Int));let A2:=fun (k0:Nat)=>(Int.tdiv (A0 k0) (100:Int));let A3:=fun (k0:Nat)=>(Aq rows k0);let A4:=fun (k0:Nat)=>(dec (Int.tmod (A0 k0) (10:Int)));let A5:=fun (k0:Nat)=>(nth rows k0);let A6:=fun (k0:Nat)=>(0<=(k0:Int)/\(k0:Int)<(rows.length:Int));((.loop rows.length (fun i=>[v 7 (I i),v 6 (I (checkTo rows i)),v 5 (str (Aq rows i)),v 1 (I 229),v 0 (L eS rows)]) fun k0=>.br (.loop (List.length (A5 k0)) (fun k=>[v 8 (I k),v 7 (I k0),v 6 (I (checkTo rows k0+A56 (A5 k0) k0 k)),v 5 (str (A3 k0)),v 1 (I 229),v 0 (L eS rows)]) fun k1=>.br .nil .nil) (.r (.ret (str (dec (A2 k0)))) (.r (.ret (str (dec (A1 k0)))) (.r (.ret (str (A4 k0))) .nil)))),((0=(↑(0:Nat):Int)/\(0:Int)=checkTo rows (0:Nat)/\ByteArray.mk #[]=bs (Aq rows (0:Nat))/\(229:Int)=229/\sR eS rows)/\∀ (k0:Nat),k0<=rows.length->rows.length<=maxLen->(decide ((k0:Int)<(rows.length:Int))=true->(0=(↑(0:Nat):Int)/\(k0:Int)=(k0:Int)/\checkTo rows k0=checkTo rows k0+A56 (A5 k0) k0 (0:Nat)/\bs (A3 k0)=bs (A3 k0)/\(229:Int)=229/\sR eS rows)/\∀ (k1:Nat),k1<=List.length (A5 k0)->(A6 k0)/\(decide ((k1:Int)<(↑(ByteArray.size (bs (nth rows k0))):Int))=true->(A6 k0)/\(0<=(k1:Int)/\(k1:Int)<(↑(ByteArray.size (bs (A5 k0))):Int))/\iR (Ad6 (bs (A5 k0)) k1)/\iR ((k1:Int)+1)/\iR (Ad6 (bs (A5 k0)) k1*((k1:Int)+1))/\iR ((k0:Int)+1)/\iR (Ad6 (bs (A5 k0)) k1*((k1:Int)+1)*((k0:Int)+1))/\iR (checkTo rows k0+A56 (A5 k0) k0 k1+Ad6 (bs (A5 k0)) k1*((k1:Int)+1)*((k0:Int)+1))/\iR ((k1:Int)+1)/\k1<List.length (A5 k0)/\(k1:Int)+1=(↑(k1+1):Int)/\(k0:Int)=(k0:Int)/\checkTo rows k0+A56 (A5 k0) k0 k1+Ad6 (bs (A5 k0)) k1*((k1:Int)+1)*((k0:Int)+1)=checkTo rows k0+A56 (A5 k0) k0 (k1+1)/\bs (A3 k0)=bs (A3 k0)/\(229:Int)=229/\sR eS rows)/\(decide ((k1:Int)<(↑(ByteArray.size (bs (nth rows k0))):Int))=false->(A6 k0)/\(↑(ByteArray.size (bs (A3 k0))+ByteArray.size (bs (A5 k0))):Int)<=IntKind.max IntKind.i64/\(↑(ByteArray.size (bs (A3 k0)++bs (A5 k0))+ByteArray.size (ByteArray.mk #[(10:UInt8)])):Int)<=IntKind.max IntKind.i64/\iR ((k0:Int)+1)/\k0<rows.length/\(k0:Int)+1=(↑(k0+1):Int)/\checkTo rows k0+A56 (A5 k0) k0 k1=checkTo rows (k0+1)/\bs (A3 k0)++bs (A5 k0)++ByteArray.mk #[(10:UInt8)]=bs (Aq rows (k0+1))/\(229:Int)=229/\sR eS rows))/\(decide ((k0:Int)<(rows.length:Int))=false->(229:Int)≠(0:Int)/\(↑(ByteArray.size (bs (A3 k0))+ByteArray.size (ByteArray.mk #[(101:UInt8),(110:UInt8),(100:UInt8),(32:UInt8)])):Int)<=IntKind.max IntKind.i64/\((100:Int)≠(0:Int)/\iR (A2 k0))/\CO Gl 137 [I (A2 k0)] (.ret (str (dec (A2 k0))))/\(↑(ByteArray.size (bs (A3 k0)++ByteArray.mk #[(101:UInt8),(110:UInt8),(100:UInt8),(32:UInt8)])+ByteArray.size (bs (dec (A2 k0)))):Int)<=IntKind.max IntKind.i64/\((10:Int)≠(0:Int)/\iR (Int.tdiv (A0 k0) (10:Int)))/\(10:Int)≠(0:Int)/\CO Gl 137 [I (A1 k0)] (.ret (str (dec (A1 k0))))/\(↑(ByteArray.size (bs (A3 k0)++ByteArray.mk #[(101:UInt8),(110:UInt8),(100:UInt8),(32:UInt8)]++bs (dec (A2 k0)))+ByteArray.size (bs (dec (A1 k0)))):Int)<=IntKind.max IntKind.i64/\(10:Int)≠(0:Int)/\CO Gl 137 [I (Int.tmod (A0 k0) (10:Int))] (.ret (str (A4 k0)))/\(↑(ByteArray.size (bs (A3 k0)++ByteArray.mk #[(101:UInt8),(110:UInt8),(100:UInt8),(32:UInt8)]++bs (dec (A2 k0))++bs (dec (A1 k0)))+ByteArray.size (bs (A4 k0))):Int)<=IntKind.max IntKind.i64/\(↑(ByteArray.size (bs (A3 k0)++ByteArray.mk #[(101:UInt8),(110:UInt8),(100:UInt8),(32:UInt8)]++bs (dec (A2 k0))++bs (dec (A1 k0))++bs (A4 k0))+ByteArray.size (ByteArray.mk #[(10:UInt8)])):Int)<=IntKind.max IntKind.i64/\bs (A3 k0)++ByteArray.mk #[(101:UInt8),(110:UInt8),(100:UInt8),(32:UInt8)]++bs (dec (A2 k0))++bs (dec (A1 k0))++bs (A4 k0)++ByteArray.mk #[(10:UInt8)]=bs (Ae8 rows))))) Tryz.func112 (by kernel_rfl) (by kernel_rfl) ?_
 have e10:({ data:=#[10] }:ByteArray)=bs [10]:=rfl
 have e0:({ data:=#[] }:ByteArray)=bs []:=rfl
 have eE:({ data:=#[101,110,100,32] }:ByteArray)=bs Dh8:=rfl
 simp only [stdS,imp_self,implies_true,and_true,e10,e0,eE,Ac,As3,decide_eq_true_eq,decide_eq_false_iff_not]
 refine ⟨⟨rfl,rfl,trivial⟩,fun k3 hk3 hmx=>⟨fun hlt=>?_,fun hlt=>?_⟩⟩
 ·have hlt:k3<rows.length:=by omega
  have hw:=hrl k3 hlt
  have hco:=Av7 hrl k3 (by omega) (by omega)
  have hou:=A93 hrl k3 (by omega)
  have e1:checkTo rows (k3+1)=checkTo rows k3+A56 (nth rows k3) k3 (nth rows k3).length:=rfl
  have e2:Aq rows (k3+1)=Aq rows k3++(nth rows k3++[10]):=rfl
  generalize nth rows k3=w at *
  refine ⟨⟨by unfold A56;omega,trivial⟩,fun k4 hk4=>⟨⟨by omega,by omega⟩,fun hl4=>?_,fun hl4=>?_⟩⟩
  ·have hl4:k4<w.length:=by omega
   have ht:=Cd8 (x:=nth w k4) (k:=k4) (i:=k3) (by omega) (by omega)
   have hsu:=B35 (w:=w) (i:=k3) (by omega) k4 (by omega)
   have hx:((nth w k4).toNat:Int)<256:=by have:=(nth w k4).toNat_lt;omega
   rw [Bq5 hl4]
   refine ⟨⟨by omega,by omega⟩,⟨by omega,by omega⟩,(Aa1 _).2 (by omega),(Aa1 _).2 (by omega),(Aa1 _).2 (by omega),(Aa1 _).2 (by omega),(Aa1 _).2 (by omega),(Aa1 _).2 (by omega),(Aa1 _).2 (by omega),hl4,rfl,?_,trivial⟩
   rw [A56,Int.add_assoc]
  ·have hl4:k4=w.length:=by omega
   subst hl4
   refine ⟨⟨by omega,by omega⟩,by rw [Aq2];omega,by rw [Aq2];simp only [List.length_append,List.length_singleton];omega,(Aa1 _).2 (by omega),hlt,rfl,e1.symm,?_,trivial⟩
   rw [e2,List.append_assoc]
 ·obtain rfl:k3=rows.length:=by omega
  have hco:=Av7 hrl rows.length (by omega) (by omega)
  have hou:=A93 hrl rows.length (by omega)
  have htx:Ae8 rows=Aq rows rows.length++Dh8++dec (Int.tdiv (Int.tmod (checkTo rows rows.length) 229) 100)++dec (Int.tmod (Int.tdiv (Int.tmod (checkTo rows rows.length) 229) 10) 10)++dec (Int.tmod (Int.tmod (checkTo rows rows.length) 229) 10)++[10]:=by
   unfold Ae8 Ad9
   rfl
  rw [htx]
  have hM:0<=Int.tmod (checkTo rows rows.length) 229/\Int.tmod (checkTo rows rows.length) 229<229:=by
   rw [Int.tmod_eq_emod_of_nonneg hco.1]
   omega
  generalize Int.tmod (checkTo rows rows.length) 229=M at *
  have h1':Int.tdiv M 100=M / 100:=Int.tdiv_eq_ediv_of_nonneg hM.1
  have h2':Int.tdiv M 10=M / 10:=Int.tdiv_eq_ediv_of_nonneg hM.1
  have h3':Int.tmod (M / 10) 10=M / 10 % 10:=Int.tmod_eq_emod_of_nonneg (by omega)
  have h4':Int.tmod M 10=M % 10:=Int.tmod_eq_emod_of_nonneg hM.1
  rw [h1',h2',h3',h4']
  have s1:sm (M / 100):=⟨by omega,by omega⟩
  have s2:sm (M / 10 % 10):=⟨by omega,by omega⟩
  have s3:sm (M % 10):=⟨by omega,by omega⟩
  have l1:=Aw8 s1
  have l2:=Aw8 s2
  have l3:=Aw8 s3
  have lE:Dh8.length=4:=rfl
  refine ⟨by decide,?_,⟨by decide,(Aa1 _).2 (by omega)⟩,A46 S _ s1,?_,⟨by decide,(Aa1 _).2 (by omega)⟩,by decide,A46 S _ s2,?_,by decide,A46 S _ s3,?_,?_,rfl⟩
  all_goals
   rw [Aq2]
   try simp only [List.length_append,List.length_singleton]
   omega
def Al6 (c:UInt8):Bool:=decide (48<=c.toNat)&&decide (c.toNat<=57)
def Ak1 (w:List UInt8):Nat->Int
 |0=>0
 |k+1=>10*Ak1 w k+(((nth w k).toNat:Int) - 48)
def Cw2 (w:List UInt8):Bool:=w.all Al6&&decide (w.length<=3)
def Ch2 (w:List UInt8):Nat:=bif decide (w.length<=3) then Ap0 Al6 w else 0
def Cd2 (w:List UInt8):Int:=Ak1 w w.length
theorem Cb6 (w:List UInt8):(bs w).toList=w:=ByteArray.toList_mk w
theorem Cb7 {w:List UInt8} {k:Nat} (h:k<w.length) (h':k<(bs w).size):(bs w)[k]'h'=nth w k:=by
 rw [Aj3 h]
 rfl
theorem De8 {w:List UInt8} {k:Nat} (h:k<w.length) (hd:Al6 (nth w k)=true):Ad1 (bs w) k=((nth w k).toNat:Int)/\Aw (bs w) k=1/\48<=(nth w k).toNat/\(nth w k).toNat<=57:=by
 have h':k<(bs w).size:=by rw [Ac];exact h
 unfold Al6 at hd
 simp only [Bool.and_eq_true,decide_eq_true_eq] at hd
 have:=decode_ascii (bs w) k h' (by rw [Cb7 h];omega)
 unfold Ad1 Aw
 rw [this,Cb7 h]
 exact ⟨rfl,rfl,hd⟩
theorem De7 {w:List UInt8} {k:Nat} (h:k<w.length) (hd:Al6 (nth w k)=false):(decide (48<=Ad1 (bs w) k)&&decide (Ad1 (bs w) k<=57))=false:=by
 have h':k<(bs w).size:=by rw [Ac];exact h
 unfold Al6 at hd
 rw [Bool.eq_false_iff] at hd ⊢
 simp only [ne_eq,Bool.and_eq_true,decide_eq_true_eq] at hd ⊢
 intro hh
 rcases Nat.lt_or_ge (nth w k).toNat 128 with hl|hl
 ·have:=decode_ascii (bs w) k h' (by rw [Cb7 h];exact hl)
  unfold Ad1 at hh
  rw [this,Cb7 h] at hh
  exact hd ⟨by simp only at hh;omega,by simp only at hh;omega⟩
 ·have:=decode_high (bs w) k h' (by rw [Cb7 h];exact hl)
  unfold Ad1 at hh
  omega
theorem Cj0 {w:List UInt8} {k:Nat} (hk:k<=3) (hd:∀ i,i<k->Al6 (nth w i)=true):0<=Ak1 w k/\Ak1 w k<1000/\(k<=2->Ak1 w k<100):=by
 have hb:∀ i,i<k->48<=(nth w i).toNat/\(nth w i).toNat<=57:=fun i hi=>by
  have:=hd i hi
  unfold Al6 at this
  simpa using this
 match k,hk with
 |0,_=>simp [Ak1]
 |1,_=>
  have:=hb 0 (by omega)
  simp only [Ak1]
  omega
 |2,_=>
  have h0:=hb 0 (by omega)
  have h1:=hb 1 (by omega)
  simp only [Ak1]
  omega
 |3,_=>
  have h0:=hb 0 (by omega)
  have h1:=hb 1 (by omega)
  have h2:=hb 2 (by omega)
  simp only [Ak1]
  omega
theorem Bp7 {w:List UInt8} (h:Cw2 w=true):w.length<=3/\∀ i,i<w.length->Al6 (nth w i)=true:=by
 unfold Cw2 at h
 simp only [Bool.and_eq_true,decide_eq_true_eq,List.all_eq_true] at h
 exact ⟨h.2,fun i hi=>h.1 _ (Ab5 hi)⟩
theorem Dx {w:List UInt8} {k:Nat} (h:k<Ch2 w):w.length<=3/\k<w.length/\∀ i,i<=k->Al6 (nth w i)=true:=by
 unfold Ch2 at h
 cases hl:decide (w.length<=3) with
 |false=>rw [hl] at h;simp at h
 |true=>
  rw [hl,cond_true] at h
  have:=Ay6 (p:=Al6) (l:=w)
  exact ⟨by simpa using hl,by omega,fun i hi=>Ah6 (by omega)⟩
theorem Dx0 {w:List UInt8} (h:Cw2 w=false):Ch2 w<w.length/\(w.length<=3->Al6 (nth w (Ch2 w))=false):=by
 unfold Cw2 at h
 unfold Ch2
 cases hl:decide (w.length<=3) with
 |false=>
  have:¬ w.length<=3:=by simpa using hl
  rw [cond_false]
  exact ⟨by omega,fun hh=>absurd hh this⟩
 |true=>
  rw [hl,Bool.and_true] at h
  rw [cond_true]
  have hlt:Ap0 Al6 w<w.length:=by
   rcases Nat.lt_or_ge (Ap0 Al6 w) w.length with hh|hh
   ·exact hh
   ·rw [Ai3 hh] at h;cases h
  exact ⟨hlt,fun _=>A59 hlt⟩
theorem step_ok {w:List UInt8} {k:Nat} (hl:w.length<=3) (hk:k<w.length) (hd:∀ i,i<=k->Al6 (nth w i)=true):
  (decide (48<=Ad1 (bs w) k)&&(decide (Ad1 (bs w) k<=57)&&decide (((bs w).size:Int)<=3)))=true/\iR (10*Ak1 w k)/\inRange IntKind.i32 (Ad1 (bs w) k - 48)/\iR (Ad1 (bs w) k - 48)/\
   iR (10*Ak1 w k+(Ad1 (bs w) k - 48))/\(bif k.blt (bs w).size then k+Aw (bs w) k else k)=k+1/\10*Ak1 w k+(Ad1 (bs w) k - 48)=Ak1 w (k+1):=by
 obtain ⟨h1,h2,h3,h4⟩:=De8 hk (hd k (Nat.le_refl _))
 have hv:=Cj0 (w:=w) (k:=k) (by omega) (fun i hi=>hd i (by omega))
 have hb:k.blt (bs w).size=true:=by rw [Ac];exact Nat.ble_eq_true_of_le hk
 have h32:∀ n:Int,0<=n->n<=9->inRange IntKind.i32 n:=fun n h0 h9=>⟨by show (-2147483648:Int)<=n;omega,by show n<=2147483647;omega⟩
 rw [h1,h2,hb,Ac]
 refine ⟨?_,(Aa1 _).2 (by omega),h32 _ (by omega) (by omega),(Aa1 _).2 (by omega),(Aa1 _).2 (by omega),rfl,rfl⟩
 simp only [Bool.and_eq_true,decide_eq_true_eq]
 omega
def minus (w:List UInt8):Bool:=decide (0<w.length)&&(nth w 0==45)
def Cw0 (w:List UInt8):Int:=bif minus w then -1 else 1
def Aa7 (w:List UInt8):List UInt8:=bif minus w then w.drop 1 else w
def isS (w:List UInt8):Bool:=decide (1<=(Aa7 w).length)&&Cw2 (Aa7 w)
def Aq9 (w:List UInt8):Int:=bif isS w then Cw0 w*Cd2 (Aa7 w) else 0
def okS (w:List UInt8):Bool:=isS w&&(Ah5 (Cw0 w*Cd2 (Aa7 w))==w)
def Ah3:List UInt8:=[104,97,110,100,115]
def Bf9:List UInt8:=[114,111,119]
def B95 (s:Sheet):List UInt8:=Ah3++Ad7 s.errs
def Ds8 (s:Sheet) (r:Nat):List UInt8:=Bf9++Ad7 (Aa5 s r)
def An3 (s:Sheet) (k:Nat):List (List UInt8):=B95 s::(List.range k).map (Ds8 s)
def Ae4 (s:Sheet):List (List UInt8):=An3 s (rows s)
def Ab6 (s:Sheet):List UInt8:=Ae8 (Ae4 s)
structure Sheet.low (s:Sheet):Prop where
 c:s.cols.length<=300
 r:rows s<=300
 e:s.errs.length<=300
 eq:∀ i,i<s.cols.length->(nth s.cols i).length=rows s
 ne:∀ n∈s.errs,si n
 nc:∀ r,r<rows s->∀ n∈Aa5 s r,si n
 th:(B95 s).length<=300
 tr:∀ r,r<rows s->(Ds8 s r).length<=300
theorem Au2 (s:Sheet) (k:Nat):(An3 s k).length=k+1:=by unfold An3;rw [List.length_cons,List.length_map,List.length_range]
theorem Ce2 (s:Sheet) (k:Nat):An3 s (k+1)=An3 s k++[Ds8 s k]:=by
 unfold An3
 rw [List.range_succ,List.map_append]
 rfl
theorem Bu0 {s:Sheet} {k i:Nat} (h:i<k):nth (An3 s k) (i+1)=Ds8 s i:=by
 show nth ((List.range k).map (Ds8 s)) i=_
 rw [Ae6 (by rw [List.length_range];exact h),Ab4 h]
theorem Cz4 {s:Sheet} (h:s.low):(Ae4 s).length<=901/\∀ i,i<(Ae4 s).length->(nth (Ae4 s) i).length<=300:=by
 have:=h.r
 refine ⟨by unfold Ae4;rw [Au2];omega,fun i hi=>?_⟩
 unfold Ae4 at hi ⊢
 rw [Au2] at hi
 cases i with
 |zero=>exact h.th
 |succ i=>rw [Bu0 (by omega)];exact h.tr i (by omega)
theorem Ak8 (s:Sheet) (r:Nat):(Aa5 s r).length=s.cols.length:=List.length_map ..
theorem Dt8 {Gl} (S:SP Gl) (s:Sheet) (h:s.low):CO Gl 67 [Aa6 s] (.ret (str (Ab6 s))):=by
 refine Ac4 S (let A0:=fun (k0 k1:Nat)=>(List.take k1 (Aa5 s k0));let A1:=(eqB (decide (0<(s.1.length:Int))) true=true->eqB (decide (0<(s.1.length:Int))) true=true);let A2:=fun (k0:Nat)=>(An3 s k0);let A3:=fun (k0:Nat)=>(bif decide (0<(s.1.length:Int)) then Cu1 s (k0:Int) else false);((.r (.ret (str (Ah3++Ad7 (Sheet.errs s)))) (.loop (rows s) (fun k=>v 4 (I k)::v 1 (ad 1)::tk 100 9::v 3 (Lt 100 eS (An3 s k))::bx 1 (Ac0 s)) fun k0=>.r (.ret (B (Cu1 s (k0:Int)))) (.br (.loop (List.length (Sheet.cols s)) (fun i=>v 6 (I i)::tk 101 3::v 5 (Lt 101 eI (List.take i (Aa5 s k0)))::v 4 (I k0)::v 1 (ad 1)::tk 100 9::v 3 (Lt 100 eS (A2 k0))::bx 1 (Ac0 s)) fun k1=>.br .nil (.r (.ret (str (Bf9++Ad7 (A0 k0 k1)))) .nil)) (.r (.ret (str (Ae8 (A2 k0)))) .nil)))),(CO Gl 111 [str Ah3,L eI (Sheet.errs s)] (.ret (str (Ah3++Ad7 (Sheet.errs s))))/\(0=(↑(0:Nat):Int)/\(SEq (1:Nat) (fun i=>List.getD [List.map C.dem [C.v (Value.string (bs (Ah3++Ad7 s.2)))]] i []) (List.length (An3 s (0:Nat))) fun i=>eS (nth (An3 s (0:Nat)) i))/\(sR Ac2 s.1)/\sR eI s.2)/\∀ (k0:Nat),k0<=rows s->s.1.length<=maxLen->A1/\A1/\(eqB (decide (0<(s.1.length:Int))) true=true->CO Gl 42 [Aa6 s,I k0] (.ret (B (Cu1 s (k0:Int)))))/\(decide (0<(s.1.length:Int))=true->eqB (decide (0<(s.1.length:Int))) true=true)/\((A3 k0)=true->(0=(↑(0:Nat):Int)/\(0:Nat)=(0:Nat)/\(k0:Int)=(k0:Int)/\(sR eS (A2 k0))/\(sR Ac2 s.1)/\sR eI s.2)/\∀ (k1:Nat),k1<=List.length (Sheet.cols s)->s.1.length<=maxLen->(decide ((k1:Int)<(s.1.length:Int))=true->(0<=(k1:Int)/\(k1:Int)<(s.1.length:Int))/\(0<=(k0:Int)/\(k0:Int)<(List.length (nth s.1 k1):Int))/\(List.length (A0 k0 k1)+1)*8<=140737488355328/\List.length (A0 k0 k1)+1<=140737488355328/\iR ((k1:Int)+1)/\k1<List.length (Sheet.cols s)/\(k1:Int)+1=(↑(k1+1):Int)/\(SEq (List.length (A0 k0 k1)+1) (Aj0 (List.length (A0 k0 k1)) (fun i=>eI (nth (A0 k0 k1) i)) fun i=>List.getD [List.map C.dem [C.v (Value.int IntKind.i64 (nth (nth s.1 k1) k0))]] i []) (List.length (List.take (k1+1) (Aa5 s k0))) fun i=>eI (nth (List.take (k1+1) (Aa5 s k0)) i))/\(k0:Int)=(k0:Int)/\(sR eS (A2 k0))/\(sR Ac2 s.1)/\sR eI s.2)/\(decide ((k1:Int)<(s.1.length:Int))=false->CO Gl 111 [str Bf9,L eI (A0 k0 k1)] (.ret (str (Bf9++Ad7 (A0 k0 k1))))/\(List.length (A2 k0)+1)*16<=140737488355328/\List.length (A2 k0)+1<=140737488355328/\iR ((k0:Int)+1)/\k0<rows s/\(k0:Int)+1=(↑(k0+1):Int)/\(SEq (List.length (A2 k0)+1) (Aj0 (List.length (A2 k0)) (fun i=>eS (nth (A2 k0) i)) fun i=>List.getD [List.map C.dem [C.v (Value.string (bs (Bf9++Ad7 (A0 k0 k1))))]] i []) (List.length (An3 s (k0+1))) fun i=>eS (nth (An3 s (k0+1)) i))/\(sR Ac2 s.1)/\sR eI s.2))/\((A3 k0)=false->CO Gl 112 [L eS (A2 k0),I 229] (.ret (str (Ae8 (A2 k0))))/\bs (Ae8 (A2 k0))=bs (Ab6 s))))) Tryz.func67 (by kernel_rfl) (by kernel_rfl) ?_
 simp only [stdS,imp_self,implies_true,and_true]
 have g1:=h.c
 have g2:=h.r
 have hl1:=Cz4 h
 refine ⟨Dm8 S Ah3 s.errs (by decide) (by have:=h.e;omega) h.ne,⟨.of ⟨rfl,fun i hi=>by
  have:i=0:=by omega
  subst this
  rfl⟩,trivial⟩,fun k0 hk0 hm=>⟨fun hp=>row42 S s k0 (by have:=of_decide_eq_true hp;omega) (by omega),fun hc=>?_,fun hc=>?_⟩⟩
 ·rw [Bool.and_eq_true,decide_eq_true_eq] at hc
  have hkr:k0<rows s:=by have:=Aj4.1 hc.2;omega
  have hnl:=Ak8 s k0
  have hrl:=Au2 s k0
  refine fun k1 hk1 hm2=>⟨fun hd=>?_,fun hd=>?_⟩
  ·have hlt:k1<s.cols.length:=by have:=of_decide_eq_true hd;omega
   have hcl:=h.eq k1 hlt
   have ht:((Aa5 s k0).take k1).length<=1000:=by rw [List.length_take];omega
   exact ⟨⟨by omega,by omega⟩,⟨by omega,by omega⟩,by omega,by omega,(Aa1 _).2 (by omega),hlt,by omega,Ak2 (by omega) (by unfold Aa5;rw [Ae6 hlt];rfl),trivial⟩
  ·have hke:k1=s.cols.length:=by have:=of_decide_eq_false hd;omega
   have ht:(Aa5 s k0).take k1=Aa5 s k0:=List.take_of_length_le (by omega)
   rw [ht]
   exact ⟨Dm8 S Bf9 (Aa5 s k0) (by decide) (by omega) (h.nc k0 hkr),by omega,by omega,(Aa1 _).2 (by omega),hkr,by omega,Ac5 (f:=eS) (Ce2 s k0) rfl,trivial⟩
 ·have hke:k0=rows s:=by
   rcases Nat.lt_or_ge k0 (rows s) with h1|h1
   ·have h0:0<s.cols.length:=by
     rcases Nat.eq_zero_or_pos s.cols.length with hz|hz
     ·have:rows s=0:=by
       unfold rows col
       rw [List.eq_nil_of_length_eq_zero hz]
       rfl
      omega
     ·exact hz
    have:Cu1 s k0=true:=Aj4.2 ⟨by omega,by omega⟩
    rw [this,Bool.and_true] at hc
    have:=of_decide_eq_false hc
    omega
   ·omega
  subst hke
  exact ⟨Cz S (Ae4 s) hl1.1 hl1.2,rfl⟩
open Go Go.Vc
theorem mk_ok {s:Sheet} (h1:1<=s.cols.length) (h2:s.cols.length<=3) (h3:s.errs.length=s.cols.length) (h4:1<=rows s) (h5:rows s<=6)
  (h6:∀ i,i<s.cols.length->(nth s.cols i).length=rows s/\(nth s.cols i).all num=true/\0<=nth s.errs i/\nth s.errs i<=2):s.ok=true:=by
 unfold Sheet.ok
 simp only [Bool.and_eq_true,beq_iff_eq,Aj4,List.all_eq_true,List.mem_range]
 refine ⟨by omega,h3,fun i hi=>?_⟩
 obtain ⟨g1,g2,g3,g4⟩:=h6 i hi
 unfold Ba9 isCol col
 simp only [Bool.and_eq_true,beq_iff_eq,Aj4]
 exact ⟨⟨g2,by omega⟩,g1,g3,g4⟩
theorem Bm9 {s:Sheet} (hs:s.ok=true):1<=s.cols.length/\s.cols.length<=3/\s.errs.length=s.cols.length/\1<=rows s/\rows s<=6/\
  ∀ i,i<s.cols.length->(nth s.cols i).length=rows s/\(nth s.cols i).all num=true/\0<=nth s.errs i/\nth s.errs i<=2:=by
 obtain ⟨l1,l2,l3,l4⟩:=Af4 hs
 obtain ⟨c1,c2,c3,c4,c5,c6⟩:=Ac3 (l4 0 (by omega))
 exact ⟨l1,l2,l3,c3,c4,fun i hi=>by
  obtain ⟨c1,c2,c3,c4,c5,c6⟩:=Ac3 (l4 i hi)
  exact ⟨c1,c2,c5,c6⟩⟩
/-! a hand more -/
section
variable {s:Sheet} {w:List Int} {e:Int}
end
/-! hands in another order -/
section
variable {s:Sheet} {a b:Nat}
structure Mix (s x:Sheet) (f:Nat->Nat):Prop where
 len:x.cols.length=s.cols.length
 lt:∀ h,h<s.cols.length->f h<s.cols.length
 inv:∀ h,f (f h)=h
 col:∀ h,h<s.cols.length->nth x.cols h=nth s.cols (f h)
 err:∀ h,h<s.cols.length->nth x.errs h=nth s.errs (f h)
end
section
variable {s x:Sheet} {f:Nat->Nat}
theorem Mix.symm (M:Mix s x f):Mix x s f:=
 ⟨M.len.symm,fun h hh=>by rw [M.len] at hh ⊢;exact M.lt h hh,M.inv,fun h hh=>by rw [M.len] at hh;rw [M.col _ (M.lt h hh),M.inv],fun h hh=>by rw [M.len] at hh;rw [M.err _ (M.lt h hh),M.inv]⟩
theorem Mix.rows (M:Mix s x f) (hs:s.ok=true):Hn.rows x=Hn.rows s:=by
 obtain ⟨l1,l2,l3,l4,l5,l6⟩:=Bm9 hs
 unfold Hn.rows Hn.col
 rw [M.col 0 (by omega),(l6 _ (M.lt 0 (by omega))).1]
 rfl
theorem Mix.ok (M:Mix s x f) (hs:s.ok=true) (hl:x.errs.length=x.cols.length):x.ok=true:=by
 obtain ⟨l1,l2,l3,l4,l5,l6⟩:=Bm9 hs
 have hr:=M.rows hs
 refine mk_ok (by rw [M.len];omega) (by rw [M.len];omega) hl (by omega) (by omega) fun i hi=>?_
 rw [M.len] at hi
 rw [M.col i hi,M.err i hi,hr]
 exact l6 _ (M.lt i hi)
theorem Mix.agrees (M:Mix s x f) (hs:s.ok=true) {c:List Int} (hc:c.length=Hn.rows s) (h:Hn.agrees s c=true):Hn.agrees x c=true:=by
 have hr:=M.rows hs
 rw [Am6 (by rw [hr];exact hc)]
 intro i hi
 rw [M.len] at hi
 rw [M.col i hi,M.err i hi,hr]
 exact (Am6 hc).1 h _ (M.lt i hi)
theorem Mix.isR (M:Mix s x f) (hs:s.ok=true) {c:List Int} (h:Hn.isR s c):Hn.isR x c:=
 ⟨by rw [M.rows hs];exact h.1,h.2.1,M.agrees hs h.1 h.2.2⟩
theorem Mix.cell (M:Mix s x f) {h:Nat} (hh:h<s.cols.length) (i:Nat):Hn.cell x h i=Hn.cell s (f h) i:=by unfold Hn.cell;rw [M.col h hh]
theorem Mix.cands1 (M:Mix s x f) {r:Nat} {y:Int} (h:y∈cands x r):y∈cands s r:=by
 obtain ⟨j,hj,h⟩:=(Aq1 x r y).1 h
 rw [M.len] at hj
 refine (Aq1 s r y).2 ⟨f j,M.lt j hj,?_⟩
 unfold B94 at h ⊢
 rw [M.cell hj,M.cell hj] at h
 exact h
theorem Mix.cands (M:Mix s x f) (r:Nat):Hn.cands x r=Hn.cands s r:=At8 (As2 x r) (As2 s r) fun _=>⟨M.cands1,M.symm.cands1⟩
theorem Mix.listAt (M:Mix s x f) (r:Nat):Hn.listAt x r=Hn.listAt s r:=by unfold Hn.listAt;rw [M.cands]
theorem Mix.mem (M:Mix s x f) (hs:s.ok=true) (hx:x.ok=true) (c:List Int):c∈Aa2 x↔c∈Aa2 s:=by
 have hr:=M.rows hs
 rw [Ar6 hs,Ar6 hx,hr]
 constructor
 ·rintro ⟨h1,h2,h3⟩
  exact ⟨h1,fun i hi=>by rw [<-M.listAt];exact h2 i hi,M.symm.agrees hx (by rw [hr];exact h1) h3⟩
 ·rintro ⟨h1,h2,h3⟩
  exact ⟨h1,fun i hi=>by rw [M.listAt];exact h2 i hi,M.agrees hs h1 h3⟩
theorem Mix.pos (M:Mix s x f) (hs:s.ok=true) (hx:x.ok=true) (h:0<(Aa2 s).length):0<(Aa2 x).length:=List.length_pos_of_mem ((M.mem hs hx _).2 (Ab5 h))
theorem Mix.first (M:Mix s x f) (hs:s.ok=true) (hx:x.ok=true) (h:0<(Aa2 s).length):Ba2 (Aa2 x)=Ba2 (Aa2 s):=by
 have h2:=M.pos hs hx h
 exact B86 (Bv9 h ((M.mem hs hx _).1 (Bw h2))) (Bv9 h2 ((M.mem hs hx _).2 (Bw h)))
theorem Mix.val (M:Mix s x f) (hs:s.ok=true) (hx:x.ok=true) (r:Nat):Bj7 (Aa2 x) r=Bj7 (Aa2 s) r:=by
 refine At8 (A58 _ r) (A58 _ r) fun y=>?_
 rw [Bi6,Bi6]
 exact ⟨fun ⟨c,h1,h2⟩=>⟨c,(M.mem hs hx c).1 h1,h2⟩,fun ⟨c,h1,h2⟩=>⟨c,(M.mem hs hx c).2 h1,h2⟩⟩
theorem Mix.open (M:Mix s x f) (hs:s.ok=true) (hx:x.ok=true) (r:Nat):isOpen x (Aa2 x) r=isOpen s (Aa2 s) r:=by
 unfold isOpen
 rw [M.val hs hx,M.cands]
theorem Mix.wrongAt (M:Mix s x f) (hs:s.ok=true) (hx:x.ok=true) (h0:0<(Aa2 s).length) {h r:Nat} (hh:h<s.cols.length):Hn.wrongAt x (Aa2 x) h r=Hn.wrongAt s (Aa2 s) (f h) r:=by
 rw [Bf,Bf,M.cell hh]
 have hm:=M.mem hs hx
 exact Dq1 (M.pos hs hx h0) h0 ⟨fun g c hc=>g c ((hm c).2 hc),fun g c hc=>g c ((hm c).1 hc)⟩ ⟨fun g c hc=>g c ((hm c).2 hc),fun g c hc=>g c ((hm c).1 hc)⟩
theorem Mix.sameR (M:Mix s x f) {r:Nat} (h:Hn.sameR s r s.cols.length=true):Hn.sameR x r x.cols.length=true:=by
 have h1:=Bl7.1 h
 rw [Bl7,M.len]
 intro i hi
 rw [M.cell hi,M.cell (by omega),h1 _ (M.lt i hi),h1 _ (M.lt 0 (by omega))]
end
/-! the other sign -/
section
variable {s:Sheet}
end
/-! the decimals -/
def Dx1 (m:Nat):List UInt8:=if m<10 then [UInt8.ofNat (48+m)] else if m<100 then [UInt8.ofNat (48+m / 10),UInt8.ofNat (48+m % 10)] else [UInt8.ofNat (48+m / 100),UInt8.ofNat (48+m / 10 % 10),UInt8.ofNat (48+m % 10)]
theorem dec_S {n:Int} (h:sm n):dec n=Dx1 n.toNat:=by
 obtain ⟨h0,h1⟩:=h
 have one:∀ m:Int,0<=m->m<10->dec m=[UInt8.ofNat (48+m.toNat)]:=fun m h0 h1=>by
  rw [B29 h0 h1]
  congr 2
  omega
 have tl:∀ m:Int,0<=m->UInt8.ofNat (48+m % 10).toNat=UInt8.ofNat (48+m.toNat % 10):=fun m h0=>by congr 1;omega
 unfold Dx1
 by_cases h10:n<10
 ·rw [if_pos (by omega),one n h0 h10]
 ·rw [if_neg (by omega)]
  by_cases h100:n<100
  ·rw [if_pos (by omega),Bp8 (by omega),one _ (by omega) (by omega),tl n h0,show (n / 10).toNat=n.toNat / 10 by omega]
   rfl
  ·rw [if_neg (by omega),Bp8 (by omega),Bp8 (n:=n / 10) (by omega),one _ (by omega) (by omega),tl n h0,tl (n / 10) (by omega),show (n / 10).toNat=n.toNat / 10 by omega,show (n / 10 / 10).toNat=n.toNat / 100 by omega]
   rfl
theorem Cp4:∀ m:Nat,m<1000->((Dx1 m).all Al6&&(Cw2 (Dx1 m)&&(decide (1<=(Dx1 m).length)&&(Cd2 (Dx1 m)==(m:Int)))))=true:=by decide +kernel
theorem Cv2 {m:Nat} (h:m<1000) {c:UInt8} (hc:c∈Dx1 m):Al6 c=true:=by
 have:=Cp4 m h
 rw [Bool.and_eq_true] at this
 exact List.all_eq_true.1 this.1 c hc
theorem Bp9 {n:Int} (h:sm n) {c:UInt8} (hc:c∈dec n):Al6 c=true:=by
 rw [dec_S h] at hc
 exact Cv2 (by have:=h.1;have:=h.2;omega) hc
theorem neg_sm {n:Int} (h:si n) (hn:n<0):sm (-n):=by
 have:=h.1
 exact ⟨by omega,by omega⟩
theorem pos_sm {n:Int} (h:si n) (hn:0<=n):sm n:=⟨hn,h.2⟩
theorem C79 {n:Int} (h:si n) {c:UInt8} (hc:Al6 c=false) (h45:c≠45):c ∉ Ah5 n:=fun hh=>by
 rcases Int.lt_or_le n 0 with hn|hn
 ·rw [B30 hn] at hh
  rcases List.mem_cons.1 hh with h1|h1
  ·exact h45 h1
  ·rw [Bp9 (neg_sm h hn) h1] at hc;cases hc
 ·rw [Aw9 hn] at hh
  rw [Bp9 (pos_sm h hn) hh] at hc;cases hc
theorem C78 {n:Int} (h:sm n):Cw2 (dec n)=true/\1<=(dec n).length/\Cd2 (dec n)=n:=by
 have h2:=Cp4 n.toNat (by have:=h.1;have:=h.2;omega)
 rw [<-dec_S h,Bool.and_eq_true,Bool.and_eq_true,Bool.and_eq_true,decide_eq_true_eq,beq_iff_eq] at h2
 exact ⟨h2.2.1,h2.2.2.1,by rw [h2.2.2.2];have:=h.1;omega⟩
/-! lines -/
theorem Cm (rows:List (List UInt8)):∀ k,k<=rows.length->Aq rows k=(rows.take k).flatMap fun r=>r++[10]
 |0,_=>by simp [Aq]
 |k+1,h=>by
  rw [Aq,Cm rows k (by omega),Af5 (by omega),List.flatMap_append]
  simp
theorem B71 (rows:List (List UInt8)):Aq rows rows.length=rows.flatMap fun r=>r++[10]:=by
 rw [Cm rows _ (Nat.le_refl _),List.take_length]
theorem Bk3 (c:UInt8) (e:List UInt8):∀ (rows:List (List UInt8)),(∀ r∈rows,c ∉ r)->Aa4 c ((rows.flatMap fun r=>r++[c])++e)=rows++Aa4 c e
 | [],_=>rfl
 |r::rows,h=>by
  have ih:=Bk3 c e rows fun x hx=>h x (List.mem_cons_of_mem _ hx)
  rw [List.flatMap_cons,List.append_assoc,List.append_assoc,List.singleton_append,Bb8 c _ _ (h r List.mem_cons_self),ih]
  rfl
theorem Bn:∀ {l:List Int},(∀ n∈l,si n)->(10:UInt8) ∉ Ad7 l
 | [],_=>by simp [Ad7]
 |n::l,h=>by
  have ih:=Bn (l:=l) fun x hx=>h x (List.mem_cons_of_mem _ hx)
  have e:Ad7 (n::l)=32::(Ah5 n++Ad7 l):=by unfold Ad7;simp
  have h1:=C79 (h n List.mem_cons_self) (c:=10) rfl (by decide)
  rw [e]
  simp only [List.mem_cons,List.mem_append,not_or]
  exact ⟨by decide,h1,ih⟩
def B19 (l:List Int):List UInt8:=Ah3++Ad7 l
def rowW (l:List Int):List UInt8:=Bf9++Ad7 l
def tl (r:List UInt8):List (List UInt8):=(Aa4 32 r).drop 1
def nsR (r:List UInt8):List Int:=(tl r).map Aq9
def okR (r:List UInt8):Bool:=(tl r).all okS
theorem C48:(32:UInt8) ∉ Ah3/\(10:UInt8) ∉ Ah3:=by decide
theorem Dv4:(32:UInt8) ∉ Bf9/\(10:UInt8) ∉ Bf9:=by decide
def Ax7:List (List Int)->List (List UInt8)
 | []=>[]
 |l::r=>B19 l::r.map rowW
theorem Cf5 {ls:List (List Int)} (h:∀ l∈ls,∀ n∈l,si n):∀ r∈Ax7 ls,(10:UInt8) ∉ r:=by
 intro r hr
 cases ls with
 |nil=>exact absurd hr List.not_mem_nil
 |cons l ls=>
  rcases List.mem_cons.1 hr with h1|h1
  ·subst h1
   unfold B19
   rw [List.mem_append,not_or]
   exact ⟨C48.2,Bn (h l List.mem_cons_self)⟩
  ·obtain ⟨x,hx,rfl⟩:=List.mem_map.1 h1
   unfold rowW
   rw [List.mem_append,not_or]
   exact ⟨Dv4.2,Bn (h x (List.mem_cons_of_mem _ hx))⟩
/-! the seal -/
theorem Bq2 (w:List UInt8) (i:Nat):∀ k,0<=A56 w i k
 |0=>Int.le_refl _
 |k+1=>by
  have:=Bq2 w i k
  unfold A56
  have h2:(0:Int)<=((nth w k).toNat:Int)*((k:Int)+1)*((i:Int)+1):=by
   have:((nth w k).toNat:Int)*((k:Int)+1)*((i:Int)+1)=(((nth w k).toNat*(k+1)*(i+1):Nat):Int):=by push_cast;rfl
   rw [this];exact Int.natCast_nonneg _
  omega
theorem Am9 (rows:List (List UInt8)):∀ i,0<=checkTo rows i
 |0=>Int.le_refl _
 |i+1=>by
  have h1:=Am9 rows i
  have h2:=Bq2 (nth rows i) i (nth rows i).length
  unfold checkTo
  omega
theorem B36 (rows:List (List UInt8)):0<=Ad9 rows/\Ad9 rows<229:=by
 have h:=Am9 rows rows.length
 unfold Ad9
 rw [Int.tmod_eq_emod_of_nonneg h]
 omega
theorem Ax (rows:List (List UInt8)):(0<=Int.tdiv (Ad9 rows) 100/\Int.tdiv (Ad9 rows) 100<10)/\(0<=Int.tmod (Int.tdiv (Ad9 rows) 10) 10/\Int.tmod (Int.tdiv (Ad9 rows) 10) 10<10)/\(0<=Int.tmod (Ad9 rows) 10/\Int.tmod (Ad9 rows) 10<10)/\
  Ad9 rows=100*Int.tdiv (Ad9 rows) 100+10*Int.tmod (Int.tdiv (Ad9 rows) 10) 10+Int.tmod (Ad9 rows) 10:=by
 have h:=B36 rows
 have h2:0<=Ad9 rows / 10:=by omega
 rw [Int.tdiv_eq_ediv_of_nonneg h.1,Int.tdiv_eq_ediv_of_nonneg h.1,Int.tmod_eq_emod_of_nonneg h2,Int.tmod_eq_emod_of_nonneg h.1]
 omega
theorem A06 (rows:List (List UInt8)):sm (Int.tdiv (Ad9 rows) 100)/\sm (Int.tmod (Int.tdiv (Ad9 rows) 10) 10)/\sm (Int.tmod (Ad9 rows) 10):=by
 obtain ⟨h1,h2,h3,_⟩:=Ax rows
 exact ⟨⟨h1.1,by omega⟩,⟨h2.1,by omega⟩,⟨h3.1,by omega⟩⟩
theorem B3 {n:Int} (h:sm n) {c:UInt8} (hc:Al6 c=false):c ∉ dec n:=fun hh=>by
 rw [Bp9 h hh] at hc;cases hc
def Aj6 (rows:List (List UInt8)):List UInt8:=Dh8++dec (Int.tdiv (Ad9 rows) 100)++dec (Int.tmod (Int.tdiv (Ad9 rows) 10) 10)++dec (Int.tmod (Ad9 rows) 10)
theorem Cz0 (rows:List (List UInt8)):(10:UInt8) ∉ Aj6 rows:=by
 obtain ⟨h1,h2,h3⟩:=A06 rows
 unfold Aj6
 simp only [List.mem_append,not_or]
 exact ⟨⟨⟨by decide,B3 h1 rfl⟩,B3 h2 rfl⟩,B3 h3 rfl⟩
theorem B6 (rows:List (List UInt8)) (h:∀ r∈rows,(10:UInt8) ∉ r):Aa4 10 (Ae8 rows)=rows++[Aj6 rows,[]]:=by
 have e:Ae8 rows=(rows.flatMap fun r=>r++[10])++(Aj6 rows++10::[]):=by
  unfold Ae8 Aj6
  rw [B71]
  simp only [List.append_assoc]
 rw [e,Bk3 10 _ rows h,Bb8 10 _ _ (Cz0 rows)]
 rfl
/-! reading -/
def mid (s:List UInt8):List (List UInt8):=(Aa4 10 s).take ((Aa4 10 s).length - 2)
def B33 (n:Nat) (rs:List (List Int)):List (List Int):=(List.range n).map fun h=>rs.map fun l=>nth l h
def shT:List (List Int)->Sheet
 | []=>⟨[],[]⟩
 |l::r=>⟨B33 l.length r,l⟩
def Cg7:List (List Int)->Bool
 | []=>false
 |l::r=>decide (0<l.length)&&(l.all (fun n=>decide (0<=n))&&r.all fun x=>x.length==l.length)
def Bd (s:List UInt8):Option Sheet:=bif decide (3<=(Aa4 10 s).length)&&((mid s).all okR&&(Cg7 ((mid s).map nsR)&&(Ae8 (Ax7 ((mid s).map nsR))==s))) then some (shT ((mid s).map nsR)) else none
theorem Bj0 {n:Nat} {rs:List (List Int)} {h:Nat} (hh:h<n):nth (B33 n rs) h=rs.map fun l=>nth l h:=by
 unfold B33
 rw [Ae6 (by rw [List.length_range];exact hh),Ab4 hh]
theorem Bq (n:Nat) (rs:List (List Int)):(B33 n rs).length=n:=by unfold B33;rw [List.length_map,List.length_range]
theorem By2 {l:List Int} {r:List (List Int)} (h:0<l.length):rows (shT (l::r))=r.length:=by
 show (nth (B33 l.length r) 0).length=_
 rw [Bj0 h,List.length_map]
theorem Cm9 {α:Type} [Inhabited α] {a b:List α} (hl:a.length=b.length) (h:∀ i,i<a.length->nth a i=nth b i):a=b:=by
 refine List.ext_getElem hl fun i h1 h2=>?_
 rw [<-Aj3 h1,<-Aj3 h2]
 exact h i h1
theorem Bn1 {s:Sheet} {r h:Nat} (hh:h<s.cols.length):nth (Aa5 s r) h=nth (nth s.cols h) r:=by
 unfold Aa5
 rw [Ae6 hh]
theorem Bk7 {l:List Int} {r:List (List Int)} (hr:∀ x∈r,x.length=l.length) {i:Nat} (hi:i<r.length):Aa5 (shT (l::r)) i=nth r i:=by
 have hc:(shT (l::r)).cols.length=l.length:=Bq _ _
 refine Cm9 (by rw [Ak8,hc,hr _ (Ab5 hi)]) fun h hh=>?_
 rw [Ak8,hc] at hh
 rw [Bn1 (by rw [hc];exact hh)]
 show nth (nth (B33 l.length r) h) i=_
 rw [Bj0 hh,Ae6 hi]
theorem Bp0 {l:List Int} {r:List (List Int)} (h:Cg7 (l::r)=true):0<l.length/\(∀ n∈l,0<=n)/\∀ x∈r,x.length=l.length:=by
 unfold Cg7 at h
 rw [Bool.and_eq_true,Bool.and_eq_true,decide_eq_true_eq,List.all_eq_true,List.all_eq_true] at h
 exact ⟨h.1,fun n hn=>of_decide_eq_true (h.2.1 n hn),fun x hx=>eq_of_beq (h.2.2 x hx)⟩
theorem Cy2 {ls:List (List Int)} (h:Cg7 ls=true):Ae4 (shT ls)=Ax7 ls:=by
 cases ls with
 |nil=>cases h
 |cons l r=>
  obtain ⟨h1,h2,h3⟩:=Bp0 h
  unfold Ae4 An3
  rw [By2 h1]
  show B19 l::_=B19 l::_
  congr 1
  refine Cm9 (by rw [List.length_map,List.length_map,List.length_range]) fun i hi=>?_
  rw [List.length_map,List.length_range] at hi
  rw [Ae6 (by rw [List.length_range];exact hi),Ab4 hi,Ae6 hi]
  show Bf9++Ad7 (Aa5 (shT (l::r)) i)=Bf9++Ad7 (nth r i)
  rw [Bk7 h3 hi]
theorem De2 {ls:List (List Int)} (h:Cg7 ls=true):Ab6 (shT ls)=Ae8 (Ax7 ls):=by
 unfold Ab6
 rw [Cy2 h]
theorem Bc9 {s:List UInt8} {x:Sheet} (h:Bd s=some x):3<=(Aa4 10 s).length/\(mid s).all okR=true/\Cg7 ((mid s).map nsR)=true/\Ae8 (Ax7 ((mid s).map nsR))=s/\x=shT ((mid s).map nsR):=by
 unfold Bd at h
 cases hc:decide (3<=(Aa4 10 s).length)&&((mid s).all okR&&(Cg7 ((mid s).map nsR)&&(Ae8 (Ax7 ((mid s).map nsR))==s))) with
 |false=>rw [hc] at h;cases h
 |true=>
  rw [hc] at h
  obtain rfl:=Option.some.inj h
  simp only [Bool.and_eq_true,beq_iff_eq,decide_eq_true_eq] at hc
  exact ⟨hc.1,hc.2.1,hc.2.2.1,hc.2.2.2,rfl⟩
theorem Cs8 {s:List UInt8} {x:Sheet} (h:Bd s=some x):Ab6 x=s:=by
 obtain ⟨_,_,h3,h4,rfl⟩:=Bc9 h
 rw [De2 h3,h4]
def Ds7 (s:Sheet):List (List Int):=s.errs::(List.range (rows s)).map (Aa5 s)
theorem Ce3 (s:Sheet):Ax7 (Ds7 s)=Ae4 s:=by
 unfold Ax7 Ds7 Ae4 An3
 show B19 s.errs::_=B95 s::_
 rw [List.map_map]
 rfl
structure Sheet.txt (s:Sheet):Prop where
 c:0<s.cols.length
 l:s.errs.length=s.cols.length
 eq:∀ i,i<s.cols.length->(nth s.cols i).length=rows s
 pos:∀ n∈s.errs,0<=n
 ne:∀ n∈s.errs,si n
 nc:∀ r,r<rows s->∀ n∈Aa5 s r,si n
theorem De9 {s:Sheet} (h:s.txt):∀ l∈Ds7 s,∀ n∈l,si n:=by
 intro l hl
 rcases List.mem_cons.1 hl with h1|h1
 ·rw [h1];exact h.ne
 ·obtain ⟨i,hi,rfl⟩:=List.mem_map.1 h1
  exact h.nc i (List.mem_range.1 hi)
theorem Bt4 {s:Sheet} (h:s.txt):Aa4 10 (Ab6 s)=Ae4 s++[Aj6 (Ae4 s),[]]:=by
 unfold Ab6
 refine B6 _ ?_
 rw [<-Ce3]
 exact Cf5 (De9 h)
/-! what the Dc1 give is small -/
theorem Dq4 {w:List UInt8} (h:Cw2 w=true):0<=Cd2 w/\Cd2 w<1000:=by
 obtain ⟨h1,h2⟩:=Bp7 h
 have:=Cj0 (w:=w) (k:=w.length) h1 h2
 exact ⟨this.1,this.2.1⟩
theorem C3 (w:List UInt8):si (Aq9 w):=by
 unfold Aq9
 cases h:isS w with
 |false=>exact ⟨(by decide:(-1000:Int)<0),(by decide:(0:Int)<1000)⟩
 |true=>
  unfold isS at h
  rw [Bool.and_eq_true] at h
  have:=Dq4 h.2
  show si (Cw0 w*Cd2 (Aa7 w))
  unfold Cw0 si
  cases minus w<;>simp only [cond_true,cond_false]<;>omega
theorem nsR_si (r:List UInt8):∀ n∈nsR r,si n:=by
 intro n hn
 obtain ⟨w,_,rfl⟩:=List.mem_map.1 hn
 exact C3 w
theorem Dr9 {ls:List (List Int)} (h:Cg7 ls=true) (hs:∀ l∈ls,∀ n∈l,si n):(shT ls).txt:=by
 cases ls with
 |nil=>cases h
 |cons l r=>
  obtain ⟨h1,h2,h3⟩:=Bp0 h
  have hc:(shT (l::r)).cols.length=l.length:=Bq _ _
  refine ⟨by rw [hc];exact h1,hc.symm,fun i hi=>?_,h2,hs l List.mem_cons_self,fun i hi=>?_⟩
  ·rw [hc] at hi
   rw [By2 h1]
   show (nth (B33 l.length r) i).length=_
   rw [Bj0 hi,List.length_map]
  ·rw [By2 h1] at hi
   rw [Bk7 h3 hi]
   exact hs _ (List.mem_cons_of_mem _ (Ab5 hi))
theorem mid_si (s:List UInt8):∀ l∈(mid s).map nsR,∀ n∈l,si n:=by
 intro l hl
 obtain ⟨r,_,rfl⟩:=List.mem_map.1 hl
 exact nsR_si r
theorem C12 {s:List UInt8} {x:Sheet} (h:Bd s=some x):x.txt:=by
 obtain ⟨_,_,h3,_,rfl⟩:=Bc9 h
 exact Dr9 h3 (mid_si s)
theorem C24 {s:Sheet} (hs:s.ok=true):s.txt:=by
 obtain ⟨l1,l2,l3,l4,l5,l6⟩:=Bm9 hs
 refine ⟨by omega,l3,fun i hi=>(l6 i hi).1,fun n hn=>?_,fun n hn=>?_,fun r hr n hn=>?_⟩
 ·obtain ⟨i,hi,rfl⟩:=Am2 hn
  exact (l6 i (by omega)).2.2.1
 ·obtain ⟨i,hi,rfl⟩:=Am2 hn
  have:=(l6 i (by omega)).2.2
  exact ⟨by omega,by omega⟩
 ·obtain ⟨i,hi,rfl⟩:=Am2 hn
  rw [Ak8] at hi
  rw [Bn1 hi]
  have h:=l6 i hi
  have:=Aq0.1 (B04 h.2.1 r (by rw [h.1];exact hr))
  exact ⟨by omega,by omega⟩
structure GlOK (Gl:World->Prop):Prop where
 len:∀ w,Gl w->∃ m,w.cell? ⟨1,0,none⟩=some (.int .i64 m)
 tab:∀ w,Gl w->Lib.TabIs Tryz.prog w "internal/strconv.uint64pow10" .u64 Lib.pow10Tab
theorem C51 (n:Int):Lib.itoa n=Ah5 n:=by
 unfold Lib.itoa Ah5 dec
 by_cases h:n<0
 ·rw [if_pos h,decide_eq_true h,cond_true,show n.natAbs=(-n).toNat by omega]
 ·rw [if_neg h,decide_eq_false h,cond_false]
theorem B14 {Gl:World->Prop} (hG:GlOK Gl) (n:Int) (h:si n):CO Gl 133 [I n] (.ret (str (Ah5 n))):=by
 refine ⟨fn133,fun vis w vs hvis hgl hargs=>?_⟩
 rw [args1 hargs]
 refine (Tryz.strconv_Itoa n (by have:=h.1;omega) (by have:=h.2;omega) w (hG.tab w hgl)).mono fun e w' he=>?_
 obtain ⟨rfl,k,os,rfl⟩:=he
 rw [C51]
 have hs:w.heap.size<=(Sort.grow (w.drewN k) os).heap.size:=by
  show w.heap.size<=(w.heap++os).size
  rw [Array.size_append];omega
 exact ⟨⟨rfl,rfl,rfl,hs,fun j hj=>by
  show (w.heap++os)[j]?=w.heap[j]?
  exact Array.getElem?_append_left hj⟩,.string (bs (Ah5 n)),vis,rfl,fun _ _=>rfl,fun b hb=>hvis b (by omega),.v _ rfl⟩
theorem Ci8 {Gl} (S:SP Gl)  :CO Gl 154 [] (.ret (.d (.agg [.v (.string (bs Ah3)),.v (.string (bs Bf9))]))):=by
 refine Ag5 S (.nil) Tryz.func154 (by kernel_rfl) (ByteArray.mk #[(104:UInt8),(97:UInt8),(110:UInt8),(100:UInt8),(115:UInt8)]=bs Ah3/\ByteArray.mk #[(114:UInt8),(111:UInt8),(119:UInt8)]=bs Bf9) (by kernel_rfl) ?_
 exact ⟨rfl,rfl⟩
theorem Di2 {Gl} (S:SP Gl) (l:List Int):CO Gl 220 [.d (.agg [.l eI l])] (.ret (L eI l)):=by
 refine Ag5 S (.nil) Tryz.func220 (by kernel_rfl) (sR eI l) (by kernel_rfl) ?_
 exact Aa8 rfl
theorem Ds9 {Gl} (S:SP Gl) (l:List Int):CO Gl 221 [.d (.agg [.l eI l])] (.ret (L eI l)):=by
 refine Ag5 S (.nil) Tryz.func221 (by kernel_rfl) (sR eI l) (by kernel_rfl) ?_
 exact Aa8 rfl
theorem Cd {Gl} (S:SP Gl) (hG:GlOK Gl) (l:List Int) (hl:l.length<=1000) (hn:∀ n∈l,si n):CO Gl 132 [.d (.c (.i 121 true [.l eI l]))] (.ret (str (B19 l))):=by
 refine Ac4 S (let A0:=(T.d (D.agg [C.v (Value.string (bs Ah3)),C.v (Value.string (bs Bf9))]));((.ff (.r (.ret A0) (.r (.ret (L eI l)) (.loop l.length (fun k=>[v 17 (I k),v 16 (I l.length),v 15 (L eI l),v 4 (str (Ah3++Ad7 (List.take k l)))]) fun k0=>.br (.r (.ret (str (Ah5 (nth l k0)))) .nil) .nil)))),(false=false/\CO Gl 154 [] (.ret A0)/\((0:Int)<=0/\0<(↑(2:Nat):Int))/\CO Gl 220 [T.d (D.agg [C.l eI l])] (.ret (L eI l))/\(l.length<=maxLen->(0=(↑(0:Nat):Int)/\(l.length:Int)=(l.length:Int)/\(sR eI l)/\bs Ah3=bs (Ah3++Ad7 (List.take (0:Nat) l)))/\∀ (k0:Nat),k0<=l.length->(decide ((k0:Int)<(l.length:Int))=true->(0<=(k0:Int)/\(k0:Int)<(l.length:Int))/\CO Gl 133 [I (nth l k0)] (.ret (str (Ah5 (nth l k0))))/\(↑(ByteArray.size (ByteArray.mk #[(32:UInt8)])+ByteArray.size (bs (Ah5 (nth l k0)))):Int)<=IntKind.max IntKind.i64/\(↑(ByteArray.size (bs (Ah3++Ad7 (List.take k0 l)))+ByteArray.size (ByteArray.mk #[(32:UInt8)]++bs (Ah5 (nth l k0)))):Int)<=IntKind.max IntKind.i64/\iR ((k0:Int)+1)/\k0<l.length/\(k0:Int)+1=(↑(k0+1):Int)/\(l.length:Int)=(l.length:Int)/\(sR eI l)/\bs (Ah3++Ad7 (List.take k0 l))++(ByteArray.mk #[(32:UInt8)]++bs (Ah5 (nth l k0)))=bs (Ah3++Ad7 (List.take (k0+1) l)))/\(decide ((k0:Int)<(l.length:Int))=false->bs (Ah3++Ad7 (List.take k0 l))=bs (B19 l)))))) Tryz.func132 (by kernel_rfl) (by kernel_rfl) ?_
 dsimp only
 have hlen:∀ k,(Ad7 (l.take k)).length<=5*l.length:=fun k=>by
  have:=Az5 (l:=l.take k) fun x hx=>hn x (List.mem_of_mem_take hx)
  rw [List.length_take] at this
  omega
 have hw:Ah3.length<=5:=by decide
 have e32:({ data:=#[32] }:ByteArray)=bs [32]:=rfl
 simp only [stdS,imp_self,implies_true,and_true,e32]
 refine ⟨Ci8 S,by decide,Di2 S l,fun hm=>⟨by simp [Ad7],fun k hk=>⟨fun hlt=>?_,fun hlt=>?_⟩⟩⟩
 ·have hlt:k<l.length:=by simpa using hlt
  have hs:=hn (nth l k) (Ab5 hlt)
  have hd:=Bj hs
  have h1:=hlen k
  refine ⟨⟨by omega,by omega⟩,B14 hG _ hs,?_,?_,(Aa1 _).2 (by omega),hlt,rfl,?_⟩
  ·rw [Aq2,Ac,Ac]
   simp only [List.length_singleton]
   omega
  ·rw [As3,Aq2,Ac,Ac]
   simp only [List.length_append,List.length_singleton]
   omega
  ·rw [As3,As3,Bd1 hlt]
   simp
 ·have hlt:¬ k<l.length:=by simpa using hlt
  rw [List.take_of_length_le (by omega)]
  rfl
theorem Cc9 {Gl} (S:SP Gl) (hG:GlOK Gl) (l:List Int) (hl:l.length<=1000) (hn:∀ n∈l,si n):CO Gl 132 [.d (.c (.i 124 true [.l eI l]))] (.ret (str (rowW l))):=by
 refine Ac4 S (let A0:=(T.d (D.agg [C.v (Value.string (bs Ah3)),C.v (Value.string (bs Bf9))]));((.tt (.r (.ret A0) (.r (.ret (L eI l)) (.loop l.length (fun k=>[v 17 (I k),v 16 (I l.length),v 15 (L eI l),v 4 (str (Bf9++Ad7 (List.take k l)))]) fun k0=>.br (.r (.ret (str (Ah5 (nth l k0)))) .nil) .nil)))),(true=true/\CO Gl 154 [] (.ret A0)/\((0:Int)<=1/\1<(↑(2:Nat):Int))/\CO Gl 221 [T.d (D.agg [C.l eI l])] (.ret (L eI l))/\(l.length<=maxLen->(0=(↑(0:Nat):Int)/\(l.length:Int)=(l.length:Int)/\(sR eI l)/\bs Bf9=bs (Bf9++Ad7 (List.take (0:Nat) l)))/\∀ (k0:Nat),k0<=l.length->(decide ((k0:Int)<(l.length:Int))=true->(0<=(k0:Int)/\(k0:Int)<(l.length:Int))/\CO Gl 133 [I (nth l k0)] (.ret (str (Ah5 (nth l k0))))/\(↑(ByteArray.size (ByteArray.mk #[(32:UInt8)])+ByteArray.size (bs (Ah5 (nth l k0)))):Int)<=IntKind.max IntKind.i64/\(↑(ByteArray.size (bs (Bf9++Ad7 (List.take k0 l)))+ByteArray.size (ByteArray.mk #[(32:UInt8)]++bs (Ah5 (nth l k0)))):Int)<=IntKind.max IntKind.i64/\iR ((k0:Int)+1)/\k0<l.length/\(k0:Int)+1=(↑(k0+1):Int)/\(l.length:Int)=(l.length:Int)/\(sR eI l)/\bs (Bf9++Ad7 (List.take k0 l))++(ByteArray.mk #[(32:UInt8)]++bs (Ah5 (nth l k0)))=bs (Bf9++Ad7 (List.take (k0+1) l)))/\(decide ((k0:Int)<(l.length:Int))=false->bs (Bf9++Ad7 (List.take k0 l))=bs (rowW l)))))) Tryz.func132 (by kernel_rfl) (by kernel_rfl) ?_
 dsimp only
 have hlen:∀ k,(Ad7 (l.take k)).length<=5*l.length:=fun k=>by
  have:=Az5 (l:=l.take k) fun x hx=>hn x (List.mem_of_mem_take hx)
  rw [List.length_take] at this
  omega
 have hw:Bf9.length<=5:=by decide
 have e32:({ data:=#[32] }:ByteArray)=bs [32]:=rfl
 simp only [stdS,imp_self,implies_true,and_true,e32]
 refine ⟨Ci8 S,by decide,Ds9 S l,fun hm=>⟨by simp [Ad7],fun k hk=>⟨fun hlt=>?_,fun hlt=>?_⟩⟩⟩
 ·have hlt:k<l.length:=by simpa using hlt
  have hs:=hn (nth l k) (Ab5 hlt)
  have hd:=Bj hs
  have h1:=hlen k
  refine ⟨⟨by omega,by omega⟩,B14 hG _ hs,?_,?_,(Aa1 _).2 (by omega),hlt,rfl,?_⟩
  ·rw [Aq2,Ac,Ac]
   simp only [List.length_singleton]
   omega
  ·rw [As3,Aq2,Ac,Ac]
   simp only [List.length_append,List.length_singleton]
   omega
  ·rw [As3,As3,Bd1 hlt]
   simp
 ·have hlt:¬ k<l.length:=by simpa using hlt
  rw [List.take_of_length_le (by omega)]
  rfl
abbrev Ln:=Bool×List Int
def lnT (p:Ln):List UInt8:=bif p.1 then B19 p.2 else rowW p.2
def eLn (p:Ln):List C:=[.i (bif p.1 then 121 else 124) true [.l eI p.2]]
structure lnOK (p:Ln):Prop where
 len:p.2.length<=1000
 num:∀ n∈p.2,si n
 txt:(lnT p).length<=300
theorem Cr0 {Gl} (S:SP Gl) (hG:GlOK Gl) (p:Ln) (h:lnOK p):CO Gl 132 [.d (.c (.i (bif p.1 then 121 else 124) true [.l eI p.2]))] (.ret (str (lnT p))):=by
 obtain ⟨b,l⟩:=p
 cases b
 ·exact Cc9 S hG l h.len h.num
 ·exact Cd S hG l h.len h.num
theorem Cd7 {Gl} (S:SP Gl) (hG:GlOK Gl) (ls:List Ln) (hn:ls.length<=900) (h:∀ p∈ls,lnOK p):CO Gl 108 [.d (.c (.l eLn ls))] (.ret (str (Ae8 (ls.map lnT)))):=by
 refine Ac4 S (let A0:=fun (k0:Nat)=>(Int.tmod (checkTo (List.map lnT ls) k0) (229:Int));let A1:=(List.map lnT ls);let A2:=fun (k0:Nat)=>(lnT (nth ls k0));let A3:=fun (k0:Nat)=>(Int.tmod (Int.tdiv (A0 k0) (10:Int)) (10:Int));let A4:=fun (k0:Nat)=>(Int.tdiv (A0 k0) (100:Int));let A5:=fun (k0:Nat)=>(Ah5 (Int.tmod (A0 k0) (10:Int)));let A6:=(ls.length:Int);let A7:=fun (k0:Nat)=>(Aq A1 k0);let A8:=fun (k0:Nat)=>(↑(List.length (A2 k0)):Int);((.loop ls.length (fun i=>[v 11 (I i),v 10 (I ls.length),v 9 (T.d (D.c (C.l eLn ls))),v 4 (I (checkTo A1 i)),v 3 (str (Aq A1 i))]) fun k0=>.br (.r (.ret (str (A2 k0))) (.loop (List.length (A2 k0)) (fun k=>[v 20 (I k),v 19 (I (A8 k0)),v 11 (I k0),v 10 (I ls.length),v 9 (T.d (D.c (C.l eLn ls))),v 7 (str (A2 k0)),v 5 (I k0),v 4 (I (checkTo A1 k0+A56 (A2 k0) k0 k)),v 3 (str (A7 k0))]) fun k1=>.br .nil .nil)) (.r (.ret (str (Ah5 (A4 k0)))) (.r (.ret (str (Ah5 (A3 k0)))) (.r (.ret (str (A5 k0))) .nil)))),(ls.length<=maxLen->(0=(↑(0:Nat):Int)/\A6=A6/\(sR eLn ls)/\(0:Int)=checkTo A1 (0:Nat)/\ByteArray.mk #[]=bs (Aq A1 (0:Nat)))/\∀ (k0:Nat),k0<=ls.length->(decide ((k0:Int)<(ls.length:Int))=true->(0<=(k0:Int)/\(k0:Int)<A6)/\CO Gl 132 [T.d (D.c (C.i (bif Prod.fst (nth ls k0) then (121:TypeId) else (124:TypeId)) true [C.l eI (Prod.snd (nth ls k0))]))] (.ret (str (A2 k0)))/\(0=(↑(0:Nat):Int)/\(↑(ByteArray.size (bs (A2 k0))):Int)=(A8 k0)/\(k0:Int)=(k0:Int)/\A6=A6/\(sR eLn ls)/\bs (A2 k0)=bs (A2 k0)/\(k0:Int)=(k0:Int)/\checkTo A1 k0=checkTo A1 k0+A56 (A2 k0) k0 (0:Nat)/\bs (A7 k0)=bs (A7 k0))/\∀ (k1:Nat),k1<=List.length (A2 k0)->(decide ((k1:Int)<(↑(List.length (lnT (nth ls k0))):Int))=true->(0<=(k1:Int)/\(k1:Int)<(↑(ByteArray.size (bs (A2 k0))):Int))/\iR (Ad6 (bs (A2 k0)) k1)/\iR ((k1:Int)+1)/\iR (Ad6 (bs (A2 k0)) k1*((k1:Int)+1))/\iR ((k0:Int)+1)/\iR (Ad6 (bs (A2 k0)) k1*((k1:Int)+1)*((k0:Int)+1))/\iR (checkTo A1 k0+A56 (A2 k0) k0 k1+Ad6 (bs (A2 k0)) k1*((k1:Int)+1)*((k0:Int)+1))/\iR ((k1:Int)+1)/\k1<List.length (A2 k0)/\(k1:Int)+1=(↑(k1+1):Int)/\(A8 k0)=(A8 k0)/\(k0:Int)=(k0:Int)/\A6=A6/\(sR eLn ls)/\bs (A2 k0)=bs (A2 k0)/\(k0:Int)=(k0:Int)/\checkTo A1 k0+A56 (A2 k0) k0 k1+Ad6 (bs (A2 k0)) k1*((k1:Int)+1)*((k0:Int)+1)=checkTo A1 k0+A56 (A2 k0) k0 (k1+1)/\bs (A7 k0)=bs (A7 k0))/\(decide ((k1:Int)<(↑(List.length (lnT (nth ls k0))):Int))=false->(↑(ByteArray.size (bs (A2 k0))+ByteArray.size (ByteArray.mk #[(10:UInt8)])):Int)<=IntKind.max IntKind.i64/\(↑(ByteArray.size (bs (A7 k0))+ByteArray.size (bs (A2 k0)++ByteArray.mk #[(10:UInt8)])):Int)<=IntKind.max IntKind.i64/\iR ((k0:Int)+1)/\k0<ls.length/\(k0:Int)+1=(↑(k0+1):Int)/\A6=A6/\(sR eLn ls)/\checkTo A1 k0+A56 (A2 k0) k0 k1=checkTo A1 (k0+1)/\bs (A7 k0)++(bs (A2 k0)++ByteArray.mk #[(10:UInt8)])=bs (Aq A1 (k0+1))))/\(decide ((k0:Int)<(ls.length:Int))=false->(229:Int)≠(0:Int)/\(↑(ByteArray.size (bs (A7 k0))+ByteArray.size (ByteArray.mk #[(101:UInt8),(110:UInt8),(100:UInt8),(32:UInt8)])):Int)<=IntKind.max IntKind.i64/\((100:Int)≠(0:Int)/\iR (A4 k0))/\CO Gl 133 [I (A4 k0)] (.ret (str (Ah5 (A4 k0))))/\(↑(ByteArray.size (bs (A7 k0)++ByteArray.mk #[(101:UInt8),(110:UInt8),(100:UInt8),(32:UInt8)])+ByteArray.size (bs (Ah5 (A4 k0)))):Int)<=IntKind.max IntKind.i64/\((10:Int)≠(0:Int)/\iR (Int.tdiv (A0 k0) (10:Int)))/\(10:Int)≠(0:Int)/\CO Gl 133 [I (A3 k0)] (.ret (str (Ah5 (A3 k0))))/\(↑(ByteArray.size (bs (A7 k0)++ByteArray.mk #[(101:UInt8),(110:UInt8),(100:UInt8),(32:UInt8)]++bs (Ah5 (A4 k0)))+ByteArray.size (bs (Ah5 (A3 k0)))):Int)<=IntKind.max IntKind.i64/\(10:Int)≠(0:Int)/\CO Gl 133 [I (Int.tmod (A0 k0) (10:Int))] (.ret (str (A5 k0)))/\(↑(ByteArray.size (bs (A7 k0)++ByteArray.mk #[(101:UInt8),(110:UInt8),(100:UInt8),(32:UInt8)]++bs (Ah5 (A4 k0))++bs (Ah5 (A3 k0)))+ByteArray.size (bs (A5 k0))):Int)<=IntKind.max IntKind.i64/\(↑(ByteArray.size (bs (A7 k0)++ByteArray.mk #[(101:UInt8),(110:UInt8),(100:UInt8),(32:UInt8)]++bs (Ah5 (A4 k0))++bs (Ah5 (A3 k0))++bs (A5 k0))+ByteArray.size (ByteArray.mk #[(10:UInt8)])):Int)<=IntKind.max IntKind.i64/\bs (A7 k0)++ByteArray.mk #[(101:UInt8),(110:UInt8),(100:UInt8),(32:UInt8)]++bs (Ah5 (A4 k0))++bs (Ah5 (A3 k0))++bs (A5 k0)++ByteArray.mk #[(10:UInt8)]=bs (Ae8 A1))))) Tryz.func108 (by kernel_rfl) (by kernel_rfl) ?_
 dsimp only
 have e10:({ data:=#[10] }:ByteArray)=bs [10]:=rfl
 have e0:({ data:=#[] }:ByteArray)=bs []:=rfl
 have eE:({ data:=#[101,110,100,32] }:ByteArray)=bs Dh8:=rfl
 have hat:∀ i,i<ls.length->nth (ls.map lnT) i=lnT (nth ls i):=fun i hi=>Ae6 hi
 have hR:(ls.map lnT).length=ls.length:=List.length_map ..
 have hrl:∀ i,i<(ls.map lnT).length->(nth (ls.map lnT) i).length<=300:=fun i hi=>by
  rw [hat i (by omega)]
  exact (h _ (Ab5 (show i<ls.length by omega))).txt
 simp only [stdS,imp_self,implies_true,and_true,e10,e0,eE,Ac,As3,decide_eq_true_eq,decide_eq_false_iff_not]
 refine fun hm=>⟨⟨rfl,rfl⟩,fun k3 hk3=>⟨fun hlt=>?_,fun hlt=>?_⟩⟩
 ·have hlt:k3<ls.length:=by omega
  have hw:=hrl k3 (by omega)
  have hco:=Av7 hrl k3 (by omega) (by omega)
  have hou:=A93 hrl k3 (by omega)
  have e1:checkTo (ls.map lnT) (k3+1)=checkTo (ls.map lnT) k3+A56 (nth (ls.map lnT) k3) k3 (nth (ls.map lnT) k3).length:=rfl
  have e2:Aq (ls.map lnT) (k3+1)=Aq (ls.map lnT) k3++(nth (ls.map lnT) k3++[10]):=rfl
  rw [hat k3 hlt] at hw e1 e2
  refine ⟨⟨by omega,by omega⟩,Cr0 S hG _ (h _ (Ab5 hlt)),⟨by unfold A56;omega,trivial⟩,fun k4 hk4=>⟨fun hl4=>?_,fun hl4=>?_⟩⟩
  ·have hl4:k4<(lnT (nth ls k3)).length:=by omega
   generalize lnT (nth ls k3)=w at *
   have ht:=Cd8 (x:=nth w k4) (k:=k4) (i:=k3) (by omega) (by omega)
   have hsu:=B35 (w:=w) (i:=k3) (by omega) k4 (by omega)
   have hx:((nth w k4).toNat:Int)<256:=by have:=(nth w k4).toNat_lt;omega
   rw [Bq5 hl4]
   refine ⟨⟨by omega,by omega⟩,(Aa1 _).2 (by omega),(Aa1 _).2 (by omega),(Aa1 _).2 (by omega),(Aa1 _).2 (by omega),(Aa1 _).2 (by omega),(Aa1 _).2 (by omega),(Aa1 _).2 (by omega),hl4,by omega,?_,trivial⟩
   rw [A56,Int.add_assoc]
  ·have hl4:k4=(lnT (nth ls k3)).length:=by omega
   subst hl4
   refine ⟨by rw [Aq2];simp only [List.length_singleton];omega,by rw [Aq2];simp only [List.length_append,List.length_singleton];omega,(Aa1 _).2 (by omega),hlt,by omega,e1.symm,?_⟩
   rw [e2]
 ·obtain rfl:k3=ls.length:=by omega
  have hco:=Av7 hrl ls.length (by omega) (by omega)
  have hou:=A93 hrl ls.length (by omega)
  have htx:Ae8 (ls.map lnT)=Aq (ls.map lnT) ls.length++Dh8++dec (Int.tdiv (Int.tmod (checkTo (ls.map lnT) ls.length) 229) 100)++dec (Int.tmod (Int.tdiv (Int.tmod (checkTo (ls.map lnT) ls.length) 229) 10) 10)++dec (Int.tmod (Int.tmod (checkTo (ls.map lnT) ls.length) 229) 10)++[10]:=by
   unfold Ae8 Ad9
   rw [hR]
  rw [htx]
  have hM:0<=Int.tmod (checkTo (ls.map lnT) ls.length) 229/\Int.tmod (checkTo (ls.map lnT) ls.length) 229<229:=by
   rw [Int.tmod_eq_emod_of_nonneg hco.1]
   omega
  generalize Int.tmod (checkTo (ls.map lnT) ls.length) 229=M at *
  have h1':Int.tdiv M 100=M / 100:=Int.tdiv_eq_ediv_of_nonneg hM.1
  have h2':Int.tdiv M 10=M / 10:=Int.tdiv_eq_ediv_of_nonneg hM.1
  have h3':Int.tmod (M / 10) 10=M / 10 % 10:=Int.tmod_eq_emod_of_nonneg (by omega)
  have h4':Int.tmod M 10=M % 10:=Int.tmod_eq_emod_of_nonneg hM.1
  rw [h1',h2',h3',h4']
  have s1:sm (M / 100):=⟨by omega,by omega⟩
  have s2:sm (M / 10 % 10):=⟨by omega,by omega⟩
  have s3:sm (M % 10):=⟨by omega,by omega⟩
  have i1:si (M / 100):=⟨by omega,by omega⟩
  have i2:si (M / 10 % 10):=⟨by omega,by omega⟩
  have i3:si (M % 10):=⟨by omega,by omega⟩
  have d1:Ah5 (M / 100)=dec (M / 100):=Aw9 s1.1
  have d2:Ah5 (M / 10 % 10)=dec (M / 10 % 10):=Aw9 s2.1
  have d3:Ah5 (M % 10)=dec (M % 10):=Aw9 s3.1
  have t1:=B14 hG _ i1
  have t2:=B14 hG _ i2
  have t3:=B14 hG _ i3
  rw [d1] at t1 ⊢
  rw [d2] at t2 ⊢
  rw [d3] at t3 ⊢
  have l1:=Aw8 s1
  have l2:=Aw8 s2
  have l3:=Aw8 s3
  have lE:Dh8.length=4:=rfl
  refine ⟨by decide,?_,⟨by decide,(Aa1 _).2 (by omega)⟩,t1,?_,⟨by decide,(Aa1 _).2 (by omega)⟩,by decide,t2,?_,by decide,t3,?_,?_,rfl⟩
  all_goals
   rw [Aq2]
   try simp only [List.length_append,List.length_singleton]
   omega
end Go.Vc.Hn
set_option maxRecDepth 100000
namespace Go.Vc.Hn
open Go Go.Proofs Go.Vc Go.Proofs.YtncmcnpjmdpnaaaGreatDoor Go.ChangeShapes Go.WideShapes Go.ChangeAt Go.RowKit Go.Deep
theorem own:ownKnob Tryz.prog.godebug=none:=by kernel_rfl
theorem row1:(((begin Tryz.prog (fun _ _=>0) default).world.heap[1]?).bind Obj.row?)=some (#[.int .i64 0],3):=by kernel_rfl
theorem cells3:Tryz.prog.cellTypes Tryz.prog.depth 3=some [3]:=by kernel_rfl
theorem build3:Tryz.prog.buildable 3=true:=by kernel_rfl
theorem globs:1<Tryz.prog.globals.size:=Nat.le_of_ble_eq_true (by kernel_rfl)
theorem glL {W:World} (h:W.ShapedOpen Tryz.prog):∃ m,W.cell? ⟨1,0,none⟩=some (.int .i64 m):=by
 obtain ⟨cs,hc,hsz,hrow⟩:=h.1 1 _ _ globs row1
 obtain ⟨ts,hts,_,hall⟩:=hrow build3
 rw [cells3] at hts
 obtain rfl:=Option.some.inj hts
 have hsz:cs.size=1:=hsz
 have h0:cs[0]?=some cs[0]:=Array.getElem?_eq_getElem (by omega)
 obtain ⟨u,hu,hok⟩:=hall 0 _ h0
 obtain rfl:u=3:=(Option.some.inj hu).symm
 unfold Cell.ok at hok
 rw [Tryz.underlying3] at hok
 have hcell:W.cell? ⟨1,0,none⟩=some cs[0]:=by
  unfold World.cell?
  simp [hc]
 generalize cs[0]=v at hok hcell
 cases v with
 |int k n=>obtain ⟨rfl,_⟩:=hok;exact ⟨n,hcell⟩
 |_=>exact absurd hok (by simp)
def flatD:Nat->DataW Unit->List Value
 |n+1,.lit (.int k z)=>[.int k z]
 |n+1,.agg l=>l.flatMap (flatD n)
 |_,_=>[]
def B89 (x:DataW Unit):Obj->Obj
 | .cells _ t frozen=>.cells (flatD 4 x).toArray t frozen
 |o=>o
noncomputable def Bo (os:Os):World:=
 { World.holding Tryz.prog os ⟨#[],#[],[]⟩ with heap:=(((((World.holding Tryz.prog os ⟨#[],#[],[]⟩).heap.modify 4 (B89 Rows.laid_math_bits_deBruijn32tab)).modify 5 (B89 Rows.laid_math_bits_deBruijn64tab)).modify 0 (B89 Rows.laid_internal_strconv_uint64pow10)).modify 3 (B89 Rows.laid_unicode_utf8_acceptRanges)).modify 2 (B89 Rows.laid_unicode_utf8_first) }
def argS:Value:=.agg #[.slice none 0 0,.slice none 0 0]
def GlW (w:World):Prop:=(∃ m,w.cell? ⟨1,0,none⟩=some (.int .i64 m))/\Lib.TabIs Tryz.prog w "internal/strconv.uint64pow10" .u64 Lib.pow10Tab
theorem glOK:GlOK GlW:=⟨fun _ h=>h.1,fun _ h=>h.2⟩
theorem Dw2:Tryz.prog.globalNamed "internal/strconv.uint64pow10"=some 0:=by kernel_rfl
theorem Dd8 {w w':World} (hB:Below w.heap.size w w') (h:Lib.TabIs Tryz.prog w "internal/strconv.uint64pow10" .u64 Lib.pow10Tab):Lib.TabIs Tryz.prog w' "internal/strconv.uint64pow10" .u64 Lib.pow10Tab:=by
 unfold Lib.TabIs at h ⊢
 rw [<-h]
 have h0:0<w.heap.size:=by
  rcases Nat.eq_zero_or_pos w.heap.size with h1|h1
  ·exfalso
   have hn:w.heap[0]?=none:=Array.getElem?_eq_none (by omega)
   unfold World.var? at h
   rw [Dw2] at h
   simp [hn] at h
  ·exact h1
 unfold World.var?
 rw [Dw2]
 have:=hB.block 0 h0
 simp only [Option.bind_some,this]
theorem setW:Set Tryz.prog Y GlW:=⟨yok,fun w w' ⟨⟨m,h⟩,ht⟩ hB=>⟨⟨m,by rw [hB.cell (World.block_lt_of_cell? w _ h)];exact h⟩,Dd8 hB ht⟩,mixed⟩
theorem laid3:Rows.handsTrueRow.laid=("math/bits.deBruijn32tab",Rows.laid_math_bits_deBruijn32tab)::("math/bits.deBruijn64tab",Rows.laid_math_bits_deBruijn64tab)::("internal/strconv.uint64pow10",Lib.tabData .u64 Lib.pow10Tab)::Rows.handsTrueRow.laid.drop 3:=by kernel_rfl
theorem tabW {W:World} (h:laidMet Tryz.prog Rows.handsTrueRow.laid W):Lib.TabIs Tryz.prog W "internal/strconv.uint64pow10" .u64 Lib.pow10Tab:=by
 rw [laid3] at h
 exact Lib.tabIs_of_head (g:=0) (t:=213) (e:=191) (n:=20) Dw2 (by kernel_rfl) (by kernel_rfl) (by kernel_rfl) (by kernel_rfl) (by kernel_rfl) h.tail.tail
theorem Cu5:(Rows.handsTrueRow.laid.filter fun x=>x.2.handleName?.isSome)=[]:=by kernel_rfl
theorem glW {W:World} (h:W.ShapedOpen Tryz.prog) (hl:laidMetH Tryz.prog Rows.handsTrueRow.laid W):GlW W:=⟨glL h,tabW (by unfold laidMetH at hl;rw [Cu5] at hl;exact hl)⟩
end Go.Vc.Hn
set_option maxRecDepth 100000
namespace Go.Vc.Hn
open Go Go.Proofs Go.Proofs.YtncmcnpjmdpnaaaGreatDoor
def chs (l:List Nat):List Char:=l.map Char.ofNat
def Cu:List Char:=chs [104,97,114,110,101,115,115]
def kfSum:List Char:=chs [55,55,57,48,98,98,97,57,100,53,98,53,51,51,49,53,99,57,98,97,101,57,57,48,101,55,101,55,56,52,49,50,101,56,54,49,98,50,57,50,55,100,100,55,57,49,98,55,53,51,97,53,50,97,97,97,102,99,99,48,52,53,54,97]
def C5:List Char:=chs [99,117,116]
def B9:List (List Char):=chs [97,116]::([[69,114,114,111,114,115],[77,97,100,101],[70,105,114,115,116,115],[86,97,108,117,101,115],[84,114,117,101],[76,101,97,115,116],[78,101,120,116,115],[87,114,111,110,103,115],[66,111,116,104],[65,108,105,107,101],[77,111,114,101],[79,114,100,101,114],[83,105,103,110,115],[65,103,114,101,101,115],[80,114,105,110,116,115],[82,101,97,100,115],[83,112,111,105,108,116]]:List (List Nat)).map fun l=>chs ([101,112,104,101,109,101,114,105,115,116,47,101,112,104,101,109,101,114,105,115,116,108,97,119,48,50,46,72,97,110,100,115]++l)
def Dp0:List Char:=Cu++(kfSum::C5::B9).flatMap fun l=>Char.ofNat 32::l
theorem io:Tryz.prog.initOrder=String.ofList Dp0:=by kernel_rfl
theorem io2:Tryz.prog.initOrder.toList=Dp0:=by rw [io,String.toList_ofList]
theorem Dc1:wordsSigns Tryz.prog.initOrder.toList=Cu::kfSum::C5::B9:=by rw [io2];kernel_rfl
theorem sumOK:isSumSigns kfSum=true:=by kernel_rfl
theorem harOK:(Cu== "harness".toList)=true:=by kernel_rfl
theorem sumEq:kfSum=("7790bba9d5b53315c9bae990e7e78412e861b2927dd791b753a52aaafcc0456a":String).toList:=by kernel_rfl
theorem Dm1:behindMainWord (wordsSigns Tryz.prog.initOrder.toList)=C5::B9:=by
 rw [Dc1]
 show (if ((Cu== "harness".toList||Cu== "ownmain".toList)&&isSumSigns kfSum)=true then C5::B9 else Cu::kfSum::C5::B9)=_
 rw [harOK,sumOK]
 rfl
theorem C41 {P:Program} {h s:List Char} {r:List (List Char)} (hw:wordsSigns P.initOrder.toList=h::s::r) (h1:isSumSigns s=true) (h2:(h== "harness".toList)=true):P.mainIs=some (true,s):=by
 unfold Program.mainIs
 rw [hw]
 simp only [h1,h2,Bool.not_true,Bool.false_eq_true,if_false,if_true]
theorem Dv1 {P:Program} {c:List Char} {r:List (List Char)} (hw:behindMainWord (wordsSigns P.initOrder.toList)=c::r) (h1:(c== "gc".toList)=false) (h2:(c== "spec".toList)=false) (h3:(c== "cut".toList)=true):P.make=some .cut:=by
 unfold Program.make
 rw [hw]
 simp only [h1,h2,h3,Bool.or_false,Bool.true_or,Bool.false_eq_true,if_false,if_true]
theorem C75 {P:Program} {c:List Char} {r:List (List Char)} (hw:behindMainWord (wordsSigns P.initOrder.toList)=c::r) (h1:((stripLifts liftWords (c::r)).2.head?==some "cut".toList)=true) (h2:P.laysLater=false) (h3:P.bearsReflect=false)
  (h4:(stripLifts liftWords (c::r)).1.contains "leanrows"=false) (h5:P.doorFits (stripLifts liftWords (c::r)).1=true):P.mayEnter=true:=by
 unfold Program.mayEnter
 rw [hw]
 simp only [h1,h2,h3,h4,h5,Bool.not_false,Bool.or_true,Bool.and_self]
theorem enters:Tryz.prog.mayEnter=true:=C75 Dm1 (by kernel_rfl) (by kernel_rfl) (by kernel_rfl) (by kernel_rfl) (by kernel_rfl)
theorem makes:Tryz.prog.make=some .cut:=Dv1 Dm1 (by kernel_rfl) (by kernel_rfl) (by kernel_rfl)
theorem mainIs:Tryz.pinned.checked.prog.mainIs=some (true,("7790bba9d5b53315c9bae990e7e78412e861b2927dd791b753a52aaafcc0456a":String).toList):=by
 rw [<-sumEq]
 exact C41 (P:=Tryz.prog) Dc1 sumOK harOK
theorem lifts:Tryz.prog.headLifts.contains "finals"=false:=by
 unfold Program.headLifts
 rw [io2]
 kernel_rfl
theorem final:Tryz.prog.liftsFinal=false:=by
 unfold Program.liftsFinal
 rw [lifts,io2]
 kernel_rfl
theorem looks:Tryz.pinned.checked.prog.looks []=true:=by kernel_rfl
open Go Go.Proofs Go.Vc
theorem As0 {n:Int} (h0:0<=n) (h1:n<10):(dec n).length=1:=by rw [B29 h0 h1];rfl
/-! what a text's B7 are as long as -/
theorem Bt7 (c:UInt8):∀ l:List UInt8,((Aa4 c l).map fun w=>w.length+1).sum=l.length+1
 | []=>rfl
 |x::r=>by
  have ih:=Bt7 c r
  unfold Aa4
  cases hx:x==c with
  |true=>
   simp only [cond_true,List.map_cons,List.sum_cons,List.length_nil,List.length_cons]
   omega
  |false=>
   simp only [cond_false]
   cases hs:Aa4 c r with
   |nil=>exact absurd hs (At7 c r)
   |cons p q=>
    rw [hs] at ih
    simp only [List.map_cons,List.sum_cons,List.length_cons] at ih ⊢
    omega
theorem Du5 {w:List UInt8} (h:okS w=true):Ah5 (Aq9 w)=w:=by
 unfold okS at h
 rw [Bool.and_eq_true,beq_iff_eq] at h
 unfold Aq9
 rw [h.1,cond_true]
 exact h.2
theorem Bn0:∀ {ws:List (List UInt8)},ws.all okS=true->(Ad7 (ws.map Aq9)).length=(ws.map fun w=>w.length+1).sum
 | [],_=>rfl
 |w::ws,h=>by
  rw [List.all_cons,Bool.and_eq_true] at h
  have ih:=Bn0 h.2
  have e:Ad7 ((w::ws).map Aq9)=32::(Ah5 (Aq9 w)++Ad7 (ws.map Aq9)):=by unfold Ad7;simp
  rw [e,Du5 h.1,List.length_cons,List.length_append,ih,List.map_cons,List.sum_cons]
  omega
theorem B62 {r:List UInt8} (h:okR r=true):(Ad7 (nsR r)).length<=r.length:=by
 have h1:=Bt7 32 r
 have h2:(Ad7 (nsR r)).length=((tl r).map fun w=>w.length+1).sum:=Bn0 h
 unfold tl at h2
 cases hs:Aa4 32 r with
 |nil=>exact absurd hs (At7 32 r)
 |cons p q=>
  rw [hs] at h1 h2
  simp only [List.map_cons,List.sum_cons,List.drop_succ_cons,List.drop_zero] at h1 h2
  omega
theorem A91 (c:UInt8):∀ (l p:List UInt8),p∈Aa4 c l->p.length<=l.length
 | [],p,h=>by
  simp only [Aa4,List.mem_singleton] at h
  subst h;simp
 |x::r,p,h=>by
  unfold Aa4 at h
  cases hx:x==c with
  |true=>
   rw [hx,cond_true] at h
   rcases List.mem_cons.1 h with rfl|h
   ·simp
   ·have:=A91 c r p h
    simp only [List.length_cons];omega
  |false=>
   rw [hx,cond_false] at h
   cases hs:Aa4 c r with
   |nil=>exact absurd hs (At7 c r)
   |cons a q=>
    rw [hs] at h
    rcases List.mem_cons.1 h with rfl|h
    ·have:=A91 c r a (by rw [hs];exact List.mem_cons_self)
     simp only [List.length_cons];omega
    ·have:=A91 c r p (by rw [hs];exact List.mem_cons_of_mem _ h)
     simp only [List.length_cons];omega
theorem Ab1 (c:UInt8) (l:List UInt8):1<=(Aa4 c l).length/\(Aa4 c l).length<=l.length+1:=by
 rw [A32]
 have:=List.count_le_length (a:=c) (l:=l)
 omega
theorem As9 {s:List UInt8}:(mid s).length=(Aa4 10 s).length - 2:=by
 unfold mid
 rw [List.length_take]
 omega
theorem Ak4 {s:List UInt8} {i:Nat} (h:i<(mid s).length):nth (mid s) i=nth (Aa4 10 s) i:=by
 rw [As9] at h
 unfold mid
 exact A39 h
theorem Az3 {s:List UInt8} {i:Nat} (h:i<(mid s).length):(nth (mid s) i).length<=s.length:=by
 rw [Ak4 h]
 rw [As9] at h
 exact A91 10 s _ (Ab5 (by omega))
theorem Ah7 {r:List UInt8}:(tl r).length=(Aa4 32 r).length - 1:=by
 unfold tl
 rw [List.length_drop]
theorem tl_nth {r:List UInt8} {i:Nat} (h:i<(tl r).length):nth (tl r) i=nth (Aa4 32 r) (1+i):=by
 unfold tl
 rw [Ar4]
theorem Du8 (r:List UInt8):(nsR r).length=(tl r).length:=by unfold nsR;rw [List.length_map]
theorem Bf7 (r:List UInt8):(nsR r).length<=r.length:=by
 rw [Du8,Ah7]
 have:=Ab1 32 r
 omega
/-! a sheet's text -/
theorem B98 {m:Nat}:∀ {rows:List (List UInt8)},(∀ r∈rows,r.length<=m)->(rows.flatMap fun r=>r++[10]).length<=(m+1)*rows.length
 | [],_=>by simp
 |r::rows,h=>by
  have ih:=B98 (rows:=rows) fun x hx=>h x (List.mem_cons_of_mem _ hx)
  have:=h r List.mem_cons_self
  rw [List.flatMap_cons,List.length_append,List.length_append,List.length_singleton,List.length_cons,Nat.mul_add]
  omega
theorem B79:∀ {l:List Int},(∀ n∈l,0<=n/\n<10)->(Ad7 l).length=2*l.length
 | [],_=>rfl
 |n::l,h=>by
  have ih:=B79 (l:=l) fun x hx=>h x (List.mem_cons_of_mem _ hx)
  have e:Ad7 (n::l)=32::(Ah5 n++Ad7 l):=by unfold Ad7;simp
  obtain ⟨h0,h1⟩:=h n List.mem_cons_self
  rw [e,List.length_cons,List.length_append,ih,Aw9 h0,As0 h0 h1,List.length_cons]
  omega
theorem De5 (rows:List (List UInt8)):(Aj6 rows).length=7:=by
 obtain ⟨h1,h2,h3,_⟩:=Ax rows
 unfold Aj6 Dh8
 rw [List.length_append,List.length_append,List.length_append,As0 h1.1 h1.2,As0 h2.1 h2.2,As0 h3.1 h3.2]
 rfl
theorem Dr2 (s:Sheet):Ab6 s=((Ae4 s).flatMap fun r=>r++[10])++(Aj6 (Ae4 s)++[10]):=by
 unfold Ab6 Ae8 Aj6
 rw [B71]
 simp only [List.append_assoc]
theorem Bo5 {s:Sheet} (hs:s.ok=true):(B95 s).length<=11:=by
 obtain ⟨l1,l2,l3,l4,l5,l6⟩:=Bm9 hs
 unfold B95
 rw [List.length_append,B79 fun n hn=>by
  obtain ⟨i,hi,rfl⟩:=Am2 hn
  have:=(l6 i (by omega)).2.2
  omega]
 rw [show Ah3.length=5 from rfl]
 omega
theorem Ck2 {s:Sheet} (hs:s.ok=true) {r:Nat} (hr:r<rows s):(Ds8 s r).length<=18:=by
 have h1:=Az5 (l:=Aa5 s r) ((C24 hs).nc r hr)
 have h2:=Ak8 s r
 have h3:=(Af4 hs).2.1
 unfold Ds8
 rw [List.length_append,show Bf9.length=3 from rfl]
 omega
theorem Dn4 {s:Sheet} (hs:s.ok=true):s.low:=by
 obtain ⟨l1,l2,l3,l4,l5,l6⟩:=Bm9 hs
 have ht:=C24 hs
 exact ⟨by omega,by omega,by omega,ht.eq,ht.ne,ht.nc,by have:=Bo5 hs;omega,fun r hr=>by have:=Ck2 hs hr;omega⟩
theorem Bc5 {s:Sheet} (hs:s.ok=true):(Ae4 s).length=rows s+1/\∀ i,i<(Ae4 s).length->(nth (Ae4 s) i).length<=18:=by
 refine ⟨by unfold Ae4;rw [Au2],fun i hi=>?_⟩
 unfold Ae4 at hi ⊢
 rw [Au2] at hi
 cases i with
 |zero=>
  have:=Bo5 hs
  show (B95 s).length<=18
  omega
 |succ i=>rw [Bu0 (by omega)];exact Ck2 hs (by omega)
theorem Dd7 {s:Sheet} (hs:s.ok=true):(Ab6 s).length<=150:=by
 obtain ⟨l1,l2,l3,l4,l5,l6⟩:=Bm9 hs
 have h1:=B98 (m:=18) (rows:=(Ae4 s).drop 1) fun r hr=>by
  obtain ⟨i,hi,rfl⟩:=Am2 (List.mem_of_mem_drop hr)
  exact (Bc5 hs).2 i hi
 have h2:=(Bc5 hs).1
 have h3:=Bo5 hs
 have e:Ae4 s=B95 s::(Ae4 s).drop 1:=rfl
 rw [Dr2,List.length_append,List.length_append,De5,List.length_singleton]
 rw [List.length_drop,h2] at h1
 have e2:((Ae4 s).flatMap fun r=>r++[10]).length=(B95 s).length+1+(((Ae4 s).drop 1).flatMap fun r=>r++[10]).length:=by
  rw [e,List.flatMap_cons,List.length_append,List.length_append,List.length_singleton]
  rfl
 rw [e2]
 have e3:rows s+1 - 1=rows s:=by omega
 rw [e3] at h1
 have:(18+1)*rows s<=19*6:=Nat.mul_le_mul_left 19 l5
 omega
def Cl (s:List UInt8):Sheet:=bif decide (150<s.length) then ⟨[],[]⟩ else match Bd s with
 |some x=>bif x.ok then x else ⟨[],[]⟩
 |none=>⟨[],[]⟩
def Cl0 (s:List UInt8):Int:=bif decide (150<s.length) then 3 else match Bd s with
 |some x=>bif x.ok then 0 else 2
 |none=>4
/-! another digit -/
theorem B57 (c:UInt8) (y:UInt8) (hy:y≠c):∀ (l:List UInt8) (p:Nat),p<l.length->nth l p≠c->
  ∃ i k,i<(Aa4 c l).length/\k<(nth (Aa4 c l) i).length/\nth (nth (Aa4 c l) i) k=nth l p/\Aa4 c (l.set p y)=(Aa4 c l).set i ((nth (Aa4 c l) i).set k y)
 | [],p,h,_=>by simp at h
 |x::r,0,_,hx=>by
  have hx:x≠c:=hx
  have hxc:(x==c)=false:=beq_eq_false_iff_ne.2 hx
  have hyc:(y==c)=false:=beq_eq_false_iff_ne.2 hy
  have hne:=At7 c r
  rw [List.set_cons_zero]
  unfold Aa4
  rw [hxc,hyc,cond_false,cond_false]
  cases hs:Aa4 c r with
  |nil=>exact absurd hs hne
  |cons P Q=>exact ⟨0,0,by simp,by simp [nth],rfl,rfl⟩
 |x::r,p+1,h,hx=>by
  have hp:p<r.length:=by simpa using h
  have hx':nth r p≠c:=hx
  obtain ⟨i,k,h1,h2,h3,h4⟩:=B57 c y hy r p hp hx'
  rw [List.set_cons_succ]
  unfold Aa4
  cases hxc:x==c with
  |true=>
   simp only [cond_true]
   refine ⟨i+1,k,by simpa using h1,h2,h3,?_⟩
   rw [h4]
   rfl
  |false=>
   simp only [cond_false]
   rw [h4]
   cases hs:Aa4 c r with
   |nil=>exact absurd hs (At7 c r)
   |cons P Q=>
    rw [hs] at h1 h2 h3
    cases i with
    |zero=>exact ⟨0,k+1,by simp,by simpa [nth] using h2,h3,rfl⟩
    |succ i=>exact ⟨i+1,k,by simpa using h1,h2,h3,rfl⟩
theorem Bd2 {α:Type} [Inhabited α] {l:List α} {i:Nat} {x:α} (h:i<l.length):nth (l.set i x) i=x:=by
 unfold nth
 rw [List.getD_eq_getElem?_getD,List.getElem?_set_self h]
 rfl
theorem A40 {α:Type} [Inhabited α] {l:List α} {i j:Nat} {x:α} (h:i≠j):nth (l.set i x) j=nth l j:=by
 unfold nth
 rw [List.getD_eq_getElem?_getD,List.getD_eq_getElem?_getD,List.getElem?_set_ne h]
theorem Cp7 (w:List UInt8) (i k:Nat) (y:UInt8) (hk:k<w.length):∀ m,m<=w.length->A56 (w.set k y) i m=A56 w i m+if k<m then ((y.toNat:Int) - ((nth w k).toNat:Int))*((k:Int)+1)*((i:Int)+1) else 0
 |0,_=>by simp [A56]
 |m+1,hm=>by
  have ih:=Cp7 w i k y hk m (by omega)
  unfold A56
  rw [ih]
  rcases Nat.lt_trichotomy k m with h|h|h
  ·rw [if_pos h,if_pos (by omega),A40 (by omega)]
   omega
  ·subst h
   rw [if_neg (by omega),if_pos (by omega),Bd2 hk,Int.sub_mul,Int.sub_mul]
   omega
  ·rw [if_neg (by omega),if_neg (by omega),A40 (by omega)]
   omega
theorem Bq3 (rows:List (List UInt8)) (i:Nat) (r:List UInt8) (hi:i<rows.length):∀ m,m<=rows.length->checkTo (rows.set i r) m=checkTo rows m+if i<m then A56 r i r.length - A56 (nth rows i) i (nth rows i).length else 0
 |0,_=>by simp [checkTo]
 |m+1,hm=>by
  have ih:=Bq3 rows i r hi m (by omega)
  unfold checkTo
  rw [ih]
  rcases Nat.lt_trichotomy i m with h|h|h
  ·rw [if_pos h,if_pos (by omega),A40 (by omega)]
   omega
  ·subst h
   rw [if_neg (by omega),if_pos (by omega),Bd2 hi]
   omega
  ·rw [if_neg (by omega),if_neg (by omega),A40 (by omega)]
   omega
theorem Cl4:∀ d:Nat,d<10->∀ k:Nat,k<20->∀ i:Nat,i<9->(d*k*i) % 229=0->d*k*i=0:=by decide +kernel
theorem Ch4 {n m:Int} (hn:sm n) (hm:sm m) (h:dec n=dec m):n=m:=by
 have h1:=(C78 hn).2.2
 rw [h,(C78 hm).2.2] at h1
 exact h1.symm
theorem De6 {r s:List (List UInt8)} (h:Aj6 r=Aj6 s):Ad9 r=Ad9 s:=by
 obtain ⟨a1,a2,a3,a4⟩:=Ax r
 obtain ⟨b1,b2,b3,b4⟩:=Ax s
 obtain ⟨c1,c2,c3⟩:=A06 r
 obtain ⟨d1,d2,d3⟩:=A06 s
 unfold Aj6 at h
 rw [List.append_assoc,List.append_assoc,List.append_assoc,List.append_assoc] at h
 have h1:=List.append_cancel_left h
 obtain ⟨e1,h2⟩:=List.append_inj h1 (by rw [As0 a1.1 a1.2,As0 b1.1 b1.2])
 obtain ⟨e2,e3⟩:=List.append_inj h2 (by rw [As0 a2.1 a2.2,As0 b2.1 b2.2])
 rw [a4,b4,Ch4 c1 d1 e1,Ch4 c2 d2 e2,Ch4 c3 d3 e3]
theorem Ca5 {c:UInt8} (h:Al6 c=true):48<=c.toNat/\c.toNat<=57:=by
 unfold Al6 at h
 simpa using h
theorem Dy8 {α:Type} [Inhabited α] {a t:List α} {i:Nat} {x:α} (h:i<a.length):(a++t).set i x=a.set i x++t:=by
 rw [List.set_append,if_pos h]
theorem spoilt {b:Sheet} (hb:b.ok=true) {p:Nat} {y:UInt8} (hp:p<(Ab6 b).length) (hd:Al6 (nth (Ab6 b) p)=true) (hy:Al6 y=true) (hne:y≠nth (Ab6 b) p):Bd ((Ab6 b).set p y)=none:=by
 cases hx:Bd ((Ab6 b).set p y) with
 |none=>rfl
 |some b'=>
  exfalso
  have ht:=Cs8 hx
  have tx:=C24 hb
  have tx':=C12 hx
  have hsp:=Bt4 tx
  have hy10:y≠10:=fun e=>by subst e;cases hy
  have hd10:nth (Ab6 b) p≠10:=fun e=>by rw [e] at hd;cases hd
  obtain ⟨i,k,h1,h2,h3,h4⟩:=B57 10 y hy10 (Ab6 b) p hp hd10
  obtain ⟨l1,l2,l3,l4,l5,l6⟩:=Bm9 hb
  obtain ⟨hbl,hbr⟩:=Bc5 hb
  have hsp':=Bt4 tx'
  rw [ht,h4,hsp] at hsp'
  rw [hsp] at h1 h2 h3
  have hl2:=congrArg List.length hsp'
  simp only [List.length_set,List.length_append,List.length_cons,List.length_nil] at hl2
  rcases Nat.lt_trichotomy i (Ae4 b).length with hi|hi|hi
  ·rw [Ai8 hi] at h2 h3 hsp'
   rw [Dy8 hi] at hsp'
   obtain ⟨e1,e2⟩:=List.append_inj hsp' (by rw [List.length_set];omega)
   have e3:Aj6 (Ae4 b)=Aj6 (Ae4 b'):=(List.cons.inj e2).1
   have e4:=De6 e3
   rw [<-e1] at e4
   unfold Ad9 at e4
   rw [List.length_set] at e4
   have c1:=Am9 (Ae4 b) (Ae4 b).length
   have c2:=Am9 ((Ae4 b).set i ((nth (Ae4 b) i).set k y)) (Ae4 b).length
   rw [Int.tmod_eq_emod_of_nonneg c1,Int.tmod_eq_emod_of_nonneg c2] at e4
   have e5:=Bq3 (Ae4 b) i ((nth (Ae4 b) i).set k y) hi (Ae4 b).length (Nat.le_refl _)
   rw [if_pos hi,List.length_set,Cp7 _ i k y h2 _ (Nat.le_refl _),if_pos h2] at e5
   have hrow:=hbr i hi
   rw [h3] at e5
   have hyb:=Ca5 hy
   have hdb:=Ca5 hd
   have hyd:y.toNat≠(nth (Ab6 b) p).toNat:=fun e=>hne (UInt8.toNat_inj.1 e)
   generalize nth (Ab6 b) p=z at *
   generalize checkTo (Ae4 b) (Ae4 b).length=A at *
   generalize checkTo ((Ae4 b).set i ((nth (Ae4 b) i).set k y)) (Ae4 b).length=B at *
   have hBA:B=A+((y.toNat:Int) - (z.toNat:Int))*((k:Int)+1)*((i:Int)+1):=by
    rw [e5];omega
   rcases Nat.lt_or_ge y.toNat z.toNat with hlt|hge
   ·obtain ⟨d,hdd⟩:∃ d:Nat,z.toNat=y.toNat+d:=⟨z.toNat - y.toNat,by omega⟩
    have e6:((y.toNat:Int) - (z.toNat:Int))*((k:Int)+1)*((i:Int)+1)=-((d*(k+1)*(i+1):Nat):Int):=by
     rw [show ((y.toNat:Int) - (z.toNat:Int))=-(d:Int) by omega]
     push_cast
     rw [Int.neg_mul,Int.neg_mul]
    have hz:=Cl4 d (by omega) (k+1) (by omega) (i+1) (by omega) (by omega)
    have:0<d*(k+1)*(i+1):=Nat.mul_pos (Nat.mul_pos (by omega) (by omega)) (by omega)
    omega
   ·obtain ⟨d,hdd⟩:∃ d:Nat,y.toNat=z.toNat+d:=⟨y.toNat - z.toNat,by omega⟩
    have e6:((y.toNat:Int) - (z.toNat:Int))*((k:Int)+1)*((i:Int)+1)=((d*(k+1)*(i+1):Nat):Int):=by
     rw [show ((y.toNat:Int) - (z.toNat:Int))=(d:Int) by omega]
     push_cast
     rfl
    have hz:=Cl4 d (by omega) (k+1) (by omega) (i+1) (by omega) (by omega)
    have:0<d*(k+1)*(i+1):=Nat.mul_pos (Nat.mul_pos (by omega) (by omega)) (by omega)
    omega
  ·subst hi
   have hn:nth (Ae4 b++[Aj6 (Ae4 b),[]]) (Ae4 b).length=Aj6 (Ae4 b):=by rw [Ae1 (Nat.le_refl _),Nat.sub_self];rfl
   rw [hn] at h2 h3 hsp'
   rw [List.set_append,if_neg (by omega),Nat.sub_self] at hsp'
   obtain ⟨e1,e2⟩:=List.append_inj hsp' (by omega)
   have e3:(Aj6 (Ae4 b)).set k y=Aj6 (Ae4 b'):=(List.cons.inj e2).1
   rw [<-e1] at e3
   have e4:nth ((Aj6 (Ae4 b)).set k y) k=nth (Aj6 (Ae4 b)) k:=congrArg (fun l=>nth l k) e3
   rw [Bd2 h2,h3] at e4
   exact hne e4
  ·have:i=(Ae4 b).length+1:=by
    simp only [List.length_append,List.length_cons,List.length_nil] at h1
    omega
   subst this
   rw [Ae1 (by omega)] at h2
   have e:(Ae4 b).length+1 - (Ae4 b).length=1:=by omega
   rw [e] at h2
   exact absurd h2 (by simp [nth])
open Go Go.Proofs Go.Vc Go.RowKit
def Bs1 (s:Sheet) (k:Nat):List Ln:=(true,s.errs)::(List.range k).map fun r=>(false,Aa5 s r)
theorem Dh6 (s:Sheet) (k:Nat):(Bs1 s k).length=k+1:=by unfold Bs1;rw [List.length_cons,List.length_map,List.length_range]
theorem C45 (s:Sheet) (k:Nat):Bs1 s (k+1)=Bs1 s k++[(false,Aa5 s k)]:=by
 unfold Bs1
 rw [List.range_succ,List.map_append]
 rfl
theorem C44 (s:Sheet) (k:Nat):(Bs1 s k).map lnT=An3 s k:=by
 unfold Bs1 An3
 rw [List.map_cons,List.map_map]
 rfl
theorem Dv2 {s:Sheet} (h:s.low):∀ p∈Bs1 s (rows s),lnOK p:=by
 intro p hp
 unfold Bs1 at hp
 rcases List.mem_cons.1 hp with rfl|hp
 ·exact ⟨by have:=h.e;show s.errs.length<=1000;omega,h.ne,h.th⟩
 ·obtain ⟨r,hr,rfl⟩:=List.mem_map.1 hp
  have hr:=List.mem_range.1 hr
  refine ⟨?_,h.nc r hr,h.tr r hr⟩
  show (Aa5 s r).length<=1000
  rw [Ak8]
  have:=h.c
  omega
theorem Ap8 {Gl} (S:SP Gl) (hG:GlOK Gl) (s:Sheet) (hs:s.ok=true):CO Gl 65 [Aa6 s] (.ret (.tup [.c (.v (.string (bs (Ab6 s)))),.c (Ci 0)])):=by
 refine Ac4 S (let A0:=fun (k0:Nat)=>(Ae8 (List.map lnT (Bs1 s k0)));((.r (.ret (B true)) (.ff (.loop (rows s) (fun k=>v 19 (I k)::v 18 (I (↑(rows s):Int))::v 1 (ad 1)::tk 100 158::v 4 (Lt 100 eLn (Bs1 s k))::bx 1 (Ac0 s)) fun k0=>.br (.r (.ret (L eI (Aa5 s k0))) .nil) (.r (.ret (str (A0 k0))) .nil)))),(CO Gl 81 [Aa6 s] (.ret (B true))/\false=false/\((0:Int)<=0/\0<(s.1.length:Int))/\(List.length (nth s.1 (Int.toNat (0:Int)))<=maxLen->(0=(↑(0:Nat):Int)/\(↑(List.length (nth s.1 (Int.toNat (0:Int)))):Int)=(↑(rows s):Int)/\(SEq (1:Nat) (fun i=>List.getD [List.map C.dem [C.i (121:Nat) true [C.s Tag.n s.2.length fun i=>eI (nth s.2 i)]]] i []) (List.length (Bs1 s (0:Nat))) fun i=>eLn (nth (Bs1 s (0:Nat)) i))/\(sR Ac2 s.1)/\sR eI s.2)/\∀ (k0:Nat),k0<=rows s->(decide ((k0:Int)<(↑(rows s):Int))=true->CO Gl 103 [Aa6 s,I k0] (.ret (L eI (Aa5 s k0)))/\(List.length (Bs1 s k0)+1)*16<=140737488355328/\List.length (Bs1 s k0)+1<=140737488355328/\iR ((k0:Int)+1)/\k0<rows s/\(k0:Int)+1=(↑(k0+1):Int)/\(↑(rows s):Int)=(↑(rows s):Int)/\(SEq (List.length (Bs1 s k0)+1) (Aj0 (List.length (Bs1 s k0)) (fun i=>eLn (nth (Bs1 s k0) i)) fun i=>List.getD [List.map C.dem [C.i (124:Nat) true [C.s Tag.n (List.length (Aa5 s k0)) fun i=>eI (nth (Aa5 s k0) i)]]] i []) (List.length (Bs1 s (k0+1))) fun i=>eLn (nth (Bs1 s (k0+1)) i))/\(sR Ac2 s.1)/\sR eI s.2)/\(decide ((k0:Int)<(↑(rows s):Int))=false->CO Gl 108 [T.d (D.c (C.l eLn (Bs1 s k0)))] (.ret (str (A0 k0)))/\bs (A0 k0)=bs (Ab6 s)/\(0:Int)=0))))) Tryz.func65 (by kernel_rfl) (by kernel_rfl) ?_
 obtain ⟨l1,l2,l3,l4⟩:=Af4 hs
 have hrs:=(Ac3 (l4 0 (by omega))).2.2
 have hl0:(nth s.cols (Int.toNat 0)).length=rows s:=rfl
 have hcl:∀ i,i<s.cols.length->(nth s.cols i).length=rows s:=fun i hi=>(Ac3 (l4 i hi)).1
 have hll:=Dh6 s
 simp only [stdS,imp_self,implies_true,and_true]
 refine ⟨Ak S s hs,by omega,fun hm=>⟨⟨rfl,.of ⟨by rw [hll],fun i hi=>by
  have:i=0:=by omega
  subst this
  rfl⟩,trivial⟩,fun k hk=>⟨fun hd=>?_,fun hd=>?_⟩⟩⟩
 ·have hlt:k<rows s:=by have:=of_decide_eq_true hd;omega
  have:=hll k
  exact ⟨A38 S s k (fun i hi=>by rw [hcl i hi];exact hlt) (by omega),by omega,by omega,(Aa1 _).2 (by omega),hlt,by omega,Ac5 (x:=(false,Aa5 s k)) (C45 s k) rfl,trivial⟩
 ·have hke:k=rows s:=by have:=of_decide_eq_false hd;omega
  subst hke
  refine ⟨Cd7 S hG (Bs1 s (rows s)) (by rw [hll];omega) (Dv2 (Dn4 hs)),?_,trivial⟩
  rw [C44]
  rfl
theorem Dr4 {Gl} (S:SP Gl) (s:ByteArray):CO Gl 135 [B true,.d (.c (.v (.string s)))] (.ret (.tup [])):=by
 refine Ag5 S (.ff .nil) Tryz.func135 (by kernel_rfl) (false=false/\True) (by kernel_rfl) ?_
 exact ⟨rfl,trivial⟩
theorem De {Gl} (S:SP Gl) (s:ByteArray):CO Gl 135 [B false,.d (.c (.v (.string s)))] (.pan (.iface 135 (.agg #[.string s]))):=by
 refine Ag5 S (.tt .nil) Tryz.func135 (by kernel_rfl) (true=true/\Value.iface (135:Nat) (Value.agg (Array.mk [Value.string s]))=Value.iface (135:Nat) (Value.agg (Array.mk [Value.string s]))) (by kernel_rfl) ?_
 exact ⟨rfl,rfl⟩
theorem Al8 {Gl} (S:SP Gl) (x:Bool) (s:ByteArray) (h:x=true):CO Gl 135 [B x,.d (.c (.v (.string s)))] (.ret (.tup [])):=by subst h;exact Dr4 S s
theorem B53 {Gl} (S:SP Gl) (x:Bool) (s:ByteArray) (h:x=false):CO Gl 135 [B x,.d (.c (.v (.string s)))] (.pan (.iface 135 (.agg #[.string s]))):=by subst h;exact De S s
theorem fn157:Cc8 Tryz.prog 157:=⟨Tryz.f157,by kernel_rfl,by kernel_rfl,by kernel_rfl⟩
theorem Cx8 (w:List UInt8):Lib.trimPrefix w [45]=Aa7 w:=by
 unfold Lib.trimPrefix Aa7 minus Lib.hasPrefix
 cases w with
 |nil=>rfl
 |cons x w=>
  by_cases h:x=45
  ·subst h;rfl
  ·have h1:(nth (x::w) 0==45)=false:=beq_eq_false_iff_ne.2 h
   rw [h1,Bool.and_false,cond_false,if_neg]
   simp [List.isPrefixOf,Ne.symm h]
theorem Cd6 {Gl:World->Prop} (w:List UInt8):CO Gl 157 [str w,str [45]] (.ret (str (Aa7 w))):=by
 refine B32 fn157 fun vis wd vs _ ha=>⟨.string (bs (Aa7 w)),.v _ rfl,?_⟩
 rw [args2 ha]
 have:=Tryz.strings_TrimPrefix (bs w) (bs [45]) wd
 rw [Ax0,Ax0,Cx8] at this
 exact this
theorem Bq7 (w:List UInt8):(Aa7 w==w)=!minus w:=by
 unfold Aa7
 cases h:minus w
 ·simp
 ·rw [cond_true,Bool.not_true,beq_eq_false_iff_ne]
  intro he
  have hl:=congrArg List.length he
  unfold minus at h
  rw [Bool.and_eq_true,decide_eq_true_eq] at h
  rw [List.length_drop] at hl
  omega
theorem Dm5 (w:List UInt8):(minus w=true->Cw0 w*Cd2 (Aa7 w)=-Ak1 (Aa7 w) (Aa7 w).length)/\(minus w=false->Cw0 w*Cd2 (Aa7 w)=Ak1 (Aa7 w) (Aa7 w).length):=by
 unfold Cw0 Cd2
 refine ⟨fun h=>?_,fun h=>?_⟩
 ·rw [h,cond_true];omega
 ·rw [h,cond_false];omega
theorem C37 (l:List UInt8):(!(l==[]))=decide (1<=l.length):=by cases l<;>rfl
theorem C29 {Gl} (S:SP Gl) (hG:GlOK Gl) (w:List UInt8) (h1:1<=(Aa7 w).length) (h2:Cw2 (Aa7 w)=true) (h3:(Ah5 (Cw0 w*Cd2 (Aa7 w))==w)=true):CO Gl 136 [str w] (.ret (I (Cw0 w*Cd2 (Aa7 w)))):=by
 refine Ac4 S (let A0:=(!ByteArray.toList (bs (Aa7 w))==ByteArray.toList (ByteArray.mk #[]));let A1:=fun (k0:Nat)=>(bif decide ((48:Int)<=Ad1 (bs (Aa7 w)) k0) then decide (Ad1 (bs (Aa7 w)) k0<=(57:Int)) else false);let A2:=(Aa7 w);let A3:=(eqB A0 true=true->eqB A0 true=true);let A4:=(ByteArray.size (bs A2));let A5:=(D.c (C.v (Value.string (bs w))));let A6:=fun (k0:Nat)=>(Ad1 (bs A2) k0-(48:Int));let A7:=(!ByteArray.toList (bs A2)==ByteArray.toList (bs w));((.r (.ret (str A2)) (.loop (List.length A2) (fun k=>[v 10 (T.it (10:Nat)),((2:Nat),(10:Nat),T.itc (bs A2) k),v 4 (I (Ak1 A2 k)),v 3 (str A2),v 0 (str w)]) fun k0=>.br (.r (.ret (.tup [])) .nil) (.br (.r (.ret (str (Ah5 (-Ak1 A2 k0)))) (.r (.ret (.tup [])) .nil)) (.r (.ret (str (Ah5 (Ak1 A2 k0)))) (.r (.ret (.tup [])) .nil))))),(CO Gl 157 [str w,str [(45:UInt8)]] (.ret (str A2))/\(bs A2=bs A2/\(0:Nat)=(0:Nat)/\(0:Int)=Ak1 A2 (0:Nat)/\bs A2=bs A2/\bs w=bs w)/\∀ (k0:Nat),k0<=List.length A2->(Nat.blt k0 A4=true->Nat.blt k0 A4=true/\(eqB (decide ((48:Int)<=Ad1 (bs (Aa7 w)) k0)) true=true->eqB (decide ((48:Int)<=Ad1 (bs (Aa7 w)) k0)) true=true)/\(decide ((48:Int)<=Ad1 (bs (Aa7 w)) k0)=true->eqB (decide ((48:Int)<=Ad1 (bs (Aa7 w)) k0)) true=true)/\(eqB (A1 k0) true=true->eqB (A1 k0) true=true)/\(eqB (A1 k0) true=true->eqB (A1 k0) true=true)/\((A1 k0)=true->eqB (A1 k0) true=true)/\CO Gl 135 [B (bif bif decide ((48:Int)<=Ad1 (bs (Aa7 w)) k0) then decide (Ad1 (bs (Aa7 w)) k0<=(57:Int)) else false then decide ((↑(ByteArray.size (bs (Aa7 w))):Int)<=3) else false),T.d A5] (.ret (.tup []))/\iR ((10:Int)*Ak1 A2 k0)/\inRange IntKind.i32 (A6 k0)/\iR (A6 k0)/\iR ((10:Int)*Ak1 A2 k0+(A6 k0))/\k0<List.length A2/\bs A2=bs A2/\(bif Nat.blt k0 A4 then k0+Aw (bs A2) k0 else k0)=k0+(1:Nat)/\(10:Int)*Ak1 A2 k0+(A6 k0)=Ak1 A2 (k0+1)/\bs A2=bs A2/\bs w=bs w)/\(Nat.blt k0 A4=false->(A7=true->iR (-Ak1 A2 k0)/\A3/\(eqB A0 true=true->CO Gl 133 [I (-Ak1 A2 k0)] (.ret (str (Ah5 (-Ak1 A2 k0)))))/\A3/\A3/\(A0=true->eqB A0 true=true)/\CO Gl 135 [B (bif !ByteArray.toList (bs A2)==ByteArray.toList (ByteArray.mk #[]) then ByteArray.toList (bs (Ah5 (-Ak1 A2 k0)))==ByteArray.toList (bs w) else false),T.d A5] (.ret (.tup []))/\-Ak1 A2 k0=Cw0 w*Cd2 A2)/\(A7=false->A3/\(eqB A0 true=true->CO Gl 133 [I (Ak1 A2 k0)] (.ret (str (Ah5 (Ak1 A2 k0)))))/\A3/\A3/\(A0=true->eqB A0 true=true)/\CO Gl 135 [B (bif !ByteArray.toList (bs A2)==ByteArray.toList (ByteArray.mk #[]) then ByteArray.toList (bs (Ah5 (Ak1 A2 k0)))==ByteArray.toList (bs w) else false),T.d A5] (.ret (.tup []))/\Ak1 A2 k0=Cw0 w*Cd2 A2))))) Tryz.func136 (by kernel_rfl) (by kernel_rfl) ?_
 obtain ⟨hl,hdig⟩:=Bp7 h2
 have hv:=Cj0 (w:=Aa7 w) (k:=(Aa7 w).length) hl hdig
 obtain ⟨hv1,hv2⟩:=Dm5 w
 have e0:({ data:=#[] }:ByteArray).toList=[]:=Cb6 []
 simp only [stdS,imp_self,implies_true,and_true,Cb6,e0,Bq7,C37,Bool.not_not]
 refine ⟨Cd6 w,⟨rfl,trivial⟩,fun k hk=>⟨fun hb=>?_,fun hb=>?_⟩⟩
 ·have hlt:k<(Aa7 w).length:=by
   rw [Ac] at hb
   exact Nat.le_of_ble_eq_true hb
  obtain ⟨q1,q2,q3,q4,q5,q6,q7⟩:=step_ok hl hlt (fun i hi=>hdig i (by omega))
  exact ⟨hb,Al8 S _ _ q1,q2,q3,q4,q5,hlt,q6,q7,trivial⟩
 ·have hge:k=(Aa7 w).length:=by
   rw [Ac] at hb
   rcases Nat.lt_or_ge k (Aa7 w).length with hh|hh
   ·have:k.blt (Aa7 w).length=true:=Nat.ble_eq_true_of_le hh
    rw [this] at hb;cases hb
   ·omega
  subst hge
  refine ⟨fun hm=>⟨(Aa1 _).2 (by omega),fun _=>B14 hG _ ⟨by omega,by omega⟩,Al8 S _ _ ?_,(hv1 hm).symm⟩,fun hm=>⟨fun _=>B14 hG _ ⟨by omega,by omega⟩,Al8 S _ _ ?_,(hv2 hm).symm⟩⟩
  ·rw [hv1 hm] at h3;rw [h3,decide_eq_true h1];rfl
  ·rw [hv2 hm] at h3;rw [h3,decide_eq_true h1];rfl
theorem Ct5 {Gl} (S:SP Gl) (hG:GlOK Gl) (w:List UInt8) (h:Cw2 (Aa7 w)=false):CO Gl 136 [str w] (.pan (.iface 135 (.agg #[.string (bs w)]))):=by
 refine Ac4 S (let A0:=fun (k0:Nat)=>(Nat.blt k0 (ByteArray.size (bs (Aa7 w)))=false->((!ByteArray.toList (bs (Aa7 w))==ByteArray.toList (bs w))=true->iR (-Ak1 (Aa7 w) k0)/\(eqB (!ByteArray.toList (bs (Aa7 w))==ByteArray.toList (ByteArray.mk #[])) true=true->eqB (!ByteArray.toList (bs (Aa7 w))==ByteArray.toList (ByteArray.mk #[])) true=true)/\(eqB (!ByteArray.toList (bs (Aa7 w))==ByteArray.toList (ByteArray.mk #[])) true=true->CO Gl 133 [I (-Ak1 (Aa7 w) k0)] (.ret (str (Ah5 (-Ak1 (Aa7 w) k0)))))/\(eqB (!ByteArray.toList (bs (Aa7 w))==ByteArray.toList (ByteArray.mk #[])) true=true->eqB (!ByteArray.toList (bs (Aa7 w))==ByteArray.toList (ByteArray.mk #[])) true=true)/\(eqB (!ByteArray.toList (bs (Aa7 w))==ByteArray.toList (ByteArray.mk #[])) true=true->eqB (!ByteArray.toList (bs (Aa7 w))==ByteArray.toList (ByteArray.mk #[])) true=true)/\((!ByteArray.toList (bs (Aa7 w))==ByteArray.toList (ByteArray.mk #[]))=true->eqB (!ByteArray.toList (bs (Aa7 w))==ByteArray.toList (ByteArray.mk #[])) true=true)/\CO Gl 135 [B (bif !ByteArray.toList (bs (Aa7 w))==ByteArray.toList (ByteArray.mk #[]) then ByteArray.toList (bs (Ah5 (-Ak1 (Aa7 w) k0)))==ByteArray.toList (bs w) else false),T.d (D.c (C.v (Value.string (bs w))))] (.ret (.tup []))/\False)/\((!ByteArray.toList (bs (Aa7 w))==ByteArray.toList (bs w))=false->(eqB (!ByteArray.toList (bs (Aa7 w))==ByteArray.toList (ByteArray.mk #[])) true=true->eqB (!ByteArray.toList (bs (Aa7 w))==ByteArray.toList (ByteArray.mk #[])) true=true)/\(eqB (!ByteArray.toList (bs (Aa7 w))==ByteArray.toList (ByteArray.mk #[])) true=true->CO Gl 133 [I (Ak1 (Aa7 w) k0)] (.ret (str (Ah5 (Ak1 (Aa7 w) k0)))))/\(eqB (!ByteArray.toList (bs (Aa7 w))==ByteArray.toList (ByteArray.mk #[])) true=true->eqB (!ByteArray.toList (bs (Aa7 w))==ByteArray.toList (ByteArray.mk #[])) true=true)/\(eqB (!ByteArray.toList (bs (Aa7 w))==ByteArray.toList (ByteArray.mk #[])) true=true->eqB (!ByteArray.toList (bs (Aa7 w))==ByteArray.toList (ByteArray.mk #[])) true=true)/\((!ByteArray.toList (bs (Aa7 w))==ByteArray.toList (ByteArray.mk #[]))=true->eqB (!ByteArray.toList (bs (Aa7 w))==ByteArray.toList (ByteArray.mk #[])) true=true)/\CO Gl 135 [B (bif !ByteArray.toList (bs (Aa7 w))==ByteArray.toList (ByteArray.mk #[]) then ByteArray.toList (bs (Ah5 (Ak1 (Aa7 w) k0)))==ByteArray.toList (bs w) else false),T.d (D.c (C.v (Value.string (bs w))))] (.ret (.tup []))/\False));let A1:=fun (k0:Nat)=>(bif decide ((48:Int)<=Ad1 (bs (Aa7 w)) k0) then decide (Ad1 (bs (Aa7 w)) k0<=(57:Int)) else false);let A2:=fun (k0:Nat)=>[B (bif bif decide ((48:Int)<=Ad1 (bs (Aa7 w)) k0) then decide (Ad1 (bs (Aa7 w)) k0<=(57:Int)) else false then decide ((↑(ByteArray.size (bs (Aa7 w))):Int)<=3) else false),T.d (D.c (C.v (Value.string (bs w))))];let A3:=(Aa7 w);let A4:=fun (k0:Nat)=>(eqB (A1 k0) true=true->eqB (A1 k0) true=true);let A5:=fun (k0:Nat)=>(eqB (decide ((48:Int)<=Ad1 (bs (Aa7 w)) k0)) true=true->eqB (decide ((48:Int)<=Ad1 (bs (Aa7 w)) k0)) true=true);let A6:=(ByteArray.size (bs A3));let A7:=(Res.pan (Value.iface (135:TypeId) (Value.agg #[Value.string (bs w)])));let A8:=fun (k0:Nat)=>(Ad1 (bs A3) k0-(48:Int));((.r (.ret (str A3)) (.loop (Ch2 A3) (fun k=>[v 10 (T.it (10:Nat)),((2:Nat),(10:Nat),T.itc (bs A3) k),v 4 (I (Ak1 A3 k)),v 3 (str A3),v 0 (str w)]) fun k0=>.ite (decide (k0<Ch2 (Aa7 w))) (.br (.r (.ret (.tup [])) .nil) (.br (.r (.ret (str (Ah5 (-Ak1 A3 k0)))) (.r (.ret (.tup [])) .nil)) (.r (.ret (str (Ah5 (Ak1 A3 k0)))) (.r (.ret (.tup [])) .nil)))) (.br (.r A7 .nil) (.br (.r (.ret (str (Ah5 (-Ak1 A3 k0)))) (.r (.ret (.tup [])) .nil)) (.r (.ret (str (Ah5 (Ak1 A3 k0)))) (.r (.ret (.tup [])) .nil)))))),(CO Gl 157 [str w,str [(45:UInt8)]] (.ret (str A3))/\(bs A3=bs A3/\(0:Nat)=(0:Nat)/\(0:Int)=Ak1 A3 (0:Nat)/\bs A3=bs A3/\bs w=bs w)/\∀ (k0:Nat),k0<=Ch2 A3->(decide (k0<Ch2 (Aa7 w))=true->(Nat.blt k0 A6=true->Nat.blt k0 A6=true/\(A5 k0)/\(decide ((48:Int)<=Ad1 (bs (Aa7 w)) k0)=true->eqB (decide ((48:Int)<=Ad1 (bs (Aa7 w)) k0)) true=true)/\(A4 k0)/\(A4 k0)/\((A1 k0)=true->eqB (A1 k0) true=true)/\CO Gl 135 (A2 k0) (.ret (.tup []))/\iR ((10:Int)*Ak1 A3 k0)/\inRange IntKind.i32 (A8 k0)/\iR (A8 k0)/\iR ((10:Int)*Ak1 A3 k0+(A8 k0))/\k0<Ch2 A3/\bs A3=bs A3/\(bif Nat.blt k0 A6 then k0+Aw (bs A3) k0 else k0)=k0+(1:Nat)/\(10:Int)*Ak1 A3 k0+(A8 k0)=Ak1 A3 (k0+1)/\bs A3=bs A3/\bs w=bs w)/\(A0 k0))/\(decide (k0<Ch2 (Aa7 w))=false->(Nat.blt k0 A6=true->Nat.blt k0 A6=true/\(A5 k0)/\(decide ((48:Int)<=Ad1 (bs (Aa7 w)) k0)=true->eqB (decide ((48:Int)<=Ad1 (bs (Aa7 w)) k0)) true=true)/\(A4 k0)/\(A4 k0)/\((A1 k0)=true->eqB (A1 k0) true=true)/\CO Gl 135 (A2 k0) A7/\Value.iface (135:Nat) (Value.agg (Array.mk [Value.string (bs w)]))=Value.iface (135:Nat) (Value.agg (Array.mk [Value.string (bs w)])))/\(A0 k0))))) Tryz.func136 (by kernel_rfl) (by kernel_rfl) ?_
 obtain ⟨hat,hnon⟩:=Dx0 h
 have e0:({ data:=#[] }:ByteArray).toList=[]:=Cb6 []
 simp only [stdS,imp_self,implies_true,and_true,Cb6,e0,Bq7,C37,Bool.not_not]
 refine ⟨Cd6 w,⟨rfl,trivial⟩,fun k hk=>⟨fun hc=>?_,fun hc=>?_⟩⟩
 ·have hc:k<Ch2 (Aa7 w):=by simpa using hc
  obtain ⟨hl,hlt,hdig⟩:=Dx hc
  refine ⟨fun hb=>?_,fun hb=>?_⟩
  ·obtain ⟨q1,q2,q3,q4,q5,q6,q7⟩:=step_ok hl hlt hdig
   exact ⟨hb,Al8 S _ _ q1,q2,q3,q4,q5,hc,q6,q7,trivial⟩
  ·rw [Ac] at hb
   have:k.blt (Aa7 w).length=true:=Nat.ble_eq_true_of_le hlt
   rw [this] at hb;cases hb
 ·have hc:k=Ch2 (Aa7 w):=by
   have:¬ k<Ch2 (Aa7 w):=by simpa using hc
   omega
  subst hc
  refine ⟨fun hb=>⟨hb,B53 S _ _ ?_,trivial⟩,fun hb=>?_⟩
  ·cases hl:decide (((bs (Aa7 w)).size:Int)<=3) with
   |false=>simp
   |true=>
    rw [Ac] at hl
    have:=De7 hat (hnon (by simp at hl;omega))
    rw [Bool.and_true]
    exact this
  ·rw [Ac] at hb
   have:(Ch2 (Aa7 w)).blt (Aa7 w).length=true:=Nat.ble_eq_true_of_le hat
   rw [this] at hb;cases hb
theorem Ct4 {Gl} (S:SP Gl) (hG:GlOK Gl) (w:List UInt8) (h:Cw2 (Aa7 w)=true) (hd:(decide (1<=(Aa7 w).length)&&(Ah5 (Cw0 w*Cd2 (Aa7 w))==w))=false):CO Gl 136 [str w] (.pan (.iface 135 (.agg #[.string (bs w)]))):=by
 refine Ac4 S (let A0:=(!ByteArray.toList (bs (Aa7 w))==ByteArray.toList (ByteArray.mk #[]));let A1:=fun (k0:Nat)=>(bif decide ((48:Int)<=Ad1 (bs (Aa7 w)) k0) then decide (Ad1 (bs (Aa7 w)) k0<=(57:Int)) else false);let A2:=(Aa7 w);let A3:=(Res.pan (Value.iface (135:TypeId) (Value.agg #[Value.string (bs w)])));let A4:=(eqB A0 true=true->eqB A0 true=true);let A5:=(Value.agg (Array.mk [Value.string (bs w)]));let A6:=(ByteArray.size (bs A2));let A7:=(D.c (C.v (Value.string (bs w))));let A8:=fun (k0:Nat)=>(Ad1 (bs A2) k0-(48:Int));let A9:=(!ByteArray.toList (bs A2)==ByteArray.toList (bs w));((.r (.ret (str A2)) (.loop (List.length A2) (fun k=>[v 10 (T.it (10:Nat)),((2:Nat),(10:Nat),T.itc (bs A2) k),v 4 (I (Ak1 A2 k)),v 3 (str A2),v 0 (str w)]) fun k0=>.br (.r (.ret (.tup [])) .nil) (.br (.r (.ret (str (Ah5 (-Ak1 A2 k0)))) (.r A3 .nil)) (.r (.ret (str (Ah5 (Ak1 A2 k0)))) (.r A3 .nil))))),(CO Gl 157 [str w,str [(45:UInt8)]] (.ret (str A2))/\(bs A2=bs A2/\(0:Nat)=(0:Nat)/\(0:Int)=Ak1 A2 (0:Nat)/\bs A2=bs A2/\bs w=bs w)/\∀ (k0:Nat),k0<=List.length A2->(Nat.blt k0 A6=true->Nat.blt k0 A6=true/\(eqB (decide ((48:Int)<=Ad1 (bs (Aa7 w)) k0)) true=true->eqB (decide ((48:Int)<=Ad1 (bs (Aa7 w)) k0)) true=true)/\(decide ((48:Int)<=Ad1 (bs (Aa7 w)) k0)=true->eqB (decide ((48:Int)<=Ad1 (bs (Aa7 w)) k0)) true=true)/\(eqB (A1 k0) true=true->eqB (A1 k0) true=true)/\(eqB (A1 k0) true=true->eqB (A1 k0) true=true)/\((A1 k0)=true->eqB (A1 k0) true=true)/\CO Gl 135 [B (bif bif decide ((48:Int)<=Ad1 (bs (Aa7 w)) k0) then decide (Ad1 (bs (Aa7 w)) k0<=(57:Int)) else false then decide ((↑(ByteArray.size (bs (Aa7 w))):Int)<=3) else false),T.d A7] (.ret (.tup []))/\iR ((10:Int)*Ak1 A2 k0)/\inRange IntKind.i32 (A8 k0)/\iR (A8 k0)/\iR ((10:Int)*Ak1 A2 k0+(A8 k0))/\k0<List.length A2/\bs A2=bs A2/\(bif Nat.blt k0 A6 then k0+Aw (bs A2) k0 else k0)=k0+(1:Nat)/\(10:Int)*Ak1 A2 k0+(A8 k0)=Ak1 A2 (k0+1)/\bs A2=bs A2/\bs w=bs w)/\(Nat.blt k0 A6=false->(A9=true->iR (-Ak1 A2 k0)/\A4/\(eqB A0 true=true->CO Gl 133 [I (-Ak1 A2 k0)] (.ret (str (Ah5 (-Ak1 A2 k0)))))/\A4/\A4/\(A0=true->eqB A0 true=true)/\CO Gl 135 [B (bif !ByteArray.toList (bs A2)==ByteArray.toList (ByteArray.mk #[]) then ByteArray.toList (bs (Ah5 (-Ak1 A2 k0)))==ByteArray.toList (bs w) else false),T.d A7] A3/\Value.iface (135:Nat) A5=Value.iface (135:Nat) A5)/\(A9=false->A4/\(eqB A0 true=true->CO Gl 133 [I (Ak1 A2 k0)] (.ret (str (Ah5 (Ak1 A2 k0)))))/\A4/\A4/\(A0=true->eqB A0 true=true)/\CO Gl 135 [B (bif !ByteArray.toList (bs A2)==ByteArray.toList (ByteArray.mk #[]) then ByteArray.toList (bs (Ah5 (Ak1 A2 k0)))==ByteArray.toList (bs w) else false),T.d A7] A3/\Value.iface (135:Nat) A5=Value.iface (135:Nat) A5))))) Tryz.func136 (by kernel_rfl) (by kernel_rfl) ?_
 obtain ⟨hl,hdig⟩:=Bp7 h
 have hv:=Cj0 (w:=Aa7 w) (k:=(Aa7 w).length) hl hdig
 obtain ⟨hv1,hv2⟩:=Dm5 w
 have e0:({ data:=#[] }:ByteArray).toList=[]:=Cb6 []
 simp only [stdS,imp_self,implies_true,and_true,Cb6,e0,Bq7,C37,Bool.not_not]
 refine ⟨Cd6 w,⟨rfl,trivial⟩,fun k hk=>⟨fun hb=>?_,fun hb=>?_⟩⟩
 ·have hlt:k<(Aa7 w).length:=by
   rw [Ac] at hb
   exact Nat.le_of_ble_eq_true hb
  obtain ⟨q1,q2,q3,q4,q5,q6,q7⟩:=step_ok hl hlt (fun i hi=>hdig i (by omega))
  exact ⟨hb,Al8 S _ _ q1,q2,q3,q4,q5,hlt,q6,q7,trivial⟩
 ·have hge:k=(Aa7 w).length:=by
   rw [Ac] at hb
   rcases Nat.lt_or_ge k (Aa7 w).length with hh|hh
   ·have:k.blt (Aa7 w).length=true:=Nat.ble_eq_true_of_le hh
    rw [this] at hb;cases hb
   ·omega
  subst hge
  refine ⟨fun hm=>⟨(Aa1 _).2 (by omega),fun _=>B14 hG _ ⟨by omega,by omega⟩,B53 S _ _ ?_,trivial⟩,fun hm=>⟨fun _=>B14 hG _ ⟨by omega,by omega⟩,B53 S _ _ ?_,trivial⟩⟩
  ·rw [hv1 hm] at hd;exact hd
  ·rw [hv2 hm] at hd;exact hd
theorem Af {Gl} (S:SP Gl) (hG:GlOK Gl) (w:List UInt8) (h:okS w=true):CO Gl 136 [str w] (.ret (I (Aq9 w))):=by
 unfold okS isS at h
 rw [Bool.and_eq_true,Bool.and_eq_true,decide_eq_true_eq] at h
 have hi:isS w=true:=by unfold isS;rw [decide_eq_true h.1.1,h.1.2];rfl
 unfold Aq9
 rw [hi]
 exact C29 S hG w h.1.1 h.1.2 h.2
theorem Bu7 {Gl} (S:SP Gl) (hG:GlOK Gl) (w:List UInt8) (h:okS w=false):CO Gl 136 [str w] (.pan (.iface 135 (.agg #[.string (bs w)]))):=by
 unfold okS isS at h
 cases hd:Cw2 (Aa7 w) with
 |false=>exact Ct5 S hG w hd
 |true=>
  refine Ct4 S hG w hd ?_
  rw [hd,Bool.and_true] at h
  exact h
def Ac1 (r:List UInt8) (j:Nat):List Int:=((tl r).take j).map Aq9
theorem Ai9 {r:List UInt8} {j:Nat}:(Ac1 r j).length<=(tl r).length:=by
 unfold Ac1
 rw [List.length_map,List.length_take]
 omega
theorem Ag3 {r:List UInt8} {j:Nat} (h:j<(tl r).length):Ac1 r (j+1)=Ac1 r j++[Aq9 (nth (tl r) j)]:=by
 unfold Ac1
 rw [Af5 h,List.map_append]
 rfl
theorem Al5 (r:List UInt8):Ac1 r (tl r).length=nsR r:=by unfold Ac1 nsR;rw [List.take_length]
def An5:List (List Int)->List Ln
 | []=>[]
 |l::r=>(true,l)::r.map fun x=>(false,x)
def lsT (s:List UInt8):List (List Int):=(mid s).map nsR
def l0T (s:List UInt8):List Int:=nth (lsT s) 0
def Aq5 (s:List UInt8) (k h:Nat):List Int:=(((lsT s).drop 1).take k).map fun l=>nth l h
def Bh9 (s:List UInt8) (k j:Nat):Nat->Nat×(Nat->List C):=fun h=>((Aq5 s (bif Nat.blt h j then k+1 else k) h).length,fun i=>eI (nth (Aq5 s (bif Nat.blt h j then k+1 else k) h) i))
def Ah (s:List UInt8) (k:Nat):Nat->Nat×(Nat->List C):=fun h=>((Aq5 s k h).length,fun i=>eI (nth (Aq5 s k h) i))
def Av9:C:=.v (.slice none 0 0)
def A92 (s:List UInt8):Env:=v 27 (I (mid s).length)::v 26 (L eS (mid s))::v 4 (ad 4)::v 2 (ad 2)::v 0 (str s)::tk 900 158::bx 2 [Av9,Av9]
def parE (s:List UInt8) (k j:Nat):Env:=v 5 (Lt 900 eLn ((An5 (lsT s)).take (k+1)))::(2,4,live)::(7,0,.arr 68 (l0T s).length)::(7,1,L eI (l0T s))::(2,68,.arro 3 1 (l0T s).length (Bh9 s k j) none)::A92 s
def B70 (s:List UInt8) (k:Nat):Env:=v 5 (Lt 900 eLn ((An5 (lsT s)).take (k+1)))::(2,4,live)::(7,0,.arr 68 (l0T s).length)::(7,1,L eI (l0T s))::(2,68,.arro 3 1 (l0T s).length (Ah s k) none)::A92 s
theorem Az8 (s:List UInt8):(lsT s).length=(mid s).length:=List.length_map ..
theorem Ar7 {s:List UInt8} {k:Nat} (h:k<(mid s).length):nth (lsT s) k=nsR (nth (mid s) k):=Ae6 h
theorem Af2 (ls:List (List Int)):(An5 ls).length=ls.length:=by
 cases ls with
 |nil=>rfl
 |cons l r=>show (List.map _ r).length+1=r.length+1;rw [List.length_map]
theorem A97 {ls:List (List Int)} (h:0<ls.length):nth (An5 ls) 0=(true,nth ls 0):=by
 cases ls with
 |nil=>cases h
 |cons l r=>rfl
theorem A98 {ls:List (List Int)} {k:Nat} (h:k+1<ls.length):nth (An5 ls) (k+1)=(false,nth ls (k+1)):=by
 cases ls with
 |nil=>cases h
 |cons l r=>
  show nth (r.map fun x=>(false,x)) k=(false,nth r k)
  exact Ae6 (by simpa using h)
theorem B87 (ls:List (List Int)):(An5 ls).map lnT=Ax7 ls:=by
 cases ls with
 |nil=>rfl
 |cons l r=>
  show lnT (true,l)::(r.map fun x=>((false,x):Ln)).map lnT=B19 l::r.map rowW
  rw [List.map_map]
  rfl
theorem Av6 (s:List UInt8) {k:Nat} (h:k<(lsT s).length) (j:Nat):(Aq5 s k j).length=k:=by
 unfold Aq5
 rw [List.length_map,List.length_take,List.length_drop]
 omega
theorem Cv6 {s:List UInt8} {k:Nat} (h:k+1<(lsT s).length) (j:Nat):Aq5 s (k+1) j=Aq5 s k j++[nth (nth (lsT s) (k+1)) j]:=by
 unfold Aq5
 rw [Af5 (by rw [List.length_drop];omega),List.map_append,Ar4,Nat.add_comm 1 k]
 rfl
theorem De3 {s:List UInt8} (h:0<(lsT s).length):(shT (lsT s)).cols.length=(l0T s).length/\(shT (lsT s)).errs=l0T s/\∀ j,j<(l0T s).length->nth (shT (lsT s)).cols j=Aq5 s ((lsT s).length - 1) j:=by
 unfold l0T Aq5
 cases hl:lsT s with
 |nil=>rw [hl] at h;cases h
 |cons l r=>
  refine ⟨Bq _ _,rfl,fun j hj=>?_⟩
  have hj:j<l.length:=hj
  show nth (B33 l.length r) j=_
  rw [Bj0 hj]
  show _=(r.take r.length).map _
  rw [List.take_length]
theorem Cn {s:List UInt8} (hs:s.length<=150) (hall:(mid s).all okR=true):∀ p∈An5 (lsT s),lnOK p:=by
 have main:∀ l∈lsT s,l.length<=150/\(∀ n∈l,si n)/\(Ad7 l).length<=150:=fun l hl=>by
  obtain ⟨r,hr,rfl⟩:=List.mem_map.1 hl
  obtain ⟨i,hi,rfl⟩:=Am2 hr
  have h1:=Bf7 (nth (mid s) i)
  have h2:=Az3 hi
  have h3:=B62 (List.all_eq_true.1 hall _ hr)
  refine ⟨by omega,fun n hn=>?_,by omega⟩
  unfold nsR at hn
  obtain ⟨w,hw,rfl⟩:=List.mem_map.1 hn
  exact C3 w
 intro p hp
 cases hl:lsT s with
 |nil=>rw [hl] at hp;cases hp
 |cons l r=>
  rw [hl] at hp main
  rcases List.mem_cons.1 hp with rfl|hp
  ·obtain ⟨h1,h2,h3⟩:=main l List.mem_cons_self
   refine ⟨by show l.length<=1000;omega,h2,?_⟩
   show (Ah3++Ad7 l).length<=300
   rw [List.length_append]
   have:Ah3.length=5:=rfl
   omega
  ·obtain ⟨x,hx,rfl⟩:=List.mem_map.1 hp
   obtain ⟨h1,h2,h3⟩:=main x (List.mem_cons_of_mem _ hx)
   refine ⟨by show x.length<=1000;omega,h2,?_⟩
   show (Bf9++Ad7 x).length<=300
   rw [List.length_append]
   have:Bf9.length=3:=rfl
   omega
theorem At6 (r:List UInt8):SEq (Int.toNat (((Aa4 32 r).length:Int) - 1)) (fun i=>eS (nth (Aa4 32 r) (Int.toNat 1+i))) (tl r).length fun i=>eS (nth (tl r) i):=
 .of ⟨by have:=Ab1 32 r;rw [Ah7];omega,fun i hi=>by
  have:=Ab1 32 r
  show eS (nth (Aa4 32 r) (1+i))=eS (nth (tl r) i)
  rw [tl_nth (by rw [Ah7];omega)]⟩
theorem Ax2 (n:Nat) (f:Nat->Nat×(Nat->List C)):OEq n f n f↔True:=⟨fun _=>trivial,fun _=>⟨rfl,fun _ _=>⟨rfl,fun _ _=>rfl⟩⟩⟩
theorem Dr6 {l:List Int} {x:Int} {i:Nat} (hi:i<l.length+1):Aj0 l.length (fun i=>eI (nth l i)) (fun i=>[List.map C.dem [C.v (Value.int IntKind.i64 x)]].getD i []) i=eI (nth (l++[x]) i):=by
 unfold Aj0
 by_cases h:i<l.length
 ·rw [Be6 h,cond_true,Ai8 h]
 ·rw [A09 h,cond_false,Ae1 (by omega),show i - l.length=0 by omega]
  rfl
theorem B40 {s:List UInt8} {k j:Nat} (hk:k+1<(lsT s).length) (n:Nat):OEq n (Bx5 (Bh9 s k j) j ((Aq5 s k j).length+1,Aj0 (Aq5 s k j).length (fun i=>eI (nth (Aq5 s k j) i)) fun i=>[List.map C.dem [C.v (Value.int IntKind.i64 (nth (nth (lsT s) (k+1)) j))]].getD i [])) n (Bh9 s k (j+1)):=by
 refine ⟨rfl,fun h _=>?_⟩
 by_cases hj:h=j
 ·subst hj
  unfold Bx5 Bh9
  rw [show Nat.beq h h=true from Nat.beq_refl h,cond_true,Be6 (Nat.lt_succ_self h),cond_true,Cv6 hk]
  refine ⟨by rw [List.length_append];rfl,fun i hi=>Dr6 hi⟩
 ·have hb:Nat.beq h j=false:=by
   cases hb:Nat.beq h j with
   |false=>rfl
   |true=>exact absurd (Nat.eq_of_beq_eq_true hb) hj
  have hbl:Nat.blt h (j+1)=Nat.blt h j:=by
   by_cases h2:h<j
   ·rw [Be6 h2,Be6 (by omega)]
   ·rw [A09 h2,A09 (by omega)]
  unfold Bx5 Bh9
  rw [hb,cond_false,hbl]
  exact ⟨rfl,fun _ _=>rfl⟩
theorem Bb1 (s:List UInt8) (k n:Nat):OEq n (Ah s k) n (Bh9 s k 0):=by
 refine ⟨rfl,fun h _=>?_⟩
 unfold Ah Bh9
 rw [A09 (Nat.not_lt_zero h),cond_false]
 exact ⟨rfl,fun _ _=>rfl⟩
theorem B41 (s:List UInt8) (k n:Nat):OEq n (Bh9 s k n) n (Ah s (k+1)):=by
 refine ⟨rfl,fun h hh=>?_⟩
 unfold Ah Bh9
 rw [Be6 hh,cond_true]
 exact ⟨rfl,fun _ _=>rfl⟩
theorem Bj2 (s:List UInt8) (n:Nat):OEq n (fun _=>(0,fun _=>[])) n (Ah s 0):=by
 refine ⟨rfl,fun h _=>?_⟩
 unfold Ah Aq5
 rw [List.take_zero]
 exact ⟨rfl,fun _ hi=>absurd hi (Nat.not_lt_zero _)⟩
theorem C63 {ls:List (List Int)} (h:Cg7 ls=true):0<(nth ls 0).length/\(∀ n∈nth ls 0,0<=n)/\∀ k,k+1<ls.length->(nth ls (k+1)).length=(nth ls 0).length:=by
 cases ls with
 |nil=>cases h
 |cons l r=>
  obtain ⟨h1,h2,h3⟩:=Bp0 h
  exact ⟨h1,h2,fun k hk=>h3 _ (Ab5 (show k<r.length by simpa using hk))⟩
theorem C11 {Gl} (S:SP Gl) (s:List UInt8) (hG:GlOK Gl) (hs:s.length<=150) (hR:3<=(Aa4 10 s).length) (hall:(mid s).all okR=true) (hf:Cg7 (lsT s)=true) (ht:Ae8 (Ax7 (lsT s))=s):CO Gl 110 [str s] (.ret (Aa6 (shT (lsT s)))):=by
 refine Ac4 S (let A0:=(nth (mid s) (0:Nat));let A1:=(Aa4 (32:UInt8) (nth (Aa4 (10:UInt8) s) (Int.toNat (0:Int)+Int.toNat (0:Int))));let A2:=fun (k2:Nat)=>(nth (mid s) (k2+1));let A3:=(List.length (mid s):Int);let A4:=fun (k2:Nat)=>(Aa4 (32:UInt8) (nth (mid s) (Int.toNat ((k2:Int)+1))));let A5:=fun (k2:Nat)=>(List.take (k2+1) (An5 (lsT s)));let A6:=(List.length (l0T s):Int);let A7:=(↑(List.length (Aa4 (10:UInt8) s)):Int);let A8:=(List.length (l0T s));let A9:=fun (k2 k4:Nat)=>(Aq5 s (bif Nat.blt k4 k4 then k2+(1:Nat) else k2) k4);let A10:=(↑(List.length A1):Int);let A11:=(↑(List.length (tl A0)):Int);let A12:=(Aa4 (10:UInt8) s);let A13:=fun (k2:Nat)=>(↑(List.length (A4 k2)):Int);let A14:=fun (k2:Nat)=>(nth (lsT s) (k2+1));let A15:=fun (k2:Nat)=>(List.length (tl (A2 k2)));let A16:=(sR eS (mid s));let A17:=(sR eI (l0T s));let A18:=(↑(0:Nat):Int);let A19:=(Int.toNat (A7-2-(0:Int)));let A20:=(nth A12 (Int.toNat (0:Int)+Int.toNat (0:Int)));((.r (.ret (L eS A12)) (.r (.ret (.tup [])) (.pe (.br (.r (.ret (L eS A1)) (.loop (List.length (tl A0)) (fun j=>v 37 (I j)::v 36 (I A11)::v 35 (L eS (tl A0))::v 28 (I 0)::v 8 (Lt 901 eI (Ac1 A0 j))::tk 901 3::v 7 (str A0)::v 6 (I 0)::v 5 (T.d (D.c Av9))::(bx 4 [Av9,Av9]++A92 s)) fun k1=>.br (.r (.ret (I (Aq9 (nth (tl A0) k1)))) .nil) (.tt (.r (.ret (.tup [])) (.loop A8 (fun j=>v 56 (I j)::v 55 (I A6)::v 54 (L eI (l0T s))::v 28 (I 0)::v 8 (Lt 901 eI (l0T s))::tk 901 3::v 7 (str A0)::v 6 (I 0)::v 5 (T.d (D.c Av9))::(bx 4 [Av9,Av9]++A92 s)) fun k2=>.br (.r (.ret (.tup [])) .nil) (.arrA (nat_lit 68) .nil)))))) .nil) (List.length (mid s)-(1:Nat)) (fun k=>v 28 (I ((k:Int)+1))::B70 s k) fun k2=>.br (.r (.ret (L eS (A4 k2))) (.loop (A15 k2) (fun j=>v 37 (I j)::v 36 (I (↑(A15 k2):Int))::v 35 (L eS (tl (A2 k2)))::v 28 (I ((k2:Int)+1))::v 8 (Lt 901 eI (Ac1 (A2 k2) j))::tk 901 3::v 7 (str (A2 k2))::v 6 (I ((k2:Int)+1))::B70 s k2) fun k3=>.br (.r (.ret (I (Aq9 (nth (tl (A2 k2)) k3)))) .nil) (.ff (.r (.ret (.tup [])) (.loop A8 (fun j=>v 87 (I j)::v 86 (I A6)::v 85 (L eI (A14 k2))::v 28 (I ((k2:Int)+1))::v 8 (Lt 901 eI (A14 k2))::tk 901 3::parE s k2 j) fun k4=>.br (.arrA (nat_lit 99) .nil) .nil))))) (.r (.ret (str (Ae8 (List.map lnT (A5 k2))))) (.r (.ret (.tup [])) .nil))))),(CO Gl 134 [str s,str [(10:UInt8)]] (.ret (L eS A12))/\(List.length A12<=maxLen->CO Gl 135 [B (decide (3<=(↑(List.length (Aa4 (10:UInt8) s)):Int))),T.d (D.c (C.v (Value.string (bs s))))] (.ret (.tup []))/\(List.length A12<=maxLen->iR (A7-2)/\((0:Int)<=0/\0<=A7-2/\A7-2<=A7)/\(Int.toNat (A7-2-(0:Int))<=maxLen->(decide (0<(↑(Int.toNat ((↑(List.length (Aa4 (10:UInt8) s)):Int)-2-(0:Int))):Int))=true->((0:Int)<=0/\0<(↑A19:Int))/\CO Gl 134 [str A20,str [(32:UInt8)]] (.ret (L eS A1))/\((0:Int)<=1/\1<=A10/\A10<=A10)/\(Int.toNat (A10-1)<=maxLen->(0=A18/\(↑(Int.toNat (A10-1)):Int)=A11/\(SEq (Int.toNat (A10-1)) (fun i=>eS (nth A1 (Int.toNat (1:Int)+i))) (List.length (tl A0)) fun i=>eS (nth (tl A0) i))/\(0:Int)=0/\(0:Nat)=(0:Nat)/\bs A20=bs A0/\(0:Int)=0/\Value.slice none 0 0=Value.slice none 0 0/\Value.slice none 0 0=Value.slice none 0 0/\Value.slice none 0 0=Value.slice none 0 0/\(↑A19:Int)=A3/\(SEq A19 (fun i=>eS (nth A12 (Int.toNat (0:Int)+i))) (List.length (mid s)) fun i=>eS (nth (mid s) i))/\bs s=bs s/\Value.slice none 0 0=Value.slice none 0 0/\Value.slice none 0 0=Value.slice none 0 0)/\∀ (k1:Nat),k1<=List.length (tl A0)->(decide ((k1:Int)<(↑(List.length (tl (nth (mid s) (0:Nat)))):Int))=true->(0<=(k1:Int)/\(k1:Int)<A11)/\CO Gl 136 [str (nth (tl A0) k1)] (.ret (I (Aq9 (nth (tl A0) k1))))/\(List.length (Ac1 A0 k1)+1)*8<=140737488355328/\List.length (Ac1 A0 k1)+1<=140737488355328/\iR ((k1:Int)+1)/\k1<List.length (tl A0)/\(k1:Int)+1=(↑(k1+1):Int)/\A11=A11/\(sR eS (tl A0))/\(0:Int)=0/\(SEq (List.length (Ac1 A0 k1)+1) (Aj0 (List.length (Ac1 A0 k1)) (fun i=>eI (nth (Ac1 A0 k1) i)) fun i=>List.getD [List.map C.dem [C.v (Value.int IntKind.i64 (Aq9 (nth (tl A0) k1)))]] i []) (List.length (Ac1 A0 (k1+1))) fun i=>eI (nth (Ac1 A0 (k1+1)) i))/\bs A0=bs A0/\(0:Int)=0/\Value.slice none 0 0=Value.slice none 0 0/\Value.slice none 0 0=Value.slice none 0 0/\Value.slice none 0 0=Value.slice none 0 0/\A3=A3/\A16/\bs s=bs s/\Value.slice none 0 0=Value.slice none 0 0/\Value.slice none 0 0=Value.slice none 0 0)/\(decide ((k1:Int)<(↑(List.length (tl (nth (mid s) (0:Nat)))):Int))=false->true=true/\(List.length (Ac1 A0 k1)<=maxLen->CO Gl 135 [B (decide (0<(↑(List.length (Ac1 (nth (mid s) (0:Nat)) k1)):Int))),T.d (D.c (C.v (Value.string (bs A0))))] (.ret (.tup []))/\(List.length (Ac1 A0 k1)<=maxLen->(0=A18/\(↑(List.length (Ac1 A0 k1)):Int)=A6/\(sQ eI (Ac1 A0 k1) (l0T s))/\(0:Int)=0/\(sQ eI (Ac1 A0 k1) (l0T s))/\bs A0=bs A0/\(0:Int)=0/\Value.slice none 0 0=Value.slice none 0 0/\Value.slice none 0 0=Value.slice none 0 0/\Value.slice none 0 0=Value.slice none 0 0/\A3=A3/\A16/\bs s=bs s/\Value.slice none 0 0=Value.slice none 0 0/\Value.slice none 0 0=Value.slice none 0 0)/\∀ (k2:Nat),k2<=List.length (l0T s)->(decide ((k2:Int)<(List.length (l0T s):Int))=true->(0<=(k2:Int)/\(k2:Int)<A6)/\CO Gl 135 [B (decide ((0:Int)<=nth (l0T s) k2)),T.d (D.c (C.v (Value.string (bs A0))))] (.ret (.tup []))/\iR ((k2:Int)+1)/\k2<List.length (l0T s)/\(k2:Int)+1=(↑(k2+1):Int)/\A6=A6/\A17/\(0:Int)=0/\A17/\bs A0=bs A0/\(0:Int)=0/\Value.slice none 0 0=Value.slice none 0 0/\Value.slice none 0 0=Value.slice none 0 0/\Value.slice none 0 0=Value.slice none 0 0/\A3=A3/\A16/\bs s=bs s/\Value.slice none 0 0=Value.slice none 0 0/\Value.slice none 0 0=Value.slice none 0 0)/\(decide ((k2:Int)<(List.length (l0T s):Int))=false->List.length (l0T s)<=maxLen->A6=A6/\0<=A6/\List.length (l0T s)*24<=140737488355328/\List.length (l0T s)<=(140737488355328:Nat)/\(1:Nat)*16<=140737488355328/\(1:Nat)<=(140737488355328:Nat)/\iR ((0:Int)+1)/\((0:Int)+1=A18+1/\(SEq (1:Nat) (fun i=>List.getD [List.map C.dem [C.i (121:Nat) true [C.s Tag.n A8 fun i=>eI (nth (l0T s) i)]]] i []) (List.length (List.take ((0:Nat)+1) (An5 (lsT s)))) fun i=>eLn (nth (List.take ((0:Nat)+1) (An5 (lsT s))) i))/\List.length (l0T s)=List.length (l0T s)/\A17/\OEq A8 (fun x=>((0:Nat),fun x=>[])) A8 (Ah s (0:Nat))/\A3=A3/\A16/\bs s=bs s/\Value.slice none 0 0=Value.slice none 0 0/\Value.slice none 0 0=Value.slice none 0 0)/\∀ (k2:Nat),k2<=List.length (mid s)-(1:Nat)->(decide ((k2:Int)+1<(List.length (mid s):Int))=true->(0<=(k2:Int)+1/\(k2:Int)+1<A3)/\CO Gl 134 [str (nth (mid s) (Int.toNat ((k2:Int)+1))),str [(32:UInt8)]] (.ret (L eS (A4 k2)))/\((0:Int)<=1/\1<=(A13 k2)/\(A13 k2)<=(A13 k2))/\(Int.toNat ((A13 k2)-1)<=maxLen->(0=A18/\(↑(Int.toNat ((A13 k2)-1)):Int)=(↑(A15 k2):Int)/\(SEq (Int.toNat ((A13 k2)-1)) (fun i=>eS (nth (A4 k2) (Int.toNat (1:Int)+i))) (A15 k2) fun i=>eS (nth (tl (A2 k2)) i))/\(k2:Int)+1=(k2:Int)+1/\(0:Nat)=(0:Nat)/\bs (nth (mid s) (Int.toNat ((k2:Int)+1)))=bs (A2 k2)/\(k2:Int)+1=(k2:Int)+1/\(sR eLn (A5 k2))/\List.length (l0T s)=List.length (l0T s)/\A17/\OEq A8 (Ah s k2) A8 (Ah s k2)/\A3=A3/\A16/\bs s=bs s/\Value.slice none 0 0=Value.slice none 0 0/\Value.slice none 0 0=Value.slice none 0 0)/\∀ (k3:Nat),k3<=List.length (tl (A2 k2))->(decide ((k3:Int)<(↑(List.length (tl (nth (mid s) (k2+1)))):Int))=true->(0<=(k3:Int)/\(k3:Int)<(↑(A15 k2):Int))/\CO Gl 136 [str (nth (tl (A2 k2)) k3)] (.ret (I (Aq9 (nth (tl (A2 k2)) k3))))/\(List.length (Ac1 (A2 k2) k3)+1)*8<=140737488355328/\List.length (Ac1 (A2 k2) k3)+1<=140737488355328/\iR ((k3:Int)+1)/\k3<List.length (tl (A2 k2))/\(k3:Int)+1=(↑(k3+1):Int)/\(↑(A15 k2):Int)=(↑(A15 k2):Int)/\(sR eS (tl (A2 k2)))/\(k2:Int)+1=(k2:Int)+1/\(SEq (List.length (Ac1 (A2 k2) k3)+1) (Aj0 (List.length (Ac1 (A2 k2) k3)) (fun i=>eI (nth (Ac1 (A2 k2) k3) i)) fun i=>List.getD [List.map C.dem [C.v (Value.int IntKind.i64 (Aq9 (nth (tl (A2 k2)) k3)))]] i []) (List.length (Ac1 (A2 k2) (k3+1))) fun i=>eI (nth (Ac1 (A2 k2) (k3+1)) i))/\bs (A2 k2)=bs (A2 k2)/\(k2:Int)+1=(k2:Int)+1/\(sR eLn (A5 k2))/\List.length (l0T s)=List.length (l0T s)/\A17/\OEq A8 (Ah s k2) A8 (Ah s k2)/\A3=A3/\A16/\bs s=bs s/\Value.slice none 0 0=Value.slice none 0 0/\Value.slice none 0 0=Value.slice none 0 0)/\(decide ((k3:Int)<(↑(List.length (tl (nth (mid s) (k2+1)))):Int))=false->false=false/\(List.length (Ac1 (A2 k2) k3)<=maxLen->List.length (l0T s)<=maxLen->CO Gl 135 [B ((↑(List.length (Ac1 (A2 k2) k3)):Int)==A6),T.d (D.c (C.v (Value.string (bs (A2 k2)))))] (.ret (.tup []))/\(List.length (Ac1 (A2 k2) k3)<=maxLen->(0=A18/\(↑(List.length (Ac1 (A2 k2) k3)):Int)=A6/\(sQ eI (Ac1 (A2 k2) k3) (A14 k2))/\(k2:Int)+1=(k2:Int)+1/\(sQ eI (Ac1 (A2 k2) k3) (A14 k2))/\(sR eLn (A5 k2))/\List.length (l0T s)=List.length (l0T s)/\A17/\OEq A8 (Ah s k2) A8 (Bh9 s k2 (0:Nat))/\A3=A3/\A16/\bs s=bs s/\Value.slice none 0 0=Value.slice none 0 0/\Value.slice none 0 0=Value.slice none 0 0)/\∀ (k4:Nat),k4<=List.length (l0T s)->(decide ((k4:Int)<(List.length (l0T s):Int))=true->(0<=(k4:Int)/\(k4:Int)<(↑(List.length (A14 k2)):Int))/\(0<=(k4:Int)/\(k4:Int)<A6)/\k4<List.length (l0T s)/\(List.length (A9 k2 k4)+1)*8<=140737488355328/\List.length (A9 k2 k4)+1<=140737488355328/\(0<=(k4:Int)/\(k4:Int)<A6)/\k4=k4/\k4<List.length (l0T s)/\iR ((k4:Int)+1)/\k4<List.length (l0T s)/\(k4:Int)+1=(↑(k4+1):Int)/\A6=A6/\(sR eI (A14 k2))/\(k2:Int)+1=(k2:Int)+1/\(sR eI (A14 k2))/\(sR eLn (A5 k2))/\List.length (l0T s)=List.length (l0T s)/\A17/\OEq A8 (Bx5 (Bh9 s k2 k4) k4 (List.length (A9 k2 k4)+(1:Nat),Aj0 (List.length (A9 k2 k4)) (fun i=>eI (nth (A9 k2 k4) i)) fun i=>List.getD [List.map C.dem [C.v (Value.int IntKind.i64 (nth (A14 k2) k4))]] i [])) A8 (Bh9 s k2 (k4+1))/\A3=A3/\A16/\bs s=bs s/\Value.slice none 0 0=Value.slice none 0 0/\Value.slice none 0 0=Value.slice none 0 0)/\(decide ((k4:Int)<(List.length (l0T s):Int))=false->(List.length (A5 k2)+1)*16<=140737488355328/\List.length (A5 k2)+1<=140737488355328/\iR ((k2:Int)+1+(1:Int))/\k2<List.length (mid s)-(1:Nat)/\(k2:Int)+1+1=(↑(k2+1):Int)+1/\(SEq (List.length (A5 k2)+1) (Aj0 (List.length (A5 k2)) (fun i=>eLn (nth (A5 k2) i)) fun i=>List.getD [List.map C.dem [C.i (124:Nat) true [C.s Tag.n (List.length (A14 k2)) fun i=>eI (nth (A14 k2) i)]]] i []) (List.length (List.take (k2+(1:Nat)+1) (An5 (lsT s)))) fun i=>eLn (nth (List.take (k2+(1:Nat)+1) (An5 (lsT s))) i))/\List.length (l0T s)=List.length (l0T s)/\A17/\OEq A8 (Bh9 s k2 k4) A8 (Ah s (k2+1))/\A3=A3/\A16/\bs s=bs s/\Value.slice none 0 0=Value.slice none 0 0/\Value.slice none 0 0=Value.slice none 0 0))))))/\(decide ((k2:Int)+1<(List.length (mid s):Int))=false->CO Gl 108 [T.d (D.c (C.l eLn (A5 k2)))] (.ret (str (Ae8 (List.map lnT (A5 k2)))))/\CO Gl 135 [B (ByteArray.toList (bs (Ae8 (List.map lnT (A5 k2))))==ByteArray.toList (bs s)),T.d (D.c (C.v (Value.string (bs s))))] (.ret (.tup []))/\List.length (l0T s)=List.length (l0T s)/\(SEq A8 (Du0 (Ah s k2)) (List.length (shT (lsT s)).1) fun i=>Ac2 (nth (shT (lsT s)).1 i))/\sQ eI (l0T s) ((shT (lsT s)).2))))))))/\(decide (0<(↑(Int.toNat ((↑(List.length (Aa4 (10:UInt8) s)):Int)-2-(0:Int))):Int))=false->False))))))) Tryz.func110 (by kernel_rfl) (by kernel_rfl) ?_
 have hsp:=Ab1 10 s
 have hml:=As9 (s:=s)
 have hll:=Az8 s
 have hrow:∀ i,i<(mid s).length->(nth (mid s) i).length<=150:=fun i hi=>by have:=Az3 hi;omega
 have hm0:0<(mid s).length:=by omega
 have hl0:l0T s=nsR (nth (mid s) 0):=Ar7 hm0
 have h00:nth (Aa4 10 s) (Int.toNat 0+Int.toNat 0)=nth (mid s) 0:=(Ak4 hm0).symm
 have hok:∀ i,i<(mid s).length->okR (nth (mid s) i)=true:=fun i hi=>List.all_eq_true.1 hall _ (Ab5 hi)
 obtain ⟨hf1,hf2,hf3⟩:=C63 hf
 have hf1:0<(l0T s).length:=hf1
 have hf2:∀ n∈l0T s,0<=n:=hf2
 have hf3:∀ k,k+1<(lsT s).length->(nth (lsT s) (k+1)).length=(l0T s).length:=hf3
 have hl0n:(l0T s).length<=150:=by rw [hl0];have:=Bf7 (nth (mid s) 0);have:=hrow 0 hm0;omega
 simp only [stdS,imp_self,implies_true,and_true,h00,Ax2]
 refine ⟨Ae0 hG.len s 10 (by omega),fun _=>⟨Al8 S _ _ (by simp;omega),fun _=>⟨(Aa1 _).2 (by omega),⟨by decide,by omega,by omega⟩,fun _=>⟨fun _=>?_,fun h=>?_⟩⟩⟩⟩
 ·refine ⟨⟨by omega,by omega⟩,Ae0 hG.len _ 32 (by have:=hrow 0 hm0;omega),⟨by omega,by have:=Ab1 32 (nth (mid s) 0);omega,by omega⟩,fun _=>⟨?_,fun k1 hk1=>⟨fun h1=>?_,fun h1 hmx=>?_⟩⟩⟩
  ·exact ⟨by have:=Ab1 32 (nth (mid s) 0);rw [Ah7];omega,At6 _,by omega,.of ⟨by omega,fun i hi=>by
    show eS (nth (Aa4 10 s) (0+i))=eS (nth (mid s) i)
    rw [Ak4 (by omega),Nat.zero_add]⟩,trivial⟩
  ·have h1:k1<(tl (nth (mid s) 0)).length:=by simpa using h1
   have hnl:=Ai9 (r:=nth (mid s) 0) (j:=k1)
   have htl:=Ah7 (r:=nth (mid s) 0)
   have hsr:=Ab1 32 (nth (mid s) 0)
   have hr:=hrow 0 hm0
   exact ⟨⟨by omega,by omega⟩,Af S hG _ (List.all_eq_true.1 (hok 0 hm0) _ (Ab5 h1)),by omega,by omega,(Aa1 _).2 (by omega),h1,by omega,Ac5 (Ag3 h1) rfl,trivial⟩
  ·have h1:k1=(tl (nth (mid s) 0)).length:=by
    have:¬ k1<(tl (nth (mid s) 0)).length:=by simpa using h1
    omega
   subst h1
   rw [Al5,<-hl0]
   refine ⟨Al8 S _ _ (decide_eq_true (by omega)),fun _=>⟨⟨rfl,Aa8 rfl,Aa8 rfl,trivial⟩,fun k2 hk2=>⟨fun hd=>?_,fun hd _=>⟨by omega,by omega,by omega,by decide,by decide,(Aa1 _).2 (by omega),?_,fun k3 hk3=>⟨fun h3=>?_,fun h3=>?_⟩⟩⟩⟩⟩
   ·have hd:k2<(l0T s).length:=by simpa using hd
    exact ⟨⟨by omega,by omega⟩,Al8 S _ _ (decide_eq_true (hf2 _ (Ab5 hd))),(Aa1 _).2 (by omega),hd,by omega,trivial⟩
   ·refine ⟨.of ⟨by rw [List.length_take,Af2];omega,fun i hi=>?_⟩,Bj2 s _,trivial⟩
    have:i=0:=by omega
    subst this
    show [C.i 121 true [C.l eI (l0T s)]]=eLn (nth ((An5 (lsT s)).take 1) 0)
    rw [A39 (by omega),A97 (by omega)]
    rfl
   ·have h3:(k3:Int)+1<((mid s).length:Int):=of_decide_eq_true h3
    have hlt:k3+1<(mid s).length:=by omega
    have ht3:((k3:Int)+1).toNat=k3+1:=by omega
    have hrw:=hrow (k3+1) hlt
    have hlk:nth (lsT s) (k3+1)=nsR (nth (mid s) (k3+1)):=Ar7 hlt
    have hlen:=hf3 k3 (by omega)
    have hcl:=fun j=>Av6 s (k:=k3) (by omega) j
    have hll2:((An5 (lsT s)).take (k3+1)).length=k3+1:=by rw [List.length_take,Af2];omega
    have hbb:∀ j:Nat,Nat.blt j j=false:=fun j=>A09 (Nat.lt_irrefl j)
    have htl:=Ah7 (r:=nth (mid s) (k3+1))
    have hsr:=Ab1 32 (nth (mid s) (k3+1))
    simp only [ht3,hbb,cond_false]
    refine ⟨⟨by omega,by omega⟩,Ae0 hG.len _ 32 (by omega),⟨by omega,by omega,by omega⟩,fun _=>⟨⟨by omega,At6 _,trivial,trivial⟩,fun k4 hk4=>⟨fun h4=>?_,fun h4 hmx _=>?_⟩⟩⟩
    ·have h4:k4<(tl (nth (mid s) (k3+1))).length:=by simpa using h4
     have hnl:=Ai9 (r:=nth (mid s) (k3+1)) (j:=k4)
     exact ⟨⟨by omega,by omega⟩,Af S hG _ (List.all_eq_true.1 (hok (k3+1) hlt) _ (Ab5 h4)),by omega,by omega,(Aa1 _).2 (by omega),h4,by omega,Ac5 (Ag3 h4) rfl,trivial⟩
    ·have h4:k4=(tl (nth (mid s) (k3+1))).length:=by
      have:¬ k4<(tl (nth (mid s) (k3+1))).length:=by simpa using h4
      omega
     subst h4
     rw [Al5,<-hlk]
     refine ⟨Al8 S _ _ (by rw [hlen];exact beq_self_eq_true _),fun _=>⟨⟨by rw [hlen],Aa8 rfl,Aa8 rfl,Bb1 s _ _,trivial⟩,fun k5 hk5=>⟨fun h5=>?_,fun h5=>?_⟩⟩⟩
     ·have h5:k5<(l0T s).length:=by simpa using h5
      have:=hcl k5
      exact ⟨⟨by omega,by omega⟩,⟨by omega,by omega⟩,h5,by omega,by omega,⟨by omega,by omega⟩,h5,(Aa1 _).2 (by omega),h5,by omega,B40 (by omega) _,trivial⟩
     ·have h5:k5=(l0T s).length:=by
       have:¬ k5<(l0T s).length:=by simpa using h5
       omega
      subst h5
      refine ⟨by omega,by omega,(Aa1 _).2 (by omega),by omega,by omega,?_,B41 s _ _,trivial⟩
      refine Ak2 (by rw [Af2];omega) ?_
      rw [A98 (by omega)]
      rfl
   ·have h3:¬ (k3:Int)+1<((mid s).length:Int):=of_decide_eq_false h3
    have hke:k3+1=(lsT s).length:=by omega
    have hte:(An5 (lsT s)).take (k3+1)=An5 (lsT s):=List.take_of_length_le (by rw [Af2];omega)
    obtain ⟨g1,g2,g3⟩:=De3 (s:=s) (by omega)
    rw [hte]
    refine ⟨Cd7 S hG _ (by rw [Af2];omega) (Cn hs hall),Al8 S _ _ ?_,.of ⟨g1.symm,fun j hj=>?_⟩,?_⟩
    ·rw [B87,ht]
     exact beq_self_eq_true _
    ·show Du0 (Ah s k3) j=Ac2 (nth (shT (lsT s)).cols j)
     rw [g3 j hj,show (lsT s).length - 1=k3 by omega]
     rfl
    ·rw [g2]
     exact Aa8 rfl
 ·have:=of_decide_eq_false h
  omega
end Go.Vc.Hn
