/- A part of the proofs over the layers: the program and the specification; no condition. -/
import Derived.Test.YtknoiciabjockaaGreatAD
import Derived.RangeFuncBox
set_option linter.all false
set_option linter.unusedSimpArgs false
set_option linter.unusedVariables false
namespace Go.Vc.Zn
open Go Go.Proofs Go.Vc Go.RowKit
structure Col where
 vals:List Int
 order:Nat
 lo:Int
 hi:Int
def cCol (s:Col):List C:=[.l eI s.vals,Ci s.order,Ci s.lo,Ci s.hi]
def tCol (s:Col):T:=.d (.agg (cCol s))
structure okC (s:Col):Prop where
 b1:inR s.vals.length 1 14=true
 b2:inR s.order 1 3=true
 b3:inR s.lo (-99999) 99999=true
 b4:inR s.hi s.lo 99999=true
 b5:(s.vals.all fun n=>inR n (-9999) 9999)=true
 b6:decide ((s.order:Int)<(s.vals.length:Int))=true
def dif:List Int->List Int
 |a::b::r=>(b - a)::dif (b::r)
 |_=>[]
def difs:Nat->List Int->List Int
 |0,l=>l
 |k+1,l=>dif (difs k l)
def winL (s:Col):List Int:=difs s.order s.vals
def jumpS (s:Col) (i:Nat):Bool:=!inR (nth (winL s) i) s.lo s.hi
def runsB (s:Col):Bool:=(winL s).all fun x=>inR x s.lo s.hi
def withV (s:Col) (r:Nat) (x:Int):Col:=⟨s.vals.set r x,s.order,s.lo,s.hi⟩
def unitL (k a:Nat):List Int:=(List.replicate (k+1) (0:Int)).set a 1
def wgt (k a:Nat):Int:=nth (difs k (unitL k a)) 0
def othTo (s:Col) (w r:Nat):Nat->List Int
 |0=>[]
 |j+1=>othTo s w r j++bif (w+j).beq r then [] else [wgt s.order j*nth s.vals (w+j)]
def restS (s:Col) (w r:Nat):Int:=sumL (othTo s w r (s.order+1))
def flo (a b:Int):Int:=bif decide (a<a.tdiv b*b) then a.tdiv b - 1 else a.tdiv b
def lowQ (lo hi rest w:Int):Int:=bif decide (0<w) then -flo (rest - lo) w else -flo (hi - rest) (-w)
def highQ (lo hi rest w:Int):Int:=bif decide (0<w) then flo (hi - rest) w else flo (rest - lo) (-w)
def inW (s:Col) (w r:Nat):Bool:=Nat.ble w r&&Nat.ble r (w+s.order)
def betw (s:Col) (r:Nat):Nat->Int×Int
 |0=>(-9999,9999)
 |w+1=>bif inW s w r then (max (betw s r w).1 (lowQ s.lo s.hi (restS s w r) (wgt s.order (r - w))),min (betw s r w).2 (highQ s.lo s.hi (restS s w r) (wgt s.order (r - w)))) else betw s r w
structure Fix where
 row:Nat
 lo:Int
 hi:Int
instance:Inhabited Fix:=⟨⟨0,0,0⟩⟩
def eFix (x:Fix):List C:=[Ci x.row,Ci x.lo,Ci x.hi]
def betwS (s:Col) (r:Nat):Int×Int:=betw s r (s.vals.length - s.order)
def fixTo (s:Col):Nat->List Fix
 |0=>[]
 |k+1=>fixTo s k++bif decide ((betwS s k).1<=(betwS s k).2)&&runsB (withV s k (betwS s k).1) then [⟨k,(betwS s k).1,(betwS s k).2⟩] else []
def cSh (s:Col) (x:C):List C:=cCol s++[.l eI (winL s),x]
theorem dif_len:∀ l:List Int,(dif l).length=l.length - 1
 | []=>rfl
 | [_]=>rfl
 |a::b::r=>by
  unfold dif
  rw [List.length_cons,dif_len (b::r)]
  simp
theorem difs_len (l:List Int):∀ k,(difs k l).length=l.length - k
 |0=>rfl
 |k+1=>by unfold difs;rw [dif_len,difs_len l k];omega
theorem dif_at:∀ {l:List Int} {i:Nat},i+1<l.length->nth (dif l) i=nth l (i+1) - nth l i
 | [],i,h=>by simp at h
 | [_],i,h=>by simp at h
 |a::b::r,0,_=>rfl
 |a::b::r,i+1,h=>by
  have:=dif_at (l:=b::r) (i:=i) (by simpa using h)
  unfold dif
  exact this
theorem bnd_dif {B:Int} {l:List Int} (h:bnd B l):bnd (2*B) (dif l):=by
 intro i hi
 rw [dif_len] at hi
 have h1:=h i (by omega)
 have h2:=h (i+1) (by omega)
 rw [dif_at (by omega)];omega
theorem bnd_difs {B:Int} {l:List Int} (h:bnd B l):∀ k:Nat,bnd (2 ^ k*B) (difs k l)
 |0=>by rw [show (2:Int) ^ 0*B=B by omega];exact h
 |k+1=>by
  have:=bnd_dif (bnd_difs h k)
  rw [show (2:Int) ^ (k+1)*B=2*(2 ^ k*B) by rw [Int.pow_succ];rw [Int.mul_comm (2 ^ k) 2,Int.mul_assoc]]
  exact this
theorem bnd_difs3 {l:List Int} (h:bnd 10000 l) {k:Nat} (hk:k<=3):bnd 80000 (difs k l):=by
 refine bnd_mono (bnd_difs h k) ?_
 have:∀ k:Fin 4,(2:Int) ^ k.1*10000<=80000:=by decide
 exact this ⟨k,by omega⟩
def mixD (l:List Int) (j:Nat):List Int:=(dif l).take j++l.drop j
theorem okC.all {s:Col} (h:okC s):(1<=s.order/\s.order<=3)/\s.order<s.vals.length/\s.vals.length<=14/\bnd 9999 s.vals/\-99999<=s.lo/\s.lo<=s.hi/\s.hi<=99999:=by
 have h1:=inR_iff.1 h.b1
 have h2:=inR_iff.1 h.b2
 have h3:=inR_iff.1 h.b3
 have h4:=inR_iff.1 h.b4
 have h6:=of_decide_eq_true h.b6
 refine ⟨by omega,by omega,by omega,fun i hi=>?_,by omega,by omega,by omega⟩
 have:=List.all_eq_true.1 h.b5 _ (nth_mem hi)
 exact inR_iff.1 this
theorem unit_len (k a:Nat):(unitL k a).length=k+1:=by unfold unitL;rw [List.length_set,List.length_replicate]
theorem unit_at (k a i:Nat) (ha:a<=k):nth (unitL k a) i=bif i.beq a then 1 else 0:=by
 unfold unitL
 by_cases h:i=a
 ·subst h
  rw [nth_set_self (by rw [List.length_replicate];omega),Nat.beq_refl];rfl
 ·rw [nth_set_other (fun h2=>h h2.symm),show i.beq a=false by rw [Bool.eq_false_iff];intro h2;exact h (Nat.eq_of_beq_eq_true h2)]
  unfold nth
  rw [List.getD_eq_getElem?_getD,List.getElem?_replicate]
  split<;>rfl
theorem wgt_le (k a:Nat) (hk:k<=3) (ha:a<=k):wgt k a≠0/\-3<=wgt k a/\wgt k a<=3:=by
 have:∀ k:Fin 4,∀ a:Fin 4,a.1<=k.1->wgt k.1 a.1≠0/\-3<=wgt k.1 a.1/\wgt k.1 a.1<=3:=by decide
 exact this ⟨k,by omega⟩ ⟨a,by omega⟩ ha
theorem mixD_at {l:List Int} {i j:Nat} (hj:j<l.length) (hi:i<l.length):nth (mixD l j) i=bif Nat.blt i j then nth l (i+1) - nth l i else nth l i:=by
 unfold mixD
 have hl:((dif l).take j).length=j:=by rw [List.length_take,dif_len];omega
 rcases Nat.lt_or_ge i j with h1|h1
 ·rw [nth_append_lt (by omega),nth_take h1,dif_at (by omega),show Nat.blt i j=true from Nat.ble_eq_true_of_le h1];rfl
 ·have:Nat.blt i j=false:=by rw [Bool.eq_false_iff];intro h2;have:=Nat.le_of_ble_eq_true h2;omega
  rw [nth_append_ge (by omega),nth_drop,this,hl,show j+(i - j)=i by omega];rfl
theorem flo_le {a b:Int} (ha:-1000000<=a/\a<=1000000) (hb:1<=b/\b<=3):-1000001<=flo a b/\flo a b<=1000001:=by
 have h1:-1000000<=Int.tdiv a b/\Int.tdiv a b<=1000000:=by
  have:=Int.natAbs_tdiv_le_natAbs a b
  omega
 unfold flo
 cases decide (a<Int.tdiv a b*b)<;>simp<;>omega
theorem oth_ok {s:Col} (h:okC s) (w r:Nat) (hw:w+s.order<s.vals.length):∀ j,j<=s.order+1->(othTo s w r j).length<=j/\∀ i,i<(othTo s w r j).length->-30000<=nth (othTo s w r j) i/\nth (othTo s w r j) i<=30000
 |0,_=>⟨Nat.le_refl _,fun i hi=>absurd hi (by simp [othTo])⟩
 |j+1,hj=>by
  obtain ⟨h1,h2,h3,h4,h5⟩:=h.all
  obtain ⟨l1,l2⟩:=oth_ok h w r hw j (by omega)
  unfold othTo
  cases (w+j).beq r with
  |true=>rw [cond_true,List.append_nil];exact ⟨by omega,l2⟩
  |false=>
   rw [cond_false,List.length_append,List.length_singleton]
   refine ⟨by omega,fun i hi=>?_⟩
   rcases Nat.lt_or_ge i (othTo s w r j).length with h6|h6
   ·rw [nth_append_lt h6];exact l2 i h6
   ·have h0:i=(othTo s w r j).length:=by omega
    subst h0
    rw [nth_append_ge (Nat.le_refl _),Nat.sub_self]
    obtain ⟨_,g1,g2⟩:=wgt_le s.order j (by omega) (by omega)
    obtain ⟨g3,g4⟩:=h4 (w+j) (by omega)
    show -30000<=wgt s.order j*nth s.vals (w+j)/\wgt s.order j*nth s.vals (w+j)<=30000
    have c:wgt s.order j=-3∨wgt s.order j=-2∨wgt s.order j=-1∨wgt s.order j=0∨wgt s.order j=1∨wgt s.order j=2∨wgt s.order j=3:=by omega
    rcases c with c|c|c|c|c|c|c<;>rw [c]<;>omega
theorem sumTo_le {l:List Int} (hl:∀ i,i<l.length->-30000<=nth l i/\nth l i<=30000):∀ k,k<=l.length->-30000*(k:Int)<=sumTo l k/\sumTo l k<=30000*(k:Int)
 |0,_=>⟨Int.le_refl _,Int.le_refl _⟩
 |k+1,hk=>by
  have h1:=sumTo_le hl k (by omega)
  have h2:=hl k (by omega)
  unfold sumTo
  omega
theorem rest_le {s:Col} (h:okC s) (w r:Nat) (hw:w+s.order<s.vals.length):-800000<=restS s w r/\restS s w r<=800000:=by
 obtain ⟨l1,l2⟩:=oth_ok h w r hw (s.order+1) (Nat.le_refl _)
 have:=sumTo_le l2 _ (Nat.le_refl _)
 have:=h.all.1
 unfold restS sumL
 omega
theorem in108 {Gl} (S:SP Gl) (x lo hi:Int):CO Gl 108 [I x,I lo,I hi] (.ret (B (inR x lo hi))):=by
 refine fn_is S (.nil) Tryz.func108 (by kernel_rfl) ((eqB (decide (lo<=x)) true=true->eqB (decide (lo<=x)) true=true)/\(eqB (decide (lo<=x)) true=true->eqB (decide (lo<=x)) true=true)/\(decide (lo<=x)=true->eqB (decide (lo<=x)) true=true)/\(bif decide (lo<=x) then decide (x<=hi) else false)=inR x lo hi) (by kernel_rfl) ?_
 simp only [stdS,imp_self,implies_true,and_true,inR]
theorem bad109 {Gl} (S:SP Gl) (n:Int):CO Gl 109 [I n] (.ret (B (!inR n (-9999) 9999))):=by
 refine fn_is S (.r (.ret (B (inR n (-9999:Int) (9999:Int)))) .nil) Tryz.func109 (by kernel_rfl) (CO Gl 108 [I n,I (-9999:Int),I 9999] (.ret (B (inR n (-9999:Int) (9999:Int))))/\(!inR n (-9999:Int) (9999:Int))=!inR n (-9999:Int) (9999:Int)) (by kernel_rfl) ?_
 simp only [stdS,imp_self,implies_true,and_true]
 exact ⟨in108 S n _ _,trivial⟩
theorem isSheet41 {Gl} (S:SP Gl) (s:Col) (h:okC s):CO Gl 41 [tCol s] (.ret (B true)):=by
 refine fn_iq S (let A0:=(B !List.all (Col.vals s) fun x=>!!inR x (-9999:Int) (9999:Int));((.val 6 true (.r (.ret (B (inR (s.1.length:Int) (1:Int) (14:Int)))) (.sure 9 (.sure 10 (.val 11 true (.sure 11 (.r (.ret (B (inR (s.2:Int) (1:Int) (3:Int)))) (.sure 12 (.sure 15 (.sure 16 (.sure 17 (.val 18 true (.sure 18 (.r (.ret (B (inR s.3 (-99999:Int) (99999:Int)))) (.sure 19 (.sure 22 (.sure 23 (.sure 24 (.sure 25 (.sure 26 (.sure 27 (.val 28 true (.sure 28 (.r (.ret (B (inR s.4 s.3 (99999:Int)))) (.sure 29 (.ff (.r (.ret A0) .nil))))))))))))))))))))))))))),(s.1.length<=maxLen->inR (s.1.length:Int) (1:Int) (14:Int)=true/\CO Gl 108 [I s.1.length,I 1,I 14] (.ret (B (inR (s.1.length:Int) (1:Int) (14:Int))))/\true=true/\true=true/\inR (s.2:Int) (1:Int) (3:Int)=true/\true=true/\CO Gl 108 [I s.2,I 1,I 3] (.ret (B (inR (s.2:Int) (1:Int) (3:Int))))/\true=true/\true=true/\true=true/\true=true/\inR s.3 (-99999:Int) (99999:Int)=true/\true=true/\CO Gl 108 [I s.3,I (-99999:Int),I 99999] (.ret (B (inR s.3 (-99999:Int) (99999:Int))))/\true=true/\true=true/\true=true/\true=true/\true=true/\true=true/\true=true/\inR s.4 s.3 (99999:Int)=true/\true=true/\CO Gl 108 [I s.4,I s.3,I 99999] (.ret (B (inR s.4 s.3 (99999:Int))))/\true=true/\false=false/\CO Gl 102 [L eI (Col.vals s),T.fn (109:FuncId) [] []] (.ret A0)/\(!!List.all s.1 fun x=>!!inR x (-9999:Int) (9999:Int))=true))) Tryz.func41 (by kernel_rfl) (by kernel_rfl) ?_
 have hall:(s.vals.all fun n=>!!inR n (-9999) 9999)=true:=by simp only [Bool.not_not];exact h.b5
 simp only [stdS,imp_self,implies_true,and_true]
 exact fun hm=>⟨h.b1,in108 S _ _ _,h.b2,in108 S _ _ _,h.b3,in108 S _ _ _,h.b4,in108 S _ _ _,has104 S s.vals 109 (fun n=>!inR n (-9999) 9999) (fun i _=>bad109 S _),by simp only [Bool.not_not] at hall ⊢;exact hall⟩
theorem diffs198 {Gl} (S:SP Gl) (l:List Int) (r:Nat) (h1:r<l.length) (h2:l.length<=1000) (hb:bnd 10000 l) (hr:r<=3):CO Gl 198 [L eI l,I r] (.ret (L eI (difs r l))):=by
 refine fn_iq S (let A0:=fun (k0:Nat)=>(↑(List.length l-k0):Int);let A1:=fun (k0:Nat)=>(List.length l-k0);let A2:=fun (k0 k1:Nat)=>(nth (mixD (difs k0 l) k1) (Int.toNat ((k1:Int)+1))-nth (mixD (difs k0 l) k1) k1);((.r (.ret (T.own (1:Nat) l.length fun i=>eI (nth l i))) (.loop r (fun k=>[v 10 (I k),v 9 (I r),v 5 (T.arr 8 (List.length l-k)),((2:Nat),(8:Nat),T.arrc false (1:Nat) (List.length l-k) fun i=>eI (nth (difs k l) i))]) fun k0=>.br (.loop (List.length l-k0-(1:Nat)) (fun j=>[v 15 (I j),v 14 (I ((A0 k0)-1)),v 10 (I k0),v 9 (I r),v 5 (T.arr 8 (A1 k0)),((2:Nat),(8:Nat),T.arrc false (1:Nat) (A1 k0) fun i=>eI (nth (mixD (difs k0 l) j) i))]) fun k1=>.br .nil (.arrA (nat_lit 36) .nil)) .nil)),(CO Gl 69 [L eI l] (.ret (T.own (1:Nat) l.length fun i=>eI (nth l i)))/\(0=(↑(0:Nat):Int)/\(r:Int)=(r:Int)/\l.length=List.length l-(0:Nat)/\SEq l.length (fun i=>eI (nth l i)) (List.length l-(0:Nat)) fun i=>eI (nth (difs (0:Nat) l) i))/\∀ (k0:Nat),k0<=r->(decide ((k0:Int)<(r:Int))=true->List.length l-k0<=maxLen->iR ((A0 k0)-1)/\(0=(↑(0:Nat):Int)/\(A0 k0)-1=(A0 k0)-1/\(k0:Int)=(k0:Int)/\(r:Int)=(r:Int)/\List.length l-k0=List.length l-k0/\SEq (A1 k0) (fun i=>eI (nth (difs k0 l) i)) (A1 k0) fun i=>eI (nth (mixD (difs k0 l) (0:Nat)) i))/\∀ (k1:Nat),k1<=List.length l-k0-(1:Nat)->(decide ((k1:Int)<(↑(List.length l-k0):Int)-1)=true->iR ((k1:Int)+1)/\(0<=(k1:Int)+1/\(k1:Int)+1<(A0 k0))/\Int.toNat ((k1:Int)+1)<List.length l-k0/\(0<=(k1:Int)/\(k1:Int)<(A0 k0))/\k1<List.length l-k0/\iR (A2 k0 k1)/\(0<=(k1:Int)/\(k1:Int)<(A0 k0))/\k1<List.length l-k0/\iR ((k1:Int)+1)/\k1<List.length l-k0-(1:Nat)/\(k1:Int)+1=(↑(k1+1):Int)/\(A0 k0)-1=(A0 k0)-1/\(k0:Int)=(k0:Int)/\(r:Int)=(r:Int)/\List.length l-k0=List.length l-k0/\SEq (A1 k0) (updF (fun i=>eI (nth (mixD (difs k0 l) k1) i)) k1 (List.map C.dem [C.v (Value.int IntKind.i64 (A2 k0 k1))])) (A1 k0) fun i=>eI (nth (mixD (difs k0 l) (k1+1)) i))/\(decide ((k1:Int)<(↑(List.length l-k0):Int)-1)=false->List.length l-k0<=maxLen->iR ((A0 k0)-1)/\List.length l-k0=List.length l-k0/\0<=(A0 k0)-1/\(A0 k0)-1<=(A0 k0)/\iR ((k0:Int)+1)/\k0<r/\(k0:Int)+1=(↑(k0+1):Int)/\(r:Int)=(r:Int)/\Int.toNat ((A0 k0)-1)=List.length l-(k0+1)/\SEq (Int.toNat ((A0 k0)-1)) (fun i=>eI (nth (mixD (difs k0 l) k1) i)) (List.length l-(k0+1)) fun i=>eI (nth (difs (k0+1) l) i)))/\(decide ((k0:Int)<(r:Int))=false->List.length l-k0=List.length l-k0/\SEq (A1 k0) (fun i=>eI (nth (difs k0 l) i)) (List.length (difs r l)) fun i=>eI (nth (difs r l) i))))) Tryz.func198 (by kernel_rfl) (by kernel_rfl) ?_
 have hal:=difs_len l
 simp only [stdS,imp_self,implies_true,and_true,maxLen_eq,rng_iff,decide_eq_true_eq,decide_eq_false_iff_not]
 refine ⟨clone149 l (by omega) h2,⟨by omega,.of ⟨by omega,fun _ _=>rfl⟩⟩,fun k hk=>⟨fun hd hm=>?_,fun hd=>?_⟩⟩
 ·have hm0:∀ j i,j<l.length - k->i<l.length - k->nth (mixD (difs k l) j) i=bif Nat.blt i j then nth (difs k l) (i+1) - nth (difs k l) i else nth (difs k l) i:=fun j i hj hi=>mixD_at (by rw [hal];exact hj) (by rw [hal];exact hi)
  have hlo:∀ {i j:Nat},i<j->Nat.blt i j=true:=fun h=>Nat.ble_eq_true_of_le h
  have hge:∀ {i j:Nat},j<=i->Nat.blt i j=false:=fun h=>by rw [Bool.eq_false_iff];intro h2;have:=Nat.le_of_ble_eq_true h2;omega
  have hB:∀ i,i<l.length - k->-80000<=nth (difs k l) i/\nth (difs k l) i<=80000:=fun i hi=>bnd_difs3 hb (by omega) i (by rw [hal];exact hi)
  refine ⟨by omega,SEq_ext fun i hi=>by rw [hm0 0 i (by omega) hi,hge (Nat.zero_le _)];rfl,fun j hj=>⟨fun hd2=>?_,fun hd2 hm2=>⟨by omega,by omega,by omega,by omega,by omega,by omega,by omega,.of ⟨by omega,fun i hi=>congrArg eI ?_⟩⟩⟩⟩
  ·have e1:nth (mixD (difs k l) j) j=nth (difs k l) j:=by rw [hm0 j j (by omega) (by omega),hge (Nat.le_refl _)];rfl
   have e2:nth (mixD (difs k l) j) (Int.toNat ((j:Int)+1))=nth (difs k l) (j+1):=by rw [show Int.toNat ((j:Int)+1)=j+1 by omega,hm0 j (j+1) (by omega) (by omega),hge (by omega)];rfl
   have b1:=hB j (by omega)
   have b2:=hB (j+1) (by omega)
   rw [e1,e2]
   refine ⟨by omega,by omega,by omega,by omega,by omega,by omega,by omega,by omega,by omega,by omega,by omega,SEq_upd fun i hi=>?_⟩
   rw [hm0 (j+1) i (by omega) hi,hm0 j i (by omega) hi]
   rcases Nat.lt_trichotomy i j with h|h|h
   ·rw [hlo (show i<j+1 by omega),hlo h,show i.beq j=false by rw [Bool.eq_false_iff];intro h2;have:=Nat.eq_of_beq_eq_true h2;omega];rfl
   ·subst h
    rw [hlo (Nat.lt_succ_self i),Nat.beq_refl];rfl
   ·rw [hge (show j+1<=i by omega),hge (show j<=i by omega),show i.beq j=false by rw [Bool.eq_false_iff];intro h2;have:=Nat.eq_of_beq_eq_true h2;omega];rfl
  ·rw [hm0 j i (by omega) (by omega),hlo (show i<j by omega)]
   exact (dif_at (l:=difs k l) (by rw [hal];omega)).symm
 ·have:k=r:=by omega
  subst this
  exact ⟨(hal k).symm,fun _ _=>.inl rfl⟩
theorem diffsU {Gl} (S:SP Gl) (k a:Nat) (hk:k<=3) (ha:a<=k):CO Gl 198 [.d (.c (.s .n (Int.toNat ((k:Int)+1)) (updF (fun _=>vsC [Value.int IntKind.i64 0]) a (List.map C.dem [C.v (Value.int IntKind.i64 1)])))),I k] (.ret (L eI (difs k (unitL k a)))):=by
 have hl:=unit_len k a
 refine (diffs198 S (unitL k a) k (by omega) (by omega) (fun i hi=>?_) hk).args ⟨.of ⟨by rw [hl];omega,fun i hi=>?_⟩,rfl⟩
 ·rw [unit_at k a i ha]
  cases i.beq a<;>simp
 ·show updF (fun _=>vsC [Value.int IntKind.i64 0]) a (List.map C.dem [C.v (Value.int IntKind.i64 1)]) i=eI (nth (unitL k a) i)
  rw [unit_at k a i ha]
  unfold updF
  cases i.beq a<;>rfl
theorem weight301 {Gl} (S:SP Gl) (k a:Nat) (hk:k<=3) (ha:a<=k):CO Gl 301 [I k,I a] (.ret (I (wgt k a))):=by
 refine fn_iq S (let A0:=((k:Int)+1);let A1:=(difs k (unitL k a));((.r (.ret (L eI A1)) .nil),(iR A0/\(k:Int)+1=(k:Int)+1/\0<=(k:Int)+1/\Int.toNat A0*8<=140737488355328/\Int.toNat A0<=(140737488355328:Nat)/\(0<=(a:Int)/\(a:Int)<(↑(Int.toNat A0):Int))/\a<Int.toNat A0/\Int.toNat A0=Int.toNat A0/\CO Gl 198 [T.d (D.c (C.s Tag.n (Int.toNat A0) (updF (fun x=>vsC [Value.int IntKind.i64 (0:Int)]) a (List.map C.dem [C.v (Value.int IntKind.i64 (1:Int))])))),I k] (.ret (L eI A1))/\((0:Int)<=0/\0<(↑(List.length A1):Int))/\nth A1 (Int.toNat (0:Int))=wgt k a))) Tryz.func301 (by kernel_rfl) (by kernel_rfl) ?_
 have hl:=difs_len (unitL k a) k
 have hu:=unit_len k a
 simp only [stdS,imp_self,implies_true,and_true,rng_iff]
 exact ⟨by omega,by omega,by omega,by omega,by omega,by omega,diffsU S k a hk ha,by omega,rfl⟩
theorem sum302 {Gl} (S:SP Gl) (l:List Int) (h:∀ k,k<=l.length->-1000000<=sumTo l k/\sumTo l k<=1000000):CO Gl 302 [L eI l] (.ret (I (sumL l))):=by
 refine fn_is S (.loop l.length (fun k=>[v 8 (I k),v 7 (I l.length),v 6 (L eI l),v 3 (I (sumTo l k))]) fun k0=>.br .nil .nil) Tryz.func302 (by kernel_rfl) (l.length<=maxLen->(0=(↑(0:Nat):Int)/\(l.length:Int)=(l.length:Int)/\(sR eI l)/\(0:Int)=sumTo l (0:Nat))/\∀ (k0:Nat),k0<=l.length->(decide ((k0:Int)<(l.length:Int))=true->(0<=(k0:Int)/\(k0:Int)<(l.length:Int))/\iR (sumTo l k0+nth l k0)/\iR ((k0:Int)+1)/\k0<l.length/\(k0:Int)+1=(↑(k0+1):Int)/\(l.length:Int)=(l.length:Int)/\(sR eI l)/\sumTo l k0+nth l k0=sumTo l (k0+1))/\(decide ((k0:Int)<(l.length:Int))=false->sumTo l k0=sumL l)) (by kernel_rfl) ?_
 simp only [stdS,imp_self,implies_true,and_true]
 refine fun hm=>⟨rfl,fun k hk=>⟨fun hd=>?_,fun hd=>?_⟩⟩
 ·have hlt:k<l.length:=by have:=of_decide_eq_true hd;omega
  have h1:=h (k+1) hlt
  have hs:sumTo l (k+1)=sumTo l k+nth l k:=rfl
  exact ⟨⟨by omega,by omega⟩,(rng_iff _).2 (by omega),rng_succ hd hm,hlt,by omega,rfl⟩
 ·have hke:k=l.length:=by have:=of_decide_eq_false hd;omega
  subst hke
  rfl
theorem floor303 {Gl} (S:SP Gl) (a b:Int) (ha:-1000000<=a/\a<=1000000) (hb:1<=b/\b<=3):CO Gl 303 [I a,I b] (.ret (I (flo a b))):=by
 refine fn_is S (.br .nil .nil) Tryz.func303 (by kernel_rfl) ((b≠(0:Int)/\iR (Int.tdiv a b))/\iR (Int.tdiv a b*b)/\(decide (a<Int.tdiv a b*b)=true->iR (Int.tdiv a b-(1:Int))/\Int.tdiv a b-(1:Int)=flo a b)/\(decide (a<Int.tdiv a b*b)=false->Int.tdiv a b=flo a b)) (by kernel_rfl) ?_
 have h1:-1000000<=Int.tdiv a b/\Int.tdiv a b<=1000000:=by
  have:=Int.natAbs_tdiv_le_natAbs a b
  omega
 have h2:-3000000<=Int.tdiv a b*b/\Int.tdiv a b*b<=3000000:=by
  rcases (show b=1∨b=2∨b=3 by omega) with rfl|rfl|rfl<;>omega
 unfold flo
 simp only [rng_iff]
 exact ⟨by omega,by omega,fun h=>⟨by omega,by rw [h];rfl⟩,fun h=>by rw [h];rfl⟩
theorem low195 {Gl} (S:SP Gl) (lo hi rest w:Int) (hl:-100000<=lo/\lo<=100000) (hh:-100000<=hi/\hi<=100000) (hr:-800000<=rest/\rest<=800000) (hw:w≠0/\-3<=w/\w<=3):CO Gl 195 [.d (.agg [Ci lo,Ci hi,Ci rest,Ci w])] (.ret (I (lowQ lo hi rest w))):=by
 refine fn_is S (.br (.r (.ret (I (flo (rest-lo) w))) .nil) (.r (.ret (I (flo (hi-rest) (-w)))) .nil)) Tryz.func195 (by kernel_rfl) ((decide ((0:Int)<w)=true->iR (rest-lo)/\CO Gl 303 [I (rest-lo),I w] (.ret (I (flo (rest-lo) w)))/\iR (-flo (rest-lo) w)/\-flo (rest-lo) w=lowQ lo hi rest w)/\(decide ((0:Int)<w)=false->iR (hi-rest)/\iR (-w)/\CO Gl 303 [I (hi-rest),I (-w)] (.ret (I (flo (hi-rest) (-w))))/\iR (-flo (hi-rest) (-w))/\-flo (hi-rest) (-w)=lowQ lo hi rest w)) (by kernel_rfl) ?_
 have hf:∀ a b:Int,-1000000<=a/\a<=1000000->1<=b/\b<=3->-1000001<=flo a b/\flo a b<=1000001:=fun a b ha hb=>flo_le ha hb
 unfold lowQ
 simp only [rng_iff]
 refine ⟨fun h=>?_,fun h=>?_⟩
 ·have h0:=of_decide_eq_true h
  have:=hf (rest - lo) w (by omega) (by omega)
  rw [h]
  exact ⟨by omega,floor303 S _ _ (by omega) (by omega),by omega,rfl⟩
 ·have h0:=of_decide_eq_false h
  have:=hf (hi - rest) (-w) (by omega) (by omega)
  rw [h]
  exact ⟨by omega,by omega,floor303 S _ _ (by omega) (by omega),by omega,rfl⟩
theorem high196 {Gl} (S:SP Gl) (lo hi rest w:Int) (hl:-100000<=lo/\lo<=100000) (hh:-100000<=hi/\hi<=100000) (hr:-800000<=rest/\rest<=800000) (hw:w≠0/\-3<=w/\w<=3):CO Gl 196 [.d (.agg [Ci lo,Ci hi,Ci rest,Ci w])] (.ret (I (highQ lo hi rest w))):=by
 refine fn_is S (.br (.r (.ret (I (flo (hi-rest) w))) .nil) (.r (.ret (I (flo (rest-lo) (-w)))) .nil)) Tryz.func196 (by kernel_rfl) ((decide ((0:Int)<w)=true->iR (hi-rest)/\CO Gl 303 [I (hi-rest),I w] (.ret (I (flo (hi-rest) w)))/\flo (hi-rest) w=highQ lo hi rest w)/\(decide ((0:Int)<w)=false->iR (rest-lo)/\iR (-w)/\CO Gl 303 [I (rest-lo),I (-w)] (.ret (I (flo (rest-lo) (-w))))/\flo (rest-lo) (-w)=highQ lo hi rest w)) (by kernel_rfl) ?_
 unfold highQ
 simp only [rng_iff]
 refine ⟨fun h=>?_,fun h=>?_⟩
 ·have h0:=of_decide_eq_true h
  rw [h]
  exact ⟨by omega,floor303 S _ _ (by omega) (by omega),rfl⟩
 ·have h0:=of_decide_eq_false h
  rw [h]
  exact ⟨by omega,by omega,floor303 S _ _ (by omega) (by omega),rfl⟩
theorem weightD {Gl} (S:SP Gl) (k r w:Nat) (hk:k<=3) (h1:w<=r) (h2:r<=w+k):CO Gl 301 [I k,I ((r:Int) - (w:Int))] (.ret (I (wgt k (r - w)))):=by
 have:=weight301 S k (r - w) hk (by omega)
 rw [show ((r - w:Nat):Int)=(r:Int) - (w:Int) by omega] at this
 exact this
theorem eqn194 {Gl} (S:SP Gl) (s:Col) (w r:Nat) (h:okC s) (hw:w+s.order<s.vals.length) (h1:w<=r) (h2:r<=w+s.order):CO Gl 194 [tCol s,I w,I r] (.ret (.d (.agg [Ci s.lo,Ci s.hi,Ci (restS s w r),Ci (wgt s.order (r - w))]))):=by
 refine fn_iq S (let A0:=fun (k0:Nat)=>(othTo s w r k0);((.loop (Col.order s+1) (fun j=>v 12 (I j)::v 11 (I ((↑(Col.order s):Int)+1))::v 6 (ad 6)::v 3 (ad 3)::v 2 (I r)::v 1 (I w)::tk 100 3::v 7 (Lt 100 eI (othTo s w r j))::(bx 3 (cCol s)++bx 6 [Ci 0,Ci 0,Ci 0,Ci 0])) fun k0=>.br (.br (.r (.ret (I (wgt s.2 k0))) .nil) .nil) (.r (.ret (I (sumL (A0 k0)))) (.r (.ret (I (wgt (Col.order s) (r-w)))) .nil))),(iR ((s.2:Int)+1)/\(0=(↑(0:Nat):Int)/\(s.2:Int)+1=(s.2:Int)+1/\(r:Int)=(r:Int)/\(w:Int)=(w:Int)/\(0:Nat)=(0:Nat)/\(sR eI s.1)/\(s.2:Int)=(s.2:Int)/\s.3=s.3/\s.4=s.4/\(0:Int)=0/\(0:Int)=0/\(0:Int)=0/\(0:Int)=0)/\∀ (k0:Nat),k0<=Col.order s+(1:Nat)->(decide ((k0:Int)<(s.2:Int)+1)=true->iR ((w:Int)+(k0:Int))/\(((w:Int)+(k0:Int) != (r:Int))=true->CO Gl 301 [I s.2,I k0] (.ret (I (wgt s.2 k0)))/\iR ((w:Int)+(k0:Int))/\(0<=(w:Int)+(k0:Int)/\(w:Int)+(k0:Int)<(s.1.length:Int))/\iR (wgt s.2 k0*nth s.1 (Int.toNat ((w:Int)+(k0:Int))))/\(List.length (A0 k0)+1)*8<=140737488355328/\List.length (A0 k0)+1<=140737488355328/\iR ((k0:Int)+1)/\k0<Col.order s+(1:Nat)/\(k0:Int)+1=(↑(k0+1):Int)/\(s.2:Int)+1=(s.2:Int)+1/\(r:Int)=(r:Int)/\(w:Int)=(w:Int)/\(SEq (List.length (A0 k0)+1) (catF (List.length (A0 k0)) (fun i=>eI (nth (A0 k0) i)) fun i=>List.getD [List.map C.dem [C.v (Value.int IntKind.i64 (wgt s.2 k0*nth s.1 (Int.toNat ((w:Int)+(k0:Int)))))]] i []) (List.length (othTo s w r (k0+1))) fun i=>eI (nth (othTo s w r (k0+1)) i))/\(sR eI s.1)/\(s.2:Int)=(s.2:Int)/\s.3=s.3/\s.4=s.4/\(0:Int)=0/\(0:Int)=0/\(0:Int)=0/\(0:Int)=0)/\(((w:Int)+(k0:Int) != (r:Int))=false->iR ((k0:Int)+1)/\k0<Col.order s+(1:Nat)/\(k0:Int)+1=(↑(k0+1):Int)/\(s.2:Int)+1=(s.2:Int)+1/\(r:Int)=(r:Int)/\(w:Int)=(w:Int)/\(sQ eI (A0 k0) (othTo s w r (k0+1)))/\(sR eI s.1)/\(s.2:Int)=(s.2:Int)/\s.3=s.3/\s.4=s.4/\(0:Int)=0/\(0:Int)=0/\(0:Int)=0/\(0:Int)=0))/\(decide ((k0:Int)<(s.2:Int)+1)=false->CO Gl 302 [L eI (A0 k0)] (.ret (I (sumL (A0 k0))))/\iR ((r:Int)-(w:Int))/\CO Gl 301 [I (↑(Col.order s):Int),I ((r:Int)-(w:Int))] (.ret (I (wgt (Col.order s) (r-w))))/\s.3=s.3/\s.4=s.4/\sumL (A0 k0)=restS s w r/\wgt s.2 (r-w)=wgt s.2 (r-w))))) Tryz.func194 (by kernel_rfl) (by kernel_rfl) ?_
 obtain ⟨c1,c2,c3,c4,c5⟩:=h.all
 have hv:=fun (k:Nat) (hk:k<s.vals.length)=>c4 k hk
 have hsn:∀ k,othTo s w r (k+1)=othTo s w r k++bif (w+k).beq r then [] else [wgt s.order k*nth s.vals (w+k)]:=fun _=>rfl
 simp only [stdS,imp_self,implies_true,and_true,rng_iff,decide_eq_true_eq,decide_eq_false_iff_not]
 refine ⟨by omega,fun k hk=>⟨fun hd=>?_,fun hd=>?_⟩⟩
 ·have hlt:k<s.order+1:=by omega
  obtain ⟨o1,o2⟩:=oth_ok h w r hw k hk
  obtain ⟨_,g1,g2⟩:=wgt_le s.order k (by omega) (by omega)
  obtain ⟨g3,g4⟩:=hv (w+k) (by omega)
  have et:Int.toNat ((w:Int)+(k:Int))=w+k:=by omega
  have gm:-30000<=wgt s.order k*nth s.vals (w+k)/\wgt s.order k*nth s.vals (w+k)<=30000:=by
   have c:wgt s.order k=-3∨wgt s.order k=-2∨wgt s.order k=-1∨wgt s.order k=0∨wgt s.order k=1∨wgt s.order k=2∨wgt s.order k=3:=by omega
   rcases c with c|c|c|c|c|c|c<;>rw [c]<;>omega
  rw [et]
  refine ⟨by omega,fun hn=>?_,fun hn=>?_⟩
  ·have hb:(w+k).beq r=false:=by rw [Bool.eq_false_iff];intro h2;have:=Nat.eq_of_beq_eq_true h2;simp at hn;omega
   exact ⟨weight301 S s.order k (by omega) (by omega),by omega,by omega,by omega,by omega,by omega,by omega,by omega,by omega,SEq_push1 (f:=eI) (by rw [hsn,hb];rfl) rfl,trivial⟩
  ·have hb:(w+k).beq r=true:=by simp at hn;rw [show w+k=r by omega];exact Nat.beq_refl r
   exact ⟨by omega,by omega,by omega,SEq_whole (by rw [hsn,hb];exact List.append_nil _),trivial⟩
 ·have hke:k=s.order+1:=by omega
  subst hke
  obtain ⟨l1,l2⟩:=oth_ok h w r hw (s.order+1) (Nat.le_refl _)
  refine ⟨sum302 S _ fun j hj=>?_,by omega,weightD S s.order r w (by omega) h1 h2,rfl,trivial⟩
  have:=sumTo_le l2 j hj
  omega
theorem fromAll {Gl} (S:SP Gl) (s:Sheet) (l:Nat) (hs:s.ok=true):Does Tryz.prog Y Gl (colYd (allR s) l (allR s).length) 233 [I ((rows s:Int) - 1),L eI s.errs,.addr FAR 0,.addr (FAR+1) 0,.addr (FAR+2) 0,.d (.c (.p (cSheet s))),.addr (FAR+3) 0] (colPre s (listsOf s) l 0 (List.replicate (rows s) 0)) (.ret (B true)) (colPost s (allR s).length (nowR s (listsOf s) (rows s) (List.replicate (rows s) 0) [] s.errs)):=by
 obtain ⟨l1,l2,l3,l4⟩:=ok_len hs
 have h:=from148 S s (listsOf s) (allR s) l (allR s).length hs (by unfold listsOf;rw [List.length_map,List.length_range]) (listsOf_ok hs) (rows s) (List.replicate (rows s) 0) [] s.errs 0 (Nat.le_refl _) (List.length_replicate ..) (by simp) l3 (fun i hi=>by
  have:=col_len (l4 i (by omega))
  exact ⟨this.2.2.2.2.1,this.2.2.2.2.2⟩) fun i hi=>⟨by rw [Nat.zero_add];exact hi,by rw [Nat.zero_add];rfl⟩
 rw [Nat.zero_add] at h
 exact h
theorem zerosN (n:Nat):(fun _:Nat=>vsC [Value.int IntKind.i64 0])=fun i=>eI (nth (List.replicate n (0:Int)) i):=by
 funext i
 have:nth (List.replicate n (0:Int)) i=0:=by
  unfold nth
  rw [List.getD_eq_getElem?_getD,List.getElem?_replicate]
  split<;>rfl
 rw [this]
 rfl
theorem fromAllK {Gl} (S:SP Gl) (s:Sheet) (l k:Nat) (hs:s.ok=true) (hk:k=rows s):Does Tryz.prog Y Gl (colYd (allR s) l (allR s).length) 233 [I ((rows s:Int) - 1),L eI s.errs,.addr FAR 0,.addr (FAR+1) 0,.addr (FAR+2) 0,.d (.c (.p (cSheet s))),.addr (FAR+3) 0]
  [(0,BIG,.tr 0),(2,FAR,live),(FAR+3,0,.yl l),(2,FAR+1,live),(FAR+4,0,.arr (FAR+4) (rows s)),(2,FAR+2,live),(FAR+5,0,L eCol ((listsOf s).take k)),(2,FAR+3,live),(FAR+6,0,.fn 233 [] [.addr FAR 0,.addr (FAR+1) 0,.addr (FAR+2) 0,.d (.c (.p (cSheet s))),.addr (FAR+3) 0]),(2,FAR+4,.arrc false 1 (rows s) fun _=>vsC [Value.int IntKind.i64 0])]
  (.ret (B true)) (colPost s (allR s).length (nowR s (listsOf s) (rows s) (List.replicate (rows s) 0) [] s.errs)):=by
 have h:=fromAll S s l hs
 have hl:(listsOf s).take k=listsOf s:=List.take_of_length_le (by unfold listsOf;rw [List.length_map,List.length_range];omega)
 rw [hl,zerosN (rows s)]
 exact h
theorem cols147 {Gl} (S:SP Gl) (s:Sheet) (l:Nat) (hs:s.ok=true):Does Tryz.prog Y Gl (colYd (allR s) l (allR s).length) 232 [.yl l,.d (.c (.p (cSheet s)))] [(0,BIG,.tr 0)] (.ret (.tup [])) [(0,BIG,.tr (allR s).length)]:=by
 refine fn_iw S (let A0:=(↑(rows s):Int);let A1:=(FAR+(6:Nat),(0:Nat),T.fn (233:FuncId) [] [T.addr FAR (0:Nat),T.addr (FAR+1) (0:Nat),T.addr (FAR+2) (0:Nat),T.d (D.c (C.p (cSheet s))),T.addr (FAR+3) (0:Nat)]);let A2:=[C.l eCol s.1,C.l eI s.2];let A3:=[I (A0-1),L eI (Sheet.errs s),T.addr FAR (0:Nat),T.addr (FAR+1) (0:Nat),T.addr (FAR+2) (0:Nat),T.d (D.c (C.p (cSheet s))),T.addr (FAR+3) (0:Nat)];let A4:=fun (k0:Nat)=>(List.take k0 (listsOf s));let A5:=(colPost s (List.length (allR s)) (nowR s (listsOf s) (rows s) (List.replicate (rows s) (0:Int)) [] (Sheet.errs s)));let A6:=((2:Nat),FAR+(4:Nat),T.arrc false (1:Nat) (rows s) fun x=>vsC [Value.int IntKind.i64 (0:Int)]);let A7:=(nth s.1 (Int.toNat (0:Int)));let A8:=((0:Nat),BIG,T.tr (0:Nat));let A9:=fun (k0:Nat)=>[A8,((2:Nat),FAR,live),(FAR+(3:Nat),(0:Nat),T.yl l),((2:Nat),FAR+(1:Nat),live),(FAR+(4:Nat),(0:Nat),T.arr (FAR+4) (rows s)),((2:Nat),FAR+(2:Nat),live),(FAR+(5:Nat),(0:Nat),L eCol (A4 k0)),((2:Nat),FAR+(3:Nat),live),A1,A6];((.loop (rows s) (fun k=>v 16 (I k)::v 15 (I A0)::v 3 (I A0)::v 2 (ad 2)::v 4 (ad 4)::tk 100 22::v 0 (T.yl l)::v 1 (T.d (D.c (C.p (cSheet s))))::((2:Nat),(2:Nat),live)::((5:Nat),(0:Nat),T.yl l)::A8::bx 4 [C.lt (100:Nat) eCol (List.take k (listsOf s))]) fun k0=>.br (.r (.ret (.tup [D.c (C.l eI (listAt s k0)),D.c (Ci (freeL (cands s k0)))])) .nil) (.w [(nat_lit 100000,nat_lit 2),(nat_lit 100001,nat_lit 8),(nat_lit 100002,nat_lit 4),(nat_lit 100003,nat_lit 9),(nat_lit 100004,nat_lit 31)] A3 (A9 k0) (.ret (B true)) A5 .nil)),(((0:Int)<=0/\0<(s.1.length:Int))/\(List.length A7<=maxLen->(0=(↑(0:Nat):Int)/\(↑(List.length A7):Int)=A0/\(↑(List.length A7):Int)=A0/\l=l/\A2=A2/\l=l/\(0:Nat)=(0:Nat)/\(0:Nat)=(0:Nat))/\∀ (k0:Nat),k0<=rows s->(decide ((k0:Int)<(↑(rows s):Int))=true->CO Gl 129 [tSheet s,I k0] (.ret (.tup [D.c (C.l eI (listAt s k0)),D.c (Ci (freeL (cands s k0)))]))/\(List.length (A4 k0)+1)*24<=140737488355328/\List.length (A4 k0)+1<=140737488355328/\iR ((k0:Int)+1)/\k0<rows s/\(k0:Int)+1=(↑(k0+1):Int)/\A0=A0/\A0=A0/\l=l/\A2=A2/\l=l/\(0:Nat)=(0:Nat)/\SEq (List.length (A4 k0)+1) (catF (List.length (A4 k0)) (fun i=>eCol (nth (A4 k0) i)) fun i=>List.getD [List.map C.dem [C.s Tag.n (List.length (listAt s k0)) fun i=>eI (nth (listAt s k0) i)]] i []) (List.length (List.take (k0+1) (listsOf s))) fun i=>eCol (nth (List.take (k0+1) (listsOf s)) i))/\(decide ((k0:Int)<(↑(rows s):Int))=false->A0=A0/\0<=A0/\rows s*8<=140737488355328/\rows s<=(140737488355328:Nat)/\iR (A0-1)/\A0-1=A0-1/\(sR eI s.2)/\A2=A2/\(0:Nat)=(0:Nat)/\l=l/\rows s=rows s/\(sR eCol (A4 k0))/\(233:Nat)=(233:Nat)/\A2=A2/\(SEq (rows s) (fun x=>vsC [Value.int IntKind.i64 (0:Int)]) (rows s) fun x=>vsC [Value.int IntKind.i64 (0:Int)])/\Does Tryz.prog Y Gl (colYd (allR s) l (List.length (allR s))) (233:FuncId) A3 (A9 k0) (.ret (B true)) A5/\True/\List.length (allR s)=List.length (allR s)))))) Tryz.func232 (by kernel_rfl) (by kernel_rfl) ?_
 simp only [stdS,imp_self,implies_true,and_true]
 obtain ⟨l1,l2,l3,l4⟩:=ok_len hs
 have hrs:=(col_len (l4 0 (by omega))).2.2
 have hll:(listsOf s).length=rows s:=by unfold listsOf;rw [List.length_map,List.length_range]
 refine ⟨by omega,fun hm=>⟨⟨rfl,rfl,trivial⟩,fun k hk=>⟨fun hd=>?_,fun hd=>?_⟩⟩⟩
 ·have hlt:k<rows s:=by have:=of_decide_eq_true hd;omega
  have ht:((listsOf s).take k).length<=6:=by rw [List.length_take];omega
  exact ⟨cands126 S s k hs hlt,by omega,by omega,(rng_iff _).2 (by omega),hlt,by omega,SEq_push (by omega) (by rw [listsOf_at hlt];rfl)⟩
 ·have hke:k=rows s:=by have:=of_decide_eq_false hd;omega
  exact ⟨by omega,by omega,by omega,(rng_iff _).2 (by omega),fromAllK S s l k hs hke,trivial⟩
theorem cols127 {Gl} (S:SP Gl) (s:Sheet):CO Gl 130 [tSheet s] (.ret (.fn 232 [] [.d (.c (.p (cSheet s)))])):=by
 refine fn_ptr S (t:=2) (id:=1) .nil Tryz.func130 (by kernel_rfl) Tryz.results130 (by decide) (by decide) (T.fn 232 [] [.addr 1 0]=T.fn 232 [] [.addr 1 0]/\live=live/\(.d (.c (.l eCol s.cols)):T)=.d (.c (.l eCol s.cols))/\(.d (.c (.l eI s.errs)):T)=.d (.c (.l eI s.errs))/\True) (by kernel_rfl) ?_
 exact ⟨rfl,rfl,rfl,rfl,trivial⟩
def canT (P:List (List Int)) (p:Nat) (key:List Int):Bool:=(P.take p).any fun c=>(List.range c.length).any fun i=>key==[(i:Int),nth c i]
def canK (P:List (List Int)) (p k:Nat) (key:List Int):Bool:=canT P p key||(List.range k).any fun i=>key==[(i:Int),nth (nth P p) i]
def rowD (k:Nat) (key:List Int):Bool:=(List.range k).any fun i=>key==[(i:Int)]
def keyR (key:List Int):Nat:=(key.headD 0).toNat
def freeAt (s:Sheet) (r:Nat):Int:=freeL (cands s r)
def othV (s:Sheet) (key:List Int):List C:=[Ci (freeAt s (keyR key))]
def openD (s:Sheet) (p:Nat) (key:List Int):Bool:=decide (0<p)&&rowD (rows s) key
def openB (s:Sheet) (P:List (List Int)) (p:Nat) (key:List Int):Bool:=rowD (rows s) key&&(P.take p).any fun c=>nth c (keyR key)==freeAt s (keyR key)
def openDK (s:Sheet) (p k:Nat) (key:List Int):Bool:=openD s p key||rowD k key
def openBK (s:Sheet) (P:List (List Int)) (p k:Nat) (key:List Int):Bool:=openB s P p key||(rowD k key&&nth (nth P p) (keyR key)==freeAt s (keyR key))
def cBook (s:Sheet) (P:List (List Int)):List C:=[.l eCol s.cols,.l eI s.errs,.l eCol P,.m 2 false (canT P P.length) (fun key=>[Cb (canT P P.length key)]),.m 0 false (openD s P.length) (fun key=>[Cb (openB s P P.length key)])]
def zBook:List C:=[.v (.slice none 0 0),.v (.slice none 0 0),.v (.slice none 0 0),.v (.map none),.v (.map none)]
def readE (s:Sheet) (P:List (List Int)) (p k o:Nat):Env:=
 v 4 (ad 4)::v 6 (ad 6)::v 7 (ad 7)::v 100004 (ad 4)::v 100006 (ad 6)::v 100007 (ad 7)::tk 100 22::(2,6,live)::(9,0,L eCol s.cols)::(9,1,L eI s.errs)::(9,2,Lt 100 eCol (P.take p))::(9,3,.mp 16)::(9,4,.mp 17)::(2,7,live)::(10,0,.mp 19)::
 (2,16,.mapc false 2 false (canK P (p - 1) k) fun key=>[Cb (canK P (p - 1) k key)])::(2,17,.mapc false 0 false (openDK s (p - 1) k) fun key=>[Cb (openBK s P (p - 1) k key)])::(2,19,.mapc false 0 false (rowD o) (othV s))::bx 4 zBook
def readE0 (s:Sheet) (P:List (List Int)) (p o:Nat):Env:=
 v 4 (ad 4)::v 6 (ad 6)::v 7 (ad 7)::tk 100 22::(2,6,live)::(9,0,L eCol s.cols)::(9,1,L eI s.errs)::(9,2,Lt 100 eCol (P.take p))::(9,3,.mp 16)::(9,4,.mp 17)::(2,7,live)::(10,0,.mp 19)::
 (2,16,.mapc false 2 false (canT P p) fun key=>[Cb (canT P p key)])::(2,17,.mapc false 0 false (openD s p) fun key=>[Cb (openB s P p key)])::(2,19,.mapc false 0 false (rowD o) (othV s))::bx 4 zBook
theorem cols147m {Gl} (S:SP Gl) (s:Sheet) (l:Nat) (hs:s.ok=true):Does Tryz.prog Y Gl (colYd (allR s) l (allR s).length) 232 [.yl l,.d (.c (.p (cSheet s)))] [(0,BIG,.tr 0)] (.ret (.tup [])) [(0,BIG,.tr (min (allR s).length ((allR s).length+1)))]:=by
 have e:min (allR s).length ((allR s).length+1)=(allR s).length:=by omega
 rw [e]
 exact cols147 S s l hs
theorem rowD_succ (k:Nat) (key:List Int):rowD (k+1) key=(rowD k key||key==[(k:Int)]):=by
 unfold rowD
 rw [List.range_succ,List.any_append]
 simp
theorem rowD_iff {k:Nat} {key:List Int}:rowD k key=true↔∃ i:Nat,i<k/\key=[(i:Int)]:=by
 unfold rowD
 rw [List.any_eq_true]
 exact ⟨fun ⟨i,h1,h2⟩=>⟨i,List.mem_range.1 h1,eq_of_beq h2⟩,fun ⟨i,h1,h2⟩=>⟨i,List.mem_range.2 h1,beq_iff_eq.2 h2⟩⟩
theorem rowD_at {k i:Nat} (h:i<k):rowD k [(i:Int)]=true:=rowD_iff.2 ⟨i,h,rfl⟩
theorem rowD_self (k:Nat):rowD k [(k:Int)]=false:=by
 rw [Bool.eq_false_iff]
 intro h
 obtain ⟨i,h1,h2⟩:=rowD_iff.1 h
 have:(k:Int)=(i:Int):=(List.cons.inj h2).1
 omega
theorem keyR_one (k:Nat):keyR [(k:Int)]=k:=rfl
theorem canK_succ (P:List (List Int)) (p k:Nat) (key:List Int):canK P p (k+1) key=(canK P p k key||key==[(k:Int),nth (nth P p) k]):=by
 unfold canK
 rw [List.range_succ,List.any_append,Bool.or_assoc]
 simp
theorem canK_zero (P:List (List Int)) (p:Nat) (key:List Int):canK P p 0 key=canT P p key:=by
 unfold canK
 rw [show List.range 0=[] from rfl]
 simp
theorem canK_all {P:List (List Int)} {p:Nat} (hp:p<P.length) (key:List Int):canK P p (nth P p).length key=canT P (p+1) key:=by
 unfold canK canT
 rw [take_succ hp,List.any_append]
 simp
theorem updD_or (dom:List Int->Bool) (key k:List Int):updD dom key k=(dom k||k==key):=by
 rw [Bool.eq_iff_iff,updD_get,Bool.or_eq_true,beq_iff_eq]
 exact ⟨fun h=>h.symm,fun h=>h.symm⟩
theorem MEq_refl {dom:List Int->Bool} {val:List Int->List C}:MEq dom val dom val:=fun _=>⟨rfl,fun _=>.inl rfl⟩
theorem MEq_ext {dom dom':List Int->Bool} {val val':List Int->List C} (h1:∀ k,dom k=dom' k) (h2:∀ k,dom k=true->val k=val' k):MEq dom val dom' val':=fun k=>⟨h1 k,fun h=>.inl (h2 k h)⟩
theorem oth_step (s:Sheet) (k:Nat):MEq (updD (rowD k) [(k:Int)]) (updV (othV s) [(k:Int)] (List.map C.dem [C.v (Value.int IntKind.i64 (freeL (cands s k)))])) (rowD (k+1)) (othV s):=
 MEq_ext (fun key=>by rw [updD_or,rowD_succ]) fun key _=>by
  rw [updV_get]
  split
  ·rename_i h;subst h;rfl
  ·rfl
theorem can_start (P:List (List Int)) (p:Nat):MEq (canT P p) (fun key=>[Cb (canT P p key)]) (canK P p 0) fun key=>[Cb (canK P p 0 key)]:=
 MEq_ext (fun key=>(canK_zero P p key).symm) fun key _=>by rw [canK_zero]
theorem can_step (P:List (List Int)) (p k:Nat):MEq (updD (canK P p k) [(k:Int),nth (nth P p) k]) (updV (fun key=>[Cb (canK P p k key)]) [(k:Int),nth (nth P p) k] (List.map C.dem [C.v (Value.bool true)])) (canK P p (k+1)) fun key=>[Cb (canK P p (k+1) key)]:=
 MEq_ext (fun key=>by rw [updD_or,canK_succ]) fun key _=>by
  rw [updV_get]
  split
  ·rename_i h
   subst h
   rw [canK_succ,beq_self_eq_true,Bool.or_true]
   rfl
  ·rename_i h
   rw [canK_succ,beq_eq_false_iff_ne.2 h,Bool.or_false]
theorem can_end {P:List (List Int)} {p:Nat} (hp:p<P.length):MEq (canK P p (nth P p).length) (fun key=>[Cb (canK P p (nth P p).length key)]) (canT P (p+1)) fun key=>[Cb (canT P (p+1) key)]:=
 MEq_ext (fun key=>canK_all hp key) fun key _=>by rw [canK_all hp]
theorem openBK_zero (s:Sheet) (P:List (List Int)) (p:Nat) (key:List Int):openBK s P p 0 key=openB s P p key:=by
 unfold openBK
 rw [show rowD 0 key=false from rfl,Bool.false_and,Bool.or_false]
theorem openDK_zero (s:Sheet) (p:Nat) (key:List Int):openDK s p 0 key=openD s p key:=by
 unfold openDK
 rw [show rowD 0 key=false from rfl,Bool.or_false]
theorem open_start (s:Sheet) (P:List (List Int)) (p:Nat):MEq (openD s p) (fun key=>[Cb (openB s P p key)]) (openDK s p 0) fun key=>[Cb (openBK s P p 0 key)]:=
 MEq_ext (fun key=>(openDK_zero s p key).symm) fun key _=>by rw [openBK_zero]
theorem openBK_at (s:Sheet) (P:List (List Int)) (p k:Nat):openBK s P p k [(k:Int)]=openB s P p [(k:Int)]:=by
 unfold openBK
 rw [rowD_self,Bool.false_and,Bool.or_false]
theorem open_step (s:Sheet) (P:List (List Int)) (p k:Nat):MEq (updD (openDK s p k) [(k:Int)]) (updV (fun key=>[Cb (openBK s P p k key)]) [(k:Int)] (List.map C.dem [C.v (Value.bool (bif openBK s P p k [(k:Int)] then true else nth (nth P p) k==freeAt s (keyR [(k:Int)])))])) (openDK s p (k+1)) fun key=>[Cb (openBK s P p (k+1) key)]:=
 MEq_ext (fun key=>by unfold openDK;rw [updD_or,rowD_succ,Bool.or_assoc]) fun key _=>by
  rw [updV_get]
  split
  ·rename_i h
   subst h
   rw [openBK_at,bif_or]
   unfold openBK
   rw [rowD_at (Nat.lt_succ_self k),Bool.true_and,keyR_one]
   rfl
  ·rename_i h
   unfold openBK
   rw [rowD_succ,beq_eq_false_iff_ne.2 h,Bool.or_false]
theorem open_end {s:Sheet} {P:List (List Int)} {p:Nat} (hp:p<P.length) (hl:(nth P p).length=rows s):MEq (openDK s p (nth P p).length) (fun key=>[Cb (openBK s P p (nth P p).length key)]) (openD s (p+1)) fun key=>[Cb (openB s P (p+1) key)]:=by
 rw [hl]
 refine MEq_ext (fun key=>?_) fun key _=>?_
 ·unfold openDK openD
  rw [decide_eq_true (show 0<p+1 by omega),Bool.true_and]
  cases decide (0<p)<;>cases rowD (rows s) key<;>rfl
 ·unfold openBK openB
  rw [take_succ hp,List.any_append]
  cases rowD (rows s) key<;>simp
theorem open_false {s:Sheet} {P:List (List Int)} {p k:Nat} (hk:k<rows s) (h:openDK s p k [(k:Int)]=false):openBK s P p k [(k:Int)]=false:=by
 unfold openDK openD at h
 rw [rowD_at hk,Bool.and_true,Bool.or_eq_false_iff,decide_eq_false_iff_not] at h
 have hp:p=0:=by omega
 rw [openBK_at]
 unfold openB
 rw [hp,List.take_zero]
 simp
theorem read82 {Gl} (S:SP Gl) (s:Sheet) (hs:s.ok=true) (h0:0<(allR s).length):CO Gl 54 [tSheet s,B true] (.ret (.tup [.agg (cBook s (allR s)),.c (Ci 0)])):=by
 refine fn_iq S (let A0:=fun (k1 k2:Nat)=>(openBK s (allR s) (k1+(1:Nat)-(1:Nat)) k2 [(k2:Int)]);let A1:=(List.length (allR s));let A2:=fun (k1:Nat)=>(k1+(1:Nat)-(1:Nat));let A3:=fun (k1:Nat)=>(nth (allR s) k1);let A4:=(MEq (canT (allR s) (0:Nat)) (fun key=>[Cb (canT (allR s) (0:Nat) key)]) (canT (allR s) (0:Nat)) fun key=>[Cb (canT (allR s) (0:Nat) key)]);let A5:=(MEq (openD s (0:Nat)) (fun key=>[Cb (openB s (allR s) (0:Nat) key)]) (openD s (0:Nat)) fun key=>[Cb (openB s (allR s) (0:Nat) key)]);let A6:=fun (k1 k2:Nat)=>(eqB (A0 k1 k2) false=true->eqB (A0 k1 k2) false=true);let A7:=fun (k1:Nat)=>(↑(List.length (A3 k1)):Int);let A8:=(sR eCol s.1);let A9:=(rowD (rows s));let A10:=(List.take A1 (allR s));let A11:=(sR eI s.2);let A12:=(T.fn (232:FuncId) [] [T.d (D.c (C.p (cSheet s)))]);let A13:=fun (k1:Nat)=>(List.take k1 (allR s));((.ff (.loop (rows s) (fun k=>v 25 (I k)::v 24 (I (↑(rows s):Int))::v 2 (ad 2)::(bx 2 (cSheet s)++readE0 s (allR s) (0:Nat) k)) fun k0=>.br (.r (.ret (.tup [D.c (C.l eI (listAt s k0)),D.c (Ci (freeL (cands s k0)))])) .nil) (.r (.ret A12) (.rf A1 A1 (fun p=>[L eI (nth (allR s) p)]) (fun p=>readE0 s (allR s) p (rows s)) (fun k1=>.loop (List.length (A3 k1)) (fun k=>v 48 (I k)::v 47 (I (A7 k1))::v 46 (L eI (A3 k1))::readE s (allR s) (k1+1) k (rows s)) fun k2=>.br .nil .nil) (.br .nil .nil))))),(false=false/\((0:Int)<=0/\0<(s.1.length:Int))/\(List.length (nth s.1 (Int.toNat (0:Int)))<=maxLen->(0=(↑(0:Nat):Int)/\(↑(List.length (nth s.1 (Int.toNat (0:Int)))):Int)=(↑(rows s):Int)/\A8/\A11/\A8/\A11/\(0:Nat)=(0:Nat)/\(MEq (fun x=>false) (fun x=>vsC [Value.bool false]) (canT (allR s) (0:Nat)) fun key=>[Cb (canT (allR s) (0:Nat) key)])/\(MEq (fun x=>false) (fun x=>vsC [Value.bool false]) (openD s (0:Nat)) fun key=>[Cb (openB s (allR s) (0:Nat) key)])/\MEq (fun x=>false) (fun x=>vsC [Value.int IntKind.i64 (0:Int)]) (rowD (0:Nat)) (othV s)/\Value.slice none 0 0=Value.slice none 0 0/\Value.slice none 0 0=Value.slice none 0 0/\Value.slice none 0 0=Value.slice none 0 0/\Value.map none=Value.map none/\Value.map none=Value.map none)/\∀ (k0:Nat),k0<=rows s->(decide ((k0:Int)<(↑(rows s):Int))=true->CO Gl 129 [tSheet s,I k0] (.ret (.tup [D.c (C.l eI (listAt s k0)),D.c (Ci (freeL (cands s k0)))]))/\iR ((k0:Int)+1)/\k0<rows s/\(k0:Int)+1=(↑(k0+1):Int)/\(↑(rows s):Int)=(↑(rows s):Int)/\A8/\A11/\A8/\A11/\(sR eCol (List.take (0:Nat) (allR s)))/\A4/\A5/\MEq (updD (rowD k0) [(k0:Int)]) (updV (othV s) [(k0:Int)] (List.map C.dem [C.v (Value.int IntKind.i64 (freeL (cands s k0)))])) (rowD (k0+1)) (othV s)/\Value.slice none 0 0=Value.slice none 0 0/\Value.slice none 0 0=Value.slice none 0 0/\Value.slice none 0 0=Value.slice none 0 0/\Value.map none=Value.map none/\Value.map none=Value.map none)/\(decide ((k0:Int)<(↑(rows s):Int))=false->CO Gl 130 [tSheet s] (.ret A12)/\Yd.m yd0=(0:Nat)/\ydOf (Does Tryz.prog Y Gl) (232:Nat) [] [T.d (D.c (C.p [C.l eCol s.1,C.l eI s.2]))] (fun l=>Yd.mk l A1 A1 fun p=>[L eI (nth (allR s) p)]) A1 A1/\(A8/\A11/\(sR eCol (List.take (0:Nat) (allR s)))/\A4/\A5/\MEq (rowD k0) (othV s) A9 (othV s)/\Value.slice none 0 0=Value.slice none 0 0/\Value.slice none 0 0=Value.slice none 0 0/\Value.slice none 0 0=Value.slice none 0 0/\Value.map none=Value.map none/\Value.map none=Value.map none)/\(∀ (k1:Nat),k1<List.length (allR s)->k1<=List.length (allR s)->(List.length (A13 k1)+1)*24<=140737488355328/\List.length (A13 k1)+1<=140737488355328/\(List.length (A3 k1)<=maxLen->(0=(↑(0:Nat):Int)/\(A7 k1)=(A7 k1)/\(sR eI (A3 k1))/\A8/\A11/\(SEq (List.length (A13 k1)+1) (catF (List.length (A13 k1)) (fun i=>eCol (nth (A13 k1) i)) fun i=>List.getD [List.map C.dem [C.s Tag.n (List.length (A3 k1)) fun i=>eI (nth (A3 k1) i)]] i []) (List.length (List.take (k1+1) (allR s))) fun i=>eCol (nth (List.take (k1+1) (allR s)) i))/\(MEq (canT (allR s) k1) (fun key=>[Cb (canT (allR s) k1 key)]) (canK (allR s) (A2 k1) (0:Nat)) fun key=>[Cb (canK (allR s) (A2 k1) (0:Nat) key)])/\(MEq (openD s k1) (fun key=>[Cb (openB s (allR s) k1 key)]) (openDK s (A2 k1) (0:Nat)) fun key=>[Cb (openBK s (allR s) (A2 k1) (0:Nat) key)])/\MEq A9 (othV s) A9 (othV s)/\Value.slice none 0 0=Value.slice none 0 0/\Value.slice none 0 0=Value.slice none 0 0/\Value.slice none 0 0=Value.slice none 0 0/\Value.map none=Value.map none/\Value.map none=Value.map none)/\∀ (k2:Nat),k2<=List.length (A3 k1)->(decide ((k2:Int)<(↑(List.length (nth (allR s) k1)):Int))=true->(0<=(k2:Int)/\(k2:Int)<(A7 k1))/\(openDK s (A2 k1) k2 [(k2:Int)]=false->[C.v (Value.bool (A0 k1 k2))]=[C.v (Value.bool false)])/\(A6 k1 k2)/\(A6 k1 k2)/\(eqB (A0 k1 k2) false=true->rowD (rows s) [(k2:Int)]=false->[C.v (Value.int IntKind.i64 (freeAt s (keyR [(k2:Int)])))]=[C.v (Value.int IntKind.i64 (0:Int))])/\(A6 k1 k2)/\(A6 k1 k2)/\(openBK s (allR s) (A2 k1) k2 [(k2:Int)]=false->eqB (A0 k1 k2) false=true)/\iR ((k2:Int)+1)/\k2<List.length (A3 k1)/\(k2:Int)+1=(↑(k2+1):Int)/\(A7 k1)=(A7 k1)/\(sR eI (A3 k1))/\A8/\A11/\(sR eCol (List.take (k1+1) (allR s)))/\(MEq (updD (canK (allR s) (A2 k1) k2) [(k2:Int),nth (A3 k1) k2]) (updV (fun key=>[Cb (canK (allR s) (A2 k1) k2 key)]) [(k2:Int),nth (A3 k1) k2] (List.map C.dem [C.v (Value.bool true)])) (canK (allR s) (A2 k1) (k2+1)) fun key=>[Cb (canK (allR s) (A2 k1) (k2+1) key)])/\(MEq (updD (openDK s (A2 k1) k2) [(k2:Int)]) (updV (fun key=>[Cb (openBK s (allR s) (A2 k1) k2 key)]) [(k2:Int)] (List.map C.dem [C.v (Value.bool (bif openBK s (allR s) (A2 k1) k2 [(k2:Int)] then true else nth (A3 k1) k2==freeAt s (keyR [(k2:Int)])))])) (openDK s (A2 k1) (k2+1)) fun key=>[Cb (openBK s (allR s) (A2 k1) (k2+1) key)])/\MEq A9 (othV s) A9 (othV s)/\Value.slice none 0 0=Value.slice none 0 0/\Value.slice none 0 0=Value.slice none 0 0/\Value.slice none 0 0=Value.slice none 0 0/\Value.map none=Value.map none/\Value.map none=Value.map none)/\(decide ((k2:Int)<(↑(List.length (nth (allR s) k1)):Int))=false->k1<List.length (allR s)/\A8/\A11/\(sR eCol (List.take (k1+1) (allR s)))/\(MEq (canK (allR s) (A2 k1) k2) (fun key=>[Cb (canK (allR s) (A2 k1) k2 key)]) (canT (allR s) (k1+1)) fun key=>[Cb (canT (allR s) (k1+1) key)])/\(MEq (openDK s (A2 k1) k2) (fun key=>[Cb (openBK s (allR s) (A2 k1) k2 key)]) (openD s (k1+1)) fun key=>[Cb (openB s (allR s) (k1+1) key)])/\MEq A9 (othV s) A9 (othV s)/\Value.slice none 0 0=Value.slice none 0 0/\Value.slice none 0 0=Value.slice none 0 0/\Value.slice none 0 0=Value.slice none 0 0/\Value.map none=Value.map none/\Value.map none=Value.map none)))/\(List.length (allR s)<=List.length (allR s)->List.length A10<=maxLen->(((↑(List.length A10):Int)==0)=true->s.1.length=(0:Nat)/\s.2.length=(0:Nat)/\List.length (allR s)=(0:Nat)/\False/\False/\(5:Int)=0)/\(((↑(List.length A10):Int)==0)=false->A8/\A11/\(sQ eCol A10 (allR s))/\(MEq (canT (allR s) A1) (fun key=>[Cb (canT (allR s) A1 key)]) (canT (allR s) A1) fun key=>[Cb (canT (allR s) A1 key)])/\(MEq (openD s A1) (fun key=>[Cb (openB s (allR s) A1 key)]) (openD s A1) fun key=>[Cb (openB s (allR s) A1 key)])/\(0:Int)=0))))))) Tryz.func54 (by kernel_rfl) (by kernel_rfl) ?_
 simp only [stdS,imp_self,implies_true,and_true,eqB_false]
 obtain ⟨l1,l2,l3,l4⟩:=ok_len hs
 have hrs:=(col_len (l4 0 (by omega))).2.2
 have hlen:∀ k,k<(allR s).length->(nth (allR s) k).length=rows s:=fun k hk=>(allR_num hs hk).1
 have hall:(allR s).length<=481890304:=by
  have h1:=colsR_len (s:=s) (fun r=>(listsOf_ok hs r).1) (rows s) [] s.errs
  have h2:28 ^ rows s<=28 ^ 6:=Nat.pow_le_pow_right (by decide) (by omega)
  unfold allR
  omega
 have hm0:MEq (fun _=>false) (fun _=>vsC [Value.bool false]) (canT (allR s) 0) fun key=>[Cb (canT (allR s) 0 key)]:=MEq_ext (fun _=>rfl) fun _ h=>(by cases h)
 have hm1:MEq (fun _=>false) (fun _=>vsC [Value.bool false]) (openD s 0) fun key=>[Cb (openB s (allR s) 0 key)]:=MEq_ext (fun _=>rfl) fun _ h=>(by cases h)
 have hm2:MEq (fun _=>false) (fun _=>vsC [Value.int IntKind.i64 0]) (rowD 0) (othV s):=MEq_ext (fun _=>rfl) fun _ h=>(by cases h)
 refine ⟨by omega,fun hm=>⟨⟨rfl,hm0,hm1,hm2,trivial⟩,fun k0 hk0=>⟨fun hd=>?_,fun hd=>?_⟩⟩⟩
 ·have hlt:k0<rows s:=by have:=of_decide_eq_true hd;omega
  exact ⟨cands126 S s k0 hs hlt,(rng_iff _).2 (by omega),hlt,by omega,MEq_refl,MEq_refl,oth_step s k0,trivial⟩
 ·have hke:k0=rows s:=by have:=of_decide_eq_false hd;omega
  subst hke
  refine ⟨cols127 S s,fun l=>cols147m S s l hs,⟨MEq_refl,MEq_refl,MEq_refl,trivial⟩,fun k1 hk1 _=>?_,fun _ hmx=>?_⟩
  ·have hl1:=hlen k1 hk1
   have ht:((allR s).take k1).length<=481890304:=by rw [List.length_take];omega
   refine ⟨by omega,by omega,fun hm=>⟨⟨SEq_push hk1 rfl,can_start _ _,open_start _ _ _,MEq_refl,trivial⟩,fun k2 hk2=>⟨fun hd=>?_,fun hd=>?_⟩⟩⟩
   ·have hlt:k2<(nth (allR s) k1).length:=by have:=of_decide_eq_true hd;omega
    refine ⟨by omega,fun h=>by rw [open_false (by omega) h],fun _ h=>?_,(rng_iff _).2 (by omega),hlt,by omega,can_step _ _ _,?_,MEq_refl,trivial⟩
    ·rw [rowD_at (by omega)] at h;cases h
    ·have:=open_step s (allR s) k1 k2
     rw [bif_or] at this
     exact this
   ·have hke:k2=(nth (allR s) k1).length:=by have:=of_decide_eq_false hd;omega
    subst hke
    exact ⟨hk1,can_end hk1,open_end hk1 hl1,MEq_refl,trivial⟩
  ·rw [List.take_length]
   refine ⟨fun h=>?_,fun _=>⟨SEq_whole rfl,MEq_refl,MEq_refl,trivial⟩⟩
   have:=eq_of_beq h
   omega
end Go.Vc.Zn
namespace Go.Vc
open Go Go.RowKit
section
variable {P:Program} {Y:TypeId->Ty} {a:Act} {w:World} {rd:Option Nat} {fu:Nat}
end
end Go.Vc
namespace Go.Vc.Zn
open Go Go.Proofs Go.Vc Go.RowKit Go.ChangeMaps
open Go Go.Proofs Go.Vc Go.RowKit
def pick (row:Int) (h:List (List Int)):List Int:=(h.filter fun k=>nth k 0==row).map fun k=>nth k 1
def cmpI (a b:Int):Int:=bif decide (a<b) then -1 else bif decide (b<a) then 1 else 0
def cmpL:List Int->List Int->Int
 | [],[]=>0
 | [],_::_=>-1
 |_::_,[]=>1
 |x::a,y::b=>bif x==y then cmpL a b else cmpI x y
theorem cmpL_at:∀ {a b:List Int} {k:Nat},(∀ i,i<k->nth a i=nth b i)->k<a.length->k<b.length->nth a k≠nth b k->cmpL a b=cmpI (nth a k) (nth b k)
 | [],_,k,_,h,_,_=>by simp at h
 |_::_,[],k,_,_,h,_=>by simp at h
 |x::a,y::b,0,_,_,_,hne=>by
  have h:x≠y:=hne
  unfold cmpL
  rw [beq_eq_false_iff_ne.2 h]
  rfl
 |x::a,y::b,k+1,he,h1,h2,hne=>by
  have h0:x=y:=he 0 (by omega)
  unfold cmpL
  rw [beq_iff_eq.2 h0]
  exact cmpL_at (a:=a) (b:=b) (k:=k) (fun i hi=>he (i+1) (by omega)) (by simpa using h1) (by simpa using h2) hne
theorem cmpL_end:∀ {a b:List Int},(∀ i,i<min a.length b.length->nth a i=nth b i)->cmpL a b=bif decide (a.length<b.length) then -1 else bif decide (b.length<a.length) then 1 else 0
 | [],[],_=>rfl
 | [],_::_,_=>by simp [cmpL]
 |_::_,[],_=>by simp [cmpL]
 |x::a,y::b,h=>by
  have h0:x=y:=h 0 (by simp)
  unfold cmpL
  rw [beq_iff_eq.2 h0,cond_true,cmpL_end (a:=a) (b:=b) fun i hi=>h (i+1) (by simp only [List.length_cons];omega)]
  simp
theorem cmpL_ltL:∀ a b:List Int,decide (cmpL a b<0)=ltL a b
 | [],[]=>rfl
 | [],_::_=>rfl
 |_::_,[]=>rfl
 |x::a,y::b=>by
  unfold cmpL ltL
  cases h:x==y
  ·simp only [cond_false]
   have hne:x≠y:=by intro h2;subst h2;simp at h
   unfold cmpI
   by_cases h1:x<y
   ·rw [decide_eq_true h1];rfl
   ·rw [decide_eq_false h1,decide_eq_true (show y<x by omega)];rfl
  ·simp only [cond_true]
   exact cmpL_ltL a b
theorem isNaN150 {Gl} (S:SP Gl) (n:Int):CO Gl 235 [I n] (.ret (B false)):=by
 refine fn_is S (.nil) Tryz.func235 (by kernel_rfl) ((n != n)=false) (by kernel_rfl) ?_
 exact bne_self_eq_false n
theorem compare128 {Gl} (S:SP Gl) (a b:Int):CO Gl 134 [I a,I b] (.ret (I (cmpI a b))):=by
 refine fn_is S (.r (.ret (B false)) (.r (.ret (B false)) (.ff (.ff (.br .nil (.br .nil .nil)))))) Tryz.func134 (by kernel_rfl) (CO Gl 235 [I a] (.ret (B false))/\CO Gl 235 [I b] (.ret (B false))/\false=false/\false=false/\(decide (a<b)=true->(-1:Int)=cmpI a b)/\(decide (a<b)=false->(decide (b<a)=true->(1:Int)=cmpI a b)/\(decide (b<a)=false->(0:Int)=cmpI a b))) (by kernel_rfl) ?_
 unfold cmpI
 exact ⟨isNaN150 S a,isNaN150 S b,rfl,rfl,fun h=>by rw [h];rfl,fun h=>⟨fun h2=>by rw [h,h2];rfl,fun h2=>by rw [h,h2];rfl⟩⟩
theorem compare89 {Gl} (S:SP Gl) (a b:List Int):CO Gl 58 [L eI a,L eI b] (.ret (I (cmpL a b))):=by
 refine fn_is S (.loop (sameTo a b) (fun k=>[v 11 (I k),v 10 (I a.length),v 9 (L eI a),v 0 (L eI a),v 1 (L eI b)]) fun k0=>.br (.br .nil (.r (.ret (I (cmpI (nth a k0) (nth b k0)))) (.br .nil .nil))) (.br .nil .nil)) Tryz.func58 (by kernel_rfl) (a.length<=maxLen->(0=(↑(0:Nat):Int)/\(a.length:Int)=(a.length:Int)/\(sR eI a)/\(sR eI a)/\sR eI b)/\∀ (k0:Nat),k0<=sameTo a b->(decide ((k0:Int)<(a.length:Int))=true->(0<=(k0:Int)/\(k0:Int)<(a.length:Int))/\(b.length<=maxLen->(decide ((b.length:Int)<=(k0:Int))=true->(1:Int)=cmpL a b)/\(decide ((b.length:Int)<=(k0:Int))=false->(0<=(k0:Int)/\(k0:Int)<(b.length:Int))/\CO Gl 134 [I (nth a k0),I (nth b k0)] (.ret (I (cmpI (nth a k0) (nth b k0))))/\((cmpI (nth a k0) (nth b k0) != (0:Int))=true->cmpI (nth a k0) (nth b k0)=cmpL a b)/\((cmpI (nth a k0) (nth b k0) != (0:Int))=false->iR ((k0:Int)+1)/\k0<sameTo a b/\(k0:Int)+1=(↑(k0+1):Int)/\(a.length:Int)=(a.length:Int)/\(sR eI a)/\(sR eI a)/\sR eI b))))/\(decide ((k0:Int)<(a.length:Int))=false->a.length<=maxLen->b.length<=maxLen->(decide ((a.length:Int)<(b.length:Int))=true->(-1:Int)=cmpL a b)/\(decide ((a.length:Int)<(b.length:Int))=false->(0:Int)=cmpL a b))) (by kernel_rfl) ?_
 simp only [stdS,imp_self,implies_true,and_true,decide_eq_true_eq,decide_eq_false_iff_not,maxLen_eq,rng_iff]
 have hmin:(List.range (min a.length b.length)).length=min a.length b.length:=List.length_range
 have hle:sameTo a b<=min a.length b.length:=by have:=upto_le (p:=fun i=>nth a i==nth b i) (l:=List.range (min a.length b.length));unfold sameTo;omega
 have hbef:∀ k,k<=sameTo a b->∀ i,i<k->nth a i=nth b i:=fun k hk i hi=>by
  have h1:i<(List.range (min a.length b.length)).length:=Nat.lt_of_lt_of_le (Nat.lt_of_lt_of_le hi hk) upto_le
  have:=upto_before (p:=fun i=>nth a i==nth b i) (l:=List.range (min a.length b.length)) (i:=i) (by unfold sameTo at hk;omega)
  rw [nth_range (by omega)] at this
  exact eq_of_beq this
 have hne:∀ x y:Int,x≠y->cmpI x y≠0:=fun x y h=>by
  unfold cmpI
  by_cases h1:x<y
  ·rw [decide_eq_true h1,cond_true];omega
  ·rw [decide_eq_false h1,decide_eq_true (show y<x by omega),cond_false,cond_true];omega
 have heq:∀ x:Int,cmpI x x=0:=fun x=>by
  unfold cmpI
  rw [decide_eq_false (show ¬ x<x by omega)];rfl
 refine fun hm k hk=>⟨fun hl=>⟨by omega,fun hmb=>⟨fun hb=>?_,fun hb=>⟨by omega,compare128 S _ _,fun h=>?_,fun h=>⟨by omega,upto_lt hk (by omega) ?_,by omega,trivial⟩⟩⟩⟩,fun hl _ _=>⟨fun hb=>?_,fun hb=>?_⟩⟩
 ·rw [cmpL_end fun i hi=>hbef k hk i (by omega),decide_eq_false (show ¬ a.length<b.length by omega),decide_eq_true (show b.length<a.length by omega)];rfl
 ·refine (cmpL_at (hbef k hk) (by omega) (by omega) ?_).symm
  intro he
  rw [he,heq] at h
  exact absurd h (by decide)
 ·rw [nth_range (by omega)]
  by_cases he:nth a k=nth b k
  ·simp [he]
  ·have:=hne _ _ he
   simp at h
   exact absurd h this
 ·rw [cmpL_end fun i hi=>hbef k hk i (by omega),decide_eq_true (show a.length<b.length by omega)];rfl
 ·rw [cmpL_end fun i hi=>hbef k hk i (by omega),decide_eq_false (show ¬ a.length<b.length by omega),decide_eq_false (show ¬ b.length<a.length by omega)];rfl
theorem before88 {Gl} (S:SP Gl) (a b:List Int):CO Gl 57 [L eI a,L eI b] (.ret (B (ltL a b))):=by
 refine fn_is S (.r (.ret (I (cmpL a b))) .nil) Tryz.func57 (by kernel_rfl) (CO Gl 58 [L eI a,L eI b] (.ret (I (cmpL a b)))/\decide (cmpL a b<(0:Int))=ltL a b) (by kernel_rfl) ?_
 exact ⟨compare89 S a b,cmpL_ltL a b⟩
theorem best87 {Gl} (S:SP Gl) (l:List (List Int)) (h:0<l.length):CO Gl 56 [.d (.c (.l eCol l)),.fn 57 [] []] (.ret (L eI (bestL ltL l))):=by
 refine fn_iq S (let A0:=(List.drop (1:Nat) l);let A1:=(l.length:Int);let A2:=fun (k0:Nat)=>(bestTo ltL l k0);((.loop (List.length l-(1:Nat)) (fun k=>[v 14 (I k),v 13 (I (A1-1)),v 12 (T.d (D.c (C.l eCol A0))),v 1 (T.fn (57:FuncId) [] []),v 5 (L eI (bestTo ltL l k))]) fun k0=>.br (.r (.ret (B (ltL (nth A0 k0) (A2 k0)))) (.br .nil .nil)) .nil),(((0:Int)<=0/\0<A1)/\((0:Int)<=1/\1<=A1/\A1<=A1)/\(Int.toNat (A1-1)<=maxLen->(0=(↑(0:Nat):Int)/\(↑(Int.toNat (A1-1)):Int)=A1-1/\(SEq (Int.toNat (A1-1)) (fun i=>eCol (nth l (Int.toNat (1:Int)+i))) (List.length A0) fun i=>eCol (nth A0 i))/\(57:Nat)=(57:Nat)/\sQ eI (nth l (Int.toNat (0:Int))) (bestTo ltL l (0:Nat)))/\∀ (k0:Nat),k0<=List.length l-(1:Nat)->(decide ((k0:Int)<(l.length:Int)-1)=true->(0<=(k0:Int)/\(k0:Int)<(↑(List.length A0):Int))/\CO Gl 57 [L eI (nth A0 k0),L eI (A2 k0)] (.ret (B (ltL (nth A0 k0) (A2 k0))))/\(ltL (nth A0 k0) (A2 k0)=true->iR ((k0:Int)+1)/\k0<List.length l-(1:Nat)/\(k0:Int)+1=(↑(k0+1):Int)/\A1-1=A1-1/\(sR eCol A0)/\(57:Nat)=(57:Nat)/\sQ eI (nth A0 k0) (bestTo ltL l (k0+1)))/\(ltL (nth A0 k0) (A2 k0)=false->iR ((k0:Int)+1)/\k0<List.length l-(1:Nat)/\(k0:Int)+1=(↑(k0+1):Int)/\A1-1=A1-1/\(sR eCol A0)/\(57:Nat)=(57:Nat)/\sQ eI (A2 k0) (bestTo ltL l (k0+1))))/\(decide ((k0:Int)<(l.length:Int)-1)=false->sQ eI (A2 k0) (bestL ltL l)))))) Tryz.func56 (by kernel_rfl) (by kernel_rfl) ?_
 simp only [stdS,imp_self,implies_true,and_true,decide_eq_true_eq,decide_eq_false_iff_not,maxLen_eq,rng_iff]
 have hd:(l.drop 1).length=l.length - 1:=List.length_drop
 have hn:∀ k,nth (l.drop 1) k=nth l (k+1):=fun k=>by rw [nth_drop,Nat.add_comm]
 have hst:∀ k,bestTo ltL l (k+1)=bif ltL (nth l (k+1)) (bestTo ltL l k) then nth l (k+1) else bestTo ltL l k:=fun k=>rfl
 refine ⟨by omega,by omega,fun hm=>⟨⟨by omega,.of ⟨by omega,fun i _=>congrArg eCol (nth_drop (l:=l) (i:=i) (k:=1)).symm⟩,SEq_whole rfl⟩,fun k hk=>⟨fun hl=>⟨by omega,before88 S _ _,fun hb=>⟨by omega,by omega,by omega,?_⟩,fun hb=>⟨by omega,by omega,by omega,?_⟩⟩,fun hl=>?_⟩⟩⟩
 ·rw [hn] at hb ⊢
  rw [hst,hb]
  exact SEq_whole rfl
 ·rw [hn] at hb
  rw [hst,hb]
  exact SEq_whole rfl
 ·have:k=l.length - 1:=by omega
  subst this
  exact SEq_whole rfl
theorem isSheetT {Gl} (S:SP Gl) (s:Sheet) (hs:s.ok=true):CO Gl 55 [tSheet s] (.ret (B true)):=by
 have h:=isSheet81 S s
 rw [hs] at h
 exact h
theorem first31 {Gl} (S:SP Gl) (s:Sheet) (hs:s.ok=true) (h0:0<(allR s).length):CO Gl 17 [tSheet s] (.ret (.tup [.c (.l eI (firstL (allR s))),.c (Ci 0)])):=by
 refine fn_is S (.r (.ret (B true)) (.r (.ret (.tup [D.agg (cBook s (allR s)),D.c (Ci 0)])) (.ff (.r (.ret (L eI (bestL ltL (allR s)))) .nil)))) Tryz.func17 (by kernel_rfl) (CO Gl 55 [tSheet s] (.ret (B true))/\CO Gl 54 [tSheet s,B true] (.ret (.tup [D.agg (cBook s (allR s)),D.c (Ci 0)]))/\false=false/\CO Gl 56 [T.d (D.c (C.l eCol (allR s))),T.fn (57:FuncId) [] []] (.ret (L eI (bestL ltL (allR s))))/\(sQ eI (bestL ltL (allR s)) (firstL (allR s)))/\(0:Int)=0) (by kernel_rfl) ?_
 exact ⟨isSheetT S s hs,read82 S s hs h0,rfl,best87 S (allR s) h0,SEq_whole (firstL_best h0).symm,rfl⟩
end Go.Vc.Zn
namespace Go.Vc
open Go Go.RowKit
mutual
theorem RelT.weak {G:Gh} {w:World} {O O':Nat->Prop} (h:∀ b,O b->O' b):∀ {x:T} {v:Value},RelT G w O x v->RelT G w O' x v
 | .d x,v,r=>by simp only [RelT] at r ⊢;exact r.weak h
 | .tup xs,v,r=>by simp only [RelT] at r ⊢;obtain ⟨vs,hv,hr⟩:=r;exact ⟨vs,hv,hr.1,fun j x v hj hv=>(hr.2 j x v hj hv).weak h⟩
 | .fn f a b,v,r=>by
  simp only [RelT] at r ⊢
  obtain ⟨us,vs,hv,h1,h2⟩:=r
  exact ⟨us,vs,hv,RelTs.weak h h1,RelTs.weak h h2⟩
 | .may b x,v,r=>by simp only [RelT] at r ⊢;exact ⟨fun hb=>RelT.weak h (r.1 hb),r.2⟩
 | .nx b xs,v,r=>by
  simp only [RelT] at r ⊢
  exact ⟨fun hb=>by obtain ⟨vs,hv,hr⟩:=r.1 hb;exact ⟨vs,hv,hr.1,fun j x v hj hv=>(hr.2 j x v hj hv).weak h⟩,r.2⟩
 | .ag xs,v,r=>by simp only [RelT] at r ⊢;obtain ⟨vs,hv,hr⟩:=r;exact ⟨vs,hv,RelTs.weak h hr⟩
 | .addr _ _,v,r| .any,v,r| .arr _ _,v,r| .elt _ _ _,v,r| .mp _,v,r| .it _,v,r| .yl _,v,r| .tr _,v,r=>by simp only [RelT] at r ⊢<;>exact r
 | .tok _,v,r| .tkd _ _ _ _,v,r| .own _ _ _,v,r| .arrc _ _ _ _,v,r| .mapc _ _ _ _ _,v,r| .itc _ _,v,r=>by simp only [RelT] at r
theorem RelTs.weak {G:Gh} {w:World} {O O':Nat->Prop} (h:∀ b,O b->O' b):∀ {xs:List T} {vs:List Value},RelTs G w O xs vs->RelTs G w O' xs vs
 | [],vs,r=>by simp only [RelTs] at r ⊢;exact r
 |x::xs,vs,r=>by
  simp only [RelTs] at r ⊢
  obtain ⟨v,us,hv,h1,h2⟩:=r
  exact ⟨v,us,hv,RelT.weak h h1,RelTs.weak h h2⟩
end
theorem Mem.keep {Y:TypeId->Ty} {m:Env} {w w':World} {G:Gh} (ho:∀ id,m.get 2 id≠.any->isObj (m.get 2 id)=true) (h1:∀ k,m.get 1 k=.any) (hb:∀ id,m.get 2 id≠.any->w'.heap[G.bk id]?=w.heap[G.bk id]?) (hk:KeepV G.vis w w') (hs:Same w w') (M:Mem Y (fun _=>False) m w G):Mem Y (fun _=>False) m w' G:=by
 have hext:Ext (fun _=>False) G G w w':=⟨fun _=>Nat.le_refl _,hk,fun _ h=>h.elim⟩
 refine ⟨fun id k hid=>?_,fun id hid=>?_,M.inj⟩
 ·obtain ⟨q1,q2,u,q3,q4⟩:=M.cells id k hid
  refine ⟨q1,q2,u,?_,VOK.mono hext (fun _ _=>rfl) (fun _ h=>h) (fun k h=>absurd (h1 k) h) (fun k b h=>absurd (h1 k) h) q4⟩
  rw [World.cell?_of_block (hb id (by rw [q1];exact live_ne))]
  exact q3
 ·obtain ⟨q1,q2,q3⟩:=M.box id hid
  refine ⟨q1,Nat.lt_of_lt_of_le q2 hs.size,?_⟩
  have hh:=hb id hid
  unfold ObjOK at q3 ⊢
  split at q3
  ·rw [hh];exact q3
  ·rw [hh]
   obtain ⟨⟨cs,t,z,h3,hz,h4,h5⟩,h6⟩:=q3
   refine ⟨⟨cs,t,z,h3,hz,h4,fun i hi=>?_⟩,h6⟩
   obtain ⟨h7,h8⟩:=h5 i hi
   exact ⟨h7,fun j c hc=>by obtain ⟨u,h9,h10⟩:=h8 j c hc;exact ⟨u,h9,h10.mono hext⟩⟩
  ·rw [hh]
   obtain ⟨⟨es,cl,h3,h4,h5⟩,h6⟩:=q3
   exact ⟨⟨es,cl,h3,h4,fun i en k he hk=>⟨(h5 i en k he hk).1,(h5 i en k he hk).2.mono hext⟩⟩,h6⟩
  ·rw [hh];exact q3
  ·have:=ho id hid
   simp_all [isObj]
  ·have:=ho id hid
   simp_all [isObj]
  ·exact q3.elim
end Go.Vc
namespace Go.Vc.Zn
open Go Go.Proofs Go.Vc Go.RowKit
theorem run_equalIn_iface_nil {P:Program} {t tx:TypeId} {vx:Value} {w:World} (d:Nat) (h:∃ ms,P.underlying t=some (.interface ms)):(Op.equalIn (d+1) t (.iface tx vx) .nilIface).run P w=.ok false w:=by
 obtain ⟨ms,h⟩:=h
 simp [Op.equalIn,run_underlying h]
theorem run_eql_iface_nil {P:Program} {t tx:TypeId} {vx:Value} {w:World} (h:∃ ms,P.underlying t=some (.interface ms)):(binOp .eql t (.iface tx vx) .nilIface).run P w=.ok (.bool false) w:=by
 have:(Op.equal t (.iface tx vx) .nilIface).run P w=.ok false w:=run_equalIn_iface_nil 9999 h
 simp only [binOp]
 simp [this]
theorem run_equalIn_nil_nil {P:Program} {t:TypeId} {w:World} (d:Nat) (h:∃ ms,P.underlying t=some (.interface ms)):(Op.equalIn (d+1) t .nilIface .nilIface).run P w=.ok true w:=by
 obtain ⟨ms,h⟩:=h
 simp [Op.equalIn,run_underlying h]
theorem run_eql_nil_nil {P:Program} {t:TypeId} {w:World} (h:∃ ms,P.underlying t=some (.interface ms)):(binOp .eql t .nilIface .nilIface).run P w=.ok (.bool true) w:=by
 have:(Op.equal t .nilIface .nilIface).run P w=.ok true w:=run_equalIn_nil_nil 9999 h
 simp only [binOp]
 simp [this]
theorem run_assert_yes {P:Program} {t xt:TypeId} {v:Value} {w:World} {y:Ty} (hY:TyOK P t y) (hk:∃ fs,y.kind=.struct fs):(Instr.typeAssert (.iface t v) xt t true).run P w=.ok (.tuple #[v,.bool true]) w:=by
 obtain ⟨d,i,z,h1,_,_,_,_,_,h7,_⟩:=hY
 obtain ⟨fs,hk⟩:=hk
 rw [hk] at h7
 obtain ⟨fields,rfl,_⟩:=h7
 simp [Instr.typeAssert,run_underlying h1]
theorem run_assert_no {P:Program} {Y:TypeId->Ty} {t t' xt:TypeId} {v:Value} {w:World} (hY:YOK P Y) (hk:∃ fs,(Y t).kind=.struct fs) (hne:t'≠t):∃ z,(Instr.typeAssert (.iface t' v) xt t true).run P w=.ok (.tuple #[z,.bool false]) w:=by
 obtain ⟨fs,hk⟩:=hk
 have hkn:(Y t).known=true:=struct_known hk
 obtain ⟨z,hz,_⟩:=run_zeroValue hY hkn w
 obtain ⟨d,i,z',h1,_,_,_,_,_,h7,_⟩:=hY t hkn
 rw [hk] at h7
 obtain ⟨fields,rfl,_⟩:=h7
 refine ⟨z,?_⟩
 simp [Instr.typeAssert,run_underlying h1,hne,hz]
theorem und20:∃ ms,Tryz.prog.underlying 20=some (.interface ms):=by
 obtain ⟨d,i,z,h1,_,_,_,_,_,h7,_⟩:=yok 20 (by kernel_rfl)
 obtain ⟨ms,rfl⟩:∃ ms,d=.interface ms:=h7
 exact ⟨ms,h1⟩
theorem k133:(Y 212).kind=.struct [(0,3)]:=by kernel_rfl
theorem k135:(Y 214).kind=.struct [(0,9)]:=by kernel_rfl
theorem z133:(Y 212).zero.toArray=#[.int .i64 0]:=by kernel_rfl
theorem z135:(Y 214).zero.toArray=#[.string (ByteArray.mk #[])]:=by kernel_rfl
theorem z26:(Y 30).zero.toArray=#[.int .i64 0]:=by kernel_rfl
theorem s133:(Y 212).size=1:=by kernel_rfl
theorem s135:(Y 214).size=1:=by kernel_rfl
theorem s26:(Y 30).size=1:=by kernel_rfl
theorem kn133:(Y 212).known=true:=by kernel_rfl
theorem kn135:(Y 214).known=true:=by kernel_rfl
theorem kn26:(Y 30).known=true:=by kernel_rfl
theorem ev_const {a:Act} {v:Value}:a.eval (.const v)=v:=rfl
theorem sl1 (p v:Value):SL { tmps:=#[p]++(Array.replicate 13 undef).setIfInBounds 4 v,defers:=[] } 14 (upd (fun t=>#[p].getD t undef) 5 v) []:=by
 have:=(SL.start #[p] 14 (Nat.le_of_ble_eq_true rfl)).put (d:=5) (by decide) v
 simpa [Act.put] using this
def stO (t:TypeId) (p q:Operand):Oper:={ dst:=none,op:=Op.store t p q,type:=0,pos:= "",after:=#[],guard:=none }
theorem catch_idle (p:Value) (w:World):
  CallsD Tryz.prog 105 #[p] .returning w fun e u' w'=>e=.returned (.tuple #[])/\u'=.returning/\w'=w:=by
 refine callsD_of_wpS Tryz.func105 rfl fun c₀ cs hu=>?_
 apply wpS_seq
 apply wpS_region
 simp [wpOpsS,go_sem,recoverD,hu,Tryz.ntmps105,Exit.thenS]
 have S:=sl1 p .nilIface
 refine wpS_of_wp (wp_block (wp_seq (wp_region_list ?_)))
 generalize ({ tmps:=#[p]++(Array.replicate 13 undef).setIfInBounds 4 Value.nilIface,defers:=[] }:Act)=a at S ⊢
 refine rl_val S (d:=7) (v:=.bool true) (w':=w) rfl (by decide) rfl ?_ fun a1 S1=>?_
 ·simp [execOp,S.eval,upd,run_eql_nil_nil und20,ev_const,eqGuard]
 refine wp_cond_true (by simp [S1.eval,upd]) (wp_region_list ?_)
 refine rl_val S1 (d:=1) (v:=.nilIface) (w':=w) rfl (by decide) rfl ?_ fun a2 S2=>?_
 ·simp [execOp,S1.eval,upd]
 cases c₀
 simp_all [wpList,bodyPostS,results,Tryz.results105,Exit.inBlock,S2.defers]
theorem catch_row (b1:Nat) (x:Int) (older:List PanicEntry) (w:World) (h1:w.heap[b1]?=some (.cells #[.int .i64 0] 30 (0,0))):
  CallsD Tryz.prog 105 #[.pointer (some ⟨b1,0,none⟩)] (.panicking ({ v:=.iface 212 (.agg #[.int .i64 x]),recovered:=false }::older)) w fun e u' w'=>
   e=.returned (.tuple #[])/\u'=.panicking ({ v:=.iface 212 (.agg #[.int .i64 x]),recovered:=true }::older)/\Same w w'/\w'.heap[b1]?=some (.cells #[.int .i64 5] 30 (0,0))/\
   ∀ b,b<w.heap.size->b≠b1->w'.heap[b]?=w.heap[b]?:=by
 have l1:b1<w.heap.size:=(Array.getElem?_eq_some_iff.1 h1).1
 refine callsD_of_wpS Tryz.func105 rfl fun c₀ cs hu=>?_
 apply wpS_seq
 apply wpS_region
 simp [wpOpsS,go_sem,recoverD,hu,Tryz.ntmps105,Exit.thenS]
 have S:=sl1 (.pointer (some ⟨b1,0,none⟩)) (.iface 212 (.agg #[.int .i64 x]))
 refine wpS_of_wp (wp_block (wp_seq (wp_region_list ?_)))
 generalize ({ tmps:=#[Value.pointer (some ⟨b1,0,none⟩)]++(Array.replicate 13 undef).setIfInBounds 4 (Value.iface 212 (.agg #[.int .i64 x])),defers:=[] }:Act)=a at S ⊢
 refine rl_val S (d:=7) (v:=.bool false) (w':=w) rfl (by decide) rfl ?_ fun a1 S1=>?_
 ·simp [execOp,S.eval,upd,run_eql_iface_nil und20,ev_const,eqGuard]
 refine wp_cond_false (by simp [S1.eval,upd]) (wp_seq (wp_region_list ?_))
 refine rl_val S1 (d:=8) (v:=.tuple #[.agg #[.int .i64 x],.bool true]) (w':=w) rfl (by decide) rfl ?_ fun a2 S2=>?_
 ·simp [execOp,S1.eval,upd,run_assert_yes (yok 212 kn133) ⟨_,k133⟩]
 refine rl_val S2 (d:=9) (v:=.bool true) (w':=w) rfl (by decide) rfl ?_ fun a3 S3=>?_
 ·simp [execOp,S2.eval,upd,Instr.extract]
 refine rl_val S3 (d:=10) (v:=.agg #[.int .i64 x]) (w':=w) rfl (by decide) rfl ?_ fun a7 S7=>?_
 ·simp [execOp,S3.eval,upd,Instr.extract]
 refine wp_cond_true (by simp [S7.eval,upd]) (wp_seq (wp_region_list ?_))
 have hal:=fun (o:Oper) (ho:o.op=Op.alloc 212)=>raw_alloc (P:=Tryz.prog) (a:=a7) (w:=w) (o:=o) yok (t:=212) ho kn133
 rw [z133] at hal
 refine rl_val S7 (d:=2) rfl (by decide) rfl (hal _ rfl) fun a8 S8=>?_
 obtain ⟨w1,hw1⟩:∃ w1,w.alloc (.cells #[.int .i64 0] 212 (0,0))=w1:=⟨_,rfl⟩
 have hw1':w.alloc (.cells #[.int .i64 0] 212)=w1:=hw1
 rw [hw1']
 have g1:Same w w1:=by rw [<-hw1];exact same_alloc _ _
 have g2:∀ b,b<w.heap.size->w1.heap[b]?=w.heap[b]?:=fun b hb=>by rw [<-hw1];exact heap_alloc_lt _ _ hb
 have g3:w1.heap[w.heap.size]?=some (.cells #[.int .i64 0] 212 (0,0)):=by rw [<-hw1];exact World.alloc_heap_new w _
 have H:=fun (o:Oper) (ho:o.op=Op.store 212 (.tmp 2) (.tmp 10))=>raw_store (P:=Tryz.prog) (a:=a8) (w:=w1) (v:=.agg #[.int .i64 x]) (b:=w.heap.size) (o:=o)
  yok (t:=212) ho kn133 (by simp [S8.eval,upd]) (by simp [S8.eval,upd]) (by rw [s133];rfl) (by rw [s133];rfl) (by simp [Value.cells,Value.oneCell']) g3
 obtain ⟨_,r2,r3,r4⟩:=H (stO 212 (.tmp 2) (.tmp 10)) rfl
 refine rl_skip S8 rfl rfl (H _ rfl).1 fun a9 S9=>?_
 clear H
 generalize w1.setRow w.heap.size (Value.agg #[.int .i64 x]).cells=w2 at r2 r3 r4 ⊢
 refine wp_region_list ?_
 have g5:w2.heap[b1]?=some (.cells #[.int .i64 0] 30 (0,0)):=by rw [r4 _ (by omega),g2 _ l1];exact h1
 have H:=fun (o:Oper) (ho:o.op=Op.store 30 (.tmp 0) (.const (.int .i64 5)))=>raw_store (P:=Tryz.prog) (a:=a9) (w:=w2) (v:=.int .i64 5) (b:=b1) (o:=o)
  yok (t:=30) ho kn26 (by simp [S9.eval,upd]) rfl (by rw [s26];rfl) (by rw [s26];rfl) (by simp [Value.cells,Value.oneCell']) g5
 obtain ⟨_,t2,t3,t4⟩:=H (stO 30 (.tmp 0) (.const (.int .i64 5))) rfl
 refine rl_skip S9 rfl rfl (H _ rfl).1 fun a10 S10=>?_
 clear H
 generalize w2.setRow b1 (Value.int .i64 5).cells=w4 at t2 t3 t4 ⊢
 have e3:∀ b,b<w.heap.size->b≠b1->w4.heap[b]?=w.heap[b]?:=fun b hb h1=>by rw [t4 _ h1,r4 _ (by omega),g2 _ hb]
 have e4:Same w w4:=(g1.trans r3).trans t3
 exact ⟨S10.defers,_,rfl,.tuple #[],by simp [results,Tryz.results105],rfl,rfl,e4,t2,e3⟩
theorem catch_text (b1:Nat) (x:ByteArray) (older:List PanicEntry) (w:World) (h1:w.heap[b1]?=some (.cells #[.int .i64 0] 30 (0,0))):
  CallsD Tryz.prog 105 #[.pointer (some ⟨b1,0,none⟩)] (.panicking ({ v:=.iface 214 (.agg #[.string x]),recovered:=false }::older)) w fun e u' w'=>
   e=.returned (.tuple #[])/\u'=.panicking ({ v:=.iface 214 (.agg #[.string x]),recovered:=true }::older)/\Same w w'/\w'.heap[b1]?=some (.cells #[.int .i64 4] 30 (0,0))/\
   ∀ b,b<w.heap.size->b≠b1->w'.heap[b]?=w.heap[b]?:=by
 have l1:b1<w.heap.size:=(Array.getElem?_eq_some_iff.1 h1).1
 refine callsD_of_wpS Tryz.func105 rfl fun c₀ cs hu=>?_
 apply wpS_seq
 apply wpS_region
 simp [wpOpsS,go_sem,recoverD,hu,Tryz.ntmps105,Exit.thenS]
 have S:=sl1 (.pointer (some ⟨b1,0,none⟩)) (.iface 214 (.agg #[.string x]))
 refine wpS_of_wp (wp_block (wp_seq (wp_region_list ?_)))
 generalize ({ tmps:=#[Value.pointer (some ⟨b1,0,none⟩)]++(Array.replicate 13 undef).setIfInBounds 4 (Value.iface 214 (.agg #[.string x])),defers:=[] }:Act)=a at S ⊢
 refine rl_val S (d:=7) (v:=.bool false) (w':=w) rfl (by decide) rfl ?_ fun a1 S1=>?_
 ·simp [execOp,S.eval,upd,run_eql_iface_nil und20,ev_const,eqGuard]
 refine wp_cond_false (by simp [S1.eval,upd]) (wp_seq (wp_region_list ?_))
 obtain ⟨z,hz⟩:=run_assert_no (Y:=Y) (t:=212) (t':=214) (xt:=20) (v:=.agg #[.string x]) (w:=w) yok ⟨_,k133⟩ (by decide)
 refine rl_val S1 (d:=8) (v:=.tuple #[z,.bool false]) (w':=w) rfl (by decide) rfl ?_ fun a2 S2=>?_
 ·simp [execOp,S1.eval,upd,hz]
 refine rl_val S2 (d:=9) (v:=.bool false) (w':=w) rfl (by decide) rfl ?_ fun a3 S3=>?_
 ·simp [execOp,S2.eval,upd,Instr.extract]
 refine rl_val S3 (d:=10) (v:=z) (w':=w) rfl (by decide) rfl ?_ fun a4 S4=>?_
 ·simp [execOp,S3.eval,upd,Instr.extract]
 refine wp_cond_false (by simp [S4.eval,upd]) (wp_seq (wp_region_list ?_))
 refine rl_val S4 (d:=11) (v:=.tuple #[.agg #[.string x],.bool true]) (w':=w) rfl (by decide) rfl ?_ fun a5 S5=>?_
 ·simp [execOp,S4.eval,upd,run_assert_yes (yok 214 kn135) ⟨_,k135⟩]
 refine rl_val S5 (d:=12) (v:=.bool true) (w':=w) rfl (by decide) rfl ?_ fun a6 S6=>?_
 ·simp [execOp,S5.eval,upd,Instr.extract]
 refine rl_val S6 (d:=13) (v:=.agg #[.string x]) (w':=w) rfl (by decide) rfl ?_ fun a7 S7=>?_
 ·simp [execOp,S6.eval,upd,Instr.extract]
 refine wp_cond_true (by simp [S7.eval,upd]) (wp_seq (wp_region_list ?_))
 have hal:=fun (o:Oper) (ho:o.op=Op.alloc 214)=>raw_alloc (P:=Tryz.prog) (a:=a7) (w:=w) (o:=o) yok (t:=214) ho kn135
 rw [z135] at hal
 refine rl_val S7 (d:=3) rfl (by decide) rfl (hal _ rfl) fun a8 S8=>?_
 obtain ⟨w1,hw1⟩:∃ w1,w.alloc (.cells #[.string (ByteArray.mk #[])] 214 (0,0))=w1:=⟨_,rfl⟩
 have hw1':w.alloc (.cells #[.string (ByteArray.mk #[])] 214)=w1:=hw1
 rw [hw1']
 have g1:Same w w1:=by rw [<-hw1];exact same_alloc _ _
 have g2:∀ b,b<w.heap.size->w1.heap[b]?=w.heap[b]?:=fun b hb=>by rw [<-hw1];exact heap_alloc_lt _ _ hb
 have g3:w1.heap[w.heap.size]?=some (.cells #[.string (ByteArray.mk #[])] 214 (0,0)):=by rw [<-hw1];exact World.alloc_heap_new w _
 have H:=fun (o:Oper) (ho:o.op=Op.store 214 (.tmp 3) (.tmp 13))=>raw_store (P:=Tryz.prog) (a:=a8) (w:=w1) (v:=.agg #[.string x]) (b:=w.heap.size) (o:=o)
  yok (t:=214) ho kn135 (by simp [S8.eval,upd]) (by simp [S8.eval,upd]) (by rw [s135];rfl) (by rw [s135];rfl) (by simp [Value.cells,Value.oneCell']) g3
 obtain ⟨_,r2,r3,r4⟩:=H (stO 214 (.tmp 3) (.tmp 13)) rfl
 refine rl_skip S8 rfl rfl (H _ rfl).1 fun a9 S9=>?_
 clear H
 generalize w1.setRow w.heap.size (Value.agg #[.string x]).cells=w2 at r2 r3 r4 ⊢
 refine wp_region_list ?_
 have g5:w2.heap[b1]?=some (.cells #[.int .i64 0] 30 (0,0)):=by rw [r4 _ (by omega),g2 _ l1];exact h1
 have H:=fun (o:Oper) (ho:o.op=Op.store 30 (.tmp 0) (.const (.int .i64 4)))=>raw_store (P:=Tryz.prog) (a:=a9) (w:=w2) (v:=.int .i64 4) (b:=b1) (o:=o)
  yok (t:=30) ho kn26 (by simp [S9.eval,upd]) rfl (by rw [s26];rfl) (by rw [s26];rfl) (by simp [Value.cells,Value.oneCell']) g5
 obtain ⟨_,t2,t3,t4⟩:=H (stO 30 (.tmp 0) (.const (.int .i64 4))) rfl
 refine rl_skip S9 rfl rfl (H _ rfl).1 fun a10 S10=>?_
 clear H
 generalize w2.setRow b1 (Value.int .i64 4).cells=w4 at t2 t3 t4 ⊢
 have e3:∀ b,b<w.heap.size->b≠b1->w4.heap[b]?=w.heap[b]?:=fun b hb h1=>by rw [t4 _ h1,r4 _ (by omega),g2 _ hb]
 have e4:Same w w4:=(g1.trans r3).trans t3
 exact ⟨S10.defers,_,rfl,.tuple #[],by simp [results,Tryz.results105],rfl,rfl,e4,t2,e3⟩
def attV:Ending->Value
 | .panicked [{ v:=.iface 212 _,.. }]=>.int .i64 5
 | .panicked [{ v:=.iface 214 _,.. }]=>.int .i64 4
 |_=>.int .i64 0
def attW (w:World):World:=w.alloc (.cells #[.int .i64 0] 30 (0,0))
structure AttOK (w w':World) (en:Ending):Prop where
 one:w'.heap[w.heap.size]?=some (.cells #[.int .i64 0] 30 (0,0))
 en:en=.returned (.tuple #[])∨(∃ x,en=.panicked [{ v:=.iface 212 (.agg #[.int .i64 x]),recovered:=false }])∨∃ s,en=.panicked [{ v:=.iface 214 (.agg #[.string s]),recovered:=false }]
theorem att_results {a:Act} {w:World} {b1:Nat} {x:Value} (h1:a.tmps.getD 2 undef=.pointer (some ⟨b1,0,none⟩))
  (g1:w.heap[b1]?=some (.cells #[x] 30 (0,0))):(results Tryz.f38 a.tmps).run Tryz.prog w=.ok x w:=by
 have l1:=run_load1 yok (t:=30) (by kernel_rfl) (w:=w) (b:=b1) (off:=0) (u:=x) (by simp [World.cell?,g1])
 have he:Tryz.f38.results.mapM (resM a.tmps)=List.toArray <$> Tryz.f38.results.toList.mapM (resM a.tmps):=Array.mapM_eq_mapM_toList ..
 have he2:results Tryz.f38 a.tmps=(Tryz.f38.results.mapM (resM a.tmps) >>= fun vs=>pure (if h:vs.size=1 then vs[0] else .tuple vs)):=rfl
 have hrun:([ResultVar.cell 2 30].mapM (resM a.tmps)).run Tryz.prog w=.ok [x] w:=by
  have r1:(resM a.tmps (.cell 2 30)).run Tryz.prog w=.ok x w:=by simp [resM,h1,asAddr,l1]
  rw [run_mapM_cons,r1,Result.andThen_ok]
  simp
 rw [he2,he,Tryz.results38]
 simp only [Sem.run_bind,Sem.run_map,hrun,Result.andThen_ok,Sem.run_pure]
 rfl
theorem attempt_calls (g:FuncId) (hg:FnOK Tryz.prog g) (us vs:Array Value) (w:World) (R:Ending->World->Prop) (hcall:Calls Tryz.prog g (us++vs) (attW w) R) (hR:∀ en w',R en w'->AttOK w w' en):
  Calls Tryz.prog 38 #[.func (.func g) us vs] w fun en w''=>∃ en0 w',R en0 w'/\Same w' w''/\(∀ b,b<w'.heap.size->b≠w.heap.size->w''.heap[b]?=w'.heap[b]?)/\en=.returned (attV en0):=by
 go_enter_defers Tryz.func38,Tryz.ntmps38
 have S:SL { tmps:=#[Value.func (Fn.func g) us vs,undef,undef,undef,undef,undef],defers:=[] } 6 (fun t=>#[Value.func (Fn.func g) us vs].getD t undef) []:=by
  exact SL.start #[Value.func (Fn.func g) us vs] 6 (Nat.le_of_ble_eq_true rfl)
 generalize ({ tmps:=#[Value.func (Fn.func g) us vs,undef,undef,undef,undef,undef],defers:=[] }:Act)=a at S ⊢
 refine wp_seq (wp_region_list ?_)
 have hal:=fun (o:Oper) (ho:o.op=Op.alloc 30)=>raw_alloc (P:=Tryz.prog) (a:=a) (w:=w) (o:=o) yok (t:=30) ho kn26
 rw [z26] at hal
 refine rl_val S (d:=2) rfl (by decide) rfl (hal _ rfl) fun a2 S2=>?_
 show Code.wp Tryz.prog _ _ a2 (attW w)
 generalize hw1:attW w=w1 at hcall ⊢
 refine wp_seq (wp_region_list ?_)
 refine rl_val S2 (d:=3) (v:=.func (.func 105) #[] #[.pointer (some ⟨w.heap.size,0,none⟩)]) (w':=w1) rfl (by decide) rfl ?_ fun a3 S3=>?_
 ·simp [execOp,S2.eval,upd,Instr.makeFunc]
 refine rl_defer S3 (d:={ target:=.fn (.func 105) #[.pointer (some ⟨w.heap.size,0,none⟩)],args:=#[] }) rfl rfl ?_ fun a4 S4=>?_
 ·simp [execOp,resolve,S3.eval,upd,Deferred.ofValue]
 refine wp_seq (wp_region_list ?_)
 refine rl_val S4 (d:=4) (v:=.func (.func g) us vs) (w':=w1) rfl (by decide) rfl ?_ fun a5 S5=>?_
 ·simp [execOp,S4.eval,upd]
 have hinv:∀ (p:Value) (w:World),(invoke (.fn (.func 105) #[p]) #[]).run Tryz.prog w=.ok (.enter 105 #[p]) w:=fun p w=>by
  have h2:(Tryz.f105.name== "runtime.NumGoroutine")=false:=by kernel_rfl
  have h3:Tryz.f105.body.isNone=false:=by kernel_rfl
  have h2':Tryz.f105.name≠ "runtime.NumGoroutine":=by simpa using h2
  have h3':Tryz.f105.body≠none:=by intro hh;rw [hh] at h3;cases h3
  simp [invoke,callFunc,Tryz.func105,h2',h3']
 refine rl_call S5 (d:=5) (g:=g) (vs:=us++vs) (R:=R) rfl (by decide) rfl ?_ hcall (fun v w2 hr a6 S6=>?_) (fun ch w2 hr=>?_) (fun w2 hr=>?_)
 ·have:=fun (o:Oper) (ho:o.op=Op.call { callee:=Callee.value (Operand.tmp 4),args:=#[],argTypes:=#[] })=>exec_call (P:=Tryz.prog) (a:=a5) (w:=w1) (o:=o) ho (by simp [S5.eval,upd]) hg (us:=us) (cvs:=vs)
  simpa using this _ rfl
 ·obtain ⟨c1,c3⟩:=hR _ _ hr
  have l1:w.heap.size<w2.heap.size:=(Array.getElem?_eq_some_iff.1 c1).1
  refine wp_seq (wp_region_list ?_)
  have H:=fun (o:Oper) (ho:o.op=Op.store 30 (.tmp 2) (.const (.int .i64 0)))=>raw_store (P:=Tryz.prog) (a:=a6) (w:=w2) (v:=.int .i64 0) (b:=w.heap.size) (o:=o)
   yok (t:=30) ho kn26 (by simp [S6.eval,upd]) rfl (by rw [s26];rfl) (by rw [s26];rfl) (by simp [Value.cells,Value.oneCell']) c1
  obtain ⟨_,t2,t3,t4⟩:=H (stO 30 (.tmp 2) (.const (.int .i64 0))) rfl
  refine rl_skip S6 rfl rfl (H _ rfl).1 fun a9 S9=>?_
  clear H
  generalize w2.setRow w.heap.size (Value.int .i64 0).cells=w4 at t2 t3 t4 ⊢
  refine wp_ret ?_
  show Leaves Tryz.prog Tryz.f38 a9.tmps _ a9.defers .returning w4
  rw [S9.defers]
  refine leaves_cons (by simp) (hinv _ w4) ((catch_idle _ w4).mono ?_)
  rintro e u' w5 ⟨rfl,rfl,rfl⟩
  have r1:=att_results (a:=a9) (w:=w5) (b1:=w.heap.size) (by rw [S9.get 2 (by decide)];simp [upd]) t2
  refine ⟨_,r1,_,_,hr,t3,fun b hb h1=>t4 _ h1,?_⟩
  rcases c3 with h|⟨_,h⟩|⟨_,h⟩<;>cases h
  rfl
 ·obtain ⟨c1,c3⟩:=hR _ _ hr
  have l1:w.heap.size<w2.heap.size:=(Array.getElem?_eq_some_iff.1 c1).1
  show Leaves Tryz.prog Tryz.f38 a5.tmps _ a5.defers (.panicking ch) w2
  rw [S5.defers]
  refine leaves_cons (by simp) (hinv _ w2) ?_
  have e1:a5.tmps.getD 2 undef=.pointer (some ⟨w.heap.size,0,none⟩):=by rw [S5.get 2 (by decide)];simp [upd]
  rcases c3 with h|⟨x,h⟩|⟨s,h⟩
  ·cases h
  ·obtain rfl:ch=[{ v:=.iface 212 (.agg #[.int .i64 x]),recovered:=false }]:=Ending.panicked.inj h
   refine (catch_row _ x [] w2 c1).mono ?_
   rintro e u' w5 ⟨rfl,rfl,g1,g2,g4⟩
   have r1:=att_results (a:=a5) (w:=w5) e1 g2
   exact ⟨_,r1,_,_,hr,g1,g4,rfl⟩
  ·obtain rfl:ch=[{ v:=.iface 214 (.agg #[.string s]),recovered:=false }]:=Ending.panicked.inj h
   refine (catch_text _ s [] w2 c1).mono ?_
   rintro e u' w5 ⟨rfl,rfl,g1,g2,g4⟩
   have r1:=att_results (a:=a5) (w:=w5) e1 g2
   exact ⟨_,r1,_,_,hr,g1,g4,rfl⟩
 ·obtain ⟨_,c3⟩:=hR _ _ hr
  rcases c3 with h|⟨_,h⟩|⟨_,h⟩<;>cases h
variable {Gl:World->Prop}
inductive AttR:Res->Int->Prop
 |ok:AttR (.ret (.tup [])) 0
 |row (x:Int):AttR (.pan (.iface 212 (.agg #[.int .i64 x]))) 5
 |text (s:ByteArray):AttR (.pan (.iface 214 (.agg #[.string s]))) 4
theorem attW_size (w:World):(attW w).heap.size=w.heap.size+1:=by simp [attW,World.size_alloc]
theorem attW_lt (w:World) {b:Nat} (h:b<w.heap.size):(attW w).heap[b]?=w.heap[b]?:=by
 unfold attW
 exact heap_alloc_lt _ _ h
theorem attW_same (w:World):Same w (attW w):=same_alloc _ _
theorem attW_one (w:World):(attW w).heap[w.heap.size]?=some (.cells #[.int .i64 0] 30 (0,0)):=World.alloc_heap_new w _
theorem attW_keep {vis:Nat->Nat} {w:World} (h:∀ b,w.heap.size<=b->vis b=0):KeepV vis w (attW w):=
 ⟨fun b i hi=>World.cell?_of_block (attW_lt w (by
  rcases Nat.lt_or_ge b w.heap.size with hb|hb
  ·exact hb
  ·rw [h b hb] at hi;omega)),fun b hb es c he=>by rw [attW_lt w (Array.getElem?_eq_some_iff.1 he).1];exact he⟩
theorem att_ret {base:Nat} {vis:Nat->Nat} {w:World} (e:Int):RetOK base vis w (I e) (.int .i64 e):=Rep.v _ rfl
theorem attempt74 (S:Set Tryz.prog Y Gl) {g:FuncId} {fst caps:List T} {r:Res} {ev:Int} (h:CO Gl g (fst++caps) r) (ha:AttR r ev):CO Gl 38 [.fn g fst caps] (.ret (I ev)):=by
 refine ⟨⟨_,Tryz.func38,name38,by kernel_rfl⟩,fun vis w vs hvis hgl hargs=>?_⟩
 simp only [RelTs,RelT] at hargs
 obtain ⟨v,vs1,hvs,⟨us,cvs,rfl,hu,hc⟩,rfl⟩:=hargs
 obtain rfl:vs=#[.func (.func g) us cvs]:=by rw [<-Array.toArray_toList (xs:=vs),hvs]
 have hb:Below w.heap.size w (attW w):=⟨(attW_same w).os,(attW_same w).tape,(attW_same w).output,(attW_same w).size,fun k hk=>attW_lt w hk⟩
 have hext:Ext (Lo w.heap.size) (Gh0 vis) (Gh0 vis) w (attW w):=⟨fun _=>Nat.le_refl _,attW_keep hvis,fun b hb=>attW_lt w hb⟩
 have hrel:RelTs (Gh0 vis) (attW w) (Lo (attW w).heap.size) (fst++caps) (us++cvs).toList:=by
  rw [Array.toList_append]
  exact RelTs.weak (fun b hb=>by have:=attW_size w;unfold Lo at hb ⊢;omega) ((RelTs.mono hext (fun _ _=>rfl) hu).app (RelTs.mono hext (fun _ _=>rfl) hc))
 have hcall:=h.2 vis (attW w) (us++cvs) (fun b hb=>hvis b (by rw [attW_size] at hb;omega)) (S.gl _ _ hgl hb) hrel
 refine (attempt_calls g h.1 us cvs w _ hcall fun en w' ⟨hbe,han⟩=>⟨?_,?_⟩).mono ?_
 ·rw [hbe.block _ (by rw [attW_size];omega)];exact attW_one w
 ·cases ha with
  |ok=>
   obtain ⟨v,vis',rfl,_,_,vs,rfl,hr⟩:=han
   obtain rfl:vs=#[]:=by
    have:=hr.1
    exact Array.eq_empty_of_size_eq_zero (by simpa using this.symm)
   exact .inl rfl
  |row x=>exact .inr (.inl ⟨x,han⟩)
  |text s=>exact .inr (.inr ⟨s,han⟩)
 ·rintro en w2 ⟨en0,w',⟨hbe,han⟩,hs,hh,rfl⟩
  have hsz:w.heap.size<=w2.heap.size:=by
   have h1:=hbe.size
   have h2:=hs.size
   rw [attW_size] at h1;omega
  refine ⟨⟨hs.os.trans (hbe.os.trans hb.os),hs.tape.trans (hbe.tape.trans hb.tape),hs.output.trans (hbe.output.trans hb.output),hsz,fun k hk=>?_⟩,_,vis,rfl,fun _ _=>rfl,fun b hb=>hvis b (by omega),?_⟩
  ·have h1:=hbe.size
   rw [attW_size] at h1
   rw [hh k (by omega) (by omega),hbe.block k (by rw [attW_size];omega),attW_lt w hk]
  ·cases ha with
   |ok=>
    obtain ⟨v,vis',rfl,_⟩:=han
    exact att_ret 0
   |row x=>
    have han:en0=_:=han
    subst han
    exact att_ret 5
   |text s=>
    have han:en0=_:=han
    subst han
    exact att_ret 4
theorem attempt74_does {g:FuncId} {fst caps:List T} {r:Res} {ev:Int} {pre post:Env} {yd:Yd} (hpre:preOK pre=true) (hpost:postOK pre post=true) (h:Does Tryz.prog Y Gl yd g (fst++caps) pre r post) (ha:AttR r ev):Does Tryz.prog Y Gl yd 38 [.fn g fst caps] pre (.ret (I ev)) post:=by
 obtain ⟨p0,p1,p2⟩:=preOK_get hpre
 obtain ⟨o1,o2,o3⟩:=postOK_get hpost
 refine ⟨⟨_,Tryz.func38,name38,by kernel_rfl⟩,fun J G w vs hst hgl hyl hfr hH hJ hmem hargs=>?_⟩
 simp only [RelTs,RelT] at hargs
 obtain ⟨v,vs1,hvs,⟨us,cvs,rfl,hu,hc⟩,rfl⟩:=hargs
 obtain rfl:vs=#[.func (.func g) us cvs]:=by rw [<-Array.toArray_toList (xs:=vs),hvs]
 have hkv:=attW_keep (w:=w) hfr
 have hext:Ext (fun _=>False) G G w (attW w):=⟨fun _=>Nat.le_refl _,hkv,fun b hb=>hb.elim⟩
 have hrel:RelTs G (attW w) (fun _=>False) (fst++caps) (us++cvs).toList:=by
  rw [Array.toList_append]
  exact (RelTs.mono hext (fun _ _=>rfl) hu).app (RelTs.mono hext (fun _ _=>rfl) hc)
 have hbk:∀ id,pre.get 2 id≠.any->G.bk id<w.heap.size:=fun id hid=>(hmem.box id hid).2.1
 have hJ1:=hst.1 _ _ _ _ _ hJ (fun b hb=>attW_lt w (hH b hb)) hkv (attW_same w)
 have hmem1:Mem Y (fun _=>False) pre (attW w) G:=Mem.keep (preOK_obj hpre) p1 (fun id hid=>attW_lt w (hbk id hid)) hkv (attW_same w) hmem
 have hsz:=attW_size w
 have hused:∀ id,Env.get (over post pre) 2 id≠.any->pre.get 2 id≠.any:=fun id hid=>by
  rw [get_over] at hid
  split at hid
  ·rename_i hk
   have:=o2 id hk
   intro hh
   rw [hh] at this
   unfold kindOK at this
   split at this<;>first|(rename_i hx;cases hx;done)|cases this
  ·exact hid
 have htok:∀ k,Env.get (over post pre) 1 k=.any:=fun k=>by
  rw [get_over,o1 k,if_neg (by decide)];exact p1 k
 have hobj:∀ id,Env.get (over post pre) 2 id≠.any->isObj (Env.get (over post pre) 2 id)=true:=fun id hid=>by
  rw [get_over] at hid ⊢
  split
  ·rename_i hk
   have:=o2 id hk
   unfold kindOK at this
   split at this<;>first|(rename_i hx _;rw [hx];rfl)|(rename_i hx;rw [hx];rfl)|(cases this)
  ·rename_i hk
   rw [if_neg hk] at hid
   exact preOK_obj hpre id hid
 have hcall:=h.2 J G (attW w) (us++cvs) hst hgl hyl (fun b hb=>hfr b (by omega)) (fun b hb=>by have:=hH b hb;omega) hJ1 hmem1 hrel
 refine (attempt_calls g h.1 us cvs w _ hcall fun en w' ⟨h1,h2,h3,h4,h5⟩=>⟨?_,?_⟩).mono ?_
 ·rw [h3 _ (by omega) (fun hh=>by have:=hH _ hh;omega) (fun id hid hh=>by have:=hbk id hid;omega)];exact attW_one w
 ·obtain ⟨G',_,_,_,_,_,_,_,hr⟩:=h5
  cases ha with
  |ok=>
   obtain ⟨v,rfl,vs,rfl,hr⟩:=hr
   obtain rfl:vs=#[]:=by
    have:=hr.1
    exact Array.eq_empty_of_size_eq_zero (by simpa using this.symm)
   exact .inl rfl
  |row x=>exact .inr (.inl ⟨x,hr⟩)
  |text s=>exact .inr (.inr ⟨s,hr⟩)
 ·rintro en w2 ⟨en0,w',⟨h1,h2,h3,h4,h5⟩,hs,hh,rfl⟩
  have s1:=h1.size
  have s2:=hs.size
  obtain ⟨G',g1,g2,g3,g4,g5,g6,g7,hr⟩:=h5
  have hkeep2:∀ vis:Nat->Nat,(∀ b,w'.heap.size<=b->vis b=0)->vis w.heap.size=0->KeepV vis w' w2:=fun vis v1 v2=>by
   have hv:∀ b,0<vis b->w2.heap[b]?=w'.heap[b]?:=fun b hb=>hh b (by
    rcases Nat.lt_or_ge b w'.heap.size with h|h
    ·exact h
    ·rw [v1 b h] at hb;omega) (fun h=>by rw [h,v2] at hb;omega)
   exact ⟨fun b i hi=>World.cell?_of_block (hv b (by omega)),fun b hb es c he=>by rw [hv b hb];exact he⟩
  have hH':∀ b,G'.H b->w2.heap[b]?=w'.heap[b]?:=fun b hb=>by
   refine hh b (g5 b hb) (fun he=>?_)
   have:=hH b ((g4 b (by omega)).1 hb);omega
  have v1:G'.vis w.heap.size=0:=by rw [g2 _ (by omega)];exact hfr _ (by omega)
  refine ⟨((attW_same w).trans h1).trans hs,(hkv.trans h2).trans (hkeep2 G.vis (fun b hb=>hfr b (by omega)) (hfr _ (by omega))),fun b hb hn hno=>?_,fun id k hl hk=>?_,G',g1,fun b hb=>g2 b (by omega),fun b hb=>g3 b (by omega),
   fun b hb=>g4 b (by omega),fun b hb=>by have:=g5 b hb;omega,hst.1 _ _ _ _ _ g6 hH' (hkeep2 G'.vis g3 v1) hs,Mem.keep hobj htok (fun id hid=>?_) (hkeep2 G'.vis g3 v1) hs g7,?_⟩
  ·rw [hh b (by omega) (by omega),h3 b (by omega) hn hno,attW_lt w hb]
  ·have hid:pre.get 2 id≠.any:=by rw [hl];exact live_ne
   have hlt:=hbk id hid
   rw [World.cell?_of_block (show w2.heap[G.bk id]?=w'.heap[G.bk id]? from hh _ (by omega) (by omega)),h4 id k hl hk,World.cell?_of_block (show (attW w).heap[G.bk id]?=w.heap[G.bk id]? from attW_lt w hlt)]
  ·have hlt:=hbk id (hused id hid)
   rw [g1]
   exact hh _ (by omega) (by omega)
  ·cases ha with
   |ok=>
    obtain ⟨v,rfl,_⟩:=hr
    exact ⟨_,rfl,att_ret 0⟩
   |row x=>
    have hr:en0=_:=hr
    subst hr
    exact ⟨_,rfl,att_ret 5⟩
   |text s=>
    have hr:en0=_:=hr
    subst hr
    exact ⟨_,rfl,att_ret 4⟩
end Go.Vc.Zn
namespace Go.Vc.Zn.Co
open Go Go.Proofs Go.Vc Go.RowKit
theorem und20:∃ ms,Tryz.prog.underlying 20=some (.interface ms):=by
 obtain ⟨d,i,z,h1,_,_,_,_,_,h7,_⟩:=yok 20 (by kernel_rfl)
 obtain ⟨ms,rfl⟩:∃ ms,d=.interface ms:=h7
 exact ⟨ms,h1⟩
theorem k133:(Y 358).kind=.struct [(0,3)]:=by kernel_rfl
theorem k135:(Y 360).kind=.struct [(0,9)]:=by kernel_rfl
theorem z133:(Y 358).zero.toArray=#[.int .i64 0]:=by kernel_rfl
theorem z135:(Y 360).zero.toArray=#[.string (ByteArray.mk #[])]:=by kernel_rfl
theorem z26:(Y 30).zero.toArray=#[.int .i64 0]:=by kernel_rfl
theorem s133:(Y 358).size=1:=by kernel_rfl
theorem s135:(Y 360).size=1:=by kernel_rfl
theorem s26:(Y 30).size=1:=by kernel_rfl
theorem kn133:(Y 358).known=true:=by kernel_rfl
theorem kn135:(Y 360).known=true:=by kernel_rfl
theorem kn26:(Y 30).known=true:=by kernel_rfl
theorem ev_const {a:Act} {v:Value}:a.eval (.const v)=v:=rfl
theorem sl1 (p v:Value):SL { tmps:=#[p]++(Array.replicate 13 undef).setIfInBounds 4 v,defers:=[] } 14 (upd (fun t=>#[p].getD t undef) 5 v) []:=by
 have:=(SL.start #[p] 14 (Nat.le_of_ble_eq_true rfl)).put (d:=5) (by decide) v
 simpa [Act.put] using this
def stO (t:TypeId) (p q:Operand):Oper:={ dst:=none,op:=Op.store t p q,type:=0,pos:= "",after:=#[],guard:=none }
theorem catch_idle (p:Value) (w:World):
  CallsD Tryz.prog 197 #[p] .returning w fun e u' w'=>e=.returned (.tuple #[])/\u'=.returning/\w'=w:=by
 refine callsD_of_wpS Tryz.func197 rfl fun c₀ cs hu=>?_
 apply wpS_seq
 apply wpS_region
 simp [wpOpsS,go_sem,recoverD,hu,Tryz.ntmps197,Exit.thenS]
 have S:=sl1 p .nilIface
 refine wpS_of_wp (wp_block (wp_seq (wp_region_list ?_)))
 generalize ({ tmps:=#[p]++(Array.replicate 13 undef).setIfInBounds 4 Value.nilIface,defers:=[] }:Act)=a at S ⊢
 refine rl_val S (d:=7) (v:=.bool true) (w':=w) rfl (by decide) rfl ?_ fun a1 S1=>?_
 ·simp [execOp,S.eval,upd,run_eql_nil_nil und20,ev_const,eqGuard]
 refine wp_cond_true (by simp [S1.eval,upd]) (wp_region_list ?_)
 refine rl_val S1 (d:=1) (v:=.nilIface) (w':=w) rfl (by decide) rfl ?_ fun a2 S2=>?_
 ·simp [execOp,S1.eval,upd]
 cases c₀
 simp_all [wpList,bodyPostS,results,Tryz.results197,Exit.inBlock,S2.defers]
theorem catch_row (b1:Nat) (x:Int) (older:List PanicEntry) (w:World) (h1:w.heap[b1]?=some (.cells #[.int .i64 0] 30 (0,0))):
  CallsD Tryz.prog 197 #[.pointer (some ⟨b1,0,none⟩)] (.panicking ({ v:=.iface 358 (.agg #[.int .i64 x]),recovered:=false }::older)) w fun e u' w'=>
   e=.returned (.tuple #[])/\u'=.panicking ({ v:=.iface 358 (.agg #[.int .i64 x]),recovered:=true }::older)/\Same w w'/\w'.heap[b1]?=some (.cells #[.int .i64 7] 30 (0,0))/\
   ∀ b,b<w.heap.size->b≠b1->w'.heap[b]?=w.heap[b]?:=by
 have l1:b1<w.heap.size:=(Array.getElem?_eq_some_iff.1 h1).1
 refine callsD_of_wpS Tryz.func197 rfl fun c₀ cs hu=>?_
 apply wpS_seq
 apply wpS_region
 simp [wpOpsS,go_sem,recoverD,hu,Tryz.ntmps197,Exit.thenS]
 have S:=sl1 (.pointer (some ⟨b1,0,none⟩)) (.iface 358 (.agg #[.int .i64 x]))
 refine wpS_of_wp (wp_block (wp_seq (wp_region_list ?_)))
 generalize ({ tmps:=#[Value.pointer (some ⟨b1,0,none⟩)]++(Array.replicate 13 undef).setIfInBounds 4 (Value.iface 358 (.agg #[.int .i64 x])),defers:=[] }:Act)=a at S ⊢
 refine rl_val S (d:=7) (v:=.bool false) (w':=w) rfl (by decide) rfl ?_ fun a1 S1=>?_
 ·simp [execOp,S.eval,upd,run_eql_iface_nil und20,ev_const,eqGuard]
 refine wp_cond_false (by simp [S1.eval,upd]) (wp_seq (wp_region_list ?_))
 refine rl_val S1 (d:=8) (v:=.tuple #[.agg #[.int .i64 x],.bool true]) (w':=w) rfl (by decide) rfl ?_ fun a2 S2=>?_
 ·simp [execOp,S1.eval,upd,run_assert_yes (yok 358 kn133) ⟨_,k133⟩]
 refine rl_val S2 (d:=9) (v:=.bool true) (w':=w) rfl (by decide) rfl ?_ fun a3 S3=>?_
 ·simp [execOp,S2.eval,upd,Instr.extract]
 refine rl_val S3 (d:=10) (v:=.agg #[.int .i64 x]) (w':=w) rfl (by decide) rfl ?_ fun a7 S7=>?_
 ·simp [execOp,S3.eval,upd,Instr.extract]
 refine wp_cond_true (by simp [S7.eval,upd]) (wp_seq (wp_region_list ?_))
 have hal:=fun (o:Oper) (ho:o.op=Op.alloc 358)=>raw_alloc (P:=Tryz.prog) (a:=a7) (w:=w) (o:=o) yok (t:=358) ho kn133
 rw [z133] at hal
 refine rl_val S7 (d:=2) rfl (by decide) rfl (hal _ rfl) fun a8 S8=>?_
 obtain ⟨w1,hw1⟩:∃ w1,w.alloc (.cells #[.int .i64 0] 358 (0,0))=w1:=⟨_,rfl⟩
 have hw1':w.alloc (.cells #[.int .i64 0] 358)=w1:=hw1
 rw [hw1']
 have g1:Same w w1:=by rw [<-hw1];exact same_alloc _ _
 have g2:∀ b,b<w.heap.size->w1.heap[b]?=w.heap[b]?:=fun b hb=>by rw [<-hw1];exact heap_alloc_lt _ _ hb
 have g3:w1.heap[w.heap.size]?=some (.cells #[.int .i64 0] 358 (0,0)):=by rw [<-hw1];exact World.alloc_heap_new w _
 have H:=fun (o:Oper) (ho:o.op=Op.store 358 (.tmp 2) (.tmp 10))=>raw_store (P:=Tryz.prog) (a:=a8) (w:=w1) (v:=.agg #[.int .i64 x]) (b:=w.heap.size) (o:=o)
  yok (t:=358) ho kn133 (by simp [S8.eval,upd]) (by simp [S8.eval,upd]) (by rw [s133];rfl) (by rw [s133];rfl) (by simp [Value.cells,Value.oneCell']) g3
 obtain ⟨_,r2,r3,r4⟩:=H (stO 358 (.tmp 2) (.tmp 10)) rfl
 refine rl_skip S8 rfl rfl (H _ rfl).1 fun a9 S9=>?_
 clear H
 generalize w1.setRow w.heap.size (Value.agg #[.int .i64 x]).cells=w2 at r2 r3 r4 ⊢
 refine wp_region_list ?_
 have g5:w2.heap[b1]?=some (.cells #[.int .i64 0] 30 (0,0)):=by rw [r4 _ (by omega),g2 _ l1];exact h1
 have H:=fun (o:Oper) (ho:o.op=Op.store 30 (.tmp 0) (.const (.int .i64 7)))=>raw_store (P:=Tryz.prog) (a:=a9) (w:=w2) (v:=.int .i64 7) (b:=b1) (o:=o)
  yok (t:=30) ho kn26 (by simp [S9.eval,upd]) rfl (by rw [s26];rfl) (by rw [s26];rfl) (by simp [Value.cells,Value.oneCell']) g5
 obtain ⟨_,t2,t3,t4⟩:=H (stO 30 (.tmp 0) (.const (.int .i64 7))) rfl
 refine rl_skip S9 rfl rfl (H _ rfl).1 fun a10 S10=>?_
 clear H
 generalize w2.setRow b1 (Value.int .i64 7).cells=w4 at t2 t3 t4 ⊢
 have e3:∀ b,b<w.heap.size->b≠b1->w4.heap[b]?=w.heap[b]?:=fun b hb h1=>by rw [t4 _ h1,r4 _ (by omega),g2 _ hb]
 have e4:Same w w4:=(g1.trans r3).trans t3
 exact ⟨S10.defers,_,rfl,.tuple #[],by simp [results,Tryz.results197],rfl,rfl,e4,t2,e3⟩
theorem catch_text (b1:Nat) (x:ByteArray) (older:List PanicEntry) (w:World) (h1:w.heap[b1]?=some (.cells #[.int .i64 0] 30 (0,0))):
  CallsD Tryz.prog 197 #[.pointer (some ⟨b1,0,none⟩)] (.panicking ({ v:=.iface 360 (.agg #[.string x]),recovered:=false }::older)) w fun e u' w'=>
   e=.returned (.tuple #[])/\u'=.panicking ({ v:=.iface 360 (.agg #[.string x]),recovered:=true }::older)/\Same w w'/\w'.heap[b1]?=some (.cells #[.int .i64 4] 30 (0,0))/\
   ∀ b,b<w.heap.size->b≠b1->w'.heap[b]?=w.heap[b]?:=by
 have l1:b1<w.heap.size:=(Array.getElem?_eq_some_iff.1 h1).1
 refine callsD_of_wpS Tryz.func197 rfl fun c₀ cs hu=>?_
 apply wpS_seq
 apply wpS_region
 simp [wpOpsS,go_sem,recoverD,hu,Tryz.ntmps197,Exit.thenS]
 have S:=sl1 (.pointer (some ⟨b1,0,none⟩)) (.iface 360 (.agg #[.string x]))
 refine wpS_of_wp (wp_block (wp_seq (wp_region_list ?_)))
 generalize ({ tmps:=#[Value.pointer (some ⟨b1,0,none⟩)]++(Array.replicate 13 undef).setIfInBounds 4 (Value.iface 360 (.agg #[.string x])),defers:=[] }:Act)=a at S ⊢
 refine rl_val S (d:=7) (v:=.bool false) (w':=w) rfl (by decide) rfl ?_ fun a1 S1=>?_
 ·simp [execOp,S.eval,upd,run_eql_iface_nil und20,ev_const,eqGuard]
 refine wp_cond_false (by simp [S1.eval,upd]) (wp_seq (wp_region_list ?_))
 obtain ⟨z,hz⟩:=run_assert_no (Y:=Y) (t:=358) (t':=360) (xt:=20) (v:=.agg #[.string x]) (w:=w) yok ⟨_,k133⟩ (by decide)
 refine rl_val S1 (d:=8) (v:=.tuple #[z,.bool false]) (w':=w) rfl (by decide) rfl ?_ fun a2 S2=>?_
 ·simp [execOp,S1.eval,upd,hz]
 refine rl_val S2 (d:=9) (v:=.bool false) (w':=w) rfl (by decide) rfl ?_ fun a3 S3=>?_
 ·simp [execOp,S2.eval,upd,Instr.extract]
 refine rl_val S3 (d:=10) (v:=z) (w':=w) rfl (by decide) rfl ?_ fun a4 S4=>?_
 ·simp [execOp,S3.eval,upd,Instr.extract]
 refine wp_cond_false (by simp [S4.eval,upd]) (wp_seq (wp_region_list ?_))
 refine rl_val S4 (d:=11) (v:=.tuple #[.agg #[.string x],.bool true]) (w':=w) rfl (by decide) rfl ?_ fun a5 S5=>?_
 ·simp [execOp,S4.eval,upd,run_assert_yes (yok 360 kn135) ⟨_,k135⟩]
 refine rl_val S5 (d:=12) (v:=.bool true) (w':=w) rfl (by decide) rfl ?_ fun a6 S6=>?_
 ·simp [execOp,S5.eval,upd,Instr.extract]
 refine rl_val S6 (d:=13) (v:=.agg #[.string x]) (w':=w) rfl (by decide) rfl ?_ fun a7 S7=>?_
 ·simp [execOp,S6.eval,upd,Instr.extract]
 refine wp_cond_true (by simp [S7.eval,upd]) (wp_seq (wp_region_list ?_))
 have hal:=fun (o:Oper) (ho:o.op=Op.alloc 360)=>raw_alloc (P:=Tryz.prog) (a:=a7) (w:=w) (o:=o) yok (t:=360) ho kn135
 rw [z135] at hal
 refine rl_val S7 (d:=3) rfl (by decide) rfl (hal _ rfl) fun a8 S8=>?_
 obtain ⟨w1,hw1⟩:∃ w1,w.alloc (.cells #[.string (ByteArray.mk #[])] 360 (0,0))=w1:=⟨_,rfl⟩
 have hw1':w.alloc (.cells #[.string (ByteArray.mk #[])] 360)=w1:=hw1
 rw [hw1']
 have g1:Same w w1:=by rw [<-hw1];exact same_alloc _ _
 have g2:∀ b,b<w.heap.size->w1.heap[b]?=w.heap[b]?:=fun b hb=>by rw [<-hw1];exact heap_alloc_lt _ _ hb
 have g3:w1.heap[w.heap.size]?=some (.cells #[.string (ByteArray.mk #[])] 360 (0,0)):=by rw [<-hw1];exact World.alloc_heap_new w _
 have H:=fun (o:Oper) (ho:o.op=Op.store 360 (.tmp 3) (.tmp 13))=>raw_store (P:=Tryz.prog) (a:=a8) (w:=w1) (v:=.agg #[.string x]) (b:=w.heap.size) (o:=o)
  yok (t:=360) ho kn135 (by simp [S8.eval,upd]) (by simp [S8.eval,upd]) (by rw [s135];rfl) (by rw [s135];rfl) (by simp [Value.cells,Value.oneCell']) g3
 obtain ⟨_,r2,r3,r4⟩:=H (stO 360 (.tmp 3) (.tmp 13)) rfl
 refine rl_skip S8 rfl rfl (H _ rfl).1 fun a9 S9=>?_
 clear H
 generalize w1.setRow w.heap.size (Value.agg #[.string x]).cells=w2 at r2 r3 r4 ⊢
 refine wp_region_list ?_
 have g5:w2.heap[b1]?=some (.cells #[.int .i64 0] 30 (0,0)):=by rw [r4 _ (by omega),g2 _ l1];exact h1
 have H:=fun (o:Oper) (ho:o.op=Op.store 30 (.tmp 0) (.const (.int .i64 4)))=>raw_store (P:=Tryz.prog) (a:=a9) (w:=w2) (v:=.int .i64 4) (b:=b1) (o:=o)
  yok (t:=30) ho kn26 (by simp [S9.eval,upd]) rfl (by rw [s26];rfl) (by rw [s26];rfl) (by simp [Value.cells,Value.oneCell']) g5
 obtain ⟨_,t2,t3,t4⟩:=H (stO 30 (.tmp 0) (.const (.int .i64 4))) rfl
 refine rl_skip S9 rfl rfl (H _ rfl).1 fun a10 S10=>?_
 clear H
 generalize w2.setRow b1 (Value.int .i64 4).cells=w4 at t2 t3 t4 ⊢
 have e3:∀ b,b<w.heap.size->b≠b1->w4.heap[b]?=w.heap[b]?:=fun b hb h1=>by rw [t4 _ h1,r4 _ (by omega),g2 _ hb]
 have e4:Same w w4:=(g1.trans r3).trans t3
 exact ⟨S10.defers,_,rfl,.tuple #[],by simp [results,Tryz.results197],rfl,rfl,e4,t2,e3⟩
def attV:Ending->Value
 | .panicked [{ v:=.iface 358 _,.. }]=>.int .i64 7
 | .panicked [{ v:=.iface 360 _,.. }]=>.int .i64 4
 |_=>.int .i64 0
def attW (w:World):World:=w.alloc (.cells #[.int .i64 0] 30 (0,0))
structure AttOK (w w':World) (en:Ending):Prop where
 one:w'.heap[w.heap.size]?=some (.cells #[.int .i64 0] 30 (0,0))
 en:en=.returned (.tuple #[])∨(∃ x,en=.panicked [{ v:=.iface 358 (.agg #[.int .i64 x]),recovered:=false }])∨∃ s,en=.panicked [{ v:=.iface 360 (.agg #[.string s]),recovered:=false }]
theorem att_results {a:Act} {w:World} {b1:Nat} {x:Value} (h1:a.tmps.getD 2 undef=.pointer (some ⟨b1,0,none⟩))
  (g1:w.heap[b1]?=some (.cells #[x] 30 (0,0))):(results Tryz.f112 a.tmps).run Tryz.prog w=.ok x w:=by
 have l1:=run_load1 yok (t:=30) (by kernel_rfl) (w:=w) (b:=b1) (off:=0) (u:=x) (by simp [World.cell?,g1])
 have he:Tryz.f112.results.mapM (resM a.tmps)=List.toArray <$> Tryz.f112.results.toList.mapM (resM a.tmps):=Array.mapM_eq_mapM_toList ..
 have he2:results Tryz.f112 a.tmps=(Tryz.f112.results.mapM (resM a.tmps) >>= fun vs=>pure (if h:vs.size=1 then vs[0] else .tuple vs)):=rfl
 have hrun:([ResultVar.cell 2 30].mapM (resM a.tmps)).run Tryz.prog w=.ok [x] w:=by
  have r1:(resM a.tmps (.cell 2 30)).run Tryz.prog w=.ok x w:=by simp [resM,h1,asAddr,l1]
  rw [run_mapM_cons,r1,Result.andThen_ok]
  simp
 rw [he2,he,Tryz.results112]
 simp only [Sem.run_bind,Sem.run_map,hrun,Result.andThen_ok,Sem.run_pure]
 rfl
theorem attempt_calls (g:FuncId) (hg:FnOK Tryz.prog g) (us vs:Array Value) (w:World) (R:Ending->World->Prop) (hcall:Calls Tryz.prog g (us++vs) (attW w) R) (hR:∀ en w',R en w'->AttOK w w' en):
  Calls Tryz.prog 112 #[.func (.func g) us vs] w fun en w''=>∃ en0 w',R en0 w'/\Same w' w''/\(∀ b,b<w'.heap.size->b≠w.heap.size->w''.heap[b]?=w'.heap[b]?)/\en=.returned (attV en0):=by
 go_enter_defers Tryz.func112,Tryz.ntmps112
 have S:SL { tmps:=#[Value.func (Fn.func g) us vs,undef,undef,undef,undef,undef],defers:=[] } 6 (fun t=>#[Value.func (Fn.func g) us vs].getD t undef) []:=by
  exact SL.start #[Value.func (Fn.func g) us vs] 6 (Nat.le_of_ble_eq_true rfl)
 generalize ({ tmps:=#[Value.func (Fn.func g) us vs,undef,undef,undef,undef,undef],defers:=[] }:Act)=a at S ⊢
 refine wp_seq (wp_region_list ?_)
 have hal:=fun (o:Oper) (ho:o.op=Op.alloc 30)=>raw_alloc (P:=Tryz.prog) (a:=a) (w:=w) (o:=o) yok (t:=30) ho kn26
 rw [z26] at hal
 refine rl_val S (d:=2) rfl (by decide) rfl (hal _ rfl) fun a2 S2=>?_
 show Code.wp Tryz.prog _ _ a2 (attW w)
 generalize hw1:attW w=w1 at hcall ⊢
 refine wp_seq (wp_region_list ?_)
 refine rl_val S2 (d:=3) (v:=.func (.func 197) #[] #[.pointer (some ⟨w.heap.size,0,none⟩)]) (w':=w1) rfl (by decide) rfl ?_ fun a3 S3=>?_
 ·simp [execOp,S2.eval,upd,Instr.makeFunc]
 refine rl_defer S3 (d:={ target:=.fn (.func 197) #[.pointer (some ⟨w.heap.size,0,none⟩)],args:=#[] }) rfl rfl ?_ fun a4 S4=>?_
 ·simp [execOp,resolve,S3.eval,upd,Deferred.ofValue]
 refine wp_seq (wp_region_list ?_)
 refine rl_val S4 (d:=4) (v:=.func (.func g) us vs) (w':=w1) rfl (by decide) rfl ?_ fun a5 S5=>?_
 ·simp [execOp,S4.eval,upd]
 have hinv:∀ (p:Value) (w:World),(invoke (.fn (.func 197) #[p]) #[]).run Tryz.prog w=.ok (.enter 197 #[p]) w:=fun p w=>by
  have h2:(Tryz.f197.name== "runtime.NumGoroutine")=false:=by kernel_rfl
  have h3:Tryz.f197.body.isNone=false:=by kernel_rfl
  have h2':Tryz.f197.name≠ "runtime.NumGoroutine":=by simpa using h2
  have h3':Tryz.f197.body≠none:=by intro hh;rw [hh] at h3;cases h3
  simp [invoke,callFunc,Tryz.func197,h2',h3']
 refine rl_call S5 (d:=5) (g:=g) (vs:=us++vs) (R:=R) rfl (by decide) rfl ?_ hcall (fun v w2 hr a6 S6=>?_) (fun ch w2 hr=>?_) (fun w2 hr=>?_)
 ·have:=fun (o:Oper) (ho:o.op=Op.call { callee:=Callee.value (Operand.tmp 4),args:=#[],argTypes:=#[] })=>exec_call (P:=Tryz.prog) (a:=a5) (w:=w1) (o:=o) ho (by simp [S5.eval,upd]) hg (us:=us) (cvs:=vs)
  simpa using this _ rfl
 ·obtain ⟨c1,c3⟩:=hR _ _ hr
  have l1:w.heap.size<w2.heap.size:=(Array.getElem?_eq_some_iff.1 c1).1
  refine wp_seq (wp_region_list ?_)
  have H:=fun (o:Oper) (ho:o.op=Op.store 30 (.tmp 2) (.const (.int .i64 0)))=>raw_store (P:=Tryz.prog) (a:=a6) (w:=w2) (v:=.int .i64 0) (b:=w.heap.size) (o:=o)
   yok (t:=30) ho kn26 (by simp [S6.eval,upd]) rfl (by rw [s26];rfl) (by rw [s26];rfl) (by simp [Value.cells,Value.oneCell']) c1
  obtain ⟨_,t2,t3,t4⟩:=H (stO 30 (.tmp 2) (.const (.int .i64 0))) rfl
  refine rl_skip S6 rfl rfl (H _ rfl).1 fun a9 S9=>?_
  clear H
  generalize w2.setRow w.heap.size (Value.int .i64 0).cells=w4 at t2 t3 t4 ⊢
  refine wp_ret ?_
  show Leaves Tryz.prog Tryz.f112 a9.tmps _ a9.defers .returning w4
  rw [S9.defers]
  refine leaves_cons (by simp) (hinv _ w4) ((catch_idle _ w4).mono ?_)
  rintro e u' w5 ⟨rfl,rfl,rfl⟩
  have r1:=att_results (a:=a9) (w:=w5) (b1:=w.heap.size) (by rw [S9.get 2 (by decide)];simp [upd]) t2
  refine ⟨_,r1,_,_,hr,t3,fun b hb h1=>t4 _ h1,?_⟩
  rcases c3 with h|⟨_,h⟩|⟨_,h⟩<;>cases h
  rfl
 ·obtain ⟨c1,c3⟩:=hR _ _ hr
  have l1:w.heap.size<w2.heap.size:=(Array.getElem?_eq_some_iff.1 c1).1
  show Leaves Tryz.prog Tryz.f112 a5.tmps _ a5.defers (.panicking ch) w2
  rw [S5.defers]
  refine leaves_cons (by simp) (hinv _ w2) ?_
  have e1:a5.tmps.getD 2 undef=.pointer (some ⟨w.heap.size,0,none⟩):=by rw [S5.get 2 (by decide)];simp [upd]
  rcases c3 with h|⟨x,h⟩|⟨s,h⟩
  ·cases h
  ·obtain rfl:ch=[{ v:=.iface 358 (.agg #[.int .i64 x]),recovered:=false }]:=Ending.panicked.inj h
   refine (catch_row _ x [] w2 c1).mono ?_
   rintro e u' w5 ⟨rfl,rfl,g1,g2,g4⟩
   have r1:=att_results (a:=a5) (w:=w5) e1 g2
   exact ⟨_,r1,_,_,hr,g1,g4,rfl⟩
  ·obtain rfl:ch=[{ v:=.iface 360 (.agg #[.string s]),recovered:=false }]:=Ending.panicked.inj h
   refine (catch_text _ s [] w2 c1).mono ?_
   rintro e u' w5 ⟨rfl,rfl,g1,g2,g4⟩
   have r1:=att_results (a:=a5) (w:=w5) e1 g2
   exact ⟨_,r1,_,_,hr,g1,g4,rfl⟩
 ·obtain ⟨_,c3⟩:=hR _ _ hr
  rcases c3 with h|⟨_,h⟩|⟨_,h⟩<;>cases h
variable {Gl:World->Prop}
inductive AttR:Res->Int->Prop
 |ok:AttR (.ret (.tup [])) 0
 |row (x:Int):AttR (.pan (.iface 358 (.agg #[.int .i64 x]))) 7
 |text (s:ByteArray):AttR (.pan (.iface 360 (.agg #[.string s]))) 4
theorem attW_size (w:World):(attW w).heap.size=w.heap.size+1:=by simp [attW,World.size_alloc]
theorem attW_lt (w:World) {b:Nat} (h:b<w.heap.size):(attW w).heap[b]?=w.heap[b]?:=by
 unfold attW
 exact heap_alloc_lt _ _ h
theorem attW_same (w:World):Same w (attW w):=same_alloc _ _
theorem attW_one (w:World):(attW w).heap[w.heap.size]?=some (.cells #[.int .i64 0] 30 (0,0)):=World.alloc_heap_new w _
theorem attW_keep {vis:Nat->Nat} {w:World} (h:∀ b,w.heap.size<=b->vis b=0):KeepV vis w (attW w):=
 ⟨fun b i hi=>World.cell?_of_block (attW_lt w (by
  rcases Nat.lt_or_ge b w.heap.size with hb|hb
  ·exact hb
  ·rw [h b hb] at hi;omega)),fun b hb es c he=>by rw [attW_lt w (Array.getElem?_eq_some_iff.1 he).1];exact he⟩
theorem att_ret {base:Nat} {vis:Nat->Nat} {w:World} (e:Int):RetOK base vis w (I e) (.int .i64 e):=Rep.v _ rfl
theorem attempt74 (S:Set Tryz.prog Y Gl) {g:FuncId} {fst caps:List T} {r:Res} {ev:Int} (h:CO Gl g (fst++caps) r) (ha:AttR r ev):CO Gl 112 [.fn g fst caps] (.ret (I ev)):=by
 refine ⟨⟨_,Tryz.func112,name112,by kernel_rfl⟩,fun vis w vs hvis hgl hargs=>?_⟩
 simp only [RelTs,RelT] at hargs
 obtain ⟨v,vs1,hvs,⟨us,cvs,rfl,hu,hc⟩,rfl⟩:=hargs
 obtain rfl:vs=#[.func (.func g) us cvs]:=by rw [<-Array.toArray_toList (xs:=vs),hvs]
 have hb:Below w.heap.size w (attW w):=⟨(attW_same w).os,(attW_same w).tape,(attW_same w).output,(attW_same w).size,fun k hk=>attW_lt w hk⟩
 have hext:Ext (Lo w.heap.size) (Gh0 vis) (Gh0 vis) w (attW w):=⟨fun _=>Nat.le_refl _,attW_keep hvis,fun b hb=>attW_lt w hb⟩
 have hrel:RelTs (Gh0 vis) (attW w) (Lo (attW w).heap.size) (fst++caps) (us++cvs).toList:=by
  rw [Array.toList_append]
  exact RelTs.weak (fun b hb=>by have:=attW_size w;unfold Lo at hb ⊢;omega) ((RelTs.mono hext (fun _ _=>rfl) hu).app (RelTs.mono hext (fun _ _=>rfl) hc))
 have hcall:=h.2 vis (attW w) (us++cvs) (fun b hb=>hvis b (by rw [attW_size] at hb;omega)) (S.gl _ _ hgl hb) hrel
 refine (attempt_calls g h.1 us cvs w _ hcall fun en w' ⟨hbe,han⟩=>⟨?_,?_⟩).mono ?_
 ·rw [hbe.block _ (by rw [attW_size];omega)];exact attW_one w
 ·cases ha with
  |ok=>
   obtain ⟨v,vis',rfl,_,_,vs,rfl,hr⟩:=han
   obtain rfl:vs=#[]:=by
    have:=hr.1
    exact Array.eq_empty_of_size_eq_zero (by simpa using this.symm)
   exact .inl rfl
  |row x=>exact .inr (.inl ⟨x,han⟩)
  |text s=>exact .inr (.inr ⟨s,han⟩)
 ·rintro en w2 ⟨en0,w',⟨hbe,han⟩,hs,hh,rfl⟩
  have hsz:w.heap.size<=w2.heap.size:=by
   have h1:=hbe.size
   have h2:=hs.size
   rw [attW_size] at h1;omega
  refine ⟨⟨hs.os.trans (hbe.os.trans hb.os),hs.tape.trans (hbe.tape.trans hb.tape),hs.output.trans (hbe.output.trans hb.output),hsz,fun k hk=>?_⟩,_,vis,rfl,fun _ _=>rfl,fun b hb=>hvis b (by omega),?_⟩
  ·have h1:=hbe.size
   rw [attW_size] at h1
   rw [hh k (by omega) (by omega),hbe.block k (by rw [attW_size];omega),attW_lt w hk]
  ·cases ha with
   |ok=>
    obtain ⟨v,vis',rfl,_⟩:=han
    exact att_ret 0
   |row x=>
    have han:en0=_:=han
    subst han
    exact att_ret 7
   |text s=>
    have han:en0=_:=han
    subst han
    exact att_ret 4
theorem attempt74_does {g:FuncId} {fst caps:List T} {r:Res} {ev:Int} {pre post:Env} {yd:Yd} (hpre:preOK pre=true) (hpost:postOK pre post=true) (h:Does Tryz.prog Y Gl yd g (fst++caps) pre r post) (ha:AttR r ev):Does Tryz.prog Y Gl yd 112 [.fn g fst caps] pre (.ret (I ev)) post:=by
 obtain ⟨p0,p1,p2⟩:=preOK_get hpre
 obtain ⟨o1,o2,o3⟩:=postOK_get hpost
 refine ⟨⟨_,Tryz.func112,name112,by kernel_rfl⟩,fun J G w vs hst hgl hyl hfr hH hJ hmem hargs=>?_⟩
 simp only [RelTs,RelT] at hargs
 obtain ⟨v,vs1,hvs,⟨us,cvs,rfl,hu,hc⟩,rfl⟩:=hargs
 obtain rfl:vs=#[.func (.func g) us cvs]:=by rw [<-Array.toArray_toList (xs:=vs),hvs]
 have hkv:=attW_keep (w:=w) hfr
 have hext:Ext (fun _=>False) G G w (attW w):=⟨fun _=>Nat.le_refl _,hkv,fun b hb=>hb.elim⟩
 have hrel:RelTs G (attW w) (fun _=>False) (fst++caps) (us++cvs).toList:=by
  rw [Array.toList_append]
  exact (RelTs.mono hext (fun _ _=>rfl) hu).app (RelTs.mono hext (fun _ _=>rfl) hc)
 have hbk:∀ id,pre.get 2 id≠.any->G.bk id<w.heap.size:=fun id hid=>(hmem.box id hid).2.1
 have hJ1:=hst.1 _ _ _ _ _ hJ (fun b hb=>attW_lt w (hH b hb)) hkv (attW_same w)
 have hmem1:Mem Y (fun _=>False) pre (attW w) G:=Mem.keep (preOK_obj hpre) p1 (fun id hid=>attW_lt w (hbk id hid)) hkv (attW_same w) hmem
 have hsz:=attW_size w
 have hused:∀ id,Env.get (over post pre) 2 id≠.any->pre.get 2 id≠.any:=fun id hid=>by
  rw [get_over] at hid
  split at hid
  ·rename_i hk
   have:=o2 id hk
   intro hh
   rw [hh] at this
   unfold kindOK at this
   split at this<;>first|(rename_i hx;cases hx;done)|cases this
  ·exact hid
 have htok:∀ k,Env.get (over post pre) 1 k=.any:=fun k=>by
  rw [get_over,o1 k,if_neg (by decide)];exact p1 k
 have hobj:∀ id,Env.get (over post pre) 2 id≠.any->isObj (Env.get (over post pre) 2 id)=true:=fun id hid=>by
  rw [get_over] at hid ⊢
  split
  ·rename_i hk
   have:=o2 id hk
   unfold kindOK at this
   split at this<;>first|(rename_i hx _;rw [hx];rfl)|(rename_i hx;rw [hx];rfl)|(cases this)
  ·rename_i hk
   rw [if_neg hk] at hid
   exact preOK_obj hpre id hid
 have hcall:=h.2 J G (attW w) (us++cvs) hst hgl hyl (fun b hb=>hfr b (by omega)) (fun b hb=>by have:=hH b hb;omega) hJ1 hmem1 hrel
 refine (attempt_calls g h.1 us cvs w _ hcall fun en w' ⟨h1,h2,h3,h4,h5⟩=>⟨?_,?_⟩).mono ?_
 ·rw [h3 _ (by omega) (fun hh=>by have:=hH _ hh;omega) (fun id hid hh=>by have:=hbk id hid;omega)];exact attW_one w
 ·obtain ⟨G',_,_,_,_,_,_,_,hr⟩:=h5
  cases ha with
  |ok=>
   obtain ⟨v,rfl,vs,rfl,hr⟩:=hr
   obtain rfl:vs=#[]:=by
    have:=hr.1
    exact Array.eq_empty_of_size_eq_zero (by simpa using this.symm)
   exact .inl rfl
  |row x=>exact .inr (.inl ⟨x,hr⟩)
  |text s=>exact .inr (.inr ⟨s,hr⟩)
 ·rintro en w2 ⟨en0,w',⟨h1,h2,h3,h4,h5⟩,hs,hh,rfl⟩
  have s1:=h1.size
  have s2:=hs.size
  obtain ⟨G',g1,g2,g3,g4,g5,g6,g7,hr⟩:=h5
  have hkeep2:∀ vis:Nat->Nat,(∀ b,w'.heap.size<=b->vis b=0)->vis w.heap.size=0->KeepV vis w' w2:=fun vis v1 v2=>by
   have hv:∀ b,0<vis b->w2.heap[b]?=w'.heap[b]?:=fun b hb=>hh b (by
    rcases Nat.lt_or_ge b w'.heap.size with h|h
    ·exact h
    ·rw [v1 b h] at hb;omega) (fun h=>by rw [h,v2] at hb;omega)
   exact ⟨fun b i hi=>World.cell?_of_block (hv b (by omega)),fun b hb es c he=>by rw [hv b hb];exact he⟩
  have hH':∀ b,G'.H b->w2.heap[b]?=w'.heap[b]?:=fun b hb=>by
   refine hh b (g5 b hb) (fun he=>?_)
   have:=hH b ((g4 b (by omega)).1 hb);omega
  have v1:G'.vis w.heap.size=0:=by rw [g2 _ (by omega)];exact hfr _ (by omega)
  refine ⟨((attW_same w).trans h1).trans hs,(hkv.trans h2).trans (hkeep2 G.vis (fun b hb=>hfr b (by omega)) (hfr _ (by omega))),fun b hb hn hno=>?_,fun id k hl hk=>?_,G',g1,fun b hb=>g2 b (by omega),fun b hb=>g3 b (by omega),
   fun b hb=>g4 b (by omega),fun b hb=>by have:=g5 b hb;omega,hst.1 _ _ _ _ _ g6 hH' (hkeep2 G'.vis g3 v1) hs,Mem.keep hobj htok (fun id hid=>?_) (hkeep2 G'.vis g3 v1) hs g7,?_⟩
  ·rw [hh b (by omega) (by omega),h3 b (by omega) hn hno,attW_lt w hb]
  ·have hid:pre.get 2 id≠.any:=by rw [hl];exact live_ne
   have hlt:=hbk id hid
   rw [World.cell?_of_block (show w2.heap[G.bk id]?=w'.heap[G.bk id]? from hh _ (by omega) (by omega)),h4 id k hl hk,World.cell?_of_block (show (attW w).heap[G.bk id]?=w.heap[G.bk id]? from attW_lt w hlt)]
  ·have hlt:=hbk id (hused id hid)
   rw [g1]
   exact hh _ (by omega) (by omega)
  ·cases ha with
   |ok=>
    obtain ⟨v,rfl,_⟩:=hr
    exact ⟨_,rfl,att_ret 0⟩
   |row x=>
    have hr:en0=_:=hr
    subst hr
    exact ⟨_,rfl,att_ret 7⟩
   |text s=>
    have hr:en0=_:=hr
    subst hr
    exact ⟨_,rfl,att_ret 4⟩
end Go.Vc.Zn.Co
namespace Go.Vc.Zn
open Go Go.Proofs Go.Vc Go.RowKit
theorem win_len (s:Col):(winL s).length=s.vals.length - s.order:=difs_len s.vals s.order
def mDom (d:List Int->Bool) (i:Nat):Nat->List Int->Bool
 |0=>d
 |j+1=>updD (mDom d i j) [(i:Int),(i:Int)+(j:Int)]
def metD (s:Col):Nat->List Int->Bool
 |0=>fun _=>false
 |i+1=>bif jumpS s i then mDom (metD s i) i (s.order+1) else metD s i
def noV:List Int->List C:=fun _=>[]
def zSh:List C:=[.v (.slice none 0 0),Ci 0,Ci 0,Ci 0,.v (.slice none 0 0),.v (.map none)]
theorem jumps199 {Gl} (S:SP Gl) (s:Col) (i:Nat) (hi:i<(winL s).length):CO Gl 199 [.d (.agg (cSh s .u)),I i] (.ret (B (jumpS s i))):=by
 refine fn_is S (.r (.ret (B (inR (nth (winL s) i) s.3 s.4))) .nil) Tryz.func199 (by kernel_rfl) ((0<=(i:Int)/\(i:Int)<(List.length (winL s):Int))/\CO Gl 108 [I (nth (winL s) i),I s.3,I s.4] (.ret (B (inR (nth (winL s) i) s.3 s.4)))/\(!inR (nth (winL s) i) s.3 s.4)=jumpS s i) (by kernel_rfl) ?_
 unfold jumpS
 exact ⟨by omega,in108 S _ _ _,rfl⟩
theorem sheetOf113 {Gl} (S:SP Gl) (s:Col) (h:okC s):CO Gl 113 [tCol s] (.ret (.d (.agg (cSh s .u)))):=by
 refine fn_iq S (let A0:=(List.length (winL s):Int);let A1:=(sR eI s.1);let A2:=(bx 1 (cCol s)++bx 2 zSh++bx 3 (cCol s++[C.l eI (winL s)]));((.val 14 true (.tt (.r (.ret (L eI (difs (Col.order s) (Col.vals s)))) (.loop (List.length (winL s)) (fun k=>v 24 (I k)::v 23 (I A0)::v 3 (ad 3)::v 2 (ad 2)::v 1 (ad 1)::((2:Nat),(7:Nat),T.mapc false (2:Nat) true (metD s k) noV)::((6:Nat),(5:Nat),T.mp (7:Nat))::A2) fun k0=>.br (.arrA (nat_lit 27) (.r (.ret (B (jumpS s k0))) (.br (.loop (Col.order s+1) (fun j=>v 33 (I j)::v 32 (I ((↑(Col.order s):Int)+1))::v 4 (I k0)::v 24 (I k0)::v 23 (I A0)::v 3 (ad 3)::v 2 (ad 2)::v 1 (ad 1)::((2:Nat),(7:Nat),T.mapc false (2:Nat) true (mDom (metD s k0) k0 j) noV)::((6:Nat),(5:Nat),T.mp (7:Nat))::A2) fun k1=>.br .nil .nil) .nil))) (.arrA (nat_lit 46) .nil))))),(s.1.length<=maxLen->decide ((s.2:Int)<(s.1.length:Int))=true/\true=true/\CO Gl 198 [L eI (Col.vals s),I (↑(Col.order s):Int)] (.ret (L eI (difs (Col.order s) (Col.vals s))))/\(List.length (difs s.2 s.1)<=maxLen->(0=(↑(0:Nat):Int)/\(List.length (difs s.2 s.1):Int)=A0/\MEq (fun x=>false) (fun x=>vsC []) (metD s (0:Nat)) noV/\A1/\(s.2:Int)=(s.2:Int)/\s.3=s.3/\s.4=s.4/\Value.slice none 0 0=Value.slice none 0 0/\(0:Int)=0/\(0:Int)=0/\(0:Int)=0/\Value.slice none 0 0=Value.slice none 0 0/\Value.map none=Value.map none/\A1/\(s.2:Int)=(s.2:Int)/\s.3=s.3/\s.4=s.4/\sQ eI (difs s.2 s.1) (winL s))/\∀ (k0:Nat),k0<=List.length (winL s)->(decide ((k0:Int)<(List.length (winL s):Int))=true->CO Gl 199 [T.d (D.agg (cSh s C.u)),I k0] (.ret (B (jumpS s k0)))/\(jumpS s k0=true->iR ((s.2:Int)+1)/\(0=(↑(0:Nat):Int)/\(s.2:Int)+1=(s.2:Int)+1/\(k0:Int)=(k0:Int)/\(k0:Int)=(k0:Int)/\A0=A0/\MEq (metD s k0) noV (mDom (metD s k0) k0 (0:Nat)) noV/\A1/\(s.2:Int)=(s.2:Int)/\s.3=s.3/\s.4=s.4/\Value.slice none 0 0=Value.slice none 0 0/\(0:Int)=0/\(0:Int)=0/\(0:Int)=0/\Value.slice none 0 0=Value.slice none 0 0/\Value.map none=Value.map none/\A1/\(s.2:Int)=(s.2:Int)/\s.3=s.3/\s.4=s.4/\sR eI (winL s))/\∀ (k1:Nat),k1<=Col.order s+(1:Nat)->(decide ((k1:Int)<(s.2:Int)+1)=true->iR ((k0:Int)+(k1:Int))/\iR ((k1:Int)+1)/\k1<Col.order s+(1:Nat)/\(k1:Int)+1=(↑(k1+1):Int)/\(s.2:Int)+1=(s.2:Int)+1/\(k0:Int)=(k0:Int)/\(k0:Int)=(k0:Int)/\A0=A0/\MEq (updD (mDom (metD s k0) k0 k1) [(k0:Int),(k0:Int)+(k1:Int)]) (updV noV [(k0:Int),(k0:Int)+(k1:Int)] (List.map C.dem [])) (mDom (metD s k0) k0 (k1+1)) noV/\A1/\(s.2:Int)=(s.2:Int)/\s.3=s.3/\s.4=s.4/\Value.slice none 0 0=Value.slice none 0 0/\(0:Int)=0/\(0:Int)=0/\(0:Int)=0/\Value.slice none 0 0=Value.slice none 0 0/\Value.map none=Value.map none/\A1/\(s.2:Int)=(s.2:Int)/\s.3=s.3/\s.4=s.4/\sR eI (winL s))/\(decide ((k1:Int)<(s.2:Int)+1)=false->iR ((k0:Int)+1)/\k0<List.length (winL s)/\(k0:Int)+1=(↑(k0+1):Int)/\A0=A0/\MEq (mDom (metD s k0) k0 k1) noV (metD s (k0+1)) noV/\A1/\(s.2:Int)=(s.2:Int)/\s.3=s.3/\s.4=s.4/\Value.slice none 0 0=Value.slice none 0 0/\(0:Int)=0/\(0:Int)=0/\(0:Int)=0/\Value.slice none 0 0=Value.slice none 0 0/\Value.map none=Value.map none/\A1/\(s.2:Int)=(s.2:Int)/\s.3=s.3/\s.4=s.4/\sR eI (winL s)))/\(jumpS s k0=false->iR ((k0:Int)+1)/\k0<List.length (winL s)/\(k0:Int)+1=(↑(k0+1):Int)/\A0=A0/\MEq (metD s k0) noV (metD s (k0+1)) noV/\A1/\(s.2:Int)=(s.2:Int)/\s.3=s.3/\s.4=s.4/\Value.slice none 0 0=Value.slice none 0 0/\(0:Int)=0/\(0:Int)=0/\(0:Int)=0/\Value.slice none 0 0=Value.slice none 0 0/\Value.map none=Value.map none/\A1/\(s.2:Int)=(s.2:Int)/\s.3=s.3/\s.4=s.4/\sR eI (winL s)))/\(decide ((k0:Int)<(List.length (winL s):Int))=false->A1/\(s.2:Int)=(s.2:Int)/\s.3=s.3/\s.4=s.4/\sR eI (winL s)))))) Tryz.func113 (by kernel_rfl) (by kernel_rfl) ?_
 obtain ⟨c1,c2,c3,c4,c5⟩:=h.all
 have hw:=win_len s
 have hl:(difs s.order s.vals).length=(winL s).length:=rfl
 have hmd:∀ k j,mDom (metD s k) k (j+1)=updD (mDom (metD s k) k j) [(k:Int),(k:Int)+(j:Int)]:=fun _ _=>rfl
 have hme:∀ k,metD s (k+1)=bif jumpS s k then mDom (metD s k) k (s.order+1) else metD s k:=fun _=>rfl
 have hve:∀ (key k:List Int),updV noV key (List.map C.dem []) k=noV k:=fun key k=>by unfold updV;cases eqK k key<;>rfl
 simp only [stdS,imp_self,implies_true,and_true,maxLen_eq,rng_iff,decide_eq_true_eq,decide_eq_false_iff_not]
 refine fun hm=>⟨by omega,diffs198 S s.vals s.order c2 (by omega) (bnd_mono c4 (by omega)) (by omega),fun hm2=>⟨⟨congrArg Int.ofNat hl,fun k=>⟨rfl,fun hh=>(by cases hh)⟩,SEq_whole rfl⟩,fun k hk=>⟨fun hd=>⟨jumps199 S s k (by omega),fun hj=>⟨by omega,⟨fun x=>⟨rfl,fun _=>.inl rfl⟩,trivial⟩,fun j hj2=>⟨fun hd2=>?_,fun hd2=>?_⟩⟩,fun hj=>?_⟩,trivial⟩⟩⟩
 ·exact ⟨by omega,by omega,by omega,by omega,fun x=>⟨by rw [hmd],fun _=>.inl (hve _ x)⟩,trivial⟩
 ·have:j=s.order+1:=by omega
  subst this
  exact ⟨by omega,by omega,by omega,fun x=>⟨by rw [hme,hj];rfl,fun _=>.inl rfl⟩,trivial⟩
 ·exact ⟨by omega,by omega,by omega,fun x=>⟨by rw [hme,hj];rfl,fun _=>.inl rfl⟩,trivial⟩
theorem mustRun114 {Gl} (S:SP Gl) (s:Col) (h:runsB s=true):CO Gl 114 [.d (.agg (cSh s .u))] (.ret (.tup [])):=by
 refine fn_iq S (let A0:=(List.length (winL s):Int);((.loop (List.length (winL s)) (fun k=>v 6 (I k)::v 5 (I A0)::v 1 (ad 1)::bx 1 (cSh s C.u)) fun k0=>.br (.r (.ret (B (jumpS s k0))) (.br .nil .nil)) .nil),(List.length (winL s)<=maxLen->(0=(↑(0:Nat):Int)/\A0=A0/\(sR eI s.1)/\(s.2:Int)=(s.2:Int)/\s.3=s.3/\s.4=s.4/\sR eI (winL s))/\∀ (k0:Nat),k0<=List.length (winL s)->(decide ((k0:Int)<(List.length (winL s):Int))=true->CO Gl 199 [T.d (D.agg (cSh s C.u)),I k0] (.ret (B (jumpS s k0)))/\(jumpS s k0=true->False)/\(jumpS s k0=false->iR ((k0:Int)+1)/\k0<List.length (winL s)/\(k0:Int)+1=(↑(k0+1):Int)/\A0=A0/\(sR eI s.1)/\(s.2:Int)=(s.2:Int)/\s.3=s.3/\s.4=s.4/\sR eI (winL s)))/\(decide ((k0:Int)<(List.length (winL s):Int))=false->True)))) Tryz.func114 (by kernel_rfl) (by kernel_rfl) ?_
 have hr:=List.all_eq_true.1 h
 have hw:(winL s).length<=maxLen->True:=fun _=>trivial
 simp only [stdS,imp_self,implies_true,and_true,maxLen_eq,rng_iff,decide_eq_true_eq,decide_eq_false_iff_not]
 refine fun hm k hk=>⟨fun hd=>⟨jumps199 S s k (by omega),fun hj=>?_,fun hj=>⟨by omega,by omega,by omega,trivial⟩⟩,trivial⟩
 have:=hr _ (nth_mem (show k<(winL s).length by omega))
 unfold jumpS at hj
 rw [this] at hj
 cases hj
theorem mustRun114p {Gl} (S:SP Gl) (s:Col) (h:runsB s=false):CO Gl 114 [.d (.agg (cSh s .u))] (.pan (.iface 358 (.agg #[.int .i64 (upto (fun x=>inR x s.lo s.hi) (winL s):Nat)]))):=by
 refine fn_iq S (let A0:=(List.length (winL s):Int);let A1:=(fun x=>inR x (Col.lo s) (Col.hi s));((.loop (upto A1 (winL s)) (fun k=>v 6 (I k)::v 5 (I A0)::v 1 (ad 1)::bx 1 (cSh s C.u)) fun k0=>.br (.r (.ret (B (jumpS s k0))) (.br .nil .nil)) .nil),(List.length (winL s)<=maxLen->(0=(↑(0:Nat):Int)/\A0=A0/\(sR eI s.1)/\(s.2:Int)=(s.2:Int)/\s.3=s.3/\s.4=s.4/\sR eI (winL s))/\∀ (k0:Nat),k0<=upto A1 (winL s)->(decide ((k0:Int)<(List.length (winL s):Int))=true->CO Gl 199 [T.d (D.agg (cSh s C.u)),I k0] (.ret (B (jumpS s k0)))/\(jumpS s k0=true->Value.iface (358:Nat) (Value.agg (Array.mk [Value.int IntKind.i64 (k0:Int)]))=Value.iface (358:Nat) (Value.agg (Array.mk [Value.int IntKind.i64 (↑(upto (fun x=>inR x s.3 s.4) (winL s)):Int)])))/\(jumpS s k0=false->iR ((k0:Int)+1)/\k0<upto A1 (winL s)/\(k0:Int)+1=(↑(k0+1):Int)/\A0=A0/\(sR eI s.1)/\(s.2:Int)=(s.2:Int)/\s.3=s.3/\s.4=s.4/\sR eI (winL s)))/\(decide ((k0:Int)<(List.length (winL s):Int))=false->False)))) Tryz.func114 (by kernel_rfl) (by kernel_rfl) ?_
 dsimp only
 have hup:upto (fun x=>inR x s.lo s.hi) (winL s)<(winL s).length:=by
  rcases Nat.lt_or_ge (upto (fun x=>inR x s.lo s.hi) (winL s)) (winL s).length with h1|h1
  ·exact h1
  ·have:=upto_all h1
   unfold runsB at h
   rw [h] at this
   cases this
 simp only [stdS,imp_self,implies_true,and_true,maxLen_eq,rng_iff,decide_eq_true_eq,decide_eq_false_iff_not]
 refine fun hm k hk=>⟨fun hd=>⟨jumps199 S s k (by omega),fun hj=>?_,fun hj=>⟨by omega,upto_lt hk (by omega) (by unfold jumpS at hj;simpa using hj),by omega,trivial⟩⟩,fun hd=>by omega⟩
 have:k=upto (fun x=>inR x s.lo s.hi) (winL s):=by
  rcases Nat.lt_or_ge k (upto (fun x=>inR x s.lo s.hi) (winL s)) with h1|h1
  ·have:=upto_before h1
   unfold jumpS at hj
   rw [this] at hj
   cases hj
  ·omega
 rw [<-this]
theorem att112 {Gl} (S:SP Gl) (s:Col):CO Gl 112 [.fn 114 [.d (.agg (cSh s .u))] []] (.ret (I (bif runsB s then 0 else 7))):=by
 cases h:runsB s with
 |true=>exact Co.attempt74 S (g:=114) (fst:=[.d (.agg (cSh s .u))]) (caps:=[]) (mustRun114 S s h) .ok
 |false=>exact Co.attempt74 S (g:=114) (fst:=[.d (.agg (cSh s .u))]) (caps:=[]) (mustRun114p S s h) (.row _)
theorem runs43 {Gl} (S:SP Gl) (s:Col) (h:okC s):CO Gl 43 [tCol s] (.ret (B (runsB s))):=by
 refine fn_iq S (let A0:=(bif runsB s then (0:Int) else (7:Int));((.r (.ret (T.d (D.agg (cSh s C.u)))) (.r (.ret (I A0)) .nil)),(CO Gl 113 [tCol s] (.ret (T.d (D.agg (cSh s C.u))))/\CO Gl 112 [T.fn (114:FuncId) [T.d (D.agg (cSh s C.u))] []] (.ret (I A0))/\(A0==(0:Int))=runsB s))) Tryz.func43 (by kernel_rfl) (by kernel_rfl) ?_
 dsimp only
 refine ⟨sheetOf113 S s h,att112 S s,?_⟩
 cases runsB s<;>rfl
theorem with111 {Gl} (S:SP Gl) (s:Col) (r:Nat) (x:Int) (hr:r<s.vals.length) (hl:s.vals.length<=1000):CO Gl 111 [tCol s,I r,I x] (.ret (tCol (withV s r x))):=by
 refine fn_iq S (let A0:=(T.own (1:Nat) (List.length (Col.vals s)) fun i=>eI (nth (Col.vals s) i));((.r (.ret A0) .nil),(CO Gl 69 [L eI (Col.vals s)] (.ret A0)/\(0<=(r:Int)/\(r:Int)<(s.1.length:Int))/\r<s.1.length/\s.1.length=s.1.length/\(SEq s.1.length (updF (fun i=>eI (nth s.1 i)) r (List.map C.dem [C.v (Value.int IntKind.i64 x)])) (List.length (List.set s.1 r x)) fun i=>eI (nth (List.set s.1 r x) i))/\(s.2:Int)=(s.2:Int)/\s.3=s.3/\s.4=s.4))) Tryz.func111 (by kernel_rfl) (by kernel_rfl) ?_
 simp only [stdS,imp_self,implies_true,and_true]
 refine ⟨clone149 s.vals (by omega) hl,by omega,hr,.of ⟨(List.length_set).symm,fun i hi=>?_⟩,trivial⟩
 have h5:(updF (fun i=>eI (nth s.vals i)) r (List.map C.dem [C.v (Value.int .i64 x)])) i=eI (nth (s.vals.set r x) i):=by
  unfold updF
  by_cases hir:i=r
  ·subst hir
   rw [Nat.beq_refl,nth_set_self hi];rfl
  ·rw [show i.beq r=false by rw [Bool.eq_false_iff];intro h2;exact hir (Nat.eq_of_beq_eq_true h2),nth_set_other (fun h2=>hir h2.symm)];rfl
 exact h5
theorem between110 {Gl} (S:SP Gl) (s:Col) (r:Nat) (h:okC s) (hr:r<s.vals.length):CO Gl 110 [tCol s,I r] (.ret (.d (.agg [Ci (betwS s r).1,Ci (betwS s r).2]))):=by
 refine fn_iq S (let A0:=((s.1.length:Int)-(s.2:Int));let A1:=fun (k0:Nat)=>(T.d (D.agg [Ci (Col.lo s),Ci (Col.hi s),Ci (restS s k0 r),Ci (wgt (Col.order s) (r-k0))]));let A2:=fun (k0:Nat)=>(highQ s.3 s.4 (restS s k0 r) (wgt s.2 (r-k0)));let A3:=fun (k0:Nat)=>(lowQ s.3 s.4 (restS s k0 r) (wgt s.2 (r-k0)));let A4:=fun (k0:Nat)=>((k0:Int)+(s.2:Int));let A5:=fun (k0:Nat)=>[T.d (D.agg [Ci s.3,Ci s.4,Ci (restS s k0 r),Ci (wgt s.2 (r-k0))])];((.loop (List.length (Col.vals s)-Col.order s) (fun k=>v 17 (I k)::v 16 (I (max (0:Int) ((List.length (Col.vals s):Int)-(↑(Col.order s):Int))))::v 1 (I r)::v 2 (ad 2)::v 4 (ad 4)::v 5 (ad 5)::(bx 2 (cCol s)++bx 4 [Ci 0,Ci 0]++bx 5 [Ci (Prod.fst (betw s r k)),Ci (Prod.snd (betw s r k))])) fun k0=>.br (.r (.ret (B (inR (r:Int) (k0:Int) (A4 k0)))) (.br (.r (.ret (A1 k0)) (.r (.ret (I (A3 k0))) (.r (.ret (I (A2 k0))) .nil))) .nil)) .nil),(s.1.length<=maxLen->iR A0/\(0=(↑(0:Nat):Int)/\max (0:Int) A0=max (0:Int) A0/\(r:Int)=(r:Int)/\(sR eI s.1)/\(s.2:Int)=(s.2:Int)/\s.3=s.3/\s.4=s.4/\(0:Int)=0/\(0:Int)=0/\(-9999:Int)=(-9999:Int)/\(9999:Int)=9999)/\∀ (k0:Nat),k0<=List.length (Col.vals s)-Col.order s->(decide ((k0:Int)<max (0:Int) ((s.1.length:Int)-(s.2:Int)))=true->iR (A4 k0)/\CO Gl 108 [I r,I k0,I (A4 k0)] (.ret (B (inR (r:Int) (k0:Int) (A4 k0))))/\(inR (r:Int) (k0:Int) (A4 k0)=true->CO Gl 194 [tCol s,I k0,I r] (.ret (A1 k0))/\CO Gl 195 (A5 k0) (.ret (I (A3 k0)))/\CO Gl 196 (A5 k0) (.ret (I (A2 k0)))/\iR ((k0:Int)+1)/\k0<List.length (Col.vals s)-Col.order s/\(k0:Int)+1=(↑(k0+1):Int)/\max (0:Int) A0=max (0:Int) A0/\(r:Int)=(r:Int)/\(sR eI s.1)/\(s.2:Int)=(s.2:Int)/\s.3=s.3/\s.4=s.4/\(0:Int)=0/\(0:Int)=0/\max (betw s r k0).1 (A3 k0)=(betw s r (k0+1)).1/\min (betw s r k0).2 (A2 k0)=(betw s r (k0+1)).2)/\(inR (r:Int) (k0:Int) (A4 k0)=false->iR ((k0:Int)+1)/\k0<List.length (Col.vals s)-Col.order s/\(k0:Int)+1=(↑(k0+1):Int)/\max (0:Int) A0=max (0:Int) A0/\(r:Int)=(r:Int)/\(sR eI s.1)/\(s.2:Int)=(s.2:Int)/\s.3=s.3/\s.4=s.4/\(0:Int)=0/\(0:Int)=0/\(betw s r k0).1=(betw s r (k0+1)).1/\(betw s r k0).2=(betw s r (k0+1)).2))/\(decide ((k0:Int)<max (0:Int) ((s.1.length:Int)-(s.2:Int)))=false->(betw s r k0).1=(betwS s r).1/\(betw s r k0).2=(betwS s r).2)))) Tryz.func110 (by kernel_rfl) (by kernel_rfl) ?_
 obtain ⟨c1,c2,c3,c4,c5,c6,c7⟩:=h.all
 simp only [stdS,imp_self,implies_true,and_true,maxLen_eq,rng_iff,decide_eq_true_eq,decide_eq_false_iff_not]
 have hb:∀ k,betw s r (k+1)=bif inW s k r then (max (betw s r k).1 (lowQ s.lo s.hi (restS s k r) (wgt s.order (r - k))),min (betw s r k).2 (highQ s.lo s.hi (restS s k r) (wgt s.order (r - k)))) else betw s r k:=fun _=>rfl
 have hin:∀ k,inW s k r=inR (r:Int) (k:Int) ((k:Int)+(s.order:Int)):=fun k=>by
  unfold inW inR
  congr 1
  ·rw [Bool.eq_iff_iff,decide_eq_true_iff,Nat.ble_eq];omega
  ·rw [Bool.eq_iff_iff,decide_eq_true_iff,Nat.ble_eq];omega
 refine fun hm=>⟨by omega,fun k hk=>⟨fun hd=>⟨by omega,in108 S _ _ _,fun hi=>?_,fun hi=>?_⟩,fun hd=>?_⟩⟩
 ·have h1:=inR_iff.1 hi
  have hw:k+s.order<s.vals.length:=by omega
  have hr2:=rest_le h k r hw
  have hg:=wgt_le s.order (r - k) (by omega) (by omega)
  exact ⟨eqn194 S s k r h hw (by omega) (by omega),low195 S _ _ _ _ (by omega) (by omega) hr2 hg,high196 S _ _ _ _ (by omega) (by omega) hr2 hg,by omega,by omega,by omega,by rw [hb,hin,hi];rfl,by rw [hb,hin,hi];rfl⟩
 ·exact ⟨by omega,by omega,by omega,by rw [hb,hin,hi];rfl,by rw [hb,hin,hi];rfl⟩
 ·have:k=s.vals.length - s.order:=by omega
  subst this
  exact ⟨rfl,rfl⟩
structure Chg where
 row:Nat
 val:Int
 by':Int
instance:Inhabited Chg:=⟨⟨0,0,0⟩⟩
def eChg (x:Chg):List C:=[Ci x.row,Ci x.val,Ci x.by']
def chgOf (s:Col) (x:Fix):Chg:=⟨x.row,max x.lo (min x.hi (nth s.vals x.row)),max (max x.lo (min x.hi (nth s.vals x.row)) - nth s.vals x.row) (nth s.vals x.row - max x.lo (min x.hi (nth s.vals x.row)))⟩
def fixL (s:Col):List Fix:=fixTo s s.vals.length
def chgTo (s:Col) (k:Nat):List Chg:=((fixL s).take k).map (chgOf s)
theorem fix_len (s:Col):∀ k,(fixTo s k).length<=k
 |0=>Nat.le_refl _
 |k+1=>by
  have:=fix_len s k
  unfold fixTo
  cases decide ((betwS s k).1<=(betwS s k).2)&&runsB (withV s k (betwS s k).1)<;>simp<;>omega
theorem fix_row (s:Col):∀ k i,i<(fixTo s k).length->(nth (fixTo s k) i).row<k/\(nth (fixTo s k) i).lo=(betwS s (nth (fixTo s k) i).row).1/\(nth (fixTo s k) i).hi=(betwS s (nth (fixTo s k) i).row).2/\(nth (fixTo s k) i).lo<=(nth (fixTo s k) i).hi
 |0,i,h=>absurd h (by simp [fixTo])
 |k+1,i,h=>by
  unfold fixTo at h ⊢
  rcases Nat.lt_or_ge i (fixTo s k).length with h1|h1
  ·rw [nth_append_lt h1]
   have:=fix_row s k i h1
   exact ⟨by omega,this.2⟩
  ·rw [List.length_append] at h
   cases hb:decide ((betwS s k).1<=(betwS s k).2)&&runsB (withV s k (betwS s k).1) with
   |false=>rw [hb] at h;simp at h;omega
   |true=>
    rw [hb] at h
    have h0:i=(fixTo s k).length:=by simp at h;omega
    subst h0
    rw [nth_append_ge (Nat.le_refl _),Nat.sub_self]
    exact ⟨by show k<k+1;omega,rfl,rfl,of_decide_eq_true (Bool.and_eq_true _ _▸hb).1⟩
theorem betw_rng (s:Col) (r:Nat):∀ k,-9999<=(betw s r k).1/\(betw s r k).2<=9999
 |0=>⟨Int.le_refl _,Int.le_refl _⟩
 |k+1=>by
  have:=betw_rng s r k
  unfold betw
  cases inW s k r
  ·exact this
  ·simp only [cond_true];omega
theorem with_ok {s:Col} (h:okC s) {r:Nat} {x:Int} (hx:-9999<=x/\x<=9999):okC (withV s r x):=by
 have hl:(withV s r x).vals.length=s.vals.length:=List.length_set
 refine ⟨by rw [hl];exact h.b1,h.b2,h.b3,h.b4,?_,by rw [hl];exact h.b6⟩
 rw [List.all_eq_true]
 intro y hy
 rcases List.mem_or_eq_of_mem_set hy with h1|h1
 ·exact List.all_eq_true.1 h.b5 _ h1
 ·rw [h1];exact inR_iff.2 hx
theorem fixes42 {Gl} (S:SP Gl) (s:Col) (h:okC s):CO Gl 42 [tCol s] (.ret (L eFix (fixL s))):=by
 refine fn_iq S (let A0:=fun (k0:Nat)=>(eqB (decide ((betwS s k0).1<=(betwS s k0).2)) true=true->eqB (decide ((betwS s k0).1<=(betwS s k0).2)) true=true);let A1:=fun (k0:Nat)=>(withV s k0 (Prod.fst (betwS s k0)));let A2:=fun (k0:Nat)=>(bif decide ((betwS s k0).1<=(betwS s k0).2) then runsB (withV s k0 (betwS s k0).1) else false);let A3:=(s.1.length:Int);let A4:=fun (k0:Nat)=>(T.d (D.agg [Ci (Prod.fst (betwS s k0)),Ci (Prod.snd (betwS s k0))]));((.loop (List.length (Col.vals s)) (fun k=>v 9 (I k)::v 8 (I (List.length (Col.vals s):Int))::v 1 (ad 1)::tk 100 47::v 3 (Lt 100 eFix (fixTo s k))::bx 1 (cCol s)) fun k0=>.br (.r (.ret (A4 k0)) (.r (.ret (tCol (A1 k0))) (.r (.ret (B (runsB (A1 k0)))) (.br .nil .nil)))) .nil),(s.1.length<=maxLen->(0=(↑(0:Nat):Int)/\A3=A3/\(0:Nat)=(0:Nat)/\(sR eI s.1)/\(s.2:Int)=(s.2:Int)/\s.3=s.3/\s.4=s.4)/\∀ (k0:Nat),k0<=List.length (Col.vals s)->(decide ((k0:Int)<(s.1.length:Int))=true->CO Gl 110 [tCol s,I k0] (.ret (A4 k0))/\(A0 k0)/\(A0 k0)/\(A0 k0)/\(A0 k0)/\(eqB (decide ((betwS s k0).1<=(betwS s k0).2)) true=true->CO Gl 111 [tCol s,I k0,I (Prod.fst (betwS s k0))] (.ret (tCol (A1 k0))))/\(A0 k0)/\(eqB (decide ((betwS s k0).1<=(betwS s k0).2)) true=true->CO Gl 43 [tCol (A1 k0)] (.ret (B (runsB (A1 k0)))))/\(decide ((betwS s k0).1<=(betwS s k0).2)=true->eqB (decide ((betwS s k0).1<=(betwS s k0).2)) true=true)/\((A2 k0)=true->(List.length (fixTo s k0)+1)*24<=140737488355328/\List.length (fixTo s k0)+1<=140737488355328/\iR ((k0:Int)+1)/\k0<List.length (Col.vals s)/\(k0:Int)+1=(↑(k0+1):Int)/\A3=A3/\(SEq (List.length (fixTo s k0)+1) (catF (List.length (fixTo s k0)) (fun i=>eFix (nth (fixTo s k0) i)) fun i=>List.getD [List.map C.dem (List.map C.dem [C.v (Value.int IntKind.i64 (k0:Int)),C.v (Value.int IntKind.i64 (betwS s k0).1),C.v (Value.int IntKind.i64 (betwS s k0).2)])] i []) (List.length (fixTo s (k0+1))) fun i=>eFix (nth (fixTo s (k0+1)) i))/\(sR eI s.1)/\(s.2:Int)=(s.2:Int)/\s.3=s.3/\s.4=s.4)/\((A2 k0)=false->iR ((k0:Int)+1)/\k0<List.length (Col.vals s)/\(k0:Int)+1=(↑(k0+1):Int)/\A3=A3/\(sQ eFix (fixTo s k0) (fixTo s (k0+1)))/\(sR eI s.1)/\(s.2:Int)=(s.2:Int)/\s.3=s.3/\s.4=s.4))/\(decide ((k0:Int)<(s.1.length:Int))=false->sQ eFix (fixTo s k0) (fixL s))))) Tryz.func42 (by kernel_rfl) (by kernel_rfl) ?_
 obtain ⟨c1,c2,c3,c4,c5⟩:=h.all
 have hf:∀ k,fixTo s (k+1)=fixTo s k++bif decide ((betwS s k).1<=(betwS s k).2)&&runsB (withV s k (betwS s k).1) then [⟨k,(betwS s k).1,(betwS s k).2⟩] else []:=fun _=>rfl
 simp only [stdS,imp_self,implies_true,and_true,maxLen_eq,rng_iff]
 refine fun hm k hk=>⟨fun hd=>?_,fun hd=>?_⟩
 ·have hlt:k<s.vals.length:=by have:=of_decide_eq_true hd;omega
  have hl:=fix_len s k
  have hb:=betw_rng s k (s.vals.length - s.order)
  change -9999<=(betwS s k).1/\(betwS s k).2<=9999 at hb
  refine ⟨between110 S s k h hlt,fun _=>with111 S s k _ hlt (by omega),fun hle=>runs43 S _ (with_ok h (by have:=of_decide_eq_true hle;omega)),fun hc=>⟨by omega,by omega,by omega,hlt,by omega,SEq_push1 (f:=eFix) (by rw [hf,hc];rfl) rfl,trivial⟩,fun hc=>⟨by omega,hlt,by omega,SEq_whole (by rw [hf,hc];exact List.append_nil _),trivial⟩⟩
 ·have hke:k=s.vals.length:=by have:=of_decide_eq_false hd;omega
  subst hke
  exact SEq_whole rfl
theorem single11 {Gl} (S:SP Gl) (s:Col) (h:okC s):CO Gl 11 [tCol s] (.ret (.tup [.c (.l eFix (fixL s)),.c (Ci 0)])):=by
 refine fn_is S (.r (.ret (B true)) (.ff (.r (.ret (L eFix (fixL s))) .nil))) Tryz.func11 (by kernel_rfl) (CO Gl 41 [tCol s] (.ret (B true))/\false=false/\CO Gl 42 [tCol s] (.ret (L eFix (fixL s)))/\(sR eFix (fixL s))/\(0:Int)=0) (by kernel_rfl) ?_
 simp only [stdS,imp_self,implies_true,and_true]
 exact ⟨isSheet41 S s h,fixes42 S s h,trivial⟩
theorem best44 {Gl} (S:SP Gl) (x:Chg):CO Gl 44 [L eChg [x],.fn 45 [] []] (.ret (.tup [.agg (eChg x),.c (Cb true)])):=by
 refine fn_iq S (let A0:=(nth [x] (Int.toNat (0:Int)));((.un (3:Nat) (.tt (.skip (19:Nat) (.skip (20:Nat) (.skip (21:Nat) (.skip (22:Nat) (.tt (.ff .nil)))))))),((1:Nat)<=maxLen->true=true/\((0:Int)<=0/\0<(↑(1:Nat):Int))/\false=false/\false=false/\false=false/\false=false/\(true=false->false=true)/\true=true/\iR ((0:Int)+1)/\false=false/\((1:Nat)<=maxLen->(↑A0.1:Int)=(x.1:Int)/\A0.2=x.2/\A0.3=x.3/\true=true)))) Tryz.func44 (by kernel_rfl) (by kernel_rfl) ?_
 simp only [stdS,imp_self,implies_true,and_true,rng_iff]
 exact fun hm=>⟨by decide,fun h=>(by cases h),by decide,fun _=>⟨rfl,rfl,rfl,trivial⟩⟩
theorem bestK {Gl} (S:SP Gl) (s:Col) (x:Fix) (k:Nat) (h:chgTo s k=[chgOf s x]):CO Gl 44 [L eChg (chgTo s k),.fn 45 [] []] (.ret (.tup [.agg (eChg (chgOf s x)),.c (Cb true)])):=by
 rw [h]
 exact best44 S _
theorem least12 {Gl} (S:SP Gl) (s:Col) (x:Fix) (h:okC s) (hr:runsB s=false) (hf:fixL s=[x]):CO Gl 12 [tCol s] (.ret (.tup [.c (Ci (chgOf s x).row),.c (Ci (chgOf s x).val),.c (Ci 0)])):=by
 refine fn_iq S (let A0:=fun (k0:Nat)=>(nth (fixL s) k0);let A1:=(List.length (fixL s):Int);let A2:=fun (k0:Nat)=>(min (A0 k0).3 (nth s.1 (A0 k0).1));((.r (.ret (B true)) (.ff (.val 16 false (.r (.ret (B (runsB s))) (.ff (.r (.ret (L eFix (fixL s))) (.loop (List.length (fixL s)) (fun k=>v 20 (I k)::v 19 (I A1)::v 18 (L eFix (fixL s))::v 1 (ad 1)::tk 100 118::v 5 (Lt 100 eChg (chgTo s k))::bx 1 (cCol s)) fun k0=>.br .nil (.r (.ret (.tup [D.agg (eChg (chgOf s x)),D.c (Cb true)])) (.ff .nil))))))))),(CO Gl 41 [tCol s] (.ret (B true))/\false=false/\runsB s=false/\CO Gl 43 [tCol s] (.ret (B (runsB s)))/\false=false/\CO Gl 42 [tCol s] (.ret (L eFix (fixL s)))/\(List.length (fixL s)<=maxLen->(0=(↑(0:Nat):Int)/\A1=A1/\(sR eFix (fixL s))/\(0:Nat)=(0:Nat)/\(sR eI s.1)/\(s.2:Int)=(s.2:Int)/\s.3=s.3/\s.4=s.4)/\∀ (k0:Nat),k0<=List.length (fixL s)->(decide ((k0:Int)<(List.length (fixL s):Int))=true->(0<=(k0:Int)/\(k0:Int)<A1)/\(0<=(↑(A0 k0).1:Int)/\(↑(A0 k0).1:Int)<(s.1.length:Int))/\iR (max (A0 k0).2 (A2 k0)-nth s.1 (A0 k0).1)/\iR (nth s.1 (A0 k0).1-max (A0 k0).2 (A2 k0))/\(List.length (chgTo s k0)+1)*24<=140737488355328/\List.length (chgTo s k0)+1<=140737488355328/\iR ((k0:Int)+1)/\k0<List.length (fixL s)/\(k0:Int)+1=(↑(k0+1):Int)/\A1=A1/\(sR eFix (fixL s))/\(SEq (List.length (chgTo s k0)+1) (catF (List.length (chgTo s k0)) (fun i=>eChg (nth (chgTo s k0) i)) fun i=>List.getD [List.map C.dem (List.map C.dem [C.v (Value.int IntKind.i64 (↑(A0 k0).1:Int)),C.v (Value.int IntKind.i64 (max (A0 k0).2 (A2 k0))),C.v (Value.int IntKind.i64 (max (max (A0 k0).2 (A2 k0)-nth s.1 (A0 k0).1) (nth s.1 (A0 k0).1-max (A0 k0).2 (A2 k0))))])] i []) (List.length (chgTo s (k0+1))) fun i=>eChg (nth (chgTo s (k0+1)) i))/\(sR eI s.1)/\(s.2:Int)=(s.2:Int)/\s.3=s.3/\s.4=s.4)/\(decide ((k0:Int)<(List.length (fixL s):Int))=false->CO Gl 44 [L eChg (chgTo s k0),T.fn (45:FuncId) [] []] (.ret (.tup [D.agg (eChg (chgOf s x)),D.c (Cb true)]))/\false=false/\(x.1:Int)=(x.1:Int)/\max x.2 (min x.3 (nth s.1 x.1))=max x.2 (min x.3 (nth s.1 x.1))/\(0:Int)=0))))) Tryz.func12 (by kernel_rfl) (by kernel_rfl) ?_
 obtain ⟨c1,c2,c3,c4,c5⟩:=h.all
 have hl1:(fixL s).length=1:=by rw [hf];rfl
 simp only [stdS,imp_self,implies_true,and_true,maxLen_eq,rng_iff]
 refine ⟨isSheet41 S s h,hr,runs43 S s h,fixes42 S s h,fun hm k hk=>⟨fun hd=>?_,fun hd=>?_⟩⟩
 ·have hlt:k<(fixL s).length:=by have:=of_decide_eq_true hd;omega
  obtain ⟨f1,f2,f3,f6⟩:(nth (fixL s) k).row<s.vals.length/\(nth (fixL s) k).lo=(betwS s (nth (fixL s) k).row).1/\(nth (fixL s) k).hi=(betwS s (nth (fixL s) k).row).2/\(nth (fixL s) k).lo<=(nth (fixL s) k).hi:=fix_row s s.vals.length k hlt
  have f4:=betw_rng s (nth (fixL s) k).row (s.vals.length - s.order)
  change -9999<=(betwS s (nth (fixL s) k).row).1/\(betwS s (nth (fixL s) k).row).2<=9999 at f4
  rw [<-f2,<-f3] at f4
  have f5:=c4 _ f1
  have hlen:(chgTo s k).length=k:=by unfold chgTo;rw [List.length_map,List.length_take];omega
  refine ⟨by omega,by omega,by omega,by omega,by omega,by omega,by omega,hlt,by omega,SEq_push1 (f:=eChg) (x:=chgOf s (nth (fixL s) k)) ?_ rfl,trivial⟩
  unfold chgTo
  rw [take_succ hlt,List.map_append]
  rfl
 ·have hke:k=(fixL s).length:=by have:=of_decide_eq_false hd;omega
  have hk1:chgTo s k=[chgOf s x]:=by unfold chgTo;rw [hke,List.take_length,hf];rfl
  exact ⟨bestK S s x k hk1,trivial⟩
set_option maxRecDepth 100000
structure RS where
 unit:Int
 rule:Int
 errs:List Int
 rows:List Int
def cRS (s:RS):List C:=[Ci s.unit,Ci s.rule,.l eI s.errs,.l eI s.rows]
def tRS (s:RS):T:=.d (.agg (cRS s))
def cRT (s:RS) (g:Int):List C:=cRS s++[Ci g]
def exR:RS:=⟨10,3,[4,1,0],[13,26,44]⟩
def cRu (u:Int):T:=.d (.agg [Ci u])
def rulesT (u:Int):T:=.ag [.d (.c (.v .nilFunc)),.fn 295 [cRu u] [],.fn 296 [cRu u] [],.fn 297 [cRu u] [],.fn 298 [cRu u] []]
def fig (n:Int):Int:=flo (2*n+10) 20
def exL (r:Nat):Span:=⟨nth exR.rows r - 1,nth exR.rows r+1⟩
theorem in290 {Gl} (S:SP Gl) (x lo hi:Int):CO Gl 290 [I x,I lo,I hi] (.ret (B (inR x lo hi))):=by
 refine fn_is S (.nil) Tryz.func290 (by kernel_rfl) ((eqB (decide (lo<=x)) true=true->eqB (decide (lo<=x)) true=true)/\(eqB (decide (lo<=x)) true=true->eqB (decide (lo<=x)) true=true)/\(decide (lo<=x)=true->eqB (decide (lo<=x)) true=true)/\(bif decide (lo<=x) then decide (x<=hi) else false)=inR x lo hi) (by kernel_rfl) ?_
 simp only [stdS,imp_self,implies_true,and_true,inR]
theorem isRule349 {Gl} (S:SP Gl)  :CO Gl 349 [I 3] (.ret (B true)):=by
 refine fn_is S (.sure 6 (.sure 7 .nil)) Tryz.func349 (by kernel_rfl) (true=true/\true=true/\true=true) (by kernel_rfl) ?_
 exact ⟨rfl,rfl,rfl⟩
theorem bad350 {Gl} (S:SP Gl) (n:Int):CO Gl 350 [I n] (.ret (B (!inR n (-100000) 100000))):=by
 refine fn_is S (.r (.ret (B (inR n (-100000:Int) (100000:Int)))) .nil) Tryz.func350 (by kernel_rfl) (CO Gl 290 [I n,I (-100000:Int),I 100000] (.ret (B (inR n (-100000:Int) (100000:Int))))/\(!inR n (-100000:Int) (100000:Int))=!inR n (-100000:Int) (100000:Int)) (by kernel_rfl) ?_
 simp only [stdS,imp_self,implies_true,and_true]
 exact ⟨in290 S n _ _,trivial⟩
theorem sheetA33 {Gl} (S:SP Gl)  :CO Gl 33 [] (.ret (tRS exR)):=by
 refine fn_is S (.nil) Tryz.func33 (by kernel_rfl) ((10:Int)=10/\(3:Int)=3/\(SEq (3:Nat) (fun i=>List.getD [List.map C.dem [C.v (Value.int IntKind.i64 (4:Int))],List.map C.dem [C.v (Value.int IntKind.i64 (1:Int))],List.map C.dem [C.v (Value.int IntKind.i64 (0:Int))]] i []) (List.length [(4:Int),(1:Int),(0:Int)]) fun i=>eI (nth [(4:Int),(1:Int),(0:Int)] i))/\SEq (3:Nat) (fun i=>List.getD [List.map C.dem [C.v (Value.int IntKind.i64 (13:Int))],List.map C.dem [C.v (Value.int IntKind.i64 (26:Int))],List.map C.dem [C.v (Value.int IntKind.i64 (44:Int))]] i []) (List.length [(13:Int),(26:Int),(44:Int)]) fun i=>eI (nth [(13:Int),(26:Int),(44:Int)] i)) (by kernel_rfl) ?_
 refine ⟨rfl,rfl,.of ⟨rfl,fun i hi=>?_⟩,.of ⟨rfl,fun i hi=>?_⟩⟩<;>(match i,hi with|0,_=>rfl|1,_=>rfl|2,_=>rfl)
theorem isSheet289 {Gl} (S:SP Gl)  :CO Gl 289 [tRS exR] (.ret (B true)):=by
 refine fn_iq S (let A0:=(nth [(4:Int),(1:Int),(0:Int)] (Int.toNat ((0:Int)+1)));let A1:=(nth [(4:Int),(1:Int),(0:Int)] (Int.toNat (0:Int)));let A2:=(nth [(4:Int),(1:Int),(0:Int)] (Int.toNat ((0:Int)+1+(1:Int))));let A3:=(B (inR (↑(3:Nat):Int) (1:Int) (5:Int)));let A4:=(B !List.all (RS.rows exR) fun x=>!!inR x (-100000:Int) (100000:Int));let A5:=(↑(3:Nat):Int);((.r (.ret (B (inR (10:Int) (1:Int) (1000:Int)))) (.sure 11 (.sure 12 (.sure 13 (.r (.ret (B true)) (.sure 14 (.sure 17 (.sure 18 (.sure 19 (.sure 20 (.r (.ret A3) (.sure 21 (.sure 24 (.sure 25 (.sure 26 (.sure 27 (.r (.ret A3) (.sure 28 (.ff (.un (4:Nat) (.tt (.r (.ret (B (inR A1 (0:Int) (8:Int)))) (.ff (.tt (.r (.ret (B (inR A0 (0:Int) A1))) (.ff (.tt (.r (.ret (B (inR A2 (0:Int) A0))) (.ff (.ff (.r (.ret A4) .nil))))))))))))))))))))))))))))))),(CO Gl 290 [I 10,I 1,I 1000] (.ret (B (inR (10:Int) (1:Int) (1000:Int))))/\true=true/\true=true/\true=true/\CO Gl 349 [I 3] (.ret (B true))/\true=true/\true=true/\true=true/\true=true/\((3:Nat)<=maxLen->true=true/\CO Gl 290 [I A5,I 1,I 5] (.ret A3)/\true=true/\true=true/\true=true/\true=true/\((3:Nat)<=maxLen->true=true/\CO Gl 290 [I A5,I 1,I 5] (.ret A3)/\true=true/\false=false/\((3:Nat)<=maxLen->true=true/\((0:Int)<=0/\0<A5)/\CO Gl 290 [I A1,I 0,I 8] (.ret (B (inR A1 (0:Int) (8:Int))))/\false=false/\iR ((0:Int)+1)/\true=true/\((0:Int)<=0+(1:Int)/\(0:Int)+1<A5)/\CO Gl 290 [I A0,I 0,I A1] (.ret (B (inR A0 (0:Int) A1)))/\false=false/\iR ((0:Int)+1+(1:Int))/\true=true/\((0:Int)<=0+(1:Int)+1/\(0:Int)+1+1<A5)/\CO Gl 290 [I A2,I 0,I A0] (.ret (B (inR A2 (0:Int) A0)))/\false=false/\iR ((0:Int)+1+(1:Int)+1)/\false=false/\CO Gl 102 [L eI (RS.rows exR),T.fn (350:FuncId) [] []] (.ret A4)/\true=true)))))) Tryz.func289 (by kernel_rfl) (by kernel_rfl) ?_
 have h:=has104 S exR.rows 350 (fun n=>!inR n (-100000) 100000) (fun i _=>bad350 S _)
 have hx:(exR.rows.all fun x=>!!inR x (-100000) 100000)=true:=by decide
 simp only [stdS,imp_self,implies_true,and_true,rng_iff,maxLen_eq]
 repeat' first|exact in290 S _ _ _|exact isRule349 S|exact h|decide|(intro _;decide)|with_reducible apply And.intro|with_reducible intro _
theorem open183 {Gl} (S:SP Gl)  :CO Gl 183 [tRS exR,I 1] (.ret (.tup [.agg (cRT exR 1),.c (Ci 0)])):=by
 refine fn_iq S (let A0:=((↑(3:Nat):Int)-1);((.r (.ret (B true)) (.sure 10 (.sure 11 (.sure 12 (.sure 13 (.sure 14 (.sure 15 (.r (.ret (B (inR (1:Int) (0:Int) A0))) (.sure 16 (.ff .nil)))))))))),(CO Gl 289 [tRS exR] (.ret (B true))/\true=true/\true=true/\true=true/\true=true/\((3:Nat)<=maxLen->true=true/\iR A0/\true=true/\CO Gl 290 [I 1,I 0,I A0] (.ret (B (inR (1:Int) (0:Int) A0)))/\true=true/\false=false/\(10:Int)=10/\(3:Int)=3/\(SEq (3:Nat) (fun i=>eI (nth [(4:Int),(1:Int),(0:Int)] i)) (List.length [(4:Int),(1:Int),(0:Int)]) fun i=>eI (nth [(4:Int),(1:Int),(0:Int)] i))/\(SEq (3:Nat) (fun i=>eI (nth [(13:Int),(26:Int),(44:Int)] i)) (List.length [(13:Int),(26:Int),(44:Int)]) fun i=>eI (nth [(13:Int),(26:Int),(44:Int)] i))/\(1:Int)=1/\(0:Int)=0)))) Tryz.func183 (by kernel_rfl) (by kernel_rfl) ?_
 simp only [stdS,imp_self,implies_true,and_true,rng_iff,maxLen_eq]
 exact ⟨isSheet289 S,fun _=>⟨by decide,in290 S _ _ _,.of ⟨rfl,fun _ _=>rfl⟩,.of ⟨rfl,fun _ _=>rfl⟩,trivial⟩⟩
theorem down295 {Gl} (S:SP Gl) (u n:Int) (hu:1<=u/\u<=1000) (hn:-1000000<=n/\n<=1000000):CO Gl 295 [cRu u,I n] (.ret (I (flo n u))):=by
 refine fn_is S (.br .nil .nil) Tryz.func295 (by kernel_rfl) ((u≠(0:Int)/\iR (Int.tdiv n u))/\iR (Int.tdiv n u*u)/\(decide (n<Int.tdiv n u*u)=true->iR (Int.tdiv n u-(1:Int))/\Int.tdiv n u-(1:Int)=flo n u)/\(decide (n<Int.tdiv n u*u)=false->Int.tdiv n u=flo n u)) (by kernel_rfl) ?_
 have h1:=Int.natAbs_tdiv_le_natAbs n u
 have h2:=Int.tmod_add_tdiv_mul n u
 have h3:=Int.natAbs_tmod n u
 have h4:n.natAbs % u.natAbs<=n.natAbs:=Nat.mod_le _ _
 unfold flo
 simp only [rng_iff]
 exact ⟨by omega,by omega,fun h=>⟨by omega,by rw [h];rfl⟩,fun h=>by rw [h];rfl⟩
theorem near297 {Gl} (S:SP Gl) (u n:Int) (hu:1<=u/\u<=100) (hn:-100000<=n/\n<=100000):CO Gl 297 [cRu u,I n] (.ret (I (flo (2*n+u) (2*u)))):=by
 refine fn_is S (.r (.ret (I (flo ((2:Int)*n+u) ((2:Int)*u)))) .nil) Tryz.func297 (by kernel_rfl) (iR ((2:Int)*u)/\iR ((2:Int)*n)/\iR ((2:Int)*n+u)/\CO Gl 295 [cRu ((2:Int)*u),I ((2:Int)*n+u)] (.ret (I (flo ((2:Int)*n+u) ((2:Int)*u))))/\flo ((2:Int)*n+u) ((2:Int)*u)=flo ((2:Int)*n+u) ((2:Int)*u)) (by kernel_rfl) ?_
 simp only [rng_iff]
 exact ⟨by omega,by omega,by omega,down295 S _ _ (by omega) (by omega),trivial⟩
theorem rules186 {Gl} (S:SP Gl) (u:Int):CO Gl 186 [cRu u] (.ret (rulesT u)):=by
 refine fn_is S (.nil) Tryz.func186 (by kernel_rfl) (Value.nilFunc=Value.nilFunc/\(295:Nat)=(295:Nat)/\u=u/\(296:Nat)=(296:Nat)/\u=u/\(297:Nat)=(297:Nat)/\u=u/\(298:Nat)=(298:Nat)/\u=u) (by kernel_rfl) ?_
 exact ⟨rfl,rfl,rfl,rfl,rfl,rfl,rfl,rfl,rfl⟩
theorem figure96 {Gl} (S:SP Gl) (n:Int) (hn:-100000<=n/\n<=100000):CO Gl 96 [.d (.agg (cRT exR 1)),I n] (.ret (I (fig n))):=by
 refine fn_iq S (let A0:=(I (flo ((2:Int)*n+(10:Int)) ((2:Int)*(10:Int))));((.r (.ret (rulesT (10:Int))) (.r (.ret A0) .nil)),(CO Gl 186 [cRu (10:Int)] (.ret (rulesT (10:Int)))/\((0:Int)<=3/\3<(↑(5:Nat):Int))/\CO Gl 297 [cRu (10:Int),I n] (.ret A0)/\flo ((2:Int)*n+(10:Int)) ((2:Int)*(10:Int))=fig n))) Tryz.func96 (by kernel_rfl) (by kernel_rfl) ?_
 dsimp only
 exact ⟨rules186 S 10,by decide,near297 S 10 n (by omega) hn,rfl⟩
theorem bounds352 {Gl} (S:SP Gl) (r:Nat) (hr:r<3):CO Gl 352 [.d (.agg (cRT exR 1)),I r] (.ret (.d (.agg (eSpan (exL r))))):=by
 refine fn_iq S (let A0:=(Int.toNat (1:Int));((.nil),(((0:Int)<=1/\1<(↑(3:Nat):Int))/\(0<=(r:Int)/\(r:Int)<(↑(3:Nat):Int))/\iR (nth [(13:Int),(26:Int),(44:Int)] r-nth [(4:Int),(1:Int),(0:Int)] A0)/\(0<=(r:Int)/\(r:Int)<(↑(3:Nat):Int))/\iR (nth [(13:Int),(26:Int),(44:Int)] r+nth [(4:Int),(1:Int),(0:Int)] A0)/\nth [(13:Int),(26:Int),(44:Int)] r-nth [(4:Int),(1:Int),(0:Int)] A0=nth [(13:Int),(26:Int),(44:Int)] r-(1:Int)/\nth [(13:Int),(26:Int),(44:Int)] r+nth [(4:Int),(1:Int),(0:Int)] A0=nth [(13:Int),(26:Int),(44:Int)] r+(1:Int)))) Tryz.func352 (by kernel_rfl) (by kernel_rfl) ?_
 simp only [rng_iff]
 match r,hr with
 |0,_=>decide
 |1,_=>decide
 |2,_=>decide
theorem exact291 {Gl} (S:SP Gl) (r:Int):CO Gl 291 [.d (.agg (cRT exR 1)),I r] (.ret (.fn 351 [] [.d (.c (.p (cRT exR 1))),.d (.c (.p [Ci r]))])):=by
 refine fn_ptr2 S (t:=4) (id:=2) (id2:=3) .nil Tryz.func291 (by kernel_rfl) Tryz.results291 (by decide) (by decide) (by decide) (by decide) (T.fn 351 [] [.addr 2 0,.addr 3 0]=T.fn 351 [] [.addr 2 0,.addr 3 0]/\live=live/\live=live/\boxIs (putCells 2 0 (cRT exR 1)) 2 0 (cRT exR 1)/\boxIs (putCells 3 0 [Ci r]) 3 0 [Ci r]) (by kernel_rfl) ?_
 exact ⟨rfl,rfl,rfl,⟨rfl,rfl,rfl,rfl,rfl,trivial⟩,⟨rfl,trivial⟩⟩
def elk (k p:Nat):Int:=nth exR.rows k - 1+(p:Int)
def nxD (D:Int->Bool) (k:Nat):Nat->Int->Bool
 |0,_=>false
 |p+1,x=>nxD D k p x||D (x - elk k p)
def cmb (b:Bool) (y z:Span):Span:=bif b then ⟨min y.lo z.lo,max y.hi z.hi⟩ else y
def shf (f:Int) (y:Span):Span:=⟨y.lo+f,y.hi+f⟩
def nxV (D:Int->Bool) (V:Int->Span) (k:Nat):Nat->Int->Span
 |0,_=>⟨0,0⟩
 |p+1,x=>bif D (x - elk k p) then cmb (nxD D k p x) (shf (fig (elk k p)) (V (x - elk k p))) (nxV D V k p x) else nxV D V k p x
def sDk:Nat->Int->Bool
 |0,x=>x==0
 |k+1,x=>nxD (sDk k) k 3 x
def sVk:Nat->Int->Span
 |0,_=>⟨0,0⟩
 |k+1,x=>nxV (sDk k) (sVk k) k 3 x
def hasK (h:List (List Int)) (x:Int):Bool:=h.any fun y=>eqK y [x]
def hD (k p:Nat) (h:List (List Int)) (x:Int):Bool:=nxD (sDk k) k p x||hasK h (x - elk k p)
def hV (k p:Nat) (h:List (List Int)) (x:Int):Span:=bif hasK h (x - elk k p) then cmb (nxD (sDk k) k p x) (shf (fig (elk k p)) (sVk k (x - elk k p))) (nxV (sDk k) (sVk k) k p x) else nxV (sDk k) (sVk k) k p x
def kD (D:Int->Bool):List Int->Bool
 | [x]=>D x
 |_=>false
def mS (k:Nat):C:=.m 0 true (kD (sDk k)) fun key=>eSpan (sVk k (nth key 0))
def allK:List (List Int):=(List.range 300).map fun (i:Nat)=>[(i:Int)]
def sumE (k:Nat) (o:Nat):Env:=v (o+2) (ad 2)::v (o+5) (ad 5)::v (o+6) (I k)::v (o+7) (ad 7)::[]
def sumB (k:Nat) (d:List Int->Bool) (vl:List Int->List C):Env:=(2,27,.mapc false 0 true d vl)::(bx 2 (cRT exR 1)++bx 5 [mS k]++[(2,7,live),(10,0,.mp 27)])
theorem kD_iff {D:Int->Bool} {key:List Int}:kD D key=true↔∃ x,key=[x]/\D x=true:=by
 unfold kD
 split
 ·rename_i x
  exact ⟨fun h=>⟨x,rfl,h⟩,fun ⟨y,hy,h⟩=>by cases hy;exact h⟩
 ·rename_i hne
  exact ⟨fun h=>(by cases h),fun ⟨x,hx,_⟩=>(hne x hx).elim⟩
theorem meq_of {D D':Int->Bool} {V V':Int->Span} (h:∀ x,D x=D' x/\(D x=true->V x=V' x)):MEq (kD D) (fun key=>eSpan (V (nth key 0))) (kD D') (fun key=>eSpan (V' (nth key 0))):=by
 intro key
 refine ⟨?_,fun hk=>?_⟩
 ·unfold kD
  split
  ·exact (h _).1
  ·rfl
 ·obtain ⟨x,rfl,hx⟩:=kD_iff.1 hk
  exact .inl (congrArg eSpan ((h x).2 hx))
theorem eqK1 (x a:Int):eqK [x] [a]=(x==a):=by
 show (x==a&&true)=_
 rw [Bool.and_true]
theorem meq_upd {D D':Int->Bool} {V V':Int->Span} {a:Int} {y:Span} {cs:List C} (hc:cs=eSpan y) (h1:∀ x,D' x=(x==a||D x)) (h2:V' a=y) (h3:∀ x,x≠a->D x=true->V' x=V x):
  MEq (updD (kD D) [a]) (updV (fun key=>eSpan (V (nth key 0))) [a] cs) (kD D') (fun key=>eSpan (V' (nth key 0))):=by
 subst hc
 intro key
 have hu:updD (kD D) [a] key=kD D' key:=by
  unfold updD kD
  split
  ·rename_i x
   rw [eqK1,h1]
  ·rename_i hne
   have:eqK key [a]=false:=by
    match key,hne with
    | [],_=>rfl
    | [x],hne=>exact (hne x rfl).elim
    |x::z::r,_=>show (x==a&&eqL (z::r) [])=false;unfold eqL;exact Bool.and_false _
   rw [this];rfl
 refine ⟨hu,fun hk=>?_⟩
 rw [hu] at hk
 obtain ⟨x,rfl,hx⟩:=kD_iff.1 hk
 refine .inl ?_
 show (bif eqK [x] [a] then eSpan y else eSpan (V x))=eSpan (V' x)
 rw [eqK1]
 by_cases hxa:x=a
 ·subst hxa
  rw [beq_self_eq_true,cond_true,h2]
 ·have hb:(x==a)=false:=beq_eq_false_iff_ne.2 hxa
  rw [hb,cond_false]
  rw [h1,hb,Bool.false_or] at hx
  rw [h3 x hxa hx]
theorem hasK_snoc (h:List (List Int)) (z x:Int):hasK (h++[[z]]) x=(hasK h x||z==x):=by
 unfold hasK
 rw [List.any_append,List.any_cons,List.any_nil,Bool.or_false,eqK1]
theorem eqL_iff:∀ {a b:List Int},eqL a b=true↔a=b
 | [],[]=>by simp [eqL]
 | [],_::_=>by simp [eqL]
 |_::_,[]=>by simp [eqL]
 |x::a,y::b=>by
  unfold eqL
  rw [Bool.and_eq_true,beq_iff_eq,eqL_iff]
  simp
theorem hasK_iff {h:List (List Int)} {x:Int}:hasK h x=true↔[x]∈h:=by
 unfold hasK
 rw [List.any_eq_true]
 exact ⟨fun ⟨y,hy,he⟩=>by rw [<-eqL_iff.1 he];exact hy,fun hx=>⟨[x],hx,eqL_iff.2 rfl⟩⟩
theorem nxV_zero {D:Int->Bool} {V:Int->Span} {k:Nat} {x:Int}:∀ {p:Nat},nxD D k p x=false->nxV D V k p x=⟨0,0⟩
 |0,_=>rfl
 |p+1,h=>by
  unfold nxD at h
  rw [Bool.or_eq_false_iff] at h
  unfold nxV
  rw [h.2,cond_false,nxV_zero h.1]
theorem elk_rng {k p:Nat} (hk:k<3) (hp:p<3):(0<=elk k p/\elk k p<=60)/\0<=fig (elk k p)/\fig (elk k p)<=20:=by
 have:∀ k:Fin 3,∀ p:Fin 3,(0<=elk k.1 p.1/\elk k.1 p.1<=60)/\0<=fig (elk k.1 p.1)/\fig (elk k.1 p.1)<=20:=by decide
 exact this ⟨k,hk⟩ ⟨p,hp⟩
theorem nxD_rng {D:Int->Bool} {k:Nat} {B:Int} (hk:k<3) (h:∀ x,D x=true->0<=x/\x<=B) {x:Int}:∀ {p:Nat},p<=3->nxD D k p x=true->0<=x/\x<=B+60
 |0,_,hx=>by cases hx
 |p+1,hp,hx=>by
  unfold nxD at hx
  rw [Bool.or_eq_true] at hx
  rcases hx with hx|hx
  ·exact nxD_rng hk h (by omega) hx
  ·have h1:=h _ hx
   have h2:=(elk_rng hk (show p<3 by omega)).1
   omega
theorem sD_rng:∀ {k:Nat},k<=3->∀ {x:Int},sDk k x=true->0<=x/\x<=60*(k:Int)
 |0,_,x,h=>by
  have:x=0:=by simpa [sDk] using h
  omega
 |k+1,hk,x,h=>by
  have:=nxD_rng (B:=60*(k:Int)) (k:=k) (by omega) (fun x hx=>sD_rng (show k<=3 by omega) hx) (Nat.le_refl 3) h
  omega
def spB (M:Int) (y:Span):Prop:=(-M<=y.lo/\y.lo<=M)/\-M<=y.hi/\y.hi<=M
theorem nxV_rng {D:Int->Bool} {V:Int->Span} {k:Nat} {M:Int} (hk:k<3) (hM:0<=M) (h:∀ x,spB M (V x)) (x:Int):∀ {p:Nat},p<=3->spB (M+20) (nxV D V k p x)
 |0,_=>by refine ⟨⟨?_,?_⟩,?_,?_⟩<;>show _<=_<;>simp [nxV]<;>omega
 |p+1,hp=>by
  have ih:=nxV_rng (D:=D) hk hM h x (p:=p) (by omega)
  have h1:=h (x - elk k p)
  have h2:=(elk_rng hk (show p<3 by omega)).2
  unfold nxV
  cases D (x - elk k p) with
  |false=>exact ih
  |true=>
   rw [cond_true]
   unfold cmb shf
   unfold spB at ih h1 ⊢
   cases nxD D k p x<;>simp only [cond_true,cond_false]<;>omega
theorem sV_rng:∀ {k:Nat},k<=3->∀ x:Int,spB (20*(k:Int)) (sVk k x)
 |0,_,x=>⟨⟨Int.le_refl _,Int.le_refl _⟩,Int.le_refl _,Int.le_refl _⟩
 |k+1,hk,x=>by
  have:=nxV_rng (D:=sDk k) (V:=sVk k) (k:=k) (by omega) (by omega) (fun x=>sV_rng (show k<=3 by omega) x) x (Nat.le_refl 3)
  unfold sVk
  unfold spB at this ⊢
  omega
theorem meq_zero {v0:List Int->List C}:MEq (updD (fun _=>false) [(0:Int)]) (updV v0 [(0:Int)] (eSpan ⟨0,0⟩)) (kD (sDk 0)) (fun key=>eSpan (sVk 0 (nth key 0))):=by
 intro key
 have hu:updD (fun _=>false) [(0:Int)] key=kD (sDk 0) key:=by
  unfold updD
  rw [Bool.or_false]
  match key with
  | []=>rfl
  | [x]=>rw [eqK1];rfl
  |x::z::r=>show (x==0&&eqL (z::r) [])=false;unfold eqL;exact Bool.and_false _
 refine ⟨hu,fun hk=>.inl ?_⟩
 rw [hu] at hk
 obtain ⟨x,rfl,hx⟩:=kD_iff.1 hk
 have h0:x=0:=by simpa [sDk] using hx
 subst h0
 rfl
theorem meq_none {V:Int->Span} {v0:List Int->List C}:MEq (fun _=>false) v0 (kD fun _=>false) (fun key=>eSpan (V (nth key 0))):=by
 intro key
 refine ⟨?_,fun h=>(by cases h)⟩
 unfold kD
 split<;>rfl
theorem newK {D:Int->Bool} {h:List (List Int)} {key:List Int} (hn:NewKey (kD D) h key):∃ z,key=[z]/\D z=true/\hasK h z=false:=by
 obtain ⟨h1,h2,h3,h4⟩:=hn
 obtain ⟨z,rfl,hz⟩:=kD_iff.1 h3
 refine ⟨z,rfl,hz,?_⟩
 rw [Bool.eq_false_iff]
 exact fun hh=>h4 (hasK_iff.1 hh)
theorem enumK {D:Int->Bool} {h:List (List Int)} (he:Enum (kD D) h) (x:Int):hasK h x=D x:=by
 rw [Bool.eq_iff_iff,hasK_iff,he.2]
 rfl
theorem moreK_snoc {h:List (List Int)} {z:Int} (hnd:h.Nodup) (hs:∀ x,x∈h->x∈allK) (hz:hasK h z=false) (hr:0<=z/\z<300):MoreK allK h (h++[[z]]):=by
 refine ⟨by simp,?_,fun x hx=>?_⟩
 ·rw [List.nodup_append]
  refine ⟨hnd,by simp,fun a ha b hb=>?_⟩
  rw [List.mem_singleton] at hb
  subst hb
  intro hab
  subst hab
  rw [hasK_iff.2 ha] at hz
  cases hz
 ·rw [List.mem_append,List.mem_singleton] at hx
  rcases hx with hx|hx
  ·exact hs x hx
  ·subst hx
   unfold allK
   rw [List.mem_map]
   exact ⟨z.toNat,List.mem_range.2 (by omega),by rw [show ((z.toNat:Nat):Int)=z by omega]⟩
theorem exact351 {Gl} (S:SP Gl) (k l:Nat) (hk:k<3):Does Tryz.prog Y Gl (⟨l,3,3,fun p=>[I (elk k p)]⟩:Yd) 351 [.yl l,.d (.c (.p (cRT exR 1))),.d (.c (.p [Ci k]))] [(0,BIG,.tr 0)] (.ret (.tup [])) [(0,BIG,.tr 3)]:=by
 refine fn_is2 S (.r (.ret (T.d (D.agg (eSpan (exL k))))) (.loop (3:Nat) (fun p=>v 5 (I (elk k p))::v 4 (ad 4)::v 0 (T.yl l)::((0:Nat),BIG,T.tr p)::bx 4 (eSpan (exL k))) fun k0=>.br (.br .nil .nil) .nil)) Tryz.func351 (by kernel_rfl) (CO Gl 352 [T.d (D.agg (cRT exR (1:Int))),I k] (.ret (T.d (D.agg (eSpan (exL k)))))/\(nth [(13:Int),(26:Int),(44:Int)] k-(1:Int)=elk k (0:Nat)/\l=l/\(0:Nat)=(0:Nat)/\nth [(13:Int),(26:Int),(44:Int)] k-(1:Int)=nth [(13:Int),(26:Int),(44:Int)] k-(1:Int)/\nth [(13:Int),(26:Int),(44:Int)] k+(1:Int)=nth [(13:Int),(26:Int),(44:Int)] k+(1:Int))/\∀ (k0:Nat),k0<=(3:Nat)->(decide (elk k k0<=nth [(13:Int),(26:Int),(44:Int)] k+(1:Int))=true->l=l/\k0<(3:Nat)/\k0<=(3:Nat)/\elk k k0=elk k k0/\((!k0 != (3:Nat))=true->True/\k0+(1:Nat)=(3:Nat))/\((!k0 != (3:Nat))=false->iR (elk k k0+(1:Int))/\k0<(3:Nat)/\elk k k0+(1:Int)=elk k (k0+1)/\l=l/\k0+(1:Nat)=k0+(1:Nat)/\nth [(13:Int),(26:Int),(44:Int)] k-(1:Int)=nth [(13:Int),(26:Int),(44:Int)] k-(1:Int)/\nth [(13:Int),(26:Int),(44:Int)] k+(1:Int)=nth [(13:Int),(26:Int),(44:Int)] k+(1:Int)))/\(decide (elk k k0<=nth [(13:Int),(26:Int),(44:Int)] k+(1:Int))=false->True/\k0=(3:Nat))) (by kernel_rfl) ?_
 have he:∀ p,elk k (p+1)=elk k p+1:=fun p=>by unfold elk;omega
 have hh:nth [(13:Int),26,44] k+1=elk k 2:=by unfold elk;show _=nth [(13:Int),26,44] k - 1+2;omega
 have h0:nth [(13:Int),26,44] k - 1=elk k 0:=by unfold elk;show _=nth [(13:Int),26,44] k - 1+0;omega
 have hlt:∀ p:Nat,elk k p=elk k 0+p:=fun p=>by unfold elk;omega
 have hb:=(elk_rng hk (p:=0) (by omega)).1
 have h2:=hlt 2
 simp only [stdS,imp_self,implies_true,and_true,rng_iff,hh,h0]
 refine ⟨bounds352 S k hk,fun p hp=>⟨fun hd=>?_,fun hd=>?_⟩⟩
 ·have h1:=of_decide_eq_true hd
  have h3:=hlt p
  exact ⟨by omega,by omega,fun hn=>by simp at hn;omega,fun _=>⟨by omega,by omega,(he p).symm,trivial⟩⟩
 ·have h1:=of_decide_eq_false hd
  have h3:=hlt p
  omega
theorem sums184 {Gl} (S:SP Gl)  :CO Gl 184 [.d (.agg (cRT exR 1)),I 0] (.ret (.d (.c (mS 3)))):=by
 refine fn_iq S (let A0:=fun (k0:Nat)=>(fun key=>eSpan (sVk k0 (nth key 0)));let A1:=(sR eI [(13:Int),(26:Int),(44:Int)]);let A2:=(sR eI [(4:Int),(1:Int),(0:Int)]);let A3:=fun (k0:Nat)=>(MEq (kD (sDk k0)) (A0 k0) (kD (sDk k0)) fun key=>eSpan (sVk k0 (nth key 0)));let A4:=(Value.int IntKind.i64 (0:Int));let A5:=(fun x=>vsC [Value.int IntKind.i64 (0:Int),Value.int IntKind.i64 (0:Int)]);let A6:=fun (k0:Nat)=>(kD (sDk k0));let A7:=fun (k0:Nat)=>(T.fn (351:FuncId) [] [T.d (D.c (C.p (cRT exR (1:Int)))),T.d (D.c (C.p [Ci k0]))]);((.arrA (nat_lit 17) (.loop (3:Nat) (fun k=>v 6 (I k)::v 2 (ad 2)::v 5 (ad 5)::(bx 2 (cRT exR (1:Int))++bx 5 [mS k])) fun k0=>.br (.r (.ret (A7 k0)) (.rf (3:Nat) (3:Nat) (fun p=>[I (elk k0 p)]) (fun p=>sumE k0 (0:Nat)++sumB k0 (kD (nxD (sDk k0) k0 p)) fun key=>eSpan (nxV (sDk k0) (sVk k0) k0 p (nth key 0))) (fun k1=>.r (.ret (I (fig (elk k0 k1)))) (.lg allK (36:Nat) (fun h=>v 8 (I (elk k0 k1))::v 9 (I (fig (elk k0 k1)))::v 36 (T.it (36:Nat))::((2:Nat),(36:Nat),T.mitc (0:Nat) true (A6 k0) (A0 k0) h none)::(sumE k0 (0:Nat)++sumE k0 (100000:Nat)++sumB k0 (kD (hD k0 k1 h)) fun key=>eSpan (hV k0 k1 h (nth key 0)))) fun h2=>.each (fun key=>.tt (.br .nil .nil)) (.ff .nil))) (.arrA (nat_lit 76) .nil))) .nil)),((0=(↑(0:Nat):Int)/\(10:Int)=10/\(3:Int)=3/\(SEq (3:Nat) (fun i=>eI (nth [(4:Int),(1:Int),(0:Int)] i)) (List.length [(4:Int),(1:Int),(0:Int)]) fun i=>eI (nth [(4:Int),(1:Int),(0:Int)] i))/\(SEq (3:Nat) (fun i=>eI (nth [(13:Int),(26:Int),(44:Int)] i)) (List.length [(13:Int),(26:Int),(44:Int)]) fun i=>eI (nth [(13:Int),(26:Int),(44:Int)] i))/\(1:Int)=1/\MEq (updD (fun x=>false) [(0:Int)]) (updV A5 [(0:Int)] (List.map C.dem [C.v A4,C.v A4])) (kD (sDk (0:Nat))) fun key=>eSpan (sVk (0:Nat) (nth key 0)))/\∀ (k0:Nat),k0<=(3:Nat)->List.length [(13:Int),(26:Int),(44:Int)]<=maxLen->(decide ((k0:Int)<(↑(List.length [(13:Int),(26:Int),(44:Int)]):Int))=true->CO Gl 291 [T.d (D.agg (cRT exR (1:Int))),I k0] (.ret (A7 k0))/\Yd.m yd0=(0:Nat)/\ydOf (Does Tryz.prog Y Gl) (351:Nat) [] [T.d (D.c (C.p [C.v (Value.int IntKind.i64 (10:Int)),C.v (Value.int IntKind.i64 (3:Int)),C.l eI [(4:Int),(1:Int),(0:Int)],C.l eI [(13:Int),(26:Int),(44:Int)],C.v (Value.int IntKind.i64 (1:Int))])),T.d (D.c (C.p [C.v (Value.int IntKind.i64 (k0:Int))]))] (fun l=>Yd.mk l (3:Nat) (3:Nat) fun p=>[I (elk k0 p)]) (3:Nat) (3:Nat)/\((k0:Int)=(k0:Int)/\(MEq (fun x=>false) A5 (kD (nxD (sDk k0) k0 (0:Nat))) fun key=>eSpan (nxV (sDk k0) (sVk k0) k0 (0:Nat) (nth key 0)))/\(10:Int)=10/\(3:Int)=3/\A2/\A1/\(1:Int)=1/\MEq (A6 k0) (A0 k0) (A6 k0) fun key=>eSpan (sVk k0 (nth key 0)))/\(∀ (k1:Nat),k1<(3:Nat)->k1<=(3:Nat)->CO Gl 96 [T.d (D.agg (cRT exR (1:Int))),I (elk k0 k1)] (.ret (I (fig (elk k0 k1))))/\(elk k0 k1=elk k0 k1/\fig (elk k0 k1)=fig (elk k0 k1)/\(A3 k0)/\([]:List (List Int))=[]/\(k0:Int)=(k0:Int)/\(k0:Int)=(k0:Int)/\(MEq (kD (nxD (sDk k0) k0 k1)) (fun key=>eSpan (nxV (sDk k0) (sVk k0) k0 k1 (nth key 0))) (kD (hD k0 k1 [])) fun key=>eSpan (hV k0 k1 [] (nth key 0)))/\(10:Int)=10/\(3:Int)=3/\A2/\A1/\(1:Int)=1/\MEq (A6 k0) (A0 k0) (A6 k0) fun key=>eSpan (sVk k0 (nth key 0)))/\∀ (h2:List (List Int)),List.Nodup h2->(∀ (x:List Int),x∈h2->x∈allK)->(∀ (key:List Int),NewKey (A6 k0) h2 key->true=true/\iR ((sVk k0 (nth key 0)).1+fig (elk k0 k1))/\iR ((sVk k0 (nth key 0)).2+fig (elk k0 k1))/\iR (nth key 0+elk k0 k1)/\(kD (hD k0 k1 h2) [nth key 0+elk k0 k1]=false->[C.v (Value.int IntKind.i64 (hV k0 k1 h2 (nth [nth key 0+elk k0 k1] (0:Nat))).1),C.v (Value.int IntKind.i64 (hV k0 k1 h2 (nth [nth key 0+elk k0 k1] (0:Nat))).2)]=[C.v A4,C.v A4])/\(kD (hD k0 k1 h2) [nth key 0+elk k0 k1]=true->iR (nth key 0+elk k0 k1)/\MoreK allK h2 (h2++[key])/\elk k0 k1=elk k0 k1/\fig (elk k0 k1)=fig (elk k0 k1)/\(A3 k0)/\h2++[key]=h2++[key]/\(k0:Int)=(k0:Int)/\(k0:Int)=(k0:Int)/\(MEq (updD (kD (hD k0 k1 h2)) [nth key 0+elk k0 k1]) (updV (fun key=>eSpan (hV k0 k1 h2 (nth key 0))) [nth key 0+elk k0 k1] (List.map C.dem [C.v (Value.int IntKind.i64 (min ((sVk k0 (nth key 0)).1+fig (elk k0 k1)) (hV k0 k1 h2 (nth [nth key 0+elk k0 k1] (0:Nat))).1)),C.v (Value.int IntKind.i64 (max ((sVk k0 (nth key 0)).2+fig (elk k0 k1)) (hV k0 k1 h2 (nth [nth key 0+elk k0 k1] (0:Nat))).2))])) (kD (hD k0 k1 (h2++[key]))) fun key_1=>eSpan (hV k0 k1 (h2++[key]) (nth key_1 (0:Nat))))/\(10:Int)=10/\(3:Int)=3/\A2/\A1/\(1:Int)=1/\MEq (A6 k0) (A0 k0) (A6 k0) fun key=>eSpan (sVk k0 (nth key 0)))/\(kD (hD k0 k1 h2) [nth key 0+elk k0 k1]=false->iR (nth key 0+elk k0 k1)/\MoreK allK h2 (h2++[key])/\elk k0 k1=elk k0 k1/\fig (elk k0 k1)=fig (elk k0 k1)/\(A3 k0)/\h2++[key]=h2++[key]/\(k0:Int)=(k0:Int)/\(k0:Int)=(k0:Int)/\(MEq (updD (kD (hD k0 k1 h2)) [nth key 0+elk k0 k1]) (updV (fun key=>eSpan (hV k0 k1 h2 (nth key 0))) [nth key 0+elk k0 k1] (List.map C.dem [C.v (Value.int IntKind.i64 ((sVk k0 (nth key 0)).1+fig (elk k0 k1))),C.v (Value.int IntKind.i64 ((sVk k0 (nth key 0)).2+fig (elk k0 k1)))])) (kD (hD k0 k1 (h2++[key]))) fun key_1=>eSpan (hV k0 k1 (h2++[key]) (nth key_1 (0:Nat))))/\(10:Int)=10/\(3:Int)=3/\A2/\A1/\(1:Int)=1/\MEq (A6 k0) (A0 k0) (A6 k0) fun key=>eSpan (sVk k0 (nth key 0))))/\(Enum (A6 k0) h2->false=false/\k1<(3:Nat)/\(k0:Int)=(k0:Int)/\(MEq (kD (hD k0 k1 h2)) (fun key=>eSpan (hV k0 k1 h2 (nth key 0))) (kD (nxD (sDk k0) k0 (k1+1))) fun key=>eSpan (nxV (sDk k0) (sVk k0) k0 (k1+1) (nth key 0)))/\(10:Int)=10/\(3:Int)=3/\A2/\A1/\(1:Int)=1/\MEq (A6 k0) (A0 k0) (A6 k0) fun key=>eSpan (sVk k0 (nth key 0))))/\((3:Nat)<=(3:Nat)->iR ((k0:Int)+1)/\k0<(3:Nat)/\(k0:Int)+1=(↑(k0+1):Int)/\(10:Int)=10/\(3:Int)=3/\A2/\A1/\(1:Int)=1/\MEq (kD (nxD (sDk k0) k0 (3:Nat))) (fun key=>eSpan (nxV (sDk k0) (sVk k0) k0 (3:Nat) (nth key 0))) (kD (sDk (k0+1))) fun key=>eSpan (sVk (k0+1) (nth key 0))))/\(decide ((k0:Int)<(↑(List.length [(13:Int),(26:Int),(44:Int)]):Int))=false->MEq (A6 k0) (A0 k0) (kD (sDk (3:Nat))) fun key=>eSpan (sVk (3:Nat) (nth key 0)))))) Tryz.func184 (by kernel_rfl) (by kernel_rfl) ?_
 simp only [stdS,imp_self,implies_true,and_true,rng_iff,maxLen_eq]
 have hme:∀ j,MEq (kD (sDk j)) (fun key=>eSpan (sVk j (nth key 0))) (kD (sDk j)) (fun key=>eSpan (sVk j (nth key 0))):=fun j key=>⟨rfl,fun _=>.inl rfl⟩
 refine ⟨⟨.of ⟨rfl,fun _ _=>rfl⟩,.of ⟨rfl,fun _ _=>rfl⟩,meq_zero⟩,fun k hk hm=>⟨fun hd=>?_,fun hd=>?_⟩⟩
 ·have hlt:k<3:=by have h1:(k:Int)<3:=of_decide_eq_true hd;omega
  refine ⟨exact291 S k,fun l=>exact351 S k l hlt,⟨?_,hme k⟩,fun p hp hp2=>⟨figure96 S _ ?_,⟨hme k,?_,hme k⟩,fun h hnd hsub=>⟨fun key hnew=>?_,fun hen=>⟨hp,?_,hme k⟩⟩⟩,fun _=>⟨by omega,hlt,by omega,?_⟩⟩
  ·exact fun key=>⟨(meq_none (V:=nxV (sDk k) (sVk k) k 0) (v0:=fun _=>[]) key).1,fun h=>(by cases h)⟩
  ·have:=(elk_rng hlt hp).1
   omega
  ·exact meq_of fun x=>⟨by unfold hD hasK;simp,fun _=>by unfold hV hasK;simp⟩
  ·obtain ⟨z,rfl,hz,hnz⟩:=newK hnew
   have hz1:=sD_rng (by omega) hz
   have hv1:=sV_rng (show k<=3 by omega) z
   unfold spB at hv1
   have he:=elk_rng hlt hp
   have hm1:=moreK_snoc hnd hsub hnz (by omega)
   have e0:nth [z] 0=z:=rfl
   have e1:nth [z+elk k p] 0=z+elk k p:=rfl
   have e2:hV k p h (z+elk k p)=nxV (sDk k) (sVk k) k p (z+elk k p):=by unfold hV;rw [show z+elk k p - elk k p=z by omega,hnz];rfl
   have e3:kD (hD k p h) [z+elk k p]=nxD (sDk k) k p (z+elk k p):=by show hD k p h (z+elk k p)=_;unfold hD;rw [show z+elk k p - elk k p=z by omega,hnz,Bool.or_false]
   have e4:∀ x,hD k p (h++[[z]]) x=(x==z+elk k p||hD k p h x):=fun x=>by
    unfold hD
    rw [hasK_snoc]
    have:(z==x - elk k p)=(x==z+elk k p):=by rw [Bool.eq_iff_iff,beq_iff_eq,beq_iff_eq];omega
    rw [this]
    cases nxD (sDk k) k p x<;>cases hasK h (x - elk k p)<;>cases x==z+elk k p<;>rfl
   have e5:hV k p (h++[[z]]) (z+elk k p)=cmb (nxD (sDk k) k p (z+elk k p)) (shf (fig (elk k p)) (sVk k z)) (nxV (sDk k) (sVk k) k p (z+elk k p)):=by
    unfold hV
    rw [show z+elk k p - elk k p=z by omega,hasK_snoc,beq_self_eq_true,Bool.or_true];rfl
   have e6:∀ x,x≠z+elk k p->hD k p h x=true->hV k p (h++[[z]]) x=hV k p h x:=fun x hx _=>by
    unfold hV
    rw [hasK_snoc,show (z==x - elk k p)=false from beq_eq_false_iff_ne.2 (by omega),Bool.or_false]
   simp only [e0,e1,e2,e3]
   refine ⟨by omega,by omega,by omega,fun hf=>by rw [nxV_zero hf],fun ht=>⟨by omega,hm1,hme k,meq_upd (y:=hV k p (h++[[z]]) (z+elk k p)) ?_ e4 rfl e6,hme k⟩,fun hf=>⟨by omega,hm1,hme k,meq_upd (y:=hV k p (h++[[z]]) (z+elk k p)) ?_ e4 rfl e6,hme k⟩⟩
   ·rw [e5,ht];rfl
   ·rw [e5,hf];rfl
  ·exact meq_of fun x=>⟨by unfold hD;rw [enumK hen];rfl,fun _=>by unfold hV;rw [enumK hen];rfl⟩
  ·exact fun key=>⟨rfl,fun _=>.inl rfl⟩
 ·have:k=3:=by have h1:¬ (k:Int)<3:=of_decide_eq_false hd;omega
  subst this
  exact fun key=>⟨rfl,fun _=>.inl rfl⟩
theorem best_in {lt:Int->Int->Bool} (l:List Int):∀ k,k<l.length->∃ i,i<=k/\bestTo lt l k=nth l i
 |0,_=>⟨0,Nat.le_refl _,rfl⟩
 |k+1,h=>by
  obtain ⟨i,hi,he⟩:=best_in (lt:=lt) l k (by omega)
  have hs:bestTo lt l (k+1)=bif lt (nth l (k+1)) (bestTo lt l k) then nth l (k+1) else bestTo lt l k:=rfl
  rw [hs]
  cases lt (nth l (k+1)) (bestTo lt l k) with
  |true=>exact ⟨k+1,Nat.le_refl _,rfl⟩
  |false=>exact ⟨i,by omega,he⟩
theorem best_lt (l:List Int):∀ k,k<l.length->∀ i,i<=k->bestTo (fun x y:Int=>decide (x<y)) l k<=nth l i
 |0,_,i,hi=>by rw [show i=0 by omega];exact Int.le_refl _
 |k+1,h,i,hi=>by
  have ih:=best_lt l k (by omega)
  have hs:bestTo (fun x y:Int=>decide (x<y)) l (k+1)=bif decide (nth l (k+1)<bestTo (fun x y:Int=>decide (x<y)) l k) then nth l (k+1) else bestTo (fun x y:Int=>decide (x<y)) l k:=rfl
  rw [hs]
  by_cases hb:nth l (k+1)<bestTo (fun x y:Int=>decide (x<y)) l k
  ·rw [decide_eq_true hb,cond_true]
   rcases Nat.lt_or_ge k i with h1|h1
   ·rw [show i=k+1 by omega];exact Int.le_refl _
   ·have:=ih i h1;omega
  ·rw [decide_eq_false hb,cond_false]
   rcases Nat.lt_or_ge k i with h1|h1
   ·rw [show i=k+1 by omega];omega
   ·exact ih i h1
theorem best_gt (l:List Int):∀ k,k<l.length->∀ i,i<=k->nth l i<=bestTo (fun x y:Int=>decide (y<x)) l k
 |0,_,i,hi=>by rw [show i=0 by omega];exact Int.le_refl _
 |k+1,h,i,hi=>by
  have ih:=best_gt l k (by omega)
  have hs:bestTo (fun x y:Int=>decide (y<x)) l (k+1)=bif decide (bestTo (fun x y:Int=>decide (y<x)) l k<nth l (k+1)) then nth l (k+1) else bestTo (fun x y:Int=>decide (y<x)) l k:=rfl
  rw [hs]
  by_cases hb:bestTo (fun x y:Int=>decide (y<x)) l k<nth l (k+1)
  ·rw [decide_eq_true hb,cond_true]
   rcases Nat.lt_or_ge k i with h1|h1
   ·rw [show i=k+1 by omega];exact Int.le_refl _
   ·have:=ih i h1;omega
  ·rw [decide_eq_false hb,cond_false]
   rcases Nat.lt_or_ge k i with h1|h1
   ·rw [show i=k+1 by omega];omega
   ·exact ih i h1
theorem bestL_lt {l:List Int} {m:Int} (h0:0<l.length) (h1:m∈l) (h2:∀ x∈l,m<=x):bestL (fun x y:Int=>decide (x<y)) l=m:=by
 obtain ⟨i,hi,he⟩:=best_in (lt:=fun x y:Int=>decide (x<y)) l (l.length - 1) (by omega)
 have h3:=h2 _ (nth_mem (l:=l) (k:=i) (by omega))
 obtain ⟨j,hj,rfl⟩:=List.mem_iff_getElem.1 h1
 have h4:=best_lt l (l.length - 1) (by omega) j (by omega)
 rw [nth_eq hj] at h4
 unfold bestL
 omega
theorem bestL_gt {l:List Int} {m:Int} (h0:0<l.length) (h1:m∈l) (h2:∀ x∈l,x<=m):bestL (fun x y:Int=>decide (y<x)) l=m:=by
 obtain ⟨i,hi,he⟩:=best_in (lt:=fun x y:Int=>decide (y<x)) l (l.length - 1) (by omega)
 have h3:=h2 _ (nth_mem (l:=l) (k:=i) (by omega))
 obtain ⟨j,hj,rfl⟩:=List.mem_iff_getElem.1 h1
 have h4:=best_gt l (l.length - 1) (by omega) j (by omega)
 rw [nth_eq hj] at h4
 unfold bestL
 omega
def loX (x:Int):Int:=(sVk 3 x).lo - fig x
def hiX (x:Int):Int:=(sVk 3 x).hi - fig x
def lTo (h:List (List Int)):List Int:=h.flatMap fun k=>[loX (nth k 0),hiX (nth k 0)]
theorem x_all (x:Int) (h:sDk 3 x=true):-1<=loX x/\loX x<=hiX x/\hiX x<=1:=by
 have h1:=sD_rng (Nat.le_refl 3) h
 have:∀ x:Fin 181,sDk 3 (x.1:Int)=true->-1<=loX (x.1:Int)/\loX (x.1:Int)<=hiX (x.1:Int)/\hiX (x.1:Int)<=1:=by decide +kernel
 have h2:=this ⟨x.toNat,by omega⟩
 rw [show ((x.toNat:Nat):Int)=x by omega] at h2
 exact h2 h
theorem x_lo:∃ x:Int,sDk 3 x=true/\loX x=-1:=by
 have:∃ x:Fin 181,sDk 3 (x.1:Int)=true/\loX (x.1:Int)=-1:=by decide +kernel
 exact ⟨_,this.choose_spec⟩
theorem x_hi:∃ x:Int,sDk 3 x=true/\hiX x=1:=by
 have:∃ x:Fin 181,sDk 3 (x.1:Int)=true/\hiX (x.1:Int)=1:=by decide +kernel
 exact ⟨_,this.choose_spec⟩
theorem lTo_ends {h:List (List Int)} (he:Enum (kD (sDk 3)) h):0<(lTo h).length/\bestL (fun x y:Int=>decide (x<y)) (lTo h)=-1/\bestL (fun x y:Int=>decide (y<x)) (lTo h)=1:=by
 have hm:∀ y,y∈lTo h->-1<=y/\y<=1:=fun y hy=>by
  unfold lTo at hy
  obtain ⟨k,hk,hy⟩:=List.mem_flatMap.1 hy
  obtain ⟨x,rfl,hx⟩:=kD_iff.1 ((he.2 k).1 hk)
  have:=x_all x hx
  have e0:nth [x] 0=x:=rfl
  rw [e0] at hy
  simp only [List.mem_cons,List.not_mem_nil,or_false] at hy
  omega
 obtain ⟨a,ha,hal⟩:=x_lo
 obtain ⟨b,hb,hbh⟩:=x_hi
 have h1:(-1:Int)∈lTo h:=by
  unfold lTo
  exact List.mem_flatMap.2 ⟨[a],(he.2 _).2 ha,by rw [<-hal];exact List.mem_cons_self⟩
 have h2:(1:Int)∈lTo h:=by
  unfold lTo
  exact List.mem_flatMap.2 ⟨[b],(he.2 _).2 hb,by rw [<-hbh];exact List.mem_cons_of_mem _ List.mem_cons_self⟩
 have h0:0<(lTo h).length:=List.length_pos_of_mem h1
 exact ⟨h0,bestL_lt h0 h1 fun x hx=>(hm x hx).1,bestL_gt h0 h2 fun x hx=>(hm x hx).2⟩
theorem lTo_snoc (h:List (List Int)) (k:List Int):lTo (h++[k])=lTo h++[loX (nth k 0),hiX (nth k 0)]:=by
 unfold lTo
 rw [List.flatMap_append,List.flatMap_singleton]
theorem lTo_len (h:List (List Int)):(lTo h).length=2*h.length:=by
 induction h with
 |nil=>rfl
 |cons k h ih=>unfold lTo at ih ⊢;rw [List.flatMap_cons,List.length_append,ih];simp;omega
theorem less293 {Gl} (S:SP Gl) (a b:Int):CO Gl 293 [I a,I b] (.ret (B (decide (a<b)))):=by
 refine fn_is S (.nil) Tryz.func293 (by kernel_rfl) (decide (a<b)=decide (a<b)) (by kernel_rfl) ?_
 exact rfl
theorem more294 {Gl} (S:SP Gl) (a b:Int):CO Gl 294 [I a,I b] (.ret (B (decide (b<a)))):=by
 refine fn_is S (.nil) Tryz.func294 (by kernel_rfl) (decide (b<a)=decide (b<a)) (by kernel_rfl) ?_
 exact rfl
theorem best292 {Gl} (S:SP Gl) (l:List Int) (h:0<l.length):CO Gl 292 [L eI l,.fn 293 [] []] (.ret (I (bestL (fun x y:Int=>decide (x<y)) l))):=by
 refine fn_iq S (let A0:=(fun x y=>decide (x<y));let A1:=(l.length:Int);let A2:=(List.drop (1:Nat) l);((.loop (List.length l-(1:Nat)) (fun k=>[v 14 (I k),v 13 (I (A1-1)),v 12 (L eI A2),v 1 (T.fn (293:FuncId) [] []),v 5 (I (bestTo A0 l k))]) fun k0=>.br (.r (.ret (B (decide (nth (List.drop (1:Nat) l) k0<bestTo (fun x y=>decide (x<y)) l k0)))) (.br .nil .nil)) .nil),(((0:Int)<=0/\0<A1)/\((0:Int)<=1/\1<=A1/\A1<=A1)/\(Int.toNat (A1-1)<=maxLen->(0=(↑(0:Nat):Int)/\(↑(Int.toNat (A1-1)):Int)=A1-1/\(SEq (Int.toNat (A1-1)) (fun i=>eI (nth l (Int.toNat (1:Int)+i))) (List.length A2) fun i=>eI (nth A2 i))/\(293:Nat)=(293:Nat)/\nth l (Int.toNat (0:Int))=bestTo A0 l (0:Nat))/\∀ (k0:Nat),k0<=List.length l-(1:Nat)->(decide ((k0:Int)<(l.length:Int)-1)=true->(0<=(k0:Int)/\(k0:Int)<(↑(List.length A2):Int))/\CO Gl 293 [I (nth A2 k0),I (bestTo A0 l k0)] (.ret (B (decide (nth (List.drop (1:Nat) l) k0<bestTo (fun x y=>decide (x<y)) l k0))))/\(decide (nth (List.drop (1:Nat) l) k0<bestTo (fun x y=>decide (x<y)) l k0)=true->iR ((k0:Int)+1)/\k0<List.length l-(1:Nat)/\(k0:Int)+1=(↑(k0+1):Int)/\A1-1=A1-1/\(sR eI A2)/\(293:Nat)=(293:Nat)/\nth A2 k0=bestTo A0 l (k0+1))/\(decide (nth (List.drop (1:Nat) l) k0<bestTo (fun x y=>decide (x<y)) l k0)=false->iR ((k0:Int)+1)/\k0<List.length l-(1:Nat)/\(k0:Int)+1=(↑(k0+1):Int)/\A1-1=A1-1/\(sR eI A2)/\(293:Nat)=(293:Nat)/\bestTo A0 l k0=bestTo A0 l (k0+1)))/\(decide ((k0:Int)<(l.length:Int)-1)=false->bestTo A0 l k0=bestL A0 l))))) Tryz.func292 (by kernel_rfl) (by kernel_rfl) ?_
 simp only [stdS,imp_self,implies_true,and_true,decide_eq_true_eq,decide_eq_false_iff_not,maxLen_eq,rng_iff]
 have hd:(l.drop 1).length=l.length - 1:=List.length_drop
 have hn:∀ k,nth (l.drop 1) k=nth l (k+1):=fun k=>by rw [nth_drop,Nat.add_comm]
 have hst:∀ k,bestTo (fun x y:Int=>decide (x<y)) l (k+1)=bif (fun x y:Int=>decide (x<y)) (nth l (k+1)) (bestTo (fun x y:Int=>decide (x<y)) l k) then nth l (k+1) else bestTo (fun x y:Int=>decide (x<y)) l k:=fun k=>rfl
 refine ⟨by omega,by omega,fun hm=>⟨⟨by omega,.of ⟨by omega,fun i _=>congrArg eI (nth_drop (l:=l) (i:=i) (k:=1)).symm⟩,rfl⟩,fun k hk=>⟨fun hl=>⟨by omega,less293 S _ _,fun hb=>⟨by omega,by omega,by omega,?_⟩,fun hb=>⟨by omega,by omega,by omega,?_⟩⟩,fun hl=>?_⟩⟩⟩
 ·rw [hn] at hb ⊢
  rw [hst]
  show _=bif decide (nth l (k+1)<bestTo (fun x y:Int=>decide (x<y)) l k) then _ else _
  rw [decide_eq_true hb]
  rfl
 ·rw [hn] at hb
  rw [hst]
  show _=bif decide (nth l (k+1)<bestTo (fun x y:Int=>decide (x<y)) l k) then _ else _
  rw [decide_eq_false hb]
  rfl
 ·have:k=l.length - 1:=by omega
  subst this
  rfl
theorem best292g {Gl} (S:SP Gl) (l:List Int) (h:0<l.length):CO Gl 292 [L eI l,.fn 294 [] []] (.ret (I (bestL (fun x y:Int=>decide (y<x)) l))):=by
 refine fn_iq S (let A0:=(fun x y=>decide (y<x));let A1:=(l.length:Int);let A2:=(List.drop (1:Nat) l);((.loop (List.length l-(1:Nat)) (fun k=>[v 14 (I k),v 13 (I (A1-1)),v 12 (L eI A2),v 1 (T.fn (294:FuncId) [] []),v 5 (I (bestTo A0 l k))]) fun k0=>.br (.r (.ret (B (decide (bestTo (fun x y=>decide (y<x)) l k0<nth (List.drop (1:Nat) l) k0)))) (.br .nil .nil)) .nil),(((0:Int)<=0/\0<A1)/\((0:Int)<=1/\1<=A1/\A1<=A1)/\(Int.toNat (A1-1)<=maxLen->(0=(↑(0:Nat):Int)/\(↑(Int.toNat (A1-1)):Int)=A1-1/\(SEq (Int.toNat (A1-1)) (fun i=>eI (nth l (Int.toNat (1:Int)+i))) (List.length A2) fun i=>eI (nth A2 i))/\(294:Nat)=(294:Nat)/\nth l (Int.toNat (0:Int))=bestTo A0 l (0:Nat))/\∀ (k0:Nat),k0<=List.length l-(1:Nat)->(decide ((k0:Int)<(l.length:Int)-1)=true->(0<=(k0:Int)/\(k0:Int)<(↑(List.length A2):Int))/\CO Gl 294 [I (nth A2 k0),I (bestTo A0 l k0)] (.ret (B (decide (bestTo (fun x y=>decide (y<x)) l k0<nth (List.drop (1:Nat) l) k0))))/\(decide (bestTo (fun x y=>decide (y<x)) l k0<nth (List.drop (1:Nat) l) k0)=true->iR ((k0:Int)+1)/\k0<List.length l-(1:Nat)/\(k0:Int)+1=(↑(k0+1):Int)/\A1-1=A1-1/\(sR eI A2)/\(294:Nat)=(294:Nat)/\nth A2 k0=bestTo A0 l (k0+1))/\(decide (bestTo (fun x y=>decide (y<x)) l k0<nth (List.drop (1:Nat) l) k0)=false->iR ((k0:Int)+1)/\k0<List.length l-(1:Nat)/\(k0:Int)+1=(↑(k0+1):Int)/\A1-1=A1-1/\(sR eI A2)/\(294:Nat)=(294:Nat)/\bestTo A0 l k0=bestTo A0 l (k0+1)))/\(decide ((k0:Int)<(l.length:Int)-1)=false->bestTo A0 l k0=bestL A0 l))))) Tryz.func292 (by kernel_rfl) (by kernel_rfl) ?_
 simp only [stdS,imp_self,implies_true,and_true,decide_eq_true_eq,decide_eq_false_iff_not,maxLen_eq,rng_iff]
 have hd:(l.drop 1).length=l.length - 1:=List.length_drop
 have hn:∀ k,nth (l.drop 1) k=nth l (k+1):=fun k=>by rw [nth_drop,Nat.add_comm]
 have hst:∀ k,bestTo (fun x y:Int=>decide (y<x)) l (k+1)=bif (fun x y:Int=>decide (y<x)) (nth l (k+1)) (bestTo (fun x y:Int=>decide (y<x)) l k) then nth l (k+1) else bestTo (fun x y:Int=>decide (y<x)) l k:=fun k=>rfl
 refine ⟨by omega,by omega,fun hm=>⟨⟨by omega,.of ⟨by omega,fun i _=>congrArg eI (nth_drop (l:=l) (i:=i) (k:=1)).symm⟩,rfl⟩,fun k hk=>⟨fun hl=>⟨by omega,more294 S _ _,fun hb=>⟨by omega,by omega,by omega,?_⟩,fun hb=>⟨by omega,by omega,by omega,?_⟩⟩,fun hl=>?_⟩⟩⟩
 ·rw [hn] at hb ⊢
  rw [hst]
  show _=bif decide (bestTo (fun x y:Int=>decide (y<x)) l k<nth l (k+1)) then _ else _
  rw [decide_eq_true hb]
  rfl
 ·rw [hn] at hb
  rw [hst]
  show _=bif decide (bestTo (fun x y:Int=>decide (y<x)) l k<nth l (k+1)) then _ else _
  rw [decide_eq_false hb]
  rfl
 ·have:k=l.length - 1:=by omega
  subst this
  rfl
theorem ends185 {Gl} (S:SP Gl) (l:List Int) (h:0<l.length):CO Gl 185 [L eI l] (.ret (.d (.agg [Ci (bestL (fun x y:Int=>decide (x<y)) l),Ci (bestL (fun x y:Int=>decide (y<x)) l)]))):=by
 refine fn_iq S (let A0:=(fun x y=>decide (x<y));let A1:=(fun x y=>decide (y<x));((.r (.ret (I (bestL A0 l))) (.r (.ret (I (bestL A1 l))) .nil)),(CO Gl 292 [L eI l,T.fn (293:FuncId) [] []] (.ret (I (bestL A0 l)))/\CO Gl 292 [L eI l,T.fn (294:FuncId) [] []] (.ret (I (bestL A1 l)))/\bestL A0 l=bestL A0 l/\bestL A1 l=bestL A1 l))) Tryz.func185 (by kernel_rfl) (by kernel_rfl) ?_
 dsimp only
 exact ⟨best292 S l h,best292g S l h,rfl,rfl⟩
theorem both95 {Gl} (S:SP Gl) (x:Int) (hx:sDk 3 x=true):CO Gl 95 [.d (.agg (cRT exR 1)),I x,.d (.agg (eSpan (sVk 3 x)))] (.ret (.tup [.c (Ci (loX x)),.c (Ci (hiX x))])):=by
 refine fn_is S (.r (.ret (I (fig x))) (.r (.ret (I (fig x))) .nil)) Tryz.func95 (by kernel_rfl) (CO Gl 96 [T.d (D.agg (cRT exR (1:Int))),I x] (.ret (I (fig x)))/\iR ((sVk (3:Nat) x).1-fig x)/\CO Gl 96 [T.d (D.agg (cRT exR (1:Int))),I x] (.ret (I (fig x)))/\iR ((sVk (3:Nat) x).2-fig x)/\(sVk (3:Nat) x).1-fig x=loX x/\(sVk (3:Nat) x).2-fig x=hiX x) (by kernel_rfl) ?_
 have h1:=sD_rng (Nat.le_refl 3) hx
 have h2:=sV_rng (Nat.le_refl 3) x
 have h3:=x_all x hx
 unfold spB at h2
 unfold loX hiX at h3
 have hf:=figure96 S x (by omega)
 simp only [rng_iff]
 exact ⟨hf,by omega,hf,by omega,rfl,rfl⟩
theorem spans94 {Gl} (S:SP Gl)  :CO Gl 94 [tRS exR,I 1,.fn 95 [] []] (.ret (.tup [.agg [Ci (-1),Ci 1],.c (Ci 0)])):=by
 refine fn_iq S (let A0:=(MEq (kD (sDk (3:Nat))) (fun key=>eSpan (sVk (3:Nat) (nth key 0))) (kD (sDk (3:Nat))) fun key=>eSpan (sVk (3:Nat) (nth key 0)));let A1:=(cRT exR (1:Int));((.r (.ret (.tup [D.agg A1,D.c (Ci 0)])) (.ff (.r (.ret (T.d (D.c (mS (3:Nat))))) (.lg allK (27:Nat) (fun h=>v 2 (T.fn (95:FuncId) [] [])::v 6 (ad 6)::v 8 (ad 8)::v 27 (T.it (27:Nat))::tk 100 3::v 10 (Lt 100 eI (lTo h))::((2:Nat),(27:Nat),T.mitc (0:Nat) true (kD (sDk (3:Nat))) (fun key=>eSpan (sVk (3:Nat) (nth key 0))) h none)::(bx 8 A1++bx 6 [Ci 0,Ci 0])) fun h0=>.each (fun key=>.tt (.r (.ret (.tup [D.c (Ci (loX (nth key 0))),D.c (Ci (hiX (nth key 0)))])) .nil)) (.ff (.r (.ret (T.d (D.agg [Ci (bestL (fun x y=>decide (x<y)) (lTo h0)),Ci (bestL (fun x y=>decide (y<x)) (lTo h0))]))) .nil)))))),(CO Gl 183 [tRS exR,I 1] (.ret (.tup [D.agg A1,D.c (Ci 0)]))/\false=false/\CO Gl 184 [T.d (D.agg A1),I 0] (.ret (T.d (D.c (mS (3:Nat)))))/\((95:Nat)=(95:Nat)/\(0:Nat)=(0:Nat)/\A0/\([]:List (List Int))=[]/\(10:Int)=10/\(3:Int)=3/\(SEq (3:Nat) (fun i=>eI (nth [(4:Int),(1:Int),(0:Int)] i)) (List.length [(4:Int),(1:Int),(0:Int)]) fun i=>eI (nth [(4:Int),(1:Int),(0:Int)] i))/\(SEq (3:Nat) (fun i=>eI (nth [(13:Int),(26:Int),(44:Int)] i)) (List.length [(13:Int),(26:Int),(44:Int)]) fun i=>eI (nth [(13:Int),(26:Int),(44:Int)] i))/\(1:Int)=1/\(0:Int)=0/\(0:Int)=0)/\∀ (h0:List (List Int)),List.Nodup h0->(∀ (x:List Int),x∈h0->x∈allK)->(∀ (key:List Int),NewKey (kD (sDk (3:Nat))) h0 key->true=true/\CO Gl 95 [T.d (D.agg A1),I (nth key 0),T.d (D.agg (eSpan (sVk (3:Nat) (nth key 0))))] (.ret (.tup [D.c (Ci (loX (nth key 0))),D.c (Ci (hiX (nth key 0)))]))/\(List.length (lTo h0)+2)*8<=140737488355328/\List.length (lTo h0)+2<=140737488355328/\MoreK allK h0 (h0++[key])/\(95:Nat)=(95:Nat)/\(SEq (List.length (lTo h0)+2) (catF (List.length (lTo h0)) (fun i=>eI (nth (lTo h0) i)) fun i=>List.getD [List.map C.dem [C.v (Value.int IntKind.i64 (loX (nth key 0)))],List.map C.dem [C.v (Value.int IntKind.i64 (hiX (nth key 0)))]] i []) (List.length (lTo (h0++[key]))) fun i=>eI (nth (lTo (h0++[key])) i))/\A0/\h0++[key]=h0++[key]/\(10:Int)=10/\(3:Int)=3/\(sR eI [(4:Int),(1:Int),(0:Int)])/\(sR eI [(13:Int),(26:Int),(44:Int)])/\(1:Int)=1/\(0:Int)=0/\(0:Int)=0)/\(Enum (kD (sDk (3:Nat))) h0->false=false/\CO Gl 185 [L eI (lTo h0)] (.ret (T.d (D.agg [Ci (bestL (fun x y=>decide (x<y)) (lTo h0)),Ci (bestL (fun x y=>decide (y<x)) (lTo h0))])))/\bestL (fun x y=>decide (x<y)) (lTo h0)=(-1:Int)/\bestL (fun x y=>decide (y<x)) (lTo h0)=(1:Int)/\(0:Int)=0)))) Tryz.func94 (by kernel_rfl) (by kernel_rfl) ?_
 have hme:MEq (kD (sDk 3)) (fun key=>eSpan (sVk 3 (nth key 0))) (kD (sDk 3)) (fun key=>eSpan (sVk 3 (nth key 0))):=fun key=>⟨rfl,fun _=>.inl rfl⟩
 simp only [stdS,imp_self,implies_true,and_true,rng_iff,maxLen_eq]
 refine ⟨open183 S,sums184 S,⟨hme,.of ⟨rfl,fun _ _=>rfl⟩,.of ⟨rfl,fun _ _=>rfl⟩,trivial⟩,fun h hnd hsub=>⟨fun key hnew=>?_,fun hen=>?_⟩⟩
 ·obtain ⟨z,rfl,hz,hnz⟩:=newK hnew
  have hz1:=sD_rng (Nat.le_refl 3) hz
  have hm1:=moreK_snoc hnd hsub hnz (by omega)
  have hl:=lTo_len h
  have hh:h.length<=300:=by
   have:=nodup_sub hnd hsub
   unfold allK at this
   rwa [List.length_map,List.length_range] at this
  exact ⟨both95 S z hz,by omega,by omega,hm1,SEq_snoc (f:=eI) (lTo_snoc h [z]) rfl,hme,trivial⟩
 ·obtain ⟨h0,h1,h2⟩:=lTo_ends hen
  exact ⟨ends185 S _ h0,h1,h2,trivial⟩
theorem differs32 {Gl} (S:SP Gl)  :CO Gl 32 [tRS exR,I 1] (.ret (.tup [.agg [Ci (-1),Ci 1],.c (Ci 0)])):=by
 refine fn_is S (.r (.ret (.tup [D.agg [Ci (-1:Int),Ci 1],D.c (Ci 0)])) .nil) Tryz.func32 (by kernel_rfl) (CO Gl 94 [tRS exR,I 1,T.fn (95:FuncId) [] []] (.ret (.tup [D.agg [Ci (-1:Int),Ci 1],D.c (Ci 0)]))/\(-1:Int)=(-1:Int)/\(1:Int)=1/\(0:Int)=0) (by kernel_rfl) ?_
 exact ⟨spans94 S,rfl,rfl,rfl⟩
theorem isColT {Gl} (S:SP Gl) (l:List Int) (h:isCol l=true):CO Gl 37 [L eI l] (.ret (B true)):=by
 have h1:=isColumn73 S l
 rw [h] at h1
 exact h1
def errPre (r l:List Int):Env:=[(2,FAR,live),(FAR+3,0,L eI r),(2,FAR+1,live),(FAR+4,0,L eI l),(2,FAR+2,live),(FAR+5,0,.d (.c (.v (.slice none 0 0))))]
def errPost (r l:List Int):Env:=[(FAR+5,0,L eErr (errTo r l r.length))]
theorem isCol_iff {l:List Int}:isCol l=true↔(1<=l.length/\l.length<=6)/\l.all num=true:=by
 unfold isCol
 rw [Bool.and_eq_true,inR_iff]
 constructor
 ·intro h;exact ⟨by have:=h.2;omega,h.1⟩
 ·intro h;exact ⟨h.2,by have:=h.1;omega⟩
theorem call75 {Gl} (S:SP Gl) (r l:List Int) (hr:r.all num=true) (hl:l.length=r.length) (hm:r.length<=1000) (hok:errOK r l=true):Does Tryz.prog Y Gl yd0 39 [.addr FAR 0,.addr (FAR+1) 0,.addr (FAR+2) 0] (errPre r l) (.ret (.tup [])) (errPost r l):=by
 refine fn_is2 S (.r (.ret (L eErr (errTo r l r.length))) .nil) Tryz.func39 (by kernel_rfl) (CO Gl 40 [L eI r,L eI l] (.ret (L eErr (errTo r l r.length)))/\True/\(sR eErr (errTo r l r.length))/\(sR eI r)/\sR eI l) (by kernel_rfl) ?_
 simp only [stdS,imp_self,implies_true,and_true]
 exact ⟨copied76 S r l hr hl hm hok,trivial⟩
theorem att74 {Gl} (S:SP Gl) (r l:List Int) (hr:r.all num=true) (hl:l.length=r.length) (hm:r.length<=1000) (hok:errOK r l=true):Does Tryz.prog Y Gl yd0 38 [.fn 39 [] [.addr FAR 0,.addr (FAR+1) 0,.addr (FAR+2) 0]] (errPre r l) (.ret (I 0)) (errPost r l):=
 attempt74_does (fst:=[]) rfl rfl (call75 S r l hr hl hm hok) .ok
theorem errors22 {Gl} (S:SP Gl) (r l:List Int) (hr:isCol r=true) (hl:isCol l=true) (hn:l.length=r.length) (hok:errOK r l=true):CO Gl 10 [L eI r,L eI l] (.ret (.tup [.c (.l eErr (errL r l)),.c (Ci 0)])):=by
 refine fn_iq S (let A0:=[T.fn (39:FuncId) [] [T.addr FAR (0:Nat),T.addr (FAR+1) (0:Nat),T.addr (FAR+2) (0:Nat)]];let A1:=(bif false then true else (r.length:Int) != (l.length:Int));((.r (.ret (B true)) (.sure 12 (.sure 13 (.r (.ret (B true)) (.sure 14 (.sure 17 (.sure 18 (.sure 19 (.sure 20 (.sure 21 (.br .nil (.w [(nat_lit 100000,nat_lit 2),(nat_lit 100001,nat_lit 3),(nat_lit 100002,nat_lit 6)] A0 (errPre r l) (.ret (I 0)) (errPost r l) (.ff .nil))))))))))))),(CO Gl 37 [L eI r] (.ret (B true))/\true=true/\true=true/\CO Gl 37 [L eI l] (.ret (B true))/\true=true/\true=true/\true=true/\(r.length<=maxLen->true=true/\true=true/\(l.length<=maxLen->true=true/\(A1=true->List.length (errL r l)=(0:Nat)/\(2:Int)=0)/\(A1=false->(39:Nat)=(39:Nat)/\(sR eI r)/\(sR eI l)/\Value.slice none 0 0=Value.slice none 0 0/\Does Tryz.prog Y Gl yd0 (38:FuncId) A0 (errPre r l) (.ret (I 0)) (errPost r l)/\false=false/\(sQ eErr (errTo r l r.length) (errL r l))/\(0:Int)=0)))))) Tryz.func10 (by kernel_rfl) (by kernel_rfl) ?_
 obtain ⟨c1,c2⟩:=isCol_iff.1 hr
 simp only [stdS,imp_self,implies_true,and_true,cond_false]
 refine ⟨isColT S r hr,isColT S l hl,fun hm hm2=>⟨fun h=>?_,fun h=>⟨att74 S r l c2 hn (by omega) hok,?_⟩⟩⟩
 ·rw [hn] at h
  simp at h
 ·unfold errL
  rw [hok]
  exact ⟨SEq_whole rfl,trivial⟩
set_option maxRecDepth 100000
def litF (l:List Int) (i:Nat):List C:=(l.map fun x=>List.map C.dem [C.v (Value.int IntKind.i64 x)]).getD i []
theorem litE (l:List Int):SEqE l.length (litF l) l.length (fun i=>eI (nth l i)):=⟨rfl,fun i hi=>by
 show litF l i=eI (nth l i)
 unfold litF
 rw [List.getD_eq_getElem?_getD,List.getElem?_map,nth_eq hi,List.getElem?_eq_getElem hi]
 rfl⟩
theorem litS (l:List Int):SEq l.length (litF l) l.length (fun i=>eI (nth l i)):=.of (litE l)
theorem litC (g:Tag) (l:List Int):EqCs (List.map C.dem [C.s g l.length (litF l)]) (eCol l):=⟨.inr (.inr ⟨_,_,_,_,_,_,rfl,rfl,litE l⟩),trivial⟩
def exA:Sheet:=⟨[[123,45,-60,7],[132,45,60,7]],[1,1]⟩
theorem exA_ok:exA.ok=true:=by decide +kernel
theorem exA_first:0<(allR exA).length/\firstL (allR exA)=[123,45,60,7]:=by decide +kernel
theorem kFirst {Gl} (S:SP Gl):CO Gl 17 [tSheet exA] (.ret (.tup [.c (.l eI [123,45,60,7]),.c (Ci 0)])):=by
 have h1:=first31 S exA exA_ok exA_first.1
 rw [exA_first.2] at h1
 exact h1
theorem kSame {Gl} (S:SP Gl) (f:Nat->List C) (h:SEq 4 f [(123:Int),45,60,7].length fun i=>eI (nth [(123:Int),45,60,7] i)):CO Gl 20 [L eI [123,45,60,7],.d (.c (.s .n 4 f))] (.ret (B true)):=by
 have h1:=same34 S [123,45,60,7] [123,45,60,7]
 rw [show sameL (·==·) [(123:Int),45,60,7] [123,45,60,7]=true from by decide] at h1
 exact h1.args ⟨(SEq_refl _ _).2 trivial,h⟩
theorem handsA31 {Gl} (S:SP Gl)  :CO Gl 31 [] (.ret (tSheet exA)):=by
 refine fn_iq S (let A0:=[[(123:Int),(45:Int),(-60:Int),(7:Int)],[(132:Int),(45:Int),(60:Int),(7:Int)]];((.nil),((SEq (2:Nat) (fun i=>List.getD [List.map C.dem [C.s (Tag.t (1:Nat)) (4:Nat) fun i=>List.getD [List.map C.dem [C.v (Value.int IntKind.i64 (123:Int))],List.map C.dem [C.v (Value.int IntKind.i64 (45:Int))],List.map C.dem [C.v (Value.int IntKind.i64 (-60:Int))],List.map C.dem [C.v (Value.int IntKind.i64 (7:Int))]] i []],List.map C.dem [C.s (Tag.t (2:Nat)) (4:Nat) fun i=>List.getD [List.map C.dem [C.v (Value.int IntKind.i64 (132:Int))],List.map C.dem [C.v (Value.int IntKind.i64 (45:Int))],List.map C.dem [C.v (Value.int IntKind.i64 (60:Int))],List.map C.dem [C.v (Value.int IntKind.i64 (7:Int))]] i []]] i []) (List.length A0) fun i=>eCol (nth A0 i))/\SEq (2:Nat) (fun i=>List.getD [List.map C.dem [C.v (Value.int IntKind.i64 (1:Int))],List.map C.dem [C.v (Value.int IntKind.i64 (1:Int))]] i []) (List.length [(1:Int),(1:Int)]) fun i=>eI (nth [(1:Int),(1:Int)] i)))) Tryz.func31 (by kernel_rfl) (by kernel_rfl) ?_
 dsimp only
 refine ⟨⟨rfl,fun i hi=>?_⟩,litS [1,1]⟩
 match i,hi with
 |0,_=>exact .inr (litC (.t 1) [123,45,-60,7])
 |1,_=>exact .inr (litC (.t 2) [132,45,60,7])
theorem one8 {Gl} (S:SP Gl) (n:Int):CO Gl 8 [I n] (.ret (.d (.agg (eSpan ⟨n,n⟩)))):=by
 refine fn_is S (.nil) Tryz.func8 (by kernel_rfl) (n=n/\n=n) (by kernel_rfl) ?_
 exact ⟨rfl,rfl⟩
theorem known7 {Gl} (S:SP Gl)  :CO Gl 7 [] (.ret (B true)):=by
 refine fn_iq S (let A0:=[D.c (C.l eI [(123:Int),(45:Int),(60:Int),(7:Int)]),D.c (Ci 0)];((.r (.ret (tSheet exA)) (.r (.ret (.tup A0)) (.r (.ret (tRS exR)) (.r (.ret (.tup [D.agg [Ci (-1:Int),Ci 1],D.c (Ci 0)])) (.sure 18 (.sure 19 (.sure 20 (.r (.ret (B true)) (.sure 23 (.sure 24 (.sure 27 (.sure 28 (.sure 29 .nil))))))))))))),(CO Gl 31 [] (.ret (tSheet exA))/\CO Gl 17 [tSheet exA] (.ret (.tup A0))/\CO Gl 33 [] (.ret (tRS exR))/\CO Gl 32 [tRS exR,I 1] (.ret (.tup [D.agg [Ci (-1:Int),Ci 1],D.c (Ci 0)]))/\true=true/\true=true/\true=true/\CO Gl 20 [L eI [(123:Int),(45:Int),(60:Int),(7:Int)],T.d (D.c (C.s Tag.n (4:Nat) fun i=>List.getD [List.map C.dem [C.v (Value.int IntKind.i64 (123:Int))],List.map C.dem [C.v (Value.int IntKind.i64 (45:Int))],List.map C.dem [C.v (Value.int IntKind.i64 (60:Int))],List.map C.dem [C.v (Value.int IntKind.i64 (7:Int))]] i []))] (.ret (B true))/\true=true/\true=true/\true=true/\true=true/\true=true/\true=true))) Tryz.func7 (by kernel_rfl) (by kernel_rfl) ?_
 simp only [stdS,imp_self,implies_true,and_true]
 exact ⟨handsA31 S,kFirst S,sheetA33 S,differs32 S,kSame S _ (litS [123,45,60,7]),trivial⟩
theorem beqD (a b:Nat):Nat.beq a b=decide (a=b):=by
 rw [Bool.eq_iff_iff,Nat.beq_eq,decide_eq_true_iff]
theorem flo_mul {w x:Int} (h:0<w):flo (w*x) w=x:=by
 unfold flo
 rw [Int.mul_tdiv_cancel_left x (by omega),Int.mul_comm w x]
 simp
def colS (t:List Int) (rows row:Nat) (v:Int):Col:=⟨(tabL t rows).set row v,t.length - 1,nth t (t.length - 1),nth t (t.length - 1)⟩
theorem case_of {k:Nat} (h:k<6):k=0∨k=1∨k=2∨k=3∨k=4∨k=5:=by omega
theorem apart1 (t:List Int) (rows row r:Nat) (v x:Int) (hn:2<=t.length) (hn4:t.length<=4) (hr:t.length+2<=rows) (hr6:rows<=6) (hrow:row<rows) (hk:r<rows) (hne:r≠row) (hv:v≠nth (tabL t rows) row):
  runsB (withV (colS t rows row v) r x)=false:=by
 rw [Bool.eq_false_iff]
 intro h
 match t,hn,hn4 with
 | [a,b],_,_=>
  have:rows=4∨rows=5∨rows=6:=by simp at hr;omega
  rcases this with rfl|rfl|rfl<;>rcases @case_of row (by omega) with rfl|rfl|rfl|rfl|rfl|rfl<;>first|omega|(rcases @case_of r (by omega) with rfl|rfl|rfl|rfl|rfl|rfl<;>first|omega|(simp [runsB,withV,colS,winL,difs,dif,tabL,afterL,addS,nth,inR,List.range,List.range.loop,List.set] at h hv;omega))
 | [a,b,c],_,_=>
  have:rows=5∨rows=6:=by simp at hr;omega
  rcases this with rfl|rfl<;>rcases @case_of row (by omega) with rfl|rfl|rfl|rfl|rfl|rfl<;>first|omega|(rcases @case_of r (by omega) with rfl|rfl|rfl|rfl|rfl|rfl<;>first|omega|(simp [runsB,withV,colS,winL,difs,dif,tabL,afterL,addS,nth,inR,List.range,List.range.loop,List.set] at h hv;omega))
 | [a,b,c,d],_,_=>
  have:rows=6:=by simp at hr;omega
  subst this
  rcases @case_of row (by omega) with rfl|rfl|rfl|rfl|rfl|rfl<;>first|omega|(rcases @case_of r (by omega) with rfl|rfl|rfl|rfl|rfl|rfl<;>first|omega|(simp [runsB,withV,colS,winL,difs,dif,tabL,afterL,addS,nth,inR,List.range,List.range.loop,List.set] at h hv;omega))
theorem apart0 (t:List Int) (rows row:Nat) (v:Int) (hn:2<=t.length) (hn4:t.length<=4) (hr:t.length+2<=rows) (hr6:rows<=6) (hrow:row<rows) (hv:v≠nth (tabL t rows) row):
  runsB (colS t rows row v)=false:=by
 have hr':∃ r,r<rows/\r≠row:=by
  by_cases h:row=0
  ·exact ⟨1,by omega,by omega⟩
  ·exact ⟨0,by omega,by omega⟩
 obtain ⟨r,h1,h2⟩:=hr'
 have h:=apart1 t rows row r v (nth (colS t rows row v).vals r) hn hn4 hr hr6 hrow h1 h2 hv
 have:withV (colS t rows row v) r (nth (colS t rows row v).vals r)=colS t rows row v:=by
  unfold withV
  have hl:r<(colS t rows row v).vals.length:=by unfold colS tabL;simp;omega
  have:(colS t rows row v).vals.set r (nth (colS t rows row v).vals r)=(colS t rows row v).vals:=by
   unfold nth
   rw [List.getD_eq_getElem?_getD,List.getElem?_eq_getElem hl]
   simp
  rw [this]
 rw [this] at h
 exact h
theorem apart2 (t:List Int) (rows row:Nat) (v:Int) (hn:2<=t.length) (hn4:t.length<=4) (hr:t.length+2<=rows) (hr6:rows<=6) (hrow:row<rows):
  runsB (withV (colS t rows row v) row (nth (tabL t rows) row))=true:=by
 match t,hn,hn4 with
 | [a,b],_,_=>
  have:rows=4∨rows=5∨rows=6:=by simp at hr;omega
  rcases this with rfl|rfl|rfl<;>rcases @case_of row (by omega) with rfl|rfl|rfl|rfl|rfl|rfl<;>first|omega|((simp [runsB,withV,colS,winL,difs,dif,tabL,afterL,addS,nth,inR,List.range,List.range.loop,List.set]);done)|((simp [runsB,withV,colS,winL,difs,dif,tabL,afterL,addS,nth,inR,List.range,List.range.loop,List.set]);omega)
 | [a,b,c],_,_=>
  have:rows=5∨rows=6:=by simp at hr;omega
  rcases this with rfl|rfl<;>rcases @case_of row (by omega) with rfl|rfl|rfl|rfl|rfl|rfl<;>first|omega|((simp [runsB,withV,colS,winL,difs,dif,tabL,afterL,addS,nth,inR,List.range,List.range.loop,List.set]);done)|((simp [runsB,withV,colS,winL,difs,dif,tabL,afterL,addS,nth,inR,List.range,List.range.loop,List.set]);omega)
 | [a,b,c,d],_,_=>
  have:rows=6:=by simp at hr;omega
  subst this
  rcases @case_of row (by omega) with rfl|rfl|rfl|rfl|rfl|rfl<;>first|omega|((simp [runsB,withV,colS,winL,difs,dif,tabL,afterL,addS,nth,inR,List.range,List.range.loop,List.set]);done)|((simp [runsB,withV,colS,winL,difs,dif,tabL,afterL,addS,nth,inR,List.range,List.range.loop,List.set]);omega)
theorem qs_is {lo rest w R:Int} (hw:w≠0) (h:rest+w*R=lo):lowQ lo lo rest w=R/\highQ lo lo rest w=R:=by
 unfold lowQ highQ
 by_cases h0:0<w
 ·rw [decide_eq_true h0,cond_true,cond_true]
  have h1:rest - lo=w*(-R):=by rw [Int.mul_neg];omega
  have h2:lo - rest=w*R:=by omega
  rw [h1,h2,flo_mul h0,flo_mul h0]
  omega
 ·rw [decide_eq_false h0,cond_false,cond_false]
  have h1:rest - lo=-w*R:=by rw [Int.neg_mul];omega
  have h2:lo - rest=-w*(-R):=by rw [Int.neg_mul,Int.mul_neg];omega
  rw [h1,h2,flo_mul (by omega),flo_mul (by omega)]
  omega
theorem eq_at (t:List Int) (rows row w:Nat) (v:Int) (hn:2<=t.length) (hn4:t.length<=4) (hr:t.length+2<=rows) (hr6:rows<=6) (hrow:row<rows) (hw:w<rows - (t.length - 1)) (hin:inW (colS t rows row v) w row=true):
  wgt (t.length - 1) (row - w)≠0/\restS (colS t rows row v) w row+wgt (t.length - 1) (row - w)*nth (tabL t rows) row=nth t (t.length - 1):=by
 unfold inW at hin
 rw [Bool.and_eq_true] at hin
 have h1:=Nat.le_of_ble_eq_true hin.1
 have h2:=Nat.le_of_ble_eq_true hin.2
 simp only [colS] at h2
 clear hin
 match t,hn,hn4 with
 | [a,b],_,_=>
  simp only [List.length_cons,List.length_nil] at h2 hr hw
  have:rows=4∨rows=5∨rows=6:=by omega
  rcases this with rfl|rfl|rfl<;>rcases @case_of row (by omega) with rfl|rfl|rfl|rfl|rfl|rfl<;>first|omega|(rcases @case_of w (by omega) with rfl|rfl|rfl|rfl|rfl|rfl<;>first|omega|(refine ⟨by simp only [List.length_cons,List.length_nil];decide,?_⟩;simp [beqD,restS,sumL,sumTo,othTo,wgt,unitL,colS,difs,dif,tabL,afterL,addS,nth,List.range,List.range.loop,List.set];try omega))
 | [a,b,c],_,_=>
  simp only [List.length_cons,List.length_nil] at h2 hr hw
  have:rows=5∨rows=6:=by omega
  rcases this with rfl|rfl<;>rcases @case_of row (by omega) with rfl|rfl|rfl|rfl|rfl|rfl<;>first|omega|(rcases @case_of w (by omega) with rfl|rfl|rfl|rfl|rfl|rfl<;>first|omega|(refine ⟨by simp only [List.length_cons,List.length_nil];decide,?_⟩;simp [beqD,restS,sumL,sumTo,othTo,wgt,unitL,colS,difs,dif,tabL,afterL,addS,nth,List.range,List.range.loop,List.set];try omega))
 | [a,b,c,d],_,_=>
  simp only [List.length_cons,List.length_nil] at h2 hr hw
  have:rows=6:=by omega
  subst this
  rcases @case_of row (by omega) with rfl|rfl|rfl|rfl|rfl|rfl<;>first|omega|(rcases @case_of w (by omega) with rfl|rfl|rfl|rfl|rfl|rfl<;>first|omega|(refine ⟨by simp only [List.length_cons,List.length_nil];decide,?_⟩;simp [beqD,restS,sumL,sumTo,othTo,wgt,unitL,colS,difs,dif,tabL,afterL,addS,nth,List.range,List.range.loop,List.set];try omega))
theorem betw_is (t:List Int) (rows row:Nat) (v:Int) (hn:2<=t.length) (hn4:t.length<=4) (hr:t.length+2<=rows) (hr6:rows<=6) (hrow:row<rows) (hR:-999<=nth (tabL t rows) row/\nth (tabL t rows) row<=999):
  ∀ k,k<=rows - (t.length - 1)->betw (colS t rows row v) row k=(-9999,9999)/\(∀ w,w<k->inW (colS t rows row v) w row=false)∨betw (colS t rows row v) row k=(nth (tabL t rows) row,nth (tabL t rows) row)
 |0,_=>.inl ⟨rfl,fun w h=>absurd h (by omega)⟩
 |k+1,hk=>by
  have ih:=betw_is t rows row v hn hn4 hr hr6 hrow hR k (by omega)
  have he:betw (colS t rows row v) row (k+1)=bif inW (colS t rows row v) k row then (max (betw (colS t rows row v) row k).1 (lowQ (nth t (t.length - 1)) (nth t (t.length - 1)) (restS (colS t rows row v) k row) (wgt (t.length - 1) (row - k))),min (betw (colS t rows row v) row k).2 (highQ (nth t (t.length - 1)) (nth t (t.length - 1)) (restS (colS t rows row v) k row) (wgt (t.length - 1) (row - k)))) else betw (colS t rows row v) row k:=rfl
  cases hi:inW (colS t rows row v) k row with
  |false=>
   rw [hi,cond_false] at he
   rw [he]
   rcases ih with h|h
   ·refine .inl ⟨h.1,fun w hw=>?_⟩
    rcases Nat.lt_or_ge w k with h1|h1
    ·exact h.2 w h1
    ·rw [show w=k by omega];exact hi
   ·exact .inr h
  |true=>
   obtain ⟨e1,e2⟩:=eq_at t rows row k v hn hn4 hr hr6 hrow (by omega) hi
   obtain ⟨q1,q2⟩:=qs_is e1 e2
   rw [hi,cond_true,q1,q2] at he
   refine .inr ?_
   rw [he]
   rcases ih with h|h
   ·rw [h.1]
    congr 1<;>simp only<;>omega
   ·rw [h]
    congr 1<;>simp only<;>omega
theorem betwS_is (t:List Int) (rows row:Nat) (v:Int) (hn:2<=t.length) (hn4:t.length<=4) (hr:t.length+2<=rows) (hr6:rows<=6) (hrow:row<rows) (hR:-999<=nth (tabL t rows) row/\nth (tabL t rows) row<=999):
  betwS (colS t rows row v) row=(nth (tabL t rows) row,nth (tabL t rows) row):=by
 have hl:(colS t rows row v).vals.length - (colS t rows row v).order=rows - (t.length - 1):=by
  simp only [colS,List.length_set,tab_len]
 unfold betwS
 rw [hl]
 rcases betw_is t rows row v hn hn4 hr hr6 hrow hR _ (Nat.le_refl _) with h|h
 ·have:=h.2 (min row (rows - (t.length - 1) - 1)) (by omega)
  unfold inW at this
  simp only [colS,Bool.and_eq_false_iff] at this
  rcases this with h1|h1
  ·have:=Nat.ble_eq_true_of_le (show min row (rows - (t.length - 1) - 1)<=row by omega)
   rw [this] at h1;cases h1
  ·have:=Nat.ble_eq_true_of_le (show row<=min row (rows - (t.length - 1) - 1)+(t.length - 1) by omega)
   rw [this] at h1;cases h1
 ·exact h
theorem fix_is (t:List Int) (rows row:Nat) (v:Int) (hn:2<=t.length) (hn4:t.length<=4) (hr:t.length+2<=rows) (hr6:rows<=6) (hrow:row<rows) (hv:v≠nth (tabL t rows) row) (hR:-999<=nth (tabL t rows) row/\nth (tabL t rows) row<=999):
  ∀ k,k<=rows->fixTo (colS t rows row v) k=bif Nat.blt row k then [⟨row,nth (tabL t rows) row,nth (tabL t rows) row⟩] else []
 |0,_=>rfl
 |k+1,hk=>by
  unfold fixTo
  rw [fix_is t rows row v hn hn4 hr hr6 hrow hv hR k (by omega)]
  by_cases h:k=row
  ·subst h
   have e1:Nat.blt k k=false:=by rw [Bool.eq_false_iff];intro h;have:=Nat.le_of_ble_eq_true h;omega
   have e2:Nat.blt k (k+1)=true:=Nat.ble_eq_true_of_le (Nat.le_refl _)
   rw [e1,e2,betwS_is t rows k v hn hn4 hr hr6 hrow hR,apart2 t rows k v hn hn4 hr hr6 hrow]
   simp
  ·rw [apart1 t rows row k v _ hn hn4 hr hr6 hrow (by omega) h hv,Bool.and_false,cond_false,List.append_nil]
   congr 1
   rw [Bool.eq_iff_iff]
   constructor
   ·intro h;have:=Nat.le_of_ble_eq_true h;exact Nat.ble_eq_true_of_le (by omega)
   ·intro h;have:=Nat.le_of_ble_eq_true h;exact Nat.ble_eq_true_of_le (by omega)
theorem law3k {Gl} (S:SP Gl) (t:List Int) (rows row:Int) (b:Bool) (hg:(bif bif bif bif bif decide ((t.length:Int)<2) then true else decide (4<(t.length:Int)) then true else decide (rows<(t.length:Int)+2) then true else decide (6<rows) then true else decide (row<0) then true else decide (rows<=row))=true):CO Gl 3 [L eI t,I rows,I row,B b] (.ret (B true)):=by
 refine fn_iq S (let A0:=(bif bif bif bif decide ((t.length:Int)<2) then true else decide (4<(t.length:Int)) then true else decide (rows<(t.length:Int)+2) then true else decide ((6:Int)<rows) then true else decide (row<(0:Int)));let A1:=(bif decide ((t.length:Int)<2) then true else decide (4<(t.length:Int)));let A2:=(bif bif bif decide ((t.length:Int)<2) then true else decide (4<(t.length:Int)) then true else decide (rows<(t.length:Int)+2) then true else decide ((6:Int)<rows));let A3:=(bif bif decide ((t.length:Int)<2) then true else decide (4<(t.length:Int)) then true else decide (rows<(t.length:Int)+2));let A4:=(eqB A1 false=true->eqB A1 false=true);((.val 52 true (.tt (.r (.ret (B true)) .nil))),(t.length<=maxLen->(eqB (decide ((t.length:Int)<2)) false=true->eqB (decide ((t.length:Int)<2)) false=true)/\(decide ((t.length:Int)<2)=false->eqB (decide ((t.length:Int)<2)) false=true)/\A4/\(eqB A1 false=true->iR ((t.length:Int)+2))/\A4/\A4/\(A1=false->eqB A1 false=true)/\(eqB A3 false=true->eqB A3 false=true)/\(A3=false->eqB A3 false=true)/\(eqB A2 false=true->eqB A2 false=true)/\(A2=false->eqB A2 false=true)/\(eqB A0 false=true->eqB A0 false=true)/\(eqB A0 false=true->eqB A0 false=true)/\(bif bif bif bif bif decide ((t.length:Int)<2) then true else decide (4<(t.length:Int)) then true else decide (rows<(t.length:Int)+2) then true else decide ((6:Int)<rows) then true else decide (row<(0:Int)) then true else decide (rows<=row))=true/\(A0=false->eqB A0 false=true)/\true=true/\CO Gl 7 [] (.ret (B true))/\true=true))) Tryz.func3 (by kernel_rfl) (by kernel_rfl) ?_
 dsimp only
 intro hm
 refine ⟨fun h=>h,fun h=>by rw [h];rfl,fun h=>h,fun h=>?_,?_⟩
 ·rw [eqB_false] at h
  cases h1:decide ((t.length:Int)<2) with
  |true=>rw [h1] at h;cases h
  |false=>
   rw [h1,cond_false,Bool.not_eq_true'] at h
   have:=of_decide_eq_false h
   exact (rng_iff _).2 (by omega)
 ·repeat' first|exact fun h=>h|exact known7 S|exact hg|rfl|(intro h;rw [eqB_false,h];rfl)|with_reducible apply And.intro
def vv (b x:Int):Int:=if x<0 then x+b else x - b
theorem carry_is {b x:Int} (hx:num x=true) (hb:b=10∨b=100) (hd:ab x / b % 10≠0):isCarried x (vv b x)=true:=by
 have h:=num_iff.1 hx
 unfold isCarried sg vv
 unfold fA fB fC
 have ha:ab x=if x<0 then -x else x:=by unfold ab;omega
 rw [Bool.or_eq_true,Bool.and_eq_true,Bool.and_eq_true,decide_eq_true_iff,decide_eq_true_iff,beq_iff_eq,beq_iff_eq]
 rcases hb with rfl|rfl<;>by_cases h0:x<0<;>simp only [h0,if_true,if_false] at ha ⊢<;>omega
theorem kind_is {r:Rt} {n:Int} (h:isCarried r.n n=true):r.kind n≠0:=by
 unfold Rt.kind
 rw [h]
 cases isTurned r.n n<;>simp
theorem err_one {l:List Int} {r:Nat} {v:Int} (hr:r<l.length) (hk:(rtOf l r).kind v≠0) (hne:v≠nth l r):
  errOK l (l.set r v)=true/\errL l (l.set r v)=[⟨r,(rtOf l r).kind v⟩]:=by
 have hok:errOK l (l.set r v)=true:=by
  unfold errOK
  rw [List.all_eq_true]
  intro i hi
  unfold okRow
  by_cases h:i=r
  ·subst h
   rw [nth_set_self hr,Bool.or_eq_true,bne_iff_ne]
   exact .inr hk
  ·rw [nth_set_other (fun h2=>h h2.symm),beq_self_eq_true];rfl
 refine ⟨hok,?_⟩
 have:∀ k,k<=l.length->errTo l (l.set r v) k=bif Nat.blt r k then [⟨r,(rtOf l r).kind v⟩] else []:=by
  intro k
  induction k with
  |zero=>intro _;rfl
  |succ k ih=>
   intro hk2
   unfold errTo
   rw [ih (by omega)]
   by_cases h:k=r
   ·subst h
    have e1:Nat.blt k k=false:=by rw [Bool.eq_false_iff];intro h;have:=Nat.le_of_ble_eq_true h;omega
    have e2:Nat.blt k (k+1)=true:=Nat.ble_eq_true_of_le (Nat.le_refl _)
    rw [e1,e2,nth_set_self hr,show (v==nth l k)=false from beq_eq_false_iff_ne.2 hne]
    rfl
   ·rw [nth_set_other (fun h2=>h h2.symm),beq_self_eq_true,cond_true,List.append_nil]
    congr 1
    rw [Bool.eq_iff_iff]
    constructor
    ·intro h;have:=Nat.le_of_ble_eq_true h;exact Nat.ble_eq_true_of_le (by omega)
    ·intro h;have:=Nat.le_of_ble_eq_true h;exact Nat.ble_eq_true_of_le (by omega)
 unfold errL
 rw [hok,cond_true,this _ (Nat.le_refl _),show Nat.blt r l.length=true from Nat.ble_eq_true_of_le hr]
 rfl
set_option maxRecDepth 100000
def stTo (t:List Int) (k:Nat):List Span:=(t.take k).map fun n=>⟨n,n⟩
structure Hf (t:List Int) (R r:Nat):Prop where
 h1:decide ((t.length:Int)<2)=false
 h2:decide (4<(t.length:Int))=false
 h3:decide ((R:Int)<(t.length:Int)+2)=false
 h4:decide (6<(R:Int))=false
 h5:decide ((r:Int)<0)=false
 h6:decide ((R:Int)<=(r:Int))=false
theorem Hf.all {t:List Int} {R r:Nat} (h:Hf t R r):2<=t.length/\t.length<=4/\t.length+2<=R/\R<=6/\r<R:=by
 have:=of_decide_eq_false h.h1
 have:=of_decide_eq_false h.h2
 have:=of_decide_eq_false h.h3
 have:=of_decide_eq_false h.h4
 have:=of_decide_eq_false h.h6
 omega
theorem st_len (t:List Int) (k:Nat) (hk:k<=t.length):(stTo t k).length=k:=by unfold stTo;rw [List.length_map,List.length_take];omega
theorem st_succ {t:List Int} {k:Nat} (hk:k<t.length):stTo t (k+1)=stTo t k++[⟨nth t k,nth t k⟩]:=by
 unfold stTo
 rw [take_succ hk,List.map_append];rfl
theorem plan_ok {t:List Int} {R r:Nat} (h:Hf t R r) (ht:t.all num=true):okPlan ⟨stTo t t.length,R,0⟩=true/\okTruth ⟨stTo t t.length,R,0⟩ t=true:=by
 obtain ⟨a1,a2,a3,a4,a5⟩:=h.all
 have hl:=st_len t t.length (Nat.le_refl _)
 have hs:stTo t t.length=t.map fun n=>⟨n,n⟩:=by unfold stTo;rw [List.take_length]
 constructor
 ·unfold okPlan
  simp only [Bool.and_eq_true,inR_iff]
  refine ⟨by rw [hl];omega,by show 1<=(R:Int)/\(R:Int)<=12;omega,by show (0:Int)<=0/\(0:Int)<=3;omega,?_⟩
  rw [hs,List.all_map,List.all_eq_true]
  intro x hx
  have:=num_iff.1 (List.all_eq_true.1 ht x hx)
  show okStart ⟨x,x⟩=true
  unfold okStart
  simp only [Bool.and_eq_true,inR_iff,decide_eq_true_eq]
  omega
 ·unfold okTruth
  rw [Bool.and_eq_true,beq_iff_eq,List.all_eq_true]
  refine ⟨hl.symm,fun i hi=>?_⟩
  have hi':=List.mem_range.1 hi
  unfold fitsAt
  show inR (nth t i) (nth (stTo t t.length) i).lo (nth (stTo t t.length) i).hi=true
  rw [hs,nth_map hi',inR_iff]
  exact ⟨Int.le_refl _,Int.le_refl _⟩
theorem tabK {Gl} (S:SP Gl) (t:List Int) (R r k:Nat) (h:Hf t R r) (ht:t.all num=true) (hk:k=t.length):CO Gl 9 [.d (.agg [.l eSpan (stTo t k),Ci R,Ci 0]),L eI t] (.ret (.tup [.c (.l eI (tabL t R)),.c (Ci 0)])):=by
 subst hk
 obtain ⟨h1,h2⟩:=plan_ok h ht
 exact table9 S ⟨stTo t t.length,R,0⟩ t h1 h2
def cop (b:Int) (t:List Int) (R r:Nat):List Int:=(tabL t R).set r (vv b (nth (tabL t R) r))
structure Hg (b:Int) (t:List Int) (R r:Nat):Prop extends Hf t R r where
 ht:t.all num=true
 hn:(tabL t R).all num=true
 hb:b=10∨b=100
 hd:ab (nth (tabL t R) r) / b % 10≠0
theorem Hg.num {b:Int} {t:List Int} {R r:Nat} (h:Hg b t R r):num (nth (tabL t R) r)=true:=
 List.all_eq_true.1 h.hn _ (nth_mem (by rw [tab_len];exact h.all.2.2.2.2))
theorem Hg.col {b:Int} {t:List Int} {R r:Nat} (h:Hg b t R r):isCol (tabL t R)=true/\isCol (cop b t R r)=true/\(cop b t R r).length=R:=by
 obtain ⟨a1,a2,a3,a4,a5⟩:=h.all
 have hl:(cop b t R r).length=R:=by unfold cop;rw [List.length_set,tab_len]
 refine ⟨isCol_iff.2 ⟨by rw [tab_len];omega,h.hn⟩,isCol_iff.2 ⟨by rw [hl];omega,?_⟩,hl⟩
 rw [List.all_eq_true]
 intro x hx
 rcases List.mem_or_eq_of_mem_set hx with h1|h1
 ·exact List.all_eq_true.1 h.hn _ h1
 ·have hn:=num_iff.1 h.num
  have hd:=h.hd
  have ha:ab (nth (tabL t R) r)=if nth (tabL t R) r<0 then -nth (tabL t R) r else nth (tabL t R) r:=by unfold ab;omega
  rw [h1,num_iff]
  unfold vv
  rcases h.hb with hb|hb<;>subst hb<;>by_cases h0:nth (tabL t R) r<0<;>simp only [h0,if_true,if_false] at ha ⊢<;>omega
theorem errF {Gl} (S:SP Gl) (b:Int) (t:List Int) (R r:Nat) (h:Hg b t R r) (F:Nat->List C) (hF:SEq (tabL t R).length F (cop b t R r).length fun i=>eI (nth (cop b t R r) i)):
  CO Gl 10 [L eI (tabL t R),.d (.c (.s .n (tabL t R).length F))] (.ret (.tup [.c (.l eErr [⟨r,(rtOf (tabL t R) r).kind (vv b (nth (tabL t R) r))⟩]),.c (Ci 0)])):=by
 obtain ⟨a1,a2,a3,a4,a5⟩:=h.all
 obtain ⟨c1,c2,c3⟩:=h.col
 have hne:vv b (nth (tabL t R) r)≠nth (tabL t R) r:=by
  unfold vv
  rcases h.hb with hb|hb<;>subst hb<;>split<;>omega
 obtain ⟨e1,e2⟩:=err_one (l:=tabL t R) (r:=r) (v:=vv b (nth (tabL t R) r)) (by rw [tab_len];exact a5) (kind_is (by rw [rt_n];exact carry_is h.num h.hb h.hd)) hne
 have h1:=errors22 S (tabL t R) (cop b t R r) c1 c2 (by rw [c3,tab_len]) e1
 change _=_ at e2
 rw [show errL (tabL t R) (cop b t R r)=_ from e2] at h1
 exact h1.args ⟨(SEq_refl _ _).2 trivial,hF⟩
theorem colF {b:Int} {t:List Int} {R r:Nat} (h:Hg b t R r):okC (colS t R r (vv b (nth (tabL t R) r)))/\runsB (colS t R r (vv b (nth (tabL t R) r)))=false/\fixL (colS t R r (vv b (nth (tabL t R) r)))=[⟨r,nth (tabL t R) r,nth (tabL t R) r⟩]:=by
 obtain ⟨a1,a2,a3,a4,a5⟩:=h.all
 obtain ⟨c1,c2,c3⟩:=h.col
 have hv:(colS t R r (vv b (nth (tabL t R) r))).vals=cop b t R r:=rfl
 have ho:(colS t R r (vv b (nth (tabL t R) r))).order=t.length - 1:=rfl
 have hlo:(colS t R r (vv b (nth (tabL t R) r))).lo=nth t (t.length - 1):=rfl
 have hhi:(colS t R r (vv b (nth (tabL t R) r))).hi=nth t (t.length - 1):=rfl
 have hne:vv b (nth (tabL t R) r)≠nth (tabL t R) r:=by
  unfold vv
  rcases h.hb with hb|hb<;>subst hb<;>split<;>omega
 have hn:=num_iff.1 h.num
 have hT:=num_iff.1 (List.all_eq_true.1 h.ht _ (nth_mem (l:=t) (k:=t.length - 1) (by omega)))
 refine ⟨⟨by rw [hv,c3];exact inR_iff.2 (by omega),by rw [ho];exact inR_iff.2 (by omega),by rw [hlo];exact inR_iff.2 (by omega),by rw [hhi,hlo];exact inR_iff.2 (by omega),?_,by rw [hv,ho,c3];exact decide_eq_true (by omega)⟩,apart0 t R r _ a1 a2 a3 a4 a5 hne,?_⟩
 ·rw [hv,List.all_eq_true]
  intro x hx
  have:=num_iff.1 (List.all_eq_true.1 (isCol_iff.1 c2).2 x hx)
  exact inR_iff.2 (by omega)
 ·unfold fixL
  rw [hv,c3,fix_is t R r _ a1 a2 a3 a4 a5 hne hn R (Nat.le_refl _),show Nat.blt r R=true from Nat.ble_eq_true_of_le a5]
  rfl
def argC (t:List Int) (n:Nat) (F:Nat->List C):T:=.d (.agg [.s .n n F,Ci ((t.length:Int) - 1),Ci (nth t (Int.toNat ((t.length:Int) - 1))),Ci (nth t (Int.toNat ((t.length:Int) - 1)))])
theorem arg_le {b:Int} {t:List Int} {R r:Nat} (h:Hg b t R r) {F:Nat->List C} (hF:SEq (tabL t R).length F (cop b t R r).length fun i=>eI (nth (cop b t R r) i)):conjT (leTs [argC t (tabL t R).length F] [tCol (colS t R r (vv b (nth (tabL t R) r)))]):=by
 obtain ⟨a1,a2,a3,a4,a5⟩:=h.all
 have hl:Int.toNat ((t.length:Int) - 1)=t.length - 1:=by omega
 have ho:((colS t R r (vv b (nth (tabL t R) r))).order:Int)=(t.length:Int) - 1:=by show ((t.length - 1:Nat):Int)=_;omega
 show SEq (tabL t R).length F (cop b t R r).length (fun i=>eI (nth (cop b t R r) i))/\(t.length:Int) - 1=((colS t R r (vv b (nth (tabL t R) r))).order:Int)/\nth t (Int.toNat ((t.length:Int) - 1))=nth t (t.length - 1)/\nth t (Int.toNat ((t.length:Int) - 1))=nth t (t.length - 1)
 rw [hl,ho]
 exact ⟨hF,rfl,rfl,rfl⟩
theorem sngF {Gl} (S:SP Gl) (b:Int) (t:List Int) (R r:Nat) (h:Hg b t R r) (F:Nat->List C) (hF:SEq (tabL t R).length F (cop b t R r).length fun i=>eI (nth (cop b t R r) i)):
  CO Gl 11 [argC t (tabL t R).length F] (.ret (.tup [.c (.l eFix [⟨r,nth (tabL t R) r,nth (tabL t R) r⟩]),.c (Ci 0)])):=by
 obtain ⟨e1,e2,e3⟩:=colF h
 have h1:=single11 S _ e1
 rw [e3] at h1
 exact h1.args (arg_le h hF)
theorem lstF {Gl} (S:SP Gl) (b:Int) (t:List Int) (R r:Nat) (h:Hg b t R r) (F:Nat->List C) (hF:SEq (tabL t R).length F (cop b t R r).length fun i=>eI (nth (cop b t R r) i)):
  CO Gl 12 [argC t (tabL t R).length F] (.ret (.tup [.c (Ci r),.c (Ci (nth (tabL t R) r)),.c (Ci 0)])):=by
 obtain ⟨e1,e2,e3⟩:=colF h
 have h1:=least12 S _ _ e1 e2 e3
 have hc:(chgOf (colS t R r (vv b (nth (tabL t R) r))) ⟨r,nth (tabL t R) r,nth (tabL t R) r⟩).val=nth (tabL t R) r:=by
  unfold chgOf
  simp only
  omega
 rw [hc] at h1
 exact h1.args (arg_le h hF)
set_option maxRecDepth 100000
theorem num_of {n:Int} (h:(decide (n< -999)||decide (999<n))=false):num n=true:=by
 rw [Bool.or_eq_false_iff,decide_eq_false_iff_not,decide_eq_false_iff_not] at h
 exact num_iff.2 (by omega)
theorem law3t {Gl} (S:SP Gl) (t:List Int) (R r:Nat) (h:Hf t R r):CO Gl 3 [L eI t,I R,I r,B true] (.ret (B true)):=by
 refine fn_iq S (let A0:=(bif bif (r:Int)==(r:Int) then bif false then !eqL [nth (tabL t R) r,nth (tabL t R) r] [nth (tabL t R) r,nth (tabL t R) r] else eqL [nth (tabL t R) r,nth (tabL t R) r] [nth (tabL t R) r,nth (tabL t R) r] else false then (r:Int)==(r:Int) else false);let A1:=((1:Nat)<=maxLen->true=true/\true=true/\true=true/\((0:Int)<=0/\0<(↑(1:Nat):Int))/\true=true/\true=true/\true=true/\true=true/\(eqB (bif false then true else (r:Int) != (r:Int)) false=true->eqB (bif false then true else (r:Int) != (r:Int)) false=true)/\((bif false then true else (r:Int) != (r:Int))=false->eqB (bif false then true else (r:Int) != (r:Int)) false=true)/\(eqB (bif bif false then true else (r:Int) != (r:Int) then true else false) false=true->eqB (bif bif false then true else (r:Int) != (r:Int) then true else false) false=true)/\((eqB (bif bif false then true else (r:Int) != (r:Int) then true else false) false=true->(1:Nat)<=maxLen)->(eqB (bif bif false then true else (r:Int) != (r:Int) then true else false) false=true->eqB (bif bif false then true else (r:Int) != (r:Int) then true else false) false=true)/\((bif bif false then true else (r:Int) != (r:Int) then true else false)=false->eqB (bif bif false then true else (r:Int) != (r:Int) then true else false) false=true)/\(eqB (bif bif bif false then true else (r:Int) != (r:Int) then true else false then true else false) false=true->eqB (bif bif bif false then true else (r:Int) != (r:Int) then true else false then true else false) false=true)/\((bif bif bif false then true else (r:Int) != (r:Int) then true else false then true else false)=false->eqB (bif bif bif false then true else (r:Int) != (r:Int) then true else false then true else false) false=true)/\((bif bif bif bif false then true else (r:Int) != (r:Int) then true else false then true else false then true else false)=true->false=true)/\((bif bif bif bif false then true else (r:Int) != (r:Int) then true else false then true else false then true else false)=false->((0:Int)<=0/\0<(↑(1:Nat):Int))/\(eqB ((r:Int)==(r:Int)) true=true->eqB ((r:Int)==(r:Int)) true=true)/\(eqB ((r:Int)==(r:Int)) true=true->(0:Int)<=0/\0<(↑(1:Nat):Int))/\(eqB ((r:Int)==(r:Int)) true=true->eqB ((r:Int)==(r:Int)) true=true)/\(eqB ((r:Int)==(r:Int)) true=true->eqB ((r:Int)==(r:Int)) true=true)/\(eqB ((r:Int)==(r:Int)) true=true->eqB ((r:Int)==(r:Int)) true=true)/\(eqB ((r:Int)==(r:Int)) true=true->eqB ((r:Int)==(r:Int)) true=true)/\(eqB ((r:Int)==(r:Int)) true=true->0<=(r:Int)/\(r:Int)<(List.length (tabL t R):Int))/\(eqB ((r:Int)==(r:Int)) true=true->eqB ((r:Int)==(r:Int)) true=true)/\(eqB ((r:Int)==(r:Int)) true=true->eqB ((r:Int)==(r:Int)) true=true)/\(eqB ((r:Int)==(r:Int)) true=true->CO Gl 8 [I (nth (tabL t R) r)] (.ret (T.d (D.agg (eSpan (Span.mk (nth (tabL t R) r) (nth (tabL t R) r)))))))/\(eqB ((r:Int)==(r:Int)) true=true->eqB ((r:Int)==(r:Int)) true=true)/\(eqB ((r:Int)==(r:Int)) true=true->eqB ((r:Int)==(r:Int)) true=true)/\(((r:Int)==(r:Int))=true->eqB ((r:Int)==(r:Int)) true=true)/\(eqB (bif (r:Int)==(r:Int) then bif false then !eqL [nth (tabL t R) r,nth (tabL t R) r] [nth (tabL t R) r,nth (tabL t R) r] else eqL [nth (tabL t R) r,nth (tabL t R) r] [nth (tabL t R) r,nth (tabL t R) r] else false) true=true->eqB (bif (r:Int)==(r:Int) then bif false then !eqL [nth (tabL t R) r,nth (tabL t R) r] [nth (tabL t R) r,nth (tabL t R) r] else eqL [nth (tabL t R) r,nth (tabL t R) r] [nth (tabL t R) r,nth (tabL t R) r] else false) true=true)/\(eqB (bif (r:Int)==(r:Int) then bif false then !eqL [nth (tabL t R) r,nth (tabL t R) r] [nth (tabL t R) r,nth (tabL t R) r] else eqL [nth (tabL t R) r,nth (tabL t R) r] [nth (tabL t R) r,nth (tabL t R) r] else false) true=true->eqB (bif (r:Int)==(r:Int) then bif false then !eqL [nth (tabL t R) r,nth (tabL t R) r] [nth (tabL t R) r,nth (tabL t R) r] else eqL [nth (tabL t R) r,nth (tabL t R) r] [nth (tabL t R) r,nth (tabL t R) r] else false) true=true)/\((bif (r:Int)==(r:Int) then bif false then !eqL [nth (tabL t R) r,nth (tabL t R) r] [nth (tabL t R) r,nth (tabL t R) r] else eqL [nth (tabL t R) r,nth (tabL t R) r] [nth (tabL t R) r,nth (tabL t R) r] else false)=true->eqB (bif (r:Int)==(r:Int) then bif false then !eqL [nth (tabL t R) r,nth (tabL t R) r] [nth (tabL t R) r,nth (tabL t R) r] else eqL [nth (tabL t R) r,nth (tabL t R) r] [nth (tabL t R) r,nth (tabL t R) r] else false) true=true)/\(eqB A0 true=true->eqB A0 true=true)/\(eqB A0 true=true->eqB A0 true=true)/\(eqB A0 true=true->0<=(r:Int)/\(r:Int)<(List.length (tabL t R):Int))/\(eqB A0 true=true->eqB A0 true=true)/\(eqB A0 true=true->eqB A0 true=true)/\(eqB A0 true=true->eqB A0 true=true)/\(A0=true->eqB A0 true=true)/\(eqB (bif bif bif (r:Int)==(r:Int) then bif false then !eqL [nth (tabL t R) r,nth (tabL t R) r] [nth (tabL t R) r,nth (tabL t R) r] else eqL [nth (tabL t R) r,nth (tabL t R) r] [nth (tabL t R) r,nth (tabL t R) r] else false then (r:Int)==(r:Int) else false then nth (tabL t R) r==nth (tabL t R) r else false) true=true->CO Gl 7 [] (.ret (B true)))/\((bif bif bif (r:Int)==(r:Int) then bif false then !eqL [nth (tabL t R) r,nth (tabL t R) r] [nth (tabL t R) r,nth (tabL t R) r] else eqL [nth (tabL t R) r,nth (tabL t R) r] [nth (tabL t R) r,nth (tabL t R) r] else false then (r:Int)==(r:Int) else false then nth (tabL t R) r==nth (tabL t R) r else false)=true->eqB (bif bif bif (r:Int)==(r:Int) then bif false then !eqL [nth (tabL t R) r,nth (tabL t R) r] [nth (tabL t R) r,nth (tabL t R) r] else eqL [nth (tabL t R) r,nth (tabL t R) r] [nth (tabL t R) r,nth (tabL t R) r] else false then (r:Int)==(r:Int) else false then nth (tabL t R) r==nth (tabL t R) r else false) true=true)/\(bif bif bif bif (r:Int)==(r:Int) then bif false then !eqL [nth (tabL t R) r,nth (tabL t R) r] [nth (tabL t R) r,nth (tabL t R) r] else eqL [nth (tabL t R) r,nth (tabL t R) r] [nth (tabL t R) r,nth (tabL t R) r] else false then (r:Int)==(r:Int) else false then nth (tabL t R) r==nth (tabL t R) r else false then true else false)=true)));let A2:=(updF (fun i=>eI (nth (tabL t R) i)) r (List.map C.dem [C.v (Value.int IntKind.i64 (nth (tabL t R) r-(100:Int)))]));let A3:=(tabL t R);let A4:=(T.d (D.agg (eSpan (Span.mk (nth t (Int.toNat ((t.length:Int)-1))) (nth t (Int.toNat ((t.length:Int)-1)))))));let A5:=fun (k1:Nat)=>(eqB (decide (nth (tabL t R) k1<(-999:Int))) false=true->eqB (decide (nth (tabL t R) k1<(-999:Int))) false=true);let A6:=[D.c (C.l eErr [Err.mk (r:Int) (Rt.kind (rtOf A3 r) (vv (100:Int) (nth A3 r)))]),D.c (Ci 0)];let A7:=fun (k0:Nat)=>(eqB (decide (nth t k0<(-999:Int))) false=true->eqB (decide (nth t k0<(-999:Int))) false=true);let A8:=(0<=(r:Int)/\(r:Int)<(List.length A3:Int));let A9:=(t.length:Int);let A10:=[D.c (C.l eFix [Fix.mk r (nth A3 r) (nth A3 r)]),D.c (Ci 0)];let A11:=(updF A2 r (List.map C.dem [C.v (Value.int IntKind.i64 (nth A3 r+(100:Int)))]));let A12:=[D.c (Ci r),D.c (Ci (nth A3 r)),D.c (Ci 0)];let A13:=(Int.tdiv (max (nth A3 r) (-nth A3 r)) (100:Int));let A14:=fun (k1:Nat)=>(bif decide (nth (tabL t R) k1<(-999:Int)) then true else decide ((999:Int)<nth (tabL t R) k1));let A15:=(List.length A3);let A16:=(bif false then true else (List.length A3:Int) != (R:Int));let A17:=fun (k0:Nat)=>(bif decide (nth t k0<(-999:Int)) then true else decide ((999:Int)<nth t k0));let A18:=(T.d (D.agg (eSpan (Span.mk (nth A3 r) (nth A3 r)))));((.val 29 false (.sure 31 (.val 32 false (.sure 32 (.sure 35 (.sure 36 (.sure 37 (.val 38 false (.sure 38 (.sure 41 (.val 42 false (.sure 42 (.sure 45 (.sure 46 (.sure 49 (.sure 50 (.val 51 false (.sure 51 (.ff (.loop (upto num t) (fun k=>v 11 (I k)::v 10 (ad 10)::v 9 (I t.length)::v 0 (L eI t)::v 1 (I R)::v 2 (I r)::v 3 (B true)::tk 100 28::bx 10 [C.lt (100:Nat) eSpan (stTo t k),Ci R,Ci 0]) fun k0=>.br (.br (.r (.ret (B true)) .nil) (.r (.ret (T.d (D.agg (eSpan (Span.mk (nth t k0) (nth t k0)))))) .nil)) (.r (.ret (.tup [D.c (C.l eI A3),D.c (Ci 0)])) (.sure 93 (.sure 94 (.sure 95 (.sure 96 (.br .nil (.loop (upto num A3) (fun j=>[v 14 (I j),v 12 (L eI A3),v 9 (I t.length),v 0 (L eI t),v 1 (I R),v 2 (I r),v 3 (B true)]) fun k1=>.br (.br (.r (.ret (B true)) .nil) .nil) (.tt (.br (.r (.ret (B true)) .nil) (.arrA (nat_lit 134) (.br (.r (.ret (.tup A6)) (.r (.ret A4) (.r (.ret (.tup A10)) (.r (.ret (.tup A12)) (.sure 188 (.sure 189 (.sure 190 (.sure 193 (.sure 194 (.sure 195 (.sure 196 (.sure 197 (.sure 198 (.br .nil (.r (.ret A18) (.r (.ret (B true)) .nil)))))))))))))))) (.r (.ret (.tup A6)) (.r (.ret A4) (.r (.ret (.tup A10)) (.r (.ret (.tup A12)) (.sure 188 (.sure 189 (.sure 190 (.sure 193 (.sure 194 (.sure 195 (.sure 196 (.sure 197 (.sure 198 (.br .nil (.r (.ret A18) (.r (.ret (B true)) .nil))))))))))))))))))))))))))))))))))))))))))))))),(t.length<=maxLen->decide ((t.length:Int)<2)=false/\true=true/\decide (4<(t.length:Int))=false/\true=true/\true=true/\true=true/\true=true/\iR (A9+2)/\decide ((R:Int)<(t.length:Int)+2)=false/\true=true/\true=true/\decide (6<(R:Int))=false/\true=true/\true=true/\true=true/\true=true/\true=true/\decide ((R:Int)<=(r:Int))=false/\true=true/\false=false/\(0=(↑(0:Nat):Int)/\A9=A9/\(sR eI t)/\(R:Int)=(R:Int)/\(r:Int)=(r:Int)/\true=true/\(0:Nat)=(0:Nat)/\(R:Int)=(R:Int)/\(0:Int)=0)/\∀ (k0:Nat),k0<=upto num t->(decide ((k0:Int)<(t.length:Int))=true->(0<=(k0:Int)/\(k0:Int)<A9)/\(A7 k0)/\(A7 k0)/\(eqB (decide (nth t k0<(-999:Int))) false=true->0<=(k0:Int)/\(k0:Int)<A9)/\(A7 k0)/\(A7 k0)/\(decide (nth t k0<(-999:Int))=false->eqB (decide (nth t k0<(-999:Int))) false=true)/\((A17 k0)=true->CO Gl 7 [] (.ret (B true))/\true=true)/\((A17 k0)=false->(0<=(k0:Int)/\(k0:Int)<A9)/\CO Gl 8 [I (nth t k0)] (.ret (T.d (D.agg (eSpan (Span.mk (nth t k0) (nth t k0))))))/\(List.length (stTo t k0)+1)*16<=140737488355328/\List.length (stTo t k0)+1<=140737488355328/\iR ((k0:Int)+1)/\k0<upto num t/\(k0:Int)+1=(↑(k0+1):Int)/\A9=A9/\(sR eI t)/\(R:Int)=(R:Int)/\(r:Int)=(r:Int)/\true=true/\(SEq (List.length (stTo t k0)+1) (catF (List.length (stTo t k0)) (fun i=>eSpan (nth (stTo t k0) i)) fun i=>List.getD [List.map C.dem (List.map C.dem [C.v (Value.int IntKind.i64 (nth t k0)),C.v (Value.int IntKind.i64 (nth t k0))])] i []) (List.length (stTo t (k0+1))) fun i=>eSpan (nth (stTo t (k0+1)) i))/\(R:Int)=(R:Int)/\(0:Int)=0))/\(decide ((k0:Int)<(t.length:Int))=false->CO Gl 9 [T.d (D.agg [C.l eSpan (stTo t k0),Ci R,Ci 0]),L eI t] (.ret (.tup [D.c (C.l eI A3),D.c (Ci 0)]))/\true=true/\true=true/\(List.length A3<=maxLen->true=true/\true=true/\(A16=true->false=true)/\(A16=false->(0=(↑(0:Nat):Int)/\(sR eI A3)/\A9=A9/\(sR eI t)/\(R:Int)=(R:Int)/\(r:Int)=(r:Int)/\true=true)/\∀ (k1:Nat),k1<=upto num A3->(decide ((k1:Int)<(R:Int))=true->(0<=(k1:Int)/\(k1:Int)<(List.length A3:Int))/\(A5 k1)/\(A5 k1)/\(eqB (decide (nth (tabL t R) k1<(-999:Int))) false=true->0<=(k1:Int)/\(k1:Int)<(List.length A3:Int))/\(A5 k1)/\(A5 k1)/\(decide (nth (tabL t R) k1<(-999:Int))=false->eqB (decide (nth (tabL t R) k1<(-999:Int))) false=true)/\((A14 k1)=true->CO Gl 7 [] (.ret (B true))/\true=true)/\((A14 k1)=false->iR ((k1:Int)+1)/\k1<upto num A3/\(k1:Int)+1=(↑(k1+1):Int)/\(sR eI A3)/\A9=A9/\(sR eI t)/\(R:Int)=(R:Int)/\(r:Int)=(r:Int)/\true=true))/\(decide ((k1:Int)<(R:Int))=false->A8/\A8/\iR (-nth A3 r)/\true=true/\((100:Int)≠(0:Int)/\iR A13)/\(10:Int)≠(0:Int)/\((Int.tmod A13 (10:Int)==0)=true->CO Gl 7 [] (.ret (B true))/\true=true)/\((Int.tmod A13 (10:Int)==0)=false->(0:Nat)<List.length A3/\List.length A3*8<=140737488355328/\List.length A3<=(140737488355328:Nat)/\A8/\iR (nth A3 r-(100:Int))/\A8/\r<List.length A3/\A8/\(decide (nth (tabL t R) r<(0:Int))=true->A8/\iR (nth A3 r+(100:Int))/\A8/\r<List.length A3/\List.length A3=List.length A3/\CO Gl 10 [L eI A3,T.d (D.c (C.s Tag.n A15 A11))] (.ret (.tup A6))/\iR (A9-1)/\iR (A9-1)/\(0<=A9-1/\A9-1<A9)/\CO Gl 8 [I (nth t (Int.toNat (A9-1)))] (.ret A4)/\List.length A3=List.length A3/\CO Gl 11 [argC t A15 A11] (.ret (.tup A10))/\List.length A3=List.length A3/\CO Gl 12 [argC t A15 A11] (.ret (.tup A12))/\true=true/\true=true/\A1)/\(decide (nth (tabL t R) r<(0:Int))=false->List.length A3=List.length A3/\CO Gl 10 [L eI A3,T.d (D.c (C.s Tag.n A15 A2))] (.ret (.tup A6))/\iR (A9-1)/\iR (A9-1)/\(0<=A9-1/\A9-1<A9)/\CO Gl 8 [I (nth t (Int.toNat (A9-1)))] (.ret A4)/\List.length A3=List.length A3/\CO Gl 11 [argC t A15 A2] (.ret (.tup A10))/\List.length A3=List.length A3/\CO Gl 12 [argC t A15 A2] (.ret (.tup A12))/\true=true/\true=true/\A1))))))))) Tryz.func3 (by kernel_rfl) (by kernel_rfl) ?_
 obtain ⟨a1,a2,a3,a4,a5⟩:=h.all
 have hl:=tab_len t R
 have hK:=known7 S
 simp only [stdS,imp_self,implies_true,and_true,hl,maxLen_eq,rng_iff]
 refine fun hm=>⟨h.h1,h.h2,by omega,h.h3,h.h4,h.h6,fun k hk=>⟨fun hd=>⟨by have:=of_decide_eq_true hd;omega,fun _=>by have:=of_decide_eq_true hd;omega,fun _=>⟨hK,trivial⟩,fun hc=>?_⟩,fun hd=>?_⟩⟩
 ·have hlt:k<t.length:=by have:=of_decide_eq_true hd;omega
  have hs:=st_len t k (by omega)
  exact ⟨by omega,one8 S _,by omega,by omega,by omega,upto_lt hk hlt (num_of hc),by omega,SEq_push1 (f:=eSpan) (x:=⟨nth t k,nth t k⟩) (st_succ hlt) rfl,trivial⟩
 ·have hke:k=t.length:=by have:=of_decide_eq_false hd;have:=upto_le (p:=num) (l:=t);omega
  have ht:t.all num=true:=upto_all (by omega)
  refine ⟨tabK S t R r k h ht hke,fun _=>⟨fun hf=>by simp at hf,fun _ j hj=>⟨fun hd=>⟨by have:=of_decide_eq_true hd;omega,fun _=>by have:=of_decide_eq_true hd;omega,fun _=>⟨hK,trivial⟩,fun hc=>?_⟩,fun hd=>?_⟩⟩⟩
  ·have hlt:j<(tabL t R).length:=by have:=of_decide_eq_true hd;omega
   exact ⟨by omega,upto_lt hj hlt (num_of hc),by omega,trivial⟩
  ·have hje:j=R:=by have:=of_decide_eq_false hd;have:=upto_le (p:=num) (l:=tabL t R);omega
   have hn:(tabL t R).all num=true:=upto_all (by omega)
   have hx:=num_iff.1 (List.all_eq_true.1 hn _ (nth_mem (l:=tabL t R) (k:=r) (by omega)))
   have hab:max (nth (tabL t R) r) (-nth (tabL t R) r)=ab (nth (tabL t R) r):=rfl
   have hab0:0<=ab (nth (tabL t R) r)/\ab (nth (tabL t R) r)<=999:=by unfold ab;omega
   have hq1:Int.tdiv (ab (nth (tabL t R) r)) 100=ab (nth (tabL t R) r) / 100:=Int.tdiv_eq_ediv_of_nonneg hab0.1
   have hq2:Int.tmod (ab (nth (tabL t R) r) / 100) 10=ab (nth (tabL t R) r) / 100 % 10:=Int.tmod_eq_emod_of_nonneg (by omega)
   simp only [hab,hq1,hq2]
   refine ⟨by omega,by omega,by omega,by omega,by omega,fun _=>⟨hK,trivial⟩,fun hne=>?_⟩
   have hg:Hg 100 t R r:={ h with ht:=ht,hn:=hn,hb:=by omega,hd:=by simpa using hne }
   have hc3:=hg.col.2.2
   have hcn:∀ i,i<R->nth (cop 100 t R r) i=bif i.beq r then vv 100 (nth (tabL t R) r) else nth (tabL t R) i:=fun i hi=>by
    unfold cop
    by_cases hir:i=r
    ·subst hir
     rw [nth_set_self (by omega),Nat.beq_refl];rfl
    ·rw [nth_set_other (fun h2=>hir h2.symm),show i.beq r=false by rw [Bool.eq_false_iff];intro h2;exact hir (Nat.eq_of_beq_eq_true h2)];rfl
   refine ⟨by omega,by omega,by omega,by omega,by omega,by omega,by omega,by omega,fun hx0=>?_,fun hx0=>?_⟩
   ·have hv:vv 100 (nth (tabL t R) r)=nth (tabL t R) r+100:=by unfold vv;rw [if_pos (of_decide_eq_true hx0)]
    have hF:SEq (tabL t R).length (updF (updF (fun i=>eI (nth (tabL t R) i)) r (List.map C.dem [C.v (Value.int .i64 (nth (tabL t R) r - 100))])) r (List.map C.dem [C.v (Value.int .i64 (nth (tabL t R) r+100))])) (cop 100 t R r).length fun i=>eI (nth (cop 100 t R r) i):=by
     rw [hc3,hl]
     refine .of ⟨rfl,fun i hi=>?_⟩
     have:=hcn i hi
     rw [hv] at this
     show _=eI (nth (cop 100 t R r) i)
     rw [this]
     unfold updF
     cases i.beq r<;>rfl
    have hE:=errF S 100 t R r hg _ hF
    have hS:=sngF S 100 t R r hg _ hF
    have hL:=lstF S 100 t R r hg _ hF
    rw [hl] at hE hS hL
    have h8:=fun n=>one8 S n
    (repeat' (first|with_reducible apply And.intro|with_reducible intro _))<;>first|contradiction|with_reducible rfl|exact hE|exact hS|exact hL|exact h8 _|exact hK|omega|(simp [eqL];done)|(rename_i hq;simp at hq;done)
   ·have hv:vv 100 (nth (tabL t R) r)=nth (tabL t R) r - 100:=by unfold vv;rw [if_neg (of_decide_eq_false hx0)]
    have hF:SEq (tabL t R).length (updF (fun i=>eI (nth (tabL t R) i)) r (List.map C.dem [C.v (Value.int .i64 (nth (tabL t R) r - 100))])) (cop 100 t R r).length fun i=>eI (nth (cop 100 t R r) i):=by
     rw [hc3,hl]
     refine SEq_upd fun i hi=>?_
     rw [hcn i hi,hv]
    have hE:=errF S 100 t R r hg _ hF
    have hS:=sngF S 100 t R r hg _ hF
    have hL:=lstF S 100 t R r hg _ hF
    rw [hl] at hE hS hL
    have h8:=fun n=>one8 S n
    (repeat' (first|with_reducible apply And.intro|with_reducible intro _))<;>first|contradiction|with_reducible rfl|exact hE|exact hS|exact hL|exact h8 _|exact hK|omega|(simp [eqL];done)|(rename_i hq;simp at hq;done)
theorem law3f {Gl} (S:SP Gl) (t:List Int) (R r:Nat) (h:Hf t R r):CO Gl 3 [L eI t,I R,I r,B false] (.ret (B true)):=by
 refine fn_iq S (let A0:=(bif bif (r:Int)==(r:Int) then bif false then !eqL [nth (tabL t R) r,nth (tabL t R) r] [nth (tabL t R) r,nth (tabL t R) r] else eqL [nth (tabL t R) r,nth (tabL t R) r] [nth (tabL t R) r,nth (tabL t R) r] else false then (r:Int)==(r:Int) else false);let A1:=((1:Nat)<=maxLen->true=true/\true=true/\true=true/\((0:Int)<=0/\0<(↑(1:Nat):Int))/\true=true/\true=true/\true=true/\true=true/\(eqB (bif false then true else (r:Int) != (r:Int)) false=true->eqB (bif false then true else (r:Int) != (r:Int)) false=true)/\((bif false then true else (r:Int) != (r:Int))=false->eqB (bif false then true else (r:Int) != (r:Int)) false=true)/\(eqB (bif bif false then true else (r:Int) != (r:Int) then true else false) false=true->eqB (bif bif false then true else (r:Int) != (r:Int) then true else false) false=true)/\((eqB (bif bif false then true else (r:Int) != (r:Int) then true else false) false=true->(1:Nat)<=maxLen)->(eqB (bif bif false then true else (r:Int) != (r:Int) then true else false) false=true->eqB (bif bif false then true else (r:Int) != (r:Int) then true else false) false=true)/\((bif bif false then true else (r:Int) != (r:Int) then true else false)=false->eqB (bif bif false then true else (r:Int) != (r:Int) then true else false) false=true)/\(eqB (bif bif bif false then true else (r:Int) != (r:Int) then true else false then true else false) false=true->eqB (bif bif bif false then true else (r:Int) != (r:Int) then true else false then true else false) false=true)/\((bif bif bif false then true else (r:Int) != (r:Int) then true else false then true else false)=false->eqB (bif bif bif false then true else (r:Int) != (r:Int) then true else false then true else false) false=true)/\((bif bif bif bif false then true else (r:Int) != (r:Int) then true else false then true else false then true else false)=true->false=true)/\((bif bif bif bif false then true else (r:Int) != (r:Int) then true else false then true else false then true else false)=false->((0:Int)<=0/\0<(↑(1:Nat):Int))/\(eqB ((r:Int)==(r:Int)) true=true->eqB ((r:Int)==(r:Int)) true=true)/\(eqB ((r:Int)==(r:Int)) true=true->(0:Int)<=0/\0<(↑(1:Nat):Int))/\(eqB ((r:Int)==(r:Int)) true=true->eqB ((r:Int)==(r:Int)) true=true)/\(eqB ((r:Int)==(r:Int)) true=true->eqB ((r:Int)==(r:Int)) true=true)/\(eqB ((r:Int)==(r:Int)) true=true->eqB ((r:Int)==(r:Int)) true=true)/\(eqB ((r:Int)==(r:Int)) true=true->eqB ((r:Int)==(r:Int)) true=true)/\(eqB ((r:Int)==(r:Int)) true=true->0<=(r:Int)/\(r:Int)<(List.length (tabL t R):Int))/\(eqB ((r:Int)==(r:Int)) true=true->eqB ((r:Int)==(r:Int)) true=true)/\(eqB ((r:Int)==(r:Int)) true=true->eqB ((r:Int)==(r:Int)) true=true)/\(eqB ((r:Int)==(r:Int)) true=true->CO Gl 8 [I (nth (tabL t R) r)] (.ret (T.d (D.agg (eSpan (Span.mk (nth (tabL t R) r) (nth (tabL t R) r)))))))/\(eqB ((r:Int)==(r:Int)) true=true->eqB ((r:Int)==(r:Int)) true=true)/\(eqB ((r:Int)==(r:Int)) true=true->eqB ((r:Int)==(r:Int)) true=true)/\(((r:Int)==(r:Int))=true->eqB ((r:Int)==(r:Int)) true=true)/\(eqB (bif (r:Int)==(r:Int) then bif false then !eqL [nth (tabL t R) r,nth (tabL t R) r] [nth (tabL t R) r,nth (tabL t R) r] else eqL [nth (tabL t R) r,nth (tabL t R) r] [nth (tabL t R) r,nth (tabL t R) r] else false) true=true->eqB (bif (r:Int)==(r:Int) then bif false then !eqL [nth (tabL t R) r,nth (tabL t R) r] [nth (tabL t R) r,nth (tabL t R) r] else eqL [nth (tabL t R) r,nth (tabL t R) r] [nth (tabL t R) r,nth (tabL t R) r] else false) true=true)/\(eqB (bif (r:Int)==(r:Int) then bif false then !eqL [nth (tabL t R) r,nth (tabL t R) r] [nth (tabL t R) r,nth (tabL t R) r] else eqL [nth (tabL t R) r,nth (tabL t R) r] [nth (tabL t R) r,nth (tabL t R) r] else false) true=true->eqB (bif (r:Int)==(r:Int) then bif false then !eqL [nth (tabL t R) r,nth (tabL t R) r] [nth (tabL t R) r,nth (tabL t R) r] else eqL [nth (tabL t R) r,nth (tabL t R) r] [nth (tabL t R) r,nth (tabL t R) r] else false) true=true)/\((bif (r:Int)==(r:Int) then bif false then !eqL [nth (tabL t R) r,nth (tabL t R) r] [nth (tabL t R) r,nth (tabL t R) r] else eqL [nth (tabL t R) r,nth (tabL t R) r] [nth (tabL t R) r,nth (tabL t R) r] else false)=true->eqB (bif (r:Int)==(r:Int) then bif false then !eqL [nth (tabL t R) r,nth (tabL t R) r] [nth (tabL t R) r,nth (tabL t R) r] else eqL [nth (tabL t R) r,nth (tabL t R) r] [nth (tabL t R) r,nth (tabL t R) r] else false) true=true)/\(eqB A0 true=true->eqB A0 true=true)/\(eqB A0 true=true->eqB A0 true=true)/\(eqB A0 true=true->0<=(r:Int)/\(r:Int)<(List.length (tabL t R):Int))/\(eqB A0 true=true->eqB A0 true=true)/\(eqB A0 true=true->eqB A0 true=true)/\(eqB A0 true=true->eqB A0 true=true)/\(A0=true->eqB A0 true=true)/\(eqB (bif bif bif (r:Int)==(r:Int) then bif false then !eqL [nth (tabL t R) r,nth (tabL t R) r] [nth (tabL t R) r,nth (tabL t R) r] else eqL [nth (tabL t R) r,nth (tabL t R) r] [nth (tabL t R) r,nth (tabL t R) r] else false then (r:Int)==(r:Int) else false then nth (tabL t R) r==nth (tabL t R) r else false) true=true->CO Gl 7 [] (.ret (B true)))/\((bif bif bif (r:Int)==(r:Int) then bif false then !eqL [nth (tabL t R) r,nth (tabL t R) r] [nth (tabL t R) r,nth (tabL t R) r] else eqL [nth (tabL t R) r,nth (tabL t R) r] [nth (tabL t R) r,nth (tabL t R) r] else false then (r:Int)==(r:Int) else false then nth (tabL t R) r==nth (tabL t R) r else false)=true->eqB (bif bif bif (r:Int)==(r:Int) then bif false then !eqL [nth (tabL t R) r,nth (tabL t R) r] [nth (tabL t R) r,nth (tabL t R) r] else eqL [nth (tabL t R) r,nth (tabL t R) r] [nth (tabL t R) r,nth (tabL t R) r] else false then (r:Int)==(r:Int) else false then nth (tabL t R) r==nth (tabL t R) r else false) true=true)/\(bif bif bif bif (r:Int)==(r:Int) then bif false then !eqL [nth (tabL t R) r,nth (tabL t R) r] [nth (tabL t R) r,nth (tabL t R) r] else eqL [nth (tabL t R) r,nth (tabL t R) r] [nth (tabL t R) r,nth (tabL t R) r] else false then (r:Int)==(r:Int) else false then nth (tabL t R) r==nth (tabL t R) r else false then true else false)=true)));let A2:=(tabL t R);let A3:=(updF (fun i=>eI (nth A2 i)) r (List.map C.dem [C.v (Value.int IntKind.i64 (nth A2 r-(10:Int)))]));let A4:=(T.d (D.agg (eSpan (Span.mk (nth t (Int.toNat ((t.length:Int)-1))) (nth t (Int.toNat ((t.length:Int)-1)))))));let A5:=fun (k1:Nat)=>(eqB (decide (nth (tabL t R) k1<(-999:Int))) false=true->eqB (decide (nth (tabL t R) k1<(-999:Int))) false=true);let A6:=[D.c (C.l eErr [Err.mk (r:Int) (Rt.kind (rtOf A2 r) (vv (10:Int) (nth A2 r)))]),D.c (Ci 0)];let A7:=fun (k0:Nat)=>(eqB (decide (nth t k0<(-999:Int))) false=true->eqB (decide (nth t k0<(-999:Int))) false=true);let A8:=(0<=(r:Int)/\(r:Int)<(List.length A2:Int));let A9:=(t.length:Int);let A10:=[D.c (C.l eFix [Fix.mk r (nth A2 r) (nth A2 r)]),D.c (Ci 0)];let A11:=(updF A3 r (List.map C.dem [C.v (Value.int IntKind.i64 (nth A2 r+(10:Int)))]));let A12:=[D.c (Ci r),D.c (Ci (nth A2 r)),D.c (Ci 0)];let A13:=(Int.tdiv (max (nth A2 r) (-nth A2 r)) (10:Int));let A14:=fun (k1:Nat)=>(bif decide (nth (tabL t R) k1<(-999:Int)) then true else decide ((999:Int)<nth (tabL t R) k1));let A15:=(List.length A2);let A16:=(bif false then true else (List.length A2:Int) != (R:Int));let A17:=fun (k0:Nat)=>(bif decide (nth t k0<(-999:Int)) then true else decide ((999:Int)<nth t k0));let A18:=(T.d (D.agg (eSpan (Span.mk (nth A2 r) (nth A2 r)))));((.val 29 false (.sure 31 (.val 32 false (.sure 32 (.sure 35 (.sure 36 (.sure 37 (.val 38 false (.sure 38 (.sure 41 (.val 42 false (.sure 42 (.sure 45 (.sure 46 (.sure 49 (.sure 50 (.val 51 false (.sure 51 (.ff (.loop (upto num t) (fun k=>v 11 (I k)::v 10 (ad 10)::v 9 (I t.length)::v 0 (L eI t)::v 1 (I R)::v 2 (I r)::v 3 (B false)::tk 100 28::bx 10 [C.lt (100:Nat) eSpan (stTo t k),Ci R,Ci 0]) fun k0=>.br (.br (.r (.ret (B true)) .nil) (.r (.ret (T.d (D.agg (eSpan (Span.mk (nth t k0) (nth t k0)))))) .nil)) (.r (.ret (.tup [D.c (C.l eI A2),D.c (Ci 0)])) (.sure 93 (.sure 94 (.sure 95 (.sure 96 (.br .nil (.loop (upto num A2) (fun j=>[v 14 (I j),v 12 (L eI A2),v 9 (I t.length),v 0 (L eI t),v 1 (I R),v 2 (I r),v 3 (B false)]) fun k1=>.br (.br (.r (.ret (B true)) .nil) .nil) (.ff (.br (.r (.ret (B true)) .nil) (.arrA (nat_lit 134) (.br (.r (.ret (.tup A6)) (.r (.ret A4) (.r (.ret (.tup A10)) (.r (.ret (.tup A12)) (.sure 188 (.sure 189 (.sure 190 (.sure 193 (.sure 194 (.sure 195 (.sure 196 (.sure 197 (.sure 198 (.br .nil (.r (.ret A18) (.r (.ret (B true)) .nil)))))))))))))))) (.r (.ret (.tup A6)) (.r (.ret A4) (.r (.ret (.tup A10)) (.r (.ret (.tup A12)) (.sure 188 (.sure 189 (.sure 190 (.sure 193 (.sure 194 (.sure 195 (.sure 196 (.sure 197 (.sure 198 (.br .nil (.r (.ret A18) (.r (.ret (B true)) .nil))))))))))))))))))))))))))))))))))))))))))))))),(t.length<=maxLen->decide ((t.length:Int)<2)=false/\true=true/\decide (4<(t.length:Int))=false/\true=true/\true=true/\true=true/\true=true/\iR (A9+2)/\decide ((R:Int)<(t.length:Int)+2)=false/\true=true/\true=true/\decide (6<(R:Int))=false/\true=true/\true=true/\true=true/\true=true/\true=true/\decide ((R:Int)<=(r:Int))=false/\true=true/\false=false/\(0=(↑(0:Nat):Int)/\A9=A9/\(sR eI t)/\(R:Int)=(R:Int)/\(r:Int)=(r:Int)/\false=false/\(0:Nat)=(0:Nat)/\(R:Int)=(R:Int)/\(0:Int)=0)/\∀ (k0:Nat),k0<=upto num t->(decide ((k0:Int)<(t.length:Int))=true->(0<=(k0:Int)/\(k0:Int)<A9)/\(A7 k0)/\(A7 k0)/\(eqB (decide (nth t k0<(-999:Int))) false=true->0<=(k0:Int)/\(k0:Int)<A9)/\(A7 k0)/\(A7 k0)/\(decide (nth t k0<(-999:Int))=false->eqB (decide (nth t k0<(-999:Int))) false=true)/\((A17 k0)=true->CO Gl 7 [] (.ret (B true))/\true=true)/\((A17 k0)=false->(0<=(k0:Int)/\(k0:Int)<A9)/\CO Gl 8 [I (nth t k0)] (.ret (T.d (D.agg (eSpan (Span.mk (nth t k0) (nth t k0))))))/\(List.length (stTo t k0)+1)*16<=140737488355328/\List.length (stTo t k0)+1<=140737488355328/\iR ((k0:Int)+1)/\k0<upto num t/\(k0:Int)+1=(↑(k0+1):Int)/\A9=A9/\(sR eI t)/\(R:Int)=(R:Int)/\(r:Int)=(r:Int)/\false=false/\(SEq (List.length (stTo t k0)+1) (catF (List.length (stTo t k0)) (fun i=>eSpan (nth (stTo t k0) i)) fun i=>List.getD [List.map C.dem (List.map C.dem [C.v (Value.int IntKind.i64 (nth t k0)),C.v (Value.int IntKind.i64 (nth t k0))])] i []) (List.length (stTo t (k0+1))) fun i=>eSpan (nth (stTo t (k0+1)) i))/\(R:Int)=(R:Int)/\(0:Int)=0))/\(decide ((k0:Int)<(t.length:Int))=false->CO Gl 9 [T.d (D.agg [C.l eSpan (stTo t k0),Ci R,Ci 0]),L eI t] (.ret (.tup [D.c (C.l eI A2),D.c (Ci 0)]))/\true=true/\true=true/\(List.length A2<=maxLen->true=true/\true=true/\(A16=true->false=true)/\(A16=false->(0=(↑(0:Nat):Int)/\(sR eI A2)/\A9=A9/\(sR eI t)/\(R:Int)=(R:Int)/\(r:Int)=(r:Int)/\false=false)/\∀ (k1:Nat),k1<=upto num A2->(decide ((k1:Int)<(R:Int))=true->(0<=(k1:Int)/\(k1:Int)<(List.length A2:Int))/\(A5 k1)/\(A5 k1)/\(eqB (decide (nth (tabL t R) k1<(-999:Int))) false=true->0<=(k1:Int)/\(k1:Int)<(List.length A2:Int))/\(A5 k1)/\(A5 k1)/\(decide (nth (tabL t R) k1<(-999:Int))=false->eqB (decide (nth (tabL t R) k1<(-999:Int))) false=true)/\((A14 k1)=true->CO Gl 7 [] (.ret (B true))/\true=true)/\((A14 k1)=false->iR ((k1:Int)+1)/\k1<upto num A2/\(k1:Int)+1=(↑(k1+1):Int)/\(sR eI A2)/\A9=A9/\(sR eI t)/\(R:Int)=(R:Int)/\(r:Int)=(r:Int)/\false=false))/\(decide ((k1:Int)<(R:Int))=false->A8/\A8/\iR (-nth A2 r)/\false=false/\((10:Int)≠(0:Int)/\iR A13)/\(10:Int)≠(0:Int)/\((Int.tmod A13 (10:Int)==0)=true->CO Gl 7 [] (.ret (B true))/\true=true)/\((Int.tmod A13 (10:Int)==0)=false->(0:Nat)<List.length A2/\List.length A2*8<=140737488355328/\List.length A2<=(140737488355328:Nat)/\A8/\iR (nth A2 r-(10:Int))/\A8/\r<List.length A2/\A8/\(decide (nth (tabL t R) r<(0:Int))=true->A8/\iR (nth A2 r+(10:Int))/\A8/\r<List.length A2/\List.length A2=List.length A2/\CO Gl 10 [L eI A2,T.d (D.c (C.s Tag.n A15 A11))] (.ret (.tup A6))/\iR (A9-1)/\iR (A9-1)/\(0<=A9-1/\A9-1<A9)/\CO Gl 8 [I (nth t (Int.toNat (A9-1)))] (.ret A4)/\List.length A2=List.length A2/\CO Gl 11 [argC t A15 A11] (.ret (.tup A10))/\List.length A2=List.length A2/\CO Gl 12 [argC t A15 A11] (.ret (.tup A12))/\true=true/\true=true/\A1)/\(decide (nth (tabL t R) r<(0:Int))=false->List.length A2=List.length A2/\CO Gl 10 [L eI A2,T.d (D.c (C.s Tag.n A15 A3))] (.ret (.tup A6))/\iR (A9-1)/\iR (A9-1)/\(0<=A9-1/\A9-1<A9)/\CO Gl 8 [I (nth t (Int.toNat (A9-1)))] (.ret A4)/\List.length A2=List.length A2/\CO Gl 11 [argC t A15 A3] (.ret (.tup A10))/\List.length A2=List.length A2/\CO Gl 12 [argC t A15 A3] (.ret (.tup A12))/\true=true/\true=true/\A1))))))))) Tryz.func3 (by kernel_rfl) (by kernel_rfl) ?_
 obtain ⟨a1,a2,a3,a4,a5⟩:=h.all
 have hl:=tab_len t R
 have hK:=known7 S
 simp only [stdS,imp_self,implies_true,and_true,hl,maxLen_eq,rng_iff]
 refine fun hm=>⟨h.h1,h.h2,by omega,h.h3,h.h4,h.h6,fun k hk=>⟨fun hd=>⟨by have:=of_decide_eq_true hd;omega,fun _=>by have:=of_decide_eq_true hd;omega,fun _=>⟨hK,trivial⟩,fun hc=>?_⟩,fun hd=>?_⟩⟩
 ·have hlt:k<t.length:=by have:=of_decide_eq_true hd;omega
  have hs:=st_len t k (by omega)
  exact ⟨by omega,one8 S _,by omega,by omega,by omega,upto_lt hk hlt (num_of hc),by omega,SEq_push1 (f:=eSpan) (x:=⟨nth t k,nth t k⟩) (st_succ hlt) rfl,trivial⟩
 ·have hke:k=t.length:=by have:=of_decide_eq_false hd;have:=upto_le (p:=num) (l:=t);omega
  have ht:t.all num=true:=upto_all (by omega)
  refine ⟨tabK S t R r k h ht hke,fun _=>⟨fun hf=>by simp at hf,fun _ j hj=>⟨fun hd=>⟨by have:=of_decide_eq_true hd;omega,fun _=>by have:=of_decide_eq_true hd;omega,fun _=>⟨hK,trivial⟩,fun hc=>?_⟩,fun hd=>?_⟩⟩⟩
  ·have hlt:j<(tabL t R).length:=by have:=of_decide_eq_true hd;omega
   exact ⟨by omega,upto_lt hj hlt (num_of hc),by omega,trivial⟩
  ·have hje:j=R:=by have:=of_decide_eq_false hd;have:=upto_le (p:=num) (l:=tabL t R);omega
   have hn:(tabL t R).all num=true:=upto_all (by omega)
   have hx:=num_iff.1 (List.all_eq_true.1 hn _ (nth_mem (l:=tabL t R) (k:=r) (by omega)))
   have hab:max (nth (tabL t R) r) (-nth (tabL t R) r)=ab (nth (tabL t R) r):=rfl
   have hab0:0<=ab (nth (tabL t R) r)/\ab (nth (tabL t R) r)<=999:=by unfold ab;omega
   have hq1:Int.tdiv (ab (nth (tabL t R) r)) 10=ab (nth (tabL t R) r) / 10:=Int.tdiv_eq_ediv_of_nonneg hab0.1
   have hq2:Int.tmod (ab (nth (tabL t R) r) / 10) 10=ab (nth (tabL t R) r) / 10 % 10:=Int.tmod_eq_emod_of_nonneg (by omega)
   simp only [hab,hq1,hq2]
   refine ⟨by omega,by omega,by omega,by omega,by omega,fun _=>⟨hK,trivial⟩,fun hne=>?_⟩
   have hg:Hg 10 t R r:={ h with ht:=ht,hn:=hn,hb:=by omega,hd:=by simpa using hne }
   have hc3:=hg.col.2.2
   have hcn:∀ i,i<R->nth (cop 10 t R r) i=bif i.beq r then vv 10 (nth (tabL t R) r) else nth (tabL t R) i:=fun i hi=>by
    unfold cop
    by_cases hir:i=r
    ·subst hir
     rw [nth_set_self (by omega),Nat.beq_refl];rfl
    ·rw [nth_set_other (fun h2=>hir h2.symm),show i.beq r=false by rw [Bool.eq_false_iff];intro h2;exact hir (Nat.eq_of_beq_eq_true h2)];rfl
   refine ⟨by omega,by omega,by omega,by omega,by omega,by omega,by omega,by omega,fun hx0=>?_,fun hx0=>?_⟩
   ·have hv:vv 10 (nth (tabL t R) r)=nth (tabL t R) r+10:=by unfold vv;rw [if_pos (of_decide_eq_true hx0)]
    have hF:SEq (tabL t R).length (updF (updF (fun i=>eI (nth (tabL t R) i)) r (List.map C.dem [C.v (Value.int .i64 (nth (tabL t R) r - 10))])) r (List.map C.dem [C.v (Value.int .i64 (nth (tabL t R) r+10))])) (cop 10 t R r).length fun i=>eI (nth (cop 10 t R r) i):=by
     rw [hc3,hl]
     refine .of ⟨rfl,fun i hi=>?_⟩
     have:=hcn i hi
     rw [hv] at this
     show _=eI (nth (cop 10 t R r) i)
     rw [this]
     unfold updF
     cases i.beq r<;>rfl
    have hE:=errF S 10 t R r hg _ hF
    have hS:=sngF S 10 t R r hg _ hF
    have hL:=lstF S 10 t R r hg _ hF
    rw [hl] at hE hS hL
    have h8:=fun n=>one8 S n
    (repeat' (first|with_reducible apply And.intro|with_reducible intro _))<;>first|contradiction|with_reducible rfl|exact hE|exact hS|exact hL|exact h8 _|exact hK|omega|(simp [eqL];done)|(rename_i hq;simp at hq;done)
   ·have hv:vv 10 (nth (tabL t R) r)=nth (tabL t R) r - 10:=by unfold vv;rw [if_neg (of_decide_eq_false hx0)]
    have hF:SEq (tabL t R).length (updF (fun i=>eI (nth (tabL t R) i)) r (List.map C.dem [C.v (Value.int .i64 (nth (tabL t R) r - 10))])) (cop 10 t R r).length fun i=>eI (nth (cop 10 t R r) i):=by
     rw [hc3,hl]
     refine SEq_upd fun i hi=>?_
     rw [hcn i hi,hv]
    have hE:=errF S 10 t R r hg _ hF
    have hS:=sngF S 10 t R r hg _ hF
    have hL:=lstF S 10 t R r hg _ hF
    rw [hl] at hE hS hL
    have h8:=fun n=>one8 S n
    (repeat' (first|with_reducible apply And.intro|with_reducible intro _))<;>first|contradiction|with_reducible rfl|exact hE|exact hS|exact hL|exact h8 _|exact hK|omega|(simp [eqL];done)|(rename_i hq;simp at hq;done)
theorem hf_of {t:List Int} {rows row:Int} (hg:(bif bif bif bif bif decide ((t.length:Int)<2) then true else decide (4<(t.length:Int)) then true else decide (rows<(t.length:Int)+2) then true else decide (6<rows) then true else decide (row<0) then true else decide (rows<=row))=false):
  ∃ R r:Nat,rows=R/\row=r/\Hf t R r:=by
 simp only [bif_or,Bool.or_eq_false_iff,decide_eq_false_iff_not] at hg
 refine ⟨rows.toNat,row.toNat,by omega,by omega,⟨decide_eq_false (by omega),decide_eq_false (by omega),decide_eq_false (by omega),decide_eq_false (by omega),decide_eq_false (by omega),decide_eq_false (by omega)⟩⟩
theorem law3 {Gl} (S:SP Gl) (t:List Int) (rows row:Int) (b:Bool):CO Gl 3 [L eI t,I rows,I row,B b] (.ret (B true)):=by
 cases hg:(bif bif bif bif bif decide ((t.length:Int)<2) then true else decide (4<(t.length:Int)) then true else decide (rows<(t.length:Int)+2) then true else decide (6<rows) then true else decide (row<0) then true else decide (rows<=row)) with
 |true=>exact law3k S t rows row b hg
 |false=>
  obtain ⟨R,r,rfl,rfl,h⟩:=hf_of hg
  cases b with
  |true=>exact law3t S t R r h
  |false=>exact law3f S t R r h
end Go.Vc.Zn
