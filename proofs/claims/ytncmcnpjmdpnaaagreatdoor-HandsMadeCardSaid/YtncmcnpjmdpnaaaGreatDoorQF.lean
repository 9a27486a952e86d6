/- A part of the proofs over layer 2 (hands): the program and the specification; no condition. -/
import Derived.Test.YtncmcnpjmdpnaaaGreatDoorQE
set_option linter.all false
set_option linter.unusedSimpArgs false
set_option linter.unusedVariables false
namespace Go.Vc.Hn
open Go Go.Vc
theorem turned_fig {r n:Int} (hr:num r=true) (h:isTurned r n=true):num n=true/\fA r+fB r+fC r=fA n+fB n+fC n/\∃ k:Int,ab r - ab n=9*k:=by
 have hr:=num_iff.1 hr
 have h0:0<=ab r:=by unfold ab;omega
 have h1:ab r<=999:=by unfold ab;omega
 obtain ⟨p,q,t,hp,hq,ht,he⟩:=digs3 h0 h1
 obtain ⟨e1,e2,e3⟩:=figs hp hq ht he
 unfold isTurned at h
 rw [e1,e2,e3,Bool.or_eq_true,beq_iff_eq,beq_iff_eq] at h
 have main:(ab n=100*q+10*p+t∨ab n=100*p+10*t+q)/\-999<=n/\n<=999:=by
  by_cases hn:r<0
  ·rw [sg_neg hn,sg_neg hn] at h
   unfold ab
   rcases h with h|h
   ·exact ⟨.inl (by omega),by omega,by omega⟩
   ·exact ⟨.inr (by omega),by omega,by omega⟩
  ·rw [sg_pos hn,sg_pos hn] at h
   unfold ab
   rcases h with h|h
   ·exact ⟨.inl (by omega),by omega,by omega⟩
   ·exact ⟨.inr (by omega),by omega,by omega⟩
 refine ⟨num_iff.2 main.2,?_⟩
 rw [e1,e2,e3,he]
 rcases main.1 with hm|hm
 ·obtain ⟨f1,f2,f3⟩:=figs hq hp ht hm
  rw [f1,f2,f3,hm]
  exact ⟨by omega,10*(p - q),by omega⟩
 ·obtain ⟨f1,f2,f3⟩:=figs hp ht hq hm
  rw [f1,f2,f3,hm]
  exact ⟨by omega,q - t,by omega⟩
theorem carried_fig {r n:Int} (hr:num r=true) (h:isCarried r n=true):num n=true/\(ab r - ab n=10∨ab r - ab n=100):=by
 have hr:=num_iff.1 hr
 have h0:0<=ab r:=by unfold ab;omega
 have h1:ab r<=999:=by unfold ab;omega
 obtain ⟨p,q,t,hp,hq,ht,he⟩:=digs3 h0 h1
 obtain ⟨e1,e2,e3⟩:=figs hp hq ht he
 unfold isCarried at h
 rw [e1,e2,e3,Bool.or_eq_true,Bool.and_eq_true,Bool.and_eq_true,decide_eq_true_eq,decide_eq_true_eq,beq_iff_eq,beq_iff_eq] at h
 have main:(ab n=100*(p - 1)+10*q+t∨ab n=100*p+10*(q - 1)+t)/\-999<=n/\n<=999:=by
  by_cases hn:r<0
  ·rw [sg_neg hn,sg_neg hn] at h
   unfold ab
   rcases h with ⟨h0,h⟩|⟨h0,h⟩
   ·exact ⟨.inl (by omega),by omega,by omega⟩
   ·exact ⟨.inr (by omega),by omega,by omega⟩
  ·rw [sg_pos hn,sg_pos hn] at h
   unfold ab
   rcases h with ⟨h0,h⟩|⟨h0,h⟩
   ·exact ⟨.inl (by omega),by omega,by omega⟩
   ·exact ⟨.inr (by omega),by omega,by omega⟩
 refine ⟨num_iff.2 main.2,?_⟩
 rcases main.1 with hm|hm
 ·exact .inr (by omega)
 ·exact .inl (by omega)
theorem kind_cases (r:Rt) (n:Int):(isTurned r.n n=true/\r.kind n=1)∨(isCarried r.n n=true/\r.kind n=2)∨(n=-r.n/\r.kind n=3)∨(r.last=false/\n=r.next/\r.kind n=4)∨(isTurned r.n n=false/\isCarried r.n n=false/\n≠-r.n/\(r.last=false->n≠r.next)/\r.kind n=0):=by
 unfold Rt.kind
 cases h1:isTurned r.n n with
 |true=>exact .inl ⟨rfl,rfl⟩
 |false=>
  cases h2:isCarried r.n n with
  |true=>exact .inr (.inl ⟨rfl,rfl⟩)
  |false=>
   cases h3:n==-r.n with
   |true=>exact .inr (.inr (.inl ⟨eq_of_beq h3,rfl⟩))
   |false=>
    cases h4:r.last with
    |true=>exact .inr (.inr (.inr (.inr ⟨rfl,rfl,beq_eq_false_iff_ne.1 h3,fun h=>(by cases h),rfl⟩)))
    |false=>
     cases h5:n==r.next with
     |true=>exact .inr (.inr (.inr (.inl ⟨rfl,eq_of_beq h5,by simp⟩)))
     |false=>exact .inr (.inr (.inr (.inr ⟨rfl,rfl,beq_eq_false_iff_ne.1 h3,fun _=>beq_eq_false_iff_ne.1 h5,by simp⟩)))
theorem rt_last {l:List Int} {i:Nat} (hi:i<l.length):((rtOf l i).last=false↔i+1<l.length)/\((rtOf l i).last=false->(rtOf l i).next=nth l (i+1)):=by
 unfold rtOf
 cases hb:(i+1).beq l.length with
 |true=>
  have:=Nat.eq_of_beq_eq_true hb
  exact ⟨⟨fun h=>(by cases h),fun h=>by omega⟩,fun h=>(by cases h)⟩
 |false=>
  have:¬ i+1=l.length:=fun h=>by rw [h,show l.length.beq l.length=true from Nat.beq_refl _] at hb;cases hb
  exact ⟨⟨fun _=>by omega,fun _=>rfl⟩,fun _=>rfl⟩
theorem wrote_ok {l:List Int} (hl:l.all num=true) {i:Nat} (hi:i<l.length) {k n:Int} (h:n∈wroteL l i k):num n=true/\(rtOf l i).kind n≠0:=by
 have hx:=num_nth hl i hi
 have hk:=kind_cases (rtOf l i) n
 rw [rt_n] at hk
 unfold wroteL at h
 by_cases h1:k=1
 ·rw [beq_iff_eq.2 h1,cond_true] at h
  have ht:isTurned (nth l i) n=true:=by
   unfold turnedL at h
   unfold isTurned
   rw [Bool.or_eq_true,beq_iff_eq,beq_iff_eq]
   simpa using h
  refine ⟨(turned_fig hx ht).1,fun h0=>?_⟩
  rw [ht,h0] at hk
  simp at hk
 ·rw [beq_eq_false_iff_ne.2 h1,cond_false] at h
  by_cases h2:k=2
  ·rw [beq_iff_eq.2 h2,cond_true] at h
   have ht:isCarried (nth l i) n=true:=by
    unfold carriedL at h
    unfold isCarried
    rw [Bool.or_eq_true,Bool.and_eq_true,Bool.and_eq_true,decide_eq_true_eq,decide_eq_true_eq,beq_iff_eq,beq_iff_eq]
    rcases List.mem_append.1 h with h|h
    ·by_cases hp:0<fA (nth l i)
     ·rw [if_pos hp] at h;exact .inl ⟨hp,List.mem_singleton.1 h⟩
     ·rw [if_neg hp] at h;exact absurd h List.not_mem_nil
    ·by_cases hp:0<fB (nth l i)
     ·rw [if_pos hp] at h;exact .inr ⟨hp,List.mem_singleton.1 h⟩
     ·rw [if_neg hp] at h;exact absurd h List.not_mem_nil
   refine ⟨(carried_fig hx ht).1,fun h0=>?_⟩
   rw [ht,h0] at hk
   simp at hk
  ·rw [beq_eq_false_iff_ne.2 h2,cond_false] at h
   by_cases h3:k=3
   ·rw [beq_iff_eq.2 h3,cond_true] at h
    have ht:=List.mem_singleton.1 h
    refine ⟨by rw [ht,num_iff];have:=num_iff.1 hx;omega,fun h0=>?_⟩
    rw [h0] at hk
    rcases hk with ⟨_,hk⟩|⟨_,hk⟩|⟨_,hk⟩|⟨_,_,hk⟩|⟨_,_,hk,_⟩
    ·omega
    ·omega
    ·omega
    ·omega
    ·exact hk ht
   ·rw [beq_eq_false_iff_ne.2 h3,cond_false] at h
    by_cases h4:k=4
    ·rw [beq_iff_eq.2 h4,cond_true] at h
     by_cases hlt:i+1<l.length
     ·rw [decide_eq_true hlt,cond_true] at h
      have ht:=List.mem_singleton.1 h
      obtain ⟨r1,r2⟩:=rt_last hi
      refine ⟨by rw [ht];exact num_nth hl _ hlt,fun h0=>?_⟩
      rw [h0] at hk
      rcases hk with ⟨_,hk⟩|⟨_,hk⟩|⟨_,hk⟩|⟨_,_,hk⟩|⟨_,_,_,hk,_⟩
      ·omega
      ·omega
      ·omega
      ·omega
      ·exact hk (r1.2 hlt) (by rw [r2 (r1.2 hlt)];exact ht)
     ·rw [decide_eq_false hlt,cond_false] at h;exact absurd h List.not_mem_nil
    ·rw [beq_eq_false_iff_ne.2 h4,cond_false] at h;exact absurd h List.not_mem_nil
def copyAt (l ks:List Int) (sec:List Bool) (i:Nat):Int:=bif wroteB l i (nth ks i) then wroteN l i (nth ks i) (nth sec i) else nth l i
def copyL (l ks:List Int) (sec:List Bool):List Int:=(List.range l.length).map (copyAt l ks sec)
theorem copyL_len (l ks:List Int) (sec:List Bool):(copyL l ks sec).length=l.length:=by unfold copyL;rw [List.length_map,List.length_range]
theorem copyL_at {l ks:List Int} {sec:List Bool} {i:Nat} (hi:i<l.length):nth (copyL l ks sec) i=copyAt l ks sec i:=by
 unfold copyL
 rw [nth_map (by rw [List.length_range];exact hi),nth_range hi]
theorem copyAt_ok {l:List Int} (hl:l.all num=true) {i:Nat} (hi:i<l.length) (ks:List Int) (sec:List Bool):num (copyAt l ks sec i)=true/\(copyAt l ks sec i=nth l i∨(rtOf l i).kind (copyAt l ks sec i)≠0):=by
 unfold copyAt
 cases hb:wroteB l i (nth ks i) with
 |false=>exact ⟨num_nth hl i hi,.inl rfl⟩
 |true=>
  have h0:(wroteL l i (nth ks i)).length≠0:=by
   unfold wroteB at hb
   simpa using hb
  have hm:wroteN l i (nth ks i) (nth sec i)∈wroteL l i (nth ks i):=by
   unfold wroteN
   cases nth sec i with
   |true=>exact nth_mem (by omega)
   |false=>exact nth_mem (by omega)
  obtain ⟨h1,h2⟩:=wrote_ok hl hi hm
  exact ⟨h1,.inr h2⟩
theorem copyL_num {l:List Int} (hl:l.all num=true) (ks:List Int) (sec:List Bool):(copyL l ks sec).all num=true:=by
 refine List.all_eq_true.2 fun x hx=>?_
 obtain ⟨i,hi,rfl⟩:=mem_nth hx
 rw [copyL_len] at hi
 rw [copyL_at hi]
 exact (copyAt_ok hl hi ks sec).1
theorem copyL_ok {l:List Int} (hl:l.all num=true) (ks:List Int) (sec:List Bool):errOK l (copyL l ks sec)=true:=by
 unfold errOK
 refine List.all_eq_true.2 fun i hi=>?_
 have hi:=List.mem_range.1 hi
 unfold okRow
 rw [copyL_at hi,Bool.or_eq_true,beq_iff_eq,bne_iff_ne]
 exact (copyAt_ok hl hi ks sec).2
def fineK (l:List Int) (i:Nat) (n kind:Int):Prop:=
 (kind=1/\fA (nth l i)+fB (nth l i)+fC (nth l i)=fA n+fB n+fC n/\∃ k:Int,ab (nth l i) - ab n=9*k)∨(kind=2/\(ab (nth l i) - ab n=10∨ab (nth l i) - ab n=100))∨(kind=3/\n=-nth l i)∨(kind=4/\i+1<l.length/\n=nth l (i+1))
theorem kind_fine {l:List Int} (hl:l.all num=true) {i:Nat} (hi:i<l.length) {n:Int} (h:(rtOf l i).kind n≠0):fineK l i n ((rtOf l i).kind n):=by
 have hx:=num_nth hl i hi
 have hk:=kind_cases (rtOf l i) n
 rw [rt_n] at hk
 obtain ⟨r1,r2⟩:=rt_last hi
 rcases hk with ⟨h1,hk⟩|⟨h1,hk⟩|⟨h1,hk⟩|⟨h0,h1,hk⟩|⟨_,_,_,_,hk⟩
 ·exact .inl ⟨hk,(turned_fig hx h1).2⟩
 ·exact .inr (.inl ⟨hk,(carried_fig hx h1).2⟩)
 ·exact .inr (.inr (.inl ⟨hk,h1⟩))
 ·exact .inr (.inr (.inr ⟨hk,r1.1 h0,by rw [h1,r2 h0]⟩))
 ·exact absurd hk h
theorem made_ok {l c:List Int} (hl:isCol l=true) (hc:c.length=l.length) (hcn:c.all num=true) {k:Int} (hk:0<=k/\k<=2):(⟨[c],[k]⟩:Sheet).ok=true/\rows ⟨[c],[k]⟩=l.length:=by
 have hr:rows ⟨[c],[k]⟩=l.length:=hc
 unfold isCol at hl
 rw [Bool.and_eq_true,inR_iff] at hl
 refine ⟨?_,hr⟩
 unfold Sheet.ok
 simp only [Bool.and_eq_true,beq_iff_eq,inR_iff,List.all_eq_true,List.mem_range]
 refine ⟨⟨by show (1:Int)<=1;omega,by show (1:Int)<=3;omega⟩,rfl,fun i hi=>?_⟩
 have hi:i<1:=hi
 have:i=0:=by omega
 subst this
 unfold colOK isCol
 simp only [Bool.and_eq_true,beq_iff_eq,inR_iff]
 have e1:col ⟨[c],[k]⟩ 0=c:=rfl
 have e2:nth (⟨[c],[k]⟩:Sheet).errs 0=k:=rfl
 rw [e1,e2,hr]
 exact ⟨⟨hcn,by omega⟩,hc,hk⟩
theorem made_least {c:List Int} {k:Int} (hs:(⟨[c],[k]⟩:Sheet).ok=true) (hn:c.all num=true):0<(allR ⟨[c],[k]⟩).length/\leastA ⟨[c],[k]⟩=0:=by
 obtain ⟨h1,h2⟩:=same_right hs (c:=c) rfl hn fun h hh r hr=>by
  have hh:h<1:=hh
  have:h=0:=by omega
  subst this
  rfl
 have h0:=(some_iff hs).2 ⟨c,h1⟩
 refine ⟨h0,?_⟩
 have h3:=least_le hs h1
 obtain ⟨d,hd,h4⟩:=least_is hs h0
 have h5:=(total_made hs hd.1 hd.2.2 _ (Nat.le_refl _)).2.2
 omega
theorem made_agrees {l c:List Int} (hc:c.length=l.length) {k:Int} (hok:errOK l c=true) (hk:((errL l c).length:Int)<=k):agrees ⟨[c],[k]⟩ l=true:=by
 unfold agrees
 refine List.all_eq_true.2 fun i hi=>?_
 have hi:i<1:=List.mem_range.1 hi
 have:i=0:=by omega
 subst this
 unfold canHand
 rw [Bool.and_eq_true,decide_eq_true_eq]
 exact ⟨hok,hk⟩
open Go Go.Proofs Go.Vc Go.RowKit
def litF (l:List Int) (i:Nat):List C:=(l.map fun x=>List.map C.dem [C.v (Value.int IntKind.i64 x)]).getD i []
theorem litE (l:List Int):SEqE l.length (litF l) l.length (fun i=>eI (nth l i)):=⟨rfl,fun i hi=>by
 show litF l i=eI (nth l i)
 unfold litF
 rw [List.getD_eq_getElem?_getD,List.getElem?_map,nth_eq hi,List.getElem?_eq_getElem hi]
 rfl⟩
theorem litS (l:List Int):SEq l.length (litF l) l.length (fun i=>eI (nth l i)):=.of (litE l)
theorem litC (g:Tag) (l:List Int):EqCs (List.map C.dem [C.s g l.length (litF l)]) (eCol l):=⟨.inr (.inr ⟨_,_,_,_,_,_,rfl,rfl,litE l⟩),trivial⟩
theorem exA70 {Gl} (S:SP Gl)  :CO Gl 70 [] (.ret (tSheet exA)):=by
 refine fn_iq S (let A0:=[[(123:Int),(45:Int),(-60:Int),(7:Int)],[(132:Int),(45:Int),(60:Int),(7:Int)]];((.nil),((SEq (2:Nat) (fun i=>List.getD [List.map C.dem [C.s (Tag.t (1:Nat)) (4:Nat) fun i=>List.getD [List.map C.dem [C.v (Value.int IntKind.i64 (123:Int))],List.map C.dem [C.v (Value.int IntKind.i64 (45:Int))],List.map C.dem [C.v (Value.int IntKind.i64 (-60:Int))],List.map C.dem [C.v (Value.int IntKind.i64 (7:Int))]] i []],List.map C.dem [C.s (Tag.t (2:Nat)) (4:Nat) fun i=>List.getD [List.map C.dem [C.v (Value.int IntKind.i64 (132:Int))],List.map C.dem [C.v (Value.int IntKind.i64 (45:Int))],List.map C.dem [C.v (Value.int IntKind.i64 (60:Int))],List.map C.dem [C.v (Value.int IntKind.i64 (7:Int))]] i []]] i []) (List.length A0) fun i=>eCol (nth A0 i))/\SEq (2:Nat) (fun i=>List.getD [List.map C.dem [C.v (Value.int IntKind.i64 (1:Int))],List.map C.dem [C.v (Value.int IntKind.i64 (1:Int))]] i []) (List.length [(1:Int),(1:Int)]) fun i=>eI (nth [(1:Int),(1:Int)] i)))) Tryz.func70 (by kernel_rfl) (by kernel_rfl) ?_
 dsimp only
 refine ⟨⟨rfl,fun i hi=>?_⟩,litS [1,1]⟩
 match i,hi with
 |0,_=>exact .inr (litC (.t 1) [123,45,-60,7])
 |1,_=>exact .inr (litC (.t 2) [132,45,60,7])
theorem exD71 {Gl} (S:SP Gl)  :CO Gl 71 [] (.ret (tSheet exD)):=by
 refine fn_is S (.nil) Tryz.func71 (by kernel_rfl) ((SEq (1:Nat) (fun i=>List.getD [List.map C.dem [C.s (Tag.t (1:Nat)) (2:Nat) fun i=>List.getD [List.map C.dem [C.v (Value.int IntKind.i64 (7:Int))],List.map C.dem [C.v (Value.int IntKind.i64 (7:Int))]] i []]] i []) (List.length [[(7:Int),(7:Int)]]) fun i=>eCol (nth [[(7:Int),(7:Int)]] i))/\SEq (1:Nat) (fun i=>List.getD [List.map C.dem [C.v (Value.int IntKind.i64 (1:Int))]] i []) (List.length [(1:Int)]) fun i=>eI (nth [(1:Int)] i)) (by kernel_rfl) ?_
 refine ⟨⟨rfl,fun i hi=>?_⟩,litS [1]⟩
 match i,hi with
 |0,_=>exact .inr (litC (.t 1) [7,7])
set_option maxRecDepth 100000
theorem sameL_self (a:List Int):sameL (·==·) a a=true:=by
 unfold sameL
 rw [beq_self_eq_true,Bool.true_and,List.all_eq_true]
 intro i _
 exact beq_self_eq_true _
theorem kSame {Gl} (S:SP Gl) (a:List Int) (n:Nat) (f:Nat->List C) (h:SEq n f a.length fun i=>eI (nth a i)):CO Gl 34 [L eI a,.d (.c (.s .n n f))] (.ret (B true)):=by
 have h1:=same34 S a a
 rw [sameL_self] at h1
 exact h1.args ⟨(SEq_refl _ _).2 trivial,h⟩
theorem kSameW {Gl} (S:SP Gl) (a:List Int) (n:Nat) (f:Nat->List C) (h:SEq n f a.length fun i=>eI (nth a i)):CO Gl 54 [L eI a,.d (.c (.s .n n f))] (.ret (B true)):=by
 have h1:=same68w S a a
 rw [sameL_self] at h1
 exact h1.args ⟨(SEq_refl _ _).2 trivial,h⟩
def errsX:List Err:=[⟨0,1⟩,⟨2,3⟩]
theorem kSameE {Gl} (S:SP Gl) (f:Nat->List C) (h:SEq 2 f errsX.length fun i=>eErr (nth errsX i)):CO Gl 25 [L eErr errsX,.d (.c (.s .n 2 f))] (.ret (B true)):=
 (show CO Gl 25 [L eErr errsX,L eErr errsX] (.ret (B true)) from sameErrors25 S errsX errsX).args ⟨(SEq_refl _ _).2 trivial,h⟩
theorem kErr {Gl} (S:SP Gl) (f g:Nat->List C) (hf:SEq 4 f [(132:Int),45,-60,7].length fun i=>eI (nth [(132:Int),45,-60,7] i)) (hg:SEq 4 g [(123:Int),45,60,7].length fun i=>eI (nth [(123:Int),45,60,7] i)):CO Gl 22 [.d (.c (.s .n 4 f)),.d (.c (.s .n 4 g))] (.ret (.tup [.c (.l eErr errsX),.c (Ci 0)])):=by
 have h1:=errors22 S [132,45,-60,7] [123,45,60,7] (by decide) (by decide) rfl exE.1
 rw [exE.2] at h1
 exact h1.args ⟨hf,hg⟩
theorem kApart {Gl} (S:SP Gl):CO Gl 53 [tSheet exA] (.ret (.tup [.c (.l eI [0,2]),.c (Ci 0)])):=by
 have h1:=apart53 S exA exA_ok
 rw [exA_apart] at h1
 exact h1
theorem kAgrees {Gl} (S:SP Gl) (f:Nat->List C) (hf:SEq 4 f [(123:Int),45,60,7].length fun i=>eI (nth [(123:Int),45,60,7] i)):CO Gl 28 [tSheet exA,.d (.c (.s .n 4 f))] (.ret (.tup [.c (.v (.bool true)),.c (Ci 0)])):=by
 have h1:=agrees28 S exA [123,45,60,7] exA_ok (by decide) rfl
 rw [exA_agrees] at h1
 exact h1.args ⟨(SEq_refl _ _).2 trivial,(SEq_refl _ _).2 trivial,hf⟩
theorem kFirst {Gl} (S:SP Gl):CO Gl 31 [tSheet exA] (.ret (.tup [.c (.l eI [123,45,60,7]),.c (Ci 0)])):=by
 have h1:=first31 S exA exA_ok exA_first.1
 rw [exA_first.2] at h1
 exact h1
theorem kVals {Gl} (S:SP Gl):CO Gl 37 [tSheet exD,I 1] (.ret (.tup [.c (.l eI [-7,7,17,70,107]),.c (Ci 0)])):=by
 have h1:=values37 S exD 1 exD_ok exD_vals.1 (by decide)
 rw [exD_vals.2.2.1,exD_vals.2.1] at h1
 exact h1
theorem kOpen {Gl} (S:SP Gl):CO Gl 37 [tSheet exD,I 0] (.ret (.tup [.c (.l eI []),.c (Ci 8)])):=by
 have h1:=values37 S exD 0 exD_ok exD_vals.1 (by decide)
 rw [exD_vals.2.2.2] at h1
 exact h1
theorem kSure {Gl} (S:SP Gl):CO Gl 38 [tSheet exA] (.ret (.tup [.c (.l eI [1,3]),.c (Ci 0)])):=by
 have h1:=sure38 S exA exA_ok exA_first.1
 rw [exA_sure] at h1
 exact h1
theorem exA_nextN:nextN exA=0/\nextC exA=0:=by decide +kernel
theorem kNext {Gl} (S:SP Gl):CO Gl 39 [tSheet exA] (.ret (.tup [.c (Ci 0),.c (Ci 0)])):=by
 have h1:=next39 S exA exA_ok exA_first.1
 rw [exA_nextN.1,exA_nextN.2] at h1
 exact h1
theorem kLeast {Gl} (S:SP Gl):CO Gl 29 [tSheet exA] (.ret (.tup [.c (Ci 2),.c (Ci 0)])):=by
 have h1:=least29 S exA exA_ok exA_first.1
 rw [exA_least] at h1
 exact h1
theorem kWrong {Gl} (S:SP Gl):CO Gl 48 [tSheet exA,I 0] (.ret (.tup [.c (.l eI [2,1,2,1]),.c (Ci 0)])):=by
 have h1:=wrong48 S exA 0 exA_ok exA_first.1 (by decide)
 rw [exA_wrong] at h1
 exact h1
theorem kHands {Gl} (S:SP Gl):CO Gl 49 [tSheet exB] (.ret (.tup [.c (.l eI [3,3,1]),.c (Ci 0)])):=by
 have h1:=hands49 S exB exB_ok exB_hands.1
 rw [exB_hands.2] at h1
 exact h1
theorem kBoth {Gl} (S:SP Gl):CO Gl 57 [tSheet exA,I 0,I 1] (.ret (.tup [.c (.l eI []),.c (Ci 0)])):=by
 have h1:=both57 S exA 0 1 exA_ok exA_first.1 (by decide) (by decide) (by decide)
 rw [show rows exA=4 from rfl,exA_both] at h1
 exact h1
def exS:Sheet:=⟨[[0]],[0]⟩
theorem exS_ok:exS.ok=true:=by decide +kernel
theorem exT_parse:parse exT=some exS:=by decide +kernel
theorem kRead {Gl} (S:SP Gl) (hG:GlOK Gl):CO Gl 66 [str exT] (.ret (.tup [.agg (cSheet exS),.c (Ci 0)])):=
 read66 S exT exS (by decide) (parsed110some S hG exT (by decide) exT_parse) exS_ok
theorem kPrint {Gl} (S:SP Gl):CO Gl 67 [tSheet exS] (.ret (str exT)):=by
 have h1:=print67 S exS (ok_low exS_ok)
 rw [show textS exS=exT from exT_text] at h1
 exact h1
theorem known21 {Gl} (S:SP Gl) (hG:GlOK Gl) (hB:CO Gl 72 [] (.ret (tSheet exB))):CO Gl 21 [] (.ret (B true)):=by
 refine fn_iq S (let A0:=(D.c (C.s Tag.n (4:Nat) fun i=>List.getD [List.map C.dem [C.v (Value.int IntKind.i64 (123:Int))],List.map C.dem [C.v (Value.int IntKind.i64 (45:Int))],List.map C.dem [C.v (Value.int IntKind.i64 (60:Int))],List.map C.dem [C.v (Value.int IntKind.i64 (7:Int))]] i []));let A1:=(tSheet exA);let A2:=(Value.int IntKind.i64 (1:Int));let A3:=(Value.int IntKind.i64 (2:Int));let A4:=(Value.int IntKind.i64 (3:Int));let A5:=[D.c (C.l eI [(-7:Int),(7:Int),(17:Int),(70:Int),(107:Int)]),D.c (Ci 0)];let A6:=[D.c (C.l eI [(123:Int),(45:Int),(60:Int),(7:Int)]),D.c (Ci 0)];let A7:=[D.c (C.l eI [(2:Int),(1:Int),(2:Int),(1:Int)]),D.c (Ci 0)];let A8:=[D.c (C.l eI [(3:Int),(3:Int),(1:Int)]),D.c (Ci 0)];((.r (.ret (.tup [D.c (C.l eErr errsX),D.c (Ci 0)])) (.r (.ret A1) (.r (.ret (.tup [D.c (C.l eI [(0:Int),(2:Int)]),D.c (Ci 0)])) (.r (.ret A1) (.r (.ret (.tup [D.c (C.v (Value.bool true)),D.c (Ci 0)])) (.r (.ret A1) (.r (.ret (.tup A6)) (.r (.ret (tSheet exD)) (.r (.ret (.tup A5)) (.r (.ret A1) (.r (.ret (.tup [D.c (C.l eI [(1:Int),(3:Int)]),D.c (Ci 0)])) (.r (.ret A1) (.r (.ret (.tup [D.c (Ci 0),D.c (Ci 0)])) (.r (.ret A1) (.r (.ret (.tup [D.c (Ci 2),D.c (Ci 0)])) (.r (.ret A1) (.r (.ret (.tup A7)) (.r (.ret (tSheet exB)) (.r (.ret (.tup A8)) (.r (.ret A1) (.r (.ret (.tup [D.c (C.l eI []),D.c (Ci 0)])) (.r (.ret (.tup [D.agg (cSheet exS),D.c (Ci 0)])) (.r (.ret (tSheet exD)) (.r (.ret (.tup [D.c (C.l eI []),D.c (Ci 8)])) (.sure 99 (.sure 100 (.sure 103 (.sure 104 (.sure 107 (.sure 108 (.sure 111 (.sure 112 (.sure 115 (.sure 116 (.sure 119 (.sure 120 (.sure 123 (.sure 124 (.sure 127 (.sure 128 (.sure 131 (.sure 132 (.sure 135 (.sure 136 (.sure 139 (.sure 140 (.sure 143 (.sure 144 (.ff (.r (.ret (B true)) (.sure 153 (.sure 154 (.sure 155 (.r (.ret (B true)) (.sure 156 (.sure 159 (.sure 160 (.sure 163 (.sure 164 (.sure 165 (.r (.ret (B true)) (.sure 166 (.sure 169 (.sure 170 (.sure 171 (.r (.ret (B true)) (.sure 172 (.sure 175 (.sure 176 (.sure 177 (.r (.ret (B true)) (.sure 178 (.ff (.sure 183 (.sure 184 (.sure 187 (.sure 188 (.sure 189 (.sure 190 (.sure 191 (.sure 192 (.sure 193 (.r (.ret (B true)) (.sure 196 (.sure 197 (.sure 198 (.sure 199 (.sure 200 (.sure 201 (.r (.ret (B true)) (.sure 204 (.sure 205 (.sure 206 (.sure 209 (.sure 210 (.r (.ret (str exT)) (.sure 211 .nil))))))))))))))))))))))))))))))))))))))))))))))))))))))))))))))))))))))))))))))))))))))))))))))))),(CO Gl 22 [T.d (D.c (C.s Tag.n (4:Nat) fun i=>List.getD [List.map C.dem [C.v (Value.int IntKind.i64 (132:Int))],List.map C.dem [C.v (Value.int IntKind.i64 (45:Int))],List.map C.dem [C.v (Value.int IntKind.i64 (-60:Int))],List.map C.dem [C.v (Value.int IntKind.i64 (7:Int))]] i [])),T.d A0] (.ret (.tup [D.c (C.l eErr errsX),D.c (Ci 0)]))/\CO Gl 70 [] (.ret A1)/\CO Gl 53 [tSheet exA] (.ret (.tup [D.c (C.l eI [(0:Int),(2:Int)]),D.c (Ci 0)]))/\CO Gl 70 [] (.ret A1)/\CO Gl 28 [tSheet exA,T.d A0] (.ret (.tup [D.c (C.v (Value.bool true)),D.c (Ci 0)]))/\CO Gl 70 [] (.ret A1)/\CO Gl 31 [tSheet exA] (.ret (.tup A6))/\CO Gl 71 [] (.ret (tSheet exD))/\CO Gl 37 [tSheet exD,I 1] (.ret (.tup A5))/\CO Gl 70 [] (.ret A1)/\CO Gl 38 [tSheet exA] (.ret (.tup [D.c (C.l eI [(1:Int),(3:Int)]),D.c (Ci 0)]))/\CO Gl 70 [] (.ret A1)/\CO Gl 39 [tSheet exA] (.ret (.tup [D.c (Ci 0),D.c (Ci 0)]))/\CO Gl 70 [] (.ret A1)/\CO Gl 29 [tSheet exA] (.ret (.tup [D.c (Ci 2),D.c (Ci 0)]))/\CO Gl 70 [] (.ret A1)/\CO Gl 48 [tSheet exA,I 0] (.ret (.tup A7))/\CO Gl 72 [] (.ret (tSheet exB))/\CO Gl 49 [tSheet exB] (.ret (.tup A8))/\CO Gl 70 [] (.ret A1)/\CO Gl 57 [tSheet exA,I 0,I 1] (.ret (.tup [D.c (C.l eI []),D.c (Ci 0)]))/\CO Gl 66 [str exT] (.ret (.tup [D.agg (cSheet exS),D.c (Ci 0)]))/\CO Gl 71 [] (.ret (tSheet exD))/\CO Gl 37 [tSheet exD,I 0] (.ret (.tup [D.c (C.l eI []),D.c (Ci 8)]))/\true=true/\true=true/\true=true/\true=true/\true=true/\true=true/\true=true/\true=true/\true=true/\true=true/\true=true/\true=true/\true=true/\true=true/\true=true/\true=true/\true=true/\true=true/\true=true/\true=true/\true=true/\true=true/\true=true/\true=true/\false=false/\CO Gl 25 [L eErr errsX,T.d (D.c (C.s Tag.n (2:Nat) fun i=>List.getD [List.map C.dem (List.map C.dem [C.v (Value.int IntKind.i64 (0:Int)),C.v A2]),List.map C.dem (List.map C.dem [C.v A3,C.v A4])] i []))] (.ret (B true))/\true=true/\true=true/\true=true/\CO Gl 34 [L eI [(0:Int),(2:Int)],T.d (D.c (C.s Tag.n (2:Nat) fun i=>List.getD [List.map C.dem [C.v (Value.int IntKind.i64 (0:Int))],List.map C.dem [C.v A3]] i []))] (.ret (B true))/\true=true/\true=true/\true=true/\true=true/\true=true/\true=true/\CO Gl 34 [L eI [(123:Int),(45:Int),(60:Int),(7:Int)],T.d A0] (.ret (B true))/\true=true/\true=true/\true=true/\true=true/\CO Gl 34 [L eI [(-7:Int),(7:Int),(17:Int),(70:Int),(107:Int)],T.d (D.c (C.s Tag.n (5:Nat) fun i=>List.getD [List.map C.dem [C.v (Value.int IntKind.i64 (-7:Int))],List.map C.dem [C.v (Value.int IntKind.i64 (7:Int))],List.map C.dem [C.v (Value.int IntKind.i64 (17:Int))],List.map C.dem [C.v (Value.int IntKind.i64 (70:Int))],List.map C.dem [C.v (Value.int IntKind.i64 (107:Int))]] i []))] (.ret (B true))/\true=true/\true=true/\true=true/\true=true/\CO Gl 34 [L eI [(1:Int),(3:Int)],T.d (D.c (C.s Tag.n (2:Nat) fun i=>List.getD [List.map C.dem [C.v A2],List.map C.dem [C.v A4]] i []))] (.ret (B true))/\true=true/\false=false/\true=true/\true=true/\true=true/\true=true/\true=true/\true=true/\true=true/\true=true/\true=true/\CO Gl 54 [L eI [(2:Int),(1:Int),(2:Int),(1:Int)],T.d (D.c (C.s Tag.n (4:Nat) fun i=>List.getD [List.map C.dem [C.v A3],List.map C.dem [C.v A2],List.map C.dem [C.v A3],List.map C.dem [C.v A2]] i []))] (.ret (B true))/\true=true/\true=true/\true=true/\true=true/\true=true/\true=true/\CO Gl 54 [L eI [(3:Int),(3:Int),(1:Int)],T.d (D.c (C.s Tag.n (3:Nat) fun i=>List.getD [List.map C.dem [C.v A4],List.map C.dem [C.v A4],List.map C.dem [C.v A2]] i []))] (.ret (B true))/\true=true/\true=true/\((0:Nat)<=maxLen->true=true/\true=true/\true=true/\CO Gl 67 [tSheet exS] (.ret (str exT))/\true=true/\true=true)))) Tryz.func21 (by kernel_rfl) (by kernel_rfl) ?_
 dsimp only
 have hE:SEq 2 (fun i=>List.getD [List.map C.dem (List.map C.dem [C.v (Value.int IntKind.i64 0),C.v (Value.int IntKind.i64 1)]),List.map C.dem (List.map C.dem [C.v (Value.int IntKind.i64 2),C.v (Value.int IntKind.i64 3)])] i []) errsX.length fun i=>eErr (nth errsX i):=.of ⟨rfl,fun i hi=>by
  match i,hi with
  |0,_=>rfl
  |1,_=>rfl⟩
 repeat' first|with_reducible apply And.intro|with_reducible intro _
 all_goals first
  |contradiction
  |with_reducible exact rfl
  |with_reducible exact trivial
  |with_reducible exact exA70 S
  |with_reducible exact exD71 S
  |with_reducible exact hB
  |with_reducible exact kErr S _ _ (litS [132,45,-60,7]) (litS [123,45,60,7])
  |with_reducible exact kApart S
  |with_reducible exact kAgrees S _ (litS [123,45,60,7])
  |with_reducible exact kFirst S
  |with_reducible exact kVals S
  |with_reducible exact kOpen S
  |with_reducible exact kSure S
  |with_reducible exact kNext S
  |with_reducible exact kLeast S
  |with_reducible exact kWrong S
  |with_reducible exact kHands S
  |with_reducible exact kBoth S
  |with_reducible exact kRead S hG
  |with_reducible exact kPrint S
  |with_reducible exact kSameE S _ hE
  |with_reducible exact kSame S [0,2] 2 _ (litS [0,2])
  |with_reducible exact kSame S [123,45,60,7] 4 _ (litS [123,45,60,7])
  |with_reducible exact kSame S [-7,7,17,70,107] 5 _ (litS [-7,7,17,70,107])
  |with_reducible exact kSame S [1,3] 2 _ (litS [1,3])
  |with_reducible exact kSameW S [2,1,2,1] 4 _ (litS [2,1,2,1])
  |with_reducible exact kSameW S [3,3,1] 3 _ (litS [3,3,1])
  |exact rfl
  |exact trivial
  |exact exA70 S
  |exact exD71 S
  |exact hB
  |exact kErr S _ _ (litS [132,45,-60,7]) (litS [123,45,60,7])
  |exact kApart S
  |exact kAgrees S _ (litS [123,45,60,7])
  |exact kFirst S
  |exact kVals S
  |exact kOpen S
  |exact kSure S
  |exact kNext S
  |exact kLeast S
  |exact kWrong S
  |exact kHands S
  |exact kBoth S
  |exact kRead S hG
  |exact kPrint S
  |exact kSameE S _ hE
  |exact kSame S [0,2] 2 _ (litS [0,2])
  |exact kSame S [123,45,60,7] 4 _ (litS [123,45,60,7])
  |exact kSame S [-7,7,17,70,107] 5 _ (litS [-7,7,17,70,107])
  |exact kSame S [1,3] 2 _ (litS [1,3])
  |exact kSameW S [2,1,2,1] 4 _ (litS [2,1,2,1])
  |exact kSameW S [3,3,1] 3 _ (litS [3,3,1])
  |exact trivial
  |rfl
  |omega
section
variable {P:Program} {Y:TypeId->Ty} {a:Act} {w:World}
theorem raw_slice (hY:YOK P Y) {o:Oper} {t el:TypeId} {len:Nat} {ps:Array (Nat×Operand)} {vs:List Value} (ho:o.op=.buildSlice t len ps) (hk:(Y t).kind=.slice el) (hkn:(Y el).known=true) (hs:(Y el).size=1)
  (hp:(ps.map fun x=>(x.1,a.eval x.2)).toList=(vs.zipIdx 0).map fun x=>(x.2,x.1)) (hl:vs.length=len) (hpos:1<=len) (hsm:len<=100) (hc:∀ v∈vs,v.cells=#[v]):
  (execOp a.eval o).run P w=.ok (.value (.slice (some ⟨w.heap.size,0,none⟩) len len)) (w.alloc (.cells vs.toArray el)):=by
 obtain ⟨dd,i,z,h1,h2,h3,h4,h5,h6,h7,h8⟩:=hY t (by simp [Ty.known,hk])
 rw [hk] at h7
 simp only [KOK] at h7
 subst h7
 obtain ⟨dd,ie,ze,g1,g2,g3,g4,g5,g6,g7,g8⟩:=hY el hkn
 have hvsz:∀ v∈vs,v.cells.size=1:=fun v hv=>by rw [hc v hv];rfl
 have hfill:=Great.fill_whole (s:=1) (by omega) vs ((Array.range (len*1)).map (ze.cells[· % ze.cells.size]!)) hvsz (by simp [hl])
 have hrow:(vs.flatMap fun v=>v.cells.toList)=vs:=by
  clear hfill hvsz hp hl
  induction vs with
  |nil=>rfl
  |cons v vs ih=>
   rw [List.flatMap_cons,ih fun x hx=>hc x (List.mem_cons_of_mem _ hx),hc v List.mem_cons_self]
   rfl
 rw [hrow] at hfill
 have hrun:=run_buildSlice (P:=P) w t el len (ps.map fun x=>(x.1,a.eval x.2)) _ ie ze h1 g2 g5 (by rw [g3,hs];omega) (by rw [g3,hs];omega) (by rw [hp,g3,hs];exact hfill)
 simp [execOp,ho,hrun]
theorem raw_grow (hY:YOK P Y) {t el:TypeId} {p q:Operand} {b sb n m sc:Nat} {olds news:List Value} {f1 f2:Nat×Nat} {T1 T2:TypeId} (hk:(Y t).kind=.slice el) (hkn:(Y el).known=true) (hs:(Y el).size=1) (hby:(Y el).bytes<=100)
  (hp:a.eval p=.slice (some ⟨b,0,none⟩) n n) (hq:a.eval q=.slice (some ⟨sb,0,none⟩) m sc) (hn:olds.length=n) (hm:news.length=m) (hm1:1<=m) (hnm:n+m<=100)
  (hb:w.heap[b]?=some (.cells olds.toArray T1 f1)) (hsb:w.heap[sb]?=some (.cells news.toArray T2 f2)):
  ∃ cap zs,n+m<=cap/\cap<=maxLen/\∀ o:Oper,o.op=.call { callee:=.builtin .append,args:=#[p,q],argTypes:=#[t,t] }->(execOp a.eval o).run P w=.ok (.value (.slice (some ⟨w.heap.size,0,none⟩) (n+m) cap)) (w.drew.alloc (.cells (olds.toArray++news.toArray++zs) el)):=by
 obtain ⟨dd,i,z,h1,h2,h3,h4,h5,h6,h7,h8⟩:=hY t (by simp [Ty.known,hk])
 rw [hk] at h7
 simp only [KOK] at h7
 subst h7
 obtain ⟨dd,ie,ze,g1,g2,g3,g4,g5,g6,g7,g8⟩:=hY el hkn
 have hc1:∀ (j:Nat) (v:Value),olds[j]?=some v->w.cell? ((⟨b,0,none⟩:Addr).add j)=some v:=fun j v hj=>by
  rw [addr_add]
  simp only [World.cell?,hb,Nat.zero_add]
  simpa using hj
 have hc2:∀ (j:Nat) (v:Value),news[j]?=some v->w.cell? ((⟨sb,0,none⟩:Addr).add j)=some v:=fun j v hj=>by
  rw [addr_add]
  simp only [World.cell?,hsb,Nat.zero_add]
  simpa using hj
 have hbound:(n+m)*(Y el).bytes<=140737488355328:=by
  have:=Nat.mul_le_mul hnm hby
  omega
 have hrun:=fun ty=>run_append_grow (P:=P) w t ty el ie ze h1 g2 g5 ⟨b,0,none⟩ n n olds (by rw [g3,hs];omega) hc1 ⟨sb,0,none⟩ m sc news (by rw [g3,hs];omega) hc2 (by omega) (by omega) (by rw [g4];exact growslice_fits (by omega) hbound)
 have hge:=grownCap_ge w (n+m) n el
 refine ⟨grownCap w (n+m) n el,Builtin.zeroCells ze.cells (grownCap w (n+m) n el - (n+m)),hge,?_,?_⟩
 ·exact grownCap_le_maxLen w (n+m) n el (by unfold maxLen;omega)
 ·intro o ho
  simp [execOp,ho,hp,hq,resolve,invoke,builtin,hrun]
theorem raw_put (hY:YOK P Y) {o:Oper} {p q:Operand} {t:TypeId} {b k:Nat} {v:Value} {cur:Array Value} {ct:TypeId} (ho:o.op=.store t p q) (hkn:(Y t).known=true) (hsz:(Y t).size=1) (hp:a.eval p=.pointer (some ⟨b,k,none⟩)) (hq:a.eval q=v)
  (hv:v.cells=#[v]) (h1:v.oneCell'=true) (hk:k<cur.size) (hcur:w.heap[b]?=some (.cells cur ct (0,0))):
  (execOp a.eval o).run P w=.ok .skip (w.setRow b (cur.toList.take k++[v]++cur.toList.drop (k+1)).toArray):=by
 have hst:=run_storeCells_at P b k ct [v] 0 cur w hcur (by simp only [List.length_singleton];omega) (fun u hu=>by rw [List.mem_singleton.1 hu];exact h1)
 have hvl:v.cells.toList=[v]:=by rw [hv]
 have hv2:v.cells.size=1:=by rw [hv];rfl
 simp only [Nat.add_zero,List.length_singleton] at hst
 simp [execOp,ho,hp,hq,Instr.storeAt,Instr.sureAddr,storeVar,run_sizeOf hY hkn,hsz,hv,hst]
theorem raw_put0 (hY:YOK P Y) {p q:Operand} {t:TypeId} {b:Nat} {v c0 c1:Value} {ct:TypeId} (hkn:(Y t).known=true) (hsz:(Y t).size=1) (hp:a.eval p=.pointer (some ⟨b,0,none⟩)) (hq:a.eval q=v)
  (hv:v.cells=#[v]) (h1:v.oneCell'=true) (hcur:w.heap[b]?=some (.cells #[c0,c1] ct (0,0))):
  ∃ w',(∀ o:Oper,o.op=.store t p q->(execOp a.eval o).run P w=.ok .skip w')/\w'.heap[b]?=some (.cells #[v,c1] ct (0,0))/\Same w w'/\∀ b',b'≠b->w'.heap[b']?=w.heap[b']?:=
 ⟨_,fun o ho=>raw_put hY ho hkn hsz hp hq hv h1 (cur:=#[c0,c1]) (Nat.zero_lt_succ 1) hcur,setRow_heap w b _ _ _ _ hcur,⟨rfl,rfl,rfl,by simp [World.setRow]⟩,fun b' hb=>setRow_other w b b' _ hb⟩
theorem raw_put1 (hY:YOK P Y) {p q:Operand} {t:TypeId} {b:Nat} {v c0 c1:Value} {ct:TypeId} (hkn:(Y t).known=true) (hsz:(Y t).size=1) (hp:a.eval p=.pointer (some ⟨b,1,none⟩)) (hq:a.eval q=v)
  (hv:v.cells=#[v]) (h1:v.oneCell'=true) (hcur:w.heap[b]?=some (.cells #[c0,c1] ct (0,0))):
  ∃ w',(∀ o:Oper,o.op=.store t p q->(execOp a.eval o).run P w=.ok .skip w')/\w'.heap[b]?=some (.cells #[c0,v] ct (0,0))/\Same w w'/\∀ b',b'≠b->w'.heap[b']?=w.heap[b']?:=
 ⟨_,fun o ho=>raw_put hY ho hkn hsz hp hq hv h1 (cur:=#[c0,c1]) (Nat.lt_succ_self 1) hcur,setRow_heap w b _ _ _ _ hcur,⟨rfl,rfl,rfl,by simp [World.setRow]⟩,fun b' hb=>setRow_other w b b' _ hb⟩
end
theorem raw_field {P:Program} {Y:TypeId->Ty} {a:Act} {w:World} (hY:YOK P Y) {o:Oper} {p:Operand} {s:TypeId} {f b off:Nat} {fs:List (Nat×TypeId)} {q:Nat×TypeId} (ho:o.op=.fieldAddr s p f) (hfs:(Y s).fields=some fs) (hq:fs[f]?=some q) (hp:a.eval p=.pointer (some ⟨b,off,none⟩)):
  (execOp a.eval o).run P w=.ok (.value (.pointer (some ⟨b,off+q.1,none⟩))) w:=by
 have hk:=fields_struct hfs
 obtain ⟨d,i,z,h1,h2,h3,h4,h5,h6,h7,h8⟩:=hY s (struct_known hk)
 rw [hk] at h7
 obtain ⟨fields,rfl,hmap,hne⟩:=h7
 rw [<-hmap] at hq
 rw [List.getElem?_map] at hq
 cases hf:fields.toList[f]? with
 |none=>rw [hf] at hq;cases hq
 |some fld=>
  rw [hf] at hq
  simp only [Option.map_some,Option.some.injEq] at hq
  subst hq
  obtain ⟨i',hi',hne'⟩:=hne fld (List.mem_of_getElem? hf)
  have hf':fields[f]?=some fld:=by simpa using hf
  simp [execOp,ho,hp,Instr.fieldAt,run_underlying h1,hf',Instr.sureAddr,fieldPlace,sizeOf,typeInfo,hi',hne',addr_add]
structure AtA (w w':World) (v:Value) (b1 b2 b3 b4:Nat):Prop where
 same:Same w w'
 old:∀ b,b<w.heap.size->w'.heap[b]?=w.heap[b]?
 val:v=.agg #[.slice (some ⟨b3,0,none⟩) 2 2,.slice (some ⟨b4,0,none⟩) 2 2]
 lo:w.heap.size<=b1/\b1<b2/\b2<b3/\b3<b4/\b4<w'.heap.size
 c1:w'.heap[b1]?=some (.cells #[.int .i64 123,.int .i64 45,.int .i64 (-60),.int .i64 7] 3 (0,0))
 c2:w'.heap[b2]?=some (.cells #[.int .i64 132,.int .i64 45,.int .i64 60,.int .i64 7] 3 (0,0))
 c3:w'.heap[b3]?=some (.cells #[.slice (some ⟨b1,0,none⟩) 4 4,.slice (some ⟨b2,0,none⟩) 4 4] 22 (0,0))
 c4:w'.heap[b4]?=some (.cells #[.int .i64 1,.int .i64 1] 3 (0,0))
theorem k22:(Y 22).kind=.slice 3:=by kernel_rfl
theorem k40:(Y 40).kind=.slice 22:=by kernel_rfl
theorem kn3:(Y 3).known=true:=by kernel_rfl
theorem kn22:(Y 22).known=true:=by kernel_rfl
theorem kn40:(Y 40).known=true:=by kernel_rfl
theorem kn42:(Y 42).known=true:=by kernel_rfl
theorem s3:(Y 3).size=1:=by kernel_rfl
theorem s22:(Y 22).size=1:=by kernel_rfl
theorem s40:(Y 40).size=1:=by kernel_rfl
theorem s42:(Y 42).size=2:=by kernel_rfl
theorem z42:(Y 42).zero.toArray=#[.slice none 0 0,.slice none 0 0]:=by kernel_rfl
theorem a42:(Y 42).agg=some true:=by kernel_rfl
theorem built42 (p q:Option Addr) (n c m d:Nat):Tryz.prog.built 42 [(0,.slice p n c),(1,.slice q m d)]=some #[.slice p n c,.slice q m d]:=by kernel_rfl
theorem alloc_facts (w:World) (o:Obj):∃ w',w.alloc o=w'/\Same w w'/\w'.heap.size=w.heap.size+1/\w'.heap[w.heap.size]?=some o/\∀ b,b<w.heap.size->w'.heap[b]?=w.heap[b]?:=
 ⟨_,rfl,same_alloc _ _,World.size_alloc ..,World.alloc_heap_new w _,fun b hb=>heap_alloc_lt _ _ hb⟩
theorem sheet_results {f:Func} {t:Nat} (hf:f.results=#[.cell t 42]) {a:Act} {w:World} {b1:Nat} {cs:Array Value} (h1:a.tmps.getD t undef=.pointer (some ⟨b1,0,none⟩)) (hc:cs.size=2)
  (g1:w.heap[b1]?=some (.cells cs 42 (0,0))):(results f a.tmps).run Tryz.prog w=.ok (.agg cs) w:=by
 have l1:=run_loadAgg yok a42 (w:=w) (b:=b1) (off:=0) (us:=cs.toList) (by rw [s42];simpa using hc) fun j u hj=>by
  simp only [World.cell?,g1,Nat.zero_add]
  simpa using hj
 have he:f.results.mapM (resM a.tmps)=List.toArray <$> f.results.toList.mapM (resM a.tmps):=Array.mapM_eq_mapM_toList ..
 have he2:results f a.tmps=(f.results.mapM (resM a.tmps) >>= fun vs=>pure (if h:vs.size=1 then vs[0] else .tuple vs)):=rfl
 have hrun:([ResultVar.cell t 42].mapM (resM a.tmps)).run Tryz.prog w=.ok [.agg cs] w:=by
  have r1:(resM a.tmps (.cell t 42)).run Tryz.prog w=.ok (.agg cs) w:=by simp [resM,h1,asAddr,l1]
  rw [run_mapM_cons,r1,Result.andThen_ok]
  simp
 rw [he2,he,hf]
 simp only [Sem.run_bind,Sem.run_map,hrun,Result.andThen_ok,Sem.run_pure]
 rfl
theorem calls70 (w:World):Calls Tryz.prog 70 #[] w fun en w'=>∃ v b1 b2 b3 b4,en=.returned v/\AtA w w' v b1 b2 b3 b4:=by
 go_enter_defers Tryz.func70,Tryz.ntmps70
 have S:SL { tmps:=#[undef,undef,undef,undef,undef,undef],defers:=[] } 6 (fun t=>#[].getD t undef) []:=by
  exact SL.start #[] 6 (Nat.le_of_ble_eq_true rfl)
 generalize ({ tmps:=#[undef,undef,undef,undef,undef,undef],defers:=[] }:Act)=a at S ⊢
 refine wp_seq (wp_region_list ?_)
 have hal:=fun (o:Oper) (ho:o.op=Op.alloc 42)=>raw_alloc (P:=Tryz.prog) (a:=a) (w:=w) (o:=o) yok (t:=42) ho kn42
 rw [z42] at hal
 refine rl_val S (d:=0) rfl (by decide) rfl (hal _ rfl) fun a1 S1=>?_
 obtain ⟨w1,hw1,m1,z1,n1,o1⟩:=alloc_facts w (.cells #[.slice none 0 0,.slice none 0 0] 42)
 rw [hw1]
 refine wp_seq (wp_region_list ?_)
 refine rl_val S1 (d:=1) rfl (by decide) rfl (raw_slice yok (vs:=[.int .i64 123,.int .i64 45,.int .i64 (-60),.int .i64 7]) rfl k22 kn3 s3 (by simp [Act.eval]) rfl (by decide) (by decide) (by simp [Value.cells])) fun a2 S2=>?_
 obtain ⟨w2,hw2,m2,z2,n2,o2⟩:=alloc_facts w1 (.cells [Value.int .i64 123,.int .i64 45,.int .i64 (-60),.int .i64 7].toArray 3)
 rw [hw2]
 refine rl_val S2 (d:=2) rfl (by decide) rfl (raw_slice yok (vs:=[.int .i64 132,.int .i64 45,.int .i64 60,.int .i64 7]) rfl k22 kn3 s3 (by simp [Act.eval]) rfl (by decide) (by decide) (by simp [Value.cells])) fun a3 S3=>?_
 obtain ⟨w3,hw3,m3,z3,n3,o3⟩:=alloc_facts w2 (.cells [Value.int .i64 132,.int .i64 45,.int .i64 60,.int .i64 7].toArray 3)
 rw [hw3]
 refine rl_val S3 (d:=3) rfl (by decide) rfl (raw_slice yok (vs:=[.slice (some ⟨w1.heap.size,0,none⟩) 4 4,.slice (some ⟨w2.heap.size,0,none⟩) 4 4]) rfl k40 kn22 s22 (by simp [S3.eval,upd]) rfl (by decide) (by decide) (by simp [Value.cells])) fun a4 S4=>?_
 obtain ⟨w4,hw4,m4,z4,n4,o4⟩:=alloc_facts w3 (.cells [Value.slice (some ⟨w1.heap.size,0,none⟩) 4 4,.slice (some ⟨w2.heap.size,0,none⟩) 4 4].toArray 22)
 rw [hw4]
 refine rl_val S4 (d:=4) rfl (by decide) rfl (raw_slice yok (vs:=[.int .i64 1,.int .i64 1]) rfl k22 kn3 s3 (by simp [Act.eval]) rfl (by decide) (by decide) (by simp [Value.cells])) fun a5 S5=>?_
 obtain ⟨w5,hw5,m5,z5,n5,o5⟩:=alloc_facts w4 (.cells [Value.int .i64 1,.int .i64 1].toArray 3)
 rw [hw5]
 refine rl_val S5 (d:=5) (v:=.agg #[.slice (some ⟨w3.heap.size,0,none⟩) 2 2,.slice (some ⟨w4.heap.size,0,none⟩) 2 2]) (w':=w5) rfl (by decide) rfl ?_ fun a6 S6=>?_
 ·simp [execOp,S5.eval,upd,run_build (P:=Tryz.prog) w5 42 _ _ (built42 (some ⟨w3.heap.size,0,none⟩) (some ⟨w4.heap.size,0,none⟩) 2 2 2 2)]
 have g0:w5.heap[w.heap.size]?=some (.cells #[.slice none 0 0,.slice none 0 0] 42 (0,0)):=by rw [o5 _ (by omega),o4 _ (by omega),o3 _ (by omega),o2 _ (by omega)];exact n1
 have H:=fun (o:Oper) (ho:o.op=Op.store 42 (.tmp 0) (.tmp 5))=>raw_store (P:=Tryz.prog) (a:=a6) (w:=w5) (v:=.agg #[.slice (some ⟨w3.heap.size,0,none⟩) 2 2,.slice (some ⟨w4.heap.size,0,none⟩) 2 2]) (b:=w.heap.size) (o:=o)
  yok (t:=42) ho kn42 (by simp [S6.eval,upd]) (by simp [S6.eval,upd]) (by rw [s42];rfl) (by rw [s42];rfl) (by simp [Value.cells,Value.oneCell']) g0
 obtain ⟨_,t2,t3,t4⟩:=H (stO 42 (.tmp 0) (.tmp 5)) rfl
 refine rl_skip S6 rfl rfl (H _ rfl).1 fun a7 S7=>?_
 clear H
 generalize w5.setRow w.heap.size (Value.agg #[.slice (some ⟨w3.heap.size,0,none⟩) 2 2,.slice (some ⟨w4.heap.size,0,none⟩) 2 2]).cells=w6 at t2 t3 t4 ⊢
 refine wp_ret ?_
 show Leaves Tryz.prog Tryz.f70 a7.tmps _ a7.defers .returning w6
 rw [S7.defers]
 have r1:=sheet_results (f:=Tryz.f70) (t:=0) Tryz.results70 (a:=a7) (w:=w6) (b1:=w.heap.size) (by rw [S7.get 0 (by decide)];simp [upd]) rfl t2
 have hsz:=t3.size
 refine ⟨_,r1,_,w1.heap.size,w2.heap.size,w3.heap.size,w4.heap.size,rfl,⟨((((m1.trans m2).trans m3).trans m4).trans m5).trans t3,fun b hb=>?_,rfl,by omega,?_,?_,?_,?_⟩⟩
 ·rw [t4 _ (by omega),o5 _ (by omega),o4 _ (by omega),o3 _ (by omega),o2 _ (by omega),o1 _ hb]
 ·rw [t4 _ (by omega),o5 _ (by omega),o4 _ (by omega),o3 _ (by omega)];exact n2
 ·rw [t4 _ (by omega),o5 _ (by omega),o4 _ (by omega)];exact n3
 ·rw [t4 _ (by omega),o5 _ (by omega)];exact n4
 ·rw [t4 _ (by omega)];exact n5
theorem fs42:(Y 42).fields=some [(0,40),(1,22)]:=by kernel_rfl
theorem fn70:FnOK Tryz.prog 70:=⟨Tryz.f70,by kernel_rfl,by kernel_rfl,by kernel_rfl⟩
theorem ag40:(Y 40).agg=some false:=by kernel_rfl
theorem by22:(Y 22).bytes<=100:=Nat.le_of_ble_eq_true (by kernel_rfl)
structure AtB (w w':World) (v:Value) (b1 b2 d1 d3 d4 cap:Nat) (zs:Array Value):Prop where
 same:Same w w'
 old:∀ b,b<w.heap.size->w'.heap[b]?=w.heap[b]?
 val:v=.agg #[.slice (some ⟨d3,0,none⟩) 3 cap,.slice (some ⟨d4,0,none⟩) 3 3]
 cap:3<=cap/\cap<=maxLen
 lo:w.heap.size<=b1/\b1<b2/\b2<d1/\d1<d3/\d3<d4/\d4<w'.heap.size
 c1:w'.heap[b1]?=some (.cells #[.int .i64 123,.int .i64 45,.int .i64 (-60),.int .i64 7] 3 (0,0))
 c2:w'.heap[b2]?=some (.cells #[.int .i64 132,.int .i64 45,.int .i64 60,.int .i64 7] 3 (0,0))
 e1:w'.heap[d1]?=some (.cells #[.int .i64 123,.int .i64 45,.int .i64 60,.int .i64 7] 3 (0,0))
 e3:w'.heap[d3]?=some (.cells (#[.slice (some ⟨b1,0,none⟩) 4 4,.slice (some ⟨b2,0,none⟩) 4 4,.slice (some ⟨d1,0,none⟩) 4 4]++zs) 22 (0,0))
 e4:w'.heap[d4]?=some (.cells #[.int .i64 1,.int .i64 1,.int .i64 0] 3 (0,0))
theorem calls72 (w:World):Calls Tryz.prog 72 #[] w fun en w'=>∃ v b1 b2 d1 d3 d4 cap zs,en=.returned v/\AtB w w' v b1 b2 d1 d3 d4 cap zs:=by
 go_enter_defers Tryz.func72,Tryz.ntmps72
 have S:SL { tmps:=#[undef,undef,undef,undef,undef,undef,undef,undef,undef,undef,undef,undef],defers:=[] } 12 (fun t=>#[].getD t undef) []:=by
  exact SL.start #[] 12 (Nat.le_of_ble_eq_true rfl)
 generalize ({ tmps:=#[undef,undef,undef,undef,undef,undef,undef,undef,undef,undef,undef,undef],defers:=[] }:Act)=a at S ⊢
 refine wp_seq (wp_region_list ?_)
 have hal:=fun (o:Oper) (ho:o.op=Op.alloc 42)=>raw_alloc (P:=Tryz.prog) (a:=a) (w:=w) (o:=o) yok (t:=42) ho kn42
 rw [z42] at hal
 refine rl_val S (d:=0) rfl (by decide) rfl (hal _ rfl) fun a1 S1=>?_
 obtain ⟨w1,hw1,m1,z1,n1,o1⟩:=alloc_facts w (.cells #[.slice none 0 0,.slice none 0 0] 42)
 rw [hw1]
 refine wp_seq (wp_region_list ?_)
 refine rl_call S1 (d:=2) (g:=70) (vs:=#[]) rfl (by decide) rfl ?_ (calls70 w1) (fun v w2 hr a2 S2=>?_) (fun ch w2 hr=>?_) (fun w2 hr=>?_)
 ·have:=fun (o:Oper) (ho:o.op=Op.call { callee:=Callee.value (.func 70),args:=#[],argTypes:=#[] })=>exec_call (P:=Tryz.prog) (a:=a1) (w:=w1) (o:=o) ho rfl fn70 (us:=#[]) (cvs:=#[])
  simpa using this _ rfl
 ·obtain ⟨v',b1,b2,b3,b4,hv,A⟩:=hr
  obtain rfl:v=v':=Ending.returned.inj hv
  have hA:=A.lo
  have hval:=A.val
  subst hval
  have hal:=fun (o:Oper) (ho:o.op=Op.alloc 42)=>raw_alloc (P:=Tryz.prog) (a:=a2) (w:=w2) (o:=o) yok (t:=42) ho kn42
  rw [z42] at hal
  refine rl_val S2 (d:=1) rfl (by decide) rfl (hal _ rfl) fun a3 S3=>?_
  obtain ⟨w3,hw3,m3,z3,n3,o3⟩:=alloc_facts w2 (.cells #[.slice none 0 0,.slice none 0 0] 42)
  rw [hw3]
  have H:=fun (o:Oper) (ho:o.op=Op.store 42 (.tmp 1) (.tmp 2))=>raw_store (P:=Tryz.prog) (a:=a3) (w:=w3) (v:=.agg #[.slice (some ⟨b3,0,none⟩) 2 2,.slice (some ⟨b4,0,none⟩) 2 2]) (b:=w2.heap.size) (o:=o)
   yok (t:=42) ho kn42 (by simp [S3.eval,upd]) (by simp [S3.eval,upd]) (by rw [s42];rfl) (by rw [s42];rfl) (by simp [Value.cells,Value.oneCell']) n3
  obtain ⟨_,t2,t3,t4⟩:=H (stO 42 (.tmp 1) (.tmp 2)) rfl
  refine rl_skip S3 rfl rfl (H _ rfl).1 fun a4 S4=>?_
  clear H
  generalize w3.setRow w2.heap.size (Value.agg #[.slice (some ⟨b3,0,none⟩) 2 2,.slice (some ⟨b4,0,none⟩) 2 2]).cells=w4 at t2 t3 t4 ⊢
  have hz4:=t3.size
  refine wp_seq (wp_region_list ?_)
  refine rl_val S4 (d:=3) rfl (by decide) rfl (raw_field yok rfl fs42 rfl (b:=w2.heap.size) (off:=0) (by simp [S4.eval,upd])) fun a5 S5=>?_
  refine rl_val S5 (d:=4) rfl (by decide) rfl (raw_load1 yok (b:=w2.heap.size) (k:=0) (u:=.slice (some ⟨b3,0,none⟩) 2 2) rfl ag40 (by simp [S5.eval,upd]) (by simp [World.cell?,t2,Value.cells])) fun a6 S6=>?_
  refine rl_val S6 (d:=5) rfl (by decide) rfl (raw_slice yok (vs:=[.int .i64 123,.int .i64 45,.int .i64 60,.int .i64 7]) rfl k22 kn3 s3 (by simp [Act.eval]) rfl (by decide) (by decide) (by simp [Value.cells])) fun a7 S7=>?_
  obtain ⟨w5,hw5,m5,z5,n5,o5⟩:=alloc_facts w4 (.cells [Value.int .i64 123,.int .i64 45,.int .i64 60,.int .i64 7].toArray 3)
  rw [hw5]
  refine rl_val S7 (d:=6) rfl (by decide) rfl (raw_slice yok (vs:=[.slice (some ⟨w4.heap.size,0,none⟩) 4 4]) rfl k40 kn22 s22 (by simp [S7.eval,upd]) rfl (by decide) (by decide) (by simp [Value.cells])) fun a8 S8=>?_
  obtain ⟨w6,hw6,m6,z6,n6,o6⟩:=alloc_facts w5 (.cells [Value.slice (some ⟨w4.heap.size,0,none⟩) 4 4].toArray 22)
  rw [hw6]
  have hb3:w6.heap[b3]?=some (.cells [Value.slice (some ⟨b1,0,none⟩) 4 4,.slice (some ⟨b2,0,none⟩) 4 4].toArray 22 (0,0)):=by
   rw [o6 _ (by omega),o5 _ (by omega),t4 _ (by omega),o3 _ (by omega)];exact A.c3
  obtain ⟨cap,zs,hc1,hc2,hrun⟩:=raw_grow (P:=Tryz.prog) (a:=a8) (w:=w6) (p:=.tmp 4) (q:=.tmp 6) yok (t:=40) (el:=22) (b:=b3) (sb:=w5.heap.size) (n:=2) (m:=1) (sc:=1)
   (olds:=[Value.slice (some ⟨b1,0,none⟩) 4 4,.slice (some ⟨b2,0,none⟩) 4 4]) (news:=[Value.slice (some ⟨w4.heap.size,0,none⟩) 4 4]) k40 kn22 s22 by22 (by simp [S8.eval,upd]) (by simp [S8.eval,upd]) rfl rfl (by decide) (by decide) hb3 n6
  refine rl_val S8 (d:=7) rfl (by decide) rfl (hrun _ rfl) fun a9 S9=>?_
  clear hrun
  obtain ⟨w7,hw7,m7,z7,n7,o7⟩:=alloc_facts w6.drew (.cells ([Value.slice (some ⟨b1,0,none⟩) 4 4,.slice (some ⟨b2,0,none⟩) 4 4].toArray++[Value.slice (some ⟨w4.heap.size,0,none⟩) 4 4].toArray++zs) 22)
  rw [hw7]
  have hdh:w6.drew.heap=w6.heap:=rfl
  have hds:Same w6 w6.drew:=⟨rfl,rfl,rfl,Nat.le_refl _⟩
  rw [hdh] at z7 n7 o7
  refine rl_val S9 (d:=8) rfl (by decide) rfl (raw_slice yok (vs:=[.int .i64 1,.int .i64 1,.int .i64 0]) rfl k22 kn3 s3 (by simp [Act.eval]) rfl (by decide) (by decide) (by simp [Value.cells])) fun a10 S10=>?_
  obtain ⟨w8,hw8,m8,z8,n8,o8⟩:=alloc_facts w7 (.cells [Value.int .i64 1,.int .i64 1,.int .i64 0].toArray 3)
  rw [hw8]
  have hc8:w8.heap[w2.heap.size]?=some (.cells #[.slice (some ⟨b3,0,none⟩) 2 2,.slice (some ⟨b4,0,none⟩) 2 2] 42 (0,0)):=by
   rw [o8 _ (by omega),o7 _ (by omega),o6 _ (by omega),o5 _ (by omega)];exact t2
  refine rl_val S10 (d:=9) rfl (by decide) rfl (raw_field yok rfl fs42 rfl (b:=w2.heap.size) (off:=0) (by simp [S10.eval,upd])) fun a11 S11=>?_
  obtain ⟨w9,q0,q1,q3,q2⟩:=raw_put0 (P:=Tryz.prog) (a:=a11) (w:=w8) (p:=.tmp 9) (q:=.tmp 7) yok (t:=40) kn40 s40 (b:=w2.heap.size) (v:=.slice (some ⟨w6.heap.size,0,none⟩) 3 cap) (by simp [S11.eval,upd]) (by simp [S11.eval,upd]) rfl rfl hc8
  refine rl_skip S11 rfl rfl (q0 _ rfl) fun a12 S12=>?_
  refine rl_val S12 (d:=10) rfl (by decide) rfl (raw_field yok rfl fs42 rfl (b:=w2.heap.size) (off:=0) (by simp [S12.eval,upd])) fun a13 S13=>?_
  obtain ⟨w10,r0,r1,r3,r2⟩:=raw_put1 (P:=Tryz.prog) (a:=a13) (w:=w9) (p:=.tmp 10) (q:=.tmp 8) yok (t:=22) kn22 s22 (b:=w2.heap.size) (v:=.slice (some ⟨w7.heap.size,0,none⟩) 3 3) (by simp [S13.eval,upd]) (by simp [S13.eval,upd]) rfl rfl q1
  refine rl_skip S13 rfl rfl (r0 _ rfl) fun a14 S14=>?_
  refine wp_seq (wp_region_list ?_)
  refine rl_val S14 (d:=11) rfl (by decide) rfl (raw_load yok (b:=w2.heap.size) (cur:=#[.slice (some ⟨w6.heap.size,0,none⟩) 3 cap,.slice (some ⟨w7.heap.size,0,none⟩) 3 3]) (t:=42) rfl a42 (by simp [S14.eval,upd]) (by rw [s42];rfl) r1) fun a15 S15=>?_
  have hn0:w10.heap[w.heap.size]?=some (.cells #[.slice none 0 0,.slice none 0 0] 42 (0,0)):=by
   rw [r2 _ (by omega),q2 _ (by omega),o8 _ (by omega),o7 _ (by omega),o6 _ (by omega),o5 _ (by omega),t4 _ (by omega),o3 _ (by omega),A.old _ (by omega)];exact n1
  have H:=fun (o:Oper) (ho:o.op=Op.store 42 (.tmp 0) (.tmp 11))=>raw_store (P:=Tryz.prog) (a:=a15) (w:=w10) (v:=.agg #[.slice (some ⟨w6.heap.size,0,none⟩) 3 cap,.slice (some ⟨w7.heap.size,0,none⟩) 3 3]) (b:=w.heap.size) (o:=o)
   yok (t:=42) ho kn42 (by simp [S15.eval,upd]) (by simp [S15.eval,upd]) (by rw [s42];rfl) (by rw [s42];rfl) (by simp [Value.cells,Value.oneCell']) hn0
  obtain ⟨_,v2,v3,v4⟩:=H (stO 42 (.tmp 0) (.tmp 11)) rfl
  refine rl_skip S15 rfl rfl (H _ rfl).1 fun a16 S16=>?_
  clear H
  generalize w10.setRow w.heap.size (Value.agg #[.slice (some ⟨w6.heap.size,0,none⟩) 3 cap,.slice (some ⟨w7.heap.size,0,none⟩) 3 3]).cells=w11 at v2 v3 v4 ⊢
  refine wp_ret ?_
  show Leaves Tryz.prog Tryz.f72 a16.tmps _ a16.defers .returning w11
  rw [S16.defers]
  have e1:=sheet_results (f:=Tryz.f72) (t:=0) Tryz.results72 (a:=a16) (w:=w11) (b1:=w.heap.size) (by rw [S16.get 0 (by decide)];simp [upd]) rfl v2
  have y1:=q3.size
  have y2:=r3.size
  have y3:=v3.size
  have old:∀ b,b<w8.heap.size->b≠w2.heap.size->b≠w.heap.size->w11.heap[b]?=w8.heap[b]?:=fun b hb h1 h2=>by rw [v4 _ h2,r2 _ h1,q2 _ h1]
  have old6:∀ b,b<w4.heap.size->b≠w2.heap.size->b≠w.heap.size->w11.heap[b]?=w4.heap[b]?:=fun b hb h1 h2=>by rw [old b (by omega) h1 h2,o8 _ (by omega),o7 _ (by omega),o6 _ (by omega),o5 _ hb]
  have oldA:∀ b,b<w2.heap.size->b≠w.heap.size->w11.heap[b]?=w2.heap[b]?:=fun b hb h2=>by rw [old6 b (by omega) (by omega) h2,t4 _ (by omega),o3 _ hb]
  refine ⟨_,e1,_,b1,b2,w4.heap.size,w6.heap.size,w7.heap.size,cap,zs,rfl,⟨?_,fun b hb=>?_,rfl,⟨hc1,hc2⟩,by omega,?_,?_,?_,?_,?_⟩⟩
  ·exact ((((((((((m1.trans A.same).trans m3).trans t3).trans m5).trans m6).trans hds).trans m7).trans m8).trans q3).trans r3).trans v3
  ·rw [oldA b (by omega) (by omega),A.old _ (by omega),o1 _ hb]
  ·rw [oldA _ (by omega) (by omega)];exact A.c1
  ·rw [oldA _ (by omega) (by omega)];exact A.c2
  ·rw [old _ (by omega) (by omega) (by omega),o8 _ (by omega),o7 _ (by omega),o6 _ (by omega)];exact n5
  ·rw [old _ (by omega) (by omega) (by omega),o8 _ (by omega)];exact n7
  ·rw [old _ (by omega) (by omega) (by omega)];exact n8
 ·obtain ⟨_,_,_,_,_,h,_⟩:=hr;cases h
 ·obtain ⟨_,_,_,_,_,h,_⟩:=hr;cases h
theorem rep_ints {vis:Nat->Nat} {w:World} {b:Nat} {l:List Int} {T:TypeId} {f:Nat×Nat} (hl:l.length<=100) (hb:w.heap[b]?=some (.cells (l.map (Value.int .i64)).toArray T f)) (hv:l.length<=vis b):Rep vis w (.l eI l) (.slice (some ⟨b,0,none⟩) l.length l.length):=by
 refine .s _ _ _ b 0 l.length 1 (fun i _=>.int .i64 (nth l i)) (Nat.le_refl _) (by unfold maxLen;omega) (fun i hi=>rfl) (by omega) (fun i j c hi hj=>?_) (fun i j c hi hj=>?_)
 ·have hj0:j=0:=by
   have:=(List.getElem?_eq_some_iff.1 hj).1
   have h1:(eI (nth l i)).length=1:=rfl
   omega
  subst hj0
  simp only [World.cell?,hb]
  rw [show 0+i*1+0=i by omega]
  simp [nth_eq hi,hi]
 ·have hj0:j=0:=by
   have:=(List.getElem?_eq_some_iff.1 hj).1
   have h1:(eI (nth l i)).length=1:=rfl
   omega
  subst hj0
  obtain rfl:C.v (.int .i64 (nth l i))=c:=Option.some.inj hj
  exact .v _ rfl
theorem exB72 {Gl:World->Prop}:CO Gl 72 [] (.ret (tSheet exB)):=by
 refine ⟨⟨Tryz.f72,by kernel_rfl,by kernel_rfl,by kernel_rfl⟩,fun vis w vs hvis hgl hargs=>?_⟩
 obtain rfl:vs=#[]:=by
  simp only [RelTs] at hargs
  exact Array.toList_eq_nil_iff.1 hargs
 refine (calls72 w).mono ?_
 rintro en w' ⟨v,b1,b2,d1,d3,d4,cap,zs,rfl,A⟩
 have hA:=A.lo
 have hcap:=A.cap
 refine ⟨⟨A.same.os,A.same.tape,A.same.output,A.same.size,A.old⟩,v,fun b=>if b<w.heap.size then vis b else if b<w'.heap.size then 4 else 0,rfl,fun b hb=>if_pos hb,fun b hb=>?_,?_⟩
 ·have:=A.same.size
  show (if b<w.heap.size then vis b else if b<w'.heap.size then 4 else 0)=0
  rw [if_neg (by omega),if_neg (by omega)]
 ·generalize hvv:(fun b=>if b<w.heap.size then vis b else if b<w'.heap.size then 4 else 0)=vv
  have hv4:∀ b,w.heap.size<=b->b<w'.heap.size->vv b=4:=fun b h1 h2=>by rw [<-hvv];show (if b<w.heap.size then vis b else if b<w'.heap.size then 4 else 0)=4;rw [if_neg (by omega),if_pos h2]
  have hval:=A.val
  subst hval
  have i1:=rep_ints (vis:=vv) (l:=[123,45,-60,7]) (by decide) A.c1 (by rw [hv4 _ (by omega) (by omega)];decide)
  have i2:=rep_ints (vis:=vv) (l:=[132,45,60,7]) (by decide) A.c2 (by rw [hv4 _ (by omega) (by omega)];decide)
  have i3:=rep_ints (vis:=vv) (l:=[123,45,60,7]) (by decide) A.e1 (by rw [hv4 _ (by omega) (by omega)];decide)
  have i4:=rep_ints (vis:=vv) (l:=[1,1,0]) (by decide) A.e4 (by rw [hv4 _ (by omega) (by omega)];decide)
  refine ⟨_,rfl,rfl,fun j c u hc hu=>?_⟩
  match j,hc,hu with
  |0,hc,hu=>
   obtain rfl:=Option.some.inj hc
   obtain rfl:=Option.some.inj hu
   refine .s _ _ _ d3 0 cap 1 (fun i _=>match i with|0=>.slice (some ⟨b1,0,none⟩) 4 4|1=>.slice (some ⟨b2,0,none⟩) 4 4|_=>.slice (some ⟨d1,0,none⟩) 4 4) hcap.1 hcap.2 (fun i hi=>rfl) (by rw [hv4 _ (by omega) (by omega)];decide) (fun i j c hi hj=>?_) (fun i j c hi hj=>?_)
   ·have hj0:j=0:=by
     have h1:=(List.getElem?_eq_some_iff.1 hj).1
     have h2:(eCol (nth exB.cols i)).length=1:=rfl
     omega
    subst hj0
    have hi:i<3:=hi
    match i,hi with
    |0,_=>
     simp only [World.cell?,A.e3]
     exact (Array.getElem?_append_left (show 0<3 by decide)).trans rfl
    |1,_=>
     simp only [World.cell?,A.e3]
     exact (Array.getElem?_append_left (show 1<3 by decide)).trans rfl
    |2,_=>
     simp only [World.cell?,A.e3]
     exact (Array.getElem?_append_left (show 2<3 by decide)).trans rfl
   ·have hj0:j=0:=by
     have h1:=(List.getElem?_eq_some_iff.1 hj).1
     have h2:(eCol (nth exB.cols i)).length=1:=rfl
     omega
    subst hj0
    obtain rfl:C.l eI (nth exB.cols i)=c:=Option.some.inj hj
    have hi:i<3:=hi
    match i,hi with
    |0,_=>exact i1
    |1,_=>exact i2
    |2,_=>exact i3
  |1,hc,hu=>
   obtain rfl:=Option.some.inj hc
   obtain rfl:=Option.some.inj hu
   exact i4
  |j+2,hc,hu=>cases hc
open Go Go.Proofs Go.Vc
theorem slim20 {Gl} (S:SP Gl) (l:List Int):CO Gl 20 [L eI l] (.ret (B (decide ((l.length:Int)<=8)))):=by
 refine fn_is S (.nil) Tryz.func20 (by kernel_rfl) (l.length<=maxLen->decide ((l.length:Int)<=8)=decide ((l.length:Int)<=8)) (by kernel_rfl) ?_
 simp only [stdS,imp_self,implies_true,and_true]
theorem figures27 {Gl} (S:SP Gl) (n:Int) (h:num n=true):CO Gl 27 [I n] (.ret (I (fA n+fB n+fC n))):=by
 refine fn_iq S (let A0:=(Int.tdiv (max n (-n)) (10:Int));((.nil),(iR (-n)/\((100:Int)≠(0:Int)/\iR (Int.tdiv (max n (-n)) (100:Int)))/\((10:Int)≠(0:Int)/\iR A0)/\(10:Int)≠(0:Int)/\iR (Int.tdiv (max n (-n)) (100:Int)+Int.tmod A0 (10:Int))/\(10:Int)≠(0:Int)/\iR (Int.tdiv (max n (-n)) (100:Int)+Int.tmod A0 (10:Int)+Int.tmod (max n (-n)) (10:Int))/\Int.tdiv (max n (-n)) (100:Int)+Int.tmod A0 (10:Int)+Int.tmod (max n (-n)) (10:Int)=fA n+fB n+fC n))) Tryz.func27 (by kernel_rfl) (by kernel_rfl) ?_
 dsimp only
 obtain ⟨a,b,c⟩:=fABC h
 have h':=num_iff.1 h
 have h0:=abT (n:=n)
 rw [fA_t,fB_t,fC_t]
 have r1:inRange .i64 (Int.tdiv (max n (-n)) 10):=(rng_iff _).2 (by rw [Int.tdiv_eq_ediv_of_nonneg h0];omega)
 exact ⟨(rng_iff _).2 (by omega),⟨by decide,(rng_iff _).2 (by omega)⟩,⟨by decide,r1⟩,by decide,(rng_iff _).2 (by omega),by decide,(rng_iff _).2 (by omega),rfl⟩
def stF (s:Sheet):Bool:=s.ok&&decide (0<(allR s).length)
def stC (s:Sheet):Int:=bif s.ok then (bif decide (0<(allR s).length) then 0 else 5) else 2
theorem stF_yes {s:Sheet} (h:stF s=true):s.ok=true/\0<(allR s).length/\stC s=0:=by
 unfold stF at h
 rw [Bool.and_eq_true,decide_eq_true_eq] at h
 unfold stC
 rw [h.1,decide_eq_true h.2]
 exact ⟨rfl,h.2,rfl⟩
theorem st_cases (s:Sheet):(s.ok=true/\0<(allR s).length/\stF s=true/\stC s=0)∨(s.ok=true/\(allR s).length=0/\stF s=false/\stC s=5)∨(s.ok=false/\stF s=false/\stC s=2):=by
 unfold stF stC
 cases hs:s.ok with
 |false=>exact .inr (.inr ⟨rfl,rfl,rfl⟩)
 |true=>
  rcases Nat.eq_zero_or_pos (allR s).length with h|h
  ·exact .inr (.inl ⟨rfl,h,by rw [h];rfl,by rw [h];rfl⟩)
  ·exact .inl ⟨rfl,h,by rw [decide_eq_true h];rfl,by rw [decide_eq_true h];rfl⟩
section
variable {Gl} (S:SP Gl) (s:Sheet)
include S
def agF (s:Sheet) (r:List Int):Bool:=s.ok&&(isCol r&&((r.length:Int)==(rows s:Int)))
theorem agrees28a (r:List Int):CO Gl 28 [tSheet s,L eI r] (.ret (.tup [.c (.v (.bool (bif agF s r then agrees s r else false))),.c (Ci (bif agF s r then 0 else 2))])):=by
 cases hf:agF s r with
 |true=>
  have hf':=hf
  unfold agF at hf'
  rw [Bool.and_eq_true,Bool.and_eq_true,beq_iff_eq] at hf'
  exact agrees28 S s r hf'.1 hf'.2.1 (by have:=hf'.2.2;omega)
 |false=>exact agrees28e S s r hf
theorem least29a:CO Gl 29 [tSheet s] (.ret (.tup [.c (Ci (bif stF s then leastA s else 0)),.c (Ci (stC s))])):=by
 rcases st_cases s with ⟨h1,h2,h3,h4⟩|⟨h1,h2,h3,h4⟩|⟨h1,h3,h4⟩<;>rw [h3,h4]
 ·exact least29 S s h1 h2
 ·exact least29n S s h1 h2
 ·exact least29e S s h1
end
set_option maxRecDepth 100000
set_option maxRecDepth 100000
set_option maxRecDepth 100000
set_option maxHeartbeats 4000000
set_option maxRecDepth 100000
set_option maxHeartbeats 4000000
set_option maxRecDepth 100000
set_option maxHeartbeats 8000000
def errF (r l:List Int):Bool:=isCol r&&(isCol l&&l.length==r.length)
def errC (r l:List Int):Int:=bif errF r l then (bif errOK r l then 0 else 5) else 2
def errW (r l:List Int):List Err:=bif errF r l then errL r l else []
theorem errF_iff {r l:List Int}:errF r l=true↔isCol r=true/\isCol l=true/\l.length=r.length:=by
 unfold errF
 rw [Bool.and_eq_true,Bool.and_eq_true,beq_iff_eq]
theorem errors22a {Gl} (S:SP Gl) (r l:List Int):CO Gl 22 [L eI r,L eI l] (.ret (.tup [.c (.l eErr (errW r l)),.c (Ci (errC r l))])):=by
 unfold errC errW
 cases hf:errF r l with
 |true=>
  obtain ⟨h1,h2,h3⟩:=errF_iff.1 hf
  exact errors22u S r l h1 h2 h3
 |false=>exact errors22e S r l hf
theorem errF_yes {r l:List Int} (h:errF r l=true):errC r l=(bif errOK r l then 0 else 5)/\errW r l=errL r l:=by
 unfold errC errW
 rw [h]
 exact ⟨rfl,rfl⟩
set_option maxRecDepth 100000
set_option maxHeartbeats 8000000
def cpT (l ks:List Int) (sec:List Bool) (k:Nat):List Int:=(copyL l ks sec).take k++l.drop k
theorem cpT_at {l ks:List Int} {sec:List Bool} {k i:Nat} (hk:k<=l.length):nth (cpT l ks sec k) i=if i<k then nth (copyL l ks sec) i else nth l i:=by
 unfold cpT
 have hl:((copyL l ks sec).take k).length=k:=by rw [List.length_take,copyL_len];omega
 by_cases h:i<k
 ·rw [if_pos h,nth_append_lt (by omega),nth_take h]
 ·rw [if_neg h,nth_append_ge (by omega),hl,nth_drop]
  congr 1
  omega
theorem cpT_all {l ks:List Int} {sec:List Bool}:cpT l ks sec l.length=copyL l ks sec:=by
 unfold cpT
 rw [List.drop_length,List.append_nil]
 have:=copyL_len l ks sec
 rw [<-this,List.take_length]
section
variable {Gl} (S:SP Gl) (l ks:List Int) (sec:List Bool)
include S
theorem errors22k (k:Nat) (hk:k=l.length) (hl:isCol l=true):CO Gl 22 [L eI l,.d (.c (.s .n l.length fun j=>eI (nth (cpT l ks sec k) j)))] (.ret (.tup [.c (.l eErr (errL l (copyL l ks sec))),.c (Ci 0)])):=by
 subst hk
 have h:=errors22a S l (copyL l ks sec)
 have hn:=(Bool.and_eq_true_iff.1 hl).1
 have hc:errF l (copyL l ks sec)=true:=errF_iff.2 ⟨hl,by
  have h2:=(Bool.and_eq_true_iff.1 hl).2
  unfold isCol
  rw [copyL_num hn,copyL_len]
  exact h2,copyL_len _ _ _⟩
 rw [(errF_yes hc).1,(errF_yes hc).2,copyL_ok hn] at h
 refine h.args ⟨(SEq_refl _ _).2 trivial,?_⟩
 rw [cpT_all]
 exact ⟨(copyL_len l ks sec).symm,fun i _=>.inl rfl⟩
end
def xMade (l ks:List Int) (sec:List Bool) (k:Nat):Sheet:=⟨[copyL l ks sec],[((errTo l (copyL l ks sec) k).length:Int)]⟩
def tMade (l ks:List Int) (sec:List Bool) (k:Nat):T:=.d (.agg [C.s Tag.n 1 fun i=>[List.map C.dem [C.s Tag.n l.length fun j=>eI (nth (copyL l ks sec) j)]].getD i [],C.s Tag.n 1 fun i=>[List.map C.dem [C.v (Value.int IntKind.i64 ((errTo l (copyL l ks sec) k).length:Int))]].getD i []])
theorem made_le {l ks:List Int} {sec:List Bool} {k:Nat}:conjT (leTs [tMade l ks sec k] [tSheet (xMade l ks sec k)]):=by
 refine ⟨⟨rfl,fun i hi=>?_⟩,⟨rfl,fun i hi=>?_⟩⟩
 ·obtain rfl:i=0:=by omega
  exact .inr ⟨.inr (.inr ⟨_,_,_,_,_,_,rfl,rfl,(copyL_len l ks sec).symm,fun _ _=>rfl⟩),trivial⟩
 ·obtain rfl:i=0:=by omega
  exact .inl rfl
theorem made_all {l ks:List Int} {sec:List Bool} (hl:isCol l=true):errTo l (copyL l ks sec) l.length=errL l (copyL l ks sec):=by
 unfold errL
 rw [copyL_ok (Bool.and_eq_true_iff.1 hl).1]
 rfl
section
variable {Gl} (S:SP Gl) (l ks:List Int) (sec:List Bool) (k:Nat) (hk:k=l.length) (hl:isCol l=true) (hn:(errL l (copyL l ks sec)).length<=2)
include S hk hl hn
theorem agrees28m:CO Gl 28 [tMade l ks sec k,L eI l] (.ret (.tup [.c (.v (.bool true)),.c (Ci 0)])):=by
 subst hk
 have hnum:=(Bool.and_eq_true_iff.1 hl).1
 have he:=made_all (ks:=ks) (sec:=sec) hl
 obtain ⟨o1,o2⟩:=made_ok (k:=((errTo l (copyL l ks sec) l.length).length:Int)) hl (copyL_len l ks sec) (copyL_num hnum ks sec) (by rw [he];omega)
 have h:=agrees28a S (xMade l ks sec l.length) l
 have hf:agF (xMade l ks sec l.length) l=true:=by
  unfold agF
  have o1:(xMade l ks sec l.length).ok=true:=o1
  have o2:rows (xMade l ks sec l.length)=l.length:=o2
  rw [o1,hl,o2,beq_self_eq_true]
  rfl
 have ha:agrees (xMade l ks sec l.length) l=true:=made_agrees (copyL_len l ks sec) (copyL_ok hnum ks sec) (by rw [he];omega)
 rw [hf,ha] at h
 exact h.args ⟨made_le.1,made_le.2,(SEq_refl _ _).2 trivial⟩
theorem least29m:CO Gl 29 [tMade l ks sec k] (.ret (.tup [.c (Ci 0),.c (Ci 0)])):=by
 subst hk
 have hnum:=(Bool.and_eq_true_iff.1 hl).1
 have he:=made_all (ks:=ks) (sec:=sec) hl
 obtain ⟨o1,o2⟩:=made_ok (k:=((errTo l (copyL l ks sec) l.length).length:Int)) hl (copyL_len l ks sec) (copyL_num hnum ks sec) (by rw [he];omega)
 have o1:(xMade l ks sec l.length).ok=true:=o1
 obtain ⟨g1,g2⟩:=made_least o1 (copyL_num hnum ks sec)
 have h:=least29a S (xMade l ks sec l.length)
 have e1:stF (xMade l ks sec l.length)=true:=by unfold stF;rw [o1,decide_eq_true (show 0<(allR (xMade l ks sec l.length)).length from g1)];rfl
 have e2:stC (xMade l ks sec l.length)=0:=(stF_yes e1).2.2
 have e3:leastA (xMade l ks sec l.length)=0:=g2
 rw [e1,e2,cond_true,e3] at h
 exact h.args made_le
end
theorem erS {r l:List Int} {k:Nat} (h:(nth l k==nth r k)=true):errTo r l (k+1)=errTo r l k:=by
 show errTo r l k++(bif nth l k==nth r k then [] else [⟨k,(rtOf r k).kind (nth l k)⟩])=_
 rw [h,cond_true,List.append_nil]
theorem erD {r l:List Int} {k:Nat} (h:(nth l k==nth r k)=false):errTo r l (k+1)=errTo r l k++[⟨k,(rtOf r k).kind (nth l k)⟩]:=by
 show errTo r l k++(bif nth l k==nth r k then [] else [⟨k,(rtOf r k).kind (nth l k)⟩])=_
 rw [h,cond_false]
theorem errTo_pre {r l:List Int} {k:Nat}:∀ {n:Nat},k<=n->∃ m,errTo r l n=errTo r l k++m
 |0,h=>by
  have:k=0:=by omega
  subst this
  exact ⟨[],by simp⟩
 |n+1,h=>by
  rcases Nat.lt_or_ge n k with h1|h1
  ·have:k=n+1:=by omega
   subst this
   exact ⟨[],by simp⟩
  ·obtain ⟨m,hm⟩:=errTo_pre (r:=r) (l:=l) h1
   exact ⟨m++(bif nth l n==nth r n then [] else [⟨n,(rtOf r n).kind (nth l n)⟩]),by
    show errTo r l n++_=_
    rw [hm,List.append_assoc]⟩
theorem errTo_at {r l:List Int} {n k:Nat} (hk:k<n) (h:(nth l k==nth r k)=false):(errTo r l k).length<(errTo r l n).length/\nth (errTo r l n) (errTo r l k).length=⟨k,(rtOf r k).kind (nth l k)⟩:=by
 obtain ⟨m,hm⟩:=errTo_pre (r:=r) (l:=l) (k:=k+1) (n:=n) hk
 rw [hm,erD h,List.append_assoc]
 refine ⟨by rw [List.length_append];simp,?_⟩
 rw [nth_append_ge (Nat.le_refl _),Nat.sub_self]
 rfl
theorem law4 {Gl} (S:SP Gl) (hG:GlOK Gl) (l ks:List Int) (sec:List Bool):CO Gl 4 [L eI l,L eI ks,L eB sec] (.ret (B true)):=by
 refine fn_iq S (let A0:=(copyL l ks sec);let A1:=fun (k1:Nat)=>(eqB (decide ((↑(List.length (errL l (copyL l ks sec))):Int)<=(↑(List.length (errTo l (copyL l ks sec) k1)):Int))) false=true->eqB (decide ((↑(List.length (errL l (copyL l ks sec))):Int)<=(↑(List.length (errTo l (copyL l ks sec) k1)):Int))) false=true);let A2:=fun (k1:Nat)=>(fA (nth l k1)+fB (nth l k1)+fC (nth l k1)==fA (nth A0 k1)+fB (nth A0 k1)+fC (nth A0 k1));let A3:=(bif !decide ((l.length:Int)<=8) then true else (ks.length:Int) != (l.length:Int));let A4:=(bif bif !decide ((l.length:Int)<=8) then true else (ks.length:Int) != (l.length:Int) then true else (sec.length:Int) != (l.length:Int));let A5:=fun (k1:Nat)=>(eqB (decide ((k1:Int)+1<(l.length:Int))) true=true->eqB (decide ((k1:Int)+1<(l.length:Int))) true=true);let A6:=fun (k1:Nat)=>(List.length (errTo l A0 k1));let A7:=fun (k1:Nat)=>(max (nth l k1) (-nth l k1)-max (nth A0 k1) (-nth A0 k1)==(10:Int));let A8:=fun (k1:Nat)=>(0<=(k1:Int)/\(k1:Int)<(l.length:Int));let A9:=(eqB (!decide ((l.length:Int)<=8)) false=true->eqB (!decide ((l.length:Int)<=8)) false=true);let A10:=(SEq l.length (fun j=>eI (nth A0 j)) l.length fun j=>eI (nth A0 j));let A11:=fun (k1:Nat)=>(max (nth l k1) (-nth l k1)-max (nth A0 k1) (-nth A0 k1));let A12:=(errL l A0);let A13:=(bif bif bif !decide ((l.length:Int)<=8) then true else (ks.length:Int) != (l.length:Int) then true else (sec.length:Int) != (l.length:Int) then true else !isCol l);let A14:=fun (k1:Nat)=>(bif decide ((↑(List.length (errL l (copyL l ks sec))):Int)<=(↑(List.length (errTo l (copyL l ks sec) k1)):Int)) then true else (nth A12 (A6 k1)).1 != (k1:Int));let A15:=fun (k0:Nat)=>(bif wroteB l k0 (nth ks k0) then wroteN l k0 (nth ks k0) (nth sec k0) else (0:Int));let A16:=fun (k1:Nat)=>(!bif max (nth l k1) (-nth l k1)-max (nth A0 k1) (-nth A0 k1)==(10:Int) then true else max (nth l k1) (-nth l k1)-max (nth A0 k1) (-nth A0 k1)==(100:Int));let A17:=fun (k1:Nat)=>(↑(List.length (errTo l A0 (k1+1))):Int);let A18:=fun (k1:Nat)=>(!bif fA (nth l k1)+fB (nth l k1)+fC (nth l k1)==fA (nth A0 k1)+fB (nth A0 k1)+fC (nth A0 k1) then Int.tmod (A11 k1) (9:Int)==0 else false);let A19:=(eqB A3 false=true->eqB A3 false=true);let A20:=fun (k1:Nat)=>(eqB (A2 k1) true=true->eqB (A2 k1) true=true);let A21:=fun (k1:Nat)=>(↑(A6 k1):Int);let A22:=(bif false then true else decide ((l.length:Int)<(↑(List.length (errL l (copyL l ks sec))):Int)));let A23:=fun (k1:Nat)=>(!bif decide ((k1:Int)+1<(l.length:Int)) then nth A0 k1==nth l (Int.toNat ((k1:Int)+1)) else false);let A24:=fun (k1:Nat)=>(eqB (A7 k1) false=true->eqB (A7 k1) false=true);let A25:=(↑(List.length A12):Int);let A26:=fun (k1:Nat)=>(nth A12 (A6 k1));let A27:=(sR eErr A12);let A28:=fun (k0:Nat)=>(fun (j:Nat)=>eI (nth (cpT l ks sec k0) j));((.r (.ret (B (decide ((l.length:Int)<=8)))) (.r (.ret (B (isCol l))) (.br (.r (.ret (B true)) .nil) (.arrA (nat_lit 47) (.loop l.length (fun k=>[v 8 (I k),v 7 (T.arr 47 l.length),((2:Nat),(47:Nat),T.arrc false (1:Nat) l.length fun j=>eI (nth (cpT l ks sec k) j)),v 0 (L eI l),v 1 (L eI ks),v 2 (L eB sec)]) fun k0=>.br (.r (.ret (.tup [D.c (Ci (A15 k0)),D.c (Cb (wroteB l k0 (nth ks k0)))])) (.br .nil .nil)) (.r (.ret (.tup [D.c (C.l eErr A12),D.c (Ci 0)])) (.sure 82 (.sure 83 (.sure 84 (.sure 85 (.sure 86 (.br .nil (.loop l.length (fun k=>[v 14 (I k),v 13 (I (↑(List.length (errTo l A0 k)):Int)),v 11 (L eErr A12),v 7 (T.arr 47 l.length),((2:Nat),(47:Nat),T.arrc true (1:Nat) l.length fun j=>eI (nth A0 j)),v 0 (L eI l)]) fun k1=>.br (.br .nil (.br .nil (.br (.r (.ret (I (fA (nth l k1)+fB (nth l k1)+fC (nth l k1)))) (.r (.ret (I (fA (nth A0 k1)+fB (nth A0 k1)+fC (nth A0 k1)))) (.br .nil .nil))) (.br (.br .nil .nil) (.br (.br .nil .nil) (.br (.br .nil .nil) (.tt .nil))))))) (.br .nil (.br (.r (.ret (B true)) .nil) (.arrA (nat_lit 215) (.r (.ret (.tup [D.c (C.v (Value.bool true)),D.c (Ci 0)])) (.r (.ret (.tup [D.c (Ci 0),D.c (Ci 0)])) (.sure 234 (.sure 237 (.sure 238 (.sure 241 (.sure 242 (.sure 245 (.r (.ret (B true)) .nil))))))))))))))))))))))))),(CO Gl 20 [L eI l] (.ret (B (decide ((l.length:Int)<=8))))/\A9/\((eqB (!decide ((l.length:Int)<=8)) false=true->ks.length<=maxLen)->A9/\((eqB (!decide ((l.length:Int)<=8)) false=true->l.length<=maxLen)->A9/\A9/\((!decide ((l.length:Int)<=8))=false->eqB (!decide ((l.length:Int)<=8)) false=true)/\A19/\((eqB A3 false=true->sec.length<=maxLen)->A19/\((eqB A3 false=true->l.length<=maxLen)->A19/\A19/\(A3=false->eqB A3 false=true)/\(eqB A4 false=true->eqB A4 false=true)/\(eqB A4 false=true->CO Gl 23 [L eI l] (.ret (B (isCol l))))/\(eqB A4 false=true->eqB A4 false=true)/\(A4=false->eqB A4 false=true)/\(A13=true->CO Gl 21 [] (.ret (B true))/\true=true)/\(A13=false->(0:Nat)<l.length/\l.length*8<=140737488355328/\l.length<=(140737488355328:Nat)/\(0=(↑(0:Nat):Int)/\l.length=l.length/\(SEq l.length (fun i=>eI (nth l i)) l.length fun j=>eI (nth (cpT l ks sec (0:Nat)) j))/\(sR eI l)/\(sR eI ks)/\sR eB sec)/\∀ (k0:Nat),k0<=l.length->l.length<=maxLen->(decide ((k0:Int)<(l.length:Int))=true->(0<=(k0:Int)/\(k0:Int)<(ks.length:Int))/\(0<=(k0:Int)/\(k0:Int)<(sec.length:Int))/\CO Gl 26 [L eI l,I k0,I (nth ks k0),B (nth sec k0)] (.ret (.tup [D.c (Ci (A15 k0)),D.c (Cb (wroteB l k0 (nth ks k0)))]))/\(wroteB l k0 (nth ks k0)=true->(0<=(k0:Int)/\(k0:Int)<(l.length:Int))/\k0<l.length/\iR ((k0:Int)+1)/\k0<l.length/\(k0:Int)+1=(↑(k0+1):Int)/\l.length=l.length/\(SEq l.length (updF (A28 k0) k0 (List.map C.dem [C.v (Value.int IntKind.i64 (A15 k0))])) l.length fun j=>eI (nth (cpT l ks sec (k0+1)) j))/\(sR eI l)/\(sR eI ks)/\sR eB sec)/\(wroteB l k0 (nth ks k0)=false->iR ((k0:Int)+1)/\k0<l.length/\(k0:Int)+1=(↑(k0+1):Int)/\l.length=l.length/\(SEq l.length (A28 k0) l.length fun j=>eI (nth (cpT l ks sec (k0+1)) j))/\(sR eI l)/\(sR eI ks)/\sR eB sec))/\(decide ((k0:Int)<(l.length:Int))=false->l.length=l.length/\CO Gl 22 [L eI l,T.d (D.c (C.s Tag.n l.length fun j=>eI (nth (cpT l ks sec k0) j)))] (.ret (.tup [D.c (C.l eErr A12),D.c (Ci 0)]))/\true=true/\true=true/\(List.length A12<=maxLen->true=true/\true=true/\(l.length<=maxLen->true=true/\(A22=true->false=true)/\(A22=false->(0=(↑(0:Nat):Int)/\0=(↑(List.length (errTo l A0 (0:Nat))):Int)/\A27/\l.length=l.length/\(SEq l.length (A28 k0) l.length fun j=>eI (nth A0 j))/\sR eI l)/\∀ (k1:Nat),k1<=l.length->l.length<=maxLen->(decide ((k1:Int)<(l.length:Int))=true->(A8 k1)/\k1<l.length/\(A8 k1)/\((nth A0 k1==nth l k1)=true->iR ((k1:Int)+1)/\k1<l.length/\(k1:Int)+1=(↑(k1+1):Int)/\(A21 k1)=(A17 k1)/\A27/\l.length=l.length/\A10/\sR eI l)/\((nth A0 k1==nth l k1)=false->List.length A12<=maxLen->(A1 k1)/\(A1 k1)/\(eqB (decide ((↑(List.length (errL l (copyL l ks sec))):Int)<=(↑(List.length (errTo l (copyL l ks sec) k1)):Int))) false=true->0<=(A21 k1)/\(A21 k1)<A25)/\(A1 k1)/\(A1 k1)/\(A1 k1)/\(A1 k1)/\(decide ((↑(List.length (errL l (copyL l ks sec))):Int)<=(↑(List.length (errTo l (copyL l ks sec) k1)):Int))=false->eqB (decide ((↑(List.length (errL l (copyL l ks sec))):Int)<=(↑(List.length (errTo l (copyL l ks sec) k1)):Int))) false=true)/\((A14 k1)=true->false=true)/\((A14 k1)=false->(A8 k1)/\(A8 k1)/\iR (-nth l k1)/\(A8 k1)/\k1<l.length/\(A8 k1)/\k1<l.length/\iR (-nth A0 k1)/\(0<=(A21 k1)/\(A21 k1)<A25)/\(((A26 k1).2==(1:Int))=true->(A8 k1)/\CO Gl 27 [I (nth l k1)] (.ret (I (fA (nth l k1)+fB (nth l k1)+fC (nth l k1))))/\(A8 k1)/\k1<l.length/\CO Gl 27 [I (nth A0 k1)] (.ret (I (fA (nth A0 k1)+fB (nth A0 k1)+fC (nth A0 k1))))/\(A20 k1)/\(A20 k1)/\(eqB (A2 k1) true=true->iR (A11 k1))/\(A20 k1)/\(eqB (A2 k1) true=true->(9:Int)≠(0:Int))/\(A20 k1)/\((A2 k1)=true->eqB (A2 k1) true=true)/\((A18 k1)=true->false=true)/\((A18 k1)=false->iR ((A21 k1)+1)/\iR ((k1:Int)+1)/\k1<l.length/\(k1:Int)+1=(↑(k1+1):Int)/\(A21 k1)+1=(A17 k1)/\A27/\l.length=l.length/\A10/\sR eI l))/\(((A26 k1).2==(1:Int))=false->(((A26 k1).2==(2:Int))=true->iR (A11 k1)/\(A24 k1)/\(A24 k1)/\(eqB (A7 k1) false=true->iR (A11 k1))/\(A24 k1)/\((A7 k1)=false->eqB (A7 k1) false=true)/\((A16 k1)=true->false=true)/\((A16 k1)=false->iR ((A21 k1)+1)/\iR ((k1:Int)+1)/\k1<l.length/\(k1:Int)+1=(↑(k1+1):Int)/\(A21 k1)+1=(A17 k1)/\A27/\l.length=l.length/\A10/\sR eI l))/\(((A26 k1).2==(2:Int))=false->(((A26 k1).2==(3:Int))=true->(A8 k1)/\k1<l.length/\(A8 k1)/\iR (-nth l k1)/\((!nth A0 k1==-nth l k1)=true->false=true)/\((!nth A0 k1==-nth l k1)=false->iR ((A21 k1)+1)/\iR ((k1:Int)+1)/\k1<l.length/\(k1:Int)+1=(↑(k1+1):Int)/\(A21 k1)+1=(A17 k1)/\A27/\l.length=l.length/\A10/\sR eI l))/\(((A26 k1).2==(3:Int))=false->(((A26 k1).2==(4:Int))=true->iR ((k1:Int)+1)/\(l.length<=maxLen->(A5 k1)/\(A5 k1)/\(eqB (decide ((k1:Int)+1<(l.length:Int))) true=true->0<=(k1:Int)/\(k1:Int)<(l.length:Int))/\(A5 k1)/\(eqB (decide ((k1:Int)+1<(l.length:Int))) true=true->k1<l.length)/\(A5 k1)/\(eqB (decide ((k1:Int)+1<(l.length:Int))) true=true->iR ((k1:Int)+1))/\(A5 k1)/\(A5 k1)/\(eqB (decide ((k1:Int)+1<(l.length:Int))) true=true->0<=(k1:Int)+1/\(k1:Int)+1<(l.length:Int))/\(A5 k1)/\(A5 k1)/\(A5 k1)/\(decide ((k1:Int)+1<(l.length:Int))=true->eqB (decide ((k1:Int)+1<(l.length:Int))) true=true)/\((A23 k1)=true->false=true)/\((A23 k1)=false->iR ((A21 k1)+1)/\iR ((k1:Int)+1)/\k1<l.length/\(k1:Int)+1=(↑(k1+1):Int)/\(A21 k1)+1=(A17 k1)/\A27/\l.length=l.length/\A10/\sR eI l)))/\(((A26 k1).2==(4:Int))=false->true=true/\false=true)))))))/\(decide ((k1:Int)<(l.length:Int))=false->List.length A12<=maxLen->(((A21 k1) != A25)=true->false=true)/\(((A21 k1) != A25)=false->(decide (2<(↑(List.length (errTo l (copyL l ks sec) k1)):Int))=true->CO Gl 21 [] (.ret (B true))/\true=true)/\(decide (2<(↑(List.length (errTo l (copyL l ks sec) k1)):Int))=false->l.length=l.length/\CO Gl 28 [tMade l ks sec k1,L eI l] (.ret (.tup [D.c (C.v (Value.bool true)),D.c (Ci 0)]))/\CO Gl 29 [tMade l ks sec k1] (.ret (.tup [D.c (Ci 0),D.c (Ci 0)]))/\true=true/\true=true/\true=true/\true=true/\true=true/\true=true/\CO Gl 21 [] (.ret (B true))/\true=true))))))))))))))) Tryz.func4 (by kernel_rfl) (by kernel_rfl) ?_
 have hK:=known21 S hG exB72
 have c0:=slim20 S l
 have c1:=column23 S l
 simp (config:={ maxSteps:=20000000 }) only [zero_cast,eqB_true,eqB_false,imp_self,true_and,and_true,and_self,implies_true,bif_and,bif_or,bif_nand,bif_nor,Bool.and_assoc,Bool.not_eq_eq_eq_not,Bool.not_true,Bool.not_false,SEq_refl,Bool.or_assoc]
 cases e1:decide ((l.length:Int)<=8)
 ·rw [e1] at c0
  simp only [e1,cond_true,cond_false,Bool.and_true,Bool.and_false,Bool.true_and,Bool.false_and,Bool.or_false,Bool.false_or,Bool.or_true,Bool.true_or,Bool.not_true,Bool.not_false] at *
  ((repeat' (first|with_reducible apply And.intro|with_reducible intro _))<;>first|contradiction|with_reducible rfl|exact c0|exact hK|exact c1|(simp;done)|omega)
 rw [e1] at c0
 cases e2:((ks.length:Int) != (l.length:Int))
 case' true=>
  simp only [e1,e2,cond_true,cond_false,Bool.and_true,Bool.and_false,Bool.true_and,Bool.false_and,Bool.or_false,Bool.false_or,Bool.or_true,Bool.true_or,Bool.not_true,Bool.not_false] at *
  ((repeat' (first|with_reducible apply And.intro|with_reducible intro _))<;>first|contradiction|with_reducible rfl|exact c0|exact hK|exact c1|(simp;done)|omega)
 cases e3:((sec.length:Int) != (l.length:Int))
 case' true=>
  simp only [e1,e2,e3,cond_true,cond_false,Bool.and_true,Bool.and_false,Bool.true_and,Bool.false_and,Bool.or_false,Bool.false_or,Bool.or_true,Bool.true_or,Bool.not_true,Bool.not_false] at *
  ((repeat' (first|with_reducible apply And.intro|with_reducible intro _))<;>first|contradiction|with_reducible rfl|exact c0|exact hK|exact c1|(simp;done)|omega)
 cases e4:isCol l
 ·rw [e4] at c1
  simp only [e1,e2,e3,e4,cond_true,cond_false,Bool.and_true,Bool.and_false,Bool.true_and,Bool.false_and,Bool.or_false,Bool.false_or,Bool.or_true,Bool.true_or,Bool.not_true,Bool.not_false] at *
  ((repeat' (first|with_reducible apply And.intro|with_reducible intro _))<;>first|contradiction|with_reducible rfl|exact c0|exact hK|exact c1|(simp;done)|omega)
 rw [e4] at c1
 have e1':=of_decide_eq_true e1
 have hn:=(Bool.and_eq_true_iff.1 e4).1
 have h6:1<=l.length/\l.length<=6:=by have:=inR_iff.1 (Bool.and_eq_true_iff.1 e4).2;omega
 have k1:ks.length=l.length:=by have h:=e2;rw [bne_eq_false_iff_eq] at h;omega
 have k2:sec.length=l.length:=by have h:=e3;rw [bne_eq_false_iff_eq] at h;omega
 simp only [e1,e2,e3,e4,cond_true,cond_false,Bool.and_true,Bool.and_false,Bool.true_and,Bool.false_and,Bool.or_false,Bool.false_or,Bool.or_true,Bool.true_or,Bool.not_true,Bool.not_false,Int.reduceBNe,Int.reduceBEq,Bool.false_eq_true,true_implies,false_implies,imp_self,and_true,true_and,implies_true,bne_self_eq_false,beq_self_eq_true,imp_false,Bool.true_eq_false,not_false_eq_true]
 have hall:=made_all (ks:=ks) (sec:=sec) e4
 have hcl:=copyL_len l ks sec
 have hcn:=copyL_num hn ks sec
 have hel:=errL_le l (copyL l ks sec)
 refine ⟨c0,fun _ _ _ _=>⟨c1,by omega,by omega,by omega,?_,fun k0 hk0 _=>⟨fun hd=>?_,fun hd=>?_⟩⟩⟩
 ·refine ⟨⟨rfl,fun i hi=>.inl ?_⟩,trivial⟩
  show eI (nth l i)=eI (nth (cpT l ks sec 0) i)
  rw [cpT_at (Nat.zero_le _),if_neg (Nat.not_lt_zero _)]
 ·have hlt:k0<l.length:=by have:=of_decide_eq_true hd;omega
  have hc0:nth (copyL l ks sec) k0=copyAt l ks sec k0:=copyL_at hlt
  refine ⟨⟨by omega,by omega⟩,⟨by omega,by omega⟩,wrote26 S l k0 (nth ks k0) (nth sec k0) hlt (by omega) hn,fun hw=>⟨⟨by omega,by omega⟩,hlt,(rng_iff _).2 (by omega),hlt,by omega,?_,trivial⟩,fun hw=>⟨(rng_iff _).2 (by omega),hlt,by omega,?_,trivial⟩⟩
  ·refine SEq_upd fun j hj=>?_
   rw [cpT_at (by omega),cpT_at (by omega)]
   by_cases h:j=k0
   ·subst h
    rw [if_pos (by omega),hc0,Nat.beq_refl]
    unfold copyAt
    rw [hw]
    rfl
   ·have hb:j.beq k0=false:=by rw [Bool.eq_false_iff];exact fun hb=>h (Nat.eq_of_beq_eq_true hb)
    rw [hb,cond_false]
    by_cases h2:j<k0
    ·rw [if_pos (by omega),if_pos h2]
    ·rw [if_neg (by omega),if_neg h2]
  ·refine ⟨rfl,fun j hj=>.inl ?_⟩
   show eI (nth (cpT l ks sec k0) j)=eI (nth (cpT l ks sec (k0+1)) j)
   rw [cpT_at (by omega),cpT_at (by omega)]
   by_cases h:j=k0
   ·subst h
    rw [if_neg (by omega),if_pos (by omega),hc0]
    unfold copyAt
    rw [hw]
    rfl
   ·by_cases h2:j<k0
    ·rw [if_pos h2,if_pos (by omega)]
    ·rw [if_neg h2,if_neg (by omega)]
 have hke:k0=l.length:=by have:=of_decide_eq_false hd;omega
 have p1:decide ((l.length:Int)<((errL l (copyL l ks sec)).length:Int))=false:=decide_eq_false (by omega)
 simp only [p1,cond_true,cond_false,Bool.and_true,Bool.and_false,Bool.true_and,Bool.false_and,Bool.or_false,Bool.false_or,Bool.or_true,Bool.true_or,Bool.not_true,Bool.not_false,Int.reduceBNe,Int.reduceBEq,Bool.false_eq_true,true_implies,false_implies,imp_self,and_true,true_and,implies_true,bne_self_eq_false,beq_self_eq_true,imp_false,Bool.true_eq_false,not_false_eq_true]
 refine ⟨errors22k S l ks sec k0 hke e4,fun _ _=>⟨⟨rfl,?_⟩,fun k1 hk1 _=>⟨fun hd1=>?_,fun hd1 _=>?_⟩⟩⟩
 ·refine ⟨⟨rfl,fun i hi=>.inl ?_⟩,trivial⟩
  show eI (nth (cpT l ks sec k0) i)=eI (nth (copyL l ks sec) i)
  rw [hke,cpT_all]
 ·have hlt:k1<l.length:=by have:=of_decide_eq_true hd1;omega
  have hm:=num_iff.1 (num_nth hn k1 hlt)
  have hm2:=num_iff.1 (num_nth hcn k1 (by omega))
  have hno:=num_nth hn k1 hlt
  have hno2:=num_nth hcn k1 (by omega)
  refine ⟨⟨by omega,by omega⟩,hlt,⟨by omega,by omega⟩,fun hs=>?_,fun hs _=>?_⟩
  ·rw [erS hs]
   exact ⟨(rng_iff _).2 (by omega),hlt,by omega,rfl,trivial⟩
  ·obtain ⟨q1,q2⟩:=errTo_at (r:=l) (l:=copyL l ks sec) hlt hs
   rw [hall] at q1 q2
   have q3:(errTo l (copyL l ks sec) (k1+1)).length=(errTo l (copyL l ks sec) k1).length+1:=by rw [erD hs,List.length_append];rfl
   have hne:nth (copyL l ks sec) k1≠nth l k1:=beq_eq_false_iff_ne.1 hs
   have hkd:(rtOf l k1).kind (nth (copyL l ks sec) k1)≠0:=by
    rw [copyL_at hlt] at hne ⊢
    exact (copyAt_ok hn hlt ks sec).2.resolve_left hne
   have hf:=kind_fine hn hlt hkd
   have p2:decide (((errL l (copyL l ks sec)).length:Int)<=((errTo l (copyL l ks sec) k1).length:Int))=false:=decide_eq_false (by omega)
   have f27:=figures27 S (nth l k1) hno
   have f27':=figures27 S (nth (copyL l ks sec) k1) hno2
   have hmx:∀ x:Int,max x (-x)=ab x:=fun _=>rfl
   have hb1:0<=ab (nth l k1)/\ab (nth l k1)<=999:=by unfold ab;omega
   have hb2:0<=ab (nth (copyL l ks sec) k1)/\ab (nth (copyL l ks sec) k1)<=999:=by unfold ab;omega
   have ht1:((k1:Int)+1).toNat=k1+1:=by omega
   rw [q2]
   generalize hK1:(rtOf l k1).kind (nth (copyL l ks sec) k1)=K at hf ⊢
   simp only [p2,hmx,ht1,cond_true,cond_false,Bool.and_true,Bool.and_false,Bool.true_and,Bool.false_and,Bool.or_false,Bool.false_or,Bool.or_true,Bool.true_or,Bool.not_true,Bool.not_false,Int.reduceBNe,Int.reduceBEq,Bool.false_eq_true,true_implies,false_implies,imp_self,and_true,true_and,implies_true,bne_self_eq_false,beq_self_eq_true,imp_false,Bool.true_eq_false,not_false_eq_true]
   rcases hf with ⟨rfl,g1,kk,g2⟩|⟨rfl,g1⟩|⟨rfl,g1⟩|⟨rfl,g1,g2⟩
   ·have g2':(Int.tmod (ab (nth l k1) - ab (nth (copyL l ks sec) k1)) 9==0)=true:=by rw [g2,Int.mul_tmod_right];rfl
    rw [g1] at f27
    simp only [g1,g2',cond_true,cond_false,Bool.and_true,Bool.and_false,Bool.true_and,Bool.false_and,Bool.or_false,Bool.false_or,Bool.or_true,Bool.true_or,Bool.not_true,Bool.not_false,Int.reduceBNe,Int.reduceBEq,Bool.false_eq_true,true_implies,false_implies,imp_self,and_true,true_and,implies_true,bne_self_eq_false,beq_self_eq_true,imp_false,Bool.true_eq_false,not_false_eq_true]
    ((repeat' (first|with_reducible apply And.intro|with_reducible intro _))<;>first|contradiction|with_reducible rfl|exact f27|exact f27'|exact (rng_iff _).2 (by omega)|(simp;done)|omega)
   ·have g1':(ab (nth l k1) - ab (nth (copyL l ks sec) k1)==10||ab (nth l k1) - ab (nth (copyL l ks sec) k1)==100)=true:=by
     rcases g1 with g1|g1<;>rw [g1]<;>rfl
    simp only [g1',cond_true,cond_false,Bool.and_true,Bool.and_false,Bool.true_and,Bool.false_and,Bool.or_false,Bool.false_or,Bool.or_true,Bool.true_or,Bool.not_true,Bool.not_false,Int.reduceBNe,Int.reduceBEq,Bool.false_eq_true,true_implies,false_implies,imp_self,and_true,true_and,implies_true,bne_self_eq_false,beq_self_eq_true,imp_false,Bool.true_eq_false,not_false_eq_true]
    ((repeat' (first|with_reducible apply And.intro|with_reducible intro _))<;>first|contradiction|with_reducible rfl|exact (rng_iff _).2 (by omega)|(simp;done)|omega)
   ·simp only [g1,cond_true,cond_false,Bool.and_true,Bool.and_false,Bool.true_and,Bool.false_and,Bool.or_false,Bool.false_or,Bool.or_true,Bool.true_or,Bool.not_true,Bool.not_false,Int.reduceBNe,Int.reduceBEq,Bool.false_eq_true,true_implies,false_implies,imp_self,and_true,true_and,implies_true,bne_self_eq_false,beq_self_eq_true,imp_false,Bool.true_eq_false,not_false_eq_true]
    ((repeat' (first|with_reducible apply And.intro|with_reducible intro _))<;>first|contradiction|with_reducible rfl|exact (rng_iff _).2 (by omega)|(simp;done)|omega)
   ·have g1':decide ((k1:Int)+1<(l.length:Int))=true:=decide_eq_true (by omega)
    simp only [g1',g2,cond_true,cond_false,Bool.and_true,Bool.and_false,Bool.true_and,Bool.false_and,Bool.or_false,Bool.false_or,Bool.or_true,Bool.true_or,Bool.not_true,Bool.not_false,Int.reduceBNe,Int.reduceBEq,Bool.false_eq_true,true_implies,false_implies,imp_self,and_true,true_and,implies_true,bne_self_eq_false,beq_self_eq_true,imp_false,Bool.true_eq_false,not_false_eq_true]
    ((repeat' (first|with_reducible apply And.intro|with_reducible intro _))<;>first|contradiction|with_reducible rfl|exact (rng_iff _).2 (by omega)|(simp;done)|omega)
 ·have hke1:k1=l.length:=by have:=of_decide_eq_false hd1;omega
  have q1:(((errTo l (copyL l ks sec) k1).length:Int) != ((errL l (copyL l ks sec)).length:Int))=false:=by rw [hke1,hall];exact bne_self_eq_false _
  have q2:(errTo l (copyL l ks sec) k1).length=(errL l (copyL l ks sec)).length:=by rw [hke1,hall]
  simp only [q1,cond_true,cond_false,Bool.and_true,Bool.and_false,Bool.true_and,Bool.false_and,Bool.or_false,Bool.false_or,Bool.or_true,Bool.true_or,Bool.not_true,Bool.not_false,Int.reduceBNe,Int.reduceBEq,Bool.false_eq_true,true_implies,false_implies,imp_self,and_true,true_and,implies_true,bne_self_eq_false,beq_self_eq_true,imp_false,Bool.true_eq_false,not_false_eq_true]
  refine ⟨fun _=>⟨hK,trivial⟩,fun h2=>?_⟩
  have h2':=of_decide_eq_false h2
  exact ⟨agrees28m S l ks sec k1 hke1 e4 (by omega),least29m S l ks sec k1 hke1 e4 (by omega),hK,trivial⟩
end Go.Vc.Hn
