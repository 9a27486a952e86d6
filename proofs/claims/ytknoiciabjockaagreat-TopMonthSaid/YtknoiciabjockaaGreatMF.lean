/- A part of the proofs over the layers: the program and the specification; no condition. -/
import Derived.Test.YtknoiciabjockaaGreatME
set_option linter.all false
namespace Go
abbrev cO:=@Bool.and_eq_true_iff
abbrev dU:=@Option.isSome_iff_exists
abbrev eU:=@Go.wpIn_region_list
end Go
namespace Go.Vc.Zn.Df
open Go Go.Proofs Go.Vc Go.RowKit Tryz
variable {Gl:World->Prop}
structure Seen where
 row:Int
 fig:Int
instance:Inhabited Seen:=⟨⟨0,0⟩⟩
def eSeen (s:Seen):List C:=[Ci s.row,Ci s.fig]
def Fw (p:Plan) (s:Seen):Bool:=inR s.row 0 (p.rows - 1)&&inR s.fig (-1000000000) 1000000000
def areSeen (p:Plan) (l:List Seen):Bool:=decide ((l.length:Int)<=6)&&l.all (Fw p)
def offS (w:List Int) (s:Seen):Bool:=nth w s.row.toNat != s.fig
theorem Bew (S:SP Gl) (p:Plan) (r:Int) (h:Bn p=true):CR Gl 372 [Cn p,I r] (B (inR r 0 (p.rows - 1))):=by
 refine Ag S (let A0:=(p.2-(1:Int));((rt (B (inR r 0 A0)) .nil),(iR A0/\CR Gl 97 [I r,I 0,I A0] (B (inR r 0 A0))/\inR r 0 A0=inR r 0 A0))) func372 ?_;have:=plan_len h;simp only[stdS,aL,aB,and_true,Ad];grind[Ur]
def Bex (S:SP Gl) (p:Plan) (s:Seen) (h:Bn p=true):CR Gl 371 [.d (.agg (eSeen s)),.d (.rd (Ca p))] (B (!Fw p s)):=by
 refine Ag S (let A3:=(inR (Seen.row s) 0 (Plan.rows p-(1:Int)));let A2:=(-1000000000:Int);let A0:=(!inR s.1 (0:Int) (p.2-(1:Int)));let A1:=eqB A0 false=true->eqB A0 false=true;((rs [B A3,B (inR s.2 A2 1000000000)] .nil),(CR Gl 372 [Cn p,I (Seen.row s)] (B A3)/\A1/\A1/\(eqB A0 false=true->CR Gl 97 [I s.2,I A2,I 1000000000] (B (inR s.2 A2 1000000000)))/\A1/\(A0=false->eqB A0 false=true)/\(bif !inR s.1 (0:Int) (p.2-(1:Int)) then true else !inR s.2 A2 (1000000000:Int))=!Fw p s))) func371 ?_;dsimp only;grind[Bew,Ur,Fw,eqB]
theorem Bey (S:SP Gl) (l:List Seen) (p:Plan) (h:Bn p=true):CR Gl 399 [L eSeen l,.fn 371 [] [.d (.rd (Ca p))]] (I (idxI (λs=>!Fw p s) l)):=by
 refine Ag S (let A0:=λs=>!Fw p s;let P0:=λ(zz:Prop)=>(l.length:Int)=l.length/\sR eSeen l/\371=371/\sR Ae p.1/\p.2=p.2/\zz;((.loop (upIdx A0 l) (λk=>[v 8 (I k),v 7 (I l.length),v 0 (L eSeen l),v 1 (T.fn 371 [] [T.d (D.rd (Ca p))])]) λk0=>.br (rt (B !Fw p (nth l k0)) (.br .nil .nil)) .nil),(l.length<=maxLen->(0=(↑(0:Nat):Int)/\P0 (p.3=p.3))/\∀(k0:Nat),k0<=upIdx A0 l->(decide ((k0:Int)<l.length)=true->(0<=(k0:Int)/\(k0:Int)<l.length)/\CR Gl 371 [tA (eSeen (nth l k0)),T.d (D.rd (Ca p))] (B !Fw p (nth l k0))/\((!Fw p (nth l k0))=true->(k0:Int)=idxI A0 l)/\((!Fw p (nth l k0))=false->iR ((k0:Int)+1)/\k0<upIdx A0 l/\(k0:Int)+1=(↑(k0+1):Int)/\P0 (p.3=p.3)))/\(decide ((k0:Int)<l.length)=false->(-1:Int)=idxI A0 l)))) func399 ?_;have h:=idx_loop (λs=>!Fw p s) l _ λk hk=>Bex S p (nth l k) h;simp only[stdS,aL,aB,and_true,aN,aK,Ap,Ad,cL,cZ]at h ⊢;exact h
theorem Bez (S:SP Gl) (l:List Seen) (p:Plan) (h:Bn p=true):CR Gl 370 [L eSeen l,.fn 371 [] [.d (.rd (Ca p))]] (B (!l.all λs=>!!Fw p s)):=by
 refine Ao S (rt (I (idxI (λs=>!Fw p s) l)) .nil) (CR Gl 399 [L eSeen l,T.fn 371 [] [T.d (D.rd (Ca p))]] (I (idxI (λs=>!Fw p s) l))/\decide ((0:Int)<=idxI (λs=>!Fw p s) l)=!List.all l λs=>!!Fw p s) func370 ?_;grind[Bey,idxI_spec]
theorem Bf0 (S:SP Gl) (p:Plan) (l:List Seen) (h:Bn p=true):CR Gl 321 [Cn p,L eSeen l] (B (areSeen p l)):=by
 refine Ag S (let A1:=B !List.all l λs=>!!Fw p s;let A0:=eqB (decide ((l.length:Int)<=6)) true=true->eqB (decide ((l.length:Int)<=6)) true=true;((rt A1 .nil),(l.length<=maxLen->A0/\A0/\(eqB (decide ((l.length:Int)<=6)) true=true->CR Gl 370 [L eSeen l,T.fn 371 [] [T.d (D.rd (Ca p))]] A1)/\A0/\(decide ((l.length:Int)<=6)=true->eqB (decide ((l.length:Int)<=6)) true=true)/\(bif decide ((l.length:Int)<=6) then !!List.all l λs=>!!Fw p s else false)=areSeen p l))) func321 ?_;dsimp only;grind[Bez,areSeen,eqB]
def Bf1 (S:SP Gl) (w:List Int) (s:Seen) (h:0<=s.row/\s.row<w.length):CR Gl 374 [.d (.agg (eSeen s)),.d (.rd [.l eI w])] (B (offS w s)):=by
 refine Ao S .nil (((0:Int)<=s.1/\s.1<(w.length:Int))/\(nth w (Int.toNat s.1) != s.2)=offS w s) func374 ?_;trivial
theorem Bf2 (S:SP Gl) (l:List Seen) (w:List Int) (h:∀k,k<l.length->0<=(nth l k).row/\(nth l k).row<w.length):CR Gl 399 [L eSeen l,.fn 374 [] [.d (.rd [.l eI w])]] (I (idxI (offS w) l)):=by
 refine Ao S (.loop (upIdx (offS w) l) (λk=>[v 8 (I k),v 7 (I l.length),v 0 (L eSeen l),v 1 (T.fn 374 [] [T.d (D.rd [C.l eI w])])]) λk0=>.br (rt (B (offS w (nth l k0))) (.br .nil .nil)) .nil) (l.length<=maxLen->(0=(↑(0:Nat):Int)/\(l.length:Int)=l.length/\sR eSeen l/\374=374/\sR eI w)/\∀(k0:Nat),k0<=upIdx (offS w) l->(decide ((k0:Int)<l.length)=true->(0<=(k0:Int)/\(k0:Int)<l.length)/\CR Gl 374 [tA (eSeen (nth l k0)),T.d (D.rd [C.l eI w])] (B (offS w (nth l k0)))/\(offS w (nth l k0)=true->(k0:Int)=idxI (offS w) l)/\(offS w (nth l k0)=false->iR ((k0:Int)+1)/\k0<upIdx (offS w) l/\(k0:Int)+1=(↑(k0+1):Int)/\(l.length:Int)=l.length/\sR eSeen l/\374=374/\sR eI w))/\(decide ((k0:Int)<l.length)=false->(-1:Int)=idxI (offS w) l)) func399 ?_;have h:=idx_loop (offS w) l _ λk hk=>Bf1 S w (nth l k) (h k hk);simp only[stdS,aL,aB,and_true,aN,aK,Ap,Ad,cL,cZ]at h ⊢;exact h
def Bf3 (S:SP Gl) (l:List Seen) (w:List Int) (h:∀k,k<l.length->0<=(nth l k).row/\(nth l k).row<w.length):CR Gl 370 [L eSeen l,.fn 374 [] [.d (.rd [.l eI w])]] (B (!l.all λs=>!(offS w) s)):=by
 refine Ao S (rt (I (idxI (offS w) l)) .nil) (CR Gl 399 [L eSeen l,T.fn 374 [] [T.d (D.rd [C.l eI w])]] (I (idxI (offS w) l))/\decide ((0:Int)<=idxI (offS w) l)=!List.all l λs=>!offS w s) func370 ?_;grind[Bf2,idxI_spec]
def errsL_mem {l:Span} {e:Int} (h:e∈errsL l):l.lo<=e/\e<=l.hi:=by
 grind[errsL]
theorem trR_mem:∀{ls:List Span} {now er:List Int},er∈trR ls now->er.length=now.length+ls.length/\(∀i,i<now.length->nth er i=nth now i)/\∀i,i<ls.length->(nth ls i).lo<=nth er (now.length+i)/\nth er (now.length+i)<=(nth ls i).hi
 | [],now,er,h=>by
  have:=aZ.1 h;grind
 |l::ls,now,er,h=>by
  obtain⟨e,h1,h2⟩:=dR.1 h;obtain⟨q1,q2,q3⟩:=trR_mem h2;rw[cU,fG]at q1 q2 q3;refine⟨by grind,λi hi=>?_,λi hi=>?_⟩
  ·grind[Mn]
  ·cases i with
   |zero=>
    rw[eB,q2 now.length (by omega),Km (aI _),eK];exact errsL_mem h1
   |succ i=>
    have:=q3 i (by grind);rw[show now.length+(i+1)=now.length+1+i by omega];exact this
theorem Ar4 {p:Plan} {k:Nat} (hk:k<(truthsL p).length):Cu p (nth (truthsL p) k)=true:=by
 obtain⟨q1,_,q3⟩:=trR_mem (ls:=p.starts) (now:=[]) (Fj hk);change (nth (truthsL p) k).length=_ at q1;rw[dA,bH]at q1;unfold Cu;rw[q1,dT,fE,aS];intro i hi;have h1:_<=nth (nth (truthsL p) k) _/\nth (nth (truthsL p) k) _<=_:=q3 i (bB.1 hi);rw[dA,bH]at h1;exact Bi.2 h1
def valT (S:SP Gl) (p:Plan) (h:Bn p=true) {k:Nat} (hk:k<(truthsL p).length):CR Gl 36 [Oj p (nth (truthsL p) k)] (L eI (Ec (nth (truthsL p) k) p.rows.toNat)):=by
 obtain⟨l1,l2,l3,l4⟩:=plan_len h;grind[Apa,Ar4,Apb]
def Ad1 (p:Plan) (l:List Seen) (t:List Int):Bool:=l.all λs=>!offS (Ec t p.rows.toNat) s
def agreeL (p:Plan) (l:List Seen):List (List Int):=(truthsL p).filter (Ad1 p l)
def Dy (p:Plan) (l:List Seen) (k:Nat):List (List Int):=((truthsL p).take k).filter (Ad1 p l)
def Jo (p:Plan) (t:List Int):List C:=Ca p++[.l eI t]
def Bf4 {p:Plan} {l:List Seen} (h:Bn p=true) (hl:areSeen p l=true) (t:List Int) (k:Nat) (hk:k<l.length):0<=(nth l k).row/\(nth l k).row<(Ec t p.rows.toNat).length:=by
 grind[areSeen,Fj,Fw,Bi,Ap9]
theorem flatMap_le {α β:Type} {f:α->List β} {n:Nat}:∀{l:List α},(∀x,x∈l->(f x).length<=n)->(l.flatMap f).length<=l.length*n
 | [],_=>bV _
 |x::l,h=>by
  have h1:=h x aC;have h2:=flatMap_le (l:=l) λy hy=>h y (aU _ hy);grind[Nat.succ_mul]
theorem Ar5:∀{ls:List Span} {now:List Int},(∀s,s∈ls->(errsL s).length<=7)->(trR ls now).length<=7 ^ ls.length
 | [],_,_=>aI _
 |l::ls,now,h=>by
  have h1:=h l aC;have h2:=flatMap_le (l:=errsL l) (f:=λe=>trR ls (now++[e])) λe _=>Ar5 (ls:=ls) λs hs=>h s (aU _ hs);unfold trR;rw[cQ,Nat.pow_succ];refine bJ h2 ?_;rw[Nat.mul_comm (7 ^ ls.length) 7];exact aY _ h1
def Bf5 {p:Plan} (h:Bn p=true):(truthsL p).length<=2401:=by
 obtain⟨l1,l2,l3,l4⟩:=plan_len h;refine bJ (Ar5 λs hs=>?_) (Nat.pow_le_pow_right (n:=7) (by decide) l1.2);obtain⟨i,hi,rfl⟩:=bM.1 hs;have:=l4 i hi;have e:=Aiw this;grind[errsL_len,Ge]
def Bf6 (p:Plan) (l:List Seen) (k:Nat):(Dy p l k).length<=k:=by
 grind[Dy]
def Bf7 {p:Plan} {l:List Seen} {k:Nat} (hk:k<(truthsL p).length) (h:Ad1 p l (nth (truthsL p) k)=true):Dy p l (k+1)=Dy p l k++[nth (truthsL p) k]:=by
 grind[Dy,take_succ]
def Bf8 {p:Plan} {l:List Seen} {k:Nat} (hk:k<(truthsL p).length) (h:Ad1 p l (nth (truthsL p) k)=false):Dy p l (k+1)=Dy p l k:=by
 grind[Dy,take_succ]
theorem Ar6 (S:SP Gl) (p:Plan) (l:List Seen) (h:Bn p=true) (hl:areSeen p l=true):CR Gl 322 [Cn p,L eSeen l] (.d (.c (.l (Jo p) (agreeL p l)))):=by
 refine Ag S (let A2:=T.fn 400 [] [T.d (D.c (C.p (Ca p)))];let A0:=truthsL p;let A1:=λ(k0:Nat)=>Ec (nth A0 k0) (Int.toNat (Plan.rows p));let P0:=λ(zz:Prop)=>sR Ae p.1/\p.2=p.2/\p.3=p.3/\zz;((rt A2 (.rf (List.length A0) (List.length A0) (λk=>[Oj p (nth A0 k)]) (λk=>v 2 (ad 2)::v 3 (ad 3)::v 5 (ad 5)::(2,5,live)::tk 900 109::(8,0,Lt 900 (Jo p) (Dy p l k))::(bx 2 (Ca p)++bx 3 [C.l eSeen l])) (λk0=>rs [L eI (A1 k0),B !List.all l λs=>!offS (A1 k0) s] (.br .nil .nil)) .nil)),(CR Gl 373 [tA (Ca p)] A2/\Yd.m yd0=0/\Nq (DO Gl) 400 [] [T.d (D.c (C.p [C.l Ae p.1,Ci p.2,Ci p.3]))] (λl=>Yd.mk l (ln A0) (ln A0) λk=>[Oj p (nth A0 k)]) (ln A0) (ln A0)/\(0=0/\P0 (sR eSeen l))/\(∀(k0:Nat),k0<ln A0->k0<=ln A0->CR Gl 36 [Oj p (nth A0 k0)] (L eI (A1 k0))/\CR Gl 370 [L eSeen l,T.fn 374 [] [T.d (D.rd [C.l eI (A1 k0)])]] (B !List.all l λs=>!offS (A1 k0) s)/\((!!List.all l λs=>!offS (Ec (nth A0 k0) (Int.toNat p.2)) s)=true->(ln (Dy p l k0)+1)*64<=140737488355328/\ln (Dy p l k0)+1<=140737488355328/\k0<ln A0/\(SEq (ln (Dy p l k0)+1) (An (ln (Dy p l k0)) (λi=>Jo p (nth (Dy p l k0) i)) (gD [List.map C.dem (List.map C.dem [C.s Tag.n p.1.length λi=>Ae (nth p.1 i),Ci p.2,Ci p.3,C.s Tag.n (ln (nth A0 k0)) λi=>eI (nth (nth A0 k0) i)])])) (ln (Dy p l (k0+1))) λi=>Jo p (nth (Dy p l (k0+1)) i))/\P0 (sR eSeen l))/\((!!List.all l λs=>!offS (Ec (nth A0 k0) (Int.toNat p.2)) s)=false->k0<ln A0/\(SEq (ln (Dy p l k0)) (λi=>Jo p (nth (Dy p l k0) i)) (ln (Dy p l (k0+1))) λi=>Jo p (nth (Dy p l (k0+1)) i))/\P0 (sR eSeen l)))/\(ln A0<=ln A0->SEq (ln (Dy p l (ln A0))) (λi=>Jo p (nth (Dy p l (ln A0)) i)) (ln (agreeL p l)) λi=>Jo p (nth (agreeL p l) i))))) func322 ?_
 have i9:=Bf5 h;simp only[stdS,aL,aB,and_true,Bool.not_not];refine⟨Beu S p,λl'=>Bev S p l' _ _ h rfl,λk hk _=>⟨valT S p h hk,Bf3 S l _ (Bf4 h hl _),λh1=>?_,λh1=>?_⟩,?_⟩
 ·have hu:=Bf6 p l k;have hq:=Eb (f:=Jo p) (l:=Dy p l k) (r:=Dy p l (k+1)) (x:=nth (truthsL p) k) (Bf7 hk h1) rfl;exact⟨by omega,by omega,hk,hq,trivial⟩
 ·rw[Bf8 hk h1];exact⟨hk,.of ⟨rfl,λ_ _=>rfl⟩,trivial⟩
 ·have e:Dy p l (truthsL p).length=agreeL p l:=by grind[Dy,agreeL]
  rw[e];exact λ_=>.of ⟨rfl,λ_ _=>rfl⟩
theorem Ar7 (S:SP Gl) {p:Plan} (h:Bn p=true):CR Gl 34 [Cn p] (B true):=by grind[Ahx]
theorem Ar8 (S:SP Gl) {p:Plan} {l:List Seen} (h:Bn p=true) (hl:areSeen p l=true):CR Gl 321 [Cn p,L eSeen l] (B true):=by grind[Bf0]
theorem agree248 (S:SP Gl) (p:Plan) (l:List Seen) (h:Bn p=true) (hl:areSeen p l=true):CR Gl 248 [Cn p,L eSeen l] (.tup [.c (Ci (agreeL p l).length),.c (Ci 0)]):=by
 refine Ag S (let A0:=agreeL p l;((rt (B true) (.sure 10 (.sure 11 (.sure 12 (rt (B true) (.sure 13 (.ff (rt (L (Jo p) A0) .nil)))))))),(CR Gl 34 [Cn p] (B true)/\true=true/\true=true/\true=true/\CR Gl 321 [Cn p,L eSeen l] (B true)/\true=true/\false=false/\CR Gl 322 [Cn p,L eSeen l] (L (Jo p) A0)/\(List.length A0<=maxLen->(List.length A0:Int)=(List.length A0:Int)/\(0:Int)=0)))) func248 ?_;dsimp only;grind[Ar7,Ar8,Ar6]
def agrees157 (S:SP Gl) (p:Plan) (l:List Seen) (h:Bn p=true) (hl:areSeen p l=true):CR Gl 157 [Cn p,L eSeen l] (B (decide (0<(agreeL p l).length))):=by
 refine Ag S (let A0:=[D.c (Ci (List.length (agreeL p l):Int)),D.c (Ci 0)];((rt (.tup A0) (.sure 16 (.sure 17 .nil))),(CR Gl 248 [Cn p,L eSeen l] (.tup A0)/\true=true/\true=true/\(bif true then decide (0<(List.length (agreeL p l):Int)) else false)=decide (0<List.length (agreeL p l))))) func157 ?_;dsimp only;grind[agree248]
def Kx (L:List (List Int)) (i:Nat):Nat->Span
 |0=>⟨nth (nth L 0) i,nth (nth L 0) i⟩
 |k+1=>⟨min (Kx L i k).lo (nth (nth L k) i),max (Kx L i k).hi (nth (nth L k) i)⟩
def knUp (L:List (List Int)) (k:Nat):List Span:=(List.range k).map λi=>Kx L i L.length
def Bf9 (L:List (List Int)) (k:Nat):knUp L (k+1)=knUp L k++[Kx L k L.length]:=by
 grind[knUp,List.range_succ]
def knUp_len (L:List (List Int)) (k:Nat):(knUp L k).length=k:=by grind[knUp]
theorem Bfa {p:Plan} {l:List Seen} {k:Nat} (hk:k<(agreeL p l).length):(nth (agreeL p l) k).length=p.starts.length:=by
 have h:=Fj hk;unfold agreeL at h;have h1:=(List.mem_filter.1 h).1;obtain⟨i,hi,e⟩:=bM.1 h1;have h2:=Ar4 hi;rw[Ge hi,e]at h2;unfold Cu at h2;rw[aE,dI]at h2;exact h2.1
theorem known331 (S:SP Gl) (p:Plan) (l:List Seen) (A:List (List Int)) (h:Bn p=true) (hl:areSeen p l=true) (hA:agreeL p l=A) (h1:((A.length:Int)==0)=false):CR Gl 331 [Cn p,L eSeen l] (.tup [.c (.l Ae (knUp A p.starts.length)),.c (Ci 0)]):=by
 refine Ag S (let A3:=(p.1.length:Int);let A2:=nth A (Int.toNat 0);let A1:=L (Jo p) A;let A0:=Plan.starts p;let P0:=λ(zz:Prop)=>(SEq (ln A) (λi=>Jo p (nth A i)) (ln A) λi=>Jo p (nth A i))/\zz;let P1:=λ(k0:Nat) (zz:Prop)=>((0:Int)<=0/\0<(ln A:Int))/\(0<=(k0:Int)/\(k0:Int)<(↑(ln A2):Int))/\zz;let P2:=λ(zz:Prop)=>sR Ae p.1/\p.2=p.2/\zz;((rt (B true) (.sure 17 (.sure 18 (.sure 19 (rt (B true) (.sure 20 (.ff (rt A1 (.val 27 false (.ff (.loop (List.length A0) (λi=>v 31 (I i)::v 30 (I (List.length A0:Int))::v 6 A1::tk 900 28::v 7 (Lt 900 Ae (knUp A i))::v 2 (ad 2)::bx 2 (Ca p)) λk0=>.br (.loop (List.length A) (λk=>v 51 (I k)::v 50 (I (List.length A:Int))::v 49 A1::v 8 (I k0)::v 9 (ad 9)::v 31 (I k0)::v 30 (I (List.length A0:Int))::v 6 A1::tk 900 28::v 7 (Lt 900 Ae (knUp A k0))::v 2 (ad 2)::(bx 9 (Ae (Kx A k0 k))++bx 2 (Ca p))) λk1=>.br .nil .nil) .nil))))))))))),(CR Gl 34 [Cn p] (B true)/\tt 3 (CR Gl 321 [Cn p,L eSeen l] (B true)/\tt 1 (false=false/\CR Gl 322 [Cn p,L eSeen l] A1/\(ln A<=maxLen->((ln A:Int)==0)=false/\false=false/\(p.1.length<=maxLen->(lz p.1.length (P0 (0=0/\P2 (p.3=p.3))))/\∀(k0:Nat),k0<=ln A0->(dt k0 p.1.length->P1 k0 (P1 k0 ((ln A<=maxLen->(0=(↑(0:Nat):Int)/\(ln A:Int)=(ln A:Int)/\P0 ((k0:Int)=k0/\(k0:Int)=k0/\A3=p.1.length/\P0 ((sR Ae (knUp A k0))/\nth A2 k0=nth (nth A 0) k0/\nth A2 k0=nth (nth A 0) k0/\P2 (p.3=p.3))))/\∀(k1:Nat),k1<=ln A->(dt k1 (ln A:Int)->(ix k1 (ln A:Int))/\(0<=(k0:Int)/\(k0:Int)<(ln (nth A k1):Int))/\lq k1 (ln A) ((ln A:Int)=(ln A:Int)/\P0 ((k0:Int)=k0/\(k0:Int)=k0/\A3=p.1.length/\P0 ((sR Ae (knUp A k0))/\min (Kx A k0 k1).1 (nth (nth A k1) k0)=min (Kx A k0 k1).1 (nth (nth A k1) k0)/\max (Kx A k0 k1).2 (nth (nth A k1) k0)=max (Kx A k0 k1).2 (nth (nth A k1) k0)/\P2 (p.3=p.3)))))/\(df k1 (ln A:Int)->(ln (knUp A k0)+1)*16<=140737488355328/\ln (knUp A k0)+1<=140737488355328/\lq k0 (ln A0) (A3=p.1.length/\P0 ((SEq (ln (knUp A k0)+1) (An (ln (knUp A k0)) (λi=>Ae (nth (knUp A k0) i)) (gD [List.map C.dem (List.map C.dem [Ci (Kx A k0 k1).1,Ci (Kx A k0 k1).2])])) (ln (knUp A (k0+1))) λi=>Ae (nth (knUp A (k0+1)) i))/\P2 (p.3=p.3))))))))/\(df k0 p.1.length->(sQ Ae (knUp A k0) (knUp A p.1.length))/\(0:Int)=0)))))))) func331 ?_
 have je:=plan_len h;have hAl:∀k,k<A.length->(nth A k).length=p.starts.length:=λk hk=>by grind[Bfa]
 have hA1:1<=A.length:=by grind
 simp only[stdS,aL,aB,and_true,h1,aN,aK,Ad,Ap,Int.toNat_zero,knUp_len];have hz:=hAl 0 (by omega);rw[hz];refine⟨Ar7 S h,Ar8 S h hl,hA▸Ar6 S p l h hl,λ_ _ k hk=>⟨λhlt=>⟨by omega,by omega,by omega,by omega,λ_ j hj=>⟨λol=>?_,λhjn=>?_⟩⟩,λhn=>?_⟩⟩
 ·grind
 ·have hje:j=A.length:=by omega
  subst hje;have hq:=Eb (f:=Ae) (l:=knUp A k) (r:=knUp A (k+1)) (x:=Kx A k A.length) (Bf9 A k) rfl;rw[knUp_len,knUp_len]at hq;exact⟨by omega,by omega,by omega,by omega,by omega,hq,trivial⟩
 ·have:k=p.starts.length:=by omega
  rw[this];exact⟨.of ⟨rfl,λ_ _=>rfl⟩,trivial⟩
def ends332 (S:SP Gl) (s:Span):CR Gl 332 [.d (.agg (Ae s))] (L eI [s.lo,s.hi]):=by
 refine Ao S .nil (SEq 2 (gD [mI s.1,mI s.2]) (List.length [s.1,s.2]) λi=>eI (nth [s.1,s.2] i)) func332 ?_;exact .of ⟨rfl,λi hi=>match i,hi with|0,_=>rfl|1,_=>rfl⟩
end Go.Vc.Zn.Df
namespace Go.Vc.Zn.Rm
open Go Go.Proofs Go.Vc Go.RowKit Tryz
variable {Gl:World->Prop}
def Iw (s:St) (k:Nat):List Int:=((List.range k).filter λi:Nat=>riD s [(i:Int)]).map λi:Nat=>(i:Int)
def Ai (s:St):List Int:=Iw s s.su.b.sheets.length
def rv (s:St) (a:Int):List Int:=(s.ri a).getD []
def rvK (s:St):List Int->List C
 | [a]=>[.l eI (rv s a)]
 |_=>[.l eI []]
def mRv (s:St):T:=.mapc false 0 false (riD s) (rvK s)
def Fx (s:St):Env:=[(2,FAR,live),(FAR+3,5,L eI s.su.b.sheets),(FAR+3,19,.mp (FAR+1)),(2,FAR+1,mRv s)]
def paYd (s:St) (l:Nat):Yd:=⟨l,(Ai s).length,(Ai s).length,λq=>[I (nth (Ai s) q)]⟩
def Bfb (s:St):Int:=s.su.p.rows.tdiv s.su.b.sheets.length
def Aix (s:St) (a:Int) (k:Nat):Df.Seen:=⟨a*Bfb s+k,nth (rv s a) k⟩
def Gt (s:St) (a:Int) (k:Nat):List Df.Seen:=(List.range k).map (Aix s a)
def Ff (s:St) (q:Nat):List Df.Seen:=((Ai s).take q).flatMap λa=>Gt s a (rv s a).length
def preN (s:St):Env:=[(2,FAR,live),(FAR+3,1,I s.su.p.rows),(FAR+3,5,L eI s.su.b.sheets),(FAR+3,19,.mp (FAR+1)),(2,FAR+1,mRv s)]
def Ar9 {s:St} {k:Nat} (hk:k<(Ai s).length):0<=nth (Ai s) k/\nth (Ai s) k<s.su.b.sheets.length/\riD s [nth (Ai s) k]=true:=by
 grind[Fj,Ai,Iw]
def Aiz (s:St):(Ai s).length<=s.su.b.sheets.length:=by
 grind[Ai,Iw]
theorem Ara (s:St) (a:Int) (k:Nat):(Gt s a k).length=k:=by grind[Gt]
theorem Bfc (s:St) (a:Int) (k:Nat):Gt s a (k+1)=Gt s a k++[Aix s a k]:=by grind[Gt,List.range_succ]
def Bfd {s:St} {q:Nat} (h:q<(Ai s).length):Ff s (q+1)=Ff s q++Gt s (nth (Ai s) q) (rv s (nth (Ai s) q)).length:=by
 grind[Ff,take_succ]
def Bfe {s:St} (hr:∀a,(rv s a).length<=12) (q:Nat):(Ff s q).length<=q*12:=by
 have h:=Df.flatMap_le (l:=(Ai s).take q) (f:=λa=>Gt s a (rv s a).length) (n:=12) λa _=>by grind[Ara]
 refine bJ h (aY _ ?_);grind
def Bff {r:Int} {n:Nat} (h:0<=r/\r<=12):0<=r.tdiv n/\r.tdiv n<=12:=by
 rw[cJ h.1];exact⟨Int.ediv_nonneg h.1 (Int.natCast_nonneg n),Int.le_trans (Int.ediv_le_self _ h.1) h.2⟩
theorem Bfg (S:SP Gl) (s:St) (hp:∀l,DO Gl (paYd s l) 320 [.yl l,.pt (.addr FAR 0)] (Fx s) (.new (.yl l) []) []) (h1:1<=s.su.b.sheets.length) (h2:0<=s.su.p.rows/\s.su.p.rows<=12) (h3:s.su.b.sheets.length<=1000) (hr:∀a,(rv s a).length<=12):DO Gl yd0 158 [.addr FAR 0] (preN s) (.ret (.d (.c (.l Df.eSeen (Ff s (Ai s).length))))) []:=by
 refine Bs S (let A8:=(2,FAR,live);let A7:=Res.new (T.fn 320 [aF 0] []) [];let A5:=Plan.rows (Su.p (St.su s));let A4:=Gv.Book.sheets (Su.b (St.su s));let A9:=[A8,(FAR+3,1,I A5),(FAR+3,5,L eI A4)];let A2:=MEq (riD s) (rvK s) (riD s) (rvK s);let A0:=Ai s;let A6:=Ff s (ln A0);let A3:=λ(k0:Nat)=>rv s (nth A0 k0);let A1:=λ(k0 k1:Nat)=>Ff s k0++Gt s (nth A0 k0) k1;let P0:=λ(k0:Nat) (zz:Prop)=>(↑(ln (A3 k0)):Int)=(↑(ln (A3 k0)):Int)/\(sR eI (A3 k0))/\nth A0 k0=nth A0 k0/\zz;let P1:=λ(zz:Prop)=>s.1.1.2=s.1.1.2/\sR eI s.1.2.3/\zz;((.w [(FAR,FAR)] [aF 0] [A8] A7 [] (.w [(FAR,FAR),(FAS,FAS)] [T.pt (aF 0)] (Fx s) (Res.new (T.yl (nat_lit 0)) []) [] (.rf (List.length A0) (List.length A0) (λq=>[I (nth A0 q)]) (λq=>v 1 (ad 1)::(2,1,live)::(4,0,aF 0)::v 3 (ad 3)::(2,3,live)::tk 900 416::(6,0,Lt 900 Df.eSeen (Ff s q))::preN s) (λk0=>.loop (List.length (A3 k0)) (λk=>v 17 (I k)::v 16 (I (↑(List.length (A3 k0)):Int))::v 15 (L eI (A3 k0))::v 4 (I (nth A0 k0))::v 1 (ad 1)::v (FAR+1) (ad 1)::v (FAR+3) (ad 3)::(2,1,live)::(4,0,aF 0)::v 3 (ad 3)::(2,3,live)::tk 900 416::(6,0,Lt 900 Df.eSeen (Ff s k0++Gt s (nth A0 k0) k))::preN s) λk1=>.br (.w [(FAR,FAR)] [aF 0] A9 (.ret (I (Int.tdiv A5 (↑(List.length A4):Int)))) [] .nil) .nil) .nil))),(DO Gl yd0 247 [aF 0] [A8] A7 []/\Yd.m yd0=0/\(T.pt (T.addr 100000 0)=T.pt (T.addr 100000 0)/\ln A0<=ln A0/\(∀(l:Nat),DO Gl (Yd.mk l (ln A0) (ln A0) λq=>[I (nth A0 q)]) 320 [T.yl l,T.pt (aF 0)] (Fx s) (Res.new (T.yl l) []) [])/\∀(p:Nat),p<=ln A0->sR eI s.1.2.3/\MEq (riD s) (rvK s) (riD s) (rvK s))/\(0=0/\P1 A2)/\(∀(k0:Nat),k0<ln A0->k0<=ln A0->(riD s [nth A0 k0]=false->[C.l eI (A3 k0)]=[cN])/\(ln (A3 k0)<=maxLen->(0=(↑(0:Nat):Int)/\P0 k0 ((SEq (ln (Ff s k0)) (λi=>Df.eSeen (nth (Ff s k0) i)) (ln (Ff s k0++Gt s (nth A0 k0) 0)) λi=>Df.eSeen (nth (Ff s k0++Gt s (nth A0 k0) 0) i))/\P1 A2))/\∀(k1:Nat),k1<=ln (A3 k0)->(decide ((k1:Int)<(↑(ln (rv s (nth (Ai s) k0))):Int))=true->(0<=(k1:Int)/\(k1:Int)<(↑(ln (A3 k0)):Int))/\P1 (DO Gl yd0 241 [aF 0] A9 (.ret (I (Int.tdiv A5 (↑(ln A4):Int)))) []/\iR (nth A0 k0*Int.tdiv s.1.1.2 s.1.2.3.length)/\iR (nth A0 k0*Int.tdiv s.1.1.2 s.1.2.3.length+(k1:Int))/\(ln (A1 k0 k1)+1)*16<=140737488355328/\ln (A1 k0 k1)+1<=140737488355328/\lq k1 (ln (A3 k0)) (P0 k0 ((SEq (ln (A1 k0 k1)+1) (An (ln (A1 k0 k1)) (λi=>Df.eSeen (nth (A1 k0 k1) i)) (gD [List.map C.dem (List.map C.dem [Ci (nth A0 k0*Int.tdiv s.1.1.2 s.1.2.3.length+(k1:Int)),Ci (nth (A3 k0) k1)])])) (ln (Ff s k0++Gt s (nth A0 k0) (k1+1))) λi=>Df.eSeen (nth (Ff s k0++Gt s (nth A0 k0) (k1+1)) i))/\P1 A2))))/\(decide ((k1:Int)<(↑(ln (rv s (nth (Ai s) k0))):Int))=false->k0<ln A0/\(SEq (ln (A1 k0 k1)) (λi=>Df.eSeen (nth (A1 k0 k1) i)) (ln (Ff s (k0+1))) λi=>Df.eSeen (nth (Ff s (k0+1)) i))/\P1 A2)))/\(SEq (ln A6) (λi=>Df.eSeen (nth A6 i)) (ln A6) λi=>Df.eSeen (nth A6 i))/\P1 A2))) func158 ?_
 have je:=Aiz s;have hrw:=Bff (n:=s.su.b.sheets.length) h2;simp only[stdS,aL,aB,and_true,aN,aK,Ad,Ap,Fe];refine⟨Ad0 rfl FAR,⟨aI _,hp,trivial⟩,λk hk _=>?_,trivial⟩;obtain⟨p1,p2,p3⟩:=Ar9 hk;have sd:=Bfe hr k;have hrk:=hr (nth (Ai s) k);have e0:Gt s (nth (Ai s) k) 0=[]:=rfl;refine⟨λh=>(by grind),λ_=>⟨⟨?_,trivial⟩,λj hj=>⟨λol=>?_,λhjn=>?_⟩⟩⟩
 ·rw[e0,dO];exact .of ⟨rfl,λ_ _=>rfl⟩
 ·have hl:(Ff s k++Gt s (nth (Ai s) k) j).length<=13000:=by grind[Ara]
  have hmul:0<=nth (Ai s) k*s.su.p.rows.tdiv s.su.b.sheets.length/\nth (Ai s) k*s.su.p.rows.tdiv s.su.b.sheets.length<=1000*12:=⟨fM p1 hrw.1,gG (by omega) hrw.2 hrw.1 (by decide)⟩
  have hq:=Eb (f:=Df.eSeen) (l:=Ff s k++Gt s (nth (Ai s) k) j) (r:=Ff s k++Gt s (nth (Ai s) k) (j+1)) (x:=Aix s (nth (Ai s) k) j) (by grind[Bfc]) rfl;exact⟨by omega,Air S s.su.p.rows s.su.b.sheets h1 h2,by omega,by omega,by omega,by omega,by omega,by omega,by omega,hq,trivial⟩
 ·have hje:j=(rv s (nth (Ai s) k)).length:=by omega
  rw[hje,<-Bfd hk];exact⟨hk,.of ⟨rfl,λ_ _=>rfl⟩,trivial⟩
section
variable {P:Program} {Y:TypeId->Ty} {a:Act} {n fu:Nat} {f:Nat->Value} {ds:List Deferred} {w w':World} {ops:Array Oper} {Q:Exit->Act->World->Prop} {rest:List Oper} {o:Oper} {rd:Option Nat}
theorem sl_at (S:SL a n f ds) {t:Nat} (h:t<n):a.tmps[t]?=some (f t):=by
 have h1:t<a.tmps.size:=by rw[S.size];exact h
 rw[<-S.get t h,cK h1];simp[Array.getD,h1]
theorem Db (S:SL a n f ds) {d:Nat} {v:Value} (hd:o.dst=some d) (nv:d<n) (hn:∀c,o.op≠.defer c) (hr:(execOp a.eval o).run P w=.ok (.value v) w') (h:∀a',SL a' n (upd f d v) ds->wpListIn (Fr rd) fu P ops Q rest a' w') (hw:Region.wanted o (yielded ops a.tmps)=true:=by rfl):
  wpListIn (Fr rd) fu P ops Q (o::rest) a w:=by
 unfold wpListIn;rw[bG hw];refine Avd hn hr ?_;rw[hd];exact h _ (S.put nv v)
def ri_ex (S:SL a n f ds) {d:Nat} {K:Value->Prop} (hd:o.dst=some d) (nv:d<n) (hn:∀c,o.op≠.defer c) (hr:∃v,K v/\(execOp a.eval o).run P w=.ok (.value v) w') (h:∀v a',K v->SL a' n (upd f d v) ds->wpListIn (Fr rd) fu P ops Q rest a' w') (hw:Region.wanted o (yielded ops a.tmps)=true:=by rfl):
  wpListIn (Fr rd) fu P ops Q (o::rest) a w:=by
 grind[Db]
def Ad3 (S:SL a n f ds) {d:Nat} (hd:o.dst=some d) (nv:d<n) (hw:Region.wanted o (yielded ops a.tmps)=false) (h:∀a',SL a' n (upd f d undef) ds->wpListIn (Fr rd) fu P ops Q rest a' w):wpListIn (Fr rd) fu P ops Q (o::rest) a w:=by
 unfold wpListIn;rw[bI (by grind)];refine⟨λ_ _=>trivial,?_⟩;rw[hd];exact h _ (S.put nv undef)
def Bfh (S:SL a n f ds) {d l:Nat} {vs:Array Value} {R:Ending->World->Prop} {c:Call} (hd:o.dst=some d) (nv:d<n) (ho:o.op=.call c) (hw:Region.wanted o (yielded ops a.tmps)=true) (hr:∀x,(Instr.yield l vs).run P w=.ok x w->(execOp a.eval o).run P w=.ok x w) (hy:Al6 P l vs w R)
  (h:∀en w',R en w'->∃v,en=.returned v/\∀a',SL a' n (upd f d v) ds->wpListIn (Fr rd) fu P ops Q rest a' w'):wpListIn (Fr rd) fu P ops Q (o::rest) a w:=by
 obtain⟨fn,tmps,assign,body,h1,h2⟩:=hy;unfold wpListIn;rw[bG hw];refine⟨λ_ _=>trivial,?_⟩;rw[dK _ _ _ (Alh ho),hr _ h1,Oper.uponIn_round];refine⟨λh=>by trivial,?_⟩;refine (Ala h2).mono λen w' h5=>?_;obtain⟨v,rfl,h6⟩:=h en w' h5;dsimp only;rw[hd];exact h6 _ (S.put nv v)
def Ad4 (hY:YOK P Y) {p:Operand} {s:TypeId} {k b off:Nat} {fs:List (Nat×TypeId)} {q:Nat×TypeId} (ho:o.op=.fieldAddr s p k) (jx:(Y s).fields=some fs) (hq:fs[k]?=some q) (hp:a.eval p=.pointer (some ⟨b,off,none⟩)):
  (execOp a.eval o).run P w=.ok (.value (.pointer (some ⟨b,off+q.1,none⟩))) w:=by
 have hk:=Afd jx;obtain⟨d,i,z,h1,h2,h3,h4,h5,h6,h7,h8⟩:=hY s (Aab hk);rw[hk]at h7;obtain⟨fields,rfl,gj,s7⟩:=h7;rw[<-gj,bQ]at hq;cases hf:fields.toList[k]? with
 |none=>grind
 |some im=>
  rw[hf]at hq;simp only[bO,aA]at hq;subst hq;obtain⟨i',gh,vn⟩:=s7 im (cG hf);have bh:fields[k]?=some im:=by grind
  simp[execOp,ho,hp,Instr.fieldAt,aO h1,bh,Instr.sureAddr,fieldPlace,sizeOf,typeInfo,gh,vn,Ih]
def raw_load1 (hY:YOK P Y) {p:Operand} {t:TypeId} {b off:Nat} {u:Value} (ho:o.op=.load t p) (l8:(Y t).agg=some false) (hp:a.eval p=.pointer (some ⟨b,off,none⟩)) (hu:w.cell? ⟨b,off,none⟩=some u):(execOp a.eval o).run P w=.ok (.value u) w:=by
 simp[execOp,ho,hp,Instr.loadAt,Instr.sureAddr,Nt hY l8 hu]
def Bfi (hY:YOK P Y) {p q:Operand} {t kt et:TypeId} {m:Nat} {es:Array MapEntry} {cl:Nat} {dom:List Int->Bool} {x:Int} (ho:o.op=.lookup t p q true) (hk:(Y t).kind=.map kt et) (ke:Nk (Y kt)=some 0) (het:(Y et).known=true) (hp:a.eval p=.map (some m)) (hq:a.eval q=.int .i64 x) (hm:w.heap[m]?=some (.map es cl)) (hes:Nr 0 es cl dom):
  ∃v,(∃u,v=.tuple #[u,.bool (dom [x])])/\(execOp a.eval o).run P w=.ok (.value v) w:=by
 obtain⟨d2,i2,z2,h1,h2,h3,h4,h5,h6,h7,h8⟩:=hY t (by simp[Ty.known,hk]);rw[hk]at h7;simp only[KOK]at h7;subst h7;have n8:Br 0 (.int .i64 x)=some [x]:=rfl;obtain⟨z,nf,_⟩:=Wt hY het w;rcases find_keyG (w:=w) hY ke hes n8 with ⟨hd,i,en,g1,g2,g3⟩|⟨hd,g1,g2⟩
 ·exact⟨_,⟨en.val,rfl⟩,by simp[execOp,ho,hp,hq,Instr.lookup,aO h1,cV hm,Pd hY ke n8,g3,hd]⟩
 ·exact⟨_,⟨z,rfl⟩,by simp[execOp,ho,hp,hq,Instr.lookup,aO h1,cV hm,Pd hY ke n8,g2,nf,hd]⟩
def Bfj (hY:YOK P Y) {p:Operand} {t el:TypeId} {b:Option Addr} {k c:Nat} (ho:o.op=.call { callee:=.builtin .len,args:=#[p],argTypes:=#[t] }) (hk:(Y t).kind=.slice el) (hp:a.eval p=.slice b k c):(execOp a.eval o).run P w=.ok (.value (.int .i64 k)) w:=by
 obtain⟨d,i',z,h1,h2,h3,h4,h5,h6,h7,h8⟩:=hY t (by simp[Ty.known,hk]);rw[hk]at h7;simp only[KOK]at h7;subst h7;simp[execOp,ho,resolve,invoke,builtin,Builtin.len_,aO h1,hp,goInt]
def Qe (S:SL a n f ds) {j d:Nat} {dp b r:Bool} (hg:o.guard=some (j,dp)) (hd:(ops[j]?).bind (·.dst)=some d) (nv:d<n) (hf:f d=.bool b) (hr:(b==dp)=r):Region.wanted o (yielded ops a.tmps)=r:=by
 grind[yielded,sl_at,Region.wanted]
end
theorem Aj0 (s:St) (k:Nat):Iw s (k+1)=Iw s k++(bif riD s [(k:Int)] then [(k:Int)] else []):=by
 grind[Iw,List.range_succ]
theorem Aj1 (s:St):∀{k m:Nat},k<=m->∃r,Iw s m=Iw s k++r
 |k,0,h=>⟨[],by grind⟩
 |k,m+1,h=>by
  rcases bL m k with h1|h1
  ·exact⟨[],by grind⟩
  ·obtain⟨r,hr⟩:=Aj1 s h1;grind[Aj0]
def Bfk (s:St) {k:Nat} (hk:k<s.su.b.sheets.length) (h:riD s [(k:Int)]=true):(Iw s k).length<(Ai s).length/\nth (Ai s) (Iw s k).length=k:=by
 obtain⟨r,hr⟩:=Aj1 s (show k+1<=s.su.b.sheets.length by omega);grind[Aj0,Ai,nth]
def PasK (s:St) (bs:Nat) (bm:Nat) (w:World):Prop:=
 (∃v,w.cell? ⟨bs,5,none⟩=some v/\∃vis,Rep vis w (.l eI s.su.b.sheets) v)/\w.cell? ⟨bs,19,none⟩=some (.map (some bm))/\∃vis es cl,w.heap[bm]?=some (.map es cl)/\Pc vis w 0 false (riD s) (rvK s) es cl
def pasK {s:St} {w:World} {G':Gh} (h:Mem Y (λ_=>False) (Fx s) w G'):PasK s (G'.bk FAR) (G'.bk (FAR+1)) w:=by
 have c5:=h.cells FAR 5 (show (L eI s.su.b.sheets)≠T.any from λhh=>by cases hh);have c19:=h.cells FAR 19 (show T.mp (FAR+1)≠T.any from λhh=>by cases hh);have b1:=h.box (FAR+1) (show mRv s≠T.any from λhh=>by cases hh);obtain⟨_,_,u5,e5,v5⟩:=c5;obtain⟨_,_,u19,e19,v19⟩:=c19;obtain⟨_,_,o1⟩:=b1;have r5:=v5.rel;have r19:=v19.rel;change Aa G' w (λ_=>False) (L eI s.su.b.sheets) u5 at r5;change Aa G' w (λ_=>False) (.mp (FAR+1)) u19 at r19;simp only[Aa]at r19;subst r19;change Bk G' w (mRv s) _ at o1;obtain⟨⟨es,cl,q1,q2⟩,_⟩:=o1;refine⟨⟨u5,e5,G'.vis,?_⟩,e19,G'.vis,es,cl,q1,q2⟩;trivial
theorem Ad5 {Gl:World->Prop} (s:St) (l:Nat) (h3:s.su.b.sheets.length<=1000):DO Gl (paYd s l) 320 [.yl l,.pt (.addr FAR 0)] (Fx s) (.new (.yl l) []) []:=by
 refine⟨⟨_,func320,(by kernel_rfl),by kernel_rfl⟩,?_⟩
 show Al8 Tryz.prog Y Gl (paYd s l) 320 [.yl l,.pt (.addr FAR 0)] (Fx s)
 intro J G w vs m8 cb ax sm ae o6 hH hJ f7;simp only[Ac,Aa]at f7;obtain⟨v0,vs1,ai,rfl,v1,vs2,rfl,⟨b,u,rfl,hb,hc,rfl⟩,rfl⟩:=f7;obtain rfl:vs=#[.func (.yield l) #[] #[],.pointer (some ⟨b,0,none⟩)]:=by grind
 have know:∀p H vi w',p<=(Ai s).length->J p H vi w'->PasK s (G.bk FAR) (G.bk (FAR+1)) w':=λp H vi w' hp hj=>by
  obtain⟨G',g1,g2⟩:=ax p H vi w' hp hj;have:=pasK g2;rw[g1 FAR (show live≠T.any from Bc),g1 (FAR+1) (show mRv s≠T.any from λhh=>by cases hh)]at this;exact this
 have kn0:=know 0 G.H G.vis w (bV _) hJ;obtain⟨⟨v5,e5,vis5,r5⟩,_⟩:=kn0;obtain⟨sb,sc,rfl,_⟩:=Akb r5;refine Nz (n:=0) (callsIn_of_wp func320 rfl trivial ?_);have S:=SL.start #[.func (.yield l) #[] #[],.pointer (some ⟨b,0,none⟩)] Tryz.f320.ntmps (by rw[Tryz.ntmps320];exact aH rfl);generalize ({ tmps:=_++_,defers:=[] }:Act)=a at S ⊢;rw[Tryz.ntmps320]at S;refine eZ (eU ?_);refine Db S (d:=6) rfl (by decide) (by simp) (raw_load1 yok rfl (by kernel_rfl) (by simp[S.eval]) hc) λa S=>?_;refine Db S (d:=7) (v:=.pointer (some ⟨G.bk FAR,0,none⟩)) (w':=w) rfl (by decide) (by simp) (by simp[execOp,S.eval,upd]) λa S=>?_;refine Db S (d:=8) rfl (by decide) (by simp) (Ad4 (fs:=[(0,72),(16,3),(17,162),(18,163),(19,164),(20,165),(21,22)]) (b:=G.bk FAR) (off:=0) yok rfl (by kernel_rfl) rfl (by simp[S.eval,upd])) λa S=>?_;refine Db S (d:=9) rfl (by decide) (by simp) (Ad4 (fs:=[(0,26),(3,64),(6,3),(7,67),(9,70)]) (b:=G.bk FAR) (off:=0) yok rfl (by kernel_rfl) rfl (by simp[S.eval,upd])) λa S=>?_;refine Db S (d:=10) rfl (by decide) (by simp) (Ad4 (fs:=[(0,62),(1,22),(2,22)]) (b:=G.bk FAR) (off:=3) yok rfl (by kernel_rfl) rfl (by simp[S.eval,upd])) λa S=>?_;refine Db S (d:=11) rfl (by decide) (by simp) (raw_load1 yok rfl (by kernel_rfl) (by simp[S.eval,upd]) e5) λa S=>?_;refine Db S (d:=12) rfl (by decide) (by simp) (Bfj (b:=sb) (k:=s.su.b.sheets.length) (c:=sc) yok rfl (show (Y 22).kind=.slice 3 by kernel_rfl) (by simp[S.eval,upd])) λa S=>?_
 refine Db S (d:=13) (v:=.int .i64 0) (w':=w) rfl (by decide) (by simp) (by trivial) λa S=>?_;refine wpIn_block (fS (λk a w'=>∃(i:Nat) (f:Nat->Value) (H:Nat->Prop),k+i=s.su.b.sheets.length/\SL a 33 f []/\f 0=.func (.yield l) #[] #[]/\f 1=.pointer (some ⟨b,0,none⟩)/\f 12=.int .i64 s.su.b.sheets.length/\f 13=.int .i64 i/\J (Iw s i).length H G.vis w'/\(∀b,b<w'.heap.size->H b)/\(∀b,H b->b<w'.heap.size)/\KeepV G.vis w w'/\Same w w') s.su.b.sheets.length ⟨0,_,G.H,rfl,S,rfl,rfl,rfl,rfl,hJ,o6,hH,.refl _ _,.refl _⟩ ?_);clear S;rintro k a w1 ⟨i,f,H,hki,S,f0,f1,f12,f13,wb,tz,wc,n8,lv⟩;refine eZ (eU ?_);refine Db S (d:=14) (v:=.bool (decide ((i:Int)<(s.su.b.sheets.length:Int)))) (w':=w1) rfl (by decide) (by simp) (by simp[execOp,S.eval,f13,f12,binOp,Op.intCmp,eqGuard]) λa S=>?_;refine eZ ?_
 by_cases hlt:i<s.su.b.sheets.length
 case neg=>
  refine wpIn_cond_false (by simp[S.eval,upd,hlt]) (wpIn_exit ?_);have hi:i=s.su.b.sheets.length:=by omega
  subst hi;exact⟨S.defers,.tuple #[],by simp[results,Tryz.results320],lv,n8,H,G.vis,_,wb,rfl⟩
 refine wpIn_cond_true (by simp[S.eval,upd,hlt]) (wpIn_skip ?_);refine eZ (wpIn_block (eZ (eU ?_)));refine Db S (d:=15) (v:=.int .i64 i) (w':=w1) rfl (by decide) (by simp) (by simp[execOp,S.eval,upd,f13]) λa S=>?_;refine Db S (d:=3) (v:=.int .i64 i) (w':=w1) rfl (by decide) (by simp) (by simp[execOp,S.eval,upd]) λa S=>?_;obtain⟨rr,hrr⟩:=Aj1 s (show i<=s.su.b.sheets.length by omega);have hple:(Iw s i).length<=(Ai s).length:=by grind[Ai]
 obtain⟨_,e19,vi3,es,cl,hm,kg⟩:=know _ H G.vis w1 hple wb;have hcb:=(n8.cell b 0 hb).trans hc;refine eZ (eU ?_);refine Db S (d:=17) rfl (by decide) (by simp) (raw_load1 yok rfl (by kernel_rfl) (by simp[S.eval,upd,f1]) hcb) λa S=>?_;refine Db S (d:=18) (v:=.pointer (some ⟨G.bk FAR,0,none⟩)) (w':=w1) rfl (by decide) (by simp) (by simp[execOp,S.eval,upd]) λa S=>?_;refine Db S (d:=19) rfl (by decide) (by simp) (Ad4 (fs:=[(0,72),(16,3),(17,162),(18,163),(19,164),(20,165),(21,22)]) (b:=G.bk FAR) (off:=0) yok rfl (by kernel_rfl) rfl (by simp[S.eval,upd])) λa S=>?_;refine Db S (d:=20) rfl (by decide) (by simp) (raw_load1 yok rfl (by kernel_rfl) (by simp[S.eval,upd]) e19) λa S=>?_;refine Db S (d:=21) (v:=.int .i64 i) (w':=w1) rfl (by decide) (by simp) (by simp[execOp,S.eval,upd]) λa S=>?_;refine ri_ex S (d:=22) rfl (by decide) (by simp) (Bfi (m:=G.bk (FAR+1)) (x:=(i:Int)) yok rfl (show (Y 164).kind=.map 3 22 by kernel_rfl) (by kernel_rfl) (by kernel_rfl) (by simp[S.eval,upd]) (by simp[S.eval,upd]) hm kg.1) λv a hv S=>?_;obtain⟨u,rfl⟩:=hv;refine Db S (d:=16) (v:=.tuple #[u,.bool (riD s [(i:Int)])]) (w':=w1) rfl (by decide) (by simp) (by simp[execOp,S.eval,upd]) λa S=>?_;refine Db S (d:=23) (v:=u) (w':=w1) rfl (by decide) (by simp) (by simp[execOp,S.eval,upd,Instr.extract]) λa S=>?_;refine Db S (d:=24) (v:=.bool (riD s [(i:Int)])) (w':=w1) rfl (by decide) (by simp) (by simp[execOp,S.eval,upd,Instr.extract]) λa S=>?_
 refine Db S (d:=4) (v:=u) (w':=w1) rfl (by decide) (by simp) (by simp[execOp,S.eval,upd]) λa S=>?_;refine Db S (d:=5) (v:=.bool (riD s [(i:Int)])) (w':=w1) rfl (by decide) (by simp) (by simp[execOp,S.eval,upd]) λa S=>?_;refine eZ (dE (Q:=λex a w2=>ex=.normal/\∃(f:Nat->Value) (H:Nat->Prop),SL a 33 f []/\f 0=.func (.yield l) #[] #[]/\f 1=.pointer (some ⟨b,0,none⟩)/\f 12=.int .i64 s.su.b.sheets.length/\f 13=.int .i64 i/\f 31=.bool false/\J (Iw s (i+1)).length H G.vis w2/\(∀b,b<w2.heap.size->H b)/\(∀b,H b->b<w2.heap.size)/\KeepV G.vis w w2/\Same w w2) (eU ?_) ?_)
 ·refine Db S (d:=25) (v:=.bool (riD s [(i:Int)])) (w':=w1) rfl (by decide) (by simp) (by simp[execOp,S.eval,upd]) λa S=>?_;refine Db S (d:=26) (v:=.bool (riD s [(i:Int)])) (w':=w1) rfl (by decide) (by simp) (by simp[execOp,S.eval,upd]) λa S=>?_;rw[Aj0];cases hri:riD s [(i:Int)] with
  |false=>
   rw[hri]at S;refine Ad3 S (d:=27) rfl (by decide) (Qe (d:=26) S rfl rfl (by decide) rfl rfl) λa S=>?_;refine Ad3 S (d:=28) rfl (by decide) (Qe (d:=26) S rfl rfl (by decide) rfl rfl) λa S=>?_;refine Ad3 S (d:=29) rfl (by decide) (Qe (d:=26) S rfl rfl (by decide) rfl rfl) λa S=>?_;refine Ad3 S (d:=30) rfl (by decide) (Qe (d:=26) S rfl rfl (by decide) rfl rfl) λa S=>?_;refine Db S (d:=31) (v:=.bool false) (w':=w1) rfl (by decide) (by simp) (by simp[execOp,S.eval,upd,ev_const,asBool]) λa S=>?_;exact⟨rfl,_,H,S,f0,f1,f12,f13,rfl,by grind,tz,wc,n8,lv⟩
  |true=>
   obtain⟨p1,p2⟩:=Bfk s hlt hri;rw[hri]at S;refine Db S (d:=27) (v:=.func (.yield l) #[] #[]) (w':=w1) rfl (by decide) (by simp) (by simp[execOp,S.eval,upd,f0]) (λa S=>?_) (Qe (d:=26) S rfl rfl (by decide) rfl rfl);refine Db S (d:=28) (v:=.int .i64 i) (w':=w1) rfl (by decide) (by simp) (by simp[execOp,S.eval,upd]) (λa S=>?_) (Qe (d:=26) S rfl rfl (by decide) rfl rfl);refine Bfh S (d:=29) (l:=l) (vs:=#[.int .i64 i]) rfl (by decide) rfl (Qe (d:=26) S rfl rfl (by decide) rfl rfl) (λx hx=>?_) (sm _ H G.vis w1 #[.int .i64 i] p1 (Nat.le_of_lt p1) wb wc (λb hb=>ae b (bJ lv.size hb)) rfl ?_) ?_
   ·simp[execOp,resolve,S.eval,upd,Deferred.ofValue,invoke,hx]
   ·show Ac _ _ _ [I (nth (Ai s) (Iw s i).length)] [.int .i64 i]
    rw[p2];simp only[Ac,Aa];exact⟨_,_,rfl,.v _ rfl,rfl⟩
   ·rintro en w2 ⟨rfl,q2,q3,q4,q5⟩;refine⟨_,rfl,λa S=>?_⟩;rw[show ((Iw s i).length != (paYd s l).s)=true from bne_iff_ne.2 (Nat.ne_of_lt p1)]at S;refine Db S (d:=30) (v:=.bool false) (w':=w2) rfl (by decide) (by simp) (by simp[execOp,S.eval,upd,asBool,Op.unary,ev_const]) (λa S=>?_) (Qe (d:=26) S rfl rfl (by decide) rfl rfl);refine Db S (d:=31) (v:=.bool false) (w':=w2) rfl (by decide) (by simp) (by simp[execOp,S.eval,upd,asBool,Op.unary,ev_const]) λa S=>?_;refine⟨rfl,_,_,S,f0,f1,f12,f13,rfl,by rw[bA,cU];exact q2,λb hb=>?_,λb hb=>?_,n8.trans q4,lv.trans q5⟩
    ·by_cases h:b<w1.heap.size
     ·exact .inl (tz b h)
     ·exact .inr ⟨by omega,hb⟩
    ·rcases hb with hb|hb
     ·exact aX (wc b hb) q5.size
     omega
 clear S;rintro ex a w2 ⟨rfl,f,H,S,f0,f1,f12,f13,f31,hJ2,hall2,hH2,sv,mo⟩;refine wpIn_cond_false (by simp[S.eval,f31]) (wpIn_skip ?_);refine eU ?_;refine Db S (d:=32) (v:=.int .i64 ((i+1:Nat):Int)) (w':=w2) rfl (by decide) (by simp) ?_ λa S=>?_
 ·have hr:=Wu .i64 ((i:Int)+1) ((Ad _).2 (by omega));simp[execOp,S.eval,f13,binOp,Op.intArith,hr,eqGuard,ev_const]
 refine Db S (d:=13) (v:=.int .i64 ((i+1:Nat):Int)) (w':=w2) rfl (by decide) (by simp) (by simp[execOp,S.eval,upd]) λa S=>?_;exact⟨k - 1,by omega,i+1,_,H,by omega,S,f0,f1,f12,rfl,hJ2,hall2,hH2,sv,mo⟩
theorem Aj2 (S:SP Gl) (s:St) (a h:Int):DO Gl yd0 154 [.addr FAR 0,I a,I h] [(2,FAR,live),(FAR+3,17,.mp (FAR+1)),(2,FAR+1,mTk s)] (.ret (B (Ep s a h))) []:=by
 cases hd:tkD s [a] with
 |false=>
  grind[Ep,Za,Bdx]
 |true=>
  obtain⟨g,hg⟩:∃g,s.tk a=some g:=dU.1 hd;have e:((s.tk a).getD ⟨0,0,0,0⟩)=g:=by grind
  cases h2:(g.one==h) with
  |true=>
   grind[Ep,Bdy]
  |false=>
   rw[show Ep s a h=(((s.tk a).getD ⟨0,0,0,0⟩).other==h) from by grind[Ep]];grind[Bdz]
def Sh (r l:List Int):Bool:=Bu r&&(Bu l&&l.length==r.length)
def Hw (r l:List Int):List Err:=bif Sh r l then Cd r l else []
def errE (r l:List Int):Int:=bif Sh r l then (bif Dw r l then 0 else 5) else 2
def Arb (S:SP Gl) (r l:List Int):CR Gl 10 [L eI r,L eI l] (.tup [.c (.l Dj (Hw r l)),.c (Ci (errE r l))]):=by
 grind[Hw,errE,Sh,Bbz,Aq0]
def cv (s:St) (a h:Int):List Int:=(s.co a h).getD []
def cvK (s:St):List Int->List C
 | [a,h]=>[.l eI (cv s a h)]
 |_=>[.l eI []]
def mCv (s:St):T:=.mapc false 2 false (coD s) (cvK s)
def Zd (s:St) (h a:Int):Bool:=Ep s a h&&!paD s [a,h]
def Er (s:St) (h:Int) (q:Nat):List Int:=((Ai s).take q).filter (Zd s h)
def Qf (s:St) (h a:Int):Nat:=(Hw (rv s a) (cv s a h)).length
def Nb:List Nat->Nat
 | []=>0
 |x::l=>x+Nb l
def Dc (s:St) (h:Int) (q:Nat):Nat:=Nb ((Er s h q).map (Qf s h))
theorem Bfl (l m:List Nat):Nb (l++m)=Nb l+Nb m:=by
 induction l with
 |nil=>simp[Nb]
 |cons x l ih=>grind[Nb]
theorem Arc {s:St} {h:Int} {q:Nat} (hq:q<(Ai s).length):Er s h (q+1)=Er s h q++bif Zd s h (nth (Ai s) q) then [nth (Ai s) q] else []:=by
 grind[Er,take_succ]
def Bfm {l:List Nat} {n:Nat} (h:∀x∈l,x<=n):Nb l<=l.length*n:=by
 induction l with
 |nil=>exact bV _
 |cons x l ih=>
  grind[List.mem_cons_self,Nb,Nat.succ_mul]
theorem Ard {s:St} {h:Int} (q:Nat):(Er s h q).length<=q:=bJ (List.length_filter_le _ _) (by grind)
def Bfn {s:St} {h:Int} (hn:∀a,Qf s h a<=12) (q:Nat):Dc s h q<=q*12:=by
 have h1:Dc s h q<=_:=Bfm (n:=12) (l:=(Er s h q).map (Qf s h)) λx hx=>by grind
 grind[Ard]
def Bfo {s:St} {h:Int} {q:Nat} (hq:q<(Ai s).length):Dc s h (q+1)=Dc s h q+bif Zd s h (nth (Ai s) q) then Qf s h (nth (Ai s) q) else 0:=by
 grind[Dc,Arc,Bfl,Nb]
def Ve (s:St):Env:=[(2,FAR,live),(FAR+3,5,L eI s.su.b.sheets),(FAR+3,17,.mp (FAR+1)),(FAR+3,18,.mp (FAR+2)),(FAR+3,19,.mp (FAR+3)),(FAR+3,20,.mp (FAR+4)),(2,FAR+1,mTk s),(2,FAR+2,mCv s),(2,FAR+3,mRv s),(2,FAR+4,mPa s)]
def Bfp (s:St) (h m p:Int) (q:Nat):List C:=[Ci h,Ci (Er s h q).length,Ci (Dc s h q),Ci 0,Ci m,Ci p,Ci 0,Ci 0,Ci 0,Ci 0]
def Si (s:St) (h m p:Int):Py.Line:=⟨h,(Er s h (Ai s).length).length,⟨Dc s h (Ai s).length,Dc s h (Ai s).length⟩,m,p,0,0,0,0⟩
theorem Are (S:SP Gl) (s:St) (h m p:Int) (h3:s.su.b.sheets.length<=1000) (hc:∀a,Ep s a h=true->riD s [a]=true->coD s [a,h]=true) (hn:∀a,Qf s h a<=12):DO Gl yd0 246 [.addr FAR 0,I h,I m,I p] (Ve s) (.ret (.d (.agg (Py.eLine (Si s h m p))))) []:=by
 refine Bs S (let dl:=(2,FAR,live);let my:=[dl,(FAR+3,17,T.mp (FAR+1)),(2,FAR+1,mTk s)];let o7:=Res.new (T.fn 320 [aF 0] []) [];let A6:=(0:Int);let A3:=zM (coD s) (cvK s) (zM (riD s) (rvK s) (MEq (paD s) (paV s) (paD s) (paV s)));let A0:=Ai s;let ay:=(↑(Dc s h (ln A0)):Int);let A9:=(↑(ln (Er s h (ln A0))):Int);let A4:=λ(k0:Nat)=>nth A0 k0;let A8:=λ(k0:Nat)=>!Ep s (A4 k0) h;let A7:=λ(k0:Nat)=>bif !Ep s (A4 k0) h then true else paD s [nth A0 k0,h];let A2:=λ(k0:Nat)=>Hw (rv s (A4 k0)) (cv s (A4 k0) h);let A5:=λ(k0:Nat)=>[D.c (C.l Dj (A2 k0)),D.c (Ci (errE (rv s (A4 k0)) (cv s (A4 k0) h)))];let P0:=λ(k0:Nat) (zz:Prop)=>(eqB (A8 k0) false=true->eqB (A8 k0) false=true)/\zz;let P1:=λ(zz:Prop)=>A6=0/\A6=0/\A6=0/\A6=0/\A6=0/\A6=0/\A6=0/\zz;let A1:=P1 (sR eI s.1.2.3/\zM (tkD s) (tkV s) A3);let P2:=λ(zz:Prop)=>ay=ay/\zz;((.w [(FAR,FAR)] [aF 0] [dl] o7 [] (.w [(FAR,FAR),(FAS,FAU)] [T.pt (aF 0)] (Fx s) (Res.new (T.yl (nat_lit 0)) []) [] (.rf (List.length A0) (List.length A0) (λq=>[I (nth A0 q)]) (λq=>v 4 (ad 4)::(2,4,live)::(7,0,aF 0)::v 5 (ad 5)::(2,5,live)::(8,0,I h)::v 8 (ad 8)::v 9 (ad 9)::(bx 9 (Bfp s h m p q)++(bx 8 [Ci 0,Ci 0,Ci 0,Ci 0,Ci 0,Ci 0,Ci 0,Ci 0,Ci 0,Ci 0]++Ve s))) (λk0=>.w [(FAR,FAR),(FAS,FAS)] [aF 0,I (A4 k0),I h] my (.ret (B (Ep s (A4 k0) h))) [] (.br .nil (rt (.tup (A5 k0)) .nil))) .nil))),(DO Gl yd0 247 [aF 0] [dl] o7 []/\Yd.m yd0=0/\(T.pt (T.addr 100000 0)=T.pt (T.addr 100000 0)/\ln A0<=ln A0/\(∀(l:Nat),DO Gl (Yd.mk l (ln A0) (ln A0) λq=>[I (nth A0 q)]) 320 [T.yl l,T.pt (aF 0)] (Fx s) (Res.new (T.yl l) []) [])/\∀(p:Nat),p<=ln A0->sR eI s.1.2.3/\MEq (riD s) (rvK s) (riD s) (rvK s))/\(h=h/\h=h/\0=(↑(ln (Er s h 0)):Int)/\0=(↑(Dc s h 0):Int)/\A6=0/\m=m/\p=p/\P1 A1)/\(∀(k0:Nat),k0<ln A0->k0<=ln A0->nth A0 k0=nth A0 k0/\h=h/\zM (tkD s) (tkV s) (DO Gl yd0 154 [aF 0,I (A4 k0),I h] my (.ret (B (Ep s (A4 k0) h))) []/\P0 k0 (P0 k0 (P0 k0 (P0 k0 (P0 k0 (P0 k0 (P0 k0 ((eqB (A8 k0) false=true->paD s [nth A0 k0,h]=false->[Cb (paD s [nth A0 k0,h])]=[Cb false])/\((A8 k0)=false->eqB (A8 k0) false=true)/\((A7 k0)=true->k0<ln A0/\h=h/\h=h/\(ln (Er s h k0):Int)=(↑(ln (Er s h (k0+1))):Int)/\(↑(Dc s h k0):Int)=(↑(Dc s h (k0+1)):Int)/\A6=0/\m=m/\p=p/\P1 A1)/\((A7 k0)=false->(riD s [nth A0 k0]=false->[C.l eI (rv s (A4 k0))]=[cN])/\(coD s [nth A0 k0,h]=false->[C.l eI (cv s (A4 k0) h)]=[cN])/\CR Gl 10 [L eI (rv s (A4 k0)),L eI (cv s (A4 k0) h)] (.tup (A5 k0))/\iR ((ln (Er s h k0):Int)+1)/\(ln (A2 k0)<=maxLen->iR ((↑(Dc s h k0):Int)+(↑(ln (A2 k0)):Int))/\k0<ln A0/\h=h/\h=h/\(ln (Er s h k0):Int)+1=(↑(ln (Er s h (k0+1))):Int)/\(↑(Dc s h k0):Int)+(↑(ln (A2 k0)):Int)=(↑(Dc s h (k0+1)):Int)/\A6=0/\m=m/\p=p/\P1 A1)))))))))))/\(h=h/\A9=A9/\P2 (P2 (m=m/\p=p/\A6=0/\A6=0/\A6=0/\A6=0)))/\sR eI s.1.2.3/\zM (tkD s) (tkV s) A3))) func246 ?_
 simp only[stdS,aL,aB,and_true,aN,aK,Ad,Ap,Fe];refine⟨Ad0 rfl FAR,⟨aI _,λl=>Ad5 s l h3,trivial⟩,⟨rfl,rfl,trivial⟩,λk hk _=>?_,trivial⟩;obtain⟨p1,p2,p3⟩:=Ar9 hk;have je:=Aiz s;have h1:=Ard (s:=s) (h:=h) k;have h2:=Bfn hn k;have h4:=hn (nth (Ai s) k)
 have h5:Zd s h (nth (Ai s) k)=!(!Ep s (nth (Ai s) k) h||paD s [nth (Ai s) k,h]):=by grind[Zd]
 rw[Arc hk,Bfo hk,h5];change (Hw (rv s (nth (Ai s) k)) (cv s (nth (Ai s) k) h)).length<=12 at h4;refine⟨Aj2 S s _ h,λ_ e=>by rw[e],λe=>?_,λe=>?_⟩
 ·grind
 ·rw[e];simp only[dW,cZ]at e;refine⟨λe2=>(by grind),λe2=>(by grind),Arb S _ _,by omega,λ_=>⟨by omega,hk,by simp,by simp;rfl,trivial⟩⟩
def Arf (S:SP Gl) (s:St) (h:Int):DO Gl yd0 245 [.addr FAR 0,I h] [(2,FAR,live),(FAR+3,3,.d (.c (.l Gv.eComp s.su.b.comps)))] (.ret (B (inR h 0 ((s.su.b.comps.length:Int) - 1)))) []:=by
 refine Bs S (let A0:=((s.1.2.1.length:Int)-1);((rt (B (inR h 0 A0)) .nil),(s.1.2.1.length<=maxLen->iR A0/\CR Gl 143 [I h,I 0,I A0] (B (inR h 0 A0))/\inR h 0 A0=inR h 0 A0/\SEq s.1.2.1.length (λi=>Gv.eComp (nth s.1.2.1 i)) s.1.2.1.length λi=>Gv.eComp (nth s.1.2.1 i)))) func245 ?_;simp only[stdS,aL,aB,and_true,Ad,Ap];grind[Iv]
def gv (s:St) (n:Int):Gvn:=(s.tk n).getD ⟨0,0,0,0⟩
def Vf (s:St) (n:Int):Sheet:=⟨[cv s n (gv s n).one,cv s n (gv s n).other],[s.su.e,s.su.e]⟩
def preB (s:St):Env:=[(2,FAR,live),(FAR+3,6,I s.su.e),(FAR+3,17,.mp (FAR+1)),(FAR+3,18,.mp (FAR+2)),(2,FAR+1,mTk s),(2,FAR+2,mCv s)]
def Bfq (S:SP Gl) (s:St) (n:Int) (h0:tkD s [n]=true) (h1:coD s [n,(gv s n).one]=true) (h2:coD s [n,(gv s n).other]=true):DO Gl yd0 243 [.addr FAR 0,I n] (preB s) (.ret (.tup [.agg (Cw (Vf s n)),.c (Cb true)])) []:=by
 refine Bs S (let A2:=[cv s n (gv s n).1,cv s n (gv s n).2];let A0:=Option.getD (s.3 n) (Gvn.mk 0 0 0 0);let A1:=bif true then coD s [n,A0.1] else false;((.val 20 true (.sure 64 .nil)),((tkD s [n]=false->[Ci A0.1,Ci A0.2,Ci A0.3,Ci A0.4]=[Ci 0,Ci 0,Ci 0,Ci 0])/\tkD s [n]=true/\(coD s [n,A0.1]=false->[C.l eI (cv s n A0.1)]=[cN])/\(coD s [n,A0.2]=false->[C.l eI (cv s n A0.2)]=[cN])/\tt 1 ((A1=true->eqB A1 true=true)/\((SEq 2 (gD [List.map C.dem [C.s Tag.n (ln (cv s n A0.1)) λi=>eI (nth (cv s n A0.1) i)],List.map C.dem [C.s Tag.n (ln (cv s n A0.2)) λi=>eI (nth (cv s n A0.2) i)]]) (List.length A2) λi=>Ar (nth A2 i))/\(SEq 2 (gD [mI s.1.3,mI s.1.3]) (List.length [s.1.3,s.1.3]) λi=>eI (nth [s.1.3,s.1.3] i))/\(bif bif true then coD s [n,A0.1] else false then coD s [n,A0.2] else false)=true)/\s.1.3=s.1.3/\zM (tkD s) (tkV s) (MEq (coD s) (cvK s) (coD s) (cvK s)))))) func243 ?_;simp only[stdS,aL,aB,and_true,Fe,bA];refine⟨λe=>(by grind),h0,λe=>(nomatch h1.symm.trans e),λe=>(nomatch h2.symm.trans e),⟨.of ⟨rfl,λi hi=>?_⟩,.of ⟨rfl,λi hi=>?_⟩,?_⟩,trivial⟩
 ·match i,hi with
  |0,_=>rfl
  |1,_=>rfl
 ·match i,hi with
  |0,_=>rfl
  |1,_=>rfl
 ·exact cO.2 ⟨h1,h2⟩
def Fg (s:St) (n:Int) (m:List Int):St:={ s with ri:=λx=>bif x==n then some m else s.ri x }
def Dz (s:St):List Df.Seen:=Ff s (Ai s).length
def Vg (s:St):MEq (riD s) (riV s) (riD s) (rvK s):=λk=>⟨rfl,λh=>.inl (by
 match k,h with
 | [a],h=>
  obtain⟨l,hl⟩:=dU.1 (show (s.ri a).isSome=true from h)
  show eN (s.ri a)=[.l eI ((s.ri a).getD [])]
  rw[hl];rfl
 | [],h=>cases h
 |_::_::_,h=>cases h)⟩
theorem Aj4 {F:Nat} {m m':T}:∀{A:Env},Bz 2 F (Bf A)=false->∀t k,Env.get (A++[(2,F,m')]) t k=if t=2/\k=F then m' else Env.get (A++[(2,F,m)]) t k
 | [],_,t,k=>by
  grind[Am]
 |(t0,k0,x)::A,hA,t,k=>by
  have hk:(Nat.beq 2 t0&&F.beq k0)=false/\Bz 2 F (Bf A)=false:=by grind[Bf,Bz]
  rw[bZ,bZ,Am,Am,Aj4 (m:=m) hk.2]
  by_cases h:t=2/\k=F
  ·rw[bG h,bG h,bI];rintro⟨h1,h2⟩;rw[h1,h2,h.1,h.2]at hk;simp at hk
  grind
def Arg {F:Nat} {m m':T} {c9 se:Env} {w:World} {G:Gh} (hg:∀t k,se.get t k=if t=2/\k=F then m' else c9.get t k) (ht:∀k,c9.get 1 k=.any) (hp:c9.get 2 F=m) (hm:m≠live) (h0:m≠.any) (h0':m'≠.any) (h1:∀b,Bk G w m b->Bk G w m' b) (M:Mem Y (λ_=>False) c9 w G):Mem Y (λ_=>False) se w G:=by
 have hu:∀id,se.get 2 id≠.any↔c9.get 2 id≠.any:=λid=>by
  grind
 have hc:∀id k,se.get (id+3) k=c9.get (id+3) k:=λid k=>by grind
 refine⟨λid k hk=>?_,λid d6=>?_,λid i5 i1 i2=>M.inj id i5 ((hu id).1 i1) ((hu i5).1 i2)⟩
 ·rw[hc]at hk ⊢;obtain⟨q1,q2,u,q3,q4⟩:=M.cells id k hk;refine⟨?_,q2,u,q3,VOK.mono (.refl _ _ _) (λ_ _=>rfl) (λid h=>(hu id).2 h) (λk h=>absurd (ht k) h) (λk b h=>absurd (ht k) h) q4⟩;grind
 ·obtain⟨q1,q2,q3⟩:=M.box id ((hu id).1 d6);grind
def Does.swap {Gl:World->Prop} {yd:Yd} {f:FuncId} {xs:List T} {r:Res} {F:Nat} {A:Env} {d d':List Int->Bool} {v v':List Int->List C} {kn:Nat} {ag:Bool} (h:DO Gl yd f xs (A++[(2,F,.mapc false kn ag d v)]) r []) (hn:Jy r=true) (hA:Bz 2 F (Bf A)=false) (ht:∀k,Env.get (A++[(2,F,.mapc false kn ag d v)]) 1 k=.any) (h1:MEq d v d' v') (h2:MEq d' v' d v):
  DO Gl yd f xs (A++[(2,F,.mapc false kn ag d' v')]) r []:=by
 have g1:=Aj4 (m:=.mapc false kn ag d v) (m':=.mapc false kn ag d' v') hA;have g2:=Aj4 (m:=.mapc false kn ag d' v') (m':=.mapc false kn ag d v) hA;have e1:Env.get (A++[(2,F,.mapc false kn ag d v)]) 2 F=.mapc false kn ag d v:=by grind
 have e2:Env.get (A++[(2,F,.mapc false kn ag d' v')]) 2 F=.mapc false kn ag d' v':=by grind
 have ht':∀k,Env.get (A++[(2,F,.mapc false kn ag d' v')]) 1 k=.any:=λk=>by grind
 have le:∀{d d':List Int->Bool} {v v':List Int->List C},MEq d v d' v'->∀p∈leT (.mapc false kn ag d v) (.mapc false kn ag d' v'),p:=λ{d d' v v'} h p hp=>by
  have:leT (.mapc false kn ag d v) (.mapc false kn ag d' v')=[MEq d v d' v']:=by simp[leT]
  grind
 have ne:∀{d:List Int->Bool} {v:List Int->List C},T.mapc false kn ag d v≠.any:=λh=>by cases h
 have nl:∀{d:List Int->Bool} {v:List Int->List C},T.mapc false kn ag d v≠live:=λh=>by cases h
 have to:∀{w:World} {G:Gh},Mem Y (λ_=>False) (A++[(2,F,.mapc false kn ag d' v')]) w G->Mem Y (λ_=>False) (A++[(2,F,.mapc false kn ag d v)]) w G:=λM=>Arg g2 ht' e2 nl ne ne (λb ho=>Agq (le h2) ne ho) M;have back:∀{w:World} {G:Gh},Mem Y (λ_=>False) (A++[(2,F,.mapc false kn ag d v)]) w G->Mem Y (λ_=>False) (A++[(2,F,.mapc false kn ag d' v')]) w G:=λM=>Arg g1 ht e1 nl ne ne (λb ho=>Agq (le h1) ne ho) M;have hB:Env.get (A++[(2,F,.mapc false kn ag d' v')]) 0 BIG=Env.get (A++[(2,F,.mapc false kn ag d v)]) 0 BIG:=by grind
 have hu:∀id,Env.get (A++[(2,F,.mapc false kn ag d v)]) 2 id≠.any->Env.get (A++[(2,F,.mapc false kn ag d' v')]) 2 id≠.any:=λid d6=>by
  grind
 refine⟨h.1,?_⟩;rw[hn];refine (λJ G w vs j1 j2 j3 j4 j5 j6 j7 j8=>?_:Aaw Tryz.prog Y Gl yd f xs _ r []);rw[hB]at j6;refine (h.run hn J G w vs j1 j2 j3 j4 j5 j6 (to j7) j8).mono λen w' ⟨q1,q2,q3,q4,G',a1,a2,a3,a4,a5,a6,a7,a8⟩=>⟨q1,q2,λb hb hH dy=>q3 b hb hH λid d6=>dy id (hu id d6),λid k hl hk=>q4 id k ?_ ?_,G',a1,a2,a3,a4,a5,by grind[Acz],?_,a8⟩
 ·grind
 ·grind
 grind[Acz]
def preNA (s:St):Env:=[(2,FAR,live),(FAR+3,1,I s.su.p.rows),(FAR+3,5,L eI s.su.b.sheets),(FAR+3,19,.mp (FAR+1))]
def Sj (s:St) (d:List Int->Bool) (v:List Int->List C):Env:=[(2,FAR,live),(FAR+3,1,I s.su.p.rows),(FAR+3,5,L eI s.su.b.sheets),(FAR+3,19,.mp (FAR+1)),(2,FAR+1,.mapc false 0 false d v)]
def Aj5 (S:SP Gl) (s:St) (h1:1<=s.su.b.sheets.length/\s.su.b.sheets.length<=1000) (h2:0<=s.su.p.rows/\s.su.p.rows<=12) (hr:∀a,(rv s a).length<=12) {d:List Int->Bool} {v:List Int->List C} (m1:MEq (riD s) (rvK s) d v) (m2:MEq d v (riD s) (rvK s)):
  DO Gl yd0 158 [.addr FAR 0] (Sj s d v) (.ret (.d (.c (.l Df.eSeen (Dz s))))) []:=
 Does.swap (A:=preNA s) (Bfg S s (λl=>Ad5 s l h1.2) h1.1 h2 h1.2 hr) rfl rfl (λ_=>rfl) m1 m2
def Bfr {s:St} {n:Int} {m:List Int}:MEq (riD (Fg s n m)) (rvK (Fg s n m)) (Bw (riD s) [n]) (Cr (riV s) [n] (List.map C.dem [C.l eI m]))/\MEq (Bw (riD s) [n]) (Cr (riV s) [n] (List.map C.dem [C.l eI m])) (riD (Fg s n m)) (rvK (Fg s n m))/\MEq (Bw (riD s) [n]) (Cr (riV s) [n] (List.map C.dem [C.l eI m])) (riD (Fg s n m)) (riV (Fg s n m)):=by
 have hd:∀k,Bw (riD s) [n] k=riD (Fg s n m) k:=λk=>by
  rw[fT,Ij]
  match k with
  | [x]=>
   show _↔(bif x==n then some m else s.ri x).isSome=true
   grind[riD]
  | []=>simp[riD]
  |_::_::_=>simp[riD]
 have hv:∀k,riD (Fg s n m) k=true->Cr (riV s) [n] (List.map C.dem [C.l eI m]) k=rvK (Fg s n m) k/\rvK (Fg s n m) k=riV (Fg s n m) k:=λk hk=>by
  match k,hk with
  | [x],hk=>
   rw[Ny]
   show _=[C.l eI ((bif x==n then some m else s.ri x).getD [])]/\[C.l eI ((bif x==n then some m else s.ri x).getD [])]=eN (bif x==n then some m else s.ri x)
   have hk:(bif x==n then some m else s.ri x).isSome=true:=hk;cases h:x==n with
   |true=>rw[bG (by grind)];trivial
   |false=>
    have:¬x=n:=λhh=>by grind
    rw[bI (by grind)];rw[h]at hk;obtain⟨l,hl⟩:=dU.1 (show (s.ri x).isSome=true from hk)
    show eN (s.ri x)=[C.l eI ((s.ri x).getD [])]/\[C.l eI ((s.ri x).getD [])]=eN (s.ri x)
    rw[hl];trivial
  | [],hk=>cases hk
  |_::_::_,hk=>cases hk
 exact⟨λk=>⟨(hd k).symm,λh=>.inl (hv k h).1.symm⟩,λk=>⟨hd k,λh=>.inl (hv k (by grind)).1⟩,λk=>⟨hd k,λh=>.inl (by grind)⟩⟩
def Bfs {s:St} {n:Int} (h:riD s [n]=false):s.ri n=none:=by
 cases hx:s.ri n with
 |none=>rfl
 |some g=>simp[riD,hx]at h
def Vh (s:St):MEq (coD s) (coV s) (coD s) (cvK s)/\MEq (coD s) (cvK s) (coD s) (coV s):=by
 have key:∀k,coD s k=true->coV s k=cvK s k:=λk h=>by
  match k,h with
  | [a,b],h=>
   obtain⟨l,hl⟩:=dU.1 (show (s.co a b).isSome=true from h)
   show eN (s.co a b)=[.l eI ((s.co a b).getD [])]
   rw[hl];rfl
  | [],h=>cases h
  | [_],h=>cases h
  |_::_::_::_,h=>cases h
 exact⟨λk=>⟨rfl,λh=>.inl (key k h)⟩,λk=>⟨rfl,λh=>.inl (key k h).symm⟩⟩
structure PaOK (s:St) (n:Int) (m:List Int):Prop where
 tk:tkD s [n]=true
 c1:coD s [n,(gv s n).one]=true
 c2:coD s [n,(gv s n).other]=true
 ri:riD s [n]=false
 len:((m.length:Int)==s.su.p.rows.tdiv s.su.b.sheets.length)=true
 sh:(Vf s n).ok=true
 col:Bu m=true
 row:m.length=rows (Vf s n)
 ag:Lm (Vf s n) m=true
 plan:Bn s.su.p=true
 seen:Df.areSeen s.su.p (Dz (Fg s n m))=true
 some:decide (0<(Df.agreeL s.su.p (Dz (Fg s n m))).length)=true
 sheets:1<=s.su.b.sheets.length/\s.su.b.sheets.length<=1000
 rows:0<=s.su.p.rows/\s.su.p.rows<=12
 ml:1<=m.length/\m.length<=1000
 rl:∀a,(rv (Fg s n m) a).length<=12
def Bft (S:SP Gl) {s:Sheet} {r:List Int} (hs:s.ok=true) (hr:Bu r=true) (hl:r.length=rows s) (ha:Lm s r=true):CR Gl 244 [Dr s,L eI r] (.tup [.c (.v (.bool true)),.c (Ci 0)]):=by grind[Bc0]
def roomT (S:SP Gl) {p:Plan} {l:List Df.Seen} (h:Bn p=true) (hl:Df.areSeen p l=true) (h2:decide (0<(Df.agreeL p l).length)=true):CR Gl 157 [Cn p,L Df.eSeen l] (B true):=by have:=Df.agrees157 S p l h hl;grind
def preX (s:St):Env:=[(2,FAR,live),(FAR+3,0,L Ae s.su.p.starts),(FAR+3,1,I s.su.p.rows),(FAR+3,2,I s.su.p.guard),(FAR+3,5,L eI s.su.b.sheets),(FAR+3,6,I s.su.e),(FAR+3,17,.mp (FAR+1)),(FAR+3,18,.mp (FAR+2)),(FAR+3,19,.mp (FAR+3)),(2,FAR+1,mTk s),(2,FAR+2,mCo s),(2,FAR+3,mRi s)]
theorem Bfu (S:SP Gl) (s:St) (n:Int) (m:List Int) (W:PaOK s n m):DO Gl yd0 155 [.addr FAR 0,.d (.agg [Ci n,.l eI m])] (preX s) (.ret (.tup [])) [(2,FAR+3,mRi (Fg s n m))]:=by
 refine Bs S (let A6:=[D.agg (Cw (Vf s n)),D.c (Cb true)];let A5:=Fg s n m;let A4:=Plan.rows (Su.p (St.su s));let A3:=Bw (riD s) [n];let A2:=Gv.Book.sheets (Su.b (St.su s));let A1:=Cr (riV s) [n] (List.map C.dem [C.l eI m]);let A0:=Cr (riV s) [n] (List.map C.dem [C.s Tag.n m.length λi=>eI (nth m i)]);((.w [(FAR,FAR),(FAS,FAS),(FAT,FAT)] [aF 0,I n] (preB s) (.ret (.tup A6)) [] (.val 26 false (.sure 29 (.sure 30 (.sure 33 (.sure 34 (.sure 35 (.sure 36 (.sure 37 (.w [(FAR,FAR)] [aF 0] [(2,FAR,live),(FAR+3,1,I A4),(FAR+3,5,L eI A2)] (.ret (I (Int.tdiv A4 (↑(List.length A2):Int)))) [] (.val 38 true (.sure 38 (rs [.tup [],.tup [D.c (Cb true),D.c (Ci 0)]] (.sure 51 (rs [.tup [],L eI m] (.k (.w [(FAR,FAR),(FAS,FAU)] [aF 0] (Sj A5 A3 A1) (.ret (L Df.eSeen (Dz A5))) [] (rs [B true,.tup []] .nil)))))))))))))))))),(n=n/\s.1.3=s.1.3/\zM (tkD s) (tkV s) (MEq (coD s) (coV s) (coD s) (cvK s)/\DO Gl yd0 243 [aF 0,I n] (preB s) (.ret (.tup A6)) []/\(riD s [n]=false->[oC (s.5 n)]=[cN])/\riD s [n]=false/\tt 5 ((m.length<=maxLen->tt 2 (s.1.1.2=s.1.1.2/\sR eI s.1.2.3/\DO Gl yd0 241 [aF 0] [(2,FAR,live),(FAR+3,1,I A4),(FAR+3,5,L eI A2)] (.ret (I (Int.tdiv A4 (↑(ln A2):Int)))) []/\((m.length:Int)==Int.tdiv s.1.1.2 s.1.2.3.length)=true/\tt 1 (CR Gl 74 [B true,Str (ByteArray.mk #[(115:UInt8),(104:UInt8),(101:UInt8),(101:UInt8),(116:UInt8)])] (.tup [])/\CR Gl 244 [Dr (Vf s n),L eI m] (.tup [D.c (Cb true),D.c (Ci 0)])/\tt 1 (CR Gl 74 [B true,Str (ByteArray.mk #[(99:UInt8),(111:UInt8),(108:UInt8),(117:UInt8),(109:UInt8),(110:UInt8)])] (.tup [])/\CR Gl 69 [L eI m] (L eI m)/\T.tup []=T.tup []/\T.d (D.c (Ci s.1.1.2))=T.d (D.c (Ci s.1.1.2))/\(L eI s.1.2.3)=(L eI s.1.2.3)/\T.mp 100003=T.mp 100003/\T.mapc false 0 false A3 A0=T.mapc false 0 false A3 A1/\s.1.1.2=s.1.1.2/\sR eI s.1.2.3/\MEq A3 A0 A3 A1/\DO Gl yd0 158 [aF 0] (Sj A5 A3 A1) (.ret (L Df.eSeen (Dz A5))) []/\CR Gl 157 [Cn (Su.p (St.su s)),L Df.eSeen (Dz A5)] (B true)/\CR Gl 74 [B true,Str (ByteArray.mk #[(112:UInt8),(108:UInt8),(97:UInt8),(110:UInt8)])] (.tup [])/\True/\MEq A3 A0 (riD A5) (riV A5)/\sR Ae s.1.1.1/\s.1.1.2=s.1.1.2/\s.1.1.3=s.1.1.3/\sR eI s.1.2.3/\s.1.3=s.1.3/\zM (tkD s) (tkV s) (MEq (coD s) (cvK s) (coD s) (coV s))))))))))) func155 ?_
 obtain⟨pm1,pm2,pm3⟩:=Bfr (s:=s) (n:=n) (m:=m);have ni:=W.ml;simp only[stdS,aL,aB,and_true,Fe,Ap];refine⟨(Vh s).1,Bfq S s n W.tk W.c1 W.c2,λh=>by rw[Bfs h];rfl,W.ri,λ_=>⟨Air S s.su.p.rows s.su.b.sheets W.sheets.1 W.rows,W.len,Lv S _,Bft S W.sh W.col W.row W.ag,Lv S _,Mz S m W.ml.1 W.ml.2,rfl,Bj,Aj5 S (Fg s n m) W.sheets W.rows W.rl pm1 pm2,roomT S W.plan W.seen W.some,Lv S _,pm3,(Vh s).2⟩⟩
def Arh (n:Int) (m:List Int):C:=.i 295 true [Ci n,.l eI m]
structure PayE where
 h:Int
 m:Int
 p:Int
 c0:Int
 c1:Int
 c2:Int
 c3:Int
def Qg (e:PayE):List C:=[Ci e.h,Ci e.m,Ci e.p,Ci e.c0,Ci e.c1,Ci e.c2,Ci e.c3]
def aPay (e:PayE):C:=.i 298 true (Qg e)
def Ari (S:SP Gl) (n:Int) (m l:List Int) (hl:l=n::m):CR Gl 76 [.d (.agg [Ci 5,.l eI l])] (.d (.c (Arh n m))):=by
 refine Ag S (let A0:=(l.length:Int);((.ff (.ff (.ff (.ff (.tt .nil))))),(false=false/\false=false/\false=false/\false=false/\true=true/\((0:Int)<=0/\0<A0)/\((0:Int)<=1/\1<=A0/\A0<=l.length)/\295=295/\Fz [Ci (nth l (Int.toNat 0)),C.s Tag.n (Int.toNat (A0-1)) λi=>eI (nth l (Int.toNat 1+i))] [Ci n,C.l eI m]))) func76 ?_;dsimp only;subst hl;simp only[stdS,aL,aB,and_true,cQ];refine⟨by omega,by omega,.inl rfl,.inr (.inr ⟨_,_,_,_,_,_,rfl,rfl,by omega,λi _=>?_⟩),trivial⟩;grind[nth]
def Bfv (S:SP Gl) (e:PayE) (l:List Int) (h:l=[e.h,e.m,e.p,e.c0,e.c1,e.c2,e.c3]):CR Gl 76 [.d (.agg [Ci 6,.l eI l])] (.d (.c (.v (.iface 298 (.agg #[.int .i64 e.h,.int .i64 e.m,.int .i64 e.p,.int .i64 e.c0,.int .i64 e.c1,.int .i64 e.c2,.int .i64 e.c3]))))):=by
 refine Ag S (let A0:=(l.length:Int);((.ff (.ff (.ff (.ff (.ff (.tt .nil)))))),(false=false/\false=false/\false=false/\false=false/\false=false/\true=true/\((0:Int)<=0/\0<A0)/\((0:Int)<=1/\1<A0)/\((0:Int)<=2/\2<A0)/\((0:Int)<=3/\3<A0)/\((0:Int)<=4/\4<A0)/\((0:Int)<=5/\5<A0)/\((0:Int)<=6/\6<A0)/\Value.iface 298 (Value.agg (Array.mk [vI (nth l (Int.toNat 0)),vI (nth l (Int.toNat 1)),vI (nth l (Int.toNat 2)),vI (nth l (Int.toNat 3)),vI (nth l (Int.toNat 4)),vI (nth l (Int.toNat 5)),vI (nth l (Int.toNat 6))]))=Value.iface 298 (Value.agg (Array.mk [vI e.1,vI e.2,vI e.3,vI e.4,vI e.5,vI e.6,vI e.7]))))) func76 ?_;dsimp only;subst h;simp only[stdS,aL,aB,and_true];exact⟨by simp,by simp,by simp,by simp,by simp,by simp,by simp,rfl⟩
def Arj (S:SP Gl) (s:St) (n:Int) (m:List Int) (W:PaOK s n m):DO Gl yd0 75 [.addr FAR 0,.d (.c (Arh n m))] (stB FAR (FAR+1) s) (.ret (.tup [])) (stB FAR (FAR+1) (Fg s n m)):=by
 refine Bs S (let A0:=Fg s n m;((.ff (.ff (.ff (.ff (.tt (.w [(FAR,FAR),(FAS,FAS),(FAT,FAT),(FAU,FAU)] [aF 0,tA [Ci n,C.l eI m]] (preX s) (.ret (.tup [])) [(2,FAR+3,mRi A0)] .nil)))))),(false=false/\false=false/\false=false/\false=false/\tt 1 (n=n/\sR eI m/\sR Ae s.1.1.1/\s.1.1.2=s.1.1.2/\s.1.1.3=s.1.1.3/\sR eI s.1.2.3/\s.1.3=s.1.3/\MEq (tkD s) (tkV s) (tkD s) (tkV s)/\MEq (coD s) (coV s) (coD s) (coV s)/\MEq (riD s) (riV s) (riD s) (riV s)/\DO Gl yd0 155 [aF 0,tA [Ci n,C.l eI m]] (preX s) (.ret (.tup [])) [(2,FAR+3,mRi A0)]/\True/\zC (List.take 15 (cS (s.1))) (s.2=s.2/\MEq (tkD s) (tkV s) (tkD A0) (tkV A0)/\MEq (coD s) (coV s) (coD A0) (coV A0)/\MEq (riD A0) (riV A0) (riD A0) (riV A0)/\MEq (paD s) (paV s) (paD A0) (paV A0)))))) func75 ?_;simp only[stdS,aL,aB,and_true];exact⟨Bj,Bj,Bj,Bfu S s n m W,Bj,Bj,Bj,Bj⟩
def Oo (s:St) (e:PayE):Py.Line:={ Si s e.h e.m e.p with p0:=e.c0,p1:=e.c1,p2:=e.c2,p3:=e.c3 }
def suP (s:St) (e:PayE):Su:={ s.su with y:={ s.su.y with lines:=s.su.y.lines++[Oo s e] } }
def paK (s:St) (h:Int) (k:Nat) (a b:Int):Bool:=s.pa a b||(b==h&&(Ep s a h&&((Ai s).take k).contains a))
def Hh (s:St) (e:PayE) (k:Nat):St:={ s with su:=suP s e,pa:=paK s e.h k }
def Lw (s:St) (e:PayE):St:=Hh s e (Ai s).length
def bP (s:St):List C:=[Ci s.su.y.hands,Ci s.su.y.unit,Ci s.su.y.sheet,Ci s.su.y.error,Ci s.su.y.morn,Ci s.su.y.post]
def Ark (s:St):Env:=(2,FAR,live)::(FAR+3,3,.d (.c (.l Gv.eComp s.su.b.comps)))::(FAR+3,5,L eI s.su.b.sheets)::(Dt FAR 9 (bP s)++[(FAR+3,17,.mp (FAR+1)),(FAR+3,18,.mp (FAR+2)),(FAR+3,19,.mp (FAR+3)),(FAR+3,20,.mp (FAR+4)),(2,FAR+1,mTk s),(2,FAR+2,mCo s),(2,FAR+3,mRi s)])
def preY (s:St):Env:=(FAR+3,15,L Py.eLine s.su.y.lines)::(2,FAR+4,mPa s)::Ark s
structure PyOK (s:St) (e:PayE):Prop where
 hand:inR e.h 0 ((s.su.b.comps.length:Int) - 1)=true
 sheets:s.su.b.sheets.length<=1000
 cols:∀a,Ep s a e.h=true->riD s [a]=true->coD s [a,e.h]=true
 errs:∀a,Qf s e.h a<=12
 lines:s.su.y.lines.length<=1000
 book:Py.okPB (suP s e).y=true
 some:My (suP s e).y=true
def Bfw (S:SP Gl) {s:St} {e:PayE} (W:PyOK s e) (m:Nat) (f:Nat->List C) (hf:SEq m f (suP s e).y.lines.length λi=>Py.eLine (nth (suP s e).y.lines i)):CR Gl 142 [.d (.agg (bP s++[.s .n m f]))] (.tup [.c (.l eI (Sd (suP s e).y)),.c (Ci 0)]):=
 (Aqr S (suP s e).y W.book W.some).args ⟨rfl,rfl,rfl,rfl,rfl,rfl,hf⟩
def Ze (s:St):MEq (riD s) (rvK s) (riD s) (riV s):=λk=>⟨rfl,λh=>.inl (by
 match k,h with
 | [a],h=>
  obtain⟨l,hl⟩:=dU.1 (show (s.ri a).isSome=true from h)
  show [.l eI ((s.ri a).getD [])]=eN (s.ri a)
  rw[hl];rfl
 | [],h=>cases h
 |_::_::_,h=>cases h)⟩
theorem Bfx {s:St} {h:Int} {k:Nat} (hk:k<(Ai s).length) (x y:Int):paK s h (k+1) x y=(paK s h k x y||(y==h&&(Ep s x h&&x==nth (Ai s) k))):=by
 grind[paK,List.take_succ,Ge]
def Bfy {P Q:St} {key:List Int} (h:∀k,paD Q k=(decide (k=key)||paD P k)):MEq (Bw (paD P) key) (Cr (paV P) key (List.map C.dem [C.v (Value.bool true)])) (paD Q) (paV Q):=λk=>by
 refine⟨by grind[Ij],λ_=>.inl ?_⟩;rw[Ny];unfold paV;rw[h]
 by_cases hk:k=key
 ·rw[bG hk,eR hk];rfl
 grind
def Arl {s:St} {e:PayE} {k:Nat} (hk:k<(Ai s).length) (b:Bool) (hb:Ep s (nth (Ai s) k) e.h=b) (key:List Int):paD (Hh s e (k+1)) key=((b&&decide (key=[nth (Ai s) k,e.h]))||paD (Hh s e k) key):=by
 match key with
 | [x,y]=>
  show paK s e.h (k+1) x y=(_||paK s e.h k x y)
  grind[Bfx]
 | []=>simp[paD]
 | [_]=>simp[paD]
 |_::_::_::_=>simp[paD]
def Bfz {s:St} {e:PayE} (key:List Int):paD (Hh s e 0) key=paD s key:=by
 match key with
 | [x,y]=>
  show paK s e.h 0 x y=s.pa x y
  unfold paK;simp
 | []=>rfl
 | [_]=>rfl
 |_::_::_::_=>rfl
def Arm {P Q:St} (h:∀k,paD Q k=paD P k):MEq (paD P) (paV P) (paD Q) (paV Q):=λk=>⟨(h k).symm,λ_=>.inl (by unfold paV;rw[h])⟩
theorem Bg0 (S:SP Gl) (s:St) (e:PayE) (W:PyOK s e):DO Gl yd0 156 [.addr FAR 0,.d (.agg (Qg e))] (preY s) (.new (.tok (194)) [(FAR,15,.any)]) [(FAR+3,15,L Py.eLine (suP s e).y.lines),(2,FAR+4,mPa (Lw s e))]:=by
 refine Ana S (let A3:=Ai s;let A2:=Gv.Book.comps (Su.b (St.su s));let A1:=((2:Nat),FAR,live);let A0:=PayE.h e;.val 11 true (.w [(FAR,FAR)] [T.addr FAR 0,I A0] [A1,(FAR+(3:Nat),(3:Nat),T.d (D.c (C.l Gv.eComp A2)))] (.ret (B (inR A0 0 ((↑(List.length A2):Int)-1)))) [] (.r (.ret (.tup [])) (.w [(FAR,FAR),(FAS,FAS),(FAT,FAT),(FAU,FAU),(nat_lit 100004,nat_lit 100004)] [T.addr FAR 0,I A0,I (PayE.m e),I (PayE.p e)] (Ve s) (.ret (T.d (D.agg (Py.eLine (Si s A0 (PayE.m e) (PayE.p e)))))) [] (.r (.ret (.tup [D.c (C.l eI (Sd (Su.y (suP s e)))),D.c (Ci 0)])) (.r (.ret (.tup [])) (.w [(FAR,FAR)] [T.addr FAR 0] [A1] (Res.new (T.fn 320 [T.addr FAR 0] []) []) [] (.w [(FAR,FAR),(FAS,FAU)] [T.pt (T.addr FAR 0)] (Fx s) (Res.new (T.yl (nat_lit 0)) []) [] (.rf (List.length A3) (List.length A3) (λq=>[I (nth A3 q)]) (λq=>v 2 (ad 2)::((2:Nat),(2:Nat),live)::((5:Nat),(0:Nat),T.addr FAR 0)::v 3 (ad 3)::(bx 3 (Qg e)++tk 100901 194::(FAR+(3:Nat),(15:Nat),Lt 100901 Py.eLine (Py.PBook.lines (Su.y (suP s e))))::((2:Nat),FAR+(4:Nat),mPa (Hh s e q))::Ark s)) (λk0=>.w [(FAR,FAR),(FAS,FAS)] [T.addr FAR 0,I (nth A3 k0),I A0] [A1,(FAR+(3:Nat),(17:Nat),T.mp (FAR+1)),((2:Nat),FAR+(1:Nat),mTk s)] (.ret (B (Ep s (nth A3 k0) A0))) [] (.br .nil .nil)) .nil))))))))) func156 (by kernel_rfl) (let A9:=s.1.6.7.length+1;let A8:=Gv.Book.comps (Su.b (St.su s));let A7:=((2:Nat),FAR,live);let A6:=PayE.h e;let A3:=SEq s.1.2.1.length (λi=>Gv.eComp (nth s.1.2.1 i)) s.1.2.1.length λi=>Gv.eComp (nth s.1.2.1 i);let A2:=s.1.6.7++[Oo s e];let o7:=List.length A2;let A1:=Ai s;let A5:=List.length A1;let A0:=An s.1.6.7.length (λi=>Py.eLine (nth s.1.6.7 i)) λi=>List.getD [List.map C.dem (List.map C.dem [Ci e.1,Ci (↑(List.length (Er s e.1 A5)):Int),Ci (↑(Dc s e.1 A5):Int),Ci (↑(Dc s e.1 A5):Int),Ci e.2,Ci e.3,Ci e.4,Ci e.5,Ci e.6,Ci e.7])] i [];let P0:=λ(zz:Prop)=>A3/\(sR eI s.1.2.3)/\s.1.6.1=s.1.6.1/\s.1.6.2=s.1.6.2/\s.1.6.3=s.1.6.3/\s.1.6.4=s.1.6.4/\s.1.6.5=s.1.6.5/\s.1.6.6=s.1.6.6/\MEq (tkD s) (tkV s) (tkD s) (tkV s)/\zz;let P1:=λ(zz:Prop)=>(SEq o7 (λi=>Py.eLine (nth A2 i)) o7 λi=>Py.eLine (nth A2 i))/\zz;let P2:=λ(zz:Prop)=>e.1=e.1/\e.2=e.2/\e.3=e.3/\e.4=e.4/\e.5=e.5/\e.6=e.6/\e.7=e.7/\zz;let P3:=λ(zz:Prop)=>MEq (coD s) (coV s) (coD s) (coV s)/\zz;let A4:=P3 (MEq (riD s) (riV s) (riD s) (riV s));inR e.1 0 ((s.1.2.1.length:Int)-1)=true/\e.1=e.1/\A3/\DO Gl yd0 245 [T.addr FAR 0,I A6] [A7,(FAR+(3:Nat),(3:Nat),T.d (D.c (C.l Gv.eComp A8)))] (.ret (B (inR A6 0 ((↑(List.length A8):Int)-1)))) []/\CR Gl 74 [B true,Str (ByteArray.mk #[(104:UInt8),(97:UInt8),(110:UInt8),(100:UInt8)])] (.tup [])/\e.1=e.1/\e.2=e.2/\e.3=e.3/\(sR eI s.1.2.3)/\MEq (tkD s) (tkV s) (tkD s) (tkV s)/\MEq (coD s) (coV s) (coD s) (cvK s)/\MEq (riD s) (riV s) (riD s) (rvK s)/\MEq (paD s) (paV s) (paD s) (paV s)/\DO Gl yd0 246 [T.addr FAR 0,I A6,I (PayE.m e),I (PayE.p e)] (Ve s) (.ret (T.d (D.agg (Py.eLine (Si s A6 (PayE.m e) (PayE.p e)))))) []/\A9*80<=140737488355328/\s.1.6.7.length+1<=140737488355328/\CR Gl 142 [T.d (D.agg (bP s++[C.s Tag.n A9 A0]))] (.tup [D.c (C.l eI (Sd (Su.y (suP s e)))),D.c (Ci 0)])/\CR Gl 74 [B true,Str (ByteArray.mk #[(108:UInt8),(105:UInt8),(110:UInt8),(101:UInt8),(115:UInt8)])] (.tup [])/\DO Gl yd0 247 [T.addr FAR 0] [A7] (Res.new (T.fn 320 [T.addr FAR 0] []) []) []/\Yd.m yd0=(0:Nat)/\(T.pt (T.addr 100000 0)=T.pt (T.addr 100000 0)/\List.length A1<=List.length A1/\(∀(l:Nat),DO Gl (Yd.mk l A5 A5 λq=>[I (nth A1 q)]) 320 [T.yl l,T.pt (T.addr FAR 0)] (Fx s) (Res.new (T.yl l) []) [])/\∀(p:Nat),p<=List.length A1->(sR eI s.1.2.3)/\MEq (riD s) (riV s) (riD s) (rvK s))/\(P2 ((SEq A9 A0 o7 λi=>Py.eLine (nth A2 i))/\MEq (paD s) (paV s) (paD (Hh s e 0)) (paV (Hh s e 0))/\P0 (MEq (coD s) (cvK s) (coD s) (coV s)/\MEq (riD s) (rvK s) (riD s) (riV s))))/\(∀(k0:Nat),k0<List.length A1->k0<=List.length A1->nth A1 k0=nth A1 k0/\e.1=e.1/\MEq (tkD s) (tkV s) (tkD s) (tkV s)/\DO Gl yd0 154 [T.addr FAR 0,I (nth A1 k0),I A6] [A7,(FAR+(3:Nat),(17:Nat),T.mp (FAR+1)),((2:Nat),FAR+(1:Nat),mTk s)] (.ret (B (Ep s (nth A1 k0) A6))) []/\(Ep s (nth A1 k0) e.1=true->k0<List.length A1/\P2 (P1 (MEq (Bw (paD (Hh s e k0)) [nth A1 k0,e.1]) (Cr (paV (Hh s e k0)) [nth A1 k0,e.1] (List.map C.dem [Cb true])) (paD (Hh s e (k0+1))) (paV (Hh s e (k0+1)))/\P0 A4)))/\(Ep s (nth A1 k0) e.1=false->k0<List.length A1/\P2 (P1 (MEq (paD (Hh s e k0)) (paV (Hh s e k0)) (paD (Hh s e (k0+1))) (paV (Hh s e (k0+1)))/\P0 A4))))/\True/\P1 (P1 (MEq (paD (Hh s e A5)) (paV (Hh s e A5)) (paD (Lw s e)) (paV (Lw s e))/\P0 A4))) (by kernel_rfl) ?_
 have je:=W.lines;simp only[stdS,aL,aB,and_true,aN,aK,Ad,Ap,Fe];refine⟨W.hand,Arf S s e.h,Lv S _,(Vh s).1,Vg s,Are S s e.h e.m e.p W.sheets W.cols W.errs,by omega,by omega,Bfw S W _ _ ?_,Lv S _,Ad0 rfl FAR,?_,?_⟩
 ·exact Eb (f:=Py.eLine) rfl rfl
 ·exact⟨aI _,λl=>Ad5 s l W.sheets,λ_ _=>Vg s⟩
 ·refine⟨⟨Eb (f:=Py.eLine) rfl rfl,Arm Bfz,(Vh s).2,Ze s⟩,λk hk _=>⟨Aj2 S s _ _,λhb=>⟨hk,Bfy λkey=>?_,trivial⟩,λhb=>⟨hk,Arm λkey=>?_,trivial⟩⟩,Bj,trivial⟩
  ·rw[Arl hk true hb,fE]
  ·rw[Arl hk false hb,Bool.false_and,iG]
def Arn (S:SP Gl) (s:St) (e:PayE) (W:PyOK s e):DO Gl yd0 75 [.addr FAR 0,.d (.c (aPay e))] (stX s) (.new (.tok (194)) [(FAR,15,.any)]) (stX (Lw s e)):=by
 refine Ana S (.ff (.ff (.ff (.ff (.ff (.tt (.w [(nat_lit 100000,nat_lit 100000),(nat_lit 100001,nat_lit 100001),(nat_lit 100002,nat_lit 100002),(nat_lit 100003,nat_lit 100003),(nat_lit 100004,nat_lit 100004)] [T.addr FAR (0:Nat),T.d (D.agg (Qg e))] (preY s) (Res.new (T.tok 194) [(FAR,(15:Nat),T.any)]) [(FAR+(3:Nat),(15:Nat),L Py.eLine (Py.PBook.lines (Su.y (suP s e)))),((2:Nat),FAR+(4:Nat),mPa (Lw s e))] .nil))))))) func75 (by kernel_rfl) (let A1:=s.1.6.7++[Oo s e];let A0:=Lw s e;let P0:=λ(zz:Prop)=>(SEq (List.length A1) (λi=>Py.eLine (nth A1 i)) (List.length A1) λi=>Py.eLine (nth A1 i))/\zz;let P1:=λ(zz:Prop)=>(SEq s.1.2.1.length (λi=>Gv.eComp (nth s.1.2.1 i)) s.1.2.1.length λi=>Gv.eComp (nth s.1.2.1 i))/\zz;let P2:=λ(zz:Prop)=>s.1.6.1=s.1.6.1/\s.1.6.2=s.1.6.2/\s.1.6.3=s.1.6.3/\s.1.6.4=s.1.6.4/\s.1.6.5=s.1.6.5/\s.1.6.6=s.1.6.6/\zz;false=false/\false=false/\false=false/\false=false/\false=false/\true=true/\e.1=e.1/\e.2=e.2/\e.3=e.3/\e.4=e.4/\e.5=e.5/\e.6=e.6/\e.7=e.7/\(SEq s.1.6.7.length (λi=>Py.eLine (nth s.1.6.7 i)) s.1.6.7.length λi=>Py.eLine (nth s.1.6.7 i))/\MEq (paD s) (paV s) (paD s) (paV s)/\P1 ((sR eI s.1.2.3)/\P2 (MEq (tkD s) (tkV s) (tkD s) (tkV s)/\MEq (coD s) (coV s) (coD s) (coV s)/\MEq (riD s) (riV s) (riD s) (riV s)/\DO Gl yd0 156 [T.addr FAR 0,T.d (D.agg (Qg e))] (preY s) (Res.new (T.tok 194) [(FAR,(15:Nat),T.any)]) [(FAR+(3:Nat),(15:Nat),L Py.eLine (Py.PBook.lines (Su.y (suP s e)))),((2:Nat),FAR+(4:Nat),mPa A0)]/\True/\P0 (P0 ((sR Ae s.1.1.1)/\s.1.1.2=s.1.1.2/\s.1.1.3=s.1.1.3/\P1 ((sR eI s.1.2.2)/\(sR eI s.1.2.3)/\s.1.3=s.1.3/\s.1.4=s.1.4/\(sR eCp s.1.5)/\P2 (s.2=s.2/\MEq (tkD s) (tkV s) (tkD A0) (tkV A0)/\MEq (coD s) (coV s) (coD A0) (coV A0)/\MEq (riD s) (riV s) (riD A0) (riV A0)/\MEq (paD A0) (paV A0) (paD A0) (paV A0)))))))) (by kernel_rfl) ?_
 simp only[stdS,aL,aB,and_true];exact⟨Bj,Bj,Bj,Bj,Bg0 S s e W,Bj,Bj,Bj,Bj⟩
def Aro (S:SP Gl) (e:PayE) (l:List Int) (h:l=[e.h,e.m,e.p,e.c0,e.c1,e.c2,e.c3]):CR Gl 76 [.d (.agg [Ci 6,.l eI l])] (.d (.c (aPay e))):=
 Acy (us:=[.int .i64 e.h,.int .i64 e.m,.int .i64 e.p,.int .i64 e.c0,.int .i64 e.c1,.int .i64 e.c2,.int .i64 e.c3]) rfl (Bfv S e l h)
end Go.Vc.Zn.Rm
namespace Go.Vc.Zn.Py
open Go Go.Proofs Go.Vc Go.RowKit Tryz
variable {Gl:World->Prop}
def inLine (b:PBook) (er:List Int) (i:Nat):Bool:=inR (nth er i) (nth b.lines i).errs.lo (nth b.lines i).errs.hi
structure TrOK (b:PBook) (er:List Int):Prop where
 book:okPB b=true
 len:er.length=b.lines.length
 at_:∀i,i<er.length->inLine b er i=true
def TrOK.rng {b:PBook} {er:List Int} (h:TrOK b er):∀i,i<er.length->inR (nth er i) 0 20=true:=λi hi=>by
 have h1:=Bi.1 (h.at_ i hi);have hl:=h.len;obtain⟨e1,e2,_⟩:=Us ((okPB_facts h.book).2.2.2.2.2.2.2 i (by omega));grind[Bi]
theorem Arp (S:SP Gl) (b:PBook) (h:okPB b=true):CR Gl 88 [.d (.agg (cPB b))] (B true):=by grind[Ac9]
def Bg1 (S:SP Gl) (b:PBook) (er:List Int) (W:TrOK b er):CR Gl 174 [.d (.agg (cPB b)),L eI er] (B true):=by
 refine Ag S (let A2:=λ(k0:Nat)=>!inR (nth er k0) (nth b.7 k0).3.1 (nth b.7 k0).3.2;let A1:=((er.length:Int) != (b.7.length:Int));let A0:=λ(k0:Nat)=>B (inR (nth er k0) (nth b.7 k0).3.1 (nth b.7 k0).3.2);let P0:=λ(zz:Prop)=>sR eI er/\sR eI er/\b.1=b.1/\b.2=b.2/\b.3=b.3/\b.4=b.4/\b.5=b.5/\b.6=b.6/\zz;((.br .nil (.loop er.length (λk=>v 15 (I k)::v 14 (I er.length)::v 13 (L eI er)::v 1 (L eI er)::v 2 (ad 2)::bx 2 (cPB b)) λk0=>.br (rt (A0 k0) (.br .nil .nil)) .nil)),(er.length<=maxLen->b.7.length<=maxLen->(A1=true->false=true)/\(A1=false->er.length<=maxLen->(lz er.length (P0 (sR eLine b.7)))/\∀(k0:Nat),k0<=er.length->(dt k0 er.length->(ix k0 er.length)/\(ix k0 b.7.length)/\(ix k0 b.7.length)/\CR Gl 89 [I (nth er k0),I (nth b.7 k0).3.1,I (nth b.7 k0).3.2] (A0 k0)/\((A2 k0)=true->false=true)/\((A2 k0)=false->lq k0 er.length ((er.length:Int)=er.length/\P0 (sR eLine b.7))))/\(df k0 er.length->true=true))))) func174 ?_;have hl:=W.len;have hb:=(okPB_facts W.book).2.2.1;simp only[stdS,aL,aB,and_true,aN,aK,Ad,Ap];refine λ_ _=>⟨λh=>(by grind),λ_ _ k hk=>⟨λhd=>⟨by omega,by omega,by omega,Lq S _ _ _,λh=>?_,λ_=>⟨by omega,by omega,by omega,trivial⟩⟩,trivial⟩⟩
 have:=W.at_ k (by omega);grind[inLine]
def Bg2 (S:SP Gl) (x:Int):CR Gl 176 [I x] (B (inR x 0 959999)):=by
 refine Ao S (rt (B (inR x 0 959999)) .nil) (CR Gl 89 [I x,I 0,I 959999] (B (inR x 0 959999))/\inR x 0 959999=inR x 0 959999) func176 ?_;grind[Lq]
def mx (x:Int):Nat->Int
 |0=>x
 |1=>x.tmod 960
 |2=>(x.tmod 960).tmod 48
 |3=>((x.tmod 960).tmod 48).tmod 4
 |_=>(((x.tmod 960).tmod 48).tmod 4).tmod 1
def ml (x:Int):Nat->List Int
 |0=>[]
 |1=>[x.tdiv 960]
 |2=>[x.tdiv 960,(x.tmod 960).tdiv 48]
 |3=>[x.tdiv 960,(x.tmod 960).tdiv 48,((x.tmod 960).tmod 48).tdiv 4]
 |_=>[x.tdiv 960,(x.tmod 960).tdiv 48,((x.tmod 960).tmod 48).tdiv 4,(((x.tmod 960).tmod 48).tmod 4).tdiv 1]
def monL (x:Int):List C:=[Ci (x.tdiv 960),Ci ((x.tmod 960).tdiv 48),Ci (((x.tmod 960).tmod 48).tdiv 4),Ci ((((x.tmod 960).tmod 48).tmod 4).tdiv 1)]
theorem money87 (S:SP Gl) (x:Int) (h:inR x 0 959999=true):CR Gl 87 [I x] (.tup [.agg (monL x),.c (Ci 0)]):=by
 refine Ag S (let o7:=Int.tmod (Int.tmod x 960) 48;let A9:=ml x 4;let A8:=(↑(0:Nat):Int);let A7:=(↑(ln A9):Int);let A6:=(↑(4:Nat):Int);let A5:=(↑(3:Nat):Int);let A4:=(↑(2:Nat):Int);let A3:=(↑(1:Nat):Int);let A2:=(0:Int);let A1:=[Ci 0,Ci 0,Ci 0,Ci 0];let A0:=tA [Ci 960,Ci 48,Ci 4,Ci 1];let P0:=λ(zz:Prop)=>(960:Int)=960/\(48:Int)=48/\(4:Int)=4/\(1:Int)=1/\zz;let P1:=λ(zz:Prop)=>A2=0/\A2=0/\A2=0/\zz;((.val 8 true (rt (B (inR x 0 959999)) (.ff (rt A0 (.un 5 (.cut (v 12 (I A8)::v 11 A0::v 0 (I (mx x 0))::v 2 (ad 2)::v 4 (Lt 900 eI (ml x 0))::tk 900 3::bx 2 A1) (.tt (.cut (v 12 (I A3)::v 11 A0::v 0 (I (mx x 1))::v 2 (ad 2)::v 4 (Lt 900 eI (ml x 1))::tk 900 3::bx 2 A1) (.tt (.cut (v 12 (I A4)::v 11 A0::v 0 (I (mx x 2))::v 2 (ad 2)::v 4 (Lt 900 eI (ml x 2))::tk 900 3::bx 2 A1) (.tt (.cut (v 12 (I A5)::v 11 A0::v 0 (I (mx x 3))::v 2 (ad 2)::v 4 (Lt 900 eI (ml x 3))::tk 900 3::bx 2 A1) (.tt (.cut (v 12 (I A6)::v 11 A0::v 0 (I (mx x 4))::v 2 (ad 2)::v 4 (Lt 900 eI A9)::tk 900 3::bx 2 A1) (.ff .nil))))))))))))))),(inR x 0 959999=true/\CR Gl 176 [I x] (B (inR x 0 959999))/\false=false/\CR Gl 177 [] A0/\(lz 960 ((48:Int)=48/\(4:Int)=4/\(1:Int)=1/\x=mx x 0/\0=0/\P1 (A2=0)))/\tt 1 ((0<=A8/\A8<A6)/\((960:Int)≠A2/\iR (Int.tdiv (mx x 0) 960))/\cp (ln (ml x 0)+1) ((960:Int)≠A2/\iR (A8+1)/\(A8+1=A3/\P0 (Int.tmod (mx x 0) 960=mx x 1/\(SEq 1 (An (ln (ml x 0)) (λi=>eI (nth (ml x 0) i)) (gD [mI (Int.tdiv (mx x 0) 960)])) (ln (ml x 1)) λi=>eI (nth (ml x 1) i))/\P1 (A2=0)))/\tt 1 ((0<=A3/\A3<A6)/\((48:Int)≠A2/\iR (Int.tdiv (mx x 1) 48))/\cp (ln (ml x 1)+1) ((48:Int)≠A2/\iR (A3+1)/\(A3+1=A4/\P0 (Int.tmod (mx x 1) 48=mx x 2/\(SEq 2 (An (ln (ml x 1)) (λi=>eI (nth (ml x 1) i)) (gD [mI (Int.tdiv (mx x 1) 48)])) (ln (ml x 2)) λi=>eI (nth (ml x 2) i))/\P1 (A2=0)))/\tt 1 ((0<=A4/\A4<A6)/\((4:Int)≠A2/\iR (Int.tdiv (mx x 2) 4))/\cp (ln (ml x 2)+1) ((4:Int)≠A2/\iR (A4+1)/\(A4+1=A5/\P0 (Int.tmod (mx x 2) 4=mx x 3/\(SEq 3 (An (ln (ml x 2)) (λi=>eI (nth (ml x 2) i)) (gD [mI (Int.tdiv (mx x 2) 4)])) (ln (ml x 3)) λi=>eI (nth (ml x 3) i))/\P1 (A2=0)))/\tt 1 ((0<=A5/\A5<A6)/\((1:Int)≠A2/\iR (Int.tdiv (mx x 3) 1))/\cp (ln (ml x 3)+1) ((1:Int)≠A2/\iR (A5+1)/\(A5+1=A6/\P0 (Int.tmod (mx x 3) 1=mx x 4/\(SEq 4 (An (ln (ml x 3)) (λi=>eI (nth (ml x 3) i)) (gD [mI (Int.tdiv (mx x 3) 1)])) (ln A9) λi=>eI (nth A9 i))/\P1 (A2=0)))/\false=false/\(A2<=0/\0<A7)/\(A2<=1/\1<A7)/\(A2<=2/\2<A7)/\(A2<=3/\3<A7)/\nth A9 (Int.toNat 0)=Int.tdiv x 960/\nth A9 (Int.toNat 1)=Int.tdiv (Int.tmod x 960) 48/\nth A9 (Int.toNat 2)=Int.tdiv o7 4/\nth A9 (Int.toNat 3)=Int.tdiv (Int.tmod o7 4) 1/\A2=0))))))))))) func87 ?_
 simp only[stdS,aL,aB,and_true,h];obtain⟨h0,h1⟩:=Bi.1 h;have hs:=Bg2 S x;rw[h]at hs;have e1:mx x 1=x % 960:=eD h0;have e2:mx x 2=x % 960 % 48:=by grind[mx]
 have e3:mx x 3=x % 960 % 48 % 4:=by grind[mx]
 have d0:(mx x 0).tdiv 960=x / 960:=cJ h0;have d1:(mx x 1).tdiv 48=mx x 1 / 48:=cJ (by omega);have d2:(mx x 2).tdiv 4=mx x 2 / 4:=cJ (by omega);have d3:(mx x 3).tdiv 1=mx x 3:=Int.tdiv_one _;have q1:=Eb (f:=eI) (l:=ml x 0) (r:=ml x 1) (x:=(mx x 0).tdiv 960) rfl rfl;have q2:=Eb (f:=eI) (l:=ml x 1) (r:=ml x 2) (x:=(mx x 1).tdiv 48) rfl rfl;have q3:=Eb (f:=eI) (l:=ml x 2) (r:=ml x 3) (x:=(mx x 2).tdiv 4) rfl rfl;have q4:=Eb (f:=eI) (l:=ml x 3) (r:=ml x 4) (x:=(mx x 3).tdiv 1) rfl rfl;simp only[Ad];refine⟨hs,Apc S,⟨rfl,trivial⟩,by omega,by omega,by simp[ml],by simp[ml],by omega,by omega,⟨rfl,rfl,q1,trivial⟩,by omega,by omega,by simp[ml],by simp[ml],by omega,by omega,⟨rfl,rfl,q2,trivial⟩,by omega,by omega,by simp[ml],by simp[ml],by omega,by omega,⟨rfl,rfl,q3,trivial⟩,by omega,by omega,by simp[ml],by simp[ml],by omega,by omega,?_⟩;exact⟨⟨rfl,rfl,q4,trivial⟩,by simp[ml],by simp[ml],by simp[ml],by simp[ml],rfl,rfl,rfl,rfl,trivial⟩
def pays86 (S:SP Gl) (b:PBook) (er:List Int) (W:TrOK b er):CR Gl 86 [.d (.agg (cPB b)),L eI er] (.tup [.c (.l eI (paysL b er)),.c (Ci 0)]):=by
 refine Ag S (let A0:=PBook.lines b;let A1:=List.length A0;((rt (B true) (.sure 12 (.sure 13 (.sure 14 (rt (B true) (.sure 15 (.ff (rt (.tup [D.c (C.l eI (Ei b er A1)),D.c (C.m 0 false (Dm b A1) (Hr b er A1))]) .nil)))))))),(CR Gl 88 [tA (cPB b)] (B true)/\tt 3 (CR Gl 174 [tA (cPB b),L eI er] (B true)/\tt 1 (false=false/\CR Gl 175 [tAc b er] (.tup [D.c (C.l eI (Ei b er (ln A0))),D.c (C.m 0 false (Dm b (ln A0)) (Hr b er (ln A0)))])/\(sQ eI (Ei b er b.7.length) (paysL b er))/\(0:Int)=0))))) func86 ?_;simp only[stdS,aL,aB,and_true];exact⟨Arp S b W.book,Bg1 S b er W,Acb S b er W.book W.len W.rng,.of ⟨rfl,λ_ _=>rfl⟩,trivial⟩
def Hi (b:PBook) (er:List Int) (h:Int):Nat->Int
 |0=>0
 |k+1=>bif (nth b.lines k).hand==h then Hi b er h k+nth (paysL b er) k else Hi b er h k
def Oq (b:PBook) (er:List Int) (h:Int):Int:=Hi b er h b.lines.length
def Bg3 {b:PBook} {er:List Int} {k:Nat} (h:okPB b=true) (hlt:k<b.lines.length) (hx:inR (nth er k) 0 20=true):0<=Eh b er k/\Eh b er k<=33000:=by
 obtain⟨_,_,_,_,c5⟩:=Aca (er:=er) h hlt hx;have c6:=Ahy (er:=er) (okPB_facts h).2.1 k (nth b.lines k).hand;unfold Eh;omega
theorem Arq {b:PBook} {er:List Int}:∀{n k:Nat},k<n->nth (Ei b er n) k=Eh b er k - Eh b er k % b.unit
 |n+1,k,h=>by
  have hl:=pays_len b er n;unfold Ei;rcases bL k n with h1|h1
  ·rw[Mn (by omega)];exact Arq h1
  ·obtain rfl:k=n:=by omega
   rw[Km (by omega),hl,eK];rfl
def Arr {b:PBook} {er:List Int} {k:Nat} (h:okPB b=true) (hlt:k<b.lines.length) (hx:inR (nth er k) 0 20=true):0<=nth (paysL b er) k/\nth (paysL b er) k<=33000:=by
 have hu:=(okPB_facts h).2.1;have h1:=Bg3 h hlt hx;have ur:=Int.emod_nonneg (Eh b er k) (show b.unit≠0 by omega);have qr:=gZ (Eh b er k) (show 0<b.unit by omega);unfold paysL;rw[Arq hlt];have hm4:Eh b er k % b.unit<=Eh b er k:=by
  have:=Int.emod_def (Eh b er k) b.unit;have h2:0<=b.unit*(Eh b er k / b.unit):=fM (by omega) (Int.ediv_nonneg h1.1 (by omega));omega
 omega
theorem Ars {b:PBook} {er:List Int} (n6:okPB b=true) (he:er.length=b.lines.length) (hx:∀i,i<er.length->inR (nth er i) 0 20=true) (h:Int):∀k:Nat,k<=b.lines.length->0<=Hi b er h k/\Hi b er h k<=33000*k
 |0,_=>by unfold Hi;omega
 |k+1,hk=>by
  have h1:=Ars n6 he hx h k (by omega);have h2:=Arr (er:=er) n6 (k:=k) (by omega) (hx k (by omega));grind[Hi]
theorem Bg4 (S:SP Gl) (b:PBook) (er:List Int) (h:Int) (n6:okPB b=true) (he:er.length=b.lines.length) (hx:∀i,i<er.length->inR (nth er i) 0 20=true):CR Gl 92 [tAc b er,I h] (I (Oq b er h)):=by
 refine Ag S (let A4:=(b.7.length:Int);let A2:=Ei b er b.7.length;let A1:=paysL b er;let A0:=PBook.lines b;let A3:=List.length A0;let P0:=λ(zz:Prop)=>h=h/\b.1=b.1/\b.2=b.2/\b.3=b.3/\b.4=b.4/\b.5=b.5/\b.6=b.6/\sR eLine b.7/\zz;((rt (.tup [D.c (C.l eI (Ei b er A3)),D.c (C.m 0 false (Dm b A3) (Hr b er A3))]) (.loop A3 (λk=>v 17 (I k)::v 16 (I (List.length A0:Int))::v 15 (L eI A1)::v 7 (I (Hi b er h k))::v 1 (I h)::v 2 (ad 2)::bx 2 (cAc b er)) λk0=>.br (.br .nil .nil) .nil)),(CR Gl 175 [tAc b er] (.tup [D.c (C.l eI (Ei b er (ln A0))),D.c (C.m 0 false (Dm b (ln A0)) (Hr b er (ln A0)))])/\(ln A2<=maxLen->(0=(↑(0:Nat):Int)/\(ln A2:Int)=A4/\(sQ eI A2 A1)/\(0:Int)=Hi b er h 0/\P0 (sR eI er))/\∀(k0:Nat),k0<=ln A0->(dt k0 b.7.length->(0<=(k0:Int)/\(k0:Int)<(ln A1:Int))/\(ix k0 b.7.length)/\(((nth b.7 k0).1==h)=true->iR (Hi b er h k0+nth A1 k0)/\lq k0 (ln A0) (A4=b.7.length/\(sR eI A1)/\Hi b er h k0+nth A1 k0=Hi b er h (k0+1)/\P0 (sR eI er)))/\(((nth b.7 k0).1==h)=false->lq k0 (ln A0) (A4=b.7.length/\(sR eI A1)/\Hi b er h k0=Hi b er h (k0+1)/\P0 (sR eI er))))/\(df k0 b.7.length->Hi b er h k0=Oq b er h))))) func92 ?_;simp only[stdS,aL,aB,and_true,aN,aK,Ad,Ap];have hl:(paysL b er).length=b.lines.length:=pays_len b er _;have hb:=(okPB_facts n6).2.2.1;refine⟨Acb S b er n6 he hx,λ_=>⟨⟨by rw[pays_len],.of ⟨rfl,λ_ _=>rfl⟩,rfl,trivial⟩,λk hk=>⟨λhd=>⟨by omega,by omega,λe=>?_,λe=>?_⟩,λhd=>?_⟩⟩⟩
 ·have h1:=Ars n6 he hx h k hk;have h2:=Arr (er:=er) n6 (k:=k) (by omega) (hx k (by omega));grind[Hi]
 ·grind[Hi]
 ·obtain rfl:k=b.lines.length:=by omega
  rfl
def Bg5 (S:SP Gl) (b:PBook) (er:List Int) (h:Int) (n6:okPB b=true) (he:er.length=b.lines.length) (hx:∀i,i<er.length->inR (nth er i) 0 20=true):CR Gl 91 [tAc b er,.d (.rd [Ci h])] (I (Oq b er h)):=by
 refine Ao S (rt (I (Oq b er h)) .nil) (CR Gl 92 [tAc b er,I h] (I (Oq b er h))/\Oq b er h=Oq b er h) func91 ?_;simp only[stdS,aL,aB,and_true];grind[Bg4]
def Bg6 (S:SP Gl) (b:PBook) (er:List Int):CR Gl 93 [tAc b er] (B true):=by
 refine Ao S .nil (true=true) func93 ?_;trivial
def enL (g:Nat->Int):Nat->Int
 |0=>0
 |k+1=>min (bif k==0 then g k else enL g k) (g k)
def enH (g:Nat->Int):Nat->Int
 |0=>0
 |k+1=>max (bif k==0 then g k else enH g k) (g k)
def gT (b:PBook) (h:Int) (k:Nat):Int:=Oq b (nth (truthsL b) k) h
def enS (b:PBook) (h:Int):List C:=[Ci (enL (gT b h) (truthsL b).length),Ci (enH (gT b h) (truthsL b).length)]
theorem Bg7 (S:SP Gl) (b:PBook) (h:Int) (n6:okPB b=true) (hn:0<(truthsL b).length):CR Gl 90 [.d (.agg (cPB b)),.fn 91 [] [.d (.rd [Ci h])],.fn 93 [] []] (.tup [.agg (enS b h),.c (Ci 0)]):=by
 refine Ag S (let A4:=(0:Int);let A3:=T.fn 287 [] [T.d (D.c (C.p (cPB b)))];let A2:=gT b h;let A0:=truthsL b;let A5:=ln A0;let A1:=λ(k0:Nat)=>Oq b (nth A0 k0) h;((rt A3 (.rf (List.length A0) (List.length A0) (λp=>[tAc b (nth A0 p)]) (λp=>v 4 (ad 4)::(2,4,live)::(7,0,T.fn 91 [] [T.d (D.rd [Ci h])])::v 5 (ad 5)::(2,5,live)::(8,0,T.fn 93 [] [])::v 8 (ad 8)::v 9 (ad 9)::v 6 (ad 6)::(bx 8 [Ci (enL A2 p),Ci (enH A2 p)]++(bx 9 [Cb (p != 0)]++bx 6 [Ci 0,Ci 0]))) (λk0=>rt (B true) (.ff (rt (I (A1 k0)) (.br .nil .nil)))) (.br .nil .nil))),(CR Gl 182 [tA (cPB b)] A3/\Yd.m yd0=0/\Nq (DO Gl) 287 [] [T.d (D.c (C.p [Ci b.1,Ci b.2,Ci b.3,Ci b.4,Ci b.5,Ci b.6,C.l eLine b.7]))] (λl=>Yd.mk l A5 A5 λp=>[tAc b (nth A0 p)]) A5 A5/\(91=91/\h=h/\93=93/\A4=enL A2 0/\A4=enH A2 0/\false=false/\A4=0/\A4=0)/\(∀(k0:Nat),k0<ln A0->k0<=ln A0->CR Gl 93 [tAc b (nth A0 k0)] (B true)/\false=false/\CR Gl 91 [tAc b (nth A0 k0),T.d (D.rd [Ci h])] (I (A1 k0))/\((!k0 != 0)=true->k0<ln A0/\91=91/\h=h/\93=93/\min (A1 k0) (A1 k0)=enL A2 (k0+1)/\max (A1 k0) (A1 k0)=enH A2 (k0+1)/\tt 1 (A4=0/\A4=0))/\((!k0 != 0)=false->k0<ln A0/\91=91/\h=h/\93=93/\min (enL A2 k0) (A1 k0)=enL A2 (k0+1)/\max (enH A2 k0) (A1 k0)=enH A2 (k0+1)/\tt 1 (A4=0/\A4=0)))/\(ln A0<=ln A0->((!ln A0 != 0)=true->A4=enL A2 A5/\A4=enH A2 A5/\(5:Int)=0)/\((!ln A0 != 0)=false->enL A2 A5=enL A2 A5/\enH A2 A5=enH A2 A5/\A4=0))))) func90 ?_;simp only[stdS,aL,aB,and_true]
 refine⟨Aim S b,λl=>Ain S b l _ _ n6 rfl,⟨rfl,rfl,trivial⟩,λk hk _=>⟨Bg6 S b _,Bg5 S b _ h n6 (Vb n6 hk).1 (Vb n6 hk).2,λe=>?_,λe=>?_⟩,λ_=>⟨λe=>?_,trivial⟩⟩
 ·have e2:(k==0)=true:=by grind
  exact⟨hk,by simp only[enL,e2,bA];rfl,by simp only[enH,e2,bA];rfl,trivial⟩
 ·have e2:(k==0)=false:=by grind
  exact⟨hk,by simp only[enL,e2,cC];rfl,by simp only[enH,e2,cC];rfl,trivial⟩
 grind
def total30 (S:SP Gl) (b:PBook) (h:Int) (n6:okPB b=true) (hn:0<(truthsL b).length) (hh:inR h 0 (b.hands - 1)=true):CR Gl 30 [.d (.agg (cPB b)),I h] (.tup [.agg (enS b h),.c (Ci 0)]):=by
 refine Ag S (let A2:=[D.agg (enS b h),D.c (Ci 0)];let A1:=ln (truthsL b);let A0:=(b.1-(1:Int));((rt (B true) (.sure 10 (.sure 11 (.sure 12 (.sure 13 (.val 14 true (.sure 14 (rt (B (inR h 0 A0)) (.sure 15 (.ff (rt (.tup A2) .nil))))))))))),(CR Gl 88 [tA (cPB b)] (B true)/\tt 4 (iR A0/\inR h 0 A0=true/\tt 1 (CR Gl 89 [I h,I 0,I A0] (B (inR h 0 A0))/\tt 1 (false=false/\CR Gl 90 [tA (cPB b),T.fn 91 [] [T.d (D.rd [Ci h])],T.fn 93 [] []] (.tup A2)/\enL (gT b h) A1=enL (gT b h) A1/\enH (gT b h) A1=enH (gT b h) A1/\(0:Int)=0)))))) func30 ?_;simp only[stdS,aL,aB,and_true];have hb:=(okPB_facts n6).1;grind[Ad,Arp,Lq,Bg7]
end Go.Vc.Zn.Py
namespace Go.Vc.Zn.Rm
open Go Go.Proofs Go.Vc Go.RowKit Tryz
variable {Gl:World->Prop}
def tC:List C:=[.u,Ci 0,.u,Ci 0,.u,Ci 0,.u,Ci 1,.u,Ci 2,.u,Ci 2,.u,Ci 2,.u,Ci 0,.u,Ci 0,.u,Ci 1,.u,Ci 0,.u,Ci 0,.u,Ci 0,.u,Ci 0,.u,Ci 0,.u,Ci 0,.u,Ci 0,.u,Ci 0,.u,Ci 3,.u,Ci 1,.u,Ci 1,.u,Ci 0]
theorem Vi (S:SP Gl)  :CR Gl 171 [] (.d (.agg tC)):=by
 refine Ag S (let P0:=λ(zz:Prop)=>(0:Int)=0/\(0:Int)=0/\zz;((.nil),(P0 ((0:Int)=0/\(1:Int)=1/\(2:Int)=2/\(2:Int)=2/\(2:Int)=2/\P0 ((1:Int)=1/\P0 (P0 (P0 (P0 ((3:Int)=3/\(1:Int)=1/\(1:Int)=1/\(0:Int)=0))))))))) func171 ?_;dsimp only;trivial
def aT:List T:=.d (.c (.v .nilFunc))::(List.range 21).map λi=>.fn (263+i) [] []
theorem Vj (S:SP Gl)  :CR Gl 173 [] (.ag aT):=by
 refine Ao S .nil (Value.nilFunc=Value.nilFunc/\263=263/\264=264/\265=265/\266=266/\267=267/\268=268/\269=269/\270=270/\271=271/\272=272/\273=273/\274=274/\275=275/\276=276/\277=277/\278=278/\279=279/\280=280/\281=281/\282=282/\283=283) func173 ?_;trivial
def Hx (s:St) (k:Nat):List Int:=((List.range k).filter λi:Nat=>!tkD s [(i:Int)]).map λi:Nat=>(i:Int)
def Bg8 (s:St) (k:Nat):(Hx s k).length<=k:=by
 grind[Hx]
def Art (s:St) (k:Nat):Hx s (k+1)=Hx s k++bif tkD s [(k:Int)] then [] else [(k:Int)]:=by
 grind[Hx,List.range_succ]
def Aj8 (s:St):List Int:=Hx s s.su.b.sheets.length
def Bg9 (S:SP Gl) (s:St) (h3:s.su.b.sheets.length<=1000):DO Gl yd0 264 [.addr FAR 0,L eI []] (stX s) (.ret (.tup [.c (.l eI (Aj8 s)),.c (Ci 0)])) []:=by
 refine Bs S (let A2:=λ(k0:Nat)=>Option.getD (s.3 k0) (Gvn.mk 0 0 0 0);let A1:=Gv.Book.sheets (Su.b (St.su s));let A0:=zC (List.take 15 (cS (s.1))) (s.2=s.2/\zM (tkD s) (tkV s) (zM (coD s) (coV s) (zM (riD s) (riV s) (MEq (paD s) (paV s) (paD s) (paV s)))));let P0:=λ(zz:Prop)=>(SEq s.1.6.7.length (λi=>Py.eLine (nth s.1.6.7 i)) s.1.6.7.length λi=>Py.eLine (nth s.1.6.7 i))/\zz;((.loop (List.length A1) (λk=>v 17 (I k)::v 16 (I (↑(List.length A1):Int))::v 0 (aF 0)::v 6 (Lt 900 eI (Hx s k))::tk 900 3::stX s) λk0=>.br (.br .nil .nil) .nil),(s.1.2.3.length<=maxLen->(lz s.1.2.3.length (0=0/\P0 A0))/\∀(k0:Nat),k0<=ln A1->(dt k0 s.1.2.3.length->(tkD s [(k0:Int)]=false->[Ci (A2 k0).1,Ci (A2 k0).2,Ci (A2 k0).3,Ci (A2 k0).4]=[Ci 0,Ci 0,Ci 0,Ci 0])/\((!tkD s [(k0:Int)])=true->cp (ln (Hx s k0)+1) (lq k0 (ln A1) ((s.1.2.3.length:Int)=s.1.2.3.length/\(SEq (ln (Hx s k0)+1) (An (ln (Hx s k0)) (λi=>eI (nth (Hx s k0) i)) (gD [mI k0])) (ln (Hx s (k0+1))) λi=>eI (nth (Hx s (k0+1)) i))/\P0 A0)))/\((!tkD s [(k0:Int)])=false->lq k0 (ln A1) ((s.1.2.3.length:Int)=s.1.2.3.length/\(sQ eI (Hx s k0) (Hx s (k0+1)))/\P0 A0)))/\(df k0 s.1.2.3.length->((sQ eI (Hx s k0) (Aj8 s))/\(0:Int)=0)/\P0 A0)))) func264 ?_;simp only[stdS,aL,aB,and_true,aN,aK,Ad,Ap,Fe];refine λ_ k hk=>⟨λhd=>⟨λe=>?_,λe=>?_,λe=>?_⟩,λhd=>?_⟩
 ·rw[Za e];rfl
 ·have h1:=Bg8 s k;have h2:=Art s k;rw[e]at h2;exact⟨by omega,by omega,by omega,by omega,by omega,Eb (f:=eI) (x:=(k:Int)) h2 rfl,trivial⟩
 ·have h2:=Art s k;rw[e,bA,dO]at h2;rw[h2];exact⟨by omega,by omega,by omega,.of ⟨rfl,λ_ _=>rfl⟩,trivial⟩
 ·obtain rfl:k=s.su.b.sheets.length:=by omega
  exact⟨⟨.of ⟨rfl,λ_ _=>rfl⟩,trivial⟩,trivial⟩
theorem Bga (S:SP Gl) (s:St) (h3:s.su.b.sheets.length<=1000):DO Gl yd0 376 [.d (.c (.v (.slice none 0 0))),.fn 320 [] [.pt (.addr FAR 0)]] (Fx s) (.ret (.d (.c (.l eI (Ai s))))) []:=by
 refine Bs S (let A0:=Ai s;((.w [(FAR,FAR),(FAS,FAS)] [T.pt (aF 0)] (Fx s) (Res.new (T.yl (nat_lit 0)) []) [] (.rf (List.length A0) (List.length A0) (λq=>[I (nth A0 q)]) (λq=>v 2 (ad 2)::(2,2,live)::(5,0,Lt 900 eI (List.take q A0))::tk 900 3::Fx s) (λk0=>.nil) .nil)),(Yd.m yd0=0/\(T.pt (T.addr 100000 0)=T.pt (T.addr 100000 0)/\ln A0<=ln A0/\(∀(l:Nat),DO Gl (Yd.mk l (ln A0) (ln A0) λq=>[I (nth A0 q)]) 320 [T.yl l,T.pt (aF 0)] (Fx s) (Res.new (T.yl l) []) [])/\∀(p:Nat),p<=ln A0->sR eI s.1.2.3/\MEq (riD s) (rvK s) (riD s) (rvK s))/\(0=0/\sR eI s.1.2.3/\MEq (riD s) (rvK s) (riD s) (rvK s))/\(∀(k0:Nat),k0<ln A0->k0<=ln A0->cp (ln (List.take k0 A0)+1) (k0<ln A0/\(SEq (ln (List.take k0 A0)+1) (An (ln (List.take k0 A0)) (λi=>eI (nth (List.take k0 A0) i)) (gD [mI (nth A0 k0)])) (ln (List.take (k0+1) A0)) λi=>eI (nth (List.take (k0+1) A0) i))/\sR eI s.1.2.3/\MEq (riD s) (rvK s) (riD s) (rvK s)))/\(sQ eI (List.take (ln A0) A0) A0)/\sR eI s.1.2.3/\MEq (riD s) (rvK s) (riD s) (rvK s)))) func376 ?_;simp only[stdS,aL,aB,and_true,aN,aK,Ad,Ap,Fe];have je:=Aiz s;have htl:∀k,k<=(Ai s).length->((Ai s).take k).length=k:=λk hk=>by grind
 refine⟨⟨aI _,λl=>Ad5 s l h3,trivial⟩,λk hk _=>⟨by grind,by grind,hk,Eb (f:=eI) (x:=nth (Ai s) k) ?_ rfl,trivial⟩,?_,trivial⟩
 ·grind[List.take_succ,Ge]
 ·rw[fQ];exact .of ⟨rfl,λ_ _=>rfl⟩
def Bgb (S:SP Gl) (s:St) (h3:s.su.b.sheets.length<=1000):DO Gl yd0 330 [.fn 320 [] [.pt (.addr FAR 0)]] (Fx s) (.ret (.d (.c (.l eI (Ai s))))) []:=by
 refine Bs S (let A0:=[T.d (D.c cN),T.fn 320 [] [T.pt (aF 0)]];((.w [(FAR,FAR),(FAS,FAS)] A0 (Fx s) (.ret (L eI (Ai s))) [] .nil),(Value.slice none 0 0=Value.slice none 0 0/\320=320/\T.pt (T.addr 100000 0)=T.pt (T.addr 100000 0)/\sR eI s.1.2.3/\zM (riD s) (rvK s) (DO Gl yd0 376 A0 (Fx s) (.ret (L eI (Ai s))) []/\(sR eI (Ai s))/\sR eI s.1.2.3/\MEq (riD s) (rvK s) (riD s) (rvK s))))) func330 ?_;simp only[stdS,aL,aB,and_true,aN,aK,Ad,Ap,Fe];grind[Bga]
def Bgc (S:SP Gl) (s:St) (h3:s.su.b.sheets.length<=1000):DO Gl yd0 269 [.addr FAR 0,L eI []] (stX s) (.ret (.tup [.c (.l eI (Ai s)),.c (Ci 0)])) []:=by
 refine Bs S (let A1:=[T.fn 320 [] [T.pt (aF 0)]];let A0:=Res.new (T.fn 320 [aF 0] []) [];((.w [(FAR,FAR)] [aF 0] [(2,FAR,live)] A0 [] (.w [(FAR,FAR),(FAS,FAU)] A1 (Fx s) (.ret (L eI (Ai s))) [] .nil)),(DO Gl yd0 247 [aF 0] [(2,FAR,live)] A0 []/\320=320/\T.pt (T.addr 100000 0)=T.pt (T.addr 100000 0)/\sR eI s.1.2.3/\MEq (riD s) (riV s) (riD s) (rvK s)/\DO Gl yd0 330 A1 (Fx s) (.ret (L eI (Ai s))) []/\((sR eI (Ai s))/\(0:Int)=0)/\(SEq s.1.6.7.length (λi=>Py.eLine (nth s.1.6.7 i)) s.1.6.7.length λi=>Py.eLine (nth s.1.6.7 i))/\zC (List.take 15 (cS (s.1))) (s.2=s.2/\zM (tkD s) (tkV s) (zM (coD s) (coV s) (MEq (riD s) (rvK s) (riD s) (riV s)/\MEq (paD s) (paV s) (paD s) (paV s))))))) func269 ?_;simp only[stdS,aL,aB,and_true,aN,aK,Ad,Ap,Fe];exact⟨Ad0 rfl FAR,Vg s,Bgb S s h3,Ze s,trivial⟩
structure NoOK (s:St):Prop where
 sheets:1<=s.su.b.sheets.length/\s.su.b.sheets.length<=1000
 rows:0<=s.su.p.rows/\s.su.p.rows<=12
 rl:∀a,(rv s a).length<=12
 plan:Bn s.su.p=true
 seen:Df.areSeen s.su.p (Dz s)=true
def Zf (s:St):Int:=(Df.agreeL s.su.p (Dz s)).length
def Bgd (S:SP Gl) (s:St) (W:NoOK s):DO Gl yd0 270 [.addr FAR 0,L eI []] (stX s) (.ret (.tup [.c (.l eI [Zf s]),.c (Ci 0)])) []:=by
 refine Bs S (let A0:=Dz s;let A1:=Df.agreeL (Su.p (St.su s)) A0;((.k (.w [(FAR,FAR),(FAS,FAU)] [aF 0] (Sj s (riD s) (riV s)) (.ret (L Df.eSeen A0)) [] (rt (.tup [D.c (Ci (↑(List.length A1):Int)),D.c (Ci 0)]) .nil))),(.tup []=T.tup []/\T.d (D.c (Ci s.1.1.2))=T.d (D.c (Ci s.1.1.2))/\(L eI s.1.2.3)=(L eI s.1.2.3)/\T.mp 100003=T.mp 100003/\T.mapc false 0 false (riD s) (riV s)=T.mapc false 0 false (riD s) (riV s)/\s.1.1.2=s.1.1.2/\sR eI s.1.2.3/\zM (riD s) (riV s) (DO Gl yd0 158 [aF 0] (Sj s (riD s) (riV s)) (.ret (L Df.eSeen A0)) []/\CR Gl 248 [Cn (Su.p (St.su s)),L Df.eSeen A0] (.tup [D.c (Ci (↑(ln A1):Int)),D.c (Ci 0)])/\((SEq 1 (gD [mI (↑(ln (Df.agreeL s.1.1 A0)):Int)]) (List.length [Zf s]) λi=>eI (nth [Zf s] i))/\(0:Int)=0)/\(SEq s.1.6.7.length (λi=>Py.eLine (nth s.1.6.7 i)) s.1.6.7.length λi=>Py.eLine (nth s.1.6.7 i))/\zC (List.take 15 (cS (s.1))) (s.2=s.2/\zM (tkD s) (tkV s) (zM (coD s) (coV s) (zM (riD s) (riV s) (MEq (paD s) (paV s) (paD s) (paV s))))))))) func270 ?_;simp only[stdS,aL,aB,and_true,aN,aK,Ad,Ap,Fe];exact⟨Aj5 S s W.sheets W.rows W.rl (Ze s) (Vg s),Df.agree248 S s.su.p (Dz s) W.plan W.seen,⟨.of ⟨rfl,λi hi=>match i,hi with|0,_=>rfl⟩,trivial⟩,trivial⟩
theorem Bge (S:SP Gl) (s:St) (i:Nat) (A:List (List Int)) (W:NoOK s) (hA:Df.agreeL s.su.p (Dz s)=A) (h1:((A.length:Int)==0)=false) (hi:inR (i:Int) 0 ((s.su.p.starts.length:Int) - 1)=true):DO Gl yd0 271 [.addr FAR 0,L eI [(i:Int)]] (stX s) (.ret (.tup [.c (.l eI [(nth (Df.knUp A s.su.p.starts.length) i).lo,(nth (Df.knUp A s.su.p.starts.length) i).hi]),.c (Ci 0)])) []:=by
 refine Bs S (let A7:=((0:Int)<=0/\0<(↑(1:Nat):Int));let A4:=λ(i:Nat)=>nth [(i:Int)] (Int.toNat 0);let A3:=((s.1.1.1.length:Int)-1);let A2:=Df.knUp A s.1.1.1.length;let A1:=zC (List.take 15 (cS (s.1))) (s.2=s.2/\zM (tkD s) (tkV s) (zM (coD s) (coV s) (zM (riD s) (riV s) (MEq (paD s) (paV s) (paD s) (paV s)))));let A0:=Plan.starts (Su.p (St.su s));let A6:=Df.knUp A (ln A0);let A5:=Df.knUp A (List.length A0);let P0:=λ(zz:Prop)=>(SEq s.1.6.7.length (λi=>Py.eLine (nth s.1.6.7 i)) s.1.6.7.length λi=>Py.eLine (nth s.1.6.7 i))/\zz;((rt (B (inR (A4 i) 0 A3)) (.br .nil (.k (.w [(FAR,FAR),(FAS,FAU)] [aF 0] (Sj s (riD s) (riV s)) (.ret (L Df.eSeen (Dz s))) [] (rt (.tup [D.c (C.l Ae A5),D.c (Ci 0)]) (.ff (rt (L eI [Span.lo (nth A5 i),Span.hi (nth A5 i)]) .nil))))))),(A7/\(s.1.1.1.length<=maxLen->iR A3/\CR Gl 143 [I (A4 i),I 0,I A3] (B (inR (A4 i) 0 A3))/\((!inR (A4 i) (0:Int) A3)=true->(2=0/\(2:Int)=0)/\P0 A1)/\((!inR (A4 i) (0:Int) A3)=false->T.tup []=T.tup []/\T.d (D.c (Ci s.1.1.2))=T.d (D.c (Ci s.1.1.2))/\(L eI s.1.2.3)=(L eI s.1.2.3)/\T.mp 100003=T.mp 100003/\T.mapc false 0 false (riD s) (riV s)=T.mapc false 0 false (riD s) (riV s)/\s.1.1.2=s.1.1.2/\sR eI s.1.2.3/\zM (riD s) (riV s) (DO Gl yd0 158 [aF 0] (Sj s (riD s) (riV s)) (.ret (L Df.eSeen (Dz s))) []/\CR Gl 331 [Cn (Su.p (St.su s)),L Df.eSeen (Dz s)] (.tup [D.c (C.l Ae A6),D.c (Ci 0)])/\false=false/\A7/\((0:Int)<=nth [(i:Int)] (Int.toNat 0)/\nth [(i:Int)] (Int.toNat 0)<(ln A2:Int))/\CR Gl 332 [tA (Ae (nth A6 i))] (L eI [Span.lo (nth A6 i),Span.hi (nth A6 i)])/\((SEq 2 (λi_1=>eI (nth [(nth A2 i).1,(nth A2 i).2] i_1)) (List.length [(nth A2 i).1,(nth A2 i).2]) λi_1=>eI (nth [(nth A2 i).1,(nth A2 i).2] i_1))/\(0:Int)=0)/\P0 A1)))))) func271 ?_
 simp only[stdS,aL,aB,and_true,aN,aK,Ad,Ap,Fe];have h2:=Bi.1 hi;have je:=plan_len W.plan;have hkl:(Df.knUp A s.su.p.starts.length).length=s.su.p.starts.length:=Df.knUp_len A _;have e:nth [(i:Int)] (Int.toNat 0)=i:=rfl;rw[e,hkl,hi];refine⟨by simp,λ_=>⟨by omega,Iv S _ _ _ |> λh=>(by rw[hi]at h;exact h),λh=>(by cases h),λ_=>⟨Aj5 S s W.sheets W.rows W.rl (Ze s) (Vg s),Df.known331 S s.su.p (Dz s) A W.plan W.seen hA h1,by simp,by omega,Df.ends332 S _,?_⟩⟩⟩;exact⟨⟨.of ⟨rfl,λ_ _=>rfl⟩,trivial⟩,trivial⟩
def Bgf (S:SP Gl) (s:St) (h:Int) (n6:Py.okPB s.su.y=true) (hn:0<(Py.truthsL s.su.y).length) (hh:inR h 0 (s.su.y.hands - 1)=true):DO Gl yd0 281 [.addr FAR 0,L eI [h]] (stX s) (.ret (.tup [.c (.l eI [Py.enL (Py.gT s.su.y h) (Py.truthsL s.su.y).length,Py.enH (Py.gT s.su.y h) (Py.truthsL s.su.y).length]),.c (Ci 0)])) []:=by
 refine Bs S (let A2:=Su.y (St.su s);let A6:=Py.gT A2 h;let A5:=[D.agg (Py.enS A2 h),D.c (Ci 0)];let A4:=Py.truthsL A2;let A3:=Span.mk (Py.enL A6 (List.length A4)) (Py.enH A6 (List.length A4));let A1:=[Py.enL (Py.gT s.1.6 h) (ln (Py.truthsL s.1.6)),Py.enH (Py.gT s.1.6 h) (ln (Py.truthsL s.1.6))];let A0:=Span.mk (Py.enL A6 (ln A4)) (Py.enH A6 (ln A4));((rt (.tup A5) (.ff (rt (L eI [Span.lo A3,Span.hi A3]) .nil))),(((0:Int)<=0/\0<(↑(1:Nat):Int))/\CR Gl 30 [tA (Py.cPB A2),I h] (.tup A5)/\false=false/\CR Gl 332 [tA (Ae A0)] (L eI [Span.lo A0,Span.hi A0])/\((SEq 2 (λi=>eI (nth A1 i)) (List.length A1) λi=>eI (nth A1 i))/\(0:Int)=0)/\(SEq s.1.6.7.length (λi=>Py.eLine (nth s.1.6.7 i)) s.1.6.7.length λi=>Py.eLine (nth s.1.6.7 i))/\zC (List.take 15 (cS (s.1))) (s.2=s.2/\zM (tkD s) (tkV s) (zM (coD s) (coV s) (zM (riD s) (riV s) (MEq (paD s) (paV s) (paD s) (paV s)))))))) func281 ?_;simp only[stdS,aL,aB,and_true,aN,aK,Ad,Ap,Fe];exact⟨by simp,Py.total30 S s.su.y h n6 hn hh,Df.ends332 S ⟨Py.enL (Py.gT s.su.y h) (Py.truthsL s.su.y).length,Py.enH (Py.gT s.su.y h) (Py.truthsL s.su.y).length⟩,⟨.of ⟨rfl,λ_ _=>rfl⟩,trivial⟩,trivial⟩
def Aru (S:SP Gl) (s:St) (h:Int) (hc:inR h 0 ((s.su.b.comps.length:Int) - 1)=true) (h3:s.su.b.sheets.length<=1000) (hcc:∀a,Ep s a h=true->riD s [a]=true->coD s [a,h]=true) (hn:∀a,Qf s h a<=12):DO Gl yd0 282 [.addr FAR 0,L eI [h]] (stX s) (.ret (.tup [.c (.l eI [((Er s h (Ai s).length).length:Int),(Dc s h (Ai s).length:Int)]),.c (Ci 0)])) []:=by
 refine Bs S (let A4:=((0:Int)<=0/\0<(↑(1:Nat):Int));let A3:=tA (Py.eLine (Si s h 0 0));let A2:=(↑(Dc s h (ln (Ai s))):Int);let A1:=(↑(ln (Er s h (ln (Ai s)))):Int);let A0:=Gv.Book.comps (Su.b (St.su s));((.val 11 true (.w [(FAR,FAR)] [aF 0,I h] [(2,FAR,live),(FAR+3,3,L Gv.eComp A0)] (.ret (B (inR h 0 ((↑(List.length A0):Int)-1)))) [] (.ff (.w [(FAR,FAR),(FAS,FAS),(FAT,FAT),(FAU,FAU),(nat_lit 100004,nat_lit 100004)] [aF 0,I h,I 0,I 0] (Ve s) (.ret A3) [] .nil)))),(A4/\inR h 0 ((s.1.2.1.length:Int)-1)=true/\nth [h] (Int.toNat 0)=h/\(SEq s.1.2.1.length (λi=>Gv.eComp (nth s.1.2.1 i)) s.1.2.1.length λi=>Gv.eComp (nth s.1.2.1 i))/\DO Gl yd0 245 [aF 0,I h] [(2,FAR,live),(FAR+3,3,L Gv.eComp A0)] (.ret (B (inR h 0 ((↑(ln A0):Int)-1)))) []/\false=false/\A4/\nth [h] (Int.toNat 0)=h/\(0:Int)=0/\(0:Int)=0/\sR eI s.1.2.3/\zM (tkD s) (tkV s) (MEq (coD s) (coV s) (coD s) (cvK s)/\MEq (riD s) (riV s) (riD s) (rvK s)/\zM (paD s) (paV s) (DO Gl yd0 246 [aF 0,I h,I 0,I 0] (Ve s) (.ret A3) []/\((SEq 2 (gD [mI A1,mI A2]) (List.length [A1,A2]) λi=>eI (nth [A1,A2] i))/\(0:Int)=0)/\(SEq s.1.6.7.length (λi=>Py.eLine (nth s.1.6.7 i)) s.1.6.7.length λi=>Py.eLine (nth s.1.6.7 i))/\zC (List.take 15 (cS (s.1))) (s.2=s.2/\zM (tkD s) (tkV s) (MEq (coD s) (cvK s) (coD s) (coV s)/\MEq (riD s) (rvK s) (riD s) (riV s)/\MEq (paD s) (paV s) (paD s) (paV s)))))))) func282 ?_;simp only[stdS,aL,aB,and_true,aN,aK,Ad,Ap,Fe];have h1:=Arf S s h
 exact⟨by simp,hc,rfl,h1,by simp,rfl,(Vh s).1,Vg s,Are S s h 0 0 h3 hcc hn,⟨.of ⟨rfl,λi hi=>match i,hi with|0,_=>rfl|1,_=>rfl⟩,trivial⟩,(Vh s).2,Ze s,trivial⟩
def pre0 (su:Su) (x:T) (k:Int) (nums:List Int):Env:=(2,FAR,live)::(FAR+3,0,I k)::(FAR+3,1,L eI nums)::(2,FAR+1,live)::(FAR+4,0,.addr (FAR+4) 0)::(2,FAR+2,live)::(2,FAR+3,live)::(2,FAR+4,live)::(FAR+7,16,x)::Dt (FAR+4) 0 (cS su)
def Ej (su:Su) (x:T) (k:Int) (nums:List Int):Env:=(FAR+5,0,.d (.c (.v (.slice none 0 0))))::(FAR+6,0,I 0)::pre0 su x k nums
def Ek (out:List Int):Env:=[(FAR+5,0,L eI out),(FAR+6,0,I 0)]
abbrev Gu:T:=.fn 172 [] [.addr FAR 0,.addr (FAR+1) 0,.addr (FAR+2) 0,.addr (FAR+3) 0]
def asks2 (S:SP Gl) (su:Su) (nn:List Int) (l:List Ent) (s:St) (nums:List Int) (out:List Int) (hn:CO Gl 73 [.d (.agg (cS su)),.d (.c (.l Ab l))] (Ex nn s)) (hq:DO Gl yd0 264 [.addr FAR 0,L eI nums] (stX s) (.ret (.tup [.c (.l eI out),.c (Ci 0)])) []):DO Gl yd0 172 [.addr FAR 0,.addr (FAR+1) 0,.addr (FAR+2) 0,.addr (FAR+3) 0] (Ej su (.d (.c (.l Ab l))) 2 nums) (.ret (.tup [])) (Ek out):=by
 refine Fp S (rt (T.ag aT) (.n [(nat_lit 10010,nat_lit 18010),(nat_lit 10005,nat_lit 18005),(nat_lit 10006,nat_lit 18006),(nat_lit 10007,nat_lit 18007),(nat_lit 10008,nat_lit 18008)] (Ex nn s) (.w [(FAR,nat_lit 18010),(FAS,nat_lit 18005),(FAT,nat_lit 18006),(FAU,nat_lit 18007),(nat_lit 100004,nat_lit 18008)] [aF 0,L eI nums] (stX s) (.ret (.tup [D.c (C.l eI out),D.c (Ci 0)])) [] .nil))) (CR Gl 173 [] (T.ag aT)/\((0:Int)<=2/\2<(↑(22:Nat):Int))/\CO Gl 73 [tA (cS su),L Ab l] (Ex nn s)/\sR eI nums/\(SEq s.1.6.7.length (λi=>Py.eLine (nth s.1.6.7 i)) s.1.6.7.length λi=>Py.eLine (nth s.1.6.7 i))/\zC (List.take 15 (cS (s.1))) (s.2=s.2/\zM (tkD s) (tkV s) (zM (coD s) (coV s) (zM (riD s) (riV s) (zM (paD s) (paV s) (DO Gl yd0 264 [aF 0,L eI nums] (stX s) (.ret (.tup [D.c (C.l eI out),D.c (Ci 0)])) []/\True/\sR eI out/\(0:Int)=0/\(2:Int)=2/\sR eI nums/\sR Ab l/\zC (List.take 15 (cS (su))) (SEq su.6.7.length (λi=>Py.eLine (nth su.6.7 i)) su.6.7.length λi=>Py.eLine (nth su.6.7 i)))))))) func172 ?_;simp only[stdS,aL,aB,and_true,Fe];grind[Vj]
def ask2 (S:SP Gl) (su:Su) (l:List Ent) (nums:List Int) (out:List Int) (hm:((nums.length:Int) != 0)=false) (h:DO Gl yd0 71 [Gu] (Ej su (.d (.c (.l Ab l))) 2 nums) (.ret (I 0)) (Ek out)):DO Gl yd0 85 [.addr FAR 0,.d (.agg [Ci 2,.l eI nums])] (Ay su (.d (.c (.l Ab l)))) (.ret (.tup [.c (.l eI out),.c (Ci 0)])) []:=by
 refine Fp S (.w [(FAR,FAR)] [aF 0] [(2,FAR,live),(FAR+3,17,B true)] (.ret (B true)) [] (.ff (rt (B (inR 2 1 21)) (.sure 17 (.sure 18 (.sure 19 (.sure 20 (rt (tA tC) (.sure 21 (.sure 22 (.sure 23 (.sure 24 (.val 25 false (.sure 25 (.ff (.w [(FAR,nat_lit 3),(FAS,nat_lit 2),(FAT,nat_lit 6),(FAU,nat_lit 7),(nat_lit 100004,FAR)] [Gu] (Ej su (L Ab l) 2 nums) (.ret (I 0)) (Ek out) (.sure 32 (.sure 33 (.ff .nil))))))))))))))))))) (tt 1 (DO Gl yd0 67 [aF 0] [(2,FAR,live),(FAR+3,17,B true)] (.ret (B true)) []/\false=false/\CR Gl 143 [I 2,I 1,I 21] (B (inR 2 1 21))/\tt 3 ((nums.length<=maxLen->tt 1 (CR Gl 171 [] (tA tC)/\tt 3 (((0:Int)<=2/\2<(↑(22:Nat):Int))/\tt 1 (((nums.length:Int) != (0:Int))=false/\tt 1 (false=false/\172=172/\Value.slice none 0 0=Value.slice none 0 0/\(0:Int)=0/\(2:Int)=2/\sR eI nums/\sR Ab l/\zC (cS (su)) (DO Gl yd0 71 [Gu] (Ej su (L Ab l) 2 nums) (.ret (I 0)) (Ek out)/\tt 2 (false=false/\(sR eI out/\(0:Int)=0)/\sR Ab l/\tt 1 (zC (List.take 15 (cS (su))) (SEq su.6.7.length (λi=>Py.eLine (nth su.6.7 i)) su.6.7.length λi=>Py.eLine (nth su.6.7 i))))))))))))) func85 ?_;simp only[stdS,aL,aB,and_true];grind[Qd,Iv,Vi]
def asks7 (S:SP Gl) (su:Su) (nn:List Int) (l:List Ent) (s:St) (nums:List Int) (out:List Int) (hn:CO Gl 73 [.d (.agg (cS su)),.d (.c (.l Ab l))] (Ex nn s)) (hq:DO Gl yd0 269 [.addr FAR 0,L eI nums] (stX s) (.ret (.tup [.c (.l eI out),.c (Ci 0)])) []):DO Gl yd0 172 [.addr FAR 0,.addr (FAR+1) 0,.addr (FAR+2) 0,.addr (FAR+3) 0] (Ej su (.d (.c (.l Ab l))) 7 nums) (.ret (.tup [])) (Ek out):=by
 refine Fp S (rt (T.ag aT) (.n [(nat_lit 10010,nat_lit 18010),(nat_lit 10005,nat_lit 18005),(nat_lit 10006,nat_lit 18006),(nat_lit 10007,nat_lit 18007),(nat_lit 10008,nat_lit 18008)] (Ex nn s) (.w [(FAR,nat_lit 18010),(FAS,nat_lit 18005),(FAT,nat_lit 18006),(FAU,nat_lit 18007),(nat_lit 100004,nat_lit 18008)] [aF 0,L eI nums] (stX s) (.ret (.tup [D.c (C.l eI out),D.c (Ci 0)])) [] .nil))) (CR Gl 173 [] (T.ag aT)/\((0:Int)<=7/\7<(↑(22:Nat):Int))/\CO Gl 73 [tA (cS su),L Ab l] (Ex nn s)/\sR eI nums/\(SEq s.1.6.7.length (λi=>Py.eLine (nth s.1.6.7 i)) s.1.6.7.length λi=>Py.eLine (nth s.1.6.7 i))/\zC (List.take 15 (cS (s.1))) (s.2=s.2/\zM (tkD s) (tkV s) (zM (coD s) (coV s) (zM (riD s) (riV s) (zM (paD s) (paV s) (DO Gl yd0 269 [aF 0,L eI nums] (stX s) (.ret (.tup [D.c (C.l eI out),D.c (Ci 0)])) []/\True/\sR eI out/\(0:Int)=0/\(7:Int)=7/\sR eI nums/\sR Ab l/\zC (List.take 15 (cS (su))) (SEq su.6.7.length (λi=>Py.eLine (nth su.6.7 i)) su.6.7.length λi=>Py.eLine (nth su.6.7 i)))))))) func172 ?_;simp only[stdS,aL,aB,and_true,Fe];grind[Vj]
def ask7 (S:SP Gl) (su:Su) (l:List Ent) (nums:List Int) (out:List Int) (hm:((nums.length:Int) != 0)=false) (h:DO Gl yd0 71 [Gu] (Ej su (.d (.c (.l Ab l))) 7 nums) (.ret (I 0)) (Ek out)):DO Gl yd0 85 [.addr FAR 0,.d (.agg [Ci 7,.l eI nums])] (Ay su (.d (.c (.l Ab l)))) (.ret (.tup [.c (.l eI out),.c (Ci 0)])) []:=by
 refine Fp S (.w [(FAR,FAR)] [aF 0] [(2,FAR,live),(FAR+3,17,B true)] (.ret (B true)) [] (.ff (rt (B (inR 7 1 21)) (.sure 17 (.sure 18 (.sure 19 (.sure 20 (rt (tA tC) (.sure 21 (.sure 22 (.sure 23 (.sure 24 (.val 25 false (.sure 25 (.ff (.w [(FAR,nat_lit 3),(FAS,nat_lit 2),(FAT,nat_lit 6),(FAU,nat_lit 7),(nat_lit 100004,FAR)] [Gu] (Ej su (L Ab l) 7 nums) (.ret (I 0)) (Ek out) (.sure 32 (.sure 33 (.ff .nil))))))))))))))))))) (tt 1 (DO Gl yd0 67 [aF 0] [(2,FAR,live),(FAR+3,17,B true)] (.ret (B true)) []/\false=false/\CR Gl 143 [I 7,I 1,I 21] (B (inR 7 1 21))/\tt 3 ((nums.length<=maxLen->tt 1 (CR Gl 171 [] (tA tC)/\tt 3 (((0:Int)<=7/\7<(↑(22:Nat):Int))/\tt 1 (((nums.length:Int) != (0:Int))=false/\tt 1 (false=false/\172=172/\Value.slice none 0 0=Value.slice none 0 0/\(0:Int)=0/\(7:Int)=7/\sR eI nums/\sR Ab l/\zC (cS (su)) (DO Gl yd0 71 [Gu] (Ej su (L Ab l) 7 nums) (.ret (I 0)) (Ek out)/\tt 2 (false=false/\(sR eI out/\(0:Int)=0)/\sR Ab l/\tt 1 (zC (List.take 15 (cS (su))) (SEq su.6.7.length (λi=>Py.eLine (nth su.6.7 i)) su.6.7.length λi=>Py.eLine (nth su.6.7 i))))))))))))) func85 ?_;simp only[stdS,aL,aB,and_true];grind[Qd,Iv,Vi]
def asks8 (S:SP Gl) (su:Su) (nn:List Int) (l:List Ent) (s:St) (nums:List Int) (out:List Int) (hn:CO Gl 73 [.d (.agg (cS su)),.d (.c (.l Ab l))] (Ex nn s)) (hq:DO Gl yd0 270 [.addr FAR 0,L eI nums] (stX s) (.ret (.tup [.c (.l eI out),.c (Ci 0)])) []):DO Gl yd0 172 [.addr FAR 0,.addr (FAR+1) 0,.addr (FAR+2) 0,.addr (FAR+3) 0] (Ej su (.d (.c (.l Ab l))) 8 nums) (.ret (.tup [])) (Ek out):=by
 refine Fp S (rt (T.ag aT) (.n [(nat_lit 10010,nat_lit 18010),(nat_lit 10005,nat_lit 18005),(nat_lit 10006,nat_lit 18006),(nat_lit 10007,nat_lit 18007),(nat_lit 10008,nat_lit 18008)] (Ex nn s) (.w [(FAR,nat_lit 18010),(FAS,nat_lit 18005),(FAT,nat_lit 18006),(FAU,nat_lit 18007),(nat_lit 100004,nat_lit 18008)] [aF 0,L eI nums] (stX s) (.ret (.tup [D.c (C.l eI out),D.c (Ci 0)])) [] .nil))) (CR Gl 173 [] (T.ag aT)/\((0:Int)<=8/\8<(↑(22:Nat):Int))/\CO Gl 73 [tA (cS su),L Ab l] (Ex nn s)/\sR eI nums/\(SEq s.1.6.7.length (λi=>Py.eLine (nth s.1.6.7 i)) s.1.6.7.length λi=>Py.eLine (nth s.1.6.7 i))/\zC (List.take 15 (cS (s.1))) (s.2=s.2/\zM (tkD s) (tkV s) (zM (coD s) (coV s) (zM (riD s) (riV s) (zM (paD s) (paV s) (DO Gl yd0 270 [aF 0,L eI nums] (stX s) (.ret (.tup [D.c (C.l eI out),D.c (Ci 0)])) []/\True/\sR eI out/\(0:Int)=0/\(8:Int)=8/\sR eI nums/\sR Ab l/\zC (List.take 15 (cS (su))) (SEq su.6.7.length (λi=>Py.eLine (nth su.6.7 i)) su.6.7.length λi=>Py.eLine (nth su.6.7 i)))))))) func172 ?_;simp only[stdS,aL,aB,and_true,Fe];grind[Vj]
def ask8 (S:SP Gl) (su:Su) (l:List Ent) (nums:List Int) (out:List Int) (hm:((nums.length:Int) != 0)=false) (h:DO Gl yd0 71 [Gu] (Ej su (.d (.c (.l Ab l))) 8 nums) (.ret (I 0)) (Ek out)):DO Gl yd0 85 [.addr FAR 0,.d (.agg [Ci 8,.l eI nums])] (Ay su (.d (.c (.l Ab l)))) (.ret (.tup [.c (.l eI out),.c (Ci 0)])) []:=by
 refine Fp S (.w [(FAR,FAR)] [aF 0] [(2,FAR,live),(FAR+3,17,B true)] (.ret (B true)) [] (.ff (rt (B (inR 8 1 21)) (.sure 17 (.sure 18 (.sure 19 (.sure 20 (rt (tA tC) (.sure 21 (.sure 22 (.sure 23 (.sure 24 (.val 25 false (.sure 25 (.ff (.w [(FAR,nat_lit 3),(FAS,nat_lit 2),(FAT,nat_lit 6),(FAU,nat_lit 7),(nat_lit 100004,FAR)] [Gu] (Ej su (L Ab l) 8 nums) (.ret (I 0)) (Ek out) (.sure 32 (.sure 33 (.ff .nil))))))))))))))))))) (tt 1 (DO Gl yd0 67 [aF 0] [(2,FAR,live),(FAR+3,17,B true)] (.ret (B true)) []/\false=false/\CR Gl 143 [I 8,I 1,I 21] (B (inR 8 1 21))/\tt 3 ((nums.length<=maxLen->tt 1 (CR Gl 171 [] (tA tC)/\tt 3 (((0:Int)<=8/\8<(↑(22:Nat):Int))/\tt 1 (((nums.length:Int) != (0:Int))=false/\tt 1 (false=false/\172=172/\Value.slice none 0 0=Value.slice none 0 0/\(0:Int)=0/\(8:Int)=8/\sR eI nums/\sR Ab l/\zC (cS (su)) (DO Gl yd0 71 [Gu] (Ej su (L Ab l) 8 nums) (.ret (I 0)) (Ek out)/\tt 2 (false=false/\(sR eI out/\(0:Int)=0)/\sR Ab l/\tt 1 (zC (List.take 15 (cS (su))) (SEq su.6.7.length (λi=>Py.eLine (nth su.6.7 i)) su.6.7.length λi=>Py.eLine (nth su.6.7 i))))))))))))) func85 ?_;simp only[stdS,aL,aB,and_true];grind[Qd,Iv,Vi]
def asks9 (S:SP Gl) (su:Su) (nn:List Int) (l:List Ent) (s:St) (nums:List Int) (out:List Int) (hn:CO Gl 73 [.d (.agg (cS su)),.d (.c (.l Ab l))] (Ex nn s)) (hq:DO Gl yd0 271 [.addr FAR 0,L eI nums] (stX s) (.ret (.tup [.c (.l eI out),.c (Ci 0)])) []):DO Gl yd0 172 [.addr FAR 0,.addr (FAR+1) 0,.addr (FAR+2) 0,.addr (FAR+3) 0] (Ej su (.d (.c (.l Ab l))) 9 nums) (.ret (.tup [])) (Ek out):=by
 refine Fp S (rt (T.ag aT) (.n [(nat_lit 10010,nat_lit 18010),(nat_lit 10005,nat_lit 18005),(nat_lit 10006,nat_lit 18006),(nat_lit 10007,nat_lit 18007),(nat_lit 10008,nat_lit 18008)] (Ex nn s) (.w [(FAR,nat_lit 18010),(FAS,nat_lit 18005),(FAT,nat_lit 18006),(FAU,nat_lit 18007),(nat_lit 100004,nat_lit 18008)] [aF 0,L eI nums] (stX s) (.ret (.tup [D.c (C.l eI out),D.c (Ci 0)])) [] .nil))) (CR Gl 173 [] (T.ag aT)/\((0:Int)<=9/\9<(↑(22:Nat):Int))/\CO Gl 73 [tA (cS su),L Ab l] (Ex nn s)/\sR eI nums/\(SEq s.1.6.7.length (λi=>Py.eLine (nth s.1.6.7 i)) s.1.6.7.length λi=>Py.eLine (nth s.1.6.7 i))/\zC (List.take 15 (cS (s.1))) (s.2=s.2/\zM (tkD s) (tkV s) (zM (coD s) (coV s) (zM (riD s) (riV s) (zM (paD s) (paV s) (DO Gl yd0 271 [aF 0,L eI nums] (stX s) (.ret (.tup [D.c (C.l eI out),D.c (Ci 0)])) []/\True/\sR eI out/\(0:Int)=0/\(9:Int)=9/\sR eI nums/\sR Ab l/\zC (List.take 15 (cS (su))) (SEq su.6.7.length (λi=>Py.eLine (nth su.6.7 i)) su.6.7.length λi=>Py.eLine (nth su.6.7 i)))))))) func172 ?_;simp only[stdS,aL,aB,and_true,Fe];grind[Vj]
def ask9 (S:SP Gl) (su:Su) (l:List Ent) (nums:List Int) (out:List Int) (hm:((nums.length:Int) != 1)=false) (h:DO Gl yd0 71 [Gu] (Ej su (.d (.c (.l Ab l))) 9 nums) (.ret (I 0)) (Ek out)):DO Gl yd0 85 [.addr FAR 0,.d (.agg [Ci 9,.l eI nums])] (Ay su (.d (.c (.l Ab l)))) (.ret (.tup [.c (.l eI out),.c (Ci 0)])) []:=by
 refine Fp S (.w [(FAR,FAR)] [aF 0] [(2,FAR,live),(FAR+3,17,B true)] (.ret (B true)) [] (.ff (rt (B (inR 9 1 21)) (.sure 17 (.sure 18 (.sure 19 (.sure 20 (rt (tA tC) (.sure 21 (.sure 22 (.sure 23 (.sure 24 (.val 25 false (.sure 25 (.ff (.w [(FAR,nat_lit 3),(FAS,nat_lit 2),(FAT,nat_lit 6),(FAU,nat_lit 7),(nat_lit 100004,FAR)] [Gu] (Ej su (L Ab l) 9 nums) (.ret (I 0)) (Ek out) (.sure 32 (.sure 33 (.ff .nil))))))))))))))))))) (tt 1 (DO Gl yd0 67 [aF 0] [(2,FAR,live),(FAR+3,17,B true)] (.ret (B true)) []/\false=false/\CR Gl 143 [I 9,I 1,I 21] (B (inR 9 1 21))/\tt 3 ((nums.length<=maxLen->tt 1 (CR Gl 171 [] (tA tC)/\tt 3 (((0:Int)<=9/\9<(↑(22:Nat):Int))/\tt 1 (((nums.length:Int) != (1:Int))=false/\tt 1 (false=false/\172=172/\Value.slice none 0 0=Value.slice none 0 0/\(0:Int)=0/\(9:Int)=9/\sR eI nums/\sR Ab l/\zC (cS (su)) (DO Gl yd0 71 [Gu] (Ej su (L Ab l) 9 nums) (.ret (I 0)) (Ek out)/\tt 2 (false=false/\(sR eI out/\(0:Int)=0)/\sR Ab l/\tt 1 (zC (List.take 15 (cS (su))) (SEq su.6.7.length (λi=>Py.eLine (nth su.6.7 i)) su.6.7.length λi=>Py.eLine (nth su.6.7 i))))))))))))) func85 ?_;simp only[stdS,aL,aB,and_true];grind[Qd,Iv,Vi]
def Bgg (S:SP Gl) (su:Su) (nn:List Int) (l:List Ent) (s:St) (nums:List Int) (out:List Int) (hn:CO Gl 73 [.d (.agg (cS su)),.d (.c (.l Ab l))] (Ex nn s)) (hq:DO Gl yd0 281 [.addr FAR 0,L eI nums] (stX s) (.ret (.tup [.c (.l eI out),.c (Ci 0)])) []):DO Gl yd0 172 [.addr FAR 0,.addr (FAR+1) 0,.addr (FAR+2) 0,.addr (FAR+3) 0] (Ej su (.d (.c (.l Ab l))) 19 nums) (.ret (.tup [])) (Ek out):=by
 refine Fp S (rt (T.ag aT) (.n [(nat_lit 10010,nat_lit 18010),(nat_lit 10005,nat_lit 18005),(nat_lit 10006,nat_lit 18006),(nat_lit 10007,nat_lit 18007),(nat_lit 10008,nat_lit 18008)] (Ex nn s) (.w [(FAR,nat_lit 18010),(FAS,nat_lit 18005),(FAT,nat_lit 18006),(FAU,nat_lit 18007),(nat_lit 100004,nat_lit 18008)] [aF 0,L eI nums] (stX s) (.ret (.tup [D.c (C.l eI out),D.c (Ci 0)])) [] .nil))) (CR Gl 173 [] (T.ag aT)/\((0:Int)<=19/\19<(↑(22:Nat):Int))/\CO Gl 73 [tA (cS su),L Ab l] (Ex nn s)/\sR eI nums/\(SEq s.1.6.7.length (λi=>Py.eLine (nth s.1.6.7 i)) s.1.6.7.length λi=>Py.eLine (nth s.1.6.7 i))/\zC (List.take 15 (cS (s.1))) (s.2=s.2/\zM (tkD s) (tkV s) (zM (coD s) (coV s) (zM (riD s) (riV s) (zM (paD s) (paV s) (DO Gl yd0 281 [aF 0,L eI nums] (stX s) (.ret (.tup [D.c (C.l eI out),D.c (Ci 0)])) []/\True/\sR eI out/\(0:Int)=0/\(19:Int)=19/\sR eI nums/\sR Ab l/\zC (List.take 15 (cS (su))) (SEq su.6.7.length (λi=>Py.eLine (nth su.6.7 i)) su.6.7.length λi=>Py.eLine (nth su.6.7 i)))))))) func172 ?_;simp only[stdS,aL,aB,and_true,Fe];grind[Vj]
def ask19 (S:SP Gl) (su:Su) (l:List Ent) (nums:List Int) (out:List Int) (hm:((nums.length:Int) != 1)=false) (h:DO Gl yd0 71 [Gu] (Ej su (.d (.c (.l Ab l))) 19 nums) (.ret (I 0)) (Ek out)):DO Gl yd0 85 [.addr FAR 0,.d (.agg [Ci 19,.l eI nums])] (Ay su (.d (.c (.l Ab l)))) (.ret (.tup [.c (.l eI out),.c (Ci 0)])) []:=by
 refine Fp S (.w [(FAR,FAR)] [aF 0] [(2,FAR,live),(FAR+3,17,B true)] (.ret (B true)) [] (.ff (rt (B (inR 19 1 21)) (.sure 17 (.sure 18 (.sure 19 (.sure 20 (rt (tA tC) (.sure 21 (.sure 22 (.sure 23 (.sure 24 (.val 25 false (.sure 25 (.ff (.w [(FAR,nat_lit 3),(FAS,nat_lit 2),(FAT,nat_lit 6),(FAU,nat_lit 7),(nat_lit 100004,FAR)] [Gu] (Ej su (L Ab l) 19 nums) (.ret (I 0)) (Ek out) (.sure 32 (.sure 33 (.ff .nil))))))))))))))))))) (tt 1 (DO Gl yd0 67 [aF 0] [(2,FAR,live),(FAR+3,17,B true)] (.ret (B true)) []/\false=false/\CR Gl 143 [I 19,I 1,I 21] (B (inR 19 1 21))/\tt 3 ((nums.length<=maxLen->tt 1 (CR Gl 171 [] (tA tC)/\tt 3 (((0:Int)<=19/\19<(↑(22:Nat):Int))/\tt 1 (((nums.length:Int) != (1:Int))=false/\tt 1 (false=false/\172=172/\Value.slice none 0 0=Value.slice none 0 0/\(0:Int)=0/\(19:Int)=19/\sR eI nums/\sR Ab l/\zC (cS (su)) (DO Gl yd0 71 [Gu] (Ej su (L Ab l) 19 nums) (.ret (I 0)) (Ek out)/\tt 2 (false=false/\(sR eI out/\(0:Int)=0)/\sR Ab l/\tt 1 (zC (List.take 15 (cS (su))) (SEq su.6.7.length (λi=>Py.eLine (nth su.6.7 i)) su.6.7.length λi=>Py.eLine (nth su.6.7 i))))))))))))) func85 ?_;simp only[stdS,aL,aB,and_true];grind[Qd,Iv,Vi]
def Arv (S:SP Gl) (su:Su) (nn:List Int) (l:List Ent) (s:St) (nums:List Int) (out:List Int) (hn:CO Gl 73 [.d (.agg (cS su)),.d (.c (.l Ab l))] (Ex nn s)) (hq:DO Gl yd0 282 [.addr FAR 0,L eI nums] (stX s) (.ret (.tup [.c (.l eI out),.c (Ci 0)])) []):DO Gl yd0 172 [.addr FAR 0,.addr (FAR+1) 0,.addr (FAR+2) 0,.addr (FAR+3) 0] (Ej su (.d (.c (.l Ab l))) 20 nums) (.ret (.tup [])) (Ek out):=by
 refine Fp S (rt (T.ag aT) (.n [(nat_lit 10010,nat_lit 18010),(nat_lit 10005,nat_lit 18005),(nat_lit 10006,nat_lit 18006),(nat_lit 10007,nat_lit 18007),(nat_lit 10008,nat_lit 18008)] (Ex nn s) (.w [(FAR,nat_lit 18010),(FAS,nat_lit 18005),(FAT,nat_lit 18006),(FAU,nat_lit 18007),(nat_lit 100004,nat_lit 18008)] [aF 0,L eI nums] (stX s) (.ret (.tup [D.c (C.l eI out),D.c (Ci 0)])) [] .nil))) (CR Gl 173 [] (T.ag aT)/\((0:Int)<=20/\20<(↑(22:Nat):Int))/\CO Gl 73 [tA (cS su),L Ab l] (Ex nn s)/\sR eI nums/\(SEq s.1.6.7.length (λi=>Py.eLine (nth s.1.6.7 i)) s.1.6.7.length λi=>Py.eLine (nth s.1.6.7 i))/\zC (List.take 15 (cS (s.1))) (s.2=s.2/\zM (tkD s) (tkV s) (zM (coD s) (coV s) (zM (riD s) (riV s) (zM (paD s) (paV s) (DO Gl yd0 282 [aF 0,L eI nums] (stX s) (.ret (.tup [D.c (C.l eI out),D.c (Ci 0)])) []/\True/\sR eI out/\(0:Int)=0/\(20:Int)=20/\sR eI nums/\sR Ab l/\zC (List.take 15 (cS (su))) (SEq su.6.7.length (λi=>Py.eLine (nth su.6.7 i)) su.6.7.length λi=>Py.eLine (nth su.6.7 i)))))))) func172 ?_;simp only[stdS,aL,aB,and_true,Fe];grind[Vj]
def Arw (S:SP Gl) (su:Su) (l:List Ent) (nums:List Int) (out:List Int) (hm:((nums.length:Int) != 1)=false) (h:DO Gl yd0 71 [Gu] (Ej su (.d (.c (.l Ab l))) 20 nums) (.ret (I 0)) (Ek out)):DO Gl yd0 85 [.addr FAR 0,.d (.agg [Ci 20,.l eI nums])] (Ay su (.d (.c (.l Ab l)))) (.ret (.tup [.c (.l eI out),.c (Ci 0)])) []:=by
 refine Fp S (.w [(FAR,FAR)] [aF 0] [(2,FAR,live),(FAR+3,17,B true)] (.ret (B true)) [] (.ff (rt (B (inR 20 1 21)) (.sure 17 (.sure 18 (.sure 19 (.sure 20 (rt (tA tC) (.sure 21 (.sure 22 (.sure 23 (.sure 24 (.val 25 false (.sure 25 (.ff (.w [(FAR,nat_lit 3),(FAS,nat_lit 2),(FAT,nat_lit 6),(FAU,nat_lit 7),(nat_lit 100004,FAR)] [Gu] (Ej su (L Ab l) 20 nums) (.ret (I 0)) (Ek out) (.sure 32 (.sure 33 (.ff .nil))))))))))))))))))) (tt 1 (DO Gl yd0 67 [aF 0] [(2,FAR,live),(FAR+3,17,B true)] (.ret (B true)) []/\false=false/\CR Gl 143 [I 20,I 1,I 21] (B (inR 20 1 21))/\tt 3 ((nums.length<=maxLen->tt 1 (CR Gl 171 [] (tA tC)/\tt 3 (((0:Int)<=20/\20<(↑(22:Nat):Int))/\tt 1 (((nums.length:Int) != (1:Int))=false/\tt 1 (false=false/\172=172/\Value.slice none 0 0=Value.slice none 0 0/\(0:Int)=0/\(20:Int)=20/\sR eI nums/\sR Ab l/\zC (cS (su)) (DO Gl yd0 71 [Gu] (Ej su (L Ab l) 20 nums) (.ret (I 0)) (Ek out)/\tt 2 (false=false/\(sR eI out/\(0:Int)=0)/\sR Ab l/\tt 1 (zC (List.take 15 (cS (su))) (SEq su.6.7.length (λi=>Py.eLine (nth su.6.7 i)) su.6.7.length λi=>Py.eLine (nth su.6.7 i))))))))))))) func85 ?_;simp only[stdS,aL,aB,and_true];grind[Qd,Iv,Vi]
end Go.Vc.Zn.Rm
namespace Go.Vc.Zn.Gv
open Go Go.Proofs Go.Vc Go.RowKit Tryz
variable {Gl:World->Prop}
def Bgh (S:SP Gl) (w:Work) (hb:w.book.ok=true) (hg:w.book.good w.plan=true):CR Gl 82 [Kw w] (B w.surely):=by
 refine Ag S (let A4:=(-1:Int);let A1:=Work.book w;let A5:=Book.sheets A1;let A3:=Book.dues A1;let A2:=Book.ends A1 true;let A0:=(days (Work.plan w) A2 A4 A4);let P0:=λ(zz:Prop)=>sR eI w.1.2/\(sR eI (days w.2 (Book.ends w.1 true) A4 A4))/\sR eComp w.1.1/\sR eI w.1.2/\sR eI w.1.3/\zz;((rs [Qa A2,Qb A4 A4,L eI A0] (.loop (Bl (Yx w) (List.range (List.length A3))) (λk=>v 16 (I k)::v 15 (I (↑(List.length A3):Int))::v 14 (L eI A3)::v 3 (L eI A0)::v 1 (ad 1)::bx 1 (Yw w)) λk0=>.br (rt (I (Fv A5 k0 A0 (List.length A5))) (.br .nil .nil)) .nil)),(CR Gl 164 [tBook A1] (Qa A2)/\CR Gl 79 [] (Qb A4 A4)/\CR Gl 162 [Kw w,Qa A2,Qb A4 A4] (L eI A0)/\(w.1.2.length<=maxLen->(lz w.1.2.length (P0 (sR eTask w.2)))/\∀(k0:Nat),k0<=Bl (Yx w) (List.range (ln A3))->(dt k0 w.1.2.length->(ix k0 w.1.2.length)/\CR Gl 169 [Kw w,I k0,L eI A0] (I (Fv A5 k0 A0 (ln A5)))/\(decide (nth w.1.2 k0<Fv w.1.3 k0 (days w.2 (Book.ends w.1 true) (-1:Int) (-1:Int)) w.1.3.length)=true->false=Work.surely w)/\(decide (nth w.1.2 k0<Fv w.1.3 k0 (days w.2 (Book.ends w.1 true) (-1:Int) (-1:Int)) w.1.3.length)=false->lq k0 (Bl (Yx w) (List.range (ln A3))) ((w.1.2.length:Int)=w.1.2.length/\P0 (sR eTask w.2))))/\(df k0 w.1.2.length->true=Work.surely w))))) func82 ?_;obtain⟨o1,o2,o3,_⟩:=Yu hb;obtain⟨g1,g2⟩:=Aig hg;have hd:=Aq6 w.plan (w.book.ends true) (-1) (-1);simp only[stdS,aL,aB,and_true,aN,aK,Ap,Ad]
 refine⟨Bci S w.book (by omega),Bch S,Bcu S w (w.book.ends true) _ _ (Bce hb true) (by omega) w.book.comps.length (by omega) (Bcf w.book true) (Bcg hg),λ_ k hk=>⟨λhl=>?_,λhl=>?_⟩⟩
 ·have hr:k<(List.range w.book.dues.length).length:=by grind
  have hn:nth (List.range w.book.dues.length) k=k:=Cc (by omega);grind[Bcv,Fq,Yx,Aqg,Work.surely]
 grind[Work.surely,Jg]
def idx3 (n i j k:Nat):Nat:=(i*n+j)*n+k
theorem Bgi {n i j k:Nat} (hj:j<n) (hk:k<n):Yv n (idx3 n i j k)=⟨i,j,k⟩:=by
 have hn:0<n:=by omega
 have d1:(((idx3 n i j k:Nat):Int)).tdiv (n:Int)=((idx3 n i j k / n:Nat):Int):=rfl;have e1:idx3 n i j k / n=i*n+j:=by grind[idx3,Nat.mul_comm,Nat.mul_add_div,Nat.div_eq_of_lt]
 have d2:(((i*n+j:Nat):Int)).tdiv (n:Int)=(((i*n+j) / n:Nat):Int):=rfl;have e2:(i*n+j) / n=i:=by grind[Nat.mul_comm,Nat.mul_add_div,Nat.div_eq_of_lt]
 have m1:(((i*n+j:Nat):Int)).tmod (n:Int)=(((i*n+j) % n:Nat):Int):=rfl;have e3:(i*n+j) % n=j:=by grind[Nat.mul_comm,Nat.mul_add_mod,Nat.mod_eq_of_lt]
 have m2:(((idx3 n i j k:Nat):Int)).tmod (n:Int)=((idx3 n i j k % n:Nat):Int):=rfl;have e4:idx3 n i j k % n=k:=by grind[idx3,Nat.mul_comm,Nat.mul_add_mod,Nat.mod_eq_of_lt]
 grind[Yv]
theorem Bgj (S:SP Gl) (b:Book) (hb:b.ok=true):CR Gl 167 [tBook b] (L eTask b.tasks):=by
 refine Ag S (let A6:=λ(k0 k1 k2:Nat)=>Ee b (idx3 b.1.length k0 k1 (k2+1));let A5:=sR eI b.3;let A2:=λ(k0 k1 k2:Nat)=>Book.fault b (Task.mk ↑k0 ↑k1 ↑k2);let A7:=λ(k0 k1 k2:Nat)=>[D.agg [Ci 0,Ci (A2 k0 k1 k2)],D.c (Ci (Sa (A2 k0 k1 k2)))];let A1:=λ(k0 k1 k2:Nat)=>Ee b (idx3 b.1.length k0 k1 k2);let A0:=Book.comps b;let A4:=List.length A0;let A3:=(I (List.length A0:Int));let P0:=λ(zz:Prop)=>(b.1.length:Int)=b.1.length/\zz;let P1:=λ(zz:Prop)=>sR eComp b.1/\sR eI b.2/\zz;let P2:=λ(k0:Nat) (zz:Prop)=>(k0:Int)=k0/\(k0:Int)=k0/\zz;((.loop A4 (λk0=>v 13 (I k0)::v 12 A3::v 1 (ad 1)::tk 100 86::v 3 (Lt 100 eTask (Ee b (idx3 A4 k0 0 0)))::bx 1 (cBook b)) λk0=>.br (.loop A4 (λk1=>v 19 (I k1)::v 18 A3::v 4 (I k0)::v 13 (I k0)::v 12 A3::v 1 (ad 1)::tk 100 86::v 3 (Lt 100 eTask (Ee b (idx3 A4 k0 k1 0)))::bx 1 (cBook b)) λk1=>.br (.loop A4 (λk2=>v 25 (I k2)::v 24 A3::v 5 (I k1)::v 19 (I k1)::v 18 A3::v 4 (I k0)::v 13 (I k0)::v 12 A3::v 1 (ad 1)::tk 100 86::v 3 (Lt 100 eTask (Ee b (idx3 A4 k0 k1 k2)))::bx 1 (cBook b)) λk2=>.br (rt (.tup (A7 k0 k1 k2)) (.br .nil .nil)) .nil) .nil) .nil),(b.1.length<=maxLen->(lz b.1.length (ln (Ee b (idx3 b.1.length 0 0 0))=0/\P1 A5))/\∀(k0:Nat),k0<=ln A0->(dt k0 b.1.length->b.1.length<=maxLen->(lz b.1.length (P2 k0 (P0 ((sR eTask (Ee b (idx3 b.1.length k0 0 0)))/\P1 A5))))/\∀(k1:Nat),k1<=ln A0->(dt k1 b.1.length->b.1.length<=maxLen->(lz b.1.length ((k1:Int)=k1/\(k1:Int)=k1/\P0 (P2 k0 (P0 ((sR eTask (Ee b (idx3 b.1.length k0 k1 0)))/\P1 A5)))))/\∀(k2:Nat),k2<=ln A0->(dt k2 b.1.length->CR Gl 159 [T.fn 262 [] [T.d (D.rd (cBook b)),T.d (D.rd (eTask (Task.mk ↑k0 ↑k1 ↑k2)))]] (.tup (A7 k0 k1 k2))/\((Sa (A2 k0 k1 k2)==(0:Int))=true->(ln (A1 k0 k1 k2)+1)*24<=140737488355328/\ln (A1 k0 k1 k2)+1<=140737488355328/\lq k2 (ln A0) (P0 ((k1:Int)=k1/\(k1:Int)=k1/\P0 (P2 k0 (P0 ((SEq (ln (A1 k0 k1 k2)+1) (An (ln (A1 k0 k1 k2)) (λi=>eTask (nth (A1 k0 k1 k2) i)) (gD [List.map C.dem (List.map C.dem [Ci k0,Ci k1,Ci k2])])) (ln (A6 k0 k1 k2)) λi=>eTask (nth (A6 k0 k1 k2) i))/\P1 A5))))))/\((Sa (A2 k0 k1 k2)==(0:Int))=false->lq k2 (ln A0) (P0 ((k1:Int)=k1/\(k1:Int)=k1/\P0 (P2 k0 (P0 ((sQ eTask (A1 k0 k1 k2) (A6 k0 k1 k2))/\P1 A5)))))))/\(df k2 b.1.length->lq k1 (ln A0) (P0 (P2 k0 (P0 ((sQ eTask (A1 k0 k1 k2) (Ee b (idx3 b.1.length k0 (k1+1) 0)))/\P1 A5))))))/\(df k1 b.1.length->lq k0 (ln A0) (P0 ((sQ eTask (Ee b (idx3 b.1.length k0 k1 0)) (Ee b (idx3 b.1.length (k0+1) 0 0)))/\P1 A5))))/\(df k0 b.1.length->sQ eTask (Ee b (idx3 b.1.length k0 0 0)) (Book.tasks b))))) func167 ?_
 simp only[stdS,aL,aB,and_true,aN,aK,Ap,Ad];obtain⟨o1,_⟩:=Yu hb;have i7:∀i j k,i<b.comps.length->j<b.comps.length->k<b.comps.length->(Ee b (idx3 b.comps.length i j k)).length<=64:=λi j k hi hj hk=>by
  have h1:=Aq9 b (idx3 b.comps.length i j k);have h2:i*b.comps.length<=3*4:=Nat.mul_le_mul (by omega) o1.2;have h3:(i*b.comps.length+j)*b.comps.length<=15*4:=Nat.mul_le_mul (by omega) o1.2;grind[idx3]
 have hstep:∀i j k,j<b.comps.length->k<b.comps.length->Ee b (idx3 b.comps.length i j (k+1))=bif b.fault ⟨i,j,k⟩==0 then Ee b (idx3 b.comps.length i j k)++[⟨i,j,k⟩] else Ee b (idx3 b.comps.length i j k):=λi j k hj hk=>by
  have:idx3 b.comps.length i j (k+1)=idx3 b.comps.length i j k+1:=rfl;grind[Ee,Bgi]
 refine λ_=>⟨⟨by simp[idx3,Ee],trivial⟩,λk0 hk0=>⟨λh0 _ k1 al=>⟨λh1 _ k2 bo=>⟨λh2=>⟨Bd1 S b _,λhe=>?_,λhe=>?_⟩,λh2=>?_⟩,λh1=>?_⟩,λh0=>?_⟩⟩
 ·have hl:=i7 k0 k1 k2 (by omega) (by omega) (by omega);have hf:(b.fault ⟨k0,k1,k2⟩==0)=true:=by grind[Sa]
  exact⟨by omega,by omega,by omega,by omega,by omega,Eb (x:=⟨k0,k1,k2⟩) (by grind) rfl,trivial⟩
 ·have hf:(b.fault ⟨k0,k1,k2⟩==0)=false:=by grind[Sa]
  exact⟨by omega,by omega,by omega,Ax (by grind),trivial⟩
 ·have e:k2=b.comps.length:=by omega
  refine⟨by omega,by omega,by omega,Ax ?_,trivial⟩;rw[e];congr 1;grind[idx3]
 ·have e:k1=b.comps.length:=by omega
  refine⟨by omega,by omega,by omega,Ax ?_,trivial⟩;grind[idx3,Nat.succ_mul]
 ·have e:k0=b.comps.length:=by omega
  refine Ax ?_;rw[e]
  rfl
def Bgk (S:SP Gl) (b:Book):CR Gl 81 [tBook b] (.fn 166 [] [.d (.c (.p (cBook b)))]):=by
 refine Xw S (t:=2) (id:=1) .nil func81 (by kernel_rfl) Tryz.results81 (by decide) (by decide) (T.fn 166 [] [.addr 1 0]=T.fn 166 [] [.addr 1 0]/\live=live/\(.d (.c (.l eComp b.comps)):T)=.d (.c (.l eComp b.comps))/\(.d (.c (.l eI b.dues)):T)=.d (.c (.l eI b.dues))/\(.d (.c (.l eI b.sheets)):T)=.d (.c (.l eI b.sheets))/\True) (by kernel_rfl) ?_;trivial
def Jp (all:List Task):Nat->List Task->List (List Task)
 |0,now=>[now]
 |d+1,now=>all.flatMap λx=>Jp all d (now++[x])
theorem Arx (all:List Task):∀d now,(Jp all d now).length=all.length ^ d
 |0,_=>rfl
 |d+1,now=>by
  unfold Jp;rw[List.length_flatMap];have:(all.map λx=>(Jp all d (now++[x])).length)=all.map λ_=>all.length ^ d:=by
   apply List.map_congr_left;intro x _;exact Arx all d _
  rw[this,List.map_const',List.sum_replicate_nat,Nat.pow_succ,Nat.mul_comm]
def Nc (b:Book) (all:List Task) (l p:Nat):Env:=
 [(0,BIG,.tr p),(2,FAR,live),(FAR+3,0,.yl l),(2,FAR+1,live),(FAR+4,0,L eTask all),(2,FAR+2,live),(FAR+5,0,.fn 168 [] [.d (.c (.p (cBook b))),.addr FAR 0,.addr (FAR+1) 0,.addr (FAR+2) 0])]
def Qh (b:Book) (P:List (List Task)) (l m s:Nat):Yd:=⟨l,m,s,λq=>[Kw ⟨b,nth P q⟩]⟩
def Bgl (S:SP Gl) (b:Book) (all now:List Task) (P:List (List Task)) (l m s p:Nat) (hd:now.length=b.sheets.length) (hm:p<m) (hs:p<=s) (hP:nth P p=now):DO Gl (Qh b P l m s) 168 [L eTask now,.d (.c (.p (cBook b))),.addr FAR 0,.addr (FAR+1) 0,.addr (FAR+2) 0] (Nc b all l p) (.ret (B (decide (p+1<=s)))) [(0,BIG,.tr (p+1))]:=by
 refine Bs S (let A1:=(now.length:Int)==b.3.length;let A0:=[C.l eComp b.1,C.l eI b.2,C.l eI b.3];((.br .nil (.loop 0 (λk=>[]) λk0=>.nil)),(now.length<=maxLen->b.3.length<=maxLen->(A1=true->l=l/\p<m/\p<=s/\sR eComp b.1/\sR eI b.2/\sR eI b.3/\(sQ eTask now (nth P p))/\(p != s)=decide (p+1<=s)/\p+1=p+1/\l=l/\sR eTask all/\168=168/\A0=A0)/\(A1=false->all.length<=maxLen->False/\∀(k0:Nat),k0<=0->False)))) func168 ?_;dsimp only;refine λh1 h2=>⟨λ_=>⟨rfl,hm,hs,Ax rfl,Ax rfl,Ax rfl,?_,?_,rfl,rfl,Ax rfl,rfl,rfl⟩,λh=>?_⟩
 ·rw[hP];exact Ax rfl
 ·grind
 grind
theorem Bgm (S:SP Gl) (b:Book) (all now:List Task) (P:List (List Task)) (l m s p c:Nat) (hb:b.ok=true) (hd:now.length<b.sheets.length) (hs:p<=s) (ih:∀(n:Nat) (f:Nat->List C) (k:Nat),k<all.length->p+k*c<=s->SEq n f (now++[nth all k]).length (λi=>eTask (nth (now++[nth all k]) i))->DO Gl (Qh b P l m s) 168 [.d (.c (.s .n n f)),.d (.c (.p (cBook b))),.addr FAR 0,.addr (FAR+1) 0,.addr (FAR+2) 0] (Nc b all l (p+k*c)) (.ret (B (decide (p+k*c+c<=s)))) [(0,BIG,.tr (min (p+k*c+c) (s+1)))]):DO Gl (Qh b P l m s) 168 [L eTask now,.d (.c (.p (cBook b))),.addr FAR 0,.addr (FAR+1) 0,.addr (FAR+2) 0] (Nc b all l p) (.ret (B (decide (p+all.length*c<=s)))) [(0,BIG,.tr (min (p+all.length*c) (s+1)))]:=by
 refine Bs S (let A7:=p+all.length*c;let A6:=List.range all.length;let A4:=λ(k:Nat)=>decide (p+(k+1)*c<=s);let A2:=(now.length:Int);let A5:=Int.toNat (A2-0)+1;let A1:=[C.l eComp b.1,C.l eI b.2,C.l eI b.3];let A0:=λ(k0:Nat)=>An (Int.toNat (A2-0)) (λi=>eTask (nth now (Int.toNat 0+i))) (gD [List.map C.dem (List.map C.dem [Ci (nth all k0).1,Ci (nth all k0).2,Ci (nth all k0).3])]);let A3:=λ(k0:Nat)=>[tS A5 (A0 k0),T.d (D.c (C.p (cBook b))),aF 0,T.addr (FAR+1) 0,T.addr (FAR+2) 0];let P0:=λ(zz:Prop)=>A1=A1/\zz;let P1:=λ(zz:Prop)=>l=l/\sR eTask all/\168=168/\zz;let P2:=λ(zz:Prop)=>(all.length:Int)=all.length/\sR eTask all/\sR eTask now/\zz;((.br .nil (.loop (Bl A4 A6) (λk=>v 22 (I k)::v 21 (I all.length)::v 20 (L eTask all)::v 0 (L eTask now)::v 1 (T.d (D.c (C.p (cBook b))))::v 2 (aF 0)::v 3 (T.addr (FAR+1) 0)::v 4 (T.addr (FAR+2) 0)::Nc b all l (p+k*c)) λk0=>.br (.w [(FAR,FAR),(FAS,FAS),(FAT,FAT)] (A3 k0) (Nc b all l (p+k0*c)) (.ret (B (decide (p+k0*c+c<=s)))) [(0,BIG,T.tr (min (p+k0*c+c) (s+1)))] (.br .nil .nil)) .nil)),(now.length<=maxLen->b.3.length<=maxLen->((A2==b.3.length)=true->l=l/\p<m/\p<=s/\sR eComp b.1/\sR eI b.2/\sR eI b.3/\(sQ eTask now (nth P p))/\(p != s)=decide (p+all.length*c<=s)/\p+1=min A7 (s+1)/\P1 (A1=A1))/\((A2==b.3.length)=false->all.length<=maxLen->(0=(↑(0:Nat):Int)/\P2 (P0 (p=p+0*c/\P1 (A1=A1))))/\∀(k0:Nat),k0<=Bl A4 A6->(decide ((k0:Int)<all.length)=true->(0<=(k0:Int)/\(k0:Int)<all.length)/\(now.length<=maxLen->now.length<=maxLen->(0:Int)<=0/\0<=A2/\A2=now.length/\A2<=now.length/\A5*24<=140737488355328/\Int.toNat (A2-0)+1<=140737488355328/\SEq A5 (A0 k0) A5 (A0 k0)/\P0 (p+k0*c=p+k0*c/\P1 (P0 (DO Gl (Qh b P l m s) 168 (A3 k0) (Nc b all l (p+k0*c)) (.ret (B (decide (p+k0*c+c<=s)))) [(0,BIG,T.tr (min (p+k0*c+c) (s+1)))]/\((!decide (p+k0*c+c<=s))=true->false=decide (p+all.length*c<=s)/\min (p+k0*c+c) (s+1)=min A7 (s+1)/\P1 (A1=A1))/\((!decide (p+k0*c+c<=s))=false->iR ((k0:Int)+1)/\k0<Bl A4 A6/\(k0:Int)+1=(↑(k0+1):Int)/\P2 (P0 (min (p+k0*c+c) (s+1)=p+(k0+1)*c/\P1 (A1=A1)))))))))/\(decide ((k0:Int)<all.length)=false->true=decide (p+all.length*c<=s)/\p+k0*c=min A7 (s+1)/\P1 (A1=A1)))))) func168 ?_
 dsimp only;obtain⟨_,_,o3,_⟩:=Yu hb;have hup:∀k,k<=Bl (λk=>decide (p+(k+1)*c<=s)) (List.range all.length)->k<=all.length/\p+k*c<=s:=λk hk=>by
  have h1:=Kn (p:=λk=>decide (p+(k+1)*c<=s)) (l:=List.range all.length);rw[cR]at h1;refine⟨by omega,?_⟩;cases k with
  |zero=>omega
  |succ k=>
   have:=Io (p:=λk=>decide (p+(k+1)*c<=s)) (l:=List.range all.length) (i:=k) (by omega);grind[Cc]
 have hpush:∀k,SEq (((now.length:Int) - 0).toNat+1) (An ((now.length:Int) - 0).toNat (λi=>eTask (nth now (Int.toNat 0+i))) λi=>[List.map C.dem (List.map C.dem [C.v (Value.int .i64 (nth all k).one),C.v (Value.int .i64 (nth all k).other),C.v (Value.int .i64 (nth all k).third)])].getD i []) (now++[nth all k]).length (λi=>eTask (nth (now++[nth all k]) i)):=λk=>by
  have e1:((now.length:Int) - 0).toNat=now.length:=by omega
  have e2:∀i,Int.toNat 0+i=i:=λi=>by simp
  simp only[e1,e2];exact Eb rfl rfl
 refine λh1 h2=>⟨λh=>?_,λ_ h3=>⟨⟨rfl,rfl,Ax rfl,Ax rfl,rfl,by omega,rfl,Ax rfl,rfl,rfl⟩,λk hk=>⟨λhl=>⟨?_,λ_ _=>⟨by omega,by omega,rfl,by omega,by omega,by omega,⟨rfl,λ_ _=>.inl rfl⟩,rfl,rfl,rfl,Ax rfl,rfl,rfl,?_,λhr=>?_,λhr=>?_⟩⟩,λhl=>?_⟩⟩⟩
 ·grind
 ·grind
 ·grind
 ·have hl:=bY hl;simp only[Bool.not_eq_eq_eq_not,gM,aK]at hr;have hm:(k+1)*c<=all.length*c:=aY _ (by omega);rw[Nat.succ_mul]at hm;exact⟨(fD (by omega)).symm,by omega,rfl,Ax rfl,rfl,rfl⟩
 ·have hl:=bY hl;simp only[Bool.not_eq_eq_eq_not,Bool.not_false,aN]at hr;have hm:(k+1)*c=k*c+c:=Nat.succ_mul _ _;refine⟨(Ad _).2 ?_,Fq hk (by grind) (by grind[Cc]),by omega,rfl,Ax rfl,Ax rfl,rfl,by omega,rfl,Ax rfl,rfl,rfl⟩;grind[Ap]
 ·have hl:=dS hl;obtain⟨u1,u2⟩:=hup k hk;have bf:k=all.length:=by omega
  subst bf;exact⟨(eR u2).symm,by omega,rfl,Ax rfl,rfl,rfl⟩
theorem Ary {f:Task->List (List Task)} {c:Nat}:∀{all:List Task},(∀x∈all,(f x).length=c)->∀k i,k<all.length->i<c->nth (all.flatMap f) (k*c+i)=nth (f (nth all k)) i
 | [],_,k,i,hk,_=>by simp at hk
 |x::all,hf,k,i,hk,hi=>by
  rw[fH];have hx:=hf x aC;cases k with
  |zero=>
   rw[gB,bH,Mn (by omega)]
   rfl
  |succ k=>
   have e:(k+1)*c+i=c+(k*c+i):=by grind
   rw[e,Km (by omega),hx,eO,Ary (λy hy=>hf y (aU _ hy)) k i (by grind) hi]
   rfl
theorem Arz (S:SP Gl) (b:Book) (hb:b.ok=true) (all:List Task) (P:List (List Task)) (l m s:Nat):∀(d:Nat) (now:List Task) (p:Nat),now.length+d=b.sheets.length->p<=s->
  (∀i,i<(Jp all d now).length->p+i<m/\nth P (p+i)=nth (Jp all d now) i)->
  DO Gl (Qh b P l m s) 168 [L eTask now,.d (.c (.p (cBook b))),.addr FAR 0,.addr (FAR+1) 0,.addr (FAR+2) 0] (Nc b all l p) (.ret (B (decide (p+(Jp all d now).length<=s)))) [(0,BIG,.tr (min (p+(Jp all d now).length) (s+1)))]
 |0,now,p,hd,hs,hP=>by
  obtain⟨h1,h2⟩:=hP 0 (by simp[Jp]);have:=Bgl S b all now P l m s p (by omega) (by omega) hs h2;grind[Jp]
 |d+1,now,p,hd,hs,hP=>by
  have i9:=Arx all;have e:(Jp all (d+1) now).length=all.length*all.length ^ d:=by grind
  rw[e];refine Bgm S b all now P l m s p (all.length ^ d) hb (by omega) hs λn f k hk ir mi=>?_;have ih:=Arz S b hb all P l m s d (now++[nth all k]) (p+k*all.length ^ d) (by simp;omega) ir λi hi=>?_
  ·rw[i9]at ih;exact ih.args (show SEq n f (now++[nth all k]).length (λi=>eTask (nth (now++[nth all k]) i))/\cBook b=cBook b from ⟨mi,rfl⟩)
  ·rw[i9]at hi;have hm:(k+1)*all.length ^ d<=all.length*all.length ^ d:=aY _ (by omega);rw[Nat.succ_mul]at hm;obtain⟨h1,h2⟩:=hP (k*all.length ^ d+i) (by omega);grind[Jp,Ary]
def Fy (b:Book):List (List Task):=Jp b.tasks b.sheets.length []
def Bgn (S:SP Gl) (b:Book) (hb:b.ok=true) (l s:Nat):
  DO Gl (Qh b (Fy b) l (Fy b).length s) 168 [.d (.c (.v (.slice none 0 0))),.d (.c (.p (cBook b))),.addr FAR 0,.addr (FAR+1) 0,.addr (FAR+2) 0] (Nc b b.tasks l 0) (.ret (B (decide (0+(Fy b).length<=s)))) [(0,BIG,.tr (min (0+(Fy b).length) (s+1)))]:=by
 have:=Arz S b hb b.tasks (Fy b) l (Fy b).length s b.sheets.length [] 0 (by simp) (bV _) λi hi=>⟨by rw[bH];exact hi,by rw[bH];rfl⟩
 exact this.args (show ([]:List Task).length=0/\cBook b=cBook b from ⟨rfl,rfl⟩)
def Bgo (S:SP Gl) (b:Book) (l s:Nat) (hb:b.ok=true):DO Gl (Qh b (Fy b) l (Fy b).length s) 166 [.yl l,.d (.c (.p (cBook b)))] [(0,BIG,.tr 0)] (.ret (.tup [])) [(0,BIG,.tr (min (Fy b).length (s+1)))]:=by
 refine Bs S (let A5:=Fy b;let A4:=B (decide (0+List.length (Fy b)<=s));let A3:=Book.tasks b;let A2:=(0,BIG,T.tr (min (0+List.length A5) (s+1)));let A1:=[T.d (D.c cN),T.d (D.c (C.p (cBook b))),aF 0,T.addr (FAR+1) 0,T.addr (FAR+2) 0];let A0:=[C.l eComp b.1,C.l eI b.2,C.l eI b.3];((rt (L eTask A3) (.w [(FAR,nat_lit 2),(FAS,nat_lit 3),(FAT,nat_lit 4)] A1 (Nc b A3 l 0) (.ret A4) [A2] .nil)),(CR Gl 167 [tBook b] (L eTask A3)/\Value.slice none 0 0=Value.slice none 0 0/\A0=A0/\0=0/\l=l/\(sR eTask A3)/\168=168/\A0=A0/\DO Gl (Qh b A5 l (List.length A5) s) 168 A1 (Nc b A3 l 0) (.ret A4) [A2]/\True/\min (0+List.length A5) (s+1)=min (List.length A5) (s+1)))) func166 ?_;dsimp only;exact⟨Bgj S b hb,rfl,rfl,rfl,rfl,Ax rfl,rfl,rfl,Bgn S b hb l s,trivial,by omega⟩
def fineT (S:SP Gl) (b:Book) (hb:b.ok=true):CR Gl 80 [tBook b] (B true):=by grind[Aii]
def Sk (b:Book) (pl:List Task):Bool:=Work.surely ⟨b,pl⟩
def Nd (b:Book):Nat:=Bl (λpl=>!Sk b pl) (Fy b)
def Vk (b:Book):Bool:=(Fy b).all λpl=>!Sk b pl
def Vl (b:Book):List Task:=bif Vk b then [] else nth (Fy b) (Nd b)
theorem As0 {b:Book}:∀{d:Nat} {now p:List Task},p∈Jp b.tasks d now->(∀t∈now,b.fault t=0)->p.length=now.length+d/\∀t∈p,b.fault t=0
 |0,now,p,h,hn=>by
  rw[aZ.1 h];trivial
 |d+1,now,p,h,hn=>by
  obtain⟨x,hx,hp⟩:=dR.1 h;obtain⟨h1,h2⟩:=As0 hp λt ht=>by
   rcases cP.1 ht with ht|ht
   ·grind
   ·rw[aZ.1 ht];exact Aih hx
  grind
def As1 {b:Book} {k:Nat} (hk:k<(Fy b).length):b.good (nth (Fy b) k)=true:=by
 obtain⟨h1,h2⟩:=As0 (Fj hk) (λt ht=>(by cases ht));grind[Fy,Book.good,Book.isWhy]
def first49 (S:SP Gl) (b:Book) (hb:b.ok=true):CR Gl 25 [tBook b] (.tup [.c (.l eTask (Vl b)),.c (Ci (bif Vk b then 5 else 0))]):=by
 refine Ag S (let A2:=T.fn 166 [] [T.d (D.c (C.p (cBook b)))];let A0:=Fy b;let A3:=List.length A0;let A1:=λ(k0:Nat)=>Work.mk b (nth A0 k0);((rt (B true) (.ff (rt A2 (.rf A3 (Nd b) (λp=>[Kw (Work.mk b (nth A0 p))]) (λp=>v 1 (ad 1)::v 4 (ad 4)::(bx 1 (cBook b)++bx 4 [cN])) (λk0=>rt (B (Work.surely (A1 k0))) (.br (.ff .nil) .nil)) (.tt .nil))))),(CR Gl 80 [tBook b] (B true)/\false=false/\CR Gl 81 [tBook b] A2/\Yd.m yd0=0/\Nq (DO Gl) 166 [] [T.d (D.c (C.p [C.l eComp b.1,C.l eI b.2,C.l eI b.3]))] (λl=>Yd.mk l A3 (Nd b) λp=>[Kw (Work.mk b (nth A0 p))]) A3 (Nd b)/\(sR eComp b.1/\sR eI b.2/\sR eI b.3/\Value.slice none 0 0=Value.slice none 0 0)/\(∀(k0:Nat),k0<List.length A0->k0<=Nd b->CR Gl 82 [Kw (A1 k0)] (B (Work.surely (A1 k0)))/\(Work.surely (A1 k0)=true->k0=Nd b/\0<List.length (nth A0 k0)/\false=false/\(sQ eTask (nth A0 k0) (Vl b))/\(0:Int)=bif Vk b then (5:Int) else (0:Int))/\(Work.surely (A1 k0)=false->k0<Nd b/\sR eComp b.1/\sR eI b.2/\sR eI b.3/\Value.slice none 0 0=Value.slice none 0 0))/\(List.length A0<=Nd b->true=true/\List.length (Vl b)=0/\(5:Int)=bif Vk b then (5:Int) else (0:Int))))) func25 ?_;dsimp only;refine⟨fineT S b hb,rfl,Bgk S b,rfl,λl=>Bgo S b l _ hb,⟨Ax rfl,Ax rfl,Ax rfl,rfl⟩,λp hm hs=>⟨Bgh S _ hb (As1 hm),λh=>?_,λh=>?_⟩,λh=>?_⟩
 ·have hN:Nd b=p:=by grind[Nd,Io,Sk]
  have dy:Vk b=false:=Ui (p:=λpl=>!Sk b pl) hm (by grind[Sk]);have hg:=As1 hm;obtain⟨g1,_⟩:=Aig hg;obtain⟨_,_,o3,_⟩:=Yu hb;have hfp:Vl b=nth (Fy b) p:=by grind[Vl]
  exact⟨hN.symm,by omega,rfl,by rw[hfp];exact Ax rfl,by grind⟩
 ·exact⟨Fq (p:=λpl=>!Sk b pl) hs hm (by grind[Sk]),Ax rfl,Ax rfl,Ax rfl,rfl⟩
 ·have dy:Vk b=true:=Jg h;grind[Vl]
structure Made where
 plan:List Task
 day:Int
instance:Inhabited Made:=⟨⟨[],0⟩⟩
end Go.Vc.Zn.Gv
namespace Go.Vc.Zn.Rm
open Go Go.Proofs Go.Vc Go.RowKit Tryz
def suM:Su:=⟨Ds,Kf,2,2,Jn,exPB3⟩
structure Mo where
 a:Int
 d:Int
 c:Nat->Nat->List Int
def Mo.tab (o:Mo):List Int:=[o.a,o.a+o.d,o.a+o.d+o.d,o.a+o.d+o.d+o.d]
def Mo.rt (o:Mo):Nat->List Int
 |0=>[o.a,o.a+o.d]
 |_=>[o.a+o.d+o.d,o.a+o.d+o.d+o.d]
def hdM:Nat->Nat->Int
 |0,0=>1
 |0,_=>2
 |_,0=>0
 |_,_=>1
structure Mo.OK (o:Mo):Prop where
 a:120<=o.a/\o.a<=122
 d:4<=o.d/\o.d<=6
 len:∀i k,i<2->k<2->(o.c i k).length=2
 num:∀i k,i<2->k<2->(o.c i k).all num=true
 err:∀i k,i<2->k<2->Dw (o.rt i) (o.c i k)=true
def Mo.n (o:Mo) (i k:Nat):Nat:=(Cd (o.rt i) (o.c i k)).length
def lnM (h:Int) (s:Nat) (e:Nat) (x:Int):Py.Line:=⟨h,s,⟨e,e⟩,0,0,x.tdiv 960,(x.tmod 960).tdiv 48,((x.tmod 960).tmod 48).tdiv 4,(((x.tmod 960).tmod 48).tmod 4).tdiv 1⟩
def bkM (b:Py.PBook) (l:Py.Line):Py.PBook:={ b with lines:=b.lines++[l] }
def Ad7 (b:Py.PBook) (er:List Int):Int:=nth (Py.paysL b er) (b.lines.length - 1)
def v1M (e:Nat):Int:=Ad7 (bkM exPB3 (lnM 1 2 e 0)) [1,1,0,e]
def b1M (e:Nat):Py.PBook:=bkM exPB3 (lnM 1 2 e (v1M e))
def v0M (e n:Nat):Int:=Ad7 (bkM (b1M e) (lnM 0 1 n 0)) [1,1,0,e,n]
def b0M (e n:Nat):Py.PBook:=bkM (b1M e) (lnM 0 1 n (v0M e n))
def payE (h x:Int):PayE:=⟨h,0,0,x.tdiv 960,(x.tmod 960).tdiv 48,((x.tmod 960).tmod 48).tdiv 4,(((x.tmod 960).tmod 48).tmod 4).tdiv 1⟩
def Mo.e1 (o:Mo):Nat:=o.n 0 0+o.n 1 1
def Mo.p1 (o:Mo):PayE:=payE 1 (v1M o.e1)
def Mo.p0 (o:Mo):PayE:=payE 0 (v0M o.e1 (o.n 1 0))
def sM3:St:=Ais (Hg (Hg (Hu suM) 0 1 2 0) 1 0 1 2) 40
def Mo.s5 (o:Mo):St:=Hv (Hv sM3 0 1 (o.c 0 0)) 0 2 (o.c 0 1)
def Mo.s6 (o:Mo):St:=Fg o.s5 0 (o.rt 0)
def Mo.s8 (o:Mo):St:=Hv (Hv o.s6 1 0 (o.c 1 0)) 1 1 (o.c 1 1)
def Mo.s9 (o:Mo):St:=Fg o.s8 1 (o.rt 1)
def Mo.st (o:Mo):Nat->St
 |0=>Hu suM
 |1=>Hg (Hu suM) 0 1 2 0
 |2=>Hg (Hg (Hu suM) 0 1 2 0) 1 0 1 2
 |3=>sM3
 |4=>Hv sM3 0 1 (o.c 0 0)
 |5=>o.s5
 |6=>o.s6
 |7=>Hv o.s6 1 0 (o.c 1 0)
 |8=>o.s8
 |9=>o.s9
 |10=>Lw o.s9 o.p1
 |_=>Lw (Lw o.s9 o.p1) o.p0
def Ot (h x:Int):List Int:=[h,0,0,x.tdiv 960,(x.tmod 960).tdiv 48,((x.tmod 960).tmod 48).tdiv 4,(((x.tmod 960).tmod 48).tmod 4).tdiv 1]
def Mo.ent (o:Mo):Nat->Ent
 |0=>⟨2,[0,1,2,0]⟩
 |1=>⟨2,[1,0,1,2]⟩
 |2=>⟨1,[40]⟩
 |3=>⟨3,0::1::o.c 0 0⟩
 |4=>⟨3,0::2::o.c 0 1⟩
 |5=>⟨5,0::o.rt 0⟩
 |6=>⟨3,1::0::o.c 1 0⟩
 |7=>⟨3,1::1::o.c 1 1⟩
 |8=>⟨5,1::o.rt 1⟩
 |9=>⟨6,Ot 1 (v1M o.e1)⟩
 |_=>⟨6,Ot 0 (v0M o.e1 (o.n 1 0))⟩
def Ix:Nat->TypeId
 |0|1=>284
 |2=>282
 |5|8=>295
 |9|10=>298
 |_=>289
def Mo.ans (o:Mo):Nat->List C
 |0=>[.int .i64 0,.int .i64 1,.int .i64 2,.int .i64 0].map C.v
 |1=>[.int .i64 1,.int .i64 0,.int .i64 1,.int .i64 2].map C.v
 |2=>[.int .i64 40].map C.v
 |3=>[Ci 0,Ci 1,.l eI (o.c 0 0)]
 |4=>[Ci 0,Ci 2,.l eI (o.c 0 1)]
 |5=>[Ci 0,.l eI (o.rt 0)]
 |6=>[Ci 1,Ci 0,.l eI (o.c 1 0)]
 |7=>[Ci 1,Ci 1,.l eI (o.c 1 1)]
 |8=>[Ci 1,.l eI (o.rt 1)]
 |9=>Qg o.p1
 |_=>Qg o.p0
def Mo.MM (o:Mo) (n:Nat):List Ent:=(List.range n).map o.ent
theorem Qi (o:Mo) (n:Nat):(o.MM n).length=n:=by grind[Mo.MM]
theorem As2 (o:Mo) {n k:Nat} (h:k<n):nth (o.MM n) k=o.ent k:=by
 grind[Mo.MM,Hq,Cc]
def Bgp (o:Mo) (n:Nat):o.MM (n+1)=o.MM n++[o.ent n]:=by
 grind[Mo.MM,List.range_succ]
def Ad8 {P:Nat->Prop} (h0:P 0) (h1:P 1) (h2:P 2) (h3:P 3) (h4:P 4) (h5:P 5) (h6:P 6) (h7:P 7) (h8:P 8) (h9:P 9) (jk:P 10) (k:Nat) (hk:k<11):P k:=by
 match k,hk with
 |0,_=>exact h0
 |1,_=>exact h1
 |2,_=>exact h2
 |3,_=>exact h3
 |4,_=>exact h4
 |5,_=>exact h5
 |6,_=>exact h6
 |7,_=>exact h7
 |8,_=>exact h8
 |9,_=>exact h9
 |10,_=>exact jk
section
variable {Gl} (S:SP Gl) {o:Mo} (W:o.OK)
include S
theorem ofM (k:Nat) (hk:k<11):CR Gl 76 [.d (.agg (Ab (o.ent k)))] (.d (.c (.i (Ix k) true (o.ans k)))):=by
 refine Ad8 (P:=λk=>CR Gl 76 [.d (.agg (Ab (o.ent k)))] (.d (.c (.i (Ix k) true (o.ans k))))) ?_ ?_ ?_ ?_ ?_ ?_ ?_ ?_ ?_ ?_ ?_ k hk
 ·exact Acy (us:=[.int .i64 0,.int .i64 1,.int .i64 2,.int .i64 0]) rfl (Aqx S 0 1 2 0 _ rfl)
 ·exact Acy (us:=[.int .i64 1,.int .i64 0,.int .i64 1,.int .i64 2]) rfl (Aqx S 1 0 1 2 _ rfl)
 ·exact Acy (us:=[.int .i64 40]) rfl (Bdv S 40 _ rfl)
 ·exact Acv S 0 1 (o.c 0 0) _ rfl
 ·exact Acv S 0 2 (o.c 0 1) _ rfl
 ·exact Ari S 0 (o.rt 0) _ rfl
 ·exact Acv S 1 0 (o.c 1 0) _ rfl
 ·exact Acv S 1 1 (o.c 1 1) _ rfl
 ·exact Ari S 1 (o.rt 1) _ rfl
 ·exact Aro S o.p1 _ rfl
 ·exact Aro S o.p0 _ rfl
omit S in
theorem ansM (k:Nat):Fz (o.ans k) (o.ans k):=by
 unfold Mo.ans;split<;>simp[Fz,EqC,Qg]
end
def Ou {m:List Int} (h:m.length=2) (hn:m.all num=true):Bu m=true:=by
 unfold Bu;rw[h,hn];rfl
def Bgq {m:List Int} (h:m.length=2) (hn:m.all num=true):(⟨[m],[0]⟩:Sheet).ok=true:=by
 have h1:Kb ⟨[m],[0]⟩ 0=true:=by
  show (Bu m&&(m.length==m.length&&inR 0 0 2))=true
  rw[Ou h hn,dT];rfl
 show (true&&(true&&[0].all (Kb ⟨[m],[0]⟩)))=true
 simp[h1]
def As3 {m n:List Int} (h:m.length=2) (hm:m.all num=true) (h2:n.length=2) (hn:n.all num=true):(⟨[m,n],[2,2]⟩:Sheet).ok=true:=by
 have h1:Kb ⟨[m,n],[2,2]⟩ 0=true:=by
  show (Bu m&&(m.length==m.length&&inR 2 0 2))=true
  rw[Ou h hm,dT];rfl
 have h3:Kb ⟨[m,n],[2,2]⟩ 1=true:=by
  show (Bu n&&(n.length==m.length&&inR 2 0 2))=true
  rw[Ou h2 hn,h,h2];rfl
 show (true&&(true&&[0,1].all (Kb ⟨[m,n],[2,2]⟩)))=true
 grind
def ag2 {m n r:List Int} (hr:r.length=2) (h1:Dw r m=true) (h2:Dw r n=true):Lm ⟨[m,n],[2,2]⟩ r=true:=by
 have e:∀l,(Cd r l).length<=2:=λl=>by
  grind[Cd,Um]
 have k0:Kq ⟨[m,n],[2,2]⟩ r 0=true:=by
  show (Dw r m&&decide (((Cd r m).length:Int)<=2))=true
  rw[h1,eR (by have:=e m;omega)];rfl
 have k1:Kq ⟨[m,n],[2,2]⟩ r 1=true:=by
  show (Dw r n&&decide (((Cd r n).length:Int)<=2))=true
  rw[h2,eR (by have:=e n;omega)];rfl
 show [0,1].all (Kq ⟨[m,n],[2,2]⟩ r)=true
 grind
theorem El (o:Mo) (i:Nat):(o.rt i).length=2:=by unfold Mo.rt;grind
def rt_num {o:Mo} (W:o.OK) (i:Nat):(o.rt i).all num=true:=by
 have:=W.a;have:=W.d;unfold Mo.rt;grind[num,Bi]
def Bgr:Kf.ok=true:=by trivial
def wrM {s:St} {i h:Int} {m:List Int} (hp:s.su.p=Ds) (hb:s.su.b=Kf) (hc:coD s [i,h]=false) (ht:tkD s [i]=true) (hh:inR h 0 2=true) (hd:((s.tk i).getD ⟨0,0,0,0⟩).day=0) (hm:m.length=2) (hn:m.all num=true):WrOK s i h m:=
 ⟨hc,ht,by rw[hp,hb,hm];rfl,Bgq hm hn,by rw[hp];decide,by rw[hb];trivial,by rw[hb];exact hh,by omega,by omega⟩
def nt1 (a d:Int):List Df.Seen:=[⟨0,a⟩,⟨1,a+d⟩]
def nt2 (a d:Int):List Df.Seen:=[⟨0,a⟩,⟨1,a+d⟩,⟨2,a+d+d⟩,⟨3,a+d+d+d⟩]
def fine1 (a d:Int):Bool:=Df.areSeen Ds (nt1 a d)&&decide (0<(Df.agreeL Ds (nt1 a d)).length)
def fine2 (a d:Int):Bool:=Df.areSeen Ds (nt2 a d)&&(Df.agreeL Ds (nt2 a d)==[[a,d]])
def fin9 {P:Int->Int->Bool} (h:(List.range 3).all (λx=>(List.range 3).all λy=>P (120+(x:Int)) (4+(y:Int)))=true) {a d:Int} (h1:120<=a/\a<=122) (h2:4<=d/\d<=6):P a d=true:=by
 have:=aS.1 (aS.1 h (a - 120).toNat (bB.2 (by omega))) (d - 4).toNat (bB.2 (by omega))
 grind
theorem As4 {o:Mo} (W:o.OK):Df.areSeen Ds (nt1 o.a o.d)=true/\decide (0<(Df.agreeL Ds (nt1 o.a o.d)).length)=true:=
 cO.1 (fin9 (P:=fine1) (by trivial) W.a W.d)
theorem Ad9 {o:Mo} (W:o.OK):Df.areSeen Ds (nt2 o.a o.d)=true/\Df.agreeL Ds (nt2 o.a o.d)=[[o.a,o.d]]:=by
 have:=cO.1 (fin9 (P:=fine2) (by trivial) W.a W.d);grind
theorem As5 (o:Mo):Dz o.s6=nt1 o.a o.d:=by kernel_rfl
theorem As6 (o:Mo):Dz o.s9=nt2 o.a o.d:=by kernel_rfl
def rl6 (o:Mo) (x:Int):(rv o.s6 x).length<=12:=by
 show ((bif x==0 then some (o.rt 0) else none).getD []).length<=12
 grind[El]
def rl9 (o:Mo) (x:Int):(rv o.s9 x).length<=12:=by
 show ((bif x==1 then some (o.rt 1) else bif x==0 then some (o.rt 0) else none).getD []).length<=12
 grind[El]
def Ada:Bn Ds=true:=by trivial
def pa5 {o:Mo} (W:o.OK):PaOK o.s5 0 (o.rt 0):=
 ⟨rfl,rfl,rfl,rfl,by kernel_rfl,As3 (W.len 0 0 (by decide) (by decide)) (W.num 0 0 (by decide) (by decide)) (W.len 0 1 (by decide) (by decide)) (W.num 0 1 (by decide) (by decide)),Ou (El o 0) (rt_num W 0),(W.len 0 0 (by decide) (by decide)).symm,ag2 (El o 0) (W.err 0 0 (by decide) (by decide)) (W.err 0 1 (by decide) (by decide)),Ada,by show Df.areSeen Ds (Dz o.s6)=true;grind[As5,As4],by show decide (0<(Df.agreeL Ds (Dz o.s6)).length)=true;grind[As5,As4],⟨aH rfl,aH rfl⟩,by show (0:Int)<=4/\(4:Int)<=12;decide,by rw[El];decide,rl6 o⟩
def pa8 {o:Mo} (W:o.OK):PaOK o.s8 1 (o.rt 1):=
 ⟨rfl,rfl,rfl,rfl,by kernel_rfl,As3 (W.len 1 0 (by decide) (by decide)) (W.num 1 0 (by decide) (by decide)) (W.len 1 1 (by decide) (by decide)) (W.num 1 1 (by decide) (by decide)),Ou (El o 1) (rt_num W 1),(W.len 1 0 (by decide) (by decide)).symm,ag2 (El o 1) (W.err 1 0 (by decide) (by decide)) (W.err 1 1 (by decide) (by decide)),Ada,by show Df.areSeen Ds (Dz o.s9)=true;grind[As6,Ad9],by show decide (0<(Df.agreeL Ds (Dz o.s9)).length)=true;grind[As6,Ad9],⟨aH rfl,aH rfl⟩,by show (0:Int)<=4/\(4:Int)<=12;decide,by rw[El];decide,rl9 o⟩
section
variable {Gl} (S:SP Gl) {o:Mo} (W:o.OK)
include S W
theorem step0:DO Gl yd0 75 [.addr FAR 0,.d (.c (.i (Ix 0) true (o.ans 0)))] (stX (o.st 0)) (.new (.tok 194) [(FAR,15,.any)]) (stX (o.st 1)):=
 doX rfl (Aiv (us:=[.int .i64 0,.int .i64 1,.int .i64 2,.int .i64 0]) rfl rfl (Aqy S (o.st 0) 0 1 2 0 rfl rfl (aH rfl) (by kernel_rfl)))
theorem step1:DO Gl yd0 75 [.addr FAR 0,.d (.c (.i (Ix 1) true (o.ans 1)))] (stX (o.st 1)) (.new (.tok 194) [(FAR,15,.any)]) (stX (o.st 2)):=
 doX rfl (Aiv (us:=[.int .i64 1,.int .i64 0,.int .i64 1,.int .i64 2]) rfl rfl (Aqy S (o.st 1) 1 0 1 2 rfl rfl (aH rfl) (by kernel_rfl)))
theorem step2:DO Gl yd0 75 [.addr FAR 0,.d (.c (.i (Ix 2) true (o.ans 2)))] (stX (o.st 2)) (.new (.tok 194) [(FAR,15,.any)]) (stX (o.st 3)):=
 doX rfl (Aiv (us:=[.int .i64 40]) rfl rfl (Be2 S (o.st 2) 40 (by decide) (by show (0:Int)+40<=99;decide) (by show (0:Int)<=0;decide)))
theorem hands (s:St) (i h:Int) (hh:Ep s i h=true):DO Gl yd0 154 [.addr FAR 0,I i,I h] [(2,FAR,live),(FAR+3,17,.mp (FAR+1)),(2,FAR+1,mTk s)] (.ret (B true)) []:=by
 grind[Aj2]
theorem step3:DO Gl yd0 75 [.addr FAR 0,.d (.c (.i (Ix 3) true (o.ans 3)))] (stX (o.st 3)) (.new (.tok 194) [(FAR,15,.any)]) (stX (o.st 4)):=
 doX rfl (Acw S (o.st 3) 0 1 (o.c 0 0) (wrM rfl rfl rfl rfl rfl rfl (W.len 0 0 (by decide) (by decide)) (W.num 0 0 (by decide) (by decide))) (hands S W _ 0 1 rfl) (by kernel_rfl))
theorem step4:DO Gl yd0 75 [.addr FAR 0,.d (.c (.i (Ix 4) true (o.ans 4)))] (stX (o.st 4)) (.new (.tok 194) [(FAR,15,.any)]) (stX (o.st 5)):=
 doX rfl (Acw S (o.st 4) 0 2 (o.c 0 1) (wrM rfl rfl rfl rfl rfl rfl (W.len 0 1 (by decide) (by decide)) (W.num 0 1 (by decide) (by decide))) (hands S W _ 0 2 rfl) (by kernel_rfl))
theorem step6:DO Gl yd0 75 [.addr FAR 0,.d (.c (.i (Ix 6) true (o.ans 6)))] (stX (o.st 6)) (.new (.tok 194) [(FAR,15,.any)]) (stX (o.st 7)):=
 doX rfl (Acw S (o.st 6) 1 0 (o.c 1 0) (wrM rfl rfl rfl rfl rfl rfl (W.len 1 0 (by decide) (by decide)) (W.num 1 0 (by decide) (by decide))) (hands S W _ 1 0 rfl) (by kernel_rfl))
theorem step7:DO Gl yd0 75 [.addr FAR 0,.d (.c (.i (Ix 7) true (o.ans 7)))] (stX (o.st 7)) (.new (.tok 194) [(FAR,15,.any)]) (stX (o.st 8)):=
 doX rfl (Acw S (o.st 7) 1 1 (o.c 1 1) (wrM rfl rfl rfl rfl rfl rfl (W.len 1 1 (by decide) (by decide)) (W.num 1 1 (by decide) (by decide))) (hands S W _ 1 1 rfl) (by kernel_rfl))
theorem step5:DO Gl yd0 75 [.addr FAR 0,.d (.c (.i (Ix 5) true (o.ans 5)))] (stX (o.st 5)) (.new (.tok 194) [(FAR,15,.any)]) (stX (o.st 6)):=
 doX rfl (Arj S o.s5 0 (o.rt 0) (pa5 W))
theorem step8:DO Gl yd0 75 [.addr FAR 0,.d (.c (.i (Ix 8) true (o.ans 8)))] (stX (o.st 8)) (.new (.tok 194) [(FAR,15,.any)]) (stX (o.st 9)):=
 doX rfl (Arj S o.s8 1 (o.rt 1) (pa8 W))
end
def Vm {o:Mo} (W:o.OK) {i k:Nat} (hi:i<2) (hk:k<2):(Hw (o.rt i) (o.c i k)).length=o.n i k:=by
 have h1:Sh (o.rt i) (o.c i k)=true:=by
  unfold Sh;rw[Ou (El o i) (rt_num W i),Ou (W.len i k hi hk) (W.num i k hi hk),W.len i k hi hk,El];rfl
 grind[Hw,Mo.n]
def Bgs (r l:List Int):(Hw r l).length<=r.length:=by
 grind[Hw,Cd,Um]
theorem Nf (o:Mo) (i k:Nat):o.n i k<=2:=by
 grind[El,Um,Mo.n,Cd]
def Adb {s:St} (h:∀x,(rv s x).length<=12) (c a:Int):Qf s c a<=12:=bJ (Bgs _ _) (h a)
def Mo.e (o:Mo):Nat->Nat
 |0=>o.n 1 0
 |1=>o.e1
 |_=>o.n 0 1
def shM:Nat->Nat
 |1=>2
 |_=>1
def er9 {o:Mo} (W:o.OK) (h:Nat) (hh:h<3):Dc o.s9 h (Ai o.s9).length=o.e h/\(Er o.s9 h (Ai o.s9).length).length=shM h:=by
 match h,hh with
 |0,_=>
  have:Dc o.s9 0 (Ai o.s9).length=(Hw (o.rt 1) (o.c 1 0)).length+0:=by trivial
  exact⟨this.trans (Vm W (by decide) (by decide)),by kernel_rfl⟩
 |1,_=>
  have:Dc o.s9 1 (Ai o.s9).length=(Hw (o.rt 0) (o.c 0 0)).length+((Hw (o.rt 1) (o.c 1 1)).length+0):=by trivial
  rw[Vm W (by decide) (by decide),Vm W (by decide) (by decide)]at this;exact⟨this,by kernel_rfl⟩
 |2,_=>
  have:Dc o.s9 2 (Ai o.s9).length=(Hw (o.rt 0) (o.c 0 1)).length+0:=by trivial
  exact⟨this.trans (Vm W (by decide) (by decide)),by kernel_rfl⟩
def Mo.s10 (o:Mo):St:=Lw o.s9 o.p1
def Mo.s11 (o:Mo):St:=Lw o.s10 o.p0
def er10 {o:Mo} (W:o.OK):Dc o.s10 0 (Ai o.s10).length=o.e 0/\(Er o.s10 0 (Ai o.s10).length).length=1:=by
 have:Dc o.s10 0 (Ai o.s10).length=(Hw (o.rt 1) (o.c 1 0)).length+0:=by trivial
 exact⟨this.trans (Vm W (by decide) (by decide)),by kernel_rfl⟩
def er11 {o:Mo} (W:o.OK) (h:Nat) (hh:h<3):Dc o.s11 h (Ai o.s11).length=(bif h==2 then o.e 2 else 0)/\(Er o.s11 h (Ai o.s11).length).length=bif h==2 then 1 else 0:=by
 match h,hh with
 |0,_=>exact⟨by kernel_rfl,by kernel_rfl⟩
 |1,_=>exact⟨by kernel_rfl,by kernel_rfl⟩
 |2,_=>
  have:Dc o.s11 2 (Ai o.s11).length=(Hw (o.rt 0) (o.c 0 1)).length+0:=by trivial
  exact⟨this.trans (Vm W (by decide) (by decide)),by kernel_rfl⟩
def line9 {o:Mo} (W:o.OK):Oo o.s9 o.p1=lnM 1 2 o.e1 (v1M o.e1):=by
 obtain⟨h1,h2⟩:=er9 W 1 (by decide);unfold Oo Si
 show (⟨1,((Er o.s9 (1:Nat) (Ai o.s9).length).length:Int),⟨Dc o.s9 (1:Nat) (Ai o.s9).length,Dc o.s9 (1:Nat) (Ai o.s9).length⟩,0,0,_,_,_,_⟩:Py.Line)=_
 rw[h1,h2];rfl
def Bgt {o:Mo} (W:o.OK):Oo o.s10 o.p0=lnM 0 1 (o.n 1 0) (v0M o.e1 (o.n 1 0)):=by
 obtain⟨h1,h2⟩:=er10 W;unfold Oo Si
 show (⟨0,((Er o.s10 0 (Ai o.s10).length).length:Int),⟨Dc o.s10 0 (Ai o.s10).length,Dc o.s10 0 (Ai o.s10).length⟩,0,0,_,_,_,_⟩:Py.Line)=_
 rw[h1,h2];rfl
def Aja {o:Mo} (W:o.OK):(suP o.s9 o.p1).y=b1M o.e1:=by
 show ({ exPB3 with lines:=exPB3.lines++[Oo o.s9 o.p1] }:Py.PBook)=_
 rw[line9 W];rfl
theorem Ajb {o:Mo} (W:o.OK):(suP o.s10 o.p0).y=b0M o.e1 (o.n 1 0):=by
 show ({ (suP o.s9 o.p1).y with lines:=(suP o.s9 o.p1).y.lines++[Oo o.s10 o.p0] }:Py.PBook)=_
 rw[Bgt W,Aja W];rfl
def okB (b:Py.PBook):Bool:=Py.okPB b&&My b
def b1_ok (e:Nat) (he:e<=4):okB (b1M e)=true:=aS.1 (show (List.range 5).all (λe=>okB (b1M e))=true by trivial) e (bB.2 (by omega))
def Ajc (e n:Nat) (he:e<=4) (hn:n<=2):okB (b0M e n)=true:=aS.1 (aS.1 (show (List.range 5).all (λe=>(List.range 3).all λn=>okB (b0M e n))=true by decide +kernel) e (bB.2 (by omega))) n (bB.2 (by omega))
def Qj (o:Mo):o.e1<=4:=by
 grind[Nf,Mo.e1]
def ri9 {o:Mo} {a:Int} (h:riD o.s9 [a]=true):a=0∨a=1:=by
 have h:(bif a==1 then some (o.rt 1) else bif a==0 then some (o.rt 0) else none).isSome=true:=h;grind
def Adc (o:Mo) (h:Nat) (hh:h<3) (a:Int) (h1:Ep o.s9 a h=true) (h2:riD o.s9 [a]=true):coD o.s9 [a,h]=true:=by
 match h,hh with
 |0,_=>
  rcases ri9 h2 with rfl|rfl
  ·cases h1
  ·rfl
 |1,_=>rcases ri9 h2 with rfl|rfl<;>rfl
 |2,_=>
  rcases ri9 h2 with rfl|rfl
  ·rfl
  ·cases h1
def py9 {o:Mo} (W:o.OK):PyOK o.s9 o.p1:=by
 have hb:=cO.1 (b1_ok o.e1 (Qj o));exact⟨rfl,aH rfl,Adc o 1 (by decide),Adb (rl9 o) 1,aH rfl,by rw[Aja W];exact hb.1,by rw[Aja W];exact hb.2⟩
def py10 {o:Mo} (W:o.OK):PyOK o.s10 o.p0:=by
 have hb:=cO.1 (Ajc o.e1 (o.n 1 0) (Qj o) (Nf o 1 0));exact⟨rfl,aH rfl,Adc o 0 (by decide),Adb (rl9 o) 0,aH rfl,by grind[Ajb],by grind[Ajb]⟩
theorem As7 {Gl} (S:SP Gl) {o:Mo} (W:o.OK) (k:Nat) (hk:k<11):DO Gl yd0 75 [.addr FAR 0,.d (.c (.i (Ix k) true (o.ans k)))] (stX (o.st k)) (.new (.tok 194) [(FAR,15,.any)]) (stX (o.st (k+1))):=
 Ad8 (P:=λk=>DO Gl yd0 75 [.addr FAR 0,.d (.c (.i (Ix k) true (o.ans k)))] (stX (o.st k)) (.new (.tok 194) [(FAR,15,.any)]) (stX (o.st (k+1)))) (step0 S W) (step1 S W) (step2 S W) (step3 S W) (step4 S W) (step5 S W) (step6 S W) (step7 S W) (step8 S W) (Arn S o.s9 o.p1 (py9 W)) (Arn S o.s10 o.p0 (py10 W)) k hk
def As8 {Gl} (S:SP Gl) (l:List Int) (h1:2<=l.length) (h2:l.length<=7) (h3:∀i,i<l.length->inR (nth l i) (-99999) 99999=true):CR Gl 68 [.d (.agg [Ci 5,.l eI l])] (B true):=by
 refine Ag S (let A0:=(-99999:Int);let P0:=λ(zz:Prop)=>CR Gl 148 [] (tA kC)/\((0:Int)<=5/\5<(↑(11:Nat):Int))/\zz;((rt (B (inR 5 1 10)) (.ff (rs [tA kC,tA kC] (.sure 25 (.sure 26 (.sure 27 (.tt (.loop l.length (λk=>v 35 (I k)::v 34 (I l.length)::v 33 (L eI l)::v 3 (I 2)::v 4 (I 7)::v 1 (ad 1)::bx 1 [Ci 5,C.l eI l]) λk0=>.br (.val 40 true (rt (B (inR (nth l k0) A0 99999)) (.ff .nil))) (rt (B (inR l.length 2 7)) .nil))))))))),(CR Gl 143 [I 5,I 1,I 10] (B (inR 5 1 10))/\false=false/\P0 (P0 (tt 4 (iR ((2:Int)+6)/\iR ((2:Int)+6-1)/\(l.length<=maxLen->(lz l.length (sR eI l/\(2:Int)=2/\(2:Int)+6-1=7/\(5:Int)=5/\sR eI l))/\∀(k0:Nat),k0<=l.length->(dt k0 l.length->(ix k0 l.length)/\inR (nth l k0) A0 99999=true/\CR Gl 143 [I (nth l k0),I A0,I 99999] (B (inR (nth l k0) A0 99999))/\false=false/\lq k0 l.length ((l.length:Int)=l.length/\sR eI l/\(2:Int)=2/\(7:Int)=7/\(5:Int)=5/\sR eI l))/\(df k0 l.length->l.length<=maxLen->CR Gl 143 [I l.length,I 2,I 7] (B (inR l.length 2 7))/\inR l.length 2 7=true)))))))) func68 ?_;simp only[stdS,aL,aB,and_true,aN,aK,Ad,Ap];grind[Iv,Yz,Bi]
def As9 {Gl} (S:SP Gl) (l:List Int) (h1:7<=l.length) (h2:l.length<=7) (h3:∀i,i<l.length->inR (nth l i) (-99999) 99999=true):CR Gl 68 [.d (.agg [Ci 6,.l eI l])] (B true):=by
 refine Ag S (let A0:=(-99999:Int);let P0:=λ(zz:Prop)=>CR Gl 148 [] (tA kC)/\((0:Int)<=6/\6<(↑(11:Nat):Int))/\zz;((rt (B (inR 6 1 10)) (.ff (rs [tA kC,tA kC] (.sure 25 (.sure 26 (.sure 27 (.ff (.loop l.length (λk=>v 35 (I k)::v 34 (I l.length)::v 33 (L eI l)::v 3 (I 7)::v 4 (I 7)::v 1 (ad 1)::bx 1 [Ci 6,C.l eI l]) λk0=>.br (.val 40 true (rt (B (inR (nth l k0) A0 99999)) (.ff .nil))) (rt (B (inR l.length 7 7)) .nil))))))))),(CR Gl 143 [I 6,I 1,I 10] (B (inR 6 1 10))/\false=false/\P0 (P0 (tt 3 (false=false/\(l.length<=maxLen->(lz l.length (sR eI l/\(7:Int)=7/\(7:Int)=7/\(6:Int)=6/\sR eI l))/\∀(k0:Nat),k0<=l.length->(dt k0 l.length->(ix k0 l.length)/\inR (nth l k0) A0 99999=true/\CR Gl 143 [I (nth l k0),I A0,I 99999] (B (inR (nth l k0) A0 99999))/\false=false/\lq k0 l.length ((l.length:Int)=l.length/\sR eI l/\(7:Int)=7/\(7:Int)=7/\(6:Int)=6/\sR eI l))/\(df k0 l.length->l.length<=maxLen->CR Gl 143 [I l.length,I 7,I 7] (B (inR l.length 7 7))/\inR l.length 7 7=true)))))))) func68 ?_;simp only[stdS,aL,aB,and_true,aN,aK,Ad,Ap];grind[Iv,Yz,Bi]
def Ov (l:List Int):Bool:=l.all λx=>inR x (-99999) 99999
def Qk {l:List Int} (h:Ov l=true) (i:Nat) (hi:i<l.length):inR (nth l i) (-99999) 99999=true:=aS.1 h _ (Fj hi)
def Ajd {l:List Int} (h:l.all num=true):Ov l=true:=aS.2 λx hx=>by
 grind[num,Bi]
def Add {x:Int} {l:List Int} (h:inR x (-99999) 99999=true) (hl:Ov l=true):Ov (x::l)=true:=by
 grind[Ov]
def Bgu (e:Nat) (he:e<=4):Ov (Ot 1 (v1M e))=true:=aS.1 (show (List.range 5).all (λe=>Ov (Ot 1 (v1M e)))=true by trivial) e (bB.2 (by omega))
def Bgv (e n:Nat) (he:e<=4) (hn:n<=2):Ov (Ot 0 (v0M e n))=true:=aS.1 (aS.1 (show (List.range 5).all (λe=>(List.range 3).all λn=>Ov (Ot 0 (v0M e n)))=true by trivial) e (bB.2 (by omega))) n (bB.2 (by omega))
theorem Asa {o:Mo} (W:o.OK) (k:Nat) (hk:k<11):1<=(o.ent k).nums.length/\(o.ent k).nums.length<=8/\((o.ent k).kind != 10)=true:=
 Ad8 (P:=λk=>1<=(o.ent k).nums.length/\(o.ent k).nums.length<=8/\((o.ent k).kind != 10)=true) ⟨aH rfl,aH rfl,rfl⟩ ⟨aH rfl,aH rfl,rfl⟩ ⟨aH rfl,aH rfl,rfl⟩
  ⟨dZ _ _,by show (o.c 0 0).length+1+1<=8;rw[W.len 0 0 (by decide) (by decide)];decide,rfl⟩ ⟨dZ _ _,by show (o.c 0 1).length+1+1<=8;rw[W.len 0 1 (by decide) (by decide)];decide,rfl⟩ ⟨dZ _ _,by show (o.rt 0).length+1<=8;rw[El];decide,rfl⟩
  ⟨dZ _ _,by show (o.c 1 0).length+1+1<=8;rw[W.len 1 0 (by decide) (by decide)];decide,rfl⟩ ⟨dZ _ _,by show (o.c 1 1).length+1+1<=8;rw[W.len 1 1 (by decide) (by decide)];decide,rfl⟩ ⟨dZ _ _,by show (o.rt 1).length+1<=8;rw[El];decide,rfl⟩
  ⟨aH rfl,aH rfl,rfl⟩ ⟨aH rfl,aH rfl,rfl⟩ k hk
def Asb:Yy suM=true:=by trivial
def Mo.x (o:Mo):Nat->T
 |0=>.d (.c (.v (.slice none 0 0)))
 |n+1=>.d (.c (.l Ab (o.MM (n+1))))
section
variable {Gl} (S:SP Gl) {o:Mo} (W:o.OK)
include S W
theorem Ade {a h:Int} {m:List Int} (h1:inR a (-99999) 99999=true) (h2:inR h (-99999) 99999=true) (hm:m.length=2) (hn:m.all num=true):CR Gl 68 [.d (.agg (Ab ⟨3,a::h::m⟩))] (B true):=
 Bdu S (a::h::m) (by simp[hm]) (by simp[hm]) (Qk (Add h1 (Add h2 (Ajd hn))))
theorem Asc (k:Nat) (hk:k<11):CR Gl 68 [.d (.agg (Ab (o.ent k)))] (B true):=
 Ad8 (P:=λk=>CR Gl 68 [.d (.agg (Ab (o.ent k)))] (B true))
  (Aqu S [0,1,2,0] (by decide) (by decide) (Qk rfl)) (Aqu S [1,0,1,2] (by decide) (by decide) (Qk rfl)) (Bdt S [40] (by decide) (by decide) (Qk rfl))
  (Ade S W rfl rfl (W.len 0 0 (by decide) (by decide)) (W.num 0 0 (by decide) (by decide))) (Ade S W rfl rfl (W.len 0 1 (by decide) (by decide)) (W.num 0 1 (by decide) (by decide)))
  (As8 S (0::o.rt 0) (by simp[El]) (by simp[El]) (Qk (Add rfl (Ajd (rt_num W 0)))))
  (Ade S W rfl rfl (W.len 1 0 (by decide) (by decide)) (W.num 1 0 (by decide) (by decide))) (Ade S W rfl rfl (W.len 1 1 (by decide) (by decide)) (W.num 1 1 (by decide) (by decide)))
  (As8 S (1::o.rt 1) (by simp[El]) (by simp[El]) (Qk (Add rfl (Ajd (rt_num W 1)))))
  (As9 S _ (aH rfl) (aH rfl) (Qk (Bgu o.e1 (Qj o)))) (As9 S _ (aH rfl) (aH rfl) (Qk (Bgv o.e1 (o.n 1 0) (Qj o) (Nf o 1 0)))) k hk
theorem Ql (n:Nat) (hn:n<=11):CO Gl 73 [.d (.agg (cS suM)),.d (.c (.l Ab (o.MM n)))] (Ex (Bt n) (o.st n)):=by
 have:=now73 S suM (o.MM n) o.st Ix o.ans (Aip Asb).1 (by rw[Qi];omega) (λi hi=>?_) rfl (λk hk=>?_) ansM (λk hk=>?_)
 ·rw[Qi]at this;exact this
 ·grind[Qi,As2,Asa]
 ·grind[Qi,As2,ofM]
 grind[Qi,As7]
theorem Adf (k:Nat) (hk:k<11):DO Gl yd0 23 [.addr FAR 0,.d (.agg (Ab (o.ent k)))] (Ay suM (o.x k)) (.ret (I 0)) [(FAR+3,16,o.x (k+1))]:=by
 obtain⟨n1,n2,n3⟩:=Asa W k hk;have hr:=attempt74_does (fst:=[]) rfl rfl (run72 S suM (Bt k) (o.MM k) (o.ent k) (o.st k) (o.st (k+1)) (Ix k) (o.ans k) (Ql S W k (by omega)) (by grind) (ofM S k hk) (ansM k) (As7 S W k hk)) .ok;cases k with
 |zero=>exact Bel S suM (o.ent 0) n1 n2 (Asc S W 0 hk) hr
 |succ k=>
  have:=Bem S suM (o.MM (k+1)) (o.ent (k+1)) 0 n1 n2 (by rw[Qi];omega) (by rw[Qi];omega) (by rw[Qi];simp;omega) (Asc S W (k+1) hk) hr;have e:(bif (0:Int)==0 then o.MM (k+1)++[o.ent (k+1)] else o.MM (k+1))=o.MM (k+2):=(Bgp o (k+1)).symm;rw[e]at this;exact this
end
def Bgw {Gl} (S:SP Gl) (su:Su) (k:Int) (nums:List Int) (l':List Ent) (h:DO Gl yd0 23 [.addr FAR 0,.d (.agg [Ci k,.l eI nums])] (Ay su (.d (.c (.v (.slice none 0 0))))) (.ret (I 0)) [(FAR+3,16,.d (.c (.l Ab l')))]):DO Gl yd0 26 [.addr FAR 0,I k,L eI nums] (Ay su (.d (.c (.v (.slice none 0 0))))) (.ret (B true)) [(FAR+3,16,.d (.c (.l Ab l')))]:=by
 refine Fp S (.w [(FAR,FAR)] [aF 0,tA [Ci k,C.l eI nums]] (Ay su (T.d (D.c cN))) (.ret (I 0)) [(FAR+3,16,L Ab l')] .nil) (k=k/\sR eI nums/\Value.slice none 0 0=Value.slice none 0 0/\tt 1 (zC (cS (su)) (DO Gl yd0 23 [aF 0,tA [Ci k,C.l eI nums]] (Ay su (T.d (D.c cN))) (.ret (I 0)) [(FAR+3,16,L Ab l')]/\tt 1 (sR Ab l'/\tt 1 (zC (List.take 15 (cS (su))) (SEq su.6.7.length (λi=>Py.eLine (nth su.6.7 i)) su.6.7.length λi=>Py.eLine (nth su.6.7 i))))))) func26 ?_;simp only[stdS,aL,aB,and_true];trivial
def Aje {Gl} (S:SP Gl) (su:Su) (k:Int) (nums:List Int) (l l':List Ent) (h:DO Gl yd0 23 [.addr FAR 0,.d (.agg [Ci k,.l eI nums])] (Ay su (.d (.c (.l Ab l)))) (.ret (I 0)) [(FAR+3,16,.d (.c (.l Ab l')))]):DO Gl yd0 26 [.addr FAR 0,I k,L eI nums] (Ay su (.d (.c (.l Ab l)))) (.ret (B true)) [(FAR+3,16,.d (.c (.l Ab l')))]:=by
 refine Fp S (.w [(FAR,FAR)] [aF 0,tA [Ci k,C.l eI nums]] (Ay su (L Ab l)) (.ret (I 0)) [(FAR+3,16,L Ab l')] .nil) (k=k/\sR eI nums/\sR Ab l/\tt 1 (zC (cS (su)) (DO Gl yd0 23 [aF 0,tA [Ci k,C.l eI nums]] (Ay su (L Ab l)) (.ret (I 0)) [(FAR+3,16,L Ab l')]/\tt 1 (sR Ab l'/\tt 1 (zC (List.take 15 (cS (su))) (SEq su.6.7.length (λi=>Py.eLine (nth su.6.7 i)) su.6.7.length λi=>Py.eLine (nth su.6.7 i))))))) func26 ?_;simp only[stdS,aL,aB,and_true];trivial
def Sl {Gl} (S:SP Gl) (su:Su) (k:Int) (nums out:List Int) (l:List Ent) (h:DO Gl yd0 85 [.addr FAR 0,.d (.agg [Ci k,.l eI nums])] (Ay su (.d (.c (.l Ab l)))) (.ret (.tup [.c (.l eI out),.c (Ci 0)])) []) (hs:CR Gl 20 [L eI out,L eI out] (B true)):DO Gl yd0 28 [.addr FAR 0,I k,L eI nums,L eI out] (Ay su (.d (.c (.l Ab l)))) (.ret (B true)) []:=by
 refine Bs S (let A1:=[aF 0,tA [Ci k,C.l eI nums]];let A0:=[D.c (C.l eI out),D.c (Ci 0)];((.w [(FAR,FAR)] A1 (Ay su (L Ab l)) (.ret (.tup A0)) [] (.sure 22 (.sure 23 (.sure 24 (rt (B true) .nil))))),(k=k/\sR eI nums/\sR Ab l/\tt 1 (zC (cS (su)) (DO Gl yd0 85 A1 (Ay su (L Ab l)) (.ret (.tup A0)) []/\tt 3 (CR Gl 20 [L eI out,L eI out] (B true)/\tt 1 (sR Ab l/\tt 1 (zC (List.take 15 (cS (su))) (SEq su.6.7.length (λi=>Py.eLine (nth su.6.7 i)) su.6.7.length λi=>Py.eLine (nth su.6.7 i)))))))))) func28 ?_;simp only[stdS,aL,aB,and_true];grind
noncomputable def Vn:List Code×(List Code×Code):=match Tryz.f29.body with|some c=>((Pn 6 c).1,Pn 1 (Pn 6 c).2)|none=>([],[],.skip)
def cu29B:Tryz.f29.body=some (Hm Vn.1 (Hm Vn.2.1 Vn.2.2)):=by kernel_rfl
def ln0 (h s e:Int):Py.Line:=⟨h,s,⟨e,e⟩,0,0,0,0,0,0⟩
def lnP (h s e x:Int):Py.Line:=⟨h,s,⟨e,e⟩,0,0,x.tdiv 960,(x.tmod 960).tdiv 48,((x.tmod 960).tmod 48).tdiv 4,(((x.tmod 960).tmod 48).tmod 4).tdiv 1⟩
def z70:List C:=[Ci 0,Ci 0,Ci 0,Ci 0,Ci 0,Ci 0,.v (.slice none 0 0)]
def bC (b:Py.PBook):List C:=[Ci b.hands,Ci b.unit,Ci b.sheet,Ci b.error,Ci b.morn,Ci b.post]
def E29 (b:Py.PBook) (h:Int) (x:Int) (y:T):Env:=v 2 (I h)::v 12 (ad 12)::v 15 (ad 15)::v 16 (I 0)::v 10 (ad 10)::v 11 (B false)::(15,6,y)::(bx 12 (bC b)++(bx 15 (Py.monL x)++bx 10 z70))
def paysX {Gl} (S:SP Gl) {b:Py.PBook} {l:Py.Line} {er:List Int} (W:Py.TrOK (bkM b l) er) (m:Nat) (f:Nat->List C) (hf:SEq m f (bkM b l).lines.length λi=>Py.eLine (nth (bkM b l).lines i)):CR Gl 86 [.d (.agg (bC b++[.s .n m f])),L eI er] (.tup [.c (.l eI (Py.paysL (bkM b l) er)),.c (Ci 0)]):=
 (Py.pays86 S (bkM b l) er W).args ⟨rfl,rfl,rfl,rfl,rfl,rfl,hf,.of ⟨rfl,λ_ _=>rfl⟩⟩
def Bgx {Gl} (S:SP Gl) {x:Int} (hv:inR x 0 959999=true) (y:Int) (hy:y=x):CR Gl 87 [I y] (.tup [.agg (Py.monL x),.c (Ci 0)]):=by grind[Py.money87]
def entX {Gl:World->Prop} {k:Int} {nums:List Int} {c9 post:Env} (hE:DO Gl yd0 26 [.addr FAR 0,I k,L eI nums] c9 (.ret (B true)) post) (m:Nat) (f:Nat->List C) (hf:SEq m f nums.length λi=>eI (nth nums i)):DO Gl yd0 26 [.addr FAR 0,I k,.d (.c (.s .n m f))] c9 (.ret (B true)) post:=
 hE.args ⟨rfl,hf⟩
theorem Bgy {Gl} (S:SP Gl) (su:Su) (l l':List Ent) (b:Py.PBook) (h s e x:Int) (er:List Int) (hl:er.length=b.lines.length+1) (hb:b.lines.length<=5) (he:nth er b.lines.length=e) (W:Py.TrOK (bkM b (ln0 h s e)) er) (hx:Ad7 (bkM b (ln0 h s e)) er=x) (hv:inR x 0 959999=true) (i9:(((Py.paysL (bkM b (ln0 h s e)) er).length:Int) != ((b.lines.length+1:Nat):Int))=false) (hE:DO Gl yd0 26 [.addr FAR 0,I 6,L eI (Ot h x)] (Ay su (.d (.c (.l Ab l)))) (.ret (B true)) [(FAR+3,16,.d (.c (.l Ab l')))]):DO Gl yd0 29 (.addr FAR 0::[.d (.agg (Py.cPB b)),I h,I s,L eI er]) (Ay su (.d (.c (.l Ab l)))) (.ret (.tup [.agg (Py.cPB (bkM b (lnP h s e x))),.c (Cb true)])) [(FAR+3,16,.d (.c (.l Ab l')))]:=by
 refine Awz S (xs1:=Vn.1) (xs2:=Vn.2.1) (tl:=Vn.2.2) (xs:=[.d (.agg (Py.cPB b)),I h,I s,L eI er]) (E1:=(E29 b h x (Lt 901 Py.eLine (bkM b (ln0 h s e)).lines)++[tk 901 194])) (E2:=λbb=>(Anc 15 6 901 13 10 (b.lines.length+1) (λi=>Py.eLine (nth (bkM b (ln0 h s e)).lines i)) ((0,0,ptrT bb)::(E29 b h x (Lt 901 Py.eLine (bkM b (ln0 h s e)).lines)++[tk 901 194])))) (E3:=((2,13,.arrc false 10 (b.lines.length+1) λi=>Py.eLine (nth (bkM b (lnP h s e x)).lines i))::E29 b h x (.arr 13 (b.lines.length+1)))) (.r (.ret (T.d (D.agg (Ae (Span.mk (nth er (Int.toNat ((er.length:Int)-1))) (nth er (Int.toNat ((er.length:Int)-1)))))))) (.r (.ret (.tup [D.c (C.l eI (Py.paysL (bkM b (ln0 h s e)) er)),D.c (Ci 0)])) (.sure 43 (.sure 44 (.sure 45 (.sure 46 (.sure 47 (.val 48 false (.sure 48 (.ff (.r (.ret (.tup [D.agg (Py.monL x),D.c (Ci 0)])) .nil))))))))))) (.nil) (let A0:=Int.tmod (Int.tmod x 960) 48;.sure 74 (.sure 75 (.sure 76 (.sure 77 (.sure 78 (.sure 79 (.sure 80 (.sure 81 (.sure 82 (.sure 83 (.sure 84 (.sure 85 (.w [(FAR,FAR)] [T.addr FAR 0,I 6,T.d (D.c (C.s Tag.n 7 λi=>List.getD [mI h,mI 0,mI 0,mI (Int.tdiv x 960),mI (Int.tdiv (Int.tmod x 960) 48),mI (Int.tdiv A0 4),mI (Int.tdiv (Int.tmod A0 4) 1)] i []))] (Ay su (T.d (D.c (C.l Ab l)))) (.ret (B true)) [(FAR+(3:Nat),(16:Nat),T.d (D.c (C.l Ab l')))] .nil))))))))))))) func29 (by kernel_rfl) cu29B (by kernel_rfl) (let A7:=Int.tmod x 960;let A6:=b.7.length+1;let A5:=(er.length:Int);let A4:=Int.tmod A7 48;let A2:=nth er (Int.toNat (A5-1));let A1:=An b.7.length (λi=>Py.eLine (nth b.7 i)) λi=>List.getD [List.map C.dem (List.map C.dem [Ci h,Ci s,Ci A2,Ci A2,Ci 0,Ci 0,Ci 0,Ci 0,Ci 0,Ci 0])] i [];let A0:=Py.paysL (bkM b (ln0 h s e)) er;let A3:=(↑(List.length A0):Int);λbb=>b.7.length*80<=140737488355328/\b.7.length<=(140737488355328:Nat)/\(er.length<=maxLen->iR (A5-1)/\(0<=A5-1/\A5-1<er.length)/\CR Gl 8 [I A2] (T.d (D.agg (Ae (Span.mk A2 A2))))/\A6*80<=140737488355328/\b.7.length+1<=140737488355328/\CR Gl 86 [T.d (D.agg (bC b++[C.s Tag.n A6 A1])),L eI er] (.tup [D.c (C.l eI A0),D.c (Ci 0)])/\true=true/\true=true/\(List.length A0<=maxLen->true=true/\true=true/\true=true/\(b.7.length+(1:Nat)<=maxLen->(A3 != (↑A6:Int))=false/\true=true/\false=false/\(List.length A0<=maxLen->iR (A3-1)/\(0<=A3-1/\A3-1<A3)/\CR Gl 87 [I (nth A0 (Int.toNat (A3-1)))] (.tup [D.agg (Py.monL x),D.c (Ci 0)])/\Value.pointer (some (Addr.mk bb 0 none))=Value.pointer (some (Addr.mk bb 0 none))/\h=h/\(0:Int)=0/\false=false/\(SEq A6 A1 (List.length (b.7++[ln0 h s e])) λi=>Py.eLine (nth (b.7++[ln0 h s e]) i))/\b.1=b.1/\b.2=b.2/\b.3=b.3/\b.4=b.4/\b.5=b.5/\b.6=b.6/\Int.tdiv x 960=Int.tdiv x 960/\Int.tdiv A7 48=Int.tdiv A7 48/\Int.tdiv A4 4=Int.tdiv A4 4/\Int.tdiv (Int.tmod A4 4) 1=Int.tdiv (Int.tmod A4 4) 1/\(0:Int)=0/\(0:Int)=0/\(0:Int)=0/\(0:Int)=0/\(0:Int)=0/\(0:Int)=0/\Value.slice none 0 0=Value.slice none 0 0))))) (let A2:=Int.tmod x 960;let A1:=(↑(b.7.length+1):Int);let A0:=Int.tmod A2 48;λbb=>b.7.length+(1:Nat)<=maxLen->iR (A1-1)/\(0<=A1-1/\A1-1<A1)/\Int.toNat (A1-1)<b.7.length+(1:Nat)/\Value.pointer (some (Addr.mk bb 0 none))=Value.pointer (some (Addr.mk bb 0 none))/\(SEq (b.7.length+1) (Es (λi=>Py.eLine (nth (b.7++[ln0 h s e]) i)) (Int.toNat (A1-1)) (Sp 6 (List.map C.dem (List.map C.dem [Ci (Int.tdiv x 960),Ci (Int.tdiv A2 48),Ci (Int.tdiv A0 4),Ci (Int.tdiv (Int.tmod A0 4) 1)])) (Py.eLine (nth (b.7++[ln0 h s e]) (Int.toNat (A1-1)))))) (b.7.length+1) λi=>Py.eLine (nth (b.7++[lnP h s e x]) i))/\h=h/\(0:Int)=0/\false=false/\b.7.length+(1:Nat)=b.7.length+1/\b.1=b.1/\b.2=b.2/\b.3=b.3/\b.4=b.4/\b.5=b.5/\b.6=b.6/\Int.tdiv x 960=Int.tdiv x 960/\Int.tdiv A2 48=Int.tdiv A2 48/\Int.tdiv A0 4=Int.tdiv A0 4/\Int.tdiv (Int.tmod A0 4) 1=Int.tdiv (Int.tmod A0 4) 1/\(0:Int)=0/\(0:Int)=0/\(0:Int)=0/\(0:Int)=0/\(0:Int)=0/\(0:Int)=0/\Value.slice none 0 0=Value.slice none 0 0) (let A3:=Int.tmod (Int.tmod x 960) 48;let A2:=b.7++[lnP h s e x];let A1:=SEq su.6.7.length (λi=>Py.eLine (nth su.6.7 i)) su.6.7.length λi=>Py.eLine (nth su.6.7 i);let A0:=[mI h,mI 0,mI 0,mI (Int.tdiv x 960),mI (Int.tdiv (Int.tmod x 960) 48),mI (Int.tdiv A3 4),mI (Int.tdiv (Int.tmod A3 4) 1)];let P0:=λ(zz:Prop)=>true=true/\(sR Ae su.1.1)/\su.1.2=su.1.2/\su.1.3=su.1.3/\(SEq su.2.1.length (λi=>Gv.eComp (nth su.2.1 i)) su.2.1.length λi=>Gv.eComp (nth su.2.1 i))/\(sR eI su.2.2)/\(sR eI su.2.3)/\su.3=su.3/\su.4=su.4/\(sR eCp su.5)/\su.6.1=su.6.1/\su.6.2=su.6.2/\su.6.3=su.6.3/\su.6.4=su.6.4/\su.6.5=su.6.5/\su.6.6=su.6.6/\zz;let P1:=λ(zz:Prop)=>true=true/\true=true/\zz;b.7.length+(1:Nat)=b.7.length+1/\P1 (P1 (P1 (P1 (P1 (P1 ((6:Int)=6/\(SEq 7 (λi=>List.getD A0 i []) 7 λi=>List.getD A0 i [])/\(sR Ab l)/\P0 (A1/\DO Gl yd0 26 [T.addr FAR 0,I 6,T.d (D.c (C.s Tag.n 7 λi=>List.getD A0 i []))] (Ay su (T.d (D.c (C.l Ab l)))) (.ret (B true)) [(FAR+(3:Nat),(16:Nat),T.d (D.c (C.l Ab l')))]/\(b.1=b.1/\b.2=b.2/\b.3=b.3/\b.4=b.4/\b.5=b.5/\b.6=b.6/\(SEq (b.7.length+1) (λi=>Py.eLine (nth A2 i)) (List.length A2) λi=>Py.eLine (nth A2 i))/\true=true)/\(sR Ab l')/\P0 A1)))))))) (λbb=>by kernel_rfl) (λbb=>by kernel_rfl) (by kernel_rfl) (λbb=>?_) (λbb=>?_) ?_ (λbb X w0 a w G hJ R=>R.untokP hJ (el:=194) (by show Lt 901 Py.eLine (b.lines++[ln0 h s e])=_;rw[show (b.lines.length+1:Nat)=(b.lines++[ln0 h s e]).length by simp];rfl) (by decide) rfl (by kernel_rfl) (by decide) (by omega) (λi _ c hc=>by simp only[Py.eLine,eL,eP,or_false]at hc;grind) (by decide) rfl (by decide) rfl)
 ·have je:(Py.paysL (bkM b (ln0 h s e)) er).length=b.lines.length+1:=by grind
  have e1:((er.length:Int)-1).toNat=b.lines.length:=by omega
  have e2:(((Py.paysL (bkM b (ln0 h s e)) er).length:Int)-1).toNat=(bkM b (ln0 h s e)).lines.length-1:=by rw[je];show _=(b.lines++[ln0 h s e]).length-1;simp
  have q:=Eb (f:=Py.eLine) (l:=b.lines) (r:=b.lines++[ln0 h s e]) (x:=ln0 h s e) rfl rfl
  simp only[stdS,aL,aB,and_true,Ad,Ap,e1,he]
  have e3:nth (Py.paysL (bkM b (ln0 h s e)) er) (((Py.paysL (bkM b (ln0 h s e)) er).length:Int)-1).toNat=x:=by rw[e2];exact hx
  exact⟨by omega,by omega,λ_=>⟨by omega,by omega,one8 S e,by omega,by omega,paysX S W _ _ q,λ_ _=>⟨i9,λ_=>⟨by omega,by omega,Bgx S hv _ e3,q,trivial⟩⟩⟩⟩
 ·have e1:(((b.lines.length+1:Nat):Int)-1).toNat=b.lines.length:=by omega
  simp only[stdS,aL,aB,and_true,Ad,Ap,e1]
  have hn:nth (b.lines++[ln0 h s e]) b.lines.length=ln0 h s e:=by rw[Km (aI _),eK];rfl
  refine λ_=>⟨by omega,by omega,by omega,.of ⟨rfl,λi hi=>?_⟩,trivial⟩
  rw[Aah]
  show _=Py.eLine (nth (b.lines++[lnP h s e x]) i)
  by_cases h1:i=b.lines.length
  ·rw[bG h1,hn,h1,Km (aI _),eK];rfl
  grind[Mn]
 ·simp only[stdS,aL,aB,and_true]
  exact⟨entX hE _ _ (.of ⟨rfl,λi hi=>match i,hi with|0,_=>rfl|1,_=>rfl|2,_=>rfl|3,_=>rfl|4,_=>rfl|5,_=>rfl|6,_=>rfl⟩),⟨.of ⟨by simp,λ_ _=>rfl⟩,trivial⟩,trivial⟩
end Go.Vc.Zn.Rm
namespace Go.Vc.Zn.Rm
open Go Go.Proofs Go.Vc Go.RowKit
def rtA (a d:Int):Nat->List Int:=(⟨a,d,λ_ _=>[]⟩:Mo).rt
def Lx (r:List Int) (k:Nat) (kind:Int) (sec:Bool):Int:=bif Ch r k kind then Gn r k kind sec else nth r k
def Ng (t ks:List Int) (sec:List Bool):Mo:=
 ⟨nth t 0,nth t 1,λi k=>(List.range 2).map λr=>Lx (rtA (nth t 0) (nth t 1) i) r (nth ks (4*i+2*k+r)) (nth sec (4*i+2*k+r))⟩
def Adg (a d:Int) (i r:Nat) (kind:Int) (sec:Bool):Bool:=
 num (Lx (rtA a d i) r kind sec)&&(Lx (rtA a d i) r kind sec==nth (rtA a d i) r||(Bm (rtA a d i) r).kind (Lx (rtA a d i) r kind sec) != 0)
def Ajg (a d:Int):Bool:=(List.range 2).all λi=>(List.range 2).all λr=>(List.range 4).all λk=>Adg a d i r ((k:Int)+1) false&&Adg a d i r ((k:Int)+1) true
def Bgz {a d:Int} (h1:120<=a/\a<=122) (h2:4<=d/\d<=6):Ajg a d=true:=fin9 (P:=Ajg) (by decide +kernel) h1 h2
theorem Bh0 {a d:Int} (h1:120<=a/\a<=122) (h2:4<=d/\d<=6) (i r:Nat) (hr:r<2):num (nth (rtA a d i) r)=true:=by
 unfold rtA Mo.rt
 match r,hr with
 |0,_=>split<;>exact Bi.2 (by show -999<=(_:Int)/\(_:Int)<=999;first|(show -999<=a/\a<=999;omega)|(show -999<=a+d+d/\a+d+d<=999;omega))
 |1,_=>split<;>exact Bi.2 (by first|(show -999<=a+d/\a+d<=999;omega)|(show -999<=a+d+d+d/\a+d+d+d<=999;omega))
def Bh1 {a d:Int} (h1:120<=a/\a<=122) (h2:4<=d/\d<=6) (i r:Nat) (hi:i<2) (hr:r<2) (kind:Int) (sec:Bool):Adg a d i r kind sec=true:=by
 have h:=Bgz h1 h2;unfold Ajg at h;have h:=aS.1 (aS.1 h i (bB.2 hi)) r (bB.2 hr)
 by_cases hk:1<=kind/\kind<=4
 ·have h:=aS.1 h (kind - 1).toNat (bB.2 (by omega))
  rw[show (((kind - 1).toNat:Nat):Int)+1=kind by omega,aE]at h;cases sec
  ·exact h.1
  ·exact h.2
 grind[Ch,Hd,Adg,Lx,Bh0]
def Asd {t:List Int} (h:Cu Ds t=true):t.length=2/\(120<=nth t 0/\nth t 0<=122)/\(4<=nth t 1/\nth t 1<=6):=by
 unfold Cu at h;simp only[aE,dI]at h;have hl:t.length=2:=h.1;rw[hl]at h;have h0:=aS.1 h.2 0 (by simp);have h1:=aS.1 h.2 1 (by simp);exact⟨hl,Bi.1 h0,Bi.1 h1⟩
def mo_ok {t ks:List Int} {sec:List Bool} (h:Cu Ds t=true):(Ng t ks sec).OK:=by
 obtain⟨_,h1,h2⟩:=Asd h
 have hf:∀i k r,i<2->r<2->num (Lx (rtA (nth t 0) (nth t 1) i) r (nth ks (4*i+2*k+r)) (nth sec (4*i+2*k+r)))=true/\(Lx (rtA (nth t 0) (nth t 1) i) r (nth ks (4*i+2*k+r)) (nth sec (4*i+2*k+r))==nth (rtA (nth t 0) (nth t 1) i) r||(Bm (rtA (nth t 0) (nth t 1) i) r).kind (Lx (rtA (nth t 0) (nth t 1) i) r (nth ks (4*i+2*k+r)) (nth sec (4*i+2*k+r))) != 0)=true:=λi k r hi hr=>
  cO.1 (Bh1 h1 h2 i r hi hr (nth ks (4*i+2*k+r)) (nth sec (4*i+2*k+r)))
 refine⟨h1,h2,λi k _ _=>by trivial,λi k hi hk=>?_,λi k hi hk=>?_⟩
 ·grind[Ng]
 ·unfold Dw;rw[El]
  show [0,1].all (Jh _ _)=true
  simp only[iE,List.all_nil,iF,aE];exact⟨(hf i k 0 hi (by decide)).2,(hf i k 1 hi (by decide)).2⟩
end Go.Vc.Zn.Rm
namespace Go.Vc.Zn
open Go Go.Proofs Go.Vc Go.RowKit
def in46 {Gl} (S:SP Gl) (x lo hi:Int):CR Gl 46 [I x,I lo,I hi] (B (inR x lo hi)):=by
 refine Ag S (let A0:=eqB (decide (lo<=x)) true=true->eqB (decide (lo<=x)) true=true;((.nil),(A0/\A0/\(decide (lo<=x)=true->eqB (decide (lo<=x)) true=true)/\(bif decide (lo<=x) then decide (x<=hi) else false)=inR x lo hi))) Tryz.func46 ?_;simp only[stdS,aL,aB,and_true,inR]
theorem Ase {Gl} (S:SP Gl) (p:Plan) (t:List Int):CR Gl 14 [Cn p,L eI t] (B (Cu p t)):=by
 refine Ag S (let A2:=λ(k0:Nat)=>nth p.1 k0;let A1:=((t.length:Int) != (p.1.length:Int));let A0:=List.range t.length;((.br .nil (.loop (Bl (Mw p t) A0) (λk=>v 5 (I k)::v 1 (L eI t)::v 2 (ad 2)::bx 2 (Ca p)) λk0=>.br (rt (B (inR (nth t k0) (A2 k0).1 (A2 k0).2)) (.br .nil .nil)) .nil)),(t.length<=maxLen->p.1.length<=maxLen->(A1=true->false=Cu p t)/\(A1=false->(0=(↑(0:Nat):Int)/\sR eI t/\sR Ae p.1/\p.2=p.2/\p.3=p.3)/\∀(k0:Nat),k0<=Bl (Mw p t) A0->t.length<=maxLen->(decide ((k0:Int)<t.length)=true->(0<=(k0:Int)/\(k0:Int)<t.length)/\(0<=(k0:Int)/\(k0:Int)<p.1.length)/\(0<=(k0:Int)/\(k0:Int)<p.1.length)/\CR Gl 46 [I (nth t k0),I (A2 k0).1,I (A2 k0).2] (B (inR (nth t k0) (A2 k0).1 (A2 k0).2))/\((!inR (nth t k0) (A2 k0).1 (A2 k0).2)=true->false=Cu p t)/\((!inR (nth t k0) (A2 k0).1 (A2 k0).2)=false->iR ((k0:Int)+1)/\k0<Bl (Mw p t) A0/\(k0:Int)+1=(↑(k0+1):Int)/\sR eI t/\sR Ae p.1/\p.2=p.2/\p.3=p.3))/\(decide ((k0:Int)<t.length)=false->true=Cu p t))))) Tryz.func14 ?_;dsimp only;intro hm qr;rw[Ap]at hm qr;refine⟨λh=>?_,λh=>⟨⟨rfl,.of ⟨rfl,λ_ _=>rfl⟩,.of ⟨rfl,λ_ _=>rfl⟩,rfl,rfl⟩,λk hk _=>⟨λhd=>?_,λhd=>?_⟩⟩⟩
 ·grind[Cu]
 ·have hl:t.length=p.starts.length:=by grind
  have hlt2:k<t.length:=by grind
  have hlt:k<(List.range t.length).length:=by grind
  refine⟨by omega,by omega,by omega,in46 S _ _ _,λhb=>?_,λhb=>⟨(Ad _).2 (by omega),Fq hk hlt ?_,by omega,.of ⟨rfl,λ_ _=>rfl⟩,.of ⟨rfl,λ_ _=>rfl⟩,rfl,rfl⟩⟩
  ·grind[Mw,Cc,Cu,Ui]
  grind[Cc,Mw]
 grind[Jg,Cu]
end Go.Vc.Zn
namespace Go.Vc.Zn.Rm
open Go Go.Proofs Go.Vc Go.RowKit
def eBo (b:Bool):List C:=[Cb b]
def su2 (s:Su):Su:={ s with e:=2 }
def Mo.D (o:Mo) (i k:Nat):List Ent:=o.MM (3+3*i+k)
def Mo.Q (o:Mo) (k:Nat):List Ent:=o.MM (10+k)
def shN:Nat->Nat->Int
 |0,_=>0
 |n+1,h=>shN n h+bif hdM (n / 2) (n % 2)==(h:Int) then 1 else 0
def Mo.erN (o:Mo):Nat->Nat->Int
 |0,_=>0
 |n+1,h=>o.erN n h+bif hdM (n / 2) (n % 2)==(h:Int) then (o.n (n / 2) (n % 2):Int) else 0
def shF (i k h:Nat):Int:=shN (2*i+k) h
def Mo.erF (o:Mo) (i k h:Nat):Int:=o.erN (2*i+k) h
def Mo.w (o:Mo) (i k r j:Nat):Int:=bif Nat.blt j r then nth (o.c i k) j else nth (o.rt i) j
structure Mq (t ks:List Int) (sec:List Bool) (s:Su) (pl:List Gv.Task) (T:List Int) (o:Mo):Prop where
 k1:((t.length:Int) != 2)=false
 k2:((ks.length:Int) != 8)=false
 k3:((sec.length:Int) != 8)=false
 k4:Cu s.p t=true
 es:s=⟨Ds,Kf,1,2,Jn,exPB3⟩
 ep:pl=[⟨1,2,0⟩,⟨0,1,2⟩]
 eo:o=Ng t ks sec
 eT:T=o.tab
 k5:((T.length:Int) != 4)=false
 k6:((pl.length:Int) != 2)=false
section
variable {Gl:World->Prop}
variable (S:Set Tryz.prog Y Gl)
variable {t ks:List Int} {sec:List Bool} {s:Su} {pl:List Gv.Task} {T:List Int} {o:Mo} (q:Mq t ks sec s pl T o)
include q
theorem Mq.ok:o.OK:=by
 have h:=q.k4;rw[q.es]at h;rw[q.eo];exact mo_ok h
theorem Mq.su:su2 s=suM:=by rw[q.es];rfl
include S
theorem Bh2:CR Gl 21 [] (.d (.agg (cS s))):=by rw[q.es];exact Aqn S
theorem Bh3:CR Gl 14 [Cn s.p,L eI t] (B true):=by have:=Ase S s.p t;rw[q.k4]at this;exact this
theorem tabM:CR Gl 9 [Cn s.p,L eI t] (.tup [.c (.l eI T),.c (Ci 0)]):=by
 have h4:=q.k4;have e:Ec t 4=T:=by
  rw[q.eT,q.eo];rw[q.es]at h4;have hl:=(Asd h4).1
  match t,hl with
  | [a,d],_=>rfl
 have hp:s.p=Ds:=by rw[q.es]
 rw[hp]at h4 ⊢;have:=Azt S Ds t Ada h4;rw[show (Ds.rows).toNat=4 from rfl,e]at this;exact this
theorem Bh4:CR Gl 25 [Gv.tBook s.b] (.tup [.c (.l Gv.eTask pl),.c (Ci 0)]):=by
 have hb:s.b=Kf:=by rw[q.es]
 rw[hb,q.ep];have:=Gv.first49 S Kf Bgr;trivial
theorem openM:CO Gl 22 [.d (.agg (cS (su2 s)))] (.new (.tpl [.addr 10 0,I 0]) ((2,10,live)::(Dt 10 0 (cS (su2 s))++[(13,16,.d (.c (.v (.slice none 0 0)))),(13,17,B true)]))):=by
 rw[q.su];exact Bds S suM Asb
theorem Qm (n:Nat) (hn:n<10) (m:Nat) (f:Nat->List C) (hf:SEq m f (o.ent (n+1)).nums.length λi=>eI (nth (o.ent (n+1)).nums i)):DO Gl yd0 26 [.addr FAR 0,I (o.ent (n+1)).kind,.d (.c (.s .n m f))] (Ay (su2 s) (.d (.c (.l Ab (o.MM (n+1)))))) (.ret (B true)) [(FAR+3,16,.d (.c (.l Ab (o.MM (n+2)))))]:=by
 rw[q.su];exact entX (Aje S suM (o.ent (n+1)).kind (o.ent (n+1)).nums (o.MM (n+1)) (o.MM (n+2)) (Adf S q.ok (n+1) (by omega))) m f hf
theorem Bh5 (m:Nat) (f:Nat->List C) (hf:SEq m f 4 λi=>eI (nth [0,1,2,0] i)):DO Gl yd0 26 [.addr FAR 0,I 2,.d (.c (.s .n m f))] (Ay (su2 s) (.d (.c (.v (.slice none 0 0))))) (.ret (B true)) [(FAR+3,16,.d (.c (.l Ab (o.MM 1))))]:=by
 rw[q.su];exact entX (Bgw S suM 2 [0,1,2,0] (o.MM 1) (Adf S q.ok 0 (by decide))) m f hf
theorem Bh6 (m:Nat) (f:Nat->List C) (hf:SEq m f 4 λi=>eI (nth [1,0,1,2] i)):DO Gl yd0 26 [.addr FAR 0,I 2,.d (.c (.s .n m f))] (Ay (su2 s) (.d (.c (.l Ab (o.MM 1))))) (.ret (B true)) [(FAR+3,16,.d (.c (.l Ab (o.MM 2))))]:=Qm S q 0 (by decide) m f hf
theorem waitM (m:Nat) (f:Nat->List C) (hf:SEq m f 1 λi=>eI (nth [40] i)):DO Gl yd0 26 [.addr FAR 0,I 1,.d (.c (.s .n m f))] (Ay (su2 s) (.d (.c (.l Ab (o.MM 2))))) (.ret (B true)) [(FAR+3,16,.d (.c (.l Ab (o.D 0 0))))]:=Qm S q 1 (by decide) m f hf
theorem colM (i k:Nat) (hi:i<2) (hk:k<2) (m:Nat) (f:Nat->List C) (hf:SEq m f 4 λj=>eI (nth ((i:Int)::hdM i k::o.c i k) j)):DO Gl yd0 26 [.addr FAR 0,I 3,.d (.c (.s .n m f))] (Ay (su2 s) (.d (.c (.l Ab (o.D i k))))) (.ret (B true)) [(FAR+3,16,.d (.c (.l Ab (o.D i (k+1)))))]:=by
 have hl:=q.ok.len i k hi hk
 match i,k,hi,hk with
 |0,0,_,_=>exact Qm S q 2 (by decide) m f (by show SEq m f ((o.c 0 0).length+1+1) _;rw[hl];exact hf)
 |0,1,_,_=>exact Qm S q 3 (by decide) m f (by show SEq m f ((o.c 0 1).length+1+1) _;rw[hl];exact hf)
 |1,0,_,_=>exact Qm S q 5 (by decide) m f (by show SEq m f ((o.c 1 0).length+1+1) _;rw[hl];exact hf)
 |1,1,_,_=>exact Qm S q 6 (by decide) m f (by show SEq m f ((o.c 1 1).length+1+1) _;rw[hl];exact hf)
theorem passM (i:Nat) (hi:i<2) (m:Nat) (f:Nat->List C) (hf:SEq m f 3 λj=>eI (nth ((i:Int)::o.rt i) j)):DO Gl yd0 26 [.addr FAR 0,I 5,.d (.c (.s .n m f))] (Ay (su2 s) (.d (.c (.l Ab (o.D i 2))))) (.ret (B true)) [(FAR+3,16,.d (.c (.l Ab (o.D (i+1) 0))))]:=by
 match i,hi with
 |0,_=>exact Qm S q 4 (by decide) m f hf
 |1,_=>exact Qm S q 7 (by decide) m f hf
theorem errsM (i k:Nat) (hi:i<2) (hk:k<2) (m:Nat) (f:Nat->List C) (hf:SEq m f 2 λj=>eI (nth (o.c i k) j)):CR Gl 10 [L eI (o.rt i),.d (.c (.s .n m f))] (.tup [.c (.l Dj (Cd (o.rt i) (o.c i k))),.c (Ci 0)]):=by
 have W:=q.ok;have h:=Arb S (o.rt i) (o.c i k);have hc:Sh (o.rt i) (o.c i k)=true:=by
  unfold Sh;rw[Ou (El o i) (rt_num W i),Ou (W.len i k hi hk) (W.num i k hi hk),W.len i k hi hk,El];rfl
 unfold Hw errE at h;rw[hc,W.err i k hi hk]at h;exact h.args ⟨.of ⟨rfl,λ_ _=>rfl⟩,by show SEq m f (o.c i k).length _;rw[W.len i k hi hk];exact hf⟩
theorem Asf (i r:Nat) (hr:r<2) (kind:Int) (sc:Bool):CR Gl 27 [L eI (o.rt i),I r,I kind,B sc] (.tup [.c (Ci (bif Ch (o.rt i) r kind then Gn (o.rt i) r kind sc else 0)),.c (Cb (Ch (o.rt i) r kind))]):=
 Aym S (o.rt i) r kind sc (by rw[El];exact hr) (by rw[El];decide) (rt_num q.ok i)
theorem Asg (i k r:Nat) (hi:i<2) (hk:k<2) (hr:r=2):CR Gl 10 [L eI (o.rt i),.d (.c (.s .n 2 λj=>eI (o.w i k r j)))] (.tup [.c (.l Dj (Cd (o.rt i) (o.c i k))),.c (Ci 0)]):=by
 subst hr;refine errsM S q i k hi hk 2 _ (.of ⟨rfl,λj hj=>?_⟩)
 show eI (o.w i k 2 j)=eI (nth (o.c i k) j)
 unfold Mo.w;rw[show Nat.blt j 2=true by simpa using hj]
 rfl
omit S in
theorem handM (i:Nat):(decide ((nth pl i).one<0)=false/\decide (2<(nth pl i).one)=false)/\decide ((nth pl i).other<0)=false/\decide (2<(nth pl i).other)=false:=by
 rw[q.ep]
 match i with
 |0=>decide
 |1=>decide
 |n+2=>exact⟨⟨rfl,rfl⟩,rfl,rfl⟩
omit S q in
theorem Ash (o:Mo) (i k:Nat):decide ((2:Int)<((Cd (o.rt i) (o.c i k)).length:Int))=false:=fD (by have:=Nf o i k;grind[Mo.n])
end
def loM (b:Py.PBook):Int:=Py.enL (Py.gT b 1) (Py.truthsL b).length
def hiM (b:Py.PBook):Int:=Py.enH (Py.gT b 1) (Py.truthsL b).length
structure Mr (t ks:List Int) (sec:List Bool) (s:Su) (pl:List Gv.Task) (T:List Int) (o:Mo) (b1 b0:Py.PBook):Prop where
 q:Mq t ks sec s pl T o
 e1:b1=b1M o.e1
 e0:b0=b0M o.e1 (o.n 1 0)
def sh4 (h:Nat) (hh:h<3):shF 2 0 h=(shM h:Int):=by
 match h,hh with
 |0,_=>rfl
 |1,_=>rfl
 |2,_=>rfl
theorem er4 (o:Mo) (h:Nat) (hh:h<3):o.erF 2 0 h=(o.e h:Int):=by
 match h,hh with
 |0,_=>show (0:Int)+0+0+(o.n 1 0:Int)+0=(o.n 1 0:Int);omega
 |1,_=>show (0:Int)+(o.n 0 0:Int)+0+0+(o.n 1 1:Int)=((o.n 0 0+o.n 1 1:Nat):Int);omega
 |2,_=>show (0:Int)+0+(o.n 0 1:Int)+0+0=(o.n 0 1:Int);omega
def trB (b:Py.PBook) (er:List Int):Bool:=Py.okPB b&&(er.length==b.lines.length&&(List.range er.length).all (Py.inLine b er))
def Asi {b:Py.PBook} {er:List Int} (h:trB b er=true):Py.TrOK b er:=by
 unfold trB at h;simp only[aE,dI,aS,bB]at h;exact⟨h.1,h.2.1,h.2.2⟩
def c1B (e:Nat):Bool:=trB (bkM exPB3 (ln0 1 2 e)) [1,1,0,e]&&inR (v1M e) 0 959999
def c0B (e n:Nat):Bool:=trB (bkM (b1M e) (ln0 0 1 n)) [1,1,0,e,n]&&inR (v0M e n) 0 959999
def c1_ok (e:Nat) (he:e<=4):c1B e=true:=aS.1 (show (List.range 5).all c1B=true by trivial) e (bB.2 (by omega))
def c0_ok (e n:Nat) (he:e<=4) (hn:n<=2):c0B e n=true:=aS.1 (aS.1 (show (List.range 5).all (λe=>(List.range 3).all λn=>c0B e n)=true by trivial) e (bB.2 (by omega))) n (bB.2 (by omega))
def Sm {Gl} (S:SP Gl) (l:List Int):CR Gl 20 [L eI l,L eI l] (B true):=by
 have h:=Anq S l l;grind[Ko]
def Adh {Gl:World->Prop} {k:Int} {nums out:List Int} {c9:Env} (hE:DO Gl yd0 28 [.addr FAR 0,I k,L eI nums,L eI out] c9 (.ret (B true)) []) (m:Nat) (f:Nat->List C) (m':Nat) (f':Nat->List C) (hf:SEq m f nums.length λi=>eI (nth nums i)) (bh:SEq m' f' out.length λi=>eI (nth out i)):
  DO Gl yd0 28 [.addr FAR 0,I k,.d (.c (.s .n m f)),.d (.c (.s .n m' f'))] c9 (.ret (B true)) []:=
 hE.args ⟨rfl,hf,bh⟩
def Asj {Gl:World->Prop} {k:Int} {out:List Int} {c9:Env} (hE:DO Gl yd0 28 [.addr FAR 0,I k,L eI [],L eI out] c9 (.ret (B true)) []) (m':Nat) (f':Nat->List C) (bh:SEq m' f' out.length λi=>eI (nth out i)):
  DO Gl yd0 28 [.addr FAR 0,I k,.d (.c (.v (.slice none 0 0))),.d (.c (.s .n m' f'))] c9 (.ret (B true)) []:=
 hE.args ⟨rfl,rfl,bh⟩
section
variable {Gl:World->Prop}
variable (S:Set Tryz.prog Y Gl)
variable {t ks:List Int} {sec:List Bool} {s:Su} {pl:List Gv.Task} {T:List Int} {o:Mo} {b1 b0:Py.PBook} (r:Mr t ks sec s pl T o b1 b0)
include S r
theorem Ask {b:Py.PBook} {h sh:Int} {e:Nat} {x:Int} {er:List Int} (n:Nat) (hn:n=9∨n=10) (oc:o.ent n=⟨6,Ot h x⟩) (hl:er.length=b.lines.length+1) (hb:b.lines.length<=5) (he:nth er b.lines.length=e) (W:Py.TrOK (bkM b (ln0 h sh e)) er) (hx:Ad7 (bkM b (ln0 h sh e)) er=x) (hv:inR x 0 959999=true) (m:Nat) (f:Nat->List C) (hf:SEq m f er.length λi=>eI (nth er i)):
  DO Gl yd0 29 [.addr FAR 0,.d (.agg (Py.cPB b)),I h,I sh,.d (.c (.s .n m f))] (Ay (su2 s) (.d (.c (.l Ab (o.MM n))))) (.ret (.tup [.agg (Py.cPB (bkM b (lnP h sh e x))),.c (Cb true)])) [(FAR+3,16,.d (.c (.l Ab (o.MM (n+1)))))]:=by
 rw[r.q.su];have i9:(((Py.paysL (bkM b (ln0 h sh e)) er).length:Int) != ((b.lines.length+1:Nat):Int))=false:=by grind[Py.paysL,bkM,Py.pays_len]
 have hE:DO Gl yd0 26 [.addr FAR 0,I 6,L eI (Ot h x)] (Ay suM (.d (.c (.l Ab (o.MM n))))) (.ret (B true)) [(FAR+3,16,.d (.c (.l Ab (o.MM (n+1)))))]:=by
  rcases hn with rfl|rfl
  ·have:=Aje S suM (o.ent 9).kind (o.ent 9).nums (o.MM 9) (o.MM 10) (Adf S r.q.ok 9 (by decide));grind
  ·have:=Aje S suM (o.ent 10).kind (o.ent 10).nums (o.MM 10) (o.MM 11) (Adf S r.q.ok 10 (by decide));grind
 exact (Bgy S suM (o.MM n) (o.MM (n+1)) b h sh e x er hl hb he W hx hv i9 hE).args ⟨rfl,rfl,rfl,rfl,rfl,rfl,.of ⟨rfl,λ_ _=>rfl⟩,rfl,rfl,hf⟩
theorem Bh7 (m:Nat) (f:Nat->List C) (hf:SEq m f 4 λi=>eI (nth [1,1,0,o.erF 2 0 1] i)):DO Gl yd0 29 [.addr FAR 0,.d (.agg (Py.cPB s.y)),I 1,I (shF 2 0 1),.d (.c (.s .n m f))] (Ay (su2 s) (.d (.c (.l Ab (o.D 2 0))))) (.ret (.tup [.agg (Py.cPB b1),.c (Cb true)])) [(FAR+3,16,.d (.c (.l Ab (o.Q 0))))]:=by
 have hy:s.y=exPB3:=by rw[r.q.es]
 have hc:=cO.1 (c1_ok o.e1 (Qj o));rw[hy,r.e1,sh4 1 (by decide)];rw[er4 o 1 (by decide)]at hf;exact Ask S r (b:=exPB3) (h:=1) (sh:=2) (e:=o.e1) (x:=v1M o.e1) (er:=[1,1,0,(o.e1:Int)]) 9 (.inl rfl) rfl rfl (by decide) rfl (Asi hc.1) rfl hc.2 m f hf
theorem Bh8 (m:Nat) (f:Nat->List C) (hf:SEq m f 5 λi=>eI (nth [1,1,0,o.erF 2 0 1,o.erF 2 0 0] i)):DO Gl yd0 29 [.addr FAR 0,.d (.agg (Py.cPB b1)),I 0,I (shF 2 0 0),.d (.c (.s .n m f))] (Ay (su2 s) (.d (.c (.l Ab (o.Q 0))))) (.ret (.tup [.agg (Py.cPB b0),.c (Cb true)])) [(FAR+3,16,.d (.c (.l Ab (o.Q 1))))]:=by
 have hc:=cO.1 (c0_ok o.e1 (o.n 1 0) (Qj o) (Nf o 1 0));rw[r.e1,r.e0,sh4 0 (by decide)];rw[er4 o 1 (by decide),er4 o 0 (by decide)]at hf;exact Ask S r (b:=b1M o.e1) (h:=0) (sh:=1) (e:=o.n 1 0) (x:=v0M o.e1 (o.n 1 0)) (er:=[1,1,0,(o.e1:Int),(o.n 1 0:Int)]) 10 (.inr rfl) rfl rfl (aH rfl) rfl (Asi hc.1) rfl hc.2 m f hf
theorem Bh9:CR Gl 30 [.d (.agg (Py.cPB b0)),I 1] (.tup [.agg [Ci (loM b0),Ci (hiM b0)],.c (Ci 0)]):=by
 have hb:=cO.1 (Ajc o.e1 (o.n 1 0) (Qj o) (Nf o 1 0));rw[r.e0];have hs:=hb.2;unfold My at hs;exact Py.total30 S (b0M o.e1 (o.n 1 0)) 1 hb.1 (by grind) rfl
end
def no11 {o:Mo} (W:o.OK):NoOK o.s11:=
 ⟨⟨aH rfl,aH rfl⟩,by show (0:Int)<=4/\(4:Int)<=12;decide,rl9 o,Ada,by show Df.areSeen Ds (Dz o.s11)=true;rw[show Dz o.s11=nt2 o.a o.d by kernel_rfl];exact (Ad9 W).1⟩
theorem Asl {o:Mo} (W:o.OK):Df.agreeL o.s11.su.p (Dz o.s11)=[[o.a,o.d]]:=by
 show Df.agreeL Ds (Dz o.s11)=_
 rw[show Dz o.s11=nt2 o.a o.d by kernel_rfl];exact (Ad9 W).2
theorem Adi {o:Mo} (W:o.OK):o.s11.su.y=b0M o.e1 (o.n 1 0):=Ajb W
section
variable {Gl:World->Prop}
variable (S:Set Tryz.prog Y Gl)
variable {t ks:List Int} {sec:List Bool} {s:Su} {pl:List Gv.Task} {T:List Int} {o:Mo} {b1 b0:Py.PBook} (r:Mr t ks sec s pl T o b1 b0)
include S r
theorem Bha (h:Nat) (hh:h<3) (m:Nat) (f:Nat->List C) (m':Nat) (f':Nat->List C) (hf:SEq m f 1 λi=>eI (nth [(h:Int)] i)) (bh:SEq m' f' 2 λi=>eI (nth [shF 2 0 h,o.erF 2 0 h] i)):DO Gl yd0 28 [.addr FAR 0,I 20,.d (.c (.s .n m f)),.d (.c (.s .n m' f'))] (Ay (su2 s) (.d (.c (.l Ab (o.D 2 0))))) (.ret (B true)) []:=by
 have W:=r.q.ok;rw[r.q.su];obtain⟨e1,e2⟩:=er9 W h hh;have hq:=Aru S o.s9 (h:Int) (Bi.2 (by show (0:Int)<=h/\(h:Int)<=2;omega)) (aH rfl) (Adc o h hh) (Adb (rl9 o) h);rw[e1,e2,<-sh4 h hh,<-er4 o h hh]at hq;exact Adh (Sl S suM 20 [(h:Int)] _ (o.MM 9) (Arw S suM (o.MM 9) [(h:Int)] _ rfl (attempt74_does (fst:=[]) rfl rfl (Arv S suM (Bt 9) (o.MM 9) o.s9 [(h:Int)] _ (Ql S W 9 (by decide)) hq) .ok)) (Sm S _)) m f m' f' hf bh
theorem Ajh (h:Nat) (hh:h<3) (x y:Int) (hx:x=bif h==2 then shF 2 0 2 else 0) (hy:y=bif h==2 then o.erF 2 0 2 else 0) (m:Nat) (f:Nat->List C) (m':Nat) (f':Nat->List C) (hf:SEq m f 1 λi=>eI (nth [(h:Int)] i)) (bh:SEq m' f' 2 λi=>eI (nth [x,y] i)):DO Gl yd0 28 [.addr FAR 0,I 20,.d (.c (.s .n m f)),.d (.c (.s .n m' f'))] (Ay (su2 s) (.d (.c (.l Ab (o.Q 1))))) (.ret (B true)) []:=by
 have W:=r.q.ok;rw[r.q.su];obtain⟨e1,e2⟩:=er11 W h hh;have hq:=Aru S o.s11 (h:Int) (Bi.2 (by show (0:Int)<=h/\(h:Int)<=2;omega)) (aH rfl) (Adc o h hh) (Adb (rl9 o) h);have h1:(((bif h==2 then 1 else 0:Nat)):Int)=x:=by rw[hx];cases h==2<;>rfl
 have h2:(((bif h==2 then o.e 2 else 0:Nat)):Int)=y:=by grind[er4]
 rw[e1,e2,h1,h2]at hq;exact Adh (Sl S suM 20 [(h:Int)] _ (o.MM 11) (Arw S suM (o.MM 11) [(h:Int)] _ rfl (attempt74_does (fst:=[]) rfl rfl (Arv S suM (Bt 11) (o.MM 11) o.s11 [(h:Int)] _ (Ql S W 11 (by decide)) hq) .ok)) (Sm S _)) m f m' f' hf bh
theorem totM (m:Nat) (f:Nat->List C) (m':Nat) (f':Nat->List C) (hf:SEq m f 1 λi=>eI (nth [1] i)) (bh:SEq m' f' 2 λi=>eI (nth [loM b0,hiM b0] i)):DO Gl yd0 28 [.addr FAR 0,I 19,.d (.c (.s .n m f)),.d (.c (.s .n m' f'))] (Ay (su2 s) (.d (.c (.l Ab (o.Q 1))))) (.ret (B true)) []:=by
 have W:=r.q.ok;have hb:=cO.1 (Ajc o.e1 (o.n 1 0) (Qj o) (Nf o 1 0));have hs:=hb.2;unfold My at hs;rw[r.q.su];have hq:=Bgf S o.s11 1 (by grind[Adi]) (by grind[Adi]) (by rw[Adi W];rfl);rw[Adi W,<-r.e0]at hq;exact Adh (Sl S suM 19 [1] _ (o.MM 11) (ask19 S suM (o.MM 11) [1] _ rfl (attempt74_does (fst:=[]) rfl rfl (Bgg S suM (Bt 11) (o.MM 11) o.s11 [1] _ (Ql S W 11 (by decide)) hq) .ok)) (Sm S _)) m f m' f' hf bh
theorem leftM:DO Gl yd0 28 [.addr FAR 0,I 2,.d (.c (.v (.slice none 0 0))),.d (.c (.v (.slice none 0 0)))] (Ay (su2 s) (.d (.c (.l Ab (o.Q 1))))) (.ret (B true)) []:=by
 have W:=r.q.ok;rw[r.q.su];have hq:=Bg9 S o.s11 (aH rfl);rw[show Aj8 o.s11=[] by kernel_rfl]at hq;exact (Sl S suM 2 [] [] (o.MM 11) (ask2 S suM (o.MM 11) [] _ rfl (attempt74_does (fst:=[]) rfl rfl (asks2 S suM (Bt 11) (o.MM 11) o.s11 [] _ (Ql S W 11 (by decide)) hq) .ok)) (Sm S _)).args ⟨rfl,rfl,rfl⟩
theorem Bhb (m':Nat) (f':Nat->List C) (bh:SEq m' f' 2 λi=>eI (nth [0,1] i)):DO Gl yd0 28 [.addr FAR 0,I 7,.d (.c (.v (.slice none 0 0))),.d (.c (.s .n m' f'))] (Ay (su2 s) (.d (.c (.l Ab (o.Q 1))))) (.ret (B true)) []:=by
 have W:=r.q.ok;rw[r.q.su];have hq:=Bgc S o.s11 (aH rfl);rw[show Ai o.s11=[0,1] by kernel_rfl]at hq;exact Asj (Sl S suM 7 [] _ (o.MM 11) (ask7 S suM (o.MM 11) [] _ rfl (attempt74_does (fst:=[]) rfl rfl (asks7 S suM (Bt 11) (o.MM 11) o.s11 [] _ (Ql S W 11 (by decide)) hq) .ok)) (Sm S _)) m' f' bh
theorem Bhc (m':Nat) (f':Nat->List C) (bh:SEq m' f' 1 λi=>eI (nth [1] i)):DO Gl yd0 28 [.addr FAR 0,I 8,.d (.c (.v (.slice none 0 0))),.d (.c (.s .n m' f'))] (Ay (su2 s) (.d (.c (.l Ab (o.Q 1))))) (.ret (B true)) []:=by
 have W:=r.q.ok;rw[r.q.su];have hq:=Bgd S o.s11 (no11 W);rw[show Zf o.s11=1 by grind[Zf,Asl]]at hq;exact Asj (Sl S suM 8 [] _ (o.MM 11) (ask8 S suM (o.MM 11) [] _ rfl (attempt74_does (fst:=[]) rfl rfl (asks8 S suM (Bt 11) (o.MM 11) o.s11 [] _ (Ql S W 11 (by decide)) hq) .ok)) (Sm S _)) m' f' bh
theorem Bhd (m:Nat) (f:Nat->List C) (m':Nat) (f':Nat->List C) (hf:SEq m f 1 λi=>eI (nth [0] i)) (bh:SEq m' f' 2 λi=>eI (nth [nth t 0,nth t 0] i)):DO Gl yd0 28 [.addr FAR 0,I 9,.d (.c (.s .n m f)),.d (.c (.s .n m' f'))] (Ay (su2 s) (.d (.c (.l Ab (o.Q 1))))) (.ret (B true)) []:=by
 have W:=r.q.ok;rw[r.q.su];have ha:o.a=nth t 0:=by rw[r.q.eo];rfl
 have hq:=Bge S o.s11 0 [[o.a,o.d]] (no11 W) (Asl W) rfl rfl;have hk:nth (Df.knUp [[o.a,o.d]] o.s11.su.p.starts.length) 0=⟨nth t 0,nth t 0⟩:=by
  rw[<-ha];have h:nth (Df.knUp [[o.a,o.d]] o.s11.su.p.starts.length) 0=⟨min o.a o.a,max o.a o.a⟩:=by trivial
  grind
 rw[hk]at hq;exact Adh (Sl S suM 9 [0] _ (o.MM 11) (ask9 S suM (o.MM 11) [0] _ rfl (attempt74_does (fst:=[]) rfl rfl (asks9 S suM (Bt 11) (o.MM 11) o.s11 [0] _ (Ql S W 11 (by decide)) hq) .ok)) (Sm S _)) m f m' f' hf bh
end
set_option maxRecDepth 100000
set_option maxHeartbeats 4000000
def dkE (s:Su) (x:T):Env:=(2,72010,live)::(72013,16,x)::(72013,17,B true)::Dt 72010 0 (cS (su2 s))
def bE (t ks:List Int) (sec:List Bool) (s:Su) (pl:List Gv.Task) (T:List Int):Env:=v 0 (L eI t)::v 1 (L eI ks)::v 2 (L eBo sec)::v 7 (ad 7)::v 8 (L eI T)::v 10 (L Gv.eTask pl)::v 12 (.addr 72010 0)::bx 7 (cS (su2 s))
def arE (f g:Nat->Int):Env:=v 15 (.arr 126 3)::v 16 (.arr 127 3)::(2,126,.arrc false 1 3 λh=>eI (f h))::(2,127,.arrc false 1 3 λh=>eI (g h))::[]
def Vo {n:Nat} {f g:Nat->Int} {k:Nat} {x:Int} (h:∀j,j<n->g j=bif j.beq k then x else f j):SEq n (Es (λj=>eI (f j)) k (List.map C.dem [C.v (Value.int .i64 x)])) n (λj=>eI (g j)):=.of ⟨rfl,λj hj=>by
 show [C.v (Value.int .i64 (bif j.beq k then x else f j))]=_
 rw[<-h j hj]
 rfl⟩
def extI {n:Nat} {f g:Nat->Int} (h:∀j,j<n->f j=g j):SEq n (λj=>eI (f j)) n (λj=>eI (g j)):=.of ⟨rfl,λj hj=>cD eI (h j hj)⟩
def shS (i k j:Nat) (hi:i<2) (hk:k<2) (hj:j<3):shF i (k+1) j=bif j.beq (hdM i k).toNat then shF i k (hdM i k).toNat+1 else shF i k j:=by
 have:∀i,i<2->∀k,k<2->∀j,j<3->shF i (k+1) j=bif j.beq (hdM i k).toNat then shF i k (hdM i k).toNat+1 else shF i k j:=by decide
 exact this i hi k hk j hj
def erS (o:Mo) (i k j:Nat) (hi:i<2) (hk:k<2) (hj:j<3):o.erF i (k+1) j=bif j.beq (hdM i k).toNat then o.erF i k (hdM i k).toNat+(o.n i k:Int) else o.erF i k j:=by
 match i,k,j,hi,hk,hj with
 |0,0,0,_,_,_|0,0,2,_,_,_|0,1,0,_,_,_|0,1,1,_,_,_|1,0,1,_,_,_|1,0,2,_,_,_|1,1,0,_,_,_|1,1,2,_,_,_=>exact Int.add_zero _
 |0,0,1,_,_,_|0,1,2,_,_,_|1,0,0,_,_,_|1,1,1,_,_,_=>rfl
def shR (i k:Nat) (hi:i<2) (hk:k<3) (j:Nat) (hj:j<3):0<=shF i k j/\shF i k j<=4:=by
 have:∀i,i<2->∀k,k<3->∀j,j<3->0<=shF i k j/\shF i k j<=4:=by decide
 exact this i hi k hk j hj
def erR (o:Mo) (n j:Nat):0<=o.erN n j/\o.erN n j<=2*n:=by
 induction n with
 |zero=>exact⟨dV _,dV _⟩
 |succ n ih=>
  have h:=Nf o (n / 2) (n % 2)
  show 0<=o.erN n j+(bif hdM (n / 2) (n % 2)==(j:Int) then (o.n (n / 2) (n % 2):Int) else 0)/\o.erN n j+(bif hdM (n / 2) (n % 2)==(j:Int) then (o.n (n / 2) (n % 2):Int) else 0)<=_
  cases hdM (n / 2) (n % 2)==(j:Int)
  ·show 0<=_+(0:Int)/\_+(0:Int)<=_
   omega
  ·show 0<=_+(o.n (n / 2) (n % 2):Int)/\_+(o.n (n / 2) (n % 2):Int)<=_
   omega
def hdR (i k:Nat):0<=hdM i k/\hdM i k<=2:=by
 unfold hdM;split<;>decide
def shN2 (i h:Nat):shF i 2 h=shF (i+1) 0 h:=by unfold shF;rw[show 2*i+2=2*(i+1)+0 by omega]
def erN2 (o:Mo) (i h:Nat):o.erF i 2 h=o.erF (i+1) 0 h:=by unfold Mo.erF;rw[show 2*i+2=2*(i+1)+0 by omega]
def cM (t ks:List Int) (sec:List Bool) (i k r:Nat) (hr:r<2):nth ((Ng t ks sec).c i k) r=Lx ((Ng t ks sec).rt i) r (nth ks (4*i+2*k+r)) (nth sec (4*i+2*k+r)):=by
 have h:rtA (nth t 0) (nth t 1) i=(Ng t ks sec).rt i:=by
  unfold rtA Mo.rt
  match i with
  |0=>rfl
  |n+1=>rfl
 rw[<-h]
 match r,hr with
 |0,_=>rfl
 |1,_=>rfl
def wT {o:Mo} {t ks:List Int} {sec:List Bool} (ho:o=Ng t ks sec) (i k r:Nat) (hr:r<2) (kind:Int) (sc:Bool) (hk:kind=nth ks (4*i+2*k+r)) (hs:sc=nth sec (4*i+2*k+r)) (hw:Ch (o.rt i) r kind=true) (j:Nat):o.w i k (r+1) j=bif j.beq r then Gn (o.rt i) r kind sc else o.w i k r j:=by
 have hc:nth (o.c i k) r=Gn (o.rt i) r kind sc:=by rw[ho,cM t ks sec i k r hr,<-hk,<-hs,<-ho];unfold Lx;rw[hw];rfl
 unfold Mo.w;rcases gE j r with h|h|h
 ·rw[Kr (show j<r+1 by omega),Kr h,show j.beq r=false from Ac6 (by omega)];rfl
 ·subst h;rw[Kr (eQ j),fP j,bA,bA,hc]
 ·rw[Mp (show ¬j<r+1 by omega),Mp (show ¬j<r by omega),show j.beq r=false from Ac6 (by omega)];rfl
def wF {o:Mo} {t ks:List Int} {sec:List Bool} (ho:o=Ng t ks sec) (i k r:Nat) (hr:r<2) (kind:Int) (hk:kind=nth ks (4*i+2*k+r)) (hw:Ch (o.rt i) r kind=false) (j:Nat):o.w i k r j=o.w i k (r+1) j:=by
 have hc:nth (o.c i k) r=nth (o.rt i) r:=by rw[ho,cM t ks sec i k r hr,<-hk,<-ho];unfold Lx;rw[hw];rfl
 unfold Mo.w;rcases gE j r with h|h|h
 ·rw[Kr (show j<r+1 by omega),Kr h]
 ·subst h;rw[Kr (eQ j),Mp (gN j),bA,cC,hc]
 ·rw[Mp (show ¬j<r+1 by omega),Mp (show ¬j<r by omega)]
def rtF (o:Mo) (i:Nat) (hi:i<2):SEq (2*(i:Int)+2 - 2*(i:Int)).toNat (λj=>eI (nth o.tab ((2*(i:Int)).toNat+j))) (o.rt i).length λj=>eI (nth (o.rt i) j):=by
 refine .of ⟨by rw[El];omega,λj hj=>?_⟩;have hj:j<2:=by omega
 match i,j,hi,hj with
 |0,0,_,_|0,1,_,_|1,0,_,_|1,1,_,_=>rfl
def colF (o:Mo) (i k:Nat) (x y:Int):SEq 4 (Ry [x,y,o.w i k 2 0,o.w i k 2 1]) 4 λj=>eI (nth (x::y::o.c i k) j):=.of ⟨rfl,λj hj=>match j,hj with
 |0,_|1,_|2,_|3,_=>rfl⟩
def passF (o:Mo) (i:Nat) (x:Int):SEq 3 (Ry [x,nth (o.rt i) 0,nth (o.rt i) (Int.toNat 1)]) 3 λj=>eI (nth (x::o.rt i) j):=.of ⟨rfl,λj hj=>match j,hj with
 |0,_|1,_|2,_=>rfl⟩
theorem law6m {Gl} (S:SP Gl) (t ks:List Int) (sec:List Bool) (s:Su) (pl:List Gv.Task) (T:List Int) (o:Mo) (b1 b0:Py.PBook) (r:Mr t ks sec s pl T o b1 b0):CR Gl 6 [L eI t,L eI ks,L eBo sec] (B true):=by
 refine Ag S (let A75:=[D.c (C.l eI T),D.c (Ci 0)];let A73:=(FAR+3,16,L Ab (Mo.Q o 1));let A72:=(FAR+3,16,L Ab (Mo.Q o 0));let A71:=gD [mI 40];let A70:=gD [mI 0,mI 1];let xj:=D.c cN;let A64:=(FAR+3,16,L Ab (Mo.D o 0 0));let A63:=λ(k1:Nat)=>λh=>eI (Mo.erF o k1 0 h);let A62:=[D.c (C.l Gv.eTask pl),D.c (Ci 0)];let A59:=Mo.MM o 2;let A58:=Mo.MM o 1;let A57:=[aF 0,I 2,Vc.T.d xj,Vc.T.d xj];let A56:=Vc.T.tup [D.agg (Py.cPB b0),D.c (Cb true)];let A55:=Vc.T.tup [D.agg (Py.cPB b1),D.c (Cb true)];let A54:=Mo.D o 2 0;let A47:=[aF 0,I 7,Vc.T.d xj,tS 2 A70];let ju:=(4:Int);let A44:=gD [mI 0];let A43:=gD [mI 1];let A61:=[aF 0,I 8,Vc.T.d xj,tS 1 A43];let A41:=Vc.T.tup [D.agg [Ci (loM b0),Ci (hiM b0)],D.c (Ci 0)];let jb:=(2:Int);let jv:=su2 s;let A65:=Ay jv (L Ab (Mo.Q o 0));let A38:=λ(k1:Nat)=>Int.toNat (hdM k1 1);let A37:=λ(k1:Nat)=>Int.toNat (hdM k1 0);let A36:=λ(k1:Nat)=>arE (shF k1 1) (Mo.erF o k1 1)++(bE t ks sec s pl T++dkE s (L Ab (Mo.D o k1 1)));let A35:=λ(k1:Nat)=>arE (shF k1 0) (Mo.erF o k1 0)++(bE t ks sec s pl T++dkE s (L Ab (Mo.D o k1 0)));let xk:=(pl.length:Int);let eb:=(0:Int);let A32:=gD [mI (loM b0),mI (hiM b0)];let A66:=[aF 0,I 19,tS 1 A43,tS 2 A32];let A31:=gD [mI 0,mI 0];let A68:=[aF 0,I 20,tS 1 A43,tS 2 A31];let A67:=[aF 0,I 20,tS 1 A44,tS 2 A31];let A29:=λ(k4:Nat)=>gD [mI (shF 2 0 k4),mI (Mo.erF o 2 0 k4)];let A27:=Ay jv (L Ab A54);let ru:=(↑(2:Nat):Int);let rx:=(↑(3:Nat):Int);let A24:=gD [mI (shF 2 0 2),mI (Mo.erF o 2 0 2)];let A60:=[aF 0,I 20,tS 1 (gD [mI 2]),tS 2 A24];let A23:=gD [mI 1,mI 1,mI 0,mI (Mo.erF o 2 0 1)];let A42:=[aF 0,tA (Py.cPB (Su.y s)),I 1,I (shF 2 0 1),tS 4 A23];let tg:=Res.new (Vc.T.tpl [Vc.T.addr 10 0,I 0]) ((2,10,live)::(Dt 10 0 (cS jv)++[(13,16,Vc.T.d xj),(13,17,B true)]));let bu:=B true;let A20:=gD [mI (nth t (Int.toNat 0)),mI (nth t (Int.toNat 0))];let A74:=[aF 0,I 9,tS 1 A44,tS 2 A20];let xg:=λ(k1 k3:Nat)=>gD [mI k1,mI (hdM k1 1),mI (Mo.w o k1 1 k3 0),mI (Mo.w o k1 1 k3 1)];let tf:=λ(k1 k3:Nat)=>gD [mI k1,mI (hdM k1 0),mI (Mo.w o k1 0 k3 0),mI (Mo.w o k1 0 k3 1)];let my:=gD [mI 1,mI 1,mI 0,mI (Mo.erF o 2 0 1),mI (Mo.erF o 2 0 0)];let A46:=[aF 0,tA (Py.cPB b1),I 0,I (shF 2 0 0),tS 5 my];let dl:=SEq s.2.1.length (λi=>Gv.eComp (nth s.2.1 i)) s.2.1.length λi=>Gv.eComp (nth s.2.1 i);let o7:=(FAR,nat_lit 72010);let A9:=SEq s.6.7.length (λi=>Py.eLine (nth s.6.7 i)) s.6.7.length λi=>Py.eLine (nth s.6.7 i);let A8:=λ(k1:Nat)=>Mo.rt o k1;let A53:=λ(k1:Nat)=>(Mo.erF o k1 1 (A38 k1)+(↑(ln (Cd (A8 k1) (o.3 k1 1))):Int));let A52:=λ(k1:Nat)=>(Mo.erF o k1 0 (A37 k1)+(↑(ln (Cd (A8 k1) (o.3 k1 0))):Int));let A49:=λ(k1:Nat)=>Vc.T.tup [D.c (C.l Dj (Cd (A8 k1) (Mo.c o k1 1))),D.c (Ci 0)];let A48:=λ(k1:Nat)=>Vc.T.tup [D.c (C.l Dj (Cd (A8 k1) (Mo.c o k1 0))),D.c (Ci 0)];let ay:=λ(k1:Nat)=>gD [mI k1,mI (nth (A8 k1) (Int.toNat 0)),mI (nth (A8 k1) (Int.toNat 1))];let A5:=Ay jv (L Ab (Mo.Q o 1));let A4:=(↑(0:Nat):Int);let gu:=λ(k1 k3:Nat)=>nth ks (Int.toNat (ju*k1+2*A4+k3));let rp:=gD [mI A4,mI (nth pl 0).1,mI (nth pl 0).2,mI (nth pl 0).3];let A6:=λ(k1 k3:Nat)=>(bif Ch (A8 k1) k3 (gu k1 k3) then Gn (A8 k1) k3 (gu k1 k3) (nth sec (Int.toNat (ju*k1+2*A4+k3))) else eb);let A50:=λ(k1 k3:Nat)=>Vc.T.tup [D.c (Ci (A6 k1 k3)),D.c (Cb (Ch (A8 k1) k3 (gu k1 k3)))];let A3:=(↑(1:Nat):Int);let rj:=λ(k1 k3:Nat)=>nth ks (Int.toNat (ju*k1+2*A3+k3));let ro:=gD [mI A3,mI (nth pl 1).1,mI (nth pl 1).2,mI (nth pl 1).3];let A7:=λ(k1 k3:Nat)=>(bif Ch (A8 k1) k3 (rj k1 k3) then Gn (A8 k1) k3 (rj k1 k3) (nth sec (Int.toNat (ju*k1+2*A3+k3))) else eb);let A51:=λ(k1 k3:Nat)=>Vc.T.tup [D.c (Ci (A7 k1 k3)),D.c (Cb (Ch (A8 k1) k3 (rj k1 k3)))];let A2:=List.take 6 (cS (s));let A1:=List.drop 9 (cS (s));let P0:=λ(zz:Prop)=>sR eI t/\sR eI ks/\sR eBo sec/\sR eI T/\(SEq pl.length (λi=>Gv.eTask (nth pl i)) pl.length λi=>Gv.eTask (nth pl i))/\zz;let P1:=λ(zz:Prop)=>jb=2/\s.4=s.4/\sR eCp s.5/\zz;let A0:=zC A2 (P1 (zC (List.take 6 A1) A9));let A30:=λ(k1:Nat)=>P0 (zC A2 (P1 (zC A1 ((sR Ab (Mo.D o k1 1))/\tt 1 A0))));let P2:=λ(k1:Nat) (zz:Prop)=>(k1:Int)=k1/\3=3/\3=3/\(SEq 3 (λh=>eI (shF k1 0 h)) 3 λh=>eI (shF k1 0 h))/\(SEq 3 (A63 k1) 3 λh=>eI (Mo.erF o k1 0 h))/\zz;let P3:=λ(k1:Nat) (zz:Prop)=>A3=A3/\(sR eI (A8 k1))/\(k1:Int)=k1/\3=3/\3=3/\(SEq 3 (λh=>eI (shF k1 1 h)) 3 λh=>eI (shF k1 1 h))/\(SEq 3 (λh=>eI (Mo.erF o k1 1 h)) 3 λh=>eI (Mo.erF o k1 1 h))/\zz;let P4:=λ(k1:Nat) (zz:Prop)=>(eb<=hdM k1 1/\hdM k1 1<rx)/\Int.toNat (hdM k1 1)<3/\zz;let P5:=λ(zz:Prop)=>Value.slice none 0 0=Value.slice none 0 0/\zz;let P6:=λ(k1:Nat) (zz:Prop)=>(eb<=hdM k1 0/\hdM k1 0<rx)/\Int.toNat (hdM k1 0)<3/\zz;let P7:=λ(zz:Prop)=>(sR Ab (Mo.Q o 1))/\zz;let P8:=λ(k1:Nat) (zz:Prop)=>A4=A4/\(sR eI (A8 k1))/\zz;let P9:=λ(zz:Prop)=>(eb<=1/\1<rx)/\1<3/\zz;let P10:=λ(zz:Prop)=>(SEq 1 A43 1 A43)/\zz;let P11:=λ(k1:Nat) (zz:Prop)=>(sR Ab (Mo.D o k1 0))/\zz;let A28:=λ(k1:Nat)=>P0 (zC A2 (P1 (zC A1 (P11 k1 (tt 1 A0)))));let P12:=λ(zz:Prop)=>0=A4/\zz;let th:=λ(zz:Prop)=>false=false/\zz;((rt (tA (cS s)) (.val 37 false (.sure 39 (.sure 40 (.val 41 false (.sure 41 (.sure 44 (.sure 45 (.val 46 false (.sure 46 (.sure 49 (.sure 50 (.sure 51 (.sure 52 (rt bu (.sure 53 (.ff (rs [Vc.T.tup A75,Vc.T.tup A62] (.n [(nat_lit 10,nat_lit 72010)] tg (.sure 77 (.sure 78 (.sure 81 (.sure 82 (.sure 85 (.sure 86 (.sure 89 (.sure 90 (.val 91 false (.sure 91 (.sure 94 (.sure 95 (.val 96 false (.sure 96 (.ff (.un 3 (.cut (v 14 (I A4)::(bE t ks sec s pl T++dkE s (Mo.x o 0))) (.tt (.w [o7] [aF 0,I 2,tS 4 rp] (Ay jv (Vc.T.d xj)) (.ret bu) [(FAR+3,16,L Ab A58)] (.ff (.cut (v 14 (I A3)::(bE t ks sec s pl T++dkE s (Mo.x o 1))) (.tt (.w [o7] [aF 0,I 2,tS 4 ro] (Ay jv (L Ab A58)) (.ret bu) [(FAR+3,16,L Ab A59)] (.ff (.cut (v 14 (I ru)::(bE t ks sec s pl T++dkE s (Mo.x o 2))) (.ff (.w [o7] [aF 0,I 1,tS 1 A71] (Ay jv (L Ab A59)) (.ret bu) [A64] (.ff (.loop 2 (λi=>v 17 (I i)::(arE (shF i 0) (Mo.erF o i 0)++(bE t ks sec s pl T++dkE s (L Ab (Mo.D o i 0))))) λk1=>.br (.un 3 (.cut (v 19 (I A4)::v 18 (L eI (A8 k1))::v 17 (I k1)::(A35 k1)) (.tt (.ff (.val 156 false (.sure 158 (.val 159 false (.sure 159 (.ff (.arrA 162 (.loop 2 (λr=>v 22 (I r)::v 21 (Vc.T.arr 162 2)::(2,162,Vc.T.arrc false 1 2 λj=>eI (Mo.w o k1 0 r j))::v 20 (I (hdM k1 0))::v 19 (I A4)::v 18 (L eI (A8 k1))::v 17 (I k1)::(A35 k1)) λk3=>.br (rt (A50 k1 k3) (.br .nil .nil)) (rt (A48 k1) (.sure 202 (.sure 203 (.val 204 false (.sure 204 (.sure 207 (.sure 208 (.sure 209 (.sure 210 (.sure 211 (.sure 212 (.sure 213 (.sure 214 (.sure 215 (.sure 216 (.sure 217 (.w [o7] [aF 0,I 3,tS 4 (tf k1 k3)] (Ay jv (L Ab (Mo.D o k1 0))) (.ret bu) [(FAR+3,16,L Ab (Mo.D o k1 (0+1)))] (.sure 218 (.ff (.cut (v 19 (I A3)::v 18 (L eI (A8 k1))::v 17 (I k1)::(A36 k1)) (.tt (.tt (.val 156 false (.sure 158 (.val 159 false (.sure 159 (.ff (.arrA 162 (.loop 2 (λr=>v 22 (I r)::v 21 (Vc.T.arr 162 2)::(2,162,Vc.T.arrc false 1 2 λj=>eI (Mo.w o k1 1 r j))::v 20 (I (hdM k1 1))::v 19 (I A3)::v 18 (L eI (A8 k1))::v 17 (I k1)::(A36 k1)) λk3=>.br (rt (A51 k1 k3) (.br .nil .nil)) (rt (A49 k1) (.sure 202 (.sure 203 (.val 204 false (.sure 204 (.sure 207 (.sure 208 (.sure 209 (.sure 210 (.sure 211 (.sure 212 (.sure 213 (.sure 214 (.sure 215 (.sure 216 (.sure 217 (.w [o7] [aF 0,I 3,tS 4 (xg k1 k3)] (Ay jv (L Ab (Mo.D o k1 1))) (.ret bu) [(FAR+3,16,L Ab (Mo.D o k1 (1+1)))] (.sure 218 (.ff (.cut (v 19 (I ru)::v 18 (L eI (A8 k1))::v 17 (I k1)::(arE (shF k1 2) (Mo.erF o k1 2)++(bE t ks sec s pl T++dkE s (L Ab (Mo.D o k1 2))))) (.ff (.w [o7] [aF 0,I 5,tS 3 (ay k1)] (Ay jv (L Ab (Mo.D o k1 2))) (.ret bu) [(FAR+3,16,L Ab (Mo.D o (k1+1) 0))] (.ff .nil))))))))))))))))))))))))))))))))))))))))))))))))))))))))))))))) (.loop 3 (λh=>v 28 (I h)::(arE (shF 2 0) (Mo.erF o 2 0)++(bE t ks sec s pl T++dkE s (L Ab A54)))) λk4=>.br (.w [o7] [aF 0,I 20,tS 1 (gD [mI k4]),tS 2 (A29 k4)] A27 (.ret bu) [] (.ff .nil)) (.w [o7] A42 A27 (.ret A55) [A72] (.ff (.w [o7] A46 A65 (.ret A56) [A73] (rt A41 (.sure 305 (.sure 306 (.sure 309 (.sure 310 (.sure 311 (.sure 312 (.sure 313 (.sure 314 (.sure 315 (.sure 316 (.w [o7] A66 A5 (.ret bu) [] (.sure 317 (.ff (.w [o7] A67 A5 (.ret bu) [] (.sure 325 (.sure 326 (.sure 327 (.sure 328 (.w [o7] A68 A5 (.ret bu) [] (.sure 329 (.sure 332 (.sure 333 (.sure 334 (.sure 335 (.sure 336 (.sure 337 (.sure 338 (.sure 339 (.sure 340 (.sure 341 (.w [o7] A60 A5 (.ret bu) [] (.sure 342 (.ff (.w [o7] A57 A5 (.ret bu) [] (.sure 347 (.sure 348 (.sure 349 (.w [o7] A47 A5 (.ret bu) [] (.sure 352 (.sure 353 (.sure 354 (.w [o7] A61 A5 (.ret bu) [] (.sure 357 (.sure 358 (.sure 359 (.sure 360 (.sure 361 (.sure 362 (.sure 363 (.sure 364 (.sure 365 (.sure 366 (.w [o7] A74 A5 (.ret bu) [] (.sure 369 (rt bu .nil)))))))))))))))))))))))))))))))))))))))))))))))))))))))))))))))))))))))))))))))))))))))))))))))))))))))))))),(CR Gl 21 [] (tA (cS s))/\(t.length<=maxLen->((t.length:Int) != jb)=false/\tt 2 ((ks.length<=maxLen->((ks.length:Int) != (8:Int))=false/\tt 3 ((sec.length<=maxLen->((sec.length:Int) != (8:Int))=false/\tt 5 (CR Gl 14 [Cn (Su.p s),L eI t] bu/\tt 1 (th (CR Gl 9 [Cn (Su.p s),L eI t] (Vc.T.tup A75)/\CR Gl 25 [Gv.tBook (Su.b s)] (Vc.T.tup A62)/\CO Gl 22 [tA (cS jv)] tg/\tt 8 ((ln T<=maxLen->((ln T:Int) != ju)=false/\tt 3 ((pl.length<=maxLen->(xk != jb)=false/\true=true/\false=false/\(P12 (P0 (zC A2 (P1 (zC A1 (P5 (tt 1 A0)))))))/\true=true/\(0<=A4/\A4<xk)/\(0<=A4/\A4<xk)/\(0<=A4/\A4<xk)/\jb=2/\(SEq 4 rp 4 rp)/\Value.slice none 0 0=Value.slice none 0 0/\true=true/\sR Ae s.1.1/\s.1.2=s.1.2/\s.1.3=s.1.3/\dl/\sR eI s.2.2/\sR eI s.2.3/\jb=2/\s.4=s.4/\sR eCp s.5/\s.6.1=s.6.1/\s.6.2=s.6.2/\s.6.3=s.6.3/\s.6.4=s.6.4/\s.6.5=s.6.5/\s.6.6=s.6.6/\A9/\DO Gl yd0 26 [aF 0,I 2,tS 4 rp] (Ay jv (Vc.T.d xj)) (.ret bu) [(FAR+3,16,L Ab A58)]/\false=false/\iR (A4+1)/\(A4+1=A3/\P0 (zC A2 (P1 (zC A1 ((sQ Ab A58 (Mo.MM o (nat_lit 0+1)))/\tt 1 A0)))))/\true=true/\(0<=A3/\A3<xk)/\(0<=A3/\A3<xk)/\(0<=A3/\A3<xk)/\jb=2/\(SEq 4 ro 4 ro)/\(sQ Ab (Mo.MM o (nat_lit 0+1)) A58)/\true=true/\sR Ae s.1.1/\s.1.2=s.1.2/\s.1.3=s.1.3/\dl/\sR eI s.2.2/\sR eI s.2.3/\jb=2/\s.4=s.4/\sR eCp s.5/\s.6.1=s.6.1/\s.6.2=s.6.2/\s.6.3=s.6.3/\s.6.4=s.6.4/\s.6.5=s.6.5/\s.6.6=s.6.6/\A9/\DO Gl yd0 26 [aF 0,I 2,tS 4 ro] (Ay jv (L Ab A58)) (.ret bu) [(FAR+3,16,L Ab A59)]/\false=false/\iR (A3+1)/\(A3+1=ru/\P0 (zC A2 (P1 (zC A1 ((sQ Ab A59 (Mo.MM o (nat_lit 1+1)))/\tt 1 A0)))))/\false=false/\(1:Int)=1/\(SEq 1 A71 1 A71)/\(sQ Ab (Mo.MM o (nat_lit 1+1)) A59)/\true=true/\sR Ae s.1.1/\s.1.2=s.1.2/\s.1.3=s.1.3/\dl/\sR eI s.2.2/\sR eI s.2.3/\jb=2/\s.4=s.4/\sR eCp s.5/\s.6.1=s.6.1/\s.6.2=s.6.2/\s.6.3=s.6.3/\s.6.4=s.6.4/\s.6.5=s.6.5/\s.6.6=s.6.6/\A9/\DO Gl yd0 26 [aF 0,I 1,tS 1 A71] (Ay jv (L Ab A59)) (.ret bu) [A64]/\false=false/\(3:Int)=3/\eb<=3/\Int.toNat 3*8<=140737488355328/\Int.toNat 3<=140737488355328/\(3:Int)=3/\eb<=3/\Int.toNat 3*8<=140737488355328/\Int.toNat 3<=140737488355328/\(P12 (3=3/\3=3/\(SEq 3 (λx=>vsC [vI 0]) 3 λh=>eI (shF 0 0 h))/\(SEq 3 (λx=>vsC [vI 0]) 3 λh=>eI (Mo.erF o 0 0 h))/\P0 (zC A2 (P1 (zC A1 ((sR Ab (Mo.D o 0 0))/\tt 1 A0))))))/\∀(k1:Nat),k1<=2->(dt k1 2->iR (jb*k1)/\iR (jb*k1)/\iR (jb*k1+2)/\(eb<=2*k1/\jb*k1<=2*k1+2/\jb*k1+2<=(ln T:Int))/\(P12 ((SEq (Int.toNat (jb*k1+2-2*k1)) (λi=>eI (nth T (Int.toNat (jb*k1)+i))) (ln (A8 k1)) λi=>eI (nth (A8 k1) i))/\P2 k1 (A28 k1)))/\true=true/\(ix k1 pl.length)/\false=false/\decide ((nth pl k1).1<(0:Int))=false/\true=true/\decide ((2:Int)<(nth pl k1).1)=false/\true=true/\false=false/\0<ln (A8 k1)/\ln (A8 k1)*8<=140737488355328/\ln (A8 k1)<=140737488355328/\(P12 (ln (A8 k1)=2/\(SEq (ln (A8 k1)) (λi=>eI (nth (A8 k1) i)) 2 λj=>eI (Mo.w o k1 0 0 j))/\(nth pl k1).1=hdM k1 0/\P8 k1 (P2 k1 (A28 k1))))/\∀(k3:Nat),k3<=2->(dt k3 2->iR (ju*k1)/\iR (jb*A4)/\iR (ju*k1+2*A4)/\iR (ju*k1+2*A4+k3)/\(eb<=4*k1+2*A4+k3/\ju*k1+2*A4+k3<ks.length)/\(eb<=4*k1+2*A4+k3/\ju*k1+2*A4+k3<sec.length)/\CR Gl 27 [L eI (A8 k1),I k3,I (gu k1 k3),B (nth sec (Int.toNat (ju*k1+2*A4+k3)))] (A50 k1 k3)/\(Ch (A8 k1) k3 (gu k1 k3)=true->(0<=(k3:Int)/\(k3:Int)<ru)/\k3<2/\lq k3 2 (2=2/\(SEq 2 (Es (λj=>eI (Mo.w o k1 0 k3 j)) k3 (mI (A6 k1 k3))) 2 λj=>eI (Mo.w o k1 0 (k3+1) j))/\hdM k1 0=hdM k1 0/\P8 k1 (P2 k1 (A28 k1))))/\(Ch (A8 k1) k3 (gu k1 k3)=false->lq k3 2 (2=2/\(SEq 2 (λj=>eI (Mo.w o k1 0 k3 j)) 2 λj=>eI (Mo.w o k1 0 (k3+1) j))/\hdM k1 0=hdM k1 0/\P8 k1 (P2 k1 (A28 k1)))))/\(df k3 2->2=2/\CR Gl 10 [L eI (A8 k1),tS 2 λj=>eI (Mo.w o k1 0 k3 j)] (A48 k1)/\tt 2 ((ln (Cd (A8 k1) (o.3 k1 0))<=maxLen->decide (2<(↑(ln (Cd (Mo.rt o k1) (o.3 k1 0))):Int))=false/\tt 6 ((eb<=0/\0<ru)/\tt 1 (0<2/\tt 2 ((eb<=1/\1<ru)/\tt 1 (1<2/\tt 2 ((3:Int)=3/\(SEq 4 (tf k1 k3) 4 (tf k1 k3))/\P11 k1 (tt 1 (zC A2 (P1 (zC A1 (DO Gl yd0 26 [aF 0,I 3,tS 4 (tf k1 k3)] (Ay jv (L Ab (Mo.D o k1 0))) (.ret bu) [(FAR+3,16,L Ab (Mo.D o k1 (0+1)))]/\tt 1 (th (P6 k1 (iR (shF k1 0 (A37 k1)+(1:Int))/\P6 k1 (P6 k1 ((ln (Cd (A8 k1) (o.3 k1 0))<=maxLen->iR (A52 k1)/\(eb<=hdM k1 0/\hdM k1 0<rx)/\Int.toNat (hdM k1 0)<3/\iR (A4+1)/\(A4+1=A3/\(sR eI (A8 k1))/\(k1:Int)=k1/\3=3/\3=3/\(SEq 3 (Es (λh=>eI (shF k1 0 h)) (A37 k1) (mI (shF k1 0 (A37 k1)+(1:Int)))) 3 λh=>eI (shF k1 1 h))/\(SEq 3 (Es (A63 k1) (A37 k1) (mI (A52 k1))) 3 λh=>eI (Mo.erF o k1 1 h))/\P0 (zC A2 (P1 (zC A1 ((sQ Ab (Mo.D o k1 (0+1)) (Mo.D o k1 1))/\tt 1 A0)))))/\true=true/\(ix k1 pl.length)/\true=true/\(ix k1 pl.length)/\decide ((nth pl k1).2<(0:Int))=false/\true=true/\decide ((2:Int)<(nth pl k1).2)=false/\true=true/\false=false/\0<ln (A8 k1)/\ln (A8 k1)*8<=140737488355328/\ln (A8 k1)<=140737488355328/\(P12 (ln (A8 k1)=2/\(SEq (ln (A8 k1)) (λi=>eI (nth (A8 k1) i)) 2 λj=>eI (Mo.w o k1 1 0 j))/\(nth pl k1).2=hdM k1 1/\P3 k1 (A30 k1)))/\∀(k3:Nat),k3<=2->(dt k3 2->iR (ju*k1)/\iR (jb*A3)/\iR (ju*k1+2*A3)/\iR (ju*k1+2*A3+k3)/\(eb<=4*k1+2*A3+k3/\ju*k1+2*A3+k3<ks.length)/\(eb<=4*k1+2*A3+k3/\ju*k1+2*A3+k3<sec.length)/\CR Gl 27 [L eI (A8 k1),I k3,I (rj k1 k3),B (nth sec (Int.toNat (ju*k1+2*A3+k3)))] (A51 k1 k3)/\(Ch (A8 k1) k3 (rj k1 k3)=true->(0<=(k3:Int)/\(k3:Int)<ru)/\k3<2/\lq k3 2 (2=2/\(SEq 2 (Es (λj=>eI (Mo.w o k1 1 k3 j)) k3 (mI (A7 k1 k3))) 2 λj=>eI (Mo.w o k1 1 (k3+1) j))/\hdM k1 1=hdM k1 1/\P3 k1 (A30 k1)))/\(Ch (A8 k1) k3 (rj k1 k3)=false->lq k3 2 (2=2/\(SEq 2 (λj=>eI (Mo.w o k1 1 k3 j)) 2 λj=>eI (Mo.w o k1 1 (k3+1) j))/\hdM k1 1=hdM k1 1/\P3 k1 (A30 k1))))/\(df k3 2->2=2/\CR Gl 10 [L eI (A8 k1),tS 2 λj=>eI (Mo.w o k1 1 k3 j)] (A49 k1)/\tt 2 ((ln (Cd (A8 k1) (o.3 k1 1))<=maxLen->decide (2<(↑(ln (Cd (Mo.rt o k1) (o.3 k1 1))):Int))=false/\tt 6 ((eb<=0/\0<ru)/\tt 1 (0<2/\tt 2 ((eb<=1/\1<ru)/\tt 1 (1<2/\tt 2 ((3:Int)=3/\(SEq 4 (xg k1 k3) 4 (xg k1 k3))/\(sR Ab (Mo.D o k1 1))/\tt 1 (zC A2 (P1 (zC A1 (DO Gl yd0 26 [aF 0,I 3,tS 4 (xg k1 k3)] (Ay jv (L Ab (Mo.D o k1 1))) (.ret bu) [(FAR+3,16,L Ab (Mo.D o k1 (1+1)))]/\tt 1 (th (P4 k1 (iR (shF k1 1 (A38 k1)+(1:Int))/\P4 k1 (P4 k1 ((ln (Cd (A8 k1) (o.3 k1 1))<=maxLen->iR (A53 k1)/\P4 k1 (iR (A3+1)/\(A3+1=ru/\(sR eI (A8 k1))/\(k1:Int)=k1/\3=3/\3=3/\(SEq 3 (Es (λh=>eI (shF k1 1 h)) (A38 k1) (mI (shF k1 1 (A38 k1)+(1:Int)))) 3 λh=>eI (shF k1 2 h))/\(SEq 3 (Es (λh=>eI (Mo.erF o k1 1 h)) (A38 k1) (mI (A53 k1))) 3 λh=>eI (Mo.erF o k1 2 h))/\P0 (zC A2 (P1 (zC A1 ((sQ Ab (Mo.D o k1 (1+1)) (Mo.D o k1 2))/\tt 1 A0)))))/\th ((eb<=0/\0<(ln (A8 k1):Int))/\(eb<=1/\1<(ln (A8 k1):Int))/\(5:Int)=5/\(SEq 3 (ay k1) 3 (ay k1))/\(sR Ab (Mo.D o k1 2))/\tt 1 (zC A2 (P1 (zC A1 (DO Gl yd0 26 [aF 0,I 5,tS 3 (ay k1)] (Ay jv (L Ab (Mo.D o k1 2))) (.ret bu) [(FAR+3,16,L Ab (Mo.D o (k1+1) 0))]/\th (lq k1 2 (3=3/\3=3/\(SEq 3 (λh=>eI (shF k1 2 h)) 3 λh=>eI (shF (k1+1) 0 h))/\(SEq 3 (λh=>eI (Mo.erF o k1 2 h)) 3 λh=>eI (Mo.erF o (k1+1) 0 h))/\P0 (zC A2 (P1 (zC A1 ((sR Ab (Mo.D o (k1+1) 0))/\tt 1 A0))))))))))))))))))))))))))))))))))))))))))))))))))/\(df k1 2->(P12 (3=3/\3=3/\(SEq 3 (λh=>eI (shF k1 0 h)) 3 λh=>eI (shF 2 0 h))/\(SEq 3 (A63 k1) 3 λh=>eI (Mo.erF o 2 0 h))/\P0 (zC A2 (P1 (zC A1 ((sQ Ab (Mo.D o k1 0) A54)/\tt 1 A0))))))/\∀(k4:Nat),k4<=3->(dt k4 3->(0<=(k4:Int)/\(k4:Int)<rx)/\k4<3/\(0<=(k4:Int)/\(k4:Int)<rx)/\k4<3/\(20:Int)=20/\(SEq 1 (gD [mI k4]) 1 (gD [mI k4]))/\(SEq 2 (A29 k4) 2 (A29 k4))/\(sR Ab A54)/\tt 1 (zC A2 (P1 (zC A1 (DO Gl yd0 28 [aF 0,I 20,tS 1 (gD [mI k4]),tS 2 (A29 k4)] A27 (.ret bu) []/\th (lq k4 3 (3=3/\3=3/\(SEq 3 (λh=>eI (shF 2 0 h)) 3 λh=>eI (shF 2 0 h))/\(SEq 3 (λh=>eI (Mo.erF o 2 0 h)) 3 λh=>eI (Mo.erF o 2 0 h))/\P0 (zC A2 (P1 (zC A1 ((sR Ab A54)/\tt 1 A0)))))))))))/\(df k4 3->P9 (P9 (zC A1 ((1:Int)=1/\shF 2 0 1=shF 2 0 1/\(SEq 4 A23 4 A23)/\(sR Ab A54)/\tt 1 (zC A2 (P1 (zC A1 (DO Gl yd0 29 A42 A27 (.ret A55) [A72]/\th ((eb<=0/\0<rx)/\0<3/\P9 ((eb<=0/\0<rx)/\0<3/\b1.1=b1.1/\b1.2=b1.2/\b1.3=b1.3/\b1.4=b1.4/\b1.5=b1.5/\b1.6=b1.6/\(SEq b1.7.length (λi=>Py.eLine (nth b1.7 i)) b1.7.length λi=>Py.eLine (nth b1.7 i))/\eb=0/\shF 2 0 0=shF 2 0 0/\(SEq 5 my 5 my)/\(sR Ab (Mo.Q o 0))/\tt 1 (zC A2 (P1 (zC A1 (DO Gl yd0 29 A46 A65 (.ret A56) [A73]/\CR Gl 30 [tA (Py.cPB b0),I 1] A41/\tt 10 ((19:Int)=19/\P10 ((SEq 2 A32 2 A32)/\P7 (tt 1 (zC A2 (P1 (zC A1 (DO Gl yd0 28 A66 A5 (.ret bu) []/\tt 1 (th ((20:Int)=20/\(SEq 1 A44 1 A44)/\(SEq 2 A31 2 A31)/\P7 (tt 1 (zC A2 (P1 (zC A1 (DO Gl yd0 28 A67 A5 (.ret bu) []/\tt 4 ((20:Int)=20/\P10 ((SEq 2 A31 2 A31)/\P7 (tt 1 (zC A2 (P1 (zC A1 (DO Gl yd0 28 A68 A5 (.ret bu) []/\tt 5 ((eb<=2/\2<rx)/\tt 1 (2<3/\tt 2 ((eb<=2/\2<rx)/\tt 1 (2<3/\tt 2 ((20:Int)=20/\(SEq 1 (gD [mI 2]) 1 (gD [mI 2]))/\(SEq 2 A24 2 A24)/\P7 (tt 1 (zC A2 (P1 (zC A1 (DO Gl yd0 28 A60 A5 (.ret bu) []/\tt 1 (th (jb=2/\P5 (P5 (P7 (tt 1 (zC A2 (P1 (zC A1 (DO Gl yd0 28 A57 A5 (.ret bu) []/\tt 3 ((7:Int)=7/\P5 ((SEq 2 A70 2 A70)/\P7 (tt 1 (zC A2 (P1 (zC A1 (DO Gl yd0 28 A47 A5 (.ret bu) []/\tt 3 ((8:Int)=8/\P5 (P10 (P7 (tt 1 (zC A2 (P1 (zC A1 (DO Gl yd0 28 A61 A5 (.ret bu) []/\tt 4 ((eb<=0/\0<(t.length:Int))/\tt 3 ((eb<=0/\0<(t.length:Int))/\tt 3 ((9:Int)=9/\(SEq 1 A44 1 A44)/\(SEq 2 A20 2 A20)/\P7 (tt 1 (zC A2 (P1 (zC A1 (DO Gl yd0 28 A74 A5 (.ret bu) []/\tt 1 (CR Gl 7 [] bu/\true=true)))))))))))))))))))))))))))))))))))))))))))))))))))))))))))))))))))))))))))))))))))))))))))))) Tryz.func6 ?_
 have W:=r.q.ok;have p0:nth pl 0=⟨1,2,0⟩:=by rw[r.q.ep];rfl
 have p1:nth pl 1=⟨0,1,2⟩:=by rw[r.q.ep];rfl
 have hT:T.length=4:=by rw[r.q.eT];rfl
 have hp:pl.length=2:=by rw[r.q.ep];rfl
 have hl:∀i,(o.rt i).length=2:=El o;simp only[stdS,aL,aB,and_true,r.q.k1,r.q.k2,r.q.k3,r.q.k5,r.q.k6,Ad,Ap,dH,false_implies,Int.toNat_zero,Bool.or_self,forall_const];refine⟨Bh2 S r.q,λht ir hsec=>⟨Bh3 S r.q,tabM S r.q,Bh4 S r.q,openM S r.q,λ_ _=>⟨by omega,by omega,by omega,Bh5 S r.q _ _ (by rw[p0];exact Fd [0,1,2,0]),by omega,⟨rfl,trivial⟩,by omega,by omega,by omega,Bh6 S r.q _ _ (by rw[p1];exact Fd [1,0,1,2]),by omega,⟨rfl,trivial⟩,waitM S r.q _ _ (Fd [40]),by omega,by omega,by omega,by omega,by omega,by omega,⟨.of ⟨rfl,λ_ _=>rfl⟩,.of ⟨rfl,λ_ _=>rfl⟩,trivial⟩,λi hi=>⟨λhlt=>?body,λdr=>?after⟩⟩⟩⟩
 case after=>
  obtain rfl:i=2:=by have:=dS dr;omega
  have h2:t.length=2:=by have:=r.q.k1;simp at this;omega
  exact⟨⟨.of ⟨rfl,λ_ _=>rfl⟩,.of ⟨rfl,λ_ _=>rfl⟩,.of ⟨rfl,λ_ _=>rfl⟩,trivial⟩,λk4 h4=>⟨λtn=>⟨by have:=bY tn;omega,by have:=bY tn;omega,by have:=bY tn;omega,by have:=bY tn;omega,Bha S r k4 (by have:=bY tn;omega) _ _ _ _ (Fd [(k4:Int)]) (Fd [shF 2 0 k4,o.erF 2 0 k4]),by omega,by have:=bY tn;omega,rfl,trivial⟩,
   λ_=>⟨by omega,by decide,by omega,by decide,Bh7 S r _ _ (Fd [1,1,0,o.erF 2 0 1]),by omega,by decide,by omega,by decide,by omega,by decide,Bh8 S r _ _ (Fd [1,1,0,o.erF 2 0 1,o.erF 2 0 0]),Bh9 S r,totM S r _ _ _ _ (Fd [1]) (Fd [loM b0,hiM b0]),Ajh S r 0 (by decide) 0 0 rfl rfl _ _ _ _ (Fd [0]) (Fd [0,0]),Ajh S r 1 (by decide) 0 0 rfl rfl _ _ _ _ (Fd [1]) (Fd [0,0]),by omega,by decide,by omega,by decide,Ajh S r 2 (by decide) _ _ rfl rfl _ _ _ _ (Fd [2]) (Fd [shF 2 0 2,o.erF 2 0 2]),leftM S r,Bhb S r _ _ (Fd [0,1]),Bhc S r _ _ (Fd [1]),by omega,by omega,Bhd S r _ _ _ _ (Fd [0]) (Fd [nth t 0,nth t 0]),Aq1 S,trivial⟩⟩⟩
 have kb:i<2:=by have:=bY hlt;omega
 have hk8:ks.length=8:=by have:=r.q.k2;simp at this;omega
 have hs8:sec.length=8:=by have:=r.q.k3;simp at this;omega
 have hli:=hl i;obtain⟨⟨m1,m2⟩,m3,m4⟩:=handM r.q i;have jq:(nth pl i).one=hdM i 0:=by
  match i,kb with
  |0,_=>rw[p0];rfl
  |1,_=>rw[p1];rfl
 have hh1:(nth pl i).other=hdM i 1:=by
  match i,kb with
  |0,_=>rw[p0];rfl
  |1,_=>rw[p1];rfl
 refine⟨by omega,by omega,by omega,by omega,⟨by rw[r.q.eT];exact rtF o i kb,trivial⟩,by omega,m1,m2,by omega,by omega,by omega,⟨hli,.of ⟨hli,λ_ _=>rfl⟩,jq,trivial⟩,λk3 cx=>⟨λhl3=>?a0,λhg3=>?b0⟩⟩
 case a0=>
  have cx:k3<2:=by have:=bY hl3;omega
  exact⟨by omega,by omega,by omega,by omega,by omega,by omega,Asf S r.q i k3 cx _ _,λhw=>⟨by omega,cx,by omega,cx,rfl,by rw[hw,bA];exact Vo λj _=>wT r.q.eo i 0 k3 cx _ _ (cD (nth ks) (by omega)) (cD (nth sec) (by omega)) hw j,trivial⟩,λhw=>⟨by omega,cx,rfl,extI λj _=>wF r.q.eo i 0 k3 cx _ (cD (nth ks) (by omega)) hw j,trivial⟩⟩
 case b0=>
  obtain rfl:k3=2:=by have:=dS hg3;omega
  have hd:=hdR i 0;have hs:=shR i 0 kb (by decide) (hdM i 0).toNat (by omega)
  have he:=erR o (2*i+0) (hdM i 0).toNat
  have sf:o.erF i 0 (hdM i 0).toNat=o.erN (2*i+0) (hdM i 0).toNat:=rfl;have hn:=Nf o i 0;have uu:o.n i 0=(Cd (o.rt i) (o.c i 0)).length:=rfl;refine⟨Asg S r.q i 0 2 kb (by decide) rfl,λ_=>⟨Ash o i 0,by omega,by decide,by omega,by decide,colM S r.q i 0 kb (by decide) _ _ (colF o i 0 _ _),by omega,by omega,by omega,by omega,by omega,by omega,by omega,λ_=>⟨by omega,by omega,by omega,by omega,⟨rfl,Vo λj hj=>shS i 0 j kb (by decide) hj,Vo λj hj=>erS o i 0 j kb (by decide) hj,trivial⟩,by omega,by omega,m3,m4,by omega,by omega,by omega,⟨hli,.of ⟨hli,λ_ _=>rfl⟩,hh1,trivial⟩,λk3 cx=>⟨λhl3=>?a1,λhg3=>?b1⟩⟩⟩⟩
  case a1=>
   have cx:k3<2:=by have:=bY hl3;omega
   exact⟨by omega,by omega,by omega,by omega,by omega,by omega,Asf S r.q i k3 cx _ _,λhw=>⟨by omega,cx,by omega,cx,rfl,by rw[hw,bA];exact Vo λj _=>wT r.q.eo i 1 k3 cx _ _ (cD (nth ks) (by omega)) (cD (nth sec) (by omega)) hw j,trivial⟩,λhw=>⟨by omega,cx,rfl,extI λj _=>wF r.q.eo i 1 k3 cx _ (cD (nth ks) (by omega)) hw j,trivial⟩⟩
  case b1=>
   obtain rfl:k3=2:=by have:=dS hg3;omega
   have hd:=hdR i 1;have hs:=shR i 1 kb (by decide) (hdM i 1).toNat (by omega)
   have he:=erR o (2*i+1) (hdM i 1).toNat
   have sf:o.erF i 1 (hdM i 1).toNat=o.erN (2*i+1) (hdM i 1).toNat:=rfl;have hn:=Nf o i 1;have uu:o.n i 1=(Cd (o.rt i) (o.c i 1)).length:=rfl;exact⟨Asg S r.q i 1 2 kb (by decide) rfl,λ_=>⟨Ash o i 1,by omega,by decide,by omega,by decide,colM S r.q i 1 kb (by decide) _ _ (colF o i 1 _ _),by omega,by omega,by omega,by omega,by omega,by omega,by omega,λ_=>⟨by omega,by omega,by omega,by omega,⟨rfl,Vo λj hj=>shS i 1 j kb (by decide) hj,Vo λj hj=>erS o i 1 j kb (by decide) hj,trivial⟩,by omega,by omega,passM S r.q i kb _ _ (passF o i _),by omega,kb,rfl,extI λj _=>shN2 i j,extI λj _=>erN2 o i j,trivial⟩⟩⟩
theorem Bhe {Gl} (S:SP Gl) {s:Su} (es:s=⟨Ds,Kf,1,2,Jn,exPB3⟩):CR Gl 21 [] (.d (.agg (cS s))):=by rw[es];exact Aqn S
def law6k {Gl} (S:SP Gl) (t ks:List Int) (sec:List Bool) (s:Su) (es:s=⟨Ds,Kf,1,2,Jn,exPB3⟩) (hg:(bif bif bif ((t.length:Int) != 2) then true else ((ks.length:Int) != 8) then true else ((sec.length:Int) != 8) then true else !Cu s.p t)=true):CR Gl 6 [L eI t,L eI ks,L eBo sec] (B true):=by
 refine Ag S (let A6:=(t.length:Int);let A2:=(A6 != (2:Int));let A4:=eqB A2 false=true->eqB A2 false=true;let A1:=(bif A6 != (2:Int) then true else (ks.length:Int) != (8:Int));let A5:=eqB A1 false=true->eqB A1 false=true;let A0:=(bif bif A6 != (2:Int) then true else (ks.length:Int) != (8:Int) then true else (sec.length:Int) != (8:Int));let A3:=eqB A0 false=true->eqB A0 false=true;((rs [tA (cS s),B (Cu (Su.p s) t)] (.val 54 true (.tt (rt (B true) .nil)))),(CR Gl 21 [] (tA (cS s))/\(t.length<=maxLen->A4/\((eqB A2 false=true->ks.length<=maxLen)->A4/\(A2=false->eqB A2 false=true)/\A5/\((eqB A1 false=true->sec.length<=maxLen)->A5/\(A1=false->eqB A1 false=true)/\A3/\A3/\A3/\(eqB A0 false=true->CR Gl 14 [Cn (Su.p s),L eI t] (B (Cu (Su.p s) t)))/\A3/\(bif bif bif A6 != (2:Int) then true else (ks.length:Int) != (8:Int) then true else (sec.length:Int) != (8:Int) then true else !Cu s.1 t)=true/\(A0=false->eqB A0 false=true)/\true=true/\CR Gl 7 [] (B true)/\true=true)))))) Tryz.func6 ?_;dsimp only;grind[Aq1,Bhe,Ase,Yc]
def law6 {Gl} (S:SP Gl) (t ks:List Int) (sec:List Bool):CR Gl 6 [L eI t,L eI ks,L eBo sec] (B true):=by
 obtain⟨s,es⟩:∃s:Su,s=⟨Ds,Kf,1,2,Jn,exPB3⟩:=⟨_,rfl⟩
 cases hg:(bif bif bif ((t.length:Int) != 2) then true else ((ks.length:Int) != 8) then true else ((sec.length:Int) != 8) then true else !Cu s.p t) with
 |true=>exact law6k S t ks sec s es hg
 |false=>
  simp only[Ah7,dW]at hg;obtain⟨⟨⟨g1,g2⟩,g3⟩,g4⟩:=hg;have q:Mq t ks sec s [⟨1,2,0⟩,⟨0,1,2⟩] (Ng t ks sec).tab (Ng t ks sec):=⟨g1,g2,g3,by grind,es,rfl,rfl,rfl,rfl,rfl⟩
  exact law6m S t ks sec s _ _ _ _ _ ⟨q,rfl,rfl⟩
end Go.Vc.Zn.Rm
set_option maxRecDepth 100000
namespace Go.Vc.Zn
open Go Go.Proofs Go.Vc Go.Proofs.YtknoiciabjockaaGreat Go.ChangeShapes Go.WideShapes Go.ChangeAt Go.RowKit Go.Deep
section
variable {W:World} {b0:Nat} {v:Value}
def argBs:Po Tryz.prog W 89 v λc=>∃n f,n<=maxLen/\(∀i,i<n->∃k,f i=[Cb k])/\c=.s .n n f:=.slice0 Tryz.underlying89 flatB (by trivial) Axc
def Bhf (h:Value.okWide Tryz.prog W .any b0 89 v):Rl Tryz.prog W 89 v λx=>∃p:List Bool,x=L Rm.eBo p:=by
 have hk:=Anj Tryz.underlying89 (.inl ⟨_,rfl⟩) h;have e9:v.cells.toList=[v]:=by
  unfold Cell.okWide at hk;rw[Tryz.underlying89]at hk;cases v<;>trivial
 refine (argBs.arg e9).weak ?_;rintro x ⟨_,⟨n,f,_,hf,rfl⟩,rfl⟩;obtain⟨l,e⟩:=Ax9 (enc:=Rm.eBo) hf;refine⟨L Rm.eBo l,⟨_,rfl⟩,λp hp=>?_⟩;change p∈[SEq n f l.length λi=>Rm.eBo (nth l i)]at hp;grind
end
end Go.Vc.Zn
