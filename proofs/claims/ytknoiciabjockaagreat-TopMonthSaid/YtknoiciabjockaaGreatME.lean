/- A part of the proofs over the layers: the program and the specification; no condition. -/
import Derived.Test.YtknoiciabjockaaGreatMD
set_option linter.all false
namespace Go
abbrev fD:=@decide_eq_false
abbrev fG:=@List.length_singleton
end Go
namespace Go.Vc.Zn.Py
open Go Go.Proofs Go.Vc Go.RowKit Tryz
def cnt (l:Line):Int:=l.p0*960+l.p1*48+l.p2*4+l.p3
def sumF {Gl} (S:SP Gl) (a b c d:Int) (h:(0<=a/\a<=1000000)/\(0<=b/\b<=1000000)/\(0<=c/\c<=1000000)/\(0<=d/\d<=1000000)):CR Gl 398 [.d (.c (.s .n 4 λi=>[List.map C.dem [C.v (.int .i64 a)],List.map C.dem [C.v (.int .i64 b)],List.map C.dem [C.v (.int .i64 c)],List.map C.dem [C.v (.int .i64 d)]].getD i []))] (I (a+b+c+d)):=by
 have h1:=Ba0 S [a,b,c,d] (by grind) (λk hk=>by
  have hk:k<=4:=hk
  match k,hk with
  |0,_=>show -1000000000<=(0:Int)/\(0:Int)<=1000000000;omega
  |1,_=>show -1000000000<=0+a/\0+a<=1000000000;omega
  |2,_=>show -1000000000<=0+a+b/\0+a+b<=1000000000;omega
  |3,_=>show -1000000000<=0+a+b+c/\0+a+b+c<=1000000000;omega
  |4,_=>show -1000000000<=0+a+b+c+d/\0+a+b+c+d<=1000000000;omega)
 have h2:Jj [a,b,c,d] [a,b,c,d].length=a+b+c+d:=by
  show 0+a+b+c+d=_
  omega
 rw[h2]at h1;exact h1.args ⟨rfl,λi hi=>.inl (by match i,hi with|0,_=>rfl|1,_=>rfl|2,_=>rfl|3,_=>rfl)⟩
def Apn {Gl} (S:SP Gl) (l:Line) (h:Kt l=true):CR Gl 369 [.d (.agg (Yo l))] (I (cnt l)):=by
 refine Ag S (let A0:=Line.p0 l*(960:Int)+Line.p1 l*48+Line.p2 l*4+Line.p3 l;((rs [tA [Ci 960,Ci 48,Ci 4,Ci 1],I A0] .nil),(CR Gl 177 [] (tA [Ci 960,Ci 48,Ci 4,Ci 1])/\iR (l.6*(960:Int))/\iR (l.7*(48:Int))/\iR (l.8*(4:Int))/\CR Gl 398 [tS 4 (gD [mI (Line.p0 l*(960:Int)),mI (Line.p1 l*(48:Int)),mI (Line.p2 l*(4:Int)),mI (Line.p3 l)])] (I A0)/\l.6*(960:Int)+l.7*48+l.8*4+l.9=cnt l))) func369 ?_;unfold Kt at h;simp only[aE,Bi]at h;exact⟨Apc S,(Ad _).2 (by omega),(Ad _).2 (by omega),(Ad _).2 (by omega),sumF S _ _ _ _ (by omega),rfl⟩
def paysL (b:PBook) (er:List Int):List Int:=Ei b er b.lines.length
def Yp (b:PBook) (er:List Int) (i:Nat):Bool:=nth (paysL b er) i==cnt (nth b.lines i)
def paidAll (b:PBook) (er:List Int):Bool:=(List.range b.lines.length).all (Yp b er)
def Px (b:PBook) (er:List Int):Nat:=Bl (Yp b er) (List.range b.lines.length)
def Bb0 {Gl} (S:SP Gl) (b:PBook) (er:List Int) (h:okPB b=true) (he:er.length=b.lines.length) (hx:∀i,i<er.length->inR (nth er i) 0 20=true) (hp:paidAll b er=true):CR Gl 368 [.d (.rd (cAc b er))] (.tup []):=by
 refine Ag S (let A3:=Ei b er b.7.length;let A2:=paysL b er;let A1:=PBook.lines b;let A4:=List.length A1;let A0:=[D.c (C.l eI (Ei b er A4)),D.c (C.m 0 false (Dm b A4) (Hr b er A4))];let P0:=λ(zz:Prop)=>b.1=b.1/\b.2=b.2/\b.3=b.3/\b.4=b.4/\b.5=b.5/\b.6=b.6/\sR eLine b.7/\zz;((rt (.tup A0) (.loop A4 (λk=>[v 12 (I k),v 11 (I (List.length A1:Int)),v 10 (L eI A2),v 0 (T.d (D.rd (cAc b er)))]) λk0=>.br (rt (I (cnt (nth A1 k0))) (.br .nil .nil)) .nil)),(CR Gl 175 [tAc b er] (.tup A0)/\(List.length A3<=maxLen->(0=(↑(0:Nat):Int)/\(List.length A3:Int)=(b.7.length:Int)/\(sQ eI A3 A2)/\P0 (sR eI er))/\∀(k0:Nat),k0<=List.length A1->(decide ((k0:Int)<b.7.length)=true->(0<=(k0:Int)/\(k0:Int)<(List.length A2:Int))/\(0<=(k0:Int)/\(k0:Int)<b.7.length)/\CR Gl 369 [tA (Yo (nth A1 k0))] (I (cnt (nth A1 k0)))/\((nth A2 k0 != cnt (nth b.7 k0))=true->False)/\((nth A2 k0 != cnt (nth b.7 k0))=false->iR ((k0:Int)+1)/\k0<List.length A1/\(k0:Int)+1=(↑(k0+1):Int)/\(b.7.length:Int)=b.7.length/\(sR eI A2)/\P0 (sR eI er)))/\(decide ((k0:Int)<b.7.length)=false->True))))) func368 ?_;dsimp only;have hr:∀(n:Nat) (f:Nat->List C),SEq n f n f:=λ_ _=>.of ⟨rfl,λ_ _=>rfl⟩;have hlb:=(okPB_facts h).2.2.1;have je:(paysL b er).length=b.lines.length:=pays_len b er _;refine⟨Acb S b er h he hx,λ_=>⟨⟨rfl,by rw[show (Ei b er b.lines.length).length=b.lines.length from je],hr _ _,rfl,rfl,rfl,rfl,rfl,rfl,hr _ _,hr _ _⟩,λk hk=>⟨λhd=>?_,λ_=>trivial⟩⟩⟩;have hlt:k<b.lines.length:=by grind
 have n6:Yp b er k=true:=aS.1 hp k (bB.2 hlt);have xh:Kt (nth b.lines k)=true:=by
  have:=(okPB_facts h).2.2.2.2.2.2.2 k hlt;unfold Dh at this;simp only[aE]at this;exact this.2
 refine⟨⟨by omega,by omega⟩,⟨by omega,iM.2 hlt⟩,Apn S _ xh,λhn=>?_,λ_=>⟨(Ad _).2 (by omega),hlt,by omega,rfl,hr _ _,rfl,rfl,rfl,rfl,rfl,rfl,hr _ _,hr _ _⟩⟩;have h1:=dI.1 n6;grind
def Bb1 {Gl} (S:SP Gl) (b:PBook) (er:List Int) (h:okPB b=true) (he:er.length=b.lines.length) (hx:∀i,i<er.length->inR (nth er i) 0 20=true) (hp:paidAll b er=false):CO Gl 368 [.d (.rd (cAc b er))] (.pan (.iface 504 (.agg #[.int .i64 (Px b er)]))):=by
 refine Ag S (let A3:=Ei b er b.7.length;let A2:=paysL b er;let A1:=PBook.lines b;let A4:=List.length A1;let A0:=[D.c (C.l eI (Ei b er A4)),D.c (C.m 0 false (Dm b A4) (Hr b er A4))];let P0:=λ(zz:Prop)=>b.1=b.1/\b.2=b.2/\b.3=b.3/\b.4=b.4/\b.5=b.5/\b.6=b.6/\sR eLine b.7/\zz;((rt (.tup A0) (.loop (Px b er) (λk=>[v 12 (I k),v 11 (I (List.length A1:Int)),v 10 (L eI A2),v 0 (T.d (D.rd (cAc b er)))]) λk0=>.br (rt (I (cnt (nth A1 k0))) (.br .nil .nil)) .nil)),(CR Gl 175 [tAc b er] (.tup A0)/\(List.length A3<=maxLen->(0=(↑(0:Nat):Int)/\(List.length A3:Int)=(b.7.length:Int)/\(sQ eI A3 A2)/\P0 (sR eI er))/\∀(k0:Nat),k0<=Px b er->(decide ((k0:Int)<b.7.length)=true->(0<=(k0:Int)/\(k0:Int)<(List.length A2:Int))/\(0<=(k0:Int)/\(k0:Int)<b.7.length)/\CR Gl 369 [tA (Yo (nth A1 k0))] (I (cnt (nth A1 k0)))/\((nth A2 k0 != cnt (nth b.7 k0))=true->Value.iface 504 (Value.agg (Array.mk [vI k0]))=Value.iface 504 (Value.agg (Array.mk [vI (↑(Px b er):Int)])))/\((nth A2 k0 != cnt (nth b.7 k0))=false->iR ((k0:Int)+1)/\k0<Px b er/\(k0:Int)+1=(↑(k0+1):Int)/\(b.7.length:Int)=b.7.length/\(sR eI A2)/\P0 (sR eI er)))/\(decide ((k0:Int)<b.7.length)=false->False))))) func368 ?_;dsimp only;have hr:∀(n:Nat) (f:Nat->List C),SEq n f n f:=λ_ _=>.of ⟨rfl,λ_ _=>rfl⟩;have hlb:=(okPB_facts h).2.2.1;have je:(paysL b er).length=b.lines.length:=pays_len b er _;have i9:(List.range b.lines.length).length=b.lines.length:=cR
 refine⟨Acb S b er h he hx,λ_=>⟨⟨rfl,by rw[show (Ei b er b.lines.length).length=b.lines.length from je],hr _ _,rfl,rfl,rfl,rfl,rfl,rfl,hr _ _,hr _ _⟩,λk hk=>⟨λhd=>?_,λhd=>?_⟩⟩⟩
 ·have hlt:k<b.lines.length:=by grind
  have xh:Kt (nth b.lines k)=true:=by
   have:=(okPB_facts h).2.2.2.2.2.2.2 k hlt;unfold Dh at this;simp only[aE]at this;exact this.2
  refine⟨⟨by omega,by omega⟩,⟨by omega,iM.2 hlt⟩,Apn S _ xh,λhn=>?_,λhn=>⟨(Ad _).2 (by omega),Fq hk (by omega) ?_,by omega,rfl,hr _ _,rfl,rfl,rfl,rfl,rfl,rfl,hr _ _,hr _ _⟩⟩
  ·have bf:Px b er=k:=by
    rcases bL k (Px b er) with h2|h2
    ·have h3:=Io (p:=Yp b er) h2;rw[Cc hlt]at h3;have h3:=dI.1 h3;grind
    ·omega
   rw[bf]
  grind[Cc,Yp]
 grind[Jg,Px,paidAll]
theorem Bb2 {Gl} (S:SP Gl) (b:PBook) (er:List Int) (h:okPB b=true) (he:er.length=b.lines.length) (hx:∀i,i<er.length->inR (nth er i) 0 20=true):CR Gl 367 [.fn 368 [] [.d (.rd (cAc b er))]] (I (bif paidAll b er then 0 else 5)):=by
 cases hp:paidAll b er with
 |true=>exact Pa.attempt74 S (fst:=[]) (Bb0 S b er h he hx hp) .ok
 |false=>exact Pa.attempt74 S (fst:=[]) (Bb1 S b er h he hx hp) (.row _)
def Apo {Gl} (S:SP Gl) (b:PBook) (er:List Int) (h:okPB b=true) (he:er.length=b.lines.length) (hx:∀i,i<er.length->inR (nth er i) 0 20=true):CR Gl 319 [tAc b er] (B (paidAll b er)):=by
 refine Ag S (let A0:=(bif paidAll b er then (0:Int) else (5:Int));((rt (I A0) .nil),(CR Gl 367 [T.fn 368 [] [T.d (D.rd (cAc b er))]] (I A0)/\(A0==(0:Int))=paidAll b er))) func319 ?_;dsimp only;grind[Bb2]
end Go.Vc.Zn.Py
namespace Go.Vc.Zn
open Go Go.Proofs Go.Vc Go.RowKit
structure Col where
 vals:List Int
 order:Nat
 lo:Int
 hi:Int
structure okC (s:Col):Prop where
 b1:inR s.vals.length 1 14=true
 b2:inR s.order 1 3=true
 b3:inR s.lo (-99999) 99999=true
 b4:inR s.hi s.lo 99999=true
 b5:(s.vals.all λn=>inR n (-9999) 9999)=true
 b6:decide ((s.order:Int)<(s.vals.length:Int))=true
def flo (a b:Int):Int:=bif decide (a<a.tdiv b*b) then a.tdiv b - 1 else a.tdiv b
structure Fix where
 row:Nat
 lo:Int
 hi:Int
instance:Inhabited Fix:=⟨⟨0,0,0⟩⟩
end Go.Vc.Zn
namespace Go.Vc.Zn.Co
open Go Go.Proofs Go.Vc Go.RowKit
variable {Gl:World->Prop}
end Go.Vc.Zn.Co
namespace Go.Vc.Zn
open Go Go.Proofs Go.Vc Go.RowKit Tryz
variable {Gl:World->Prop}
structure Chg where
 row:Nat
 val:Int
 by':Int
instance:Inhabited Chg:=⟨⟨0,0,0⟩⟩
set_option maxRecDepth 100000
structure RS where
 unit:Int
 rule:Int
 errs:List Int
 rows:List Int
def cRS (s:RS):List C:=[Ci s.unit,Ci s.rule,.l eI s.errs,.l eI s.rows]
def tRS (s:RS):T:=.d (.agg (cRS s))
def cRT (s:RS) (g:Int):List C:=cRS s++[Ci g]
def exR:RS:=⟨10,3,[4,1,0],[13,26,44]⟩
def cRu (u:Int):T:=.d (.agg [Ci u])
def Ai2 (u:Int):T:=.ag [.d (.c (.v .nilFunc)),.fn 295 [cRu u] [],.fn 296 [cRu u] [],.fn 297 [cRu u] [],.fn 298 [cRu u] []]
def fig (n:Int):Int:=flo (2*n+10) 20
def exL (r:Nat):Span:=⟨nth exR.rows r - 1,nth exR.rows r+1⟩
theorem Ai3 (S:SP Gl) (x lo hi:Int):CR Gl 290 [I x,I lo,I hi] (B (inR x lo hi)):=by
 refine Ag S (let A0:=eqB (decide (lo<=x)) true=true->eqB (decide (lo<=x)) true=true;((.nil),(A0/\A0/\(decide (lo<=x)=true->eqB (decide (lo<=x)) true=true)/\(bif decide (lo<=x) then decide (x<=hi) else false)=inR x lo hi))) func290 ?_;simp only[stdS,aL,aB,and_true,inR]
theorem Bb3 (S:SP Gl)  :CR Gl 349 [I 3] (B true):=by
 refine Ao S (.sure 6 (.sure 7 .nil)) (true=true/\true=true/\true=true) func349 ?_;trivial
def Bb4 (S:SP Gl) (n:Int):CR Gl 350 [I n] (B (!inR n (-100000) 100000)):=by
 refine Ag S (let A0:=(-100000:Int);((rt (B (inR n A0 100000)) .nil),(CR Gl 290 [I n,I A0,I 100000] (B (inR n A0 100000))/\(!inR n A0 (100000:Int))=!inR n A0 (100000:Int)))) func350 ?_;simp only[stdS,aL,aB,and_true];grind[Ai3]
def Bb5 (S:SP Gl)  :CR Gl 33 [] (tRS exR):=by
 refine Ao S .nil ((10:Int)=10/\(3:Int)=3/\(SEq 3 (gD [mI 4,mI 1,mI 0]) (List.length [(4:Int),(1:Int),(0:Int)]) λi=>eI (nth [(4:Int),(1:Int),(0:Int)] i))/\SEq 3 (gD [mI 13,mI 26,mI 44]) (List.length [(13:Int),(26:Int),(44:Int)]) λi=>eI (nth [(13:Int),(26:Int),(44:Int)] i)) func33 ?_;refine⟨rfl,rfl,.of ⟨rfl,λi hi=>?_⟩,.of ⟨rfl,λi hi=>?_⟩⟩<;>(match i,hi with|0,_=>rfl|1,_=>rfl|2,_=>rfl)
def Bb6 (S:SP Gl)  :CR Gl 289 [tRS exR] (B true):=by
 refine Ag S (let A5:=(0:Int);let A4:=(B !List.all (RS.rows exR) λx=>!!inR x (-100000:Int) (100000:Int));let A3:=(↑(3:Nat):Int);let A6:=B (inR A3 1 5);let A2:=nth [(4:Int),(1:Int),A5] (Int.toNat (A5+1+1));let A1:=nth [(4:Int),(1:Int),A5] (Int.toNat 0);let A0:=nth [(4:Int),(1:Int),A5] (Int.toNat (A5+1));((rt (B (inR 10 1 1000)) (.sure 11 (.sure 12 (.sure 13 (rt (B true) (.sure 14 (.sure 17 (.sure 18 (.sure 19 (.sure 20 (rt A6 (.sure 21 (.sure 24 (.sure 25 (.sure 26 (.sure 27 (rt A6 (.sure 28 (.ff (.un 4 (.tt (rt (B (inR A1 0 8)) (.ff (.tt (rt (B (inR A0 0 A1)) (.ff (.tt (rt (B (inR A2 0 A0)) (.ff (.ff (rt A4 .nil))))))))))))))))))))))))))))))),(CR Gl 290 [I 10,I 1,I 1000] (B (inR 10 1 1000))/\tt 3 (CR Gl 349 [I 3] (B true)/\tt 4 ((3<=maxLen->tt 1 (CR Gl 290 [I A3,I 1,I 5] A6/\tt 4 ((3<=maxLen->tt 1 (CR Gl 290 [I A3,I 1,I 5] A6/\tt 1 (false=false/\(3<=maxLen->tt 1 ((A5<=0/\0<A3)/\CR Gl 290 [I A1,I 0,I 8] (B (inR A1 0 8))/\false=false/\iR (A5+1)/\tt 1 ((A5<=0+1/\A5+1<A3)/\CR Gl 290 [I A0,I 0,I A1] (B (inR A0 0 A1))/\false=false/\iR (A5+1+1)/\tt 1 ((A5<=0+1+1/\A5+1+1<A3)/\CR Gl 290 [I A2,I 0,I A0] (B (inR A2 0 A0))/\false=false/\iR (A5+1+1+1)/\false=false/\CR Gl 102 [L eI (RS.rows exR),T.fn 350 [] []] A4/\true=true))))))))))))))) func289 ?_;have h:=Yg S exR.rows 350 (λn=>!inR n (-100000) 100000) (λi _=>Bb4 S _);have hx:(exR.rows.all λx=>!!inR x (-100000) 100000)=true:=by decide
 simp only[stdS,aL,aB,and_true,Ad,Ap];grind[Ai3,Bb3]
def Bb7 (S:SP Gl)  :CR Gl 183 [tRS exR,I 1] (.tup [.agg (cRT exR 1),.c (Ci 0)]):=by
 refine Ag S (let A0:=((↑(3:Nat):Int)-1);((rt (B true) (.sure 10 (.sure 11 (.sure 12 (.sure 13 (.sure 14 (.sure 15 (rt (B (inR 1 0 A0)) (.sure 16 (.ff .nil)))))))))),(CR Gl 289 [tRS exR] (B true)/\tt 4 ((3<=maxLen->tt 1 (iR A0/\tt 1 (CR Gl 290 [I 1,I 0,I A0] (B (inR 1 0 A0))/\tt 1 (false=false/\(10:Int)=10/\(3:Int)=3/\(SEq 3 (λi=>eI (nth [(4:Int),(1:Int),(0:Int)] i)) (List.length [(4:Int),(1:Int),(0:Int)]) λi=>eI (nth [(4:Int),(1:Int),(0:Int)] i))/\(SEq 3 (λi=>eI (nth [(13:Int),(26:Int),(44:Int)] i)) (List.length [(13:Int),(26:Int),(44:Int)]) λi=>eI (nth [(13:Int),(26:Int),(44:Int)] i))/\(1:Int)=1/\(0:Int)=0)))))))) func183 ?_;simp only[stdS,aL,aB,and_true,Ad,Ap];exact⟨Bb6 S,λ_=>⟨by decide,Ai3 S _ _ _,.of ⟨rfl,λ_ _=>rfl⟩,.of ⟨rfl,λ_ _=>rfl⟩,trivial⟩⟩
theorem Bb8 (S:SP Gl) (u n:Int) (hu:1<=u/\u<=1000) (hn:-1000000<=n/\n<=1000000):CR Gl 295 [cRu u,I n] (I (flo n u)):=by
 refine Ao S (.br .nil .nil) ((u≠(0:Int)/\iR (Int.tdiv n u))/\iR (Int.tdiv n u*u)/\(decide (n<Int.tdiv n u*u)=true->iR (Int.tdiv n u-(1:Int))/\Int.tdiv n u-(1:Int)=flo n u)/\(decide (n<Int.tdiv n u*u)=false->Int.tdiv n u=flo n u)) func295 ?_;have h1:=Int.natAbs_tdiv_le_natAbs n u;have h2:=Int.tmod_add_tdiv_mul n u;have h3:=Int.natAbs_tmod n u;have h4:n.natAbs % u.natAbs<=n.natAbs:=Nat.mod_le _ _;grind[flo,Ad]
def Bb9 (S:SP Gl) (u n:Int) (hu:1<=u/\u<=100) (hn:-100000<=n/\n<=100000):CR Gl 297 [cRu u,I n] (I (flo (2*n+u) (2*u))):=by
 refine Ag S (let A1:=((2:Int)*u);let A0:=(2:Int)*n+u;((rt (I (flo A0 A1)) .nil),(iR A1/\iR ((2:Int)*n)/\iR A0/\CR Gl 295 [cRu A1,I A0] (I (flo A0 A1))/\flo A0 A1=flo A0 A1))) func297 ?_;dsimp only;grind[Ad,Bb8]
def Bba (S:SP Gl) (u:Int):CR Gl 186 [cRu u] (Ai2 u):=by
 refine Ao S .nil (Value.nilFunc=Value.nilFunc/\295=295/\u=u/\296=296/\u=u/\297=297/\u=u/\298=298/\u=u) func186 ?_;trivial
theorem App (S:SP Gl) (n:Int) (hn:-100000<=n/\n<=100000):CR Gl 96 [.d (.agg (cRT exR 1)),I n] (I (fig n)):=by
 refine Ao S (rs [Ai2 10,I (flo ((2:Int)*n+10) ((2:Int)*10))] .nil) (CR Gl 186 [cRu 10] (Ai2 10)/\((0:Int)<=3/\3<(↑(5:Nat):Int))/\CR Gl 297 [cRu 10,I n] (I (flo ((2:Int)*n+10) ((2:Int)*10)))/\flo ((2:Int)*n+10) ((2:Int)*10)=fig n) func96 ?_;exact⟨Bba S 10,by decide,Bb9 S 10 n (by omega) hn,rfl⟩
theorem Bbb (S:SP Gl) (r:Nat) (hr:r<3):CR Gl 352 [.d (.agg (cRT exR 1)),I r] (.d (.agg (Ae (exL r)))):=by
 refine Ag S (let A1:=Int.toNat 1;let A0:=(0<=(r:Int)/\(r:Int)<(↑(3:Nat):Int));((.nil),(((0:Int)<=1/\1<(↑(3:Nat):Int))/\A0/\iR (nth [(13:Int),(26:Int),(44:Int)] r-nth [(4:Int),(1:Int),(0:Int)] A1)/\A0/\iR (nth [(13:Int),(26:Int),(44:Int)] r+nth [(4:Int),(1:Int),(0:Int)] A1)/\nth [(13:Int),(26:Int),(44:Int)] r-nth [(4:Int),(1:Int),(0:Int)] A1=nth [(13:Int),(26:Int),(44:Int)] r-(1:Int)/\nth [(13:Int),(26:Int),(44:Int)] r+nth [(4:Int),(1:Int),(0:Int)] A1=nth [(13:Int),(26:Int),(44:Int)] r+(1:Int)))) func352 ?_;simp only[Ad]
 match r,hr with
 |0,_=>decide
 |1,_=>decide
 |2,_=>decide
def Bbc (S:SP Gl) (r:Int):CR Gl 291 [.d (.agg (cRT exR 1)),I r] (.fn 351 [] [.d (.c (.p (cRT exR 1))),.d (.c (.p [Ci r]))]):=by
 refine Awp S (t:=4) (id:=2) (id2:=3) .nil func291 (by kernel_rfl) Tryz.results291 (by decide) (by decide) (by decide) (by decide) (T.fn 351 [] [.addr 2 0,.addr 3 0]=T.fn 351 [] [.addr 2 0,.addr 3 0]/\live=live/\live=live/\Hl (Dt 2 0 (cRT exR 1)) 2 0 (cRT exR 1)/\Hl (Dt 3 0 [Ci r]) 3 0 [Ci r]) (by kernel_rfl) ?_;trivial
def elk (k p:Nat):Int:=nth exR.rows k - 1+(p:Int)
def nxD (D:Int->Bool) (k:Nat):Nat->Int->Bool
 |0,_=>false
 |p+1,x=>nxD D k p x||D (x - elk k p)
def cmb (b:Bool) (y z:Span):Span:=bif b then ⟨min y.lo z.lo,max y.hi z.hi⟩ else y
def shf (f:Int) (y:Span):Span:=⟨y.lo+f,y.hi+f⟩
def nxV (D:Int->Bool) (V:Int->Span) (k:Nat):Nat->Int->Span
 |0,_=>⟨0,0⟩
 |p+1,x=>bif D (x - elk k p) then cmb (nxD D k p x) (shf (fig (elk k p)) (V (x - elk k p))) (nxV D V k p x) else nxV D V k p x
def sDk:Nat->Int->Bool
 |0,x=>x==0
 |k+1,x=>nxD (sDk k) k 3 x
def sVk:Nat->Int->Span
 |0,_=>⟨0,0⟩
 |k+1,x=>nxV (sDk k) (sVk k) k 3 x
def Lr (h:List (List Int)) (x:Int):Bool:=h.any λy=>eqK y [x]
def hD (k p:Nat) (h:List (List Int)) (x:Int):Bool:=nxD (sDk k) k p x||Lr h (x - elk k p)
def hV (k p:Nat) (h:List (List Int)) (x:Int):Span:=bif Lr h (x - elk k p) then cmb (nxD (sDk k) k p x) (shf (fig (elk k p)) (sVk k (x - elk k p))) (nxV (sDk k) (sVk k) k p x) else nxV (sDk k) (sVk k) k p x
def kD (D:Int->Bool):List Int->Bool
 | [x]=>D x
 |_=>false
def mS (k:Nat):C:=.m 0 true (kD (sDk k)) λkey=>Ae (sVk k (nth key 0))
def Ls:List (List Int):=(List.range 300).map λ(i:Nat)=>[(i:Int)]
def sumE (k:Nat) (o:Nat):Env:=v (o+2) (ad 2)::v (o+5) (ad 5)::v (o+6) (I k)::v (o+7) (ad 7)::[]
def sumB (k:Nat) (d:List Int->Bool) (vl:List Int->List C):Env:=(2,27,.mapc false 0 true d vl)::(bx 2 (cRT exR 1)++bx 5 [mS k]++[(2,7,live),(10,0,.mp 27)])
theorem Yq {D:Int->Bool} {key:List Int}:kD D key=true↔∃x,key=[x]/\D x=true:=by
 unfold kD;grind
def Apq {D D':Int->Bool} {V V':Int->Span} (h:∀x,D x=D' x/\(D x=true->V x=V' x)):MEq (kD D) (λkey=>Ae (V (nth key 0))) (kD D') (λkey=>Ae (V' (nth key 0))):=by
 intro key;refine⟨?_,λhk=>?_⟩
 ·unfold kD;grind
 ·obtain⟨x,rfl,hx⟩:=Yq.1 hk;exact .inl (cD Ae ((h x).2 hx))
theorem eqK1 (x a:Int):eqK [x] [a]=(x==a):=by
 show (x==a&&true)=_
 grind
def Apr {D D':Int->Bool} {V V':Int->Span} {a:Int} {y:Span} {cs:List C} (hc:cs=Ae y) (h1:∀x,D' x=(x==a||D x)) (h2:V' a=y) (h3:∀x,x≠a->D x=true->V' x=V x):
  MEq (Bw (kD D) [a]) (Cr (λkey=>Ae (V (nth key 0))) [a] cs) (kD D') (λkey=>Ae (V' (nth key 0))):=by
 subst hc;intro key;have hu:Bw (kD D) [a] key=kD D' key:=by
  unfold Bw kD;split
  ·grind[eqK1]
  ·rename_i s7;have:eqK key [a]=false:=by
    match key,s7 with
    | [],_=>rfl
    | [x],s7=>exact (s7 x rfl).elim
    |x::z::r,_=>show (x==a&&eqL (z::r) [])=false;grind[eqL]
   grind
 refine⟨hu,λhk=>?_⟩;rw[hu]at hk;obtain⟨x,rfl,hx⟩:=Yq.1 hk;refine .inl ?_
 show (bif eqK [x] [a] then Ae y else Ae (V x))=Ae (V' x)
 grind[eqK1]
theorem Ai5 (h:List (List Int)) (z x:Int):Lr (h++[[z]]) x=(Lr h x||z==x):=by
 grind[Lr,eqK1]
theorem Ai6:∀{a b:List Int},eqL a b=true↔a=b
 | [],[]=>by simp[eqL]
 | [],_::_=>by simp[eqL]
 |_::_,[]=>by simp[eqL]
 |x::a,y::b=>by
  unfold eqL;rw[aE,dI,Ai6];simp
theorem Ai7 {h:List (List Int)} {x:Int}:Lr h x=true↔[x]∈h:=by
 unfold Lr;rw[List.any_eq_true];exact⟨λ⟨y,hy,he⟩=>by rw[<-Ai6.1 he];exact hy,λhx=>⟨[x],hx,Ai6.2 rfl⟩⟩
theorem Aps {D:Int->Bool} {V:Int->Span} {k:Nat} {x:Int}:∀{p:Nat},nxD D k p x=false->nxV D V k p x=⟨0,0⟩
 |0,_=>rfl
 |p+1,h=>by
  unfold nxD at h;rw[dW]at h;unfold nxV;rw[h.2,cC,Aps h.1]
def Yr {k p:Nat} (hk:k<3) (hp:p<3):(0<=elk k p/\elk k p<=60)/\0<=fig (elk k p)/\fig (elk k p)<=20:=by
 have:∀k:Fin 3,∀p:Fin 3,(0<=elk k.1 p.1/\elk k.1 p.1<=60)/\0<=fig (elk k.1 p.1)/\fig (elk k.1 p.1)<=20:=by decide
 exact this ⟨k,hk⟩ ⟨p,hp⟩
theorem Apt {D:Int->Bool} {k:Nat} {B:Int} (hk:k<3) (h:∀x,D x=true->0<=x/\x<=B) {x:Int}:∀{p:Nat},p<=3->nxD D k p x=true->0<=x/\x<=B+60
 |0,_,hx=>by cases hx
 |p+1,hp,hx=>by
  unfold nxD at hx;rw[bW]at hx;rcases hx with hx|hx
  ·exact Apt hk h (by omega) hx
  ·have h1:=h _ hx;have h2:=(Yr hk (show p<3 by omega)).1;omega
theorem Ys:∀{k:Nat},k<=3->∀{x:Int},sDk k x=true->0<=x/\x<=60*(k:Int)
 |0,_,x,h=>by
  grind[sDk]
 |k+1,hk,x,h=>by
  have:=Apt (B:=60*(k:Int)) (k:=k) (by omega) (λx hx=>Ys (show k<=3 by omega) hx) (aI 3) h;omega
def spB (M:Int) (y:Span):Prop:=(-M<=y.lo/\y.lo<=M)/\-M<=y.hi/\y.hi<=M
theorem Apu {D:Int->Bool} {V:Int->Span} {k:Nat} {M:Int} (hk:k<3) (hM:0<=M) (h:∀x,spB M (V x)) (x:Int):∀{p:Nat},p<=3->spB (M+20) (nxV D V k p x)
 |0,_=>by refine⟨⟨?_,?_⟩,?_,?_⟩<;>show _<=_<;>simp[nxV]<;>omega
 |p+1,hp=>by
  have ih:=Apu (D:=D) hk hM h x (p:=p) (by omega);have h1:=h (x - elk k p);have h2:=(Yr hk (show p<3 by omega)).2;grind[nxV,cmb,shf,spB]
theorem Ai8:∀{k:Nat},k<=3->∀x:Int,spB (20*(k:Int)) (sVk k x)
 |0,_,x=>⟨⟨dV _,dV _⟩,dV _,dV _⟩
 |k+1,hk,x=>by
  have:=Apu (D:=sDk k) (V:=sVk k) (k:=k) (by omega) (by omega) (λx=>Ai8 (show k<=3 by omega) x) x (aI 3);trivial
def Bbd {v0:List Int->List C}:MEq (Bw (λ_=>false) [(0:Int)]) (Cr v0 [(0:Int)] (Ae ⟨0,0⟩)) (kD (sDk 0)) (λkey=>Ae (sVk 0 (nth key 0))):=by
 intro key;have hu:Bw (λ_=>false) [(0:Int)] key=kD (sDk 0) key:=by
  unfold Bw;rw[Bool.or_false]
  match key with
  | []=>rfl
  | [x]=>rw[eqK1];rfl
  |x::z::r=>show (x==0&&eqL (z::r) [])=false;grind[eqL]
 refine⟨hu,λhk=>.inl ?_⟩;rw[hu]at hk;obtain⟨x,rfl,hx⟩:=Yq.1 hk;have h0:x=0:=by simpa[sDk]using hx
 subst h0
 rfl
def Bbe {V:Int->Span} {v0:List Int->List C}:MEq (λ_=>false) v0 (kD λ_=>false) (λkey=>Ae (V (nth key 0))):=by
 intro key;refine⟨?_,λh=>(by cases h)⟩;unfold kD;grind
def newK {D:Int->Bool} {h:List (List Int)} {key:List Int} (hn:Zg (kD D) h key):∃z,key=[z]/\D z=true/\Lr h z=false:=by
 obtain⟨h1,h2,h3,h4⟩:=hn;grind[Yq,Ai7]
def Apv {D:Int->Bool} {h:List (List Int)} (he:Vp (kD D) h) (x:Int):Lr h x=D x:=by
 rw[fT,Ai7,he.2]
 rfl
def Apw {h:List (List Int)} {z:Int} (ip:h.Nodup) (hs:∀x,x∈h->x∈Ls) (hz:Lr h z=false) (hr:0<=z/\z<300):Wm Ls h (h++[[z]]):=by
 refine⟨by simp,?_,λx hx=>?_⟩
 ·grind[Ai7]
 ·rw[cP,aZ]at hx;rcases hx with hx|hx
  ·grind
  ·subst hx;unfold Ls;rw[dL];exact⟨z.toNat,bB.2 (by omega),by grind⟩
def Bbf (S:SP Gl) (k l:Nat) (hk:k<3):DO Gl (⟨l,3,3,λp=>[I (elk k p)]⟩:Yd) 351 [.yl l,.d (.c (.p (cRT exR 1))),.d (.c (.p [Ci k]))] [(0,BIG,.tr 0)] (.ret (.tup [])) [(0,BIG,.tr 3)]:=by
 refine Bs S (let A0:=(13:Int);let A1:=[A0,(26:Int),(44:Int)];((rt (tA (Ae (exL k))) (.loop 3 (λp=>v 5 (I (elk k p))::v 4 (ad 4)::v 0 (T.yl l)::(0,BIG,T.tr p)::bx 4 (Ae (exL k))) λk0=>.br (.br .nil .nil) .nil)),(CR Gl 352 [tA (cRT exR 1),I k] (tA (Ae (exL k)))/\(nth A1 k-(1:Int)=elk k 0/\l=l/\0=0/\nth A1 k-(1:Int)=nth A1 k-1/\nth A1 k+(1:Int)=nth A1 k+1)/\∀(k0:Nat),k0<=3->(decide (elk k k0<=nth [(13:Int),(26:Int),(44:Int)] k+(1:Int))=true->l=l/\k0<3/\k0<=3/\elk k k0=elk k k0/\((!k0 != 3)=true->True/\k0+1=3)/\((!k0 != 3)=false->iR (elk k k0+(1:Int))/\k0<3/\elk k k0+(1:Int)=elk k (k0+1)/\l=l/\k0+1=k0+1/\nth A1 k-(1:Int)=nth A1 k-1/\nth A1 k+(1:Int)=nth A1 k+1))/\(decide (elk k k0<=nth [(13:Int),(26:Int),(44:Int)] k+(1:Int))=false->True/\k0=3)))) func351 ?_;have he:∀p,elk k (p+1)=elk k p+1:=λp=>by unfold elk;omega
 have hh:nth [(13:Int),26,44] k+1=elk k 2:=by unfold elk;show _=nth [(13:Int),26,44] k - 1+2;omega
 have h0:nth [(13:Int),26,44] k - 1=elk k 0:=by grind
 have hlt:∀p:Nat,elk k p=elk k 0+p:=λp=>by unfold elk;omega
 have hb:=(Yr hk (p:=0) (by omega)).1;have h2:=hlt 2;simp only[stdS,aL,aB,and_true,Ad,hh,h0];grind[Bbb]
theorem Bbg (S:SP Gl)  :CR Gl 184 [.d (.agg (cRT exR 1)),I 0] (.d (.c (mS 3))):=by
 refine Ag S (let A2:=λ(k0:Nat)=>T.fn 351 [] [T.d (D.c (C.p (cRT exR 1))),T.d (D.c (C.p [Ci k0]))];let A1:=λ(k0:Nat)=>λkey=>Ae (sVk k0 (nth key 0));let A0:=λ(k0:Nat)=>MEq (kD (sDk k0)) (A1 k0) (kD (sDk k0)) λkey=>Ae (sVk k0 (nth key 0));let P0:=λ(zz:Prop)=>(10:Int)=10/\(3:Int)=3/\(sR eI [(4:Int),(1:Int),(0:Int)])/\(sR eI [(13:Int),(26:Int),(44:Int)])/\(1:Int)=1/\zz;let P1:=λ(k0 k1:Nat) (zz:Prop)=>elk k0 k1=elk k0 k1/\fig (elk k0 k1)=fig (elk k0 k1)/\(A0 k0)/\zz;((.arrA 17 (.loop 3 (λk=>v 6 (I k)::v 2 (ad 2)::v 5 (ad 5)::(bx 2 (cRT exR 1)++bx 5 [mS k])) λk0=>.br (rt (A2 k0) (.rf 3 3 (λp=>[I (elk k0 p)]) (λp=>sumE k0 0++sumB k0 (kD (nxD (sDk k0) k0 p)) λkey=>Ae (nxV (sDk k0) (sVk k0) k0 p (nth key 0))) (λk1=>rt (I (fig (elk k0 k1))) (.lg Ls 36 (λh=>v 8 (I (elk k0 k1))::v 9 (I (fig (elk k0 k1)))::v 36 (T.it 36)::(2,36,T.mitc 0 true (kD (sDk k0)) (A1 k0) h none)::(sumE k0 0++sumE k0 100000++sumB k0 (kD (hD k0 k1 h)) λkey=>Ae (hV k0 k1 h (nth key 0)))) λh2=>.each (λkey=>.tt (.br .nil .nil)) (.ff .nil))) (.arrA 76 .nil))) .nil)),((lz 10 ((3:Int)=3/\(SEq 3 (λi=>eI (nth [(4:Int),(1:Int),(0:Int)] i)) (List.length [(4:Int),(1:Int),(0:Int)]) λi=>eI (nth [(4:Int),(1:Int),(0:Int)] i))/\(SEq 3 (λi=>eI (nth [(13:Int),(26:Int),(44:Int)] i)) (List.length [(13:Int),(26:Int),(44:Int)]) λi=>eI (nth [(13:Int),(26:Int),(44:Int)] i))/\(1:Int)=1/\MEq (Bw (λx=>false) [(0:Int)]) (Cr (λx=>vsC [vI 0,vI 0]) [(0:Int)] (List.map C.dem [Ci 0,Ci 0])) (kD (sDk 0)) λkey=>Ae (sVk 0 (nth key 0))))/\∀(k0:Nat),k0<=3->List.length [(13:Int),(26:Int),(44:Int)]<=maxLen->(decide ((k0:Int)<(↑(List.length [(13:Int),(26:Int),(44:Int)]):Int))=true->CR Gl 291 [tA (cRT exR 1),I k0] (A2 k0)/\Yd.m yd0=0/\Nq (DO Gl) 351 [] [T.d (D.c (C.p [Ci 10,Ci 3,C.l eI [(4:Int),(1:Int),(0:Int)],C.l eI [(13:Int),(26:Int),(44:Int)],Ci 1])),T.d (D.c (C.p [Ci k0]))] (λl=>Yd.mk l 3 3 λp=>[I (elk k0 p)]) 3 3/\((k0:Int)=k0/\(MEq (λx=>false) (λx=>vsC [vI 0,vI 0]) (kD (nxD (sDk k0) k0 0)) λkey=>Ae (nxV (sDk k0) (sVk k0) k0 0 (nth key 0)))/\P0 (A0 k0))/\(∀(k1:Nat),k1<3->k1<=3->CR Gl 96 [tA (cRT exR 1),I (elk k0 k1)] (I (fig (elk k0 k1)))/\(P1 k0 k1 (([]:List (List Int))=[]/\(k0:Int)=k0/\(k0:Int)=k0/\(MEq (kD (nxD (sDk k0) k0 k1)) (λkey=>Ae (nxV (sDk k0) (sVk k0) k0 k1 (nth key 0))) (kD (hD k0 k1 [])) λkey=>Ae (hV k0 k1 [] (nth key 0)))/\P0 (A0 k0)))/\∀(h2:List (List Int)),List.Nodup h2->(∀(x:List Int),x∈h2->x∈Ls)->(∀(key:List Int),Zg (kD (sDk k0)) h2 key->tt 1 (iR ((sVk k0 (nth key 0)).1+fig (elk k0 k1))/\iR ((sVk k0 (nth key 0)).2+fig (elk k0 k1))/\iR (nth key 0+elk k0 k1)/\(kD (hD k0 k1 h2) [nth key 0+elk k0 k1]=false->[Ci (hV k0 k1 h2 (nth [nth key 0+elk k0 k1] 0)).1,Ci (hV k0 k1 h2 (nth [nth key 0+elk k0 k1] 0)).2]=[Ci 0,Ci 0])/\(kD (hD k0 k1 h2) [nth key 0+elk k0 k1]=true->iR (nth key 0+elk k0 k1)/\Wm Ls h2 (h2++[key])/\P1 k0 k1 (h2++[key]=h2++[key]/\(k0:Int)=k0/\(k0:Int)=k0/\(MEq (Bw (kD (hD k0 k1 h2)) [nth key 0+elk k0 k1]) (Cr (λkey=>Ae (hV k0 k1 h2 (nth key 0))) [nth key 0+elk k0 k1] (List.map C.dem [Ci (min ((sVk k0 (nth key 0)).1+fig (elk k0 k1)) (hV k0 k1 h2 (nth [nth key 0+elk k0 k1] 0)).1),Ci (max ((sVk k0 (nth key 0)).2+fig (elk k0 k1)) (hV k0 k1 h2 (nth [nth key 0+elk k0 k1] 0)).2)])) (kD (hD k0 k1 (h2++[key]))) λog=>Ae (hV k0 k1 (h2++[key]) (nth og 0)))/\P0 (A0 k0)))/\(kD (hD k0 k1 h2) [nth key 0+elk k0 k1]=false->iR (nth key 0+elk k0 k1)/\Wm Ls h2 (h2++[key])/\P1 k0 k1 (h2++[key]=h2++[key]/\(k0:Int)=k0/\(k0:Int)=k0/\(MEq (Bw (kD (hD k0 k1 h2)) [nth key 0+elk k0 k1]) (Cr (λkey=>Ae (hV k0 k1 h2 (nth key 0))) [nth key 0+elk k0 k1] (List.map C.dem [Ci ((sVk k0 (nth key 0)).1+fig (elk k0 k1)),Ci ((sVk k0 (nth key 0)).2+fig (elk k0 k1))])) (kD (hD k0 k1 (h2++[key]))) λog=>Ae (hV k0 k1 (h2++[key]) (nth og 0)))/\P0 (A0 k0)))))/\(Vp (kD (sDk k0)) h2->false=false/\k1<3/\(k0:Int)=k0/\(MEq (kD (hD k0 k1 h2)) (λkey=>Ae (hV k0 k1 h2 (nth key 0))) (kD (nxD (sDk k0) k0 (k1+1))) λkey=>Ae (nxV (sDk k0) (sVk k0) k0 (k1+1) (nth key 0)))/\P0 (A0 k0)))/\(3<=3->lq k0 3 (P0 (MEq (kD (nxD (sDk k0) k0 3)) (λkey=>Ae (nxV (sDk k0) (sVk k0) k0 3 (nth key 0))) (kD (sDk (k0+1))) λkey=>Ae (sVk (k0+1) (nth key 0))))))/\(decide ((k0:Int)<(↑(List.length [(13:Int),(26:Int),(44:Int)]):Int))=false->MEq (kD (sDk k0)) (A1 k0) (kD (sDk 3)) λkey=>Ae (sVk 3 (nth key 0)))))) func184 ?_
 simp only[stdS,aL,aB,and_true,Ad,Ap];have mn:∀j,MEq (kD (sDk j)) (λkey=>Ae (sVk j (nth key 0))) (kD (sDk j)) (λkey=>Ae (sVk j (nth key 0))):=λj key=>⟨rfl,λ_=>.inl rfl⟩
 refine⟨⟨.of ⟨rfl,λ_ _=>rfl⟩,.of ⟨rfl,λ_ _=>rfl⟩,Bbd⟩,λk hk hm=>⟨λhd=>?_,λhd=>?_⟩⟩
 ·have hlt:k<3:=by grind
  refine⟨Bbc S k,λl=>Bbf S k l hlt,⟨?_,mn k⟩,λp hp oh=>⟨App S _ ?_,⟨mn k,?_,mn k⟩,λh ip n5=>⟨λkey cq=>?_,λkg=>⟨hp,?_,mn k⟩⟩⟩,λ_=>⟨by omega,hlt,by omega,?_⟩⟩
  ·exact λkey=>⟨(Bbe (V:=nxV (sDk k) (sVk k) k 0) (v0:=λ_=>[]) key).1,λh=>(by cases h)⟩
  ·have:=(Yr hlt hp).1;omega
  ·exact Apq λx=>⟨by unfold hD Lr;simp,λ_=>by trivial⟩
  ·obtain⟨z,rfl,hz,hnz⟩:=newK cq;have qv:=Ys (by omega) hz;have bq:=Ai8 (show k<=3 by omega) z;unfold spB at bq;have he:=Yr hlt hp;have ur:=Apw ip n5 hnz (by omega);have e0:nth [z] 0=z:=rfl;have e1:nth [z+elk k p] 0=z+elk k p:=rfl;have e2:hV k p h (z+elk k p)=nxV (sDk k) (sVk k) k p (z+elk k p):=by grind[hV]
   have e3:kD (hD k p h) [z+elk k p]=nxD (sDk k) k p (z+elk k p):=by show hD k p h (z+elk k p)=_;unfold hD;grind
   have e4:∀x,hD k p (h++[[z]]) x=(x==z+elk k p||hD k p h x):=λx=>by
    grind[hD,Ai5]
   have e5:hV k p (h++[[z]]) (z+elk k p)=cmb (nxD (sDk k) k p (z+elk k p)) (shf (fig (elk k p)) (sVk k z)) (nxV (sDk k) (sVk k) k p (z+elk k p)):=by grind[hV,Ai5]
   have e6:∀x,x≠z+elk k p->hD k p h x=true->hV k p (h++[[z]]) x=hV k p h x:=λx hx _=>by
    grind[hV,Ai5]
   simp only[e0,e1,e2,e3];refine⟨by omega,by omega,by omega,λhf=>by rw[Aps hf],λht=>⟨by omega,ur,mn k,Apr (y:=hV k p (h++[[z]]) (z+elk k p)) ?_ e4 rfl e6,mn k⟩,λhf=>⟨by omega,ur,mn k,Apr (y:=hV k p (h++[[z]]) (z+elk k p)) ?_ e4 rfl e6,mn k⟩⟩
   ·rw[e5,ht];rfl
   ·rw[e5,hf];rfl
  ·exact Apq λx=>⟨by unfold hD;rw[Apv kg];rfl,λ_=>by unfold hV;rw[Apv kg];rfl⟩
  ·exact λkey=>⟨rfl,λ_=>.inl rfl⟩
 ·have:k=3:=by grind
  subst this;grind
theorem Ai9 {lt:Int->Int->Bool} (l:List Int):∀k,k<l.length->∃i,i<=k/\Bq lt l k=nth l i
 |0,_=>⟨0,aI _,rfl⟩
 |k+1,h=>by
  obtain⟨i,hi,he⟩:=Ai9 (lt:=lt) l k (by omega);grind[Bq]
theorem Apx (l:List Int):∀k,k<l.length->∀i,i<=k->Bq (λx y:Int=>decide (x<y)) l k<=nth l i
 |0,_,i,hi=>by rw[show i=0 by omega];exact dV _
 |k+1,h,i,hi=>by
  have ih:=Apx l k (by omega);grind[Bq]
theorem Apy (l:List Int):∀k,k<l.length->∀i,i<=k->nth l i<=Bq (λx y:Int=>decide (y<x)) l k
 |0,_,i,hi=>by rw[show i=0 by omega];exact dV _
 |k+1,h,i,hi=>by
  have ih:=Apy l k (by omega);grind[Bq]
theorem Bbh {l:List Int} {m:Int} (h0:0<l.length) (h1:m∈l) (h2:∀x∈l,m<=x):Cz (λx y:Int=>decide (x<y)) l=m:=by
 obtain⟨i,hi,he⟩:=Ai9 (lt:=λx y:Int=>decide (x<y)) l (l.length - 1) (by omega);have h3:=h2 _ (Fj (l:=l) (k:=i) (by omega));obtain⟨j,hj,rfl⟩:=bM.1 h1;have h4:=Apx l (l.length - 1) (by omega) j (by omega);grind[Ge,Cz]
theorem Bbi {l:List Int} {m:Int} (h0:0<l.length) (h1:m∈l) (h2:∀x∈l,x<=m):Cz (λx y:Int=>decide (y<x)) l=m:=by
 obtain⟨i,hi,he⟩:=Ai9 (lt:=λx y:Int=>decide (y<x)) l (l.length - 1) (by omega);have h3:=h2 _ (Fj (l:=l) (k:=i) (by omega));obtain⟨j,hj,rfl⟩:=bM.1 h1;have h4:=Apy l (l.length - 1) (by omega) j (by omega);grind[Ge,Cz]
def loX (x:Int):Int:=(sVk 3 x).lo - fig x
def hiX (x:Int):Int:=(sVk 3 x).hi - fig x
def lTo (h:List (List Int)):List Int:=h.flatMap λk=>[loX (nth k 0),hiX (nth k 0)]
def Apz (x:Int) (h:sDk 3 x=true):-1<=loX x/\loX x<=hiX x/\hiX x<=1:=by
 have h1:=Ys (aI 3) h;have:∀x:Fin 181,sDk 3 (x.1:Int)=true->-1<=loX (x.1:Int)/\loX (x.1:Int)<=hiX (x.1:Int)/\hiX (x.1:Int)<=1:=by decide +kernel
 have h2:=this ⟨x.toNat,by omega⟩;grind
def x_lo:∃x:Int,sDk 3 x=true/\loX x=-1:=by
 have:∃x:Fin 181,sDk 3 (x.1:Int)=true/\loX (x.1:Int)=-1:=by decide +kernel
 grind
def x_hi:∃x:Int,sDk 3 x=true/\hiX x=1:=by
 have:∃x:Fin 181,sDk 3 (x.1:Int)=true/\hiX (x.1:Int)=1:=by decide +kernel
 grind
theorem Bbj {h:List (List Int)} (he:Vp (kD (sDk 3)) h):0<(lTo h).length/\Cz (λx y:Int=>decide (x<y)) (lTo h)=-1/\Cz (λx y:Int=>decide (y<x)) (lTo h)=1:=by
 have hm:∀y,y∈lTo h->-1<=y/\y<=1:=λy hy=>by
  unfold lTo at hy;obtain⟨k,hk,hy⟩:=dR.1 hy;obtain⟨x,rfl,hx⟩:=Yq.1 ((he.2 k).1 hk);have:=Apz x hx;grind[nth]
 obtain⟨a,ha,z7⟩:=x_lo;obtain⟨b,hb,hbh⟩:=x_hi;have h1:(-1:Int)∈lTo h:=by
  unfold lTo;exact dR.2 ⟨[a],(he.2 _).2 ha,by rw[<-z7];exact aC⟩
 have h2:(1:Int)∈lTo h:=by
  unfold lTo;exact dR.2 ⟨[b],(he.2 _).2 hb,by rw[<-hbh];exact aU _ aC⟩
 grind[Bbh,Bbi]
def Bbk (h:List (List Int)) (k:List Int):lTo (h++[k])=lTo h++[loX (nth k 0),hiX (nth k 0)]:=by
 grind[lTo]
def Bbl (h:List (List Int)):(lTo h).length=2*h.length:=by
 induction h with
 |nil=>rfl
 |cons k h ih=>grind[lTo]
def Bbm (S:SP Gl) (a b:Int):CR Gl 293 [I a,I b] (B (decide (a<b))):=by
 refine Ao S .nil (decide (a<b)=decide (a<b)) func293 ?_;exact rfl
def Bbn (S:SP Gl) (a b:Int):CR Gl 294 [I a,I b] (B (decide (b<a))):=by
 refine Ao S .nil (decide (b<a)=decide (b<a)) func294 ?_;exact rfl
theorem Bbo (S:SP Gl) (l:List Int) (h:0<l.length):CR Gl 292 [L eI l,.fn 293 [] []] (I (Cz (λx y:Int=>decide (x<y)) l)):=by
 refine Ag S (let A3:=λ(k0:Nat)=>B (decide (nth (List.drop 1 l) k0<Bq (λx y=>decide (x<y)) l k0));let A2:=List.drop 1 l;let A1:=(l.length:Int);let A0:=λx y=>decide (x<y);let P0:=λ(zz:Prop)=>A1-1=l.length-1/\(sR eI A2)/\293=293/\zz;((.loop (List.length l-1) (λk=>[v 14 (I k),v 13 (I (A1-1)),v 12 (L eI A2),v 1 (T.fn 293 [] []),v 5 (I (Bq A0 l k))]) λk0=>.br (rt (A3 k0) (.br .nil .nil)) .nil),(((0:Int)<=0/\0<A1)/\((0:Int)<=1/\1<=A1/\A1<=l.length)/\(Int.toNat (A1-1)<=maxLen->(0=(↑(0:Nat):Int)/\(↑(Int.toNat (A1-1)):Int)=A1-1/\(SEq (Int.toNat (A1-1)) (λi=>eI (nth l (Int.toNat 1+i))) (ln A2) λi=>eI (nth A2 i))/\293=293/\nth l (Int.toNat 0)=Bq A0 l 0)/\∀(k0:Nat),k0<=ln l-1->(decide ((k0:Int)<l.length-1)=true->(0<=(k0:Int)/\(k0:Int)<(↑(ln A2):Int))/\CR Gl 293 [I (nth A2 k0),I (Bq A0 l k0)] (A3 k0)/\(decide (nth (List.drop 1 l) k0<Bq (λx y=>decide (x<y)) l k0)=true->lq k0 (ln l-1) (P0 (nth A2 k0=Bq A0 l (k0+1))))/\(decide (nth (List.drop 1 l) k0<Bq (λx y=>decide (x<y)) l k0)=false->lq k0 (ln l-1) (P0 (Bq A0 l k0=Bq A0 l (k0+1)))))/\(decide ((k0:Int)<l.length-1)=false->Bq A0 l k0=Cz A0 l))))) func292 ?_;simp only[stdS,aL,aB,and_true,aN,aK,Ap,Ad];have hd:(l.drop 1).length=l.length - 1:=iJ;have hn:∀k,nth (l.drop 1) k=nth l (k+1):=λk=>by grind[Rn]
 have m8:∀k,Bq (λx y:Int=>decide (x<y)) l (k+1)=bif (λx y:Int=>decide (x<y)) (nth l (k+1)) (Bq (λx y:Int=>decide (x<y)) l k) then nth l (k+1) else Bq (λx y:Int=>decide (x<y)) l k:=λk=>rfl;refine⟨by omega,by omega,λhm=>⟨⟨by omega,.of ⟨by omega,λi _=>cD eI (Rn (l:=l) (i:=i) (k:=1)).symm⟩,rfl⟩,λk hk=>⟨λhl=>⟨by omega,Bbm S _ _,λhb=>⟨by omega,by omega,by omega,?_⟩,λhb=>⟨by omega,by omega,by omega,?_⟩⟩,λhl=>?_⟩⟩⟩
 ·grind
 ·grind
 ·have:k=l.length - 1:=by omega
  subst this
  rfl
theorem Bbp (S:SP Gl) (l:List Int) (h:0<l.length):CR Gl 292 [L eI l,.fn 294 [] []] (I (Cz (λx y:Int=>decide (y<x)) l)):=by
 refine Ag S (let A3:=λ(k0:Nat)=>B (decide (Bq (λx y=>decide (y<x)) l k0<nth (List.drop 1 l) k0));let A2:=List.drop 1 l;let A1:=(l.length:Int);let A0:=λx y=>decide (y<x);let P0:=λ(zz:Prop)=>A1-1=l.length-1/\(sR eI A2)/\294=294/\zz;((.loop (List.length l-1) (λk=>[v 14 (I k),v 13 (I (A1-1)),v 12 (L eI A2),v 1 (T.fn 294 [] []),v 5 (I (Bq A0 l k))]) λk0=>.br (rt (A3 k0) (.br .nil .nil)) .nil),(((0:Int)<=0/\0<A1)/\((0:Int)<=1/\1<=A1/\A1<=l.length)/\(Int.toNat (A1-1)<=maxLen->(0=(↑(0:Nat):Int)/\(↑(Int.toNat (A1-1)):Int)=A1-1/\(SEq (Int.toNat (A1-1)) (λi=>eI (nth l (Int.toNat 1+i))) (ln A2) λi=>eI (nth A2 i))/\294=294/\nth l (Int.toNat 0)=Bq A0 l 0)/\∀(k0:Nat),k0<=ln l-1->(decide ((k0:Int)<l.length-1)=true->(0<=(k0:Int)/\(k0:Int)<(↑(ln A2):Int))/\CR Gl 294 [I (nth A2 k0),I (Bq A0 l k0)] (A3 k0)/\(decide (Bq (λx y=>decide (y<x)) l k0<nth (List.drop 1 l) k0)=true->lq k0 (ln l-1) (P0 (nth A2 k0=Bq A0 l (k0+1))))/\(decide (Bq (λx y=>decide (y<x)) l k0<nth (List.drop 1 l) k0)=false->lq k0 (ln l-1) (P0 (Bq A0 l k0=Bq A0 l (k0+1)))))/\(decide ((k0:Int)<l.length-1)=false->Bq A0 l k0=Cz A0 l))))) func292 ?_;simp only[stdS,aL,aB,and_true,aN,aK,Ap,Ad];have hd:(l.drop 1).length=l.length - 1:=iJ;have hn:∀k,nth (l.drop 1) k=nth l (k+1):=λk=>by grind[Rn]
 have m8:∀k,Bq (λx y:Int=>decide (y<x)) l (k+1)=bif (λx y:Int=>decide (y<x)) (nth l (k+1)) (Bq (λx y:Int=>decide (y<x)) l k) then nth l (k+1) else Bq (λx y:Int=>decide (y<x)) l k:=λk=>rfl;refine⟨by omega,by omega,λhm=>⟨⟨by omega,.of ⟨by omega,λi _=>cD eI (Rn (l:=l) (i:=i) (k:=1)).symm⟩,rfl⟩,λk hk=>⟨λhl=>⟨by omega,Bbn S _ _,λhb=>⟨by omega,by omega,by omega,?_⟩,λhb=>⟨by omega,by omega,by omega,?_⟩⟩,λhl=>?_⟩⟩⟩
 ·grind
 ·grind
 ·have:k=l.length - 1:=by omega
  subst this
  rfl
theorem Bbq (S:SP Gl) (l:List Int) (h:0<l.length):CR Gl 185 [L eI l] (.d (.agg [Ci (Cz (λx y:Int=>decide (x<y)) l),Ci (Cz (λx y:Int=>decide (y<x)) l)])):=by
 refine Ag S (let A1:=λx y=>decide (y<x);let A0:=λx y=>decide (x<y);((rs [I (Cz A0 l),I (Cz A1 l)] .nil),(CR Gl 292 [L eI l,T.fn 293 [] []] (I (Cz A0 l))/\CR Gl 292 [L eI l,T.fn 294 [] []] (I (Cz A1 l))/\Cz A0 l=Cz A0 l/\Cz A1 l=Cz A1 l))) func185 ?_;dsimp only;grind[Bbo,Bbp]
def Bbr (S:SP Gl) (x:Int) (hx:sDk 3 x=true):CR Gl 95 [.d (.agg (cRT exR 1)),I x,.d (.agg (Ae (sVk 3 x)))] (.tup [.c (Ci (loX x)),.c (Ci (hiX x))]):=by
 refine Ao S (rs [I (fig x),I (fig x)] .nil) (CR Gl 96 [tA (cRT exR 1),I x] (I (fig x))/\iR ((sVk 3 x).1-fig x)/\CR Gl 96 [tA (cRT exR 1),I x] (I (fig x))/\iR ((sVk 3 x).2-fig x)/\(sVk 3 x).1-fig x=loX x/\(sVk 3 x).2-fig x=hiX x) func95 ?_;have h1:=Ys (aI 3) hx;have h2:=Ai8 (aI 3) x;have h3:=Apz x hx;grind[loX,hiX,App,Ad]
theorem Bbs (S:SP Gl)  :CR Gl 94 [tRS exR,I 1,.fn 95 [] []] (.tup [.agg [Ci (-1),Ci 1],.c (Ci 0)]):=by
 refine Ag S (let A4:=(0:Int);let A3:=cRT exR 1;let A2:=λkey=>Ae (sVk 3 (nth key 0));let A1:=kD (sDk 3);let A0:=MEq A1 A2 A1 λkey=>Ae (sVk 3 (nth key 0));((rt (.tup [D.agg A3,D.c (Ci 0)]) (.ff (rt (T.d (D.c (mS 3))) (.lg Ls 27 (λh=>v 2 (T.fn 95 [] [])::v 6 (ad 6)::v 8 (ad 8)::v 27 (T.it 27)::tk 100 3::v 10 (Lt 100 eI (lTo h))::(2,27,T.mitc 0 true A1 A2 h none)::(bx 8 A3++bx 6 [Ci 0,Ci 0])) λh0=>.each (λkey=>.tt (rt (.tup [D.c (Ci (loX (nth key 0))),D.c (Ci (hiX (nth key 0)))]) .nil)) (.ff (rt (tA [Ci (Cz (λx y=>decide (x<y)) (lTo h0)),Ci (Cz (λx y=>decide (y<x)) (lTo h0))]) .nil)))))),(CR Gl 183 [tRS exR,I 1] (.tup [D.agg A3,D.c (Ci 0)])/\false=false/\CR Gl 184 [tA A3,I 0] (T.d (D.c (mS 3)))/\(95=95/\0=0/\A0/\([]:List (List Int))=[]/\(10:Int)=10/\(3:Int)=3/\(SEq 3 (λi=>eI (nth [(4:Int),(1:Int),A4] i)) (List.length [(4:Int),(1:Int),A4]) λi=>eI (nth [(4:Int),(1:Int),A4] i))/\(SEq 3 (λi=>eI (nth [(13:Int),(26:Int),(44:Int)] i)) (List.length [(13:Int),(26:Int),(44:Int)]) λi=>eI (nth [(13:Int),(26:Int),(44:Int)] i))/\(1:Int)=1/\A4=0/\A4=0)/\∀(h0:List (List Int)),List.Nodup h0->(∀(x:List Int),x∈h0->x∈Ls)->(∀(key:List Int),Zg A1 h0 key->tt 1 (CR Gl 95 [tA A3,I (nth key 0),tA (Ae (sVk 3 (nth key 0)))] (.tup [D.c (Ci (loX (nth key 0))),D.c (Ci (hiX (nth key 0)))])/\cp (ln (lTo h0)+2) (Wm Ls h0 (h0++[key])/\95=95/\(SEq (ln (lTo h0)+2) (An (ln (lTo h0)) (λi=>eI (nth (lTo h0) i)) (gD [mI (loX (nth key 0)),mI (hiX (nth key 0))])) (ln (lTo (h0++[key]))) λi=>eI (nth (lTo (h0++[key])) i))/\A0/\h0++[key]=h0++[key]/\(10:Int)=10/\(3:Int)=3/\(sR eI [(4:Int),(1:Int),A4])/\(sR eI [(13:Int),(26:Int),(44:Int)])/\(1:Int)=1/\A4=0/\A4=0)))/\(Vp A1 h0->false=false/\CR Gl 185 [L eI (lTo h0)] (tA [Ci (Cz (λx y=>decide (x<y)) (lTo h0)),Ci (Cz (λx y=>decide (y<x)) (lTo h0))])/\Cz (λx y=>decide (x<y)) (lTo h0)=(-1:Int)/\Cz (λx y=>decide (y<x)) (lTo h0)=(1:Int)/\A4=0)))) func94 ?_
 have mn:MEq (kD (sDk 3)) (λkey=>Ae (sVk 3 (nth key 0))) (kD (sDk 3)) (λkey=>Ae (sVk 3 (nth key 0))):=λkey=>⟨rfl,λ_=>.inl rfl⟩
 simp only[stdS,aL,aB,and_true,Ad,Ap];refine⟨Bb7 S,Bbg S,⟨mn,.of ⟨rfl,λ_ _=>rfl⟩,.of ⟨rfl,λ_ _=>rfl⟩,trivial⟩,λh ip n5=>⟨λkey cq=>?_,λkg=>?_⟩⟩
 ·obtain⟨z,rfl,hz,hnz⟩:=newK cq;have qv:=Ys (aI 3) hz;have ur:=Apw ip n5 hnz (by omega);have hl:=Bbl h;have hh:h.length<=300:=by
   have:=Amg ip n5;unfold Ls at this;grind
  exact⟨Bbr S z hz,by omega,by omega,ur,Aha (f:=eI) (Bbk h [z]) rfl,mn,trivial⟩
 grind[Bbj,Bbq]
def Bbt (S:SP Gl)  :CR Gl 32 [tRS exR,I 1] (.tup [.agg [Ci (-1),Ci 1],.c (Ci 0)]):=by
 refine Ao S (rt (.tup [D.agg [Ci (-1:Int),Ci 1],D.c (Ci 0)]) .nil) (CR Gl 94 [tRS exR,I 1,T.fn 95 [] []] (.tup [D.agg [Ci (-1:Int),Ci 1],D.c (Ci 0)])/\(-1:Int)=(-1:Int)/\(1:Int)=1/\(0:Int)=0) func32 ?_;grind[Bbs]
theorem Acg (S:SP Gl) (l:List Int) (h:Bu l=true):CR Gl 37 [L eI l] (B true):=by
 grind[Ahg]
def Pz (r l:List Int):Env:=[(2,FAR,live),(FAR+3,0,L eI r),(2,FAR+1,live),(FAR+4,0,L eI l),(2,FAR+2,live),(FAR+5,0,.d (.c (.v (.slice none 0 0))))]
def Ach (r l:List Int):Env:=[(FAR+5,0,L Dj (Ct r l r.length))]
def Aia {l:List Int}:Bu l=true↔(1<=l.length/\l.length<=6)/\l.all num=true:=by
 grind[Bu,Bi]
def Bbu (S:SP Gl) (r l:List Int) (hr:r.all num=true) (hl:l.length=r.length) (hm:r.length<=1000) (n6:Dw r l=true):DO Gl yd0 39 [.addr FAR 0,.addr (FAR+1) 0,.addr (FAR+2) 0] (Pz r l) (.ret (.tup [])) (Ach r l):=by
 refine Bs S (let A0:=Ct r l r.length;((rt (L Dj A0) .nil),(CR Gl 40 [L eI r,L eI l] (L Dj A0)/\True/\(sR Dj A0)/\sR eI r/\sR eI l))) func39 ?_;simp only[stdS,aL,aB,and_true];grind[Axs]
def Bbv (S:SP Gl) (r l:List Int) (hr:r.all num=true) (hl:l.length=r.length) (hm:r.length<=1000) (n6:Dw r l=false):DO Gl yd0 39 [.addr FAR 0,.addr (FAR+1) 0,.addr (FAR+2) 0] (Pz r l) (.pan (.iface 212 (.agg #[.int .i64 (errUp r l:Nat)]))) []:=by
 refine Bs S (let A1:=(Value.agg (Array.mk [vI (↑(errUp r l):Int)]));let A0:=Res.pan (Value.iface 212 (Value.agg #[vI (↑(errUp r l):Int)]));((.r A0 .nil),(CO Gl 40 [L eI r,L eI l] A0/\Value.iface 212 A1=Value.iface 212 A1/\sR eI r/\sR eI l/\Value.slice none 0 0=Value.slice none 0 0))) func39 ?_;simp only[stdS,aL,aB,and_true];grind[Axt]
def att74 (S:SP Gl) (r l:List Int) (hr:r.all num=true) (hl:l.length=r.length) (hm:r.length<=1000) (n6:Dw r l=true):DO Gl yd0 38 [.fn 39 [] [.addr FAR 0,.addr (FAR+1) 0,.addr (FAR+2) 0]] (Pz r l) (.ret (I 0)) (Ach r l):=
 attempt74_does (fst:=[]) rfl rfl (Bbu S r l hr hl hm n6) .ok
theorem Bbw (S:SP Gl) (r l:List Int) (hr:r.all num=true) (hl:l.length=r.length) (hm:r.length<=1000) (n6:Dw r l=false):DO Gl yd0 38 [.fn 39 [] [.addr FAR 0,.addr (FAR+1) 0,.addr (FAR+2) 0]] (Pz r l) (.ret (I 5)) []:=
 attempt74_does (fst:=[]) rfl rfl (Bbv S r l hr hl hm n6) (.row _)
theorem Bbx (S:SP Gl) (r l:List Int) (hr:Bu r=true) (hl:Bu l=true) (hn:l.length=r.length) (n6:Dw r l=true):CR Gl 10 [L eI r,L eI l] (.tup [.c (.l Dj (Cd r l)),.c (Ci 0)]):=by
 refine Ag S (let A1:=[T.fn 39 [] [aF 0,T.addr (FAR+1) 0,T.addr (FAR+2) 0]];let A0:=(bif false then true else (r.length:Int) != (l.length:Int));((rt (B true) (.sure 12 (.sure 13 (rt (B true) (.sure 14 (.sure 17 (.sure 18 (.sure 19 (.sure 20 (.sure 21 (.br .nil (.w [(FAR,nat_lit 2),(FAS,nat_lit 3),(FAT,nat_lit 6)] A1 (Pz r l) (.ret (I 0)) (Ach r l) (.ff .nil))))))))))))),(CR Gl 37 [L eI r] (B true)/\tt 2 (CR Gl 37 [L eI l] (B true)/\tt 3 ((r.length<=maxLen->tt 2 ((l.length<=maxLen->tt 1 ((A0=true->ln (Cd r l)=0/\(2:Int)=0)/\(A0=false->39=39/\sR eI r/\sR eI l/\Value.slice none 0 0=Value.slice none 0 0/\DO Gl yd0 38 A1 (Pz r l) (.ret (I 0)) (Ach r l)/\false=false/\(sQ Dj (Ct r l r.length) (Cd r l))/\(0:Int)=0)))))))))) func10 ?_;obtain⟨c1,c2⟩:=Aia.1 hr;simp only[stdS,aL,aB,and_true,cC];refine⟨Acg S r hr,Acg S l hl,λhm qr=>⟨λh=>?_,λh=>⟨att74 S r l c2 hn (by omega) n6,?_⟩⟩⟩
 ·grind
 ·unfold Cd;rw[n6];exact⟨Ax rfl,trivial⟩
theorem Bby (S:SP Gl) (r l:List Int) (hr:Bu r=true) (hl:Bu l=true) (hn:l.length=r.length) (n6:Dw r l=false):CR Gl 10 [L eI r,L eI l] (.tup [.c (.l Dj []),.c (Ci 5)]):=by
 refine Ag S (let A1:=[T.fn 39 [] [aF 0,T.addr (FAR+1) 0,T.addr (FAR+2) 0]];let A0:=(bif false then true else (r.length:Int) != (l.length:Int));((rt (B true) (.sure 12 (.sure 13 (rt (B true) (.sure 14 (.sure 17 (.sure 18 (.sure 19 (.sure 20 (.sure 21 (.br .nil (.w [(FAR,nat_lit 2),(FAS,nat_lit 3),(FAT,nat_lit 6)] A1 (Pz r l) (.ret (I 5)) [] (.tt .nil))))))))))))),(CR Gl 37 [L eI r] (B true)/\tt 2 (CR Gl 37 [L eI l] (B true)/\tt 3 ((r.length<=maxLen->tt 2 ((l.length<=maxLen->tt 1 ((A0=true->0=0/\(2:Int)=5)/\(A0=false->39=39/\sR eI r/\sR eI l/\Value.slice none 0 0=Value.slice none 0 0/\DO Gl yd0 38 A1 (Pz r l) (.ret (I 5)) []/\tt 1 (0=0/\(5:Int)=5))))))))))) func10 ?_;obtain⟨c1,c2⟩:=Aia.1 hr;simp only[stdS,aL,aB,and_true,cC];grind[Acg,Bbw]
theorem Bbz (S:SP Gl) (r l:List Int) (h:(Bu r&&(Bu l&&l.length==r.length))=false):CR Gl 10 [L eI r,L eI l] (.tup [.c (.l Dj []),.c (Ci 2)]):=by
 refine Ag S (let A4:=!Bu r;let A3:=eqB A4 false=true->eqB A4 false=true;let A2:=(bif bif !Bu r then true else !Bu l then true else (r.length:Int) != (l.length:Int));let A0:=bif !Bu r then true else !Bu l;let A1:=eqB A0 false=true->eqB A0 false=true;((rs [B (Bu r),B (Bu l)] (.br .nil .nil)),(CR Gl 37 [L eI r] (B (Bu r))/\A3/\(eqB A4 false=true->CR Gl 37 [L eI l] (B (Bu l)))/\A3/\(A4=false->eqB A4 false=true)/\A1/\((eqB A0 false=true->r.length<=maxLen)->A1/\((eqB A0 false=true->l.length<=maxLen)->A1/\A1/\(A0=false->eqB A0 false=true)/\(A2=true->0=0/\(2:Int)=2)/\(A2=false->False)))))) func10 ?_;dsimp only;grind[Ahg,Yc]
theorem Aq0 (S:SP Gl) (r l:List Int) (hr:Bu r=true) (hl:Bu l=true) (hn:l.length=r.length):CR Gl 10 [L eI r,L eI l] (.tup [.c (.l Dj (Cd r l)),.c (Ci (bif Dw r l then 0 else 5))]):=by
 grind[Bbx,Bby,Cd]
def ag_eq (s:Sheet) (r:List Int) (k:Nat):(((bif Dw r (nth s.cols k) then (0:Int) else 5) != 0)||decide (nth s.errs k<((Cd r (nth s.cols k)).length:Int)))=!Kq s r k:=by
 grind[Axu]
theorem Bc0 (S:SP Gl) (s:Sheet) (r:List Int) (hs:s.ok=true) (hr:Bu r=true) (hl:r.length=rows s):CR Gl 244 [Dr s,L eI r] (.tup [.c (.v (.bool (Lm s r))),.c (Ci 0)]):=by
 refine Ag S (let A6:=λ(k0:Nat)=>(bif Dw r (nth s.1 k0) then (0:Int) else (5:Int));let A5:=Sheet.cols s;let A4:=(bif false then true else (r.length:Int) != (↑(ln (nth s.1 (Int.toNat 0))):Int));let A3:=λ(k0:Nat)=>[D.c (C.l Dj (Cd r (nth A5 k0))),D.c (Ci (bif Dw r (nth A5 k0) then (0:Int) else (5:Int)))];let A2:=λ(k0:Nat)=>(bif (A6 k0) != (0:Int) then true else decide (nth s.2 k0<(↑(ln (Cd r (nth s.1 k0))):Int)));let A0:=λ(k0:Nat)=>((A6 k0) != (0:Int));let A1:=λ(k0:Nat)=>eqB (A0 k0) false=true->eqB (A0 k0) false=true;((rt (B true) (.sure 14 (.sure 15 (rt (B true) (.sure 16 (.sure 19 (.sure 20 (.sure 21 (.sure 22 (.sure 23 (.sure 24 (.sure 25 (.sure 26 (.br .nil (.loop (agUp s r) (λk=>v 31 (I k)::v 30 (I (List.length A5:Int))::v 29 (L Ar A5)::v 2 (ad 2)::v 1 (L eI r)::bx 2 (Cw s)) λk0=>.br (rt (.tup (A3 k0)) (.br .nil .nil)) .nil))))))))))))))),(CR Gl 55 [Dr s] (B true)/\tt 2 (CR Gl 37 [L eI r] (B true)/\tt 3 ((r.length<=maxLen->tt 3 (((0:Int)<=0/\0<(s.1.length:Int))/\tt 2 ((ln (nth s.1 (Int.toNat 0))<=maxLen->tt 1 ((A4=true->false=Lm s r/\(2:Int)=0)/\(A4=false->s.1.length<=maxLen->(lz s.1.length (sR Ar s.1/\sR eI r/\sR Ar s.1/\sR eI s.2))/\∀(k0:Nat),k0<=agUp s r->(dt k0 s.1.length->(ix k0 s.1.length)/\CR Gl 10 [L eI r,L eI (nth A5 k0)] (.tup (A3 k0))/\(A1 k0)/\((eqB (A0 k0) false=true->ln (Cd r (nth s.1 k0))<=maxLen)->(A1 k0)/\(A1 k0)/\(A1 k0)/\(eqB (A0 k0) false=true->0<=(k0:Int)/\(k0:Int)<s.2.length)/\(A1 k0)/\(A1 k0)/\(A1 k0)/\((A0 k0)=false->eqB (A0 k0) false=true)/\((A2 k0)=true->false=Lm s r/\(0:Int)=0)/\((A2 k0)=false->lq k0 (agUp s r) ((s.1.length:Int)=s.1.length/\sR Ar s.1/\sR eI r/\sR Ar s.1/\sR eI s.2))))/\(df k0 s.1.length->true=Lm s r/\(0:Int)=0)))))))))))) func244 ?_
 obtain⟨l1,l2,l3,l4⟩:=Ll hs;have jp:=(Kp (l4 0 (by omega))).2.2;have mu:(nth s.cols (Int.toNat 0)).length=rows s:=rfl;simp only[stdS,aL,aB,and_true,cC,ag_eq,mu];refine⟨Apm S s hs,Acg S r hr,λhm=>⟨by omega,λqr=>⟨λh=>?_,λh nc k hk=>⟨λhd=>?_,λhd=>?_⟩⟩⟩⟩
 ·grind
 ·have hlt:k<s.cols.length:=by grind
  obtain⟨c1,c2,c3,c4,c5,c6⟩:=Kp (l4 k hlt);have rq:Bu (nth s.cols k)=true:=Aia.2 ⟨by have:(nth s.cols k).length=rows s:=c1;omega,c2⟩;refine⟨⟨by omega,iM.2 hlt⟩,Aq0 S r _ hr rq (by rw[hl];exact c1),λ_=>⟨λ_=>⟨by omega,by omega⟩,λhb=>⟨?_,trivial⟩,λhb=>⟨(Ad _).2 (by omega),?_,by omega,trivial⟩⟩⟩
  ·exact (Ui (p:=Kq s r) (k:=k) (by grind) (by grind[Cc])).symm
  ·exact Fq hk (by grind) (by grind[Cc])
 ·have dr:¬(k:Int)<(s.cols.length:Int):=dS hd;exact⟨(Jg (p:=Kq s r) (by grind[agUp])).symm,trivial⟩
set_option maxRecDepth 100000
def Ry (l:List Int) (i:Nat):List C:=(l.map λx=>List.map C.dem [C.v (Value.int .i64 x)]).getD i []
def litE (l:List Int):Wf l.length (Ry l) l.length (λi=>eI (nth l i)):=⟨rfl,λi hi=>by
 show Ry l i=eI (nth l i)
 unfold Ry;rw[bU,bQ,Ge hi,aQ hi]
 rfl⟩
def Fd (l:List Int):SEq l.length (Ry l) l.length (λi=>eI (nth l i)):=.of (litE l)
def litC (g:Tag) (l:List Int):Fz (List.map C.dem [C.s g l.length (Ry l)]) (Ar l):=⟨.inr (.inr ⟨_,_,_,_,_,_,rfl,rfl,litE l⟩),trivial⟩
def exA:Sheet:=⟨[[123,45,-60,7],[132,45,60,7]],[1,1]⟩
theorem Bc1:exA.ok=true:=by trivial
theorem Bc2:0<(Be exA).length/\Yh (Be exA)=[123,45,60,7]:=by decide +kernel
def Bc3 (S:SP Gl):CR Gl 17 [Dr exA] (.tup [.c (.l eI [123,45,60,7]),.c (Ci 0)]):=by
 grind[Bax,Bc1,Bc2]
def kSame (S:SP Gl) (f:Nat->List C) (h:SEq 4 f [(123:Int),45,60,7].length λi=>eI (nth [(123:Int),45,60,7] i)):CR Gl 20 [L eI [123,45,60,7],.d (.c (.s .n 4 f))] (B true):=by
 have h1:=Anq S [123,45,60,7] [123,45,60,7];rw[show Ko (·==·) [(123:Int),45,60,7] [123,45,60,7]=true from by decide]at h1;exact h1.args ⟨(Anf _ _).2 trivial,h⟩
def Bc4 (S:SP Gl)  :CR Gl 31 [] (Dr exA):=by
 refine Ag S (let A0:=[[(123:Int),(45:Int),(-60:Int),(7:Int)],[(132:Int),(45:Int),(60:Int),(7:Int)]];((.nil),((SEq 2 (gD [List.map C.dem [C.s (Tag.t 1) 4 (gD [mI 123,mI 45,mI (-60:Int),mI 7])],List.map C.dem [C.s (Tag.t 2) 4 (gD [mI 132,mI 45,mI 60,mI 7])]]) (List.length A0) λi=>Ar (nth A0 i))/\SEq 2 (gD [mI 1,mI 1]) (List.length [(1:Int),(1:Int)]) λi=>eI (nth [(1:Int),(1:Int)] i)))) func31 ?_;dsimp only;refine⟨⟨rfl,λi hi=>?_⟩,Fd [1,1]⟩
 match i,hi with
 |0,_=>exact .inr (litC (.t 1) [123,45,-60,7])
 |1,_=>exact .inr (litC (.t 2) [132,45,60,7])
def one8 (S:SP Gl) (n:Int):CR Gl 8 [I n] (.d (.agg (Ae ⟨n,n⟩))):=by
 refine Ao S .nil (n=n/\n=n) func8 ?_;trivial
theorem Aq1 (S:SP Gl)  :CR Gl 7 [] (B true):=by
 refine Ag S (let A1:=[D.agg [Ci (-1:Int),Ci 1],D.c (Ci 0)];let A0:=[D.c (C.l eI [(123:Int),(45:Int),(60:Int),(7:Int)]),D.c (Ci 0)];((rs [Dr exA,.tup A0,tRS exR,.tup A1] (.sure 18 (.sure 19 (.sure 20 (rt (B true) (.sure 23 (.sure 24 (.sure 27 (.sure 28 (.sure 29 .nil)))))))))),(CR Gl 31 [] (Dr exA)/\CR Gl 17 [Dr exA] (.tup A0)/\CR Gl 33 [] (tRS exR)/\CR Gl 32 [tRS exR,I 1] (.tup A1)/\tt 3 (CR Gl 20 [L eI [(123:Int),(45:Int),(60:Int),(7:Int)],tS 4 (gD [mI 123,mI 45,mI 60,mI 7])] (B true)/\tt 5 (true=true))))) func7 ?_;simp only[stdS,aL,aB,and_true];exact⟨Bc4 S,Bc3 S,Bb5 S,Bbt S,kSame S _ (Fd [123,45,60,7]),trivial⟩
def stV:List Span:=[⟨0,0⟩,⟨10,10⟩,⟨40,40⟩,⟨90,91⟩,⟨160,160⟩,⟨250,250⟩,⟨360,360⟩]
def mul_rng {x y:Int} (h1:0<=x/\x<=361) (h2:0<=y/\y<=6):0<=x*y/\x*y<=2166:=
 ⟨fM h1.1 h2.1,Int.le_trans (gG h1.2 h2.2 h2.1 (by decide)) (by decide)⟩
def figS (p q a b r:Int):Int:=flo (2*(a*(q - r)+b*(r - p))+(q - p)) (2*(q - p))
def endS (r:Nat) (w:Nat):Int:=match w with
 |0=>(nth stV r).lo
 |_=>(nth stV r).hi
def offS (p q r:Nat):Int:=max (figS p q (endS p 1) (endS q 1) r - endS r 0) (endS r 1 - figS p q (endS p 0) (endS q 0) r)
def stTo (p q:Nat):Nat->Bool
 |0=>true
 |k+1=>bif decide (10<offS p q (p+1+k)) then false else stTo p q k
def stB (p q:Nat):Bool:=stTo p q (q - p - 1)
def Bc5 (S:SP Gl) (l:List Int) (h1:1<=l.length) (h2:l.length<=1000):CR Gl 69 [L eI l] (.tkd 3 1 l.length (λi=>eI (nth l i))):=by
 refine Ao S (.ff .nil) (0<l.length/\false=false/\(0+l.length)*8<=140737488355328/\0+l.length<=140737488355328/\SEq (0+l.length) (An 0 (λx=>[]) λi=>eI (nth l i)) l.length λi=>eI (nth l i)) func69 ?_;refine⟨by omega,rfl,by omega,by omega,.of ⟨by omega,λi hi=>?_⟩⟩;trivial
structure Cp where
 par:Int
 seen:List Int
instance:Inhabited Cp:=⟨⟨0,[]⟩⟩
def eCp (c:Cp):List C:=[Ci c.par,.l eI c.seen]
def cTr (pl:Int) (cs:List Cp):List C:=[Ci pl,.l eCp cs]
abbrev tTr (pl:Int) (cs:List Cp):T:=.d (.agg (cTr pl cs))
def okFig (n:Int):Bool:=!(n != -1&&!inR n 0 9)
def Uw (pl:Int) (cs:List Cp) (i:Nat):Bool:=inR (nth cs i).par 0 (max 0 ((i:Int) - 1))&&(((nth cs i).seen.length:Int)==pl&&(nth cs i).seen.all okFig)
def Ft (pl:Int) (cs:List Cp):Bool:=inR pl 1 3&&(inR cs.length 1 8&&(List.range cs.length).all (Uw pl cs))
theorem Aci (S:SP Gl) (x lo hi:Int):CR Gl 208 [I x,I lo,I hi] (B (inR x lo hi)):=by
 refine Ag S (let A0:=eqB (decide (lo<=x)) true=true->eqB (decide (lo<=x)) true=true;((.nil),(A0/\A0/\(decide (lo<=x)=true->eqB (decide (lo<=x)) true=true)/\(bif decide (lo<=x) then decide (x<=hi) else false)=inR x lo hi))) func208 ?_;simp only[stdS,aL,aB,and_true,inR]
theorem Bc6 (S:SP Gl) (x:Int):CR Gl 210 [I x] (B (inR x 0 9)):=by
 refine Ao S (rt (B (inR x 0 9)) .nil) (CR Gl 208 [I x,I 0,I 9] (B (inR x 0 9))/\inR x 0 9=inR x 0 9) func210 ?_;grind[Aci]
def Bc7 (S:SP Gl) (x:Int):CR Gl 209 [I x] (B (x != -1&&!inR x 0 9)):=by
 refine Ag S (let A0:=(x != (-1:Int));let A1:=eqB A0 true=true->eqB A0 true=true;((rt (B (inR x 0 9)) .nil),(A1/\(eqB A0 true=true->CR Gl 210 [I x] (B (inR x 0 9)))/\A1/\(A0=true->eqB A0 true=true)/\(bif x != (-1:Int) then !inR x (0:Int) (9:Int) else false)=(x != (-1:Int)&&!inR x (0:Int) (9:Int))))) func209 ?_;simp only[stdS,aL,aB,and_true];grind[Bc6]
theorem Aq2 (pl:Int) (cs:List Cp) (k:Nat):Uw pl cs k=!((!inR (nth cs k).par 0 (max 0 ((k:Int) - 1))||((nth cs k).seen.length:Int) != pl)||!(nth cs k).seen.all λx=>!(x != -1&&!inR x 0 9)):=by
 show (inR (nth cs k).par 0 (max 0 ((k:Int) - 1))&&(((nth cs k).seen.length:Int)==pl&&(nth cs k).seen.all λx=>!(x != -1&&!inR x 0 9)))=_
 grind
theorem Bc8 (S:SP Gl) (pl:Int) (cs:List Cp):CR Gl 121 [tTr pl cs] (B (Ft pl cs)):=by
 refine Ag S (let A9:=λ(k0:Nat)=>nth cs k0;let A8:=Bl (Uw pl cs) (List.range cs.length);let A7:=(bif !inR pl (1:Int) (3:Int) then true else !inR (cs.length:Int) (1:Int) (8:Int));let A6:=λ(k0:Nat)=>max (0:Int) ((k0:Int)-1);let A5:=(!inR pl (1:Int) (3:Int));let A3:=λ(k0:Nat)=>(bif bif !inR (A9 k0).1 (0:Int) (A6 k0) then true else (↑(ln (A9 k0).2):Int) != pl then true else !List.all (A9 k0).2 λx=>!(x != (-1:Int)&&!inR x (0:Int) (9:Int)));let A2:=eqB A5 false=true->eqB A5 false=true;let A1:=λ(k0:Nat)=>!inR (A9 k0).1 (0:Int) (A6 k0);let A4:=λ(k0:Nat)=>eqB (A1 k0) false=true->eqB (A1 k0) false=true;let A0:=λ(k0:Nat)=>bif !inR (A9 k0).1 (0:Int) (A6 k0) then true else (↑(ln (A9 k0).2):Int) != pl;let o7:=λ(k0:Nat)=>eqB (A0 k0) false=true->eqB (A0 k0) false=true;((rs [B (inR pl 1 3),B (inR cs.length 1 8)] (.br .nil (.loop A8 (λk=>v 19 (I k)::v 18 (I cs.length)::v 17 (L eCp cs)::v 1 (ad 1)::bx 1 (cTr pl cs)) λk0=>.br (rs [B (inR (A9 k0).1 0 (A6 k0)),B !List.all (Cp.seen (A9 k0)) λx=>!(x != (-1:Int)&&!inR x (0:Int) (9:Int))] (.br .nil .nil)) .nil))),(CR Gl 208 [I pl,I 1,I 3] (B (inR pl 1 3))/\A2/\A2/\((eqB A5 false=true->cs.length<=maxLen)->A2/\(eqB A5 false=true->CR Gl 208 [I cs.length,I 1,I 8] (B (inR cs.length 1 8)))/\A2/\(A5=false->eqB A5 false=true)/\(A7=true->false=Ft pl cs)/\(A7=false->cs.length<=maxLen->(lz cs.length (sR eCp cs/\pl=pl/\sR eCp cs))/\∀(k0:Nat),k0<=Bl (Uw pl cs) (List.range cs.length)->(dt k0 cs.length->(ix k0 cs.length)/\iR ((k0:Int)-1)/\CR Gl 208 [I (A9 k0).1,I 0,I (A6 k0)] (B (inR (A9 k0).1 0 (A6 k0)))/\(A4 k0)/\(A4 k0)/\((eqB (A1 k0) false=true->ln (A9 k0).2<=maxLen)->(A4 k0)/\(A4 k0)/\(A4 k0)/\((A1 k0)=false->eqB (A1 k0) false=true)/\(o7 k0)/\(o7 k0)/\(eqB (A0 k0) false=true->CR Gl 102 [L eI (Cp.seen (A9 k0)),T.fn 209 [] []] (B !List.all (Cp.seen (A9 k0)) λx=>!(x != (-1:Int)&&!inR x (0:Int) (9:Int))))/\((A0 k0)=false->eqB (A0 k0) false=true)/\((A3 k0)=true->false=Ft pl cs)/\((A3 k0)=false->lq k0 A8 ((cs.length:Int)=cs.length/\sR eCp cs/\pl=pl/\sR eCp cs))))/\(df k0 cs.length->true=Ft pl cs)))))) func121 ?_
 simp only[stdS,aL,aB,and_true,Ad,Ap];have hw:(List.range cs.length).length=cs.length:=cR;refine⟨Aci S _ _ _,λhm=>⟨λ_=>Aci S _ _ _,λh=>?_,λh qr k hk=>⟨λhd=>?_,λhd=>?_⟩⟩⟩
 ·grind[Ft]
 ·have hlt:=bY hd;refine⟨by omega,by omega,Aci S _ _ _,λnc=>⟨λ_=>Yg S _ 209 _ λj _=>Bc7 S _,λhb=>?_,λhb=>⟨by omega,?_,by omega,trivial⟩⟩⟩
  ·have hx:Uw pl cs k=false:=by rw[Aq2,hb];rfl
   grind[Ft]
  ·exact Fq hk (by omega) (by grind[Cc,Aq2])
 grind[Jg,Ft]
abbrev DS:=List Int->Bool
def Jn:List Cp:=[⟨0,[4,7]⟩,⟨0,[-1,-1]⟩,⟨1,[4,1]⟩,⟨1,[4,1]⟩,⟨0,[-1,7]⟩,⟨4,[8,7]⟩]
def cp2 (p a b:Int):Fz (List.map C.dem (List.map C.dem [C.v (.int .i64 p),C.s Tag.n 2 λi=>[List.map C.dem [C.v (.int .i64 a)],List.map C.dem [C.v (.int .i64 b)]].getD i []])) (eCp ⟨p,[a,b]⟩):=
 ⟨.inl rfl,.inr (.inr ⟨.n,2,_,.n,2,_,rfl,rfl,rfl,λi hi=>by match i,hi with|0,_=>rfl|1,_=>rfl⟩),trivial⟩
def Bc9 (S:SP Gl)  :CR Gl 51 [] (tTr 2 Jn):=by
 refine Ag S (let A0:=List.map C.dem [Ci 1,C.s Tag.n 2 (gD [mI 4,mI 1])];((.nil),((2:Int)=2/\SEq 6 (gD [List.map C.dem (List.map C.dem [Ci 0,C.s Tag.n 2 (gD [mI 4,mI 7])]),List.map C.dem (List.map C.dem [Ci 0,C.s Tag.n 2 (gD [mI (-1:Int),mI (-1:Int)])]),List.map C.dem A0,List.map C.dem A0,List.map C.dem (List.map C.dem [Ci 0,C.s Tag.n 2 (gD [mI (-1:Int),mI 7])]),List.map C.dem (List.map C.dem [Ci 4,C.s Tag.n 2 (gD [mI 8,mI 7])])]) Jn.length λi=>eCp (nth Jn i)))) func51 ?_;dsimp only;exact⟨rfl,rfl,λi hi=>.inr (by
  match i,hi with|0,_=>exact cp2 _ _ _|1,_=>exact cp2 _ _ _|2,_=>exact cp2 _ _ _|3,_=>exact cp2 _ _ _|4,_=>exact cp2 _ _ _|5,_=>exact cp2 _ _ _)⟩
end Go.Vc.Zn
namespace Go.Vc.Zn.Gv
open Go Go.Proofs Go.Vc Go.RowKit Tryz
def Acj (s:Span):T:=.d (.agg (Ae s))
structure Comp where
 room:Int
 post:Span
 sheet:Span
 look:Span
structure Book where
 comps:List Comp
 dues:List Int
 sheets:List Int
structure Task where
 one:Int
 other:Int
 third:Int
structure Truth where
 post:List Int
 sheet:List Int
 look:List Int
instance:Inhabited Comp:=⟨⟨0,default,default,default⟩⟩
instance:Inhabited Task:=⟨⟨0,0,0⟩⟩
instance:Inhabited Book:=⟨⟨[],[],[]⟩⟩
instance:Inhabited Truth:=⟨⟨[],[],[]⟩⟩
def eComp (c:Comp):List C:=[Ci c.room,Ci c.post.lo,Ci c.post.hi,Ci c.sheet.lo,Ci c.sheet.hi,Ci c.look.lo,Ci c.look.hi]
def eTask (t:Task):List C:=[Ci t.one,Ci t.other,Ci t.third]
def cBook (b:Book):List C:=[.l eComp b.comps,.l eI b.dues,.l eI b.sheets]
def Aib (t:Truth):List C:=[.l eI t.post,.l eI t.sheet,.l eI t.look]
def Ack (c:Comp):T:=.d (.agg (eComp c))
def Rz (t:Task):T:=.d (.agg (eTask t))
def tBook (b:Book):T:=.d (.agg (cBook b))
def Qa (t:Truth):T:=.d (.agg (Aib t))
def _root_.Go.Vc.Zn.Span.isIn (s:Span) (lo hi:Int):Bool:=inR s.lo lo hi&&inR s.hi s.lo hi
def Comp.fine (c:Comp):Bool:=inR c.room 0 2&&(c.post.isIn 0 5&&(c.sheet.isIn 1 5&&c.look.isIn 1 3))
def hand (t:Task) (c:Int):Bool:=t.one==c||t.other==c
def Book.isComp (b:Book) (n:Int):Bool:=inR n 0 ((b.comps.length:Int) - 1)
def Book.isTable (b:Book) (n:Int):Bool:=inR n 0 ((b.dues.length:Int) - 1)
theorem Ux {Gl} (S:SP Gl) (x lo hi:Int):CR Gl 257 [I x,I lo,I hi] (B (inR x lo hi)):=by
 refine Ag S (let A0:=eqB (decide (lo<=x)) true=true->eqB (decide (lo<=x)) true=true;((.nil),(A0/\A0/\(decide (lo<=x)=true->eqB (decide (lo<=x)) true=true)/\(bif decide (lo<=x) then decide (x<=hi) else false)=inR x lo hi))) func257 ?_;simp only[stdS,aL,aB,and_true,inR]
def Bca {Gl} (S:SP Gl) (s:Span) (lo hi:Int):CR Gl 258 [Acj s,I lo,I hi] (B (s.isIn lo hi)):=by
 refine Ag S (let A1:=inR s.1 lo hi;let A0:=eqB A1 true=true->eqB A1 true=true;((rs [B A1,B (inR s.2 s.1 hi)] .nil),(CR Gl 257 [I s.1,I lo,I hi] (B A1)/\A0/\A0/\A0/\A0/\A0/\(eqB A1 true=true->CR Gl 257 [I s.2,I s.1,I hi] (B (inR s.2 s.1 hi)))/\(inR s.1 lo hi=true->eqB A1 true=true)/\(bif inR s.1 lo hi then inR s.2 s.1 hi else false)=Span.isIn s lo hi))) func258 ?_;simp only[stdS,aL,aB,and_true,Ux S,Span.isIn]
def Bcb {Gl} (S:SP Gl) (c:Comp):CR Gl 256 [Ack c] (B (!c.fine)):=by
 refine Ag S (let A8:=Span.mk c.4.1 c.4.2;let A4:=Span.mk c.3.1 c.3.2;let A3:=Span.mk c.2.1 c.2.2;let A2:=(!inR c.1 (0:Int) (2:Int));let A5:=eqB A2 false=true->eqB A2 false=true;let A1:=(bif !inR c.1 (0:Int) (2:Int) then true else !Span.isIn A3 (0:Int) (5:Int));let A6:=eqB A1 false=true->eqB A1 false=true;let A0:=(bif bif !inR c.1 (0:Int) (2:Int) then true else !Span.isIn A3 (0:Int) (5:Int) then true else !Span.isIn A4 (1:Int) (5:Int));let A7:=eqB A0 false=true->eqB A0 false=true;((rs [B (inR c.1 0 2),B (Span.isIn A3 0 5),B (Span.isIn A4 1 5),B (Span.isIn A8 1 3)] .nil),(CR Gl 257 [I c.1,I 0,I 2] (B (inR c.1 0 2))/\A5/\A5/\(eqB A2 false=true->CR Gl 258 [Acj A3,I 0,I 5] (B (Span.isIn A3 0 5)))/\A5/\(A2=false->eqB A2 false=true)/\A6/\A6/\(eqB A1 false=true->CR Gl 258 [Acj A4,I 1,I 5] (B (Span.isIn A4 1 5)))/\A6/\(A1=false->eqB A1 false=true)/\A7/\A7/\(eqB A0 false=true->CR Gl 258 [Acj A8,I 1,I 3] (B (Span.isIn A8 1 3)))/\A7/\(A0=false->eqB A0 false=true)/\(bif bif bif !inR c.1 (0:Int) (2:Int) then true else !Span.isIn A3 (0:Int) (5:Int) then true else !Span.isIn A4 (1:Int) (5:Int) then true else !Span.isIn A8 (1:Int) (3:Int))=!Comp.fine c))) func256 ?_;simp only[stdS,aL,aB,and_true,Ux S,Bca S,Comp.fine,Bool.not_and,Bool.or_assoc]
def Bcc {Gl} (S:SP Gl) (b:Book) (n:Int):CR Gl 323 [tBook b,I n] (B (b.isComp n)):=by
 refine Ag S (let A0:=((b.1.length:Int)-1);((rt (B (inR n 0 A0)) .nil),(b.1.length<=maxLen->iR A0/\CR Gl 257 [I n,I 0,I A0] (B (inR n 0 A0))/\inR n 0 A0=Book.isComp b n))) func323 ?_;dsimp only;intro h;rw[Ap]at h;exact⟨(Ad _).2 (by omega),Ux S _ _ _,rfl⟩
def Book.ok (b:Book):Bool:=
 inR b.comps.length 1 4&&(inR b.dues.length 1 2&&(inR b.sheets.length 1 3&&(b.comps.all Comp.fine&&(b.dues.all (λn=>inR n 0 99)&&b.sheets.all b.isTable))))
def Book.fault (b:Book) (t:Task):Int:=
 bif !(b.isComp t.one&&b.isComp t.other&&b.isComp t.third) then 1
 else bif t.one==t.other||t.one==t.third||t.other==t.third then 2
 else bif decide (t.other<t.one) then 3
 else bif (nth b.comps t.one.toNat).room==(nth b.comps t.other.toNat).room then 4 else 0
def Book.why (b:Book) (plan:List Task):Nat:=Bl (λt=>b.fault t==0) plan
def Book.isWhy (b:Book) (plan:List Task):Bool:=!plan.all (λt=>b.fault t==0)
def Book.why1 (b:Book) (plan:List Task):Int:=bif b.isWhy plan then b.why plan else 0
def Book.why2 (b:Book) (plan:List Task):Int:=bif b.isWhy plan then b.fault (nth plan (b.why plan)) else 0
def Book.good (b:Book) (plan:List Task):Bool:=plan.length==b.sheets.length&&!b.isWhy plan
def _root_.Go.Vc.Zn.Span.end (s:Span) (g:Bool):Int:=bif g then s.hi else s.lo
def Book.endP (b:Book) (g:Bool):List Int:=b.comps.map (λc=>c.post.end g)
def Book.endS (b:Book) (g:Bool):List Int:=b.comps.map (λc=>c.sheet.end g)
def Book.endL (b:Book) (g:Bool):List Int:=b.comps.map (λc=>c.look.end g)
def Book.ends (b:Book) (g:Bool):Truth:=⟨b.endP g,b.endS g,b.endL g⟩
def nil3:List C:=[.v (.slice none 0 0),.v (.slice none 0 0),.v (.slice none 0 0)]
def Aic (t:Task) (i:Nat) (sheet c:Int) (lost:Bool):Bool:=hand t c&&(decide ((i:Int)<=sheet)||lost)
def Kv (plan:List Task) (sheet c:Int) (lost:Bool):Nat->Nat
 |0=>0
 |k+1=>Kv plan sheet c lost k+bif Aic (nth plan k) k sheet c lost then 1 else 0
def many (plan:List Task) (sheet c:Int) (lost:Bool):Nat:=Kv plan sheet c lost plan.length+bif lost then 1 else 0
def home (plan:List Task) (t:Truth) (sheet c:Int) (lost:Bool):Int:=2*nth t.post c.toNat+many plan sheet c lost*nth t.sheet c.toNat
theorem Acl {plan:List Task} {sheet c:Int} {lost:Bool}:∀k,Kv plan sheet c lost k<=k
 |0=>aI _
 |k+1=>by
  have:=Acl (plan:=plan) (sheet:=sheet) (c:=c) (lost:=lost) k;grind[Kv]
def Yt (t:Truth):Prop:=(∀i,0<=nth t.post i/\nth t.post i<=1000)/\(∀i,0<=nth t.sheet i/\nth t.sheet i<=1000)/\∀i,0<=nth t.look i/\nth t.look i<=1000
def Acm (plan:List Task) (t:Truth) (lost c:Int) (free:List Int) (i:Nat):Int:=
 max (max (home plan t i (nth plan i).one (i==lost&&(nth plan i).one==c)) (home plan t i (nth plan i).other (i==lost&&(nth plan i).other==c))+nth t.post (nth plan i).third.toNat) (nth free (nth plan i).third.toNat)+nth t.look (nth plan i).third.toNat
def Fu (plan:List Task) (t:Truth) (lost c:Int):Nat->List Int
 |0=>List.replicate t.post.length 0
 |i+1=>(Fu plan t lost c i).set (nth plan i).third.toNat (Acm plan t lost c (Fu plan t lost c i) i)
def Aq3 (plan:List Task) (t:Truth) (lost c:Int) (i:Nat):Int:=Acm plan t lost c (Fu plan t lost c i) i+nth t.post (nth plan i).third.toNat
def days (plan:List Task) (t:Truth) (lost c:Int):List Int:=(List.range plan.length).map (Aq3 plan t lost c)
def Truth.fits (t:Truth) (n:Nat):Prop:=t.post.length=n/\t.sheet.length=n/\t.look.length=n
def Aq4 (plan:List Task) (n:Nat):Prop:=∀i,i<plan.length->(0<=(nth plan i).one/\(nth plan i).one<n)/\(0<=(nth plan i).other/\(nth plan i).other<n)/\(0<=(nth plan i).third/\(nth plan i).third<n)
def Bcd {α:Type} [Inhabited α] {l:List α} {i:Nat} (h:l.length<=i):nth l i=default:=by
 grind[nth]
def Yu {b:Book} (h:b.ok=true):(1<=b.comps.length/\b.comps.length<=4)/\(1<=b.dues.length/\b.dues.length<=2)/\(1<=b.sheets.length/\b.sheets.length<=3)/\
  (∀i,i<b.comps.length->(nth b.comps i).fine=true)/\(∀i,i<b.dues.length->0<=nth b.dues i/\nth b.dues i<=99)/\(∀i,i<b.sheets.length->0<=nth b.sheets i/\nth b.sheets i<b.dues.length):=by
 grind[Book.ok,Bi,Fj,Book.isTable]
def Aid {c:Comp} (h:c.fine=true):(0<=c.room/\c.room<=2)/\(0<=c.post.lo/\c.post.lo<=c.post.hi/\c.post.hi<=5)/\(1<=c.sheet.lo/\c.sheet.lo<=c.sheet.hi/\c.sheet.hi<=5)/\(1<=c.look.lo/\c.look.lo<=c.look.hi/\c.look.hi<=3):=by
 grind[Comp.fine,Span.isIn,Bi]
def Aie {s:Span} {g:Bool} {lo hi:Int} (h:lo<=s.lo/\s.lo<=s.hi/\s.hi<=hi):lo<=s.end g/\s.end g<=hi:=by
 grind[Span.end]
def Aif {l:List Int} {f:Comp->Int} {b:Book} (hl:l=b.comps.map f) (hf:∀i,i<b.comps.length->0<=f (nth b.comps i)/\f (nth b.comps i)<=5) (i:Nat):0<=nth l i/\nth l i<=1000:=by
 subst hl;rcases bL i b.comps.length with h|h
 ·grind[Hq]
 ·rw[Bcd (by grind)];trivial
def Bce {b:Book} (hb:b.ok=true) (g:Bool):Yt (b.ends g):=by
 obtain⟨_,_,_,h,_⟩:=Yu hb;refine⟨Aif rfl λi hi=>?_,Aif rfl λi hi=>?_,Aif rfl λi hi=>?_⟩
 ·obtain⟨_,h1,h2,h3⟩:=Aid (h i hi);exact Aie h1
 ·obtain⟨_,h1,h2,h3⟩:=Aid (h i hi);have:=Aie (g:=g) h2;omega
 ·obtain⟨_,h1,h2,h3⟩:=Aid (h i hi);have:=Aie (g:=g) h3;omega
def Bcf (b:Book) (g:Bool):(b.ends g).fits b.comps.length:=⟨by simp[Book.ends,Book.endP],by simp[Book.ends,Book.endS],by simp[Book.ends,Book.endL]⟩
def Aq5 {b:Book} {t:Task} (h:b.fault t=0):(b.isComp t.one=true/\b.isComp t.other=true/\b.isComp t.third=true)/\(t.one≠t.other/\t.one≠t.third/\t.other≠t.third)/\t.one<=t.other/\
  (nth b.comps t.one.toNat).room≠(nth b.comps t.other.toNat).room:=by
 unfold Book.fault at h;cases h1:(!(b.isComp t.one&&b.isComp t.other&&b.isComp t.third)) with
 |true=>grind
 |false=>
  grind
def Aig {b:Book} {plan:List Task} (h:b.good plan=true):plan.length=b.sheets.length/\∀i,i<plan.length->b.fault (nth plan i)=0:=by
 grind[Book.good,Book.isWhy,Fj]
def Bcg {b:Book} {plan:List Task} (h:b.good plan=true):Aq4 plan b.comps.length:=by
 intro i hi;obtain⟨⟨h1,h2,h3⟩,_⟩:=Aq5 ((Aig h).2 i hi);grind[Book.isComp,Bi]
def Aq6 (plan:List Task) (t:Truth) (lost c:Int):(days plan t lost c).length=plan.length:=by simp[days]
theorem Acn {α:Type} [Inhabited α] (l:List α) (i:Nat) (x:α) (j:Nat):nth (l.set i x) j=if i=j/\i<l.length then x else nth l j:=by
 grind[nth]
theorem Aq7 (plan:List Task) (t:Truth) (lost c:Int):∀k,(Fu plan t lost c k).length=t.post.length
 |0=>by simp[Fu]
 |k+1=>by simp[Fu,Aq7 plan t lost c k]
def Aco {plan:List Task} {t:Truth} (hs:Yt t) (hp:plan.length<=1000) (s c:Int) (l:Bool):0<=home plan t s c l/\home plan t s c l<=1003000:=by
 have h1:=hs.1 c.toNat
 have h2:=hs.2.1 c.toNat
 have hm:many plan s c l<=1001:=by grind[Acl,many]
 have h3:(0:Int)<=(many plan s c l:Int)*nth t.sheet c.toNat:=fM (by omega) h2.1;have h4:(many plan s c l:Int)*nth t.sheet c.toNat<=1001*1000:=gG (by omega) h2.2 h2.1 (by omega);unfold home;omega
theorem Aq8 {plan:List Task} {t:Truth} (hs:Yt t) (hp:plan.length<=1000) (lost c:Int):∀k j,0<=nth (Fu plan t lost c k) j/\nth (Fu plan t lost c k) j<=1005000+1000*k
 |0,j=>by
  unfold Fu nth;rw[bU,fY];split<;>trivial
 |k+1,j=>by
  have ih:=Aq8 hs hp lost c k;unfold Fu;rw[Acn];split
  ·have a1:=Aco hs hp k (nth plan k).one (k==lost&&(nth plan k).one==c);have a2:=Aco hs hp k (nth plan k).other (k==lost&&(nth plan k).other==c);have a3:=hs.1 (nth plan k).third.toNat
   have a4:=hs.2.2 (nth plan k).third.toNat
   grind[Acm]
  grind
def Yv (n i:Int):Task:=⟨(i.tdiv n).tdiv n,(i.tdiv n).tmod n,i.tmod n⟩
def Ee (b:Book):Nat->List Task
 |0=>[]
 |i+1=>bif b.fault (Yv b.comps.length i)==0 then Ee b i++[Yv b.comps.length i] else Ee b i
theorem Aq9 (b:Book):∀k,(Ee b k).length<=k
 |0=>aI _
 |k+1=>by
  have:=Aq9 b k;grind[Ee]
def Book.tasks (b:Book):List Task:=Ee b (b.comps.length*b.comps.length*b.comps.length)
theorem Aih {b:Book} {t:Task}:∀{k:Nat},t∈Ee b k->b.fault t=0
 |0,h=>by cases h
 |k+1,h=>by
  unfold Ee at h;cases hf:(b.fault (Yv b.comps.length k)==0) with
  |false=>rw[hf]at h;exact Aih (k:=k) h
  |true=>
   rw[hf]at h;rcases cP.1 h with h|h
   ·exact Aih (k:=k) h
   grind
def Om (l:List Int):Nat->Int
 |0=>0
 |k+1=>max (Om l k) (nth l k)
structure Work where
 book:Book
 plan:List Task
def Yw (w:Work):List C:=[.l eComp w.book.comps,.l eI w.book.dues,.l eI w.book.sheets,.l eTask w.plan]
def Kw (w:Work):T:=.d (.agg (Yw w))
def Qb (s c:Int):T:=.d (.agg [Ci s,Ci c])
def On (gs gc sheet c:Int):Bool:=gs==sheet&&(gc==c&&true)
def Aqa {Gl} (S:SP Gl) (l:List Int):CR Gl 254 [L eI l] (I (Om l l.length)):=by
 refine Ao S (.loop l.length (λk=>[v 8 (I k),v 7 (I l.length),v 6 (L eI l),v 3 (I (Om l k))]) λk0=>.br .nil .nil) (l.length<=maxLen->(lz l.length (sR eI l/\(0:Int)=Om l 0))/\∀(k0:Nat),k0<=l.length->(dt k0 l.length->(ix k0 l.length)/\lq k0 l.length ((l.length:Int)=l.length/\sR eI l/\max (Om l k0) (nth l k0)=Om l (k0+1)))/\(df k0 l.length->Om l k0=Om l l.length)) func254 ?_;simp only[stdS,aL,aB,and_true,aN,aK,Ap,Ad];refine λ_=>⟨rfl,λk hk=>⟨λhl=>⟨by omega,by omega,by omega,by omega,rfl⟩,λhl=>?_⟩⟩
 grind
def Bch {Gl} (S:SP Gl)  :CR Gl 79 [] (Qb (-1) (-1)):=by
 refine Ao S .nil ((-1:Int)=(-1:Int)/\(-1:Int)=(-1:Int)) func79 ?_;trivial
def Bci {Gl} (S:SP Gl) (b:Book) (h:b.comps.length<=1000):CR Gl 164 [tBook b] (Qa (b.ends true)):=by
 refine Ag S (let A3:=Book.comps b;let A2:=Book.endL b true;let A6:=λ(k0:Nat)=>List.take k0 A2;let A1:=Book.endS b true;let A5:=λ(k0:Nat)=>List.take k0 A1;let A0:=Book.endP b true;let A4:=λ(k0:Nat)=>List.take k0 A0;let P0:=λ(zz:Prop)=>Value.slice none 0 0=Value.slice none 0 0/\zz;((.loop (List.length A3) (λk=>v 9 (I k)::v 8 (I (List.length A3:Int))::v 7 (L eComp A3)::v 3 (ad 3)::v 2 (ad 2)::tk 100 3::tk 101 3::tk 102 3::(bx 2 nil3++bx 3 [C.lt 100 eI (List.take k A0),C.lt 101 eI (List.take k A1),C.lt 102 eI (List.take k A2)])) λk0=>.br .nil .nil),(b.1.length<=maxLen->(lz b.1.length (sR eComp b.1/\P0 (P0 (P0 (0=0/\0=0/\0=0)))))/\∀(k0:Nat),k0<=ln A3->(dt k0 b.1.length->(ix k0 b.1.length)/\cp (ln (A4 k0)+1) (cp (ln (A5 k0)+1) (cp (ln (A6 k0)+1) (lq k0 (ln A3) ((b.1.length:Int)=b.1.length/\sR eComp b.1/\P0 (P0 (P0 ((SEq (ln (A4 k0)+1) (An (ln (A4 k0)) (λi=>eI (nth (A4 k0) i)) (gD [mI (nth b.1 k0).2.2])) (ln (List.take (k0+1) A0)) λi=>eI (nth (List.take (k0+1) A0) i))/\(SEq (ln (A5 k0)+1) (An (ln (A5 k0)) (λi=>eI (nth (A5 k0) i)) (gD [mI (nth b.1 k0).3.2])) (ln (List.take (k0+1) A1)) λi=>eI (nth (List.take (k0+1) A1) i))/\SEq (ln (A6 k0)+1) (An (ln (A6 k0)) (λi=>eI (nth (A6 k0) i)) (gD [mI (nth b.1 k0).4.2])) (ln (List.take (k0+1) A2)) λi=>eI (nth (List.take (k0+1) A2) i)))))))))/\(df k0 b.1.length->(sQ eI (A4 k0) A0)/\(sQ eI (A5 k0) A1)/\sQ eI (A6 k0) A2)))) func164 ?_;simp only[stdS,aL,aB,and_true,aN,aK,Ap,Ad];have lp:(b.endP true).length=b.comps.length:=by simp[Book.endP]
 have ls:(b.endS true).length=b.comps.length:=by simp[Book.endS]
 have ll:(b.endL true).length=b.comps.length:=by simp[Book.endL]
 refine λ_ k hk=>⟨λhl=>?_,λhl=>?_⟩
 ·have hlt:k<b.comps.length:=by omega
  have bp:((b.endP true).take k).length<=1000:=by grind
  have bs:((b.endS true).take k).length<=1000:=by grind
  have bl:((b.endL true).take k).length<=1000:=by grind
  have np:nth (b.endP true) k=(nth b.comps k).post.end true:=Hq hlt;have ns:nth (b.endS true) k=(nth b.comps k).sheet.end true:=Hq hlt;have nl:nth (b.endL true) k=(nth b.comps k).look.end true:=Hq hlt;refine⟨by omega,by omega,by omega,by omega,by omega,by omega,by omega,by omega,hlt,by omega,?_,?_,?_⟩
  ·exact Rr (by omega) (by rw[np];rfl)
  ·exact Rr (by omega) (by rw[ns];rfl)
  ·exact Rr (by omega) (by rw[nl];rfl)
 ·have bf:k=b.comps.length:=by omega
  exact⟨Ax (by grind),Ax (by grind),Ax (by grind)⟩
theorem Aqb {Gl} (S:SP Gl) (w:Work) (t:Truth) (sheet c gs gc:Int) (hs:Yt t) (hp:w.plan.length<=1000) (hc1:0<=c/\c<t.post.length) (hc2:0<=c/\c<t.sheet.length):CR Gl 255 [Kw w,Qa t,I sheet,I c,Qb gs gc] (I (home w.plan t sheet c (On gs gc sheet c))):=by
 refine Ag S (let A7:=Work.plan w;let A6:=bif false then !eqL [gs,gc] [sheet,c] else eqL [gs,gc] [sheet,c];let A4:=Int.toNat c;let A3:=On gs gc sheet c;let A2:=λ(k0:Nat)=>bif bif (nth w.2 k0).1==c then true else (nth w.2 k0).2==c then bif decide ((k0:Int)<=sheet) then true else bif false then !eqL [gs,gc] [sheet,c] else eqL [gs,gc] [sheet,c] else false;let A1:=λ(k0:Nat)=>bif (nth w.2 k0).1==c then true else (nth w.2 k0).2==c;let A5:=λ(k0:Nat)=>eqB (A1 k0) true&&eqB (decide ((k0:Int)<=sheet)) false;let A0:=λ(k0:Nat)=>(↑(Kv w.2 sheet c A3 k0):Int);let P0:=λ(k0:Nat) (zz:Prop)=>((A5 k0)=true->(A5 k0)=true)/\zz;let P1:=λ(k0:Nat) (zz:Prop)=>(eqB (A1 k0) true=true->eqB (A1 k0) true=true)/\zz;let P2:=λ(k0:Nat) (zz:Prop)=>(eqB ((nth w.2 k0).1==c) false=true->eqB ((nth w.2 k0).1==c) false=true)/\zz;let P3:=λ(zz:Prop)=>sheet=sheet/\c=c/\sR eI t.1/\sR eI t.2/\sR eI t.3/\gs=gs/\zz;let P4:=λ(zz:Prop)=>((0:Int)<=c/\c<(t.1.length:Int))/\iR ((2:Int)*nth t.1 A4)/\((0:Int)<=c/\c<(t.2.length:Int))/\zz;((.loop (List.length A7) (λk=>v 17 (I k)::v 16 (I (List.length A7:Int))::v 15 (L eTask A7)::v 11 (I (↑(Kv A7 sheet c A3 k):Int))::v 2 (I sheet)::v 3 (I c)::v 6 (ad 6)::v 9 (ad 9)::(bx 6 (Aib t)++bx 9 [Ci gs,Ci gc])) λk0=>.br (.br .nil .nil) (.br .nil .nil)),(w.2.length<=maxLen->(lz w.2.length (sR eTask w.2/\0=(↑(Kv w.2 sheet c A3 0):Int)/\P3 (gc=gc)))/\∀(k0:Nat),k0<=ln A7->(dt k0 w.2.length->(ix k0 w.2.length)/\P2 k0 (P2 k0 (P2 k0 ((((nth w.2 k0).1==c)=false->eqB ((nth w.2 k0).1==c) false=true)/\P1 k0 (P1 k0 (P1 k0 (P0 k0 (P0 k0 (P0 k0 (P0 k0 (P1 k0 ((eqB (A1 k0) true=true->decide ((k0:Int)<=sheet)=false->(A5 k0)=true)/\((A1 k0)=true->eqB (A1 k0) true=true)/\((A2 k0)=true->iR ((A0 k0)+1)/\lq k0 (ln A7) ((w.2.length:Int)=w.2.length/\sR eTask w.2/\(A0 k0)+1=(↑(Kv w.2 sheet c A3 (k0+1)):Int)/\P3 (gc=gc)))/\((A2 k0)=false->lq k0 (ln A7) ((w.2.length:Int)=w.2.length/\sR eTask w.2/\(A0 k0)=(↑(Kv w.2 sheet c A3 (k0+1)):Int)/\P3 (gc=gc)))))))))))))))/\(df k0 w.2.length->(A6=true->iR ((A0 k0)+1)/\P4 (iR (((A0 k0)+1)*nth t.2 A4)/\iR ((2:Int)*nth t.1 A4+((A0 k0)+1)*nth t.2 A4)/\(2:Int)*nth t.1 A4+((A0 k0)+1)*nth t.2 A4=home w.2 t sheet c A3))/\(A6=false->P4 (iR ((A0 k0)*nth t.2 A4)/\iR ((2:Int)*nth t.1 A4+(A0 k0)*nth t.2 A4)/\(2:Int)*nth t.1 A4+(A0 k0)*nth t.2 A4=home w.2 t sheet c A3)))))) func255 ?_
 simp only[stdS,aL,aB,and_true,aN,aK,Ap,Ad];obtain⟨s1,s2,s3⟩:=hs;have bp:=s1 c.toNat
 have bs:=s2 c.toNat
 generalize hG:On gs gc sheet c=lost;have tp:(bif false then !eqL [gs,gc] [sheet,c] else eqL [gs,gc] [sheet,c])=lost:=hG;rw[tp];refine λ_=>⟨⟨rfl,trivial⟩,λk hk=>⟨λhl=>?_,λhl=>?_⟩⟩
 ·have i7:=Acl (plan:=w.plan) (sheet:=sheet) (c:=c) (lost:=lost) k;refine⟨⟨by omega,hl⟩,λh1 h2=>by grind,λh=>?_,λh=>?_⟩
  ·have hc:Aic (nth w.plan k) k sheet c lost=true:=h;grind[Kv]
  ·have hc:Aic (nth w.plan k) k sheet c lost=false:=h;grind[Kv]
 ·have bf:k=w.plan.length:=by omega
  subst bf;have i7:=Acl (plan:=w.plan) (sheet:=sheet) (c:=c) (lost:=lost) w.plan.length;generalize hq:Kv w.plan sheet c lost w.plan.length=q at i7;have e1:home w.plan t sheet c lost=2*nth t.post c.toNat+((q+bif lost then 1 else 0:Nat):Int)*nth t.sheet c.toNat:=by grind[home,many]
  rw[e1];generalize nth t.post c.toNat=p at *
  generalize nth t.sheet c.toNat=s at *
  have m1:0<=((q:Int)+1)*s:=fM (by omega) bs.1;have m2:((q:Int)+1)*s<=1001*1000:=gG (by omega) bs.2 bs.1 (by omega);grind
def upIdx {α:Type} [Inhabited α] (p:α->Bool) (l:List α):Nat:=Bl (λx=>!p x) l
def idxI {α:Type} [Inhabited α] (p:α->Bool) (l:List α):Int:=bif l.all (λx=>!p x) then -1 else upIdx p l
theorem idxI_spec {α:Type} [Inhabited α] (p:α->Bool) (l:List α):decide (0<=idxI p l)=!l.all (λx=>!p x):=by
 grind[idxI]
def idx_loop {α:Type} [Inhabited α] (p:α->Bool) (l:List α) (C:Nat->Prop) (hC:∀k,k<l.length->C k):l.length<=9223372036854775807->∀k:Nat,k<=upIdx p l->
  ((k:Int)<(l.length:Int)->(0<=(k:Int)/\(k:Int)<(l.length:Int))/\C k/\(p (nth l k)=true->(k:Int)=idxI p l)/\
   (p (nth l k)=false->(-9223372036854775808<=(k:Int)+1/\(k:Int)+1<=9223372036854775807)/\k<upIdx p l/\(k:Int)+1=((k+1:Nat):Int)/\True))/\
  (¬(k:Int)<(l.length:Int)->-1=idxI p l):=by
 grind[Fq,Ui,upIdx,Io,idxI,Jg]
theorem Bcj {Gl} (S:SP Gl) (l:List Comp) (f:FuncId) (p:Comp->Bool) (hf:∀i,i<l.length->CR Gl f [Ack (nth l i)] (B (p (nth l i)))):CR Gl 324 [L eComp l,.fn f [] []] (I (idxI p l)):=by
 refine Ao S (.loop (upIdx p l) (λk=>[v 8 (I k),v 7 (I l.length),v 0 (L eComp l),v 1 (T.fn f [] [])]) λk0=>.br (rt (B (p (nth l k0))) (.br .nil .nil)) .nil) (l.length<=maxLen->(lz l.length (sR eComp l/\f=f))/\∀(k0:Nat),k0<=upIdx p l->(dt k0 l.length->(ix k0 l.length)/\CR Gl f [Ack (nth l k0)] (B (p (nth l k0)))/\(p (nth l k0)=true->(k0:Int)=idxI p l)/\(p (nth l k0)=false->lq k0 (upIdx p l) ((l.length:Int)=l.length/\sR eComp l/\f=f)))/\(df k0 l.length->(-1:Int)=idxI p l)) func324 ?_;simp only[stdS,aL,aB,and_true,aN,aK,Ap,Ad];exact idx_loop p l _ hf
theorem Bck {Gl} (S:SP Gl) (l:List Int) (f:FuncId) (p:Int->Bool) (hf:∀i,i<l.length->CR Gl f [I (nth l i)] (B (p (nth l i)))):CR Gl 189 [L eI l,.fn f [] []] (I (idxI p l)):=by
 refine Ao S (.loop (upIdx p l) (λk=>[v 8 (I k),v 7 (I l.length),v 0 (L eI l),v 1 (T.fn f [] [])]) λk0=>.br (rt (B (p (nth l k0))) (.br .nil .nil)) .nil) (l.length<=maxLen->(lz l.length (sR eI l/\f=f))/\∀(k0:Nat),k0<=upIdx p l->(dt k0 l.length->(ix k0 l.length)/\CR Gl f [I (nth l k0)] (B (p (nth l k0)))/\(p (nth l k0)=true->(k0:Int)=idxI p l)/\(p (nth l k0)=false->lq k0 (upIdx p l) ((l.length:Int)=l.length/\sR eI l/\f=f)))/\(df k0 l.length->(-1:Int)=idxI p l)) func189 ?_;simp only[stdS,aL,aB,and_true,aN,aK,Ap,Ad];exact idx_loop p l _ hf
theorem Bcl {Gl} (S:SP Gl) (l:List Int) (f:FuncId) (d:Book) (p:Int->Bool) (hf:∀i,i<l.length->CR Gl f [I (nth l i),.d (.rd (cBook d))] (B (p (nth l i)))):CR Gl 189 [L eI l,.fn f [] [.d (.rd (cBook d))]] (I (idxI p l)):=by
 refine Ao S (.loop (upIdx p l) (λk=>[v 8 (I k),v 7 (I l.length),v 0 (L eI l),v 1 (T.fn f [] [T.d (D.rd (cBook d))])]) λk0=>.br (rt (B (p (nth l k0))) (.br .nil .nil)) .nil) (l.length<=maxLen->(lz l.length (sR eI l/\f=f/\sR eComp d.1/\sR eI d.2/\sR eI d.3))/\∀(k0:Nat),k0<=upIdx p l->(dt k0 l.length->(ix k0 l.length)/\CR Gl f [I (nth l k0),T.d (D.rd (cBook d))] (B (p (nth l k0)))/\(p (nth l k0)=true->(k0:Int)=idxI p l)/\(p (nth l k0)=false->lq k0 (upIdx p l) ((l.length:Int)=l.length/\sR eI l/\f=f/\sR eComp d.1/\sR eI d.2/\sR eI d.3)))/\(df k0 l.length->(-1:Int)=idxI p l)) func189 ?_;simp only[stdS,aL,aB,and_true,aN,aK,Ap,Ad];exact idx_loop p l _ hf
def Bcm {Gl} (S:SP Gl) (l:List Comp) (f:FuncId) (p:Comp->Bool) (hf:∀i,i<l.length->CR Gl f [Ack (nth l i)] (B (p (nth l i)))):CR Gl 261 [L eComp l,.fn f [] []] (B (!l.all (λx=>!p x))):=by
 refine Ao S (rt (I (idxI p l)) .nil) (CR Gl 324 [L eComp l,T.fn f [] []] (I (idxI p l))/\decide ((0:Int)<=idxI p l)=!List.all l λx=>!p x) func261 ?_;grind[Bcj,idxI_spec]
def Bcn {Gl} (S:SP Gl) (l:List Int) (f:FuncId) (p:Int->Bool) (hf:∀i,i<l.length->CR Gl f [I (nth l i)] (B (p (nth l i)))):CR Gl 102 [L eI l,.fn f [] []] (B (!l.all (λx=>!p x))):=by
 refine Ao S (rt (I (idxI p l)) .nil) (CR Gl 189 [L eI l,T.fn f [] []] (I (idxI p l))/\decide ((0:Int)<=idxI p l)=!List.all l λx=>!p x) func102 ?_;grind[Bck,idxI_spec]
def Bco {Gl} (S:SP Gl) (l:List Int) (f:FuncId) (d:Book) (p:Int->Bool) (hf:∀i,i<l.length->CR Gl f [I (nth l i),.d (.rd (cBook d))] (B (p (nth l i)))):CR Gl 102 [L eI l,.fn f [] [.d (.rd (cBook d))]] (B (!l.all (λx=>!p x))):=by
 refine Ao S (rt (I (idxI p l)) .nil) (CR Gl 189 [L eI l,T.fn f [] [T.d (D.rd (cBook d))]] (I (idxI p l))/\decide ((0:Int)<=idxI p l)=!List.all l λx=>!p x) func102 ?_;grind[Bcl,idxI_spec]
def Bcp {Gl} (S:SP Gl) (n:Int):CR Gl 259 [I n] (B (!inR n 0 99)):=by
 refine Ao S (rt (B (inR n 0 99)) .nil) (CR Gl 257 [I n,I 0,I 99] (B (inR n 0 99))/\(!inR n (0:Int) (99:Int))=!inR n (0:Int) (99:Int)) func259 ?_;grind[Ux]
def Bcq {Gl} (S:SP Gl) (b:Book) (n:Int):CR Gl 260 [I n,.d (.rd (cBook b))] (B (!b.isTable n)):=by
 refine Ag S (let A0:=((b.2.length:Int)-1);((rt (B (inR n 0 A0)) .nil),(b.2.length<=maxLen->iR A0/\CR Gl 257 [I n,I 0,I A0] (B (inR n 0 A0))/\(!inR n (0:Int) A0)=!Book.isTable b n))) func260 ?_;dsimp only;intro h;rw[Ap]at h;exact⟨(Ad _).2 (by omega),Ux S _ _ _,rfl⟩
def Book.isBook (b:Book):Bool:=
 !(b.comps.length==0)&&(b.comps.all Comp.fine&&(inR b.dues.length 1 2&&(inR b.sheets.length 1 3&&(b.dues.all (λn=>inR n 0 99)&&b.sheets.all b.isTable))))
theorem Bcr (b:Book):(b.isBook&&decide ((b.comps.length:Int)<=4))=b.ok:=by
 grind[Book.isBook,Book.ok,Bi]
def Bcs {Gl} (S:SP Gl) (b:Book):CR Gl 165 [tBook b] (B b.isBook):=by
 refine Ag S (let ay:=(b.3.length:Int);let o7:=(b.2.length:Int);let A9:=B !List.all (Book.comps b) λx=>!!Comp.fine x;let A6:=(b.1.length:Int);let A8:=bif A6==0 then true else !List.all b.1 λx=>!!Comp.fine x;let A3:=eqB (A6==0) false=true->eqB (A6==0) false=true;let A2:=inR b.2.length 1 2;let A7:=eqB A2 true=true->eqB A2 true=true;let A1:=bif inR o7 (1:Int) (2:Int) then inR ay (1:Int) (3:Int) else false;let A4:=eqB A1 true=true->eqB A1 true=true;let A0:=bif bif inR o7 (1:Int) (2:Int) then inR ay (1:Int) (3:Int) else false then !!List.all b.2 λx=>!!inR x (0:Int) (99:Int) else false;let A5:=eqB A0 true=true->eqB A0 true=true;((rt A9 (.br .nil (rs [B A2,B (inR b.3.length 1 3),B !List.all (Book.dues b) λx=>!!inR x (0:Int) (99:Int),B !List.all (Book.sheets b) λx=>!!Book.isTable b x] .nil))),(b.1.length<=maxLen->A3/\A3/\A3/\(eqB (A6==0) false=true->CR Gl 261 [L eComp (Book.comps b),T.fn 256 [] []] A9)/\((A6==0)=false->eqB (A6==0) false=true)/\(A8=true->false=Book.isBook b)/\(A8=false->b.2.length<=maxLen->CR Gl 257 [I b.2.length,I 1,I 2] (B A2)/\A7/\A7/\((eqB A2 true=true->b.3.length<=maxLen)->A7/\(eqB A2 true=true->CR Gl 257 [I b.3.length,I 1,I 3] (B (inR b.3.length 1 3)))/\(inR b.2.length 1 2=true->eqB A2 true=true)/\A4/\A4/\A4/\(eqB A1 true=true->CR Gl 102 [L eI (Book.dues b),T.fn 259 [] []] (B !List.all (Book.dues b) λx=>!!inR x (0:Int) (99:Int)))/\A4/\(A1=true->eqB A1 true=true)/\A5/\A5/\A5/\(eqB A0 true=true->CR Gl 102 [L eI (Book.sheets b),T.fn 260 [] [T.d (D.rd (cBook b))]] (B !List.all (Book.sheets b) λx=>!!Book.isTable b x))/\A5/\(A0=true->eqB A0 true=true)/\(bif bif bif inR o7 (1:Int) (2:Int) then inR ay (1:Int) (3:Int) else false then !!List.all b.2 λx=>!!inR x (0:Int) (99:Int) else false then !!List.all b.3 λx=>!!Book.isTable b x else false)=Book.isBook b))))) func165 ?_
 have h1:=Bcm S b.comps 256 (λc=>!c.fine) (λi _=>Bcb S _);have h2:=Bcn S b.dues 259 (λn=>!inR n 0 99) (λi _=>Bcp S _);have h3:=Bco S b.sheets 260 b (λn=>!b.isTable n) (λi _=>Bcq S b _);simp only[stdS,aL,aB,and_true,Ux S,h1,h2,h3,aN,aK,Ap,Ad];grind[Book.isBook]
theorem Aii {Gl} (S:SP Gl) (b:Book):CR Gl 80 [tBook b] (B b.ok):=by
 refine Ag S (let A1:=Book.isBook b;let A0:=eqB A1 true=true->eqB A1 true=true;((rt (B A1) .nil),(CR Gl 165 [tBook b] (B A1)/\A0/\A0/\((eqB A1 true=true->b.1.length<=maxLen)->A0/\(Book.isBook b=true->eqB A1 true=true)/\(bif Book.isBook b then decide ((b.1.length:Int)<=4) else false)=Book.ok b)))) func80 ?_;simp only[stdS,aL,aB,and_true,Bcs S,aN,aK,Ap,Ad];grind[Bcr]
theorem check67 {Gl} (S:SP Gl) (b:Book):CR Gl 139 [tBook b] (I (bif b.ok then 0 else 2)):=by
 refine Ao S (rt (B (Book.ok b)) (.br .nil .nil)) (CR Gl 80 [tBook b] (B (Book.ok b))/\((!Book.ok b)=true->(2:Int)=bif Book.ok b then (0:Int) else (2:Int))/\((!Book.ok b)=false->(0:Int)=bif Book.ok b then (0:Int) else (2:Int))) func139 ?_;simp only[stdS,aL,aB,and_true,Aii S,aN,aK,Ap,Ad];grind
def Lu (plan:List Task) (k:Nat) (x:List Int):Bool:=(List.range k).any λi=>[(nth plan i).third]==x
def Uy (plan:List Task) (t:Truth) (lost c:Int) (k:Nat) (x:List Int):List C:=[Ci (nth (Fu plan t lost c k) (x.headD 0).toNat)]
def Aqc {Gl} (S:SP Gl) (a b:Int) (ha:0<=a) (hb:0<=b):CR Gl 254 [.d (.c (.s .n 2 λi=>[[Ci a],[Ci b]].getD i []))] (I (max a b)):=by
 have h:=Aqa S [a,b];have e:Om [a,b] [a,b].length=max a b:=by
  show max (max 0 a) b=max a b
  omega
 rw[e]at h;refine Computes.args h (show SEq 2 (λi=>[[Ci a],[Ci b]].getD i []) 2 (λi=>eI (nth [a,b] i)) from .of ⟨rfl,λi hi=>?_⟩)
 match i,hi with
 |0,_=>rfl
 |1,_=>rfl
def Aqd (gs gc s c:Int):On gs gc s c=(s==gs&&c==gc):=by
 grind[On]
theorem Aqe (plan:List Task) (k:Nat) (x:List Int):Lu plan (k+1) x=(Lu plan k x||[(nth plan k).third]==x):=by
 grind[Lu]
def Bct {plan:List Task}:∀{k:Nat} {x:List Int},Lu plan k x=true->∃i,i<k/\x=[(nth plan i).third]:=by
 grind[Lu]
theorem Aqf {plan:List Task} {t:Truth} {lost c x:Int} (hx:0<=x):∀{k:Nat},(∀i,i<k->0<=(nth plan i).third)->Lu plan k [x]=false->nth (Fu plan t lost c k) x.toNat=0
 |0,_,_=>by
  unfold Fu nth;rw[bU,fY];split<;>trivial
 |k+1,h,hu=>by
  rw[Aqe,dW]at hu;have h3:=h k (by omega);have s7:(nth plan k).third≠x:=by grind
  unfold Fu;rw[Acn,bI (by omega)];exact Aqf hx (λi hi=>h i (by omega)) hu.1
theorem Bcu {Gl} (S:SP Gl) (w:Work) (t:Truth) (gs gc:Int) (hs:Yt t) (hp:w.plan.length<=1000) (n:Nat) (hn:n<=1000) (hf:t.fits n) (ht:Aq4 w.plan n):CR Gl 162 [Kw w,Qa t,Qb gs gc] (L eI (days w.plan t gs gc)):=by
 refine Ag S (let A6:=days w.2 t gs gc;let A5:=Work.plan w;let A2:=λ(k0:Nat)=>nth w.2 k0;let ay:=λ(k0:Nat)=>((0:Int)<=(A2 k0).3/\(A2 k0).3<(t.1.length:Int));let o7:=λ(k0:Nat)=>home A5 t k0 (A2 k0).2 (On gs gc k0 (A2 k0).2);let A9:=λ(k0:Nat)=>home A5 t k0 (A2 k0).1 (On gs gc k0 (A2 k0).1);let A7:=λ(k0:Nat)=>Int.toNat (A2 k0).3;let A4:=λ(k0:Nat)=>home w.2 t k0 (A2 k0).2 (On gs gc k0 (A2 k0).2);let A3:=λ(k0:Nat)=>home w.2 t k0 (A2 k0).1 (On gs gc k0 (A2 k0).1);let A1:=λ(k0:Nat)=>nth (Fu w.2 t gs gc k0) (Int.toNat (List.headD [(A2 k0).3] 0));let A0:=λ(k0:Nat)=>max (A3 k0) (A4 k0)+nth t.1 (A7 k0);let A8:=λ(k0:Nat)=>max (A0 k0) (A1 k0)+nth t.3 (A7 k0)+nth t.1 (A7 k0);let P0:=λ(zz:Prop)=>gs=gs/\gc=gc/\sR eI t.1/\sR eI t.2/\sR eI t.3/\sR eComp w.1.1/\sR eI w.1.2/\sR eI w.1.3/\zz;((.loop (List.length A5) (λk=>v 17 (I k)::v 16 (I (List.length A5:Int))::v 15 (L eTask A5)::tk 100 3::v 8 (Lt 100 eI (List.take k (days A5 t gs gc)))::v 7 (T.mp 13)::(2,13,T.mapc false 0 false (Lu A5 k) (Uy A5 t gs gc k))::v 5 (ad 5)::v 4 (ad 4)::v 3 (ad 3)::(bx 5 [Ci gs,Ci gc]++bx 4 (Aib t)++bx 3 (Yw w))) λk0=>.br (rs [I (A9 k0),I (o7 k0),I (max (A3 k0) (A4 k0)),I (max (A0 k0) (A1 k0))] .nil) .nil),(w.2.length<=maxLen->(lz w.2.length (sR eTask w.2/\0=0/\MEq (λx=>false) (λx=>vsC [vI 0]) (Lu w.2 0) (Uy w.2 t gs gc 0)/\P0 (sR eTask w.2)))/\∀(k0:Nat),k0<=ln A5->(dt k0 w.2.length->(ix k0 w.2.length)/\CR Gl 255 [Kw w,Qa t,I k0,I (A2 k0).1,Qb gs gc] (I (A9 k0))/\CR Gl 255 [Kw w,Qa t,I k0,I (A2 k0).2,Qb gs gc] (I (o7 k0))/\CR Gl 254 [tS 2 (gD [[Ci (A3 k0)],[Ci (A4 k0)]])] (I (max (A3 k0) (A4 k0)))/\(ay k0)/\iR (A0 k0)/\(Lu w.2 k0 [(A2 k0).3]=false->[Ci (A1 k0)]=[Ci 0])/\CR Gl 254 [tS 2 (gD [[Ci (A0 k0)],[Ci (A1 k0)]])] (I (max (A0 k0) (A1 k0)))/\((0:Int)<=(A2 k0).3/\(A2 k0).3<(t.3.length:Int))/\iR (max (A0 k0) (A1 k0)+nth t.3 (A7 k0))/\(ay k0)/\iR (A8 k0)/\cp (ln (List.take k0 A6)+1) (lq k0 (ln A5) ((w.2.length:Int)=w.2.length/\sR eTask w.2/\(SEq (ln (List.take k0 A6)+1) (An (ln (List.take k0 A6)) (λi=>eI (nth (List.take k0 A6) i)) (gD [mI (A8 k0)])) (ln (List.take (k0+1) A6)) λi=>eI (nth (List.take (k0+1) A6) i))/\MEq (Bw (Lu w.2 k0) [(A2 k0).3]) (Cr (Uy w.2 t gs gc k0) [(A2 k0).3] (mI (max (A0 k0) (A1 k0)+nth t.3 (A7 k0)))) (Lu w.2 (k0+1)) (Uy w.2 t gs gc (k0+1))/\P0 (sR eTask w.2))))/\(df k0 w.2.length->sQ eI (List.take k0 A6) A6)))) func162 ?_
 simp only[stdS,aL,aB,and_true,aN,aK,Ap,Ad,Aqd];obtain⟨f1,f2,f3⟩:=hf;have hdl:=Aq6 w.plan t gs gc;refine λ_=>⟨⟨λkey=>⟨rfl,λh=>(by cases h)⟩,trivial⟩,λk hk=>⟨λhlt=>?_,λdr=>?_⟩⟩
 ·have t8:k<w.plan.length:=by omega
  obtain⟨⟨t1,t2⟩,⟨t3,t4⟩,t5,t6⟩:=ht k t8;have a1:=Aco hs hp k (nth w.plan k).one (k==gs&&(nth w.plan k).one==gc);have a2:=Aco hs hp k (nth w.plan k).other (k==gs&&(nth w.plan k).other==gc);have a3:=hs.1 (nth w.plan k).third.toNat
  have a4:=hs.2.2 (nth w.plan k).third.toNat
  have a5:=Aq8 hs hp gs gc k (nth w.plan k).third.toNat
  have lx:=Aq7 w.plan t gs gc k;have cm:((days w.plan t gs gc).take k).length=k:=by grind
  have hd:nth (days w.plan t gs gc) k=Aq3 w.plan t gs gc k:=by grind[days,Hq,Cc]
  have c1:=Aqb S w t k (nth w.plan k).one gs gc hs hp (by omega) (by omega);have c2:=Aqb S w t k (nth w.plan k).other gs gc hs hp (by omega) (by omega);rw[Aqd]at c1 c2;simp only[List.headD_cons];refine⟨by omega,c1,c2,Aqc S _ _ a1.1 a2.1,by omega,by omega,λhu=>?_,Aqc S _ _ (by omega) a5.1,?_⟩
  ·rw[Aqf t5 (λi hi=>(ht i (by omega)).2.2.1) hu]
  repeat (refine And.intro (by omega) ?_)
  refine⟨Rr (by omega) (by rw[hd];rfl),?_,trivial⟩;intro key;refine⟨?_,λh=>.inl ?_⟩
  ·grind[Aqe,Bw,Ts]
  ·unfold Cr;cases he:eqK key [(nth w.plan k).third] with
   |true=>
    have:=Ts.1 he;subst this;have jx:Fu w.plan t gs gc (k+1)=(Fu w.plan t gs gc k).set (nth w.plan k).third.toNat (Acm w.plan t gs gc (Fu w.plan t gs gc k) k):=rfl;unfold Uy;rw[List.headD_cons,jx,Acn,bG ⟨rfl,by omega⟩]
    rfl
   |false=>
    unfold Bw at h;rw[he,iG]at h;obtain⟨i,hi,rfl⟩:=Bct h;have h5:=(ht i (by omega)).2.2.1;grind[Ts,Uy,Fu,Acn]
 ·exact Ax (by grind)
def last2 {Gl} (S:SP Gl) (x y:Int):CR Gl 254 [.d (.c (.s .n 2 λi=>[[Ci x],[Ci y]].getD i []))] (I (max (max 0 x) y)):=
 (Aqa S [x,y]).args (show SEq 2 _ 2 _ from .of ⟨rfl,λi hi=>match i,hi with
  |0,_=>rfl
  |1,_=>rfl⟩)
def Fv (sheets:List Int) (n:Int) (days:List Int):Nat->Int
 |0=>0
 |k+1=>bif nth sheets k==n then max (max 0 (Fv sheets n days k)) (nth days k) else Fv sheets n days k
theorem Bcv {Gl} (S:SP Gl) (w:Work) (n:Int) (days:List Int) (hd:w.book.sheets.length<=days.length):CR Gl 169 [Kw w,I n,L eI days] (I (Fv w.book.sheets n days w.book.sheets.length)):=by
 refine Ag S (let A1:=λ(k0:Nat)=>max (0:Int) (Fv w.1.3 n days k0);let A0:=Book.sheets (Work.book w);((.loop (List.length A0) (λk=>[v 14 (I k),v 13 (I (↑(List.length A0):Int)),v 12 (L eI A0),v 7 (I (Fv A0 n days k)),v 1 (I n),v 2 (L eI days)]) λk0=>.br (.br (rt (I (max (A1 k0) (nth days k0))) .nil) .nil) .nil),(w.1.3.length<=maxLen->(lz w.1.3.length (sR eI w.1.3/\(0:Int)=Fv w.1.3 n days 0/\n=n/\sR eI days))/\∀(k0:Nat),k0<=ln A0->(dt k0 w.1.3.length->(ix k0 w.1.3.length)/\((nth w.1.3 k0==n)=true->(ix k0 days.length)/\CR Gl 254 [tS 2 (gD [[Ci (Fv w.1.3 n days k0)],[Ci (nth days k0)]])] (I (max (A1 k0) (nth days k0)))/\lq k0 (ln A0) ((w.1.3.length:Int)=w.1.3.length/\sR eI w.1.3/\max (A1 k0) (nth days k0)=Fv w.1.3 n days (k0+1)/\n=n/\sR eI days))/\((nth w.1.3 k0==n)=false->lq k0 (ln A0) ((w.1.3.length:Int)=w.1.3.length/\sR eI w.1.3/\Fv w.1.3 n days k0=Fv w.1.3 n days (k0+1)/\n=n/\sR eI days)))/\(df k0 w.1.3.length->Fv w.1.3 n days k0=Fv w.1.3 n days w.1.3.length)))) func169 ?_;simp only[stdS,aL,aB,and_true,aN,aK,Ap,Ad];refine λ_=>⟨⟨rfl,trivial⟩,λk hk=>⟨λhl=>⟨by omega,λh=>⟨by omega,last2 S _ _,by omega,by omega,by omega,?_,trivial⟩,λh=>⟨by omega,by omega,by omega,?_,trivial⟩⟩,λhl=>?_⟩⟩
 ·rw[Fv,h];rfl
 ·rw[Fv,h];rfl
 grind
def Aqg (w:Work):List Int:=days w.plan (w.book.ends true) (-1) (-1)
def Yx (w:Work) (n:Nat):Bool:=!decide (nth w.book.dues n<Fv w.book.sheets n (Aqg w) w.book.sheets.length)
def Work.surely (w:Work):Bool:=(List.range w.book.dues.length).all (Yx w)
def und20:∃ms,Tryz.prog.underlying 20=some (.interface ms):=by
 obtain⟨d,i,z,h1,_,_,_,_,_,h7,_⟩:=yok 20 (by kernel_rfl);obtain⟨ms,rfl⟩:∃ms,d=.interface ms:=h7;grind
def k176:(Y 176).kind=.struct [(0,3),(1,174)]:=by kernel_rfl
def k418:(Y 418).kind=.struct [(0,9)]:=by kernel_rfl
def a176:(Y 176).agg=some true:=by kernel_rfl
def z176:(Y 176).zero.toArray=#[.int .i64 0,.int .i64 0]:=by kernel_rfl
def z418:(Y 418).zero.toArray=#[.string (ByteArray.mk #[])]:=by kernel_rfl
def z30:(Y 30).zero.toArray=#[.int .i64 0]:=by kernel_rfl
def s176:(Y 176).size=2:=by kernel_rfl
def s418:(Y 418).size=1:=by kernel_rfl
def Uz:(Y 176).known=true:=by kernel_rfl
def Aik:(Y 418).known=true:=by kernel_rfl
def kn30:(Y 30).known=true:=by kernel_rfl
def ev_const {a:Act} {v:Value}:a.eval (.const v)=v:=rfl
def sl2 (p q v:Value):SL { tmps:=#[p,q]++(Array.replicate 14 undef).setIfInBounds 4 v,defers:=[] } 16 (upd (λt=>#[p,q].getD t undef) 6 v) []:=by
 have:=(SL.start #[p,q] 16 (aH rfl)).put (d:=6) (by decide) v;grind[Act.put]
def catch_idle (p q:Value) (w:World):
  CallsD Tryz.prog 249 #[p,q] .returning w λe u' w'=>e=.returned (.tuple #[])/\u'=.returning/\w'=w:=by
 refine dF func249 rfl λc₀ cs hu=>?_;apply gI;apply eE;simp[wpOpsS,go_sem,recoverD,hu,Tryz.ntmps249,Exit.thenS];have S:=sl2 p q .nilIface;refine eS (fN (cE (aR ?_)));generalize ({ tmps:=#[p,q]++(Array.replicate 14 undef).setIfInBounds 4 Value.nilIface,defers:=[] }:Act)=a at S ⊢;refine Ak S (d:=8) (v:=.bool true) (w':=w) rfl (by decide) rfl ?_ λa1 S1=>?_
 ·simp[execOp,S.eval,upd,Acd und20,ev_const,eqGuard]
 refine dM (by simp[S1.eval,upd]) (aR ?_);refine Ak S1 (d:=2) (v:=.nilIface) (w':=w) rfl (by decide) rfl ?_ λa2 S2=>?_
 ·simp[execOp,S1.eval,upd]
 cases c₀;simp_all[wpList,bodyPostS,results,Tryz.results249,Exit.inBlock,S2.defers]
theorem Bcw (b1 b2:Nat) (x y:Int) (t7:List PanicEntry) (w:World) (h1:w.heap[b1]?=some (.cells #[.int .i64 0,.int .i64 0] 176 (0,0))) (h2:w.heap[b2]?=some (.cells #[.int .i64 0] 30 (0,0))) (s7:b1≠b2):
  CallsD Tryz.prog 249 #[.pointer (some ⟨b1,0,none⟩),.pointer (some ⟨b2,0,none⟩)] (.panicking ({ v:=.iface 176 (.agg #[.int .i64 x,.int .i64 y]),recovered:=false }::t7)) w λe u' w'=>
   e=.returned (.tuple #[])/\u'=.panicking ({ v:=.iface 176 (.agg #[.int .i64 x,.int .i64 y]),recovered:=true }::t7)/\Same w w'/\w'.heap[b1]?=some (.cells #[.int .i64 x,.int .i64 y] 176 (0,0))/\w'.heap[b2]?=some (.cells #[.int .i64 7] 30 (0,0))/\
   ∀b,b<w.heap.size->b≠b1->b≠b2->w'.heap[b]?=w.heap[b]?:=by
 have l1:b1<w.heap.size:=(aP.1 h1).1;have l2:b2<w.heap.size:=(aP.1 h2).1;refine dF func249 rfl λc₀ cs hu=>?_;apply gI;apply eE;simp[wpOpsS,go_sem,recoverD,hu,Tryz.ntmps249,Exit.thenS];have S:=sl2 (.pointer (some ⟨b1,0,none⟩)) (.pointer (some ⟨b2,0,none⟩)) (.iface 176 (.agg #[.int .i64 x,.int .i64 y]));refine eS (fN (cE (aR ?_)));generalize ({ tmps:=#[Value.pointer (some ⟨b1,0,none⟩),Value.pointer (some ⟨b2,0,none⟩)]++(Array.replicate 14 undef).setIfInBounds 4 (Value.iface 176 (.agg #[.int .i64 x,.int .i64 y])),defers:=[] }:Act)=a at S ⊢;refine Ak S (d:=8) (v:=.bool false) (w':=w) rfl (by decide) rfl ?_ λa1 S1=>?_
 ·simp[execOp,S.eval,upd,Pv und20,ev_const,eqGuard]
 refine dG (by simp[S1.eval,upd]) (cE (aR ?_));refine Ak S1 (d:=9) (v:=.tuple #[.agg #[.int .i64 x,.int .i64 y],.bool true]) (w':=w) rfl (by decide) rfl ?_ λa2 S2=>?_
 ·simp[execOp,S1.eval,upd,Pw (yok 176 Uz) ⟨_,k176⟩]
 refine Ak S2 (d:=10) (v:=.bool true) (w':=w) rfl (by decide) rfl ?_ λa3 S3=>?_
 ·simp[execOp,S2.eval,upd,Instr.extract]
 refine Ak S3 (d:=11) (v:=.agg #[.int .i64 x,.int .i64 y]) (w':=w) rfl (by decide) rfl ?_ λa4 S4=>?_
 ·simp[execOp,S3.eval,upd,Instr.extract]
 refine dM (by simp[S4.eval,upd]) (cE (aR ?_));have z7:=Jz (a:=a4) (w:=w) (o:={ dst:=some 3,op:=Op.alloc 176,type:=0,pos:= "give.go:102",after:=#[],guard:=none }) yok (t:=176) rfl Uz;rw[z176]at z7;refine Ak S4 (d:=3) rfl (by decide) rfl z7 λa5 S5=>?_;obtain⟨w1,il⟩:∃w1,w.alloc (.cells #[.int .i64 0,.int .i64 0] 176 (0,0))=w1:=⟨_,rfl⟩
 have dc:w.alloc (.cells #[.int .i64 0,.int .i64 0] 176)=w1:=il;rw[dc];have g1:Same w w1:=by grind[Gz]
 have g2:∀b,b<w.heap.size->w1.heap[b]?=w.heap[b]?:=λb hb=>by grind[Cm]
 have g3:w1.heap[w.heap.size]?=some (.cells #[.int .i64 0,.int .i64 0] 176 (0,0)):=by grind[World.alloc_heap_new]
 obtain⟨r1,r2,r3,r4⟩:=Ev (a:=a5) (w:=w1) (v:=.agg #[.int .i64 x,.int .i64 y]) (b:=w.heap.size) (o:={ dst:=none,op:=Op.store 176 (Operand.tmp 3) (Operand.tmp 11),type:=0,pos:= "give.go:102",after:=#[{ on:=0,ground:=Ground.data },{ on:=0,ground:=Ground.phase }],guard:=none })
  yok (t:=176) rfl Uz (by simp[S5.eval,upd]) (by simp[S5.eval,upd]) (by rw[s176];rfl) (by trivial) (by simp[Value.cells,Value.oneCell']) g3
 refine Eu S5 rfl rfl r1 λa6 S6=>?_;generalize w1.setRow w.heap.size (Value.agg #[.int .i64 x,.int .i64 y]).cells=w2 at r2 r3 r4 ⊢;refine aR ?_;refine Ak S6 (d:=12) (v:=.agg #[.int .i64 x,.int .i64 y]) (w':=w2) rfl (by decide) rfl ?_ λa7 S7=>?_
 ·exact Awb yok (b:=w.heap.size) (cur:=#[.int .i64 x,.int .i64 y]) (t:=176) rfl a176 (by simp[S6.eval,upd]) (by rw[s176];rfl) r2
 have g4:w2.heap[b1]?=some (.cells #[.int .i64 0,.int .i64 0] 176 (0,0)):=by grind
 obtain⟨q1,q2,q3,q4⟩:=Ev (a:=a7) (w:=w2) (v:=.agg #[.int .i64 x,.int .i64 y]) (b:=b1) (o:={ dst:=none,op:=Op.store 176 (Operand.tmp 0) (Operand.tmp 12),type:=0,pos:= "give.go:105",after:=#[{ on:=0,ground:=Ground.data },{ on:=0,ground:=Ground.phase }],guard:=none })
  yok (t:=176) rfl Uz (by simp[S7.eval,upd]) (by simp[S7.eval,upd]) (by rw[s176];rfl) (by trivial) (by simp[Value.cells,Value.oneCell']) g4
 refine Eu S7 rfl rfl q1 λa8 S8=>?_;generalize w2.setRow b1 (Value.agg #[.int .i64 x,.int .i64 y]).cells=w3 at q2 q3 q4 ⊢;have g5:w3.heap[b2]?=some (.cells #[.int .i64 0] 30 (0,0)):=by grind
 obtain⟨t1,t2,t3,t4⟩:=Ev (a:=a8) (w:=w3) (v:=.int .i64 7) (b:=b2) (o:={ dst:=none,op:=Op.store 30 (Operand.tmp 1) (Operand.const (Value.int .i64 7)),type:=0,pos:= "give.go:105",after:=#[{ on:=1,ground:=Ground.chain },{ on:=0,ground:=Ground.phase },{ on:=1,ground:=Ground.phase }],guard:=none })
  yok (t:=30) rfl kn30 (by simp[S8.eval,upd]) rfl (by trivial) (by trivial) (by trivial) g5
 refine Eu S8 rfl rfl t1 λa9 S9=>?_;generalize w3.setRow b2 (Value.int .i64 7).cells=w4 at t2 t3 t4 ⊢;have e1:w4.heap[b1]?=some (.cells #[.int .i64 x,.int .i64 y] 176 (0,0)):=by rw[t4 _ s7];exact q2
 have e3:∀b,b<w.heap.size->b≠b1->b≠b2->w4.heap[b]?=w.heap[b]?:=λb hb h1 h2=>by grind
 have e4:Same w w4:=((g1.trans r3).trans q3).trans t3;exact⟨S9.defers,_,rfl,.tuple #[],by simp[results,Tryz.results249],rfl,rfl,e4,e1,t2,e3⟩
theorem catch_text (b1 b2:Nat) (x:ByteArray) (t7:List PanicEntry) (w:World) (h1:w.heap[b1]?=some (.cells #[.int .i64 0,.int .i64 0] 176 (0,0))) (h2:w.heap[b2]?=some (.cells #[.int .i64 0] 30 (0,0))) (s7:b1≠b2):
  CallsD Tryz.prog 249 #[.pointer (some ⟨b1,0,none⟩),.pointer (some ⟨b2,0,none⟩)] (.panicking ({ v:=.iface 418 (.agg #[.string x]),recovered:=false }::t7)) w λe u' w'=>
   e=.returned (.tuple #[])/\u'=.panicking ({ v:=.iface 418 (.agg #[.string x]),recovered:=true }::t7)/\Same w w'/\w'.heap[b1]?=some (.cells #[.int .i64 0,.int .i64 0] 176 (0,0))/\w'.heap[b2]?=some (.cells #[.int .i64 4] 30 (0,0))/\
   ∀b,b<w.heap.size->b≠b1->b≠b2->w'.heap[b]?=w.heap[b]?:=by
 have l1:b1<w.heap.size:=(aP.1 h1).1;have l2:b2<w.heap.size:=(aP.1 h2).1;refine dF func249 rfl λc₀ cs hu=>?_;apply gI;apply eE;simp[wpOpsS,go_sem,recoverD,hu,Tryz.ntmps249,Exit.thenS];have S:=sl2 (.pointer (some ⟨b1,0,none⟩)) (.pointer (some ⟨b2,0,none⟩)) (.iface 418 (.agg #[.string x]));refine eS (fN (cE (aR ?_)));generalize ({ tmps:=#[Value.pointer (some ⟨b1,0,none⟩),Value.pointer (some ⟨b2,0,none⟩)]++(Array.replicate 14 undef).setIfInBounds 4 (Value.iface 418 (.agg #[.string x])),defers:=[] }:Act)=a at S ⊢;refine Ak S (d:=8) (v:=.bool false) (w':=w) rfl (by decide) rfl ?_ λa1 S1=>?_
 ·simp[execOp,S.eval,upd,Pv und20,ev_const,eqGuard]
 refine dG (by simp[S1.eval,upd]) (cE (aR ?_));obtain⟨z,hz⟩:=Ace (Y:=Y) (t:=176) (t':=418) (xt:=20) (v:=.agg #[.string x]) (w:=w) yok ⟨_,k176⟩ (by decide);refine Ak S1 (d:=9) (v:=.tuple #[z,.bool false]) (w':=w) rfl (by decide) rfl ?_ λa2 S2=>?_
 ·simp[execOp,S1.eval,upd,hz]
 refine Ak S2 (d:=10) (v:=.bool false) (w':=w) rfl (by decide) rfl ?_ λa3 S3=>?_
 ·simp[execOp,S2.eval,upd,Instr.extract]
 refine Ak S3 (d:=11) (v:=z) (w':=w) rfl (by decide) rfl ?_ λa4 S4=>?_
 ·simp[execOp,S3.eval,upd,Instr.extract]
 refine dG (by simp[S4.eval,upd]) (cE (aR ?_));refine Ak S4 (d:=13) (v:=.tuple #[.agg #[.string x],.bool true]) (w':=w) rfl (by decide) rfl ?_ λa5 S5=>?_
 ·simp[execOp,S4.eval,upd,Pw (yok 418 Aik) ⟨_,k418⟩]
 refine Ak S5 (d:=14) (v:=.bool true) (w':=w) rfl (by decide) rfl ?_ λa6 S6=>?_
 ·simp[execOp,S5.eval,upd,Instr.extract]
 refine Ak S6 (d:=15) (v:=.agg #[.string x]) (w':=w) rfl (by decide) rfl ?_ λa7 S7=>?_
 ·simp[execOp,S6.eval,upd,Instr.extract]
 refine dM (by simp[S7.eval,upd]) (cE (aR ?_));have z7:=Jz (a:=a7) (w:=w) (o:={ dst:=some 4,op:=Op.alloc 418,type:=0,pos:= "give.go:102",after:=#[],guard:=none }) yok (t:=418) rfl Aik;rw[z418]at z7;refine Ak S7 (d:=4) rfl (by decide) rfl z7 λa8 S8=>?_;obtain⟨w1,il⟩:∃w1,w.alloc (.cells #[.string (ByteArray.mk #[])] 418 (0,0))=w1:=⟨_,rfl⟩
 have dc:w.alloc (.cells #[.string (ByteArray.mk #[])] 418)=w1:=il;rw[dc];have g1:Same w w1:=by grind[Gz]
 have g2:∀b,b<w.heap.size->w1.heap[b]?=w.heap[b]?:=λb hb=>by grind[Cm]
 have g3:w1.heap[w.heap.size]?=some (.cells #[.string (ByteArray.mk #[])] 418 (0,0)):=by grind[World.alloc_heap_new]
 obtain⟨r1,r2,r3,r4⟩:=Ev (a:=a8) (w:=w1) (v:=.agg #[.string x]) (b:=w.heap.size) (o:={ dst:=none,op:=Op.store 418 (Operand.tmp 4) (Operand.tmp 15),type:=0,pos:= "give.go:102",after:=#[{ on:=0,ground:=Ground.data },{ on:=0,ground:=Ground.phase }],guard:=none })
  yok (t:=418) rfl Aik (by simp[S8.eval,upd]) (by simp[S8.eval,upd]) (by rw[s418];rfl) (by rw[s418];rfl) (by simp[Value.cells,Value.oneCell']) g3
 refine Eu S8 rfl rfl r1 λa9 S9=>?_;generalize w1.setRow w.heap.size (Value.agg #[.string x]).cells=w2 at r2 r3 r4 ⊢;refine aR ?_;have g5:w2.heap[b2]?=some (.cells #[.int .i64 0] 30 (0,0)):=by grind
 obtain⟨t1,t2,t3,t4⟩:=Ev (a:=a9) (w:=w2) (v:=.int .i64 4) (b:=b2) (o:={ dst:=none,op:=Op.store 30 (Operand.tmp 1) (Operand.const (Value.int .i64 4)),type:=0,pos:= "give.go:159",after:=#[{ on:=0,ground:=Ground.phase }],guard:=none })
  yok (t:=30) rfl kn30 (by simp[S9.eval,upd]) rfl (by trivial) (by trivial) (by trivial) g5
 refine Eu S9 rfl rfl t1 λqt ka=>?_;generalize w2.setRow b2 (Value.int .i64 4).cells=w4 at t2 t3 t4 ⊢;have e1:w4.heap[b1]?=some (.cells #[.int .i64 0,.int .i64 0] 176 (0,0)):=by grind
 have e3:∀b,b<w.heap.size->b≠b1->b≠b2->w4.heap[b]?=w.heap[b]?:=λb hb h1 h2=>by grind
 have e4:Same w w4:=(g1.trans r3).trans t3;exact⟨ka.defers,_,rfl,.tuple #[],by simp[results,Tryz.results249],rfl,rfl,e4,e1,t2,e3⟩
def Bcx:Tryz.prog.built 176 []=some #[.int .i64 0,.int .i64 0]:=by kernel_rfl
def attV:Ending->Value
 | .panicked [{ v:=.iface 176 x,.. }]=>.tuple #[x,.int .i64 7]
 | .panicked [{ v:=.iface 418 _,.. }]=>.tuple #[.agg #[.int .i64 0,.int .i64 0],.int .i64 4]
 |_=>.tuple #[.agg #[.int .i64 0,.int .i64 0],.int .i64 0]
def attW (w:World):World:=(w.alloc (.cells #[.int .i64 0,.int .i64 0] 176 (0,0))).alloc (.cells #[.int .i64 0] 30 (0,0))
structure AttOK (w w':World) (en:Ending):Prop where
 one:w'.heap[w.heap.size]?=some (.cells #[.int .i64 0,.int .i64 0] 176 (0,0))
 two:w'.heap[w.heap.size+1]?=some (.cells #[.int .i64 0] 30 (0,0))
 en:en=.returned (.tuple #[])∨(∃x y,en=.panicked [{ v:=.iface 176 (.agg #[.int .i64 x,.int .i64 y]),recovered:=false }])∨∃s,en=.panicked [{ v:=.iface 418 (.agg #[.string s]),recovered:=false }]
def att_results {a:Act} {w:World} {b1 b2:Nat} {cs:Array Value} {x:Value} (h1:a.tmps.getD 2 undef=.pointer (some ⟨b1,0,none⟩)) (h2:a.tmps.getD 3 undef=.pointer (some ⟨b2,0,none⟩)) (hc:cs.size=2)
  (g1:w.heap[b1]?=some (.cells cs 176 (0,0))) (g2:w.heap[b2]?=some (.cells #[x] 30 (0,0))):(results Tryz.f159 a.tmps).run Tryz.prog w=.ok (.tuple #[.agg cs,x]) w:=by
 have l1:=Jv yok a176 (w:=w) (b:=b1) (off:=0) (us:=cs.toList) (by trivial) λj u hj=>by
  grind[World.cell?]
 have l2:=Nt yok (t:=30) (by kernel_rfl) (w:=w) (b:=b2) (off:=0) (u:=x) (by simp[World.cell?,g2]);have he:Tryz.f159.results.mapM (Bd a.tmps)=List.toArray <$> Tryz.f159.results.toList.mapM (Bd a.tmps):=cT ..;have iw:results Tryz.f159 a.tmps=(Tryz.f159.results.mapM (Bd a.tmps) >>= λvs=>pure (if h:vs.size=1 then vs[0] else .tuple vs)):=rfl;have d7:([ResultVar.cell 2 176,ResultVar.cell 3 30].mapM (Bd a.tmps)).run Tryz.prog w=.ok [.agg cs,x] w:=by
  have r1:(Bd a.tmps (.cell 2 176)).run Tryz.prog w=.ok (.agg cs) w:=by simp[Bd,h1,asAddr,l1]
  have r2:(Bd a.tmps (.cell 3 30)).run Tryz.prog w=.ok x w:=by grind[Bd,asAddr]
  rw[Oe,r1,bK,Oe,r2,bK];simp
 grind[Tryz.results159,Sem.run_bind,Sem.run_map,Result.andThen_ok,Sem.run_pure]
theorem attempt_calls (g:FuncId) (hg:Ha Tryz.prog g) (us vs:Array Value) (w:World) (R:Ending->World->Prop) (m6:Calls Tryz.prog g (us++vs) (attW w) R) (hR:∀en w',R en w'->AttOK w w' en):
  Calls Tryz.prog 159 #[.func (.func g) us vs] w λen gr=>∃bc w',R bc w'/\Same w' gr/\(∀b,b<w'.heap.size->b≠w.heap.size->b≠w.heap.size+1->gr.heap[b]?=w'.heap[b]?)/\en=.returned (attV bc):=by
 go_enter_defers func159,Tryz.ntmps159
 have S:SL { tmps:=#[Value.func (Fn.func g) us vs,undef,undef,undef,undef,undef,undef,undef],defers:=[] } 8 (λt=>#[Value.func (Fn.func g) us vs].getD t undef) []:=by
  exact SL.start #[Value.func (Fn.func g) us vs] 8 (aH rfl)
 generalize ({ tmps:=#[Value.func (Fn.func g) us vs,undef,undef,undef,undef,undef,undef,undef],defers:=[] }:Act)=a at S ⊢;refine cE (aR ?_);have z7:=Jz (a:=a) (w:=w) (o:={ dst:=some 2,op:=Op.alloc 176,type:=0,pos:= "give.go:100",after:=#[],guard:=none }) yok (t:=176) rfl Uz;rw[z176]at z7;refine Ak S (d:=2) rfl (by decide) rfl z7 λa1 S1=>?_;have z7:=Jz (a:=a1) (w:=w.alloc (.cells #[.int .i64 0,.int .i64 0] 176 (0,0))) (o:={ dst:=some 3,op:=Op.alloc 30,type:=0,pos:= "give.go:100",after:=#[],guard:=none }) yok (t:=30) rfl kn30;rw[z30,eC]at z7;refine Ak S1 (d:=3) rfl (by decide) rfl z7 λa2 S2=>?_
 show Code.wp Tryz.prog _ _ a2 (attW w)
 generalize il:attW w=w1 at m6 ⊢;refine cE (aR ?_);refine Ak S2 (d:=4) (v:=.func (.func 249) #[] #[.pointer (some ⟨w.heap.size,0,none⟩),.pointer (some ⟨w.heap.size+1,0,none⟩)]) (w':=w1) rfl (by decide) rfl ?_ λa3 S3=>?_
 ·simp[execOp,S2.eval,upd,Instr.makeFunc]
 refine Abh S3 (d:={ target:=.fn (.func 249) #[.pointer (some ⟨w.heap.size,0,none⟩),.pointer (some ⟨w.heap.size+1,0,none⟩)],args:=#[] }) rfl rfl ?_ λa4 S4=>?_
 ·simp[execOp,resolve,S3.eval,upd,Deferred.ofValue]
 refine cE (aR ?_);refine Ak S4 (d:=5) (v:=.func (.func g) us vs) (w':=w1) rfl (by decide) rfl ?_ λa5 S5=>?_
 ·simp[execOp,S4.eval,upd]
 have fx:∀(p q:Value) (w:World),(invoke (.fn (.func 249) #[p,q]) #[]).run Tryz.prog w=.ok (.enter 249 #[p,q]) w:=λp q w=>by
  have h2:(Tryz.f249.name== "runtime.NumGoroutine")=false:=by trivial
  have h3:Tryz.f249.body.isNone=false:=by trivial
  have fm:Tryz.f249.name≠ "runtime.NumGoroutine":=by trivial
  have mv:Tryz.f249.body≠none:=by trivial
  simp[invoke,callFunc,func249,fm,mv]
 refine Xx S5 (d:=6) (g:=g) (vs:=us++vs) (R:=R) rfl (by decide) rfl ?_ m6 (λv w2 hr a6 S6=>?_) (λch w2 hr=>?_) (λw2 hr=>?_)
 ·have:=Rb (P:=Tryz.prog) (a:=a5) (w:=w1) (o:={ dst:=some 6,op:=Op.call { callee:=Callee.value (Operand.tmp 5),args:=#[],argTypes:=#[] },type:=0,pos:= "give.go:112",after:=#[{ on:=0,ground:=Ground.data }],guard:=none }) rfl (by simp[S5.eval,upd]) hg (us:=us) (cvs:=vs);grind
 ·obtain⟨c1,c2,c3⟩:=hR _ _ hr;have l1:w.heap.size<w2.heap.size:=(aP.1 c1).1;have l2:w.heap.size+1<w2.heap.size:=(aP.1 c2).1;refine cE (aR ?_);refine Ak S6 (d:=7) (v:=.agg #[.int .i64 0,.int .i64 0]) (w':=w2) rfl (by decide) rfl ?_ λa7 S7=>?_
  ·simp[execOp,iN (P:=Tryz.prog) w2 176 #[] _ Bcx]
  obtain⟨q1,q2,q3,q4⟩:=Ev (a:=a7) (w:=w2) (v:=.agg #[.int .i64 0,.int .i64 0]) (b:=w.heap.size) (o:={ dst:=none,op:=Op.store 176 (Operand.tmp 2) (Operand.tmp 7),type:=0,pos:= "give.go:113",after:=#[{ on:=0,ground:=Ground.data },{ on:=0,ground:=Ground.phase }],guard:=none })
   yok (t:=176) rfl Uz (by simp[S7.eval,upd]) (by simp[S7.eval,upd]) (by trivial) (by trivial) (by trivial) c1
  refine Eu S7 rfl rfl q1 λa8 S8=>?_;generalize w2.setRow w.heap.size (Value.agg #[.int .i64 0,.int .i64 0]).cells=w3 at q2 q3 q4 ⊢;have g5:w3.heap[w.heap.size+1]?=some (.cells #[.int .i64 0] 30 (0,0)):=by grind
  obtain⟨t1,t2,t3,t4⟩:=Ev (a:=a8) (w:=w3) (v:=.int .i64 0) (b:=w.heap.size+1) (o:={ dst:=none,op:=Op.store 30 (Operand.tmp 3) (Operand.const (Value.int .i64 0)),type:=0,pos:= "give.go:113",after:=#[{ on:=1,ground:=Ground.chain },{ on:=0,ground:=Ground.phase },{ on:=1,ground:=Ground.phase }],guard:=none })
   yok (t:=30) rfl kn30 (by simp[S8.eval,upd]) rfl (by trivial) (by trivial) (by trivial) g5
  refine Eu S8 rfl rfl t1 λa9 S9=>?_;generalize w3.setRow (w.heap.size+1) (Value.int .i64 0).cells=w4 at t2 t3 t4 ⊢;refine wp_ret ?_
  show Leaves Tryz.prog Tryz.f159 a9.tmps _ a9.defers .returning w4
  rw[S9.defers];refine fO (by simp) (fx _ _ w4) ((catch_idle _ _ w4).mono ?_);rintro e u' w5 ⟨rfl,rfl,rfl⟩;have r1:=att_results (a:=a9) (w:=w5) (b1:=w.heap.size) (b2:=w.heap.size+1) (by rw[S9.get 2 (by decide)];simp[upd]) (by rw[S9.get 3 (by decide)];simp[upd]) rfl (by rw[t4 _ (by omega)];exact q2) t2;refine⟨_,r1,_,_,hr,q3.trans t3,λb hb h1 h2=>by grind,?_⟩;rcases c3 with h|⟨_,_,h⟩|⟨_,h⟩<;>cases h
  rfl
 ·obtain⟨c1,c2,c3⟩:=hR _ _ hr;have l1:w.heap.size<w2.heap.size:=(aP.1 c1).1;have l2:w.heap.size+1<w2.heap.size:=(aP.1 c2).1
  show Leaves Tryz.prog Tryz.f159 a5.tmps _ a5.defers (.panicking ch) w2
  rw[S5.defers];refine fO (by simp) (fx _ _ w2) ?_;have e1:a5.tmps.getD 2 undef=.pointer (some ⟨w.heap.size,0,none⟩):=by rw[S5.get 2 (by decide)];simp[upd]
  have e2:a5.tmps.getD 3 undef=.pointer (some ⟨w.heap.size+1,0,none⟩):=by rw[S5.get 3 (by decide)];simp[upd]
  rcases c3 with h|⟨x,y,h⟩|⟨s,h⟩
  ·cases h
  ·obtain rfl:ch=[{ v:=.iface 176 (.agg #[.int .i64 x,.int .i64 y]),recovered:=false }]:=dC h;refine (Bcw _ _ x y [] w2 c1 c2 (by omega)).mono ?_;rintro e u' w5 ⟨rfl,rfl,g1,g2,g3,g4⟩;have r1:=att_results (a:=a5) (w:=w5) e1 e2 rfl g2 g3;exact⟨_,r1,_,_,hr,g1,g4,rfl⟩
  ·obtain rfl:ch=[{ v:=.iface 418 (.agg #[.string s]),recovered:=false }]:=dC h;refine (catch_text _ _ s [] w2 c1 c2 (by omega)).mono ?_;rintro e u' w5 ⟨rfl,rfl,g1,g2,g3,g4⟩;have r1:=att_results (a:=a5) (w:=w5) e1 e2 rfl g2 g3;exact⟨_,r1,_,_,hr,g1,g4,rfl⟩
 ·obtain⟨_,_,c3⟩:=hR _ _ hr;grind
variable {Gl:World->Prop}
inductive AttR:Res->List D->Prop
 |ok:AttR (.ret (.tup [])) [.agg [Ci 0,Ci 0],.c (Ci 0)]
 |foul (x y:Int):AttR (.pan (.iface 176 (.agg #[.int .i64 x,.int .i64 y]))) [.agg [Ci x,Ci y],.c (Ci 7)]
 |text (s:ByteArray):AttR (.pan (.iface 418 (.agg #[.string s]))) [.agg [Ci 0,Ci 0],.c (Ci 4)]
theorem attW_size (w:World):(attW w).heap.size=w.heap.size+2:=by simp[attW,eC]
theorem attW_lt (w:World) {b:Nat} (h:b<w.heap.size):(attW w).heap[b]?=w.heap[b]?:=by
 grind[attW,Cm]
def attW_same (w:World):Same w (attW w):=(Gz _ _).trans (Gz _ _)
theorem attW_one (w:World):(attW w).heap[w.heap.size]?=some (.cells #[.int .i64 0,.int .i64 0] 176 (0,0)):=by
 grind[attW,Cm,World.alloc_heap_new]
def Bcy (w:World):(attW w).heap[w.heap.size+1]?=some (.cells #[.int .i64 0] 30 (0,0)):=by
 grind[attW,World.alloc_heap_new,World.size_alloc]
def attW_keep {vis:Nat->Nat} {w:World} (h:∀b,w.heap.size<=b->vis b=0):KeepV vis w (attW w):=
 ⟨λb i hi=>bF (attW_lt w (by
  grind)),λb hb es c he=>by grind[attW_lt],Me λb h=>attW_lt w h⟩
def att_ret {base:Nat} {vis:Nat->Nat} {w:World} (x y e:Int):Kj base vis w (.tup [.agg [Ci x,Ci y],.c (Ci e)]) (.tuple #[.agg #[.int .i64 x,.int .i64 y],.int .i64 e]):=by
 refine⟨_,rfl,rfl,λj d v hd hv=>?_⟩
 match j,hd,hv with
 |0,hd,hv=>
  simp at hd hv;subst hd;subst hv;refine⟨_,rfl,rfl,λj c u hc hu=>?_⟩
  match j,hc,hu with
  |0,hc,hu=>simp at hc hu;subst hc;subst hu;exact .v _ rfl
  |1,hc,hu=>simp at hc hu;subst hc;subst hu;exact .v _ rfl
  |j+2,hc,hu=>simp at hc
 |1,hd,hv=>simp at hd hv;subst hd;subst hv;exact Rep.v _ rfl
 |j+2,hd,hv=>simp at hd
def Acq (S:Set Tryz.prog Y Gl) {g:FuncId} {fst f8:List T} {r:Res} {ds:List D} (h:CO Gl g (fst++f8) r) (ha:AttR r ds):CR Gl 159 [.fn g fst f8] (.tup ds):=by
 refine⟨⟨_,func159,(by kernel_rfl),by kernel_rfl⟩,λvis w vs d8 cb f7=>?_⟩;simp only[Ac,Aa]at f7;obtain⟨v,vs1,ai,⟨us,cvs,rfl,hu,hc⟩,rfl⟩:=f7;obtain rfl:vs=#[.func (.func g) us cvs]:=by grind
 have hb:Below w.heap.size w (attW w):=⟨(attW_same w).os,(attW_same w).tape,(attW_same w).output,(attW_same w).size,λk hk=>attW_lt w hk⟩
 have m7:Ext (Lo w.heap.size) (Gh0 vis) (Gh0 vis) w (attW w):=⟨λ_=>aI _,attW_keep d8,λb hb=>attW_lt w hb⟩
 have da:Ac (Gh0 vis) (attW w) (Lo (attW w).heap.size) (fst++f8) (us++cvs).toList:=by
  rw[eA];exact Ac.weak (λb hb=>by grind[attW_size,Lo]) ((Ac.mono m7 (λ_ _=>rfl) hu).app (Ac.mono m7 (λ_ _=>rfl) hc))
 have m6:=h.2 vis (attW w) (us++cvs) (λb hb=>d8 b (by grind[attW_size])) (S.gl _ _ cb hb) da;refine (attempt_calls g h.1 us cvs w _ m6 λen w' ⟨gi,fk⟩=>⟨?_,?_,?_⟩).mono ?_
 ·rw[gi.block _ (by rw[attW_size];omega)];exact attW_one w
 ·rw[gi.block _ (by rw[attW_size];omega)];exact Bcy w
 ·cases ha with
  |ok=>
   obtain⟨v,vis',rfl,_,_,vs,rfl,hr⟩:=fk;obtain rfl:vs=#[]:=by
    have:=hr.1;grind
   grind
  |foul x y=>exact .inr (.inl ⟨x,y,fk⟩)
  |text s=>exact .inr (.inr ⟨s,fk⟩)
 ·rintro en w2 ⟨bc,w',⟨gi,fk⟩,hs,hh,rfl⟩;have j9:w.heap.size<=w2.heap.size:=by
   have h1:=gi.size;have h2:=hs.size;rw[attW_size]at h1;omega
  refine⟨⟨hs.os.trans (gi.os.trans hb.os),hs.tape.trans (gi.tape.trans hb.tape),hs.output.trans (gi.output.trans hb.output),j9,λk hk=>?_⟩,_,vis,rfl,λ_ _=>rfl,λb hb=>d8 b (by omega),?_⟩
  ·have h1:=gi.size;rw[attW_size]at h1;rw[hh k (by omega) (by omega) (by omega),gi.block k (by rw[attW_size];omega),attW_lt w hk]
  ·cases ha with
   |ok=>
    obtain⟨v,vis',rfl,_⟩:=fk;exact att_ret 0 0 0
   |foul x y=>
    have fk:bc=_:=fk;subst fk;exact att_ret x y 7
   |text s=>
    have fk:bc=_:=fk;subst fk;exact att_ret 0 0 4
def Va (b:Book) (x:Task):List C:=[.l eComp b.comps,.l eI b.dues,.l eI b.sheets,Ci x.one,Ci x.other,Ci x.third]
def Aqh {Gl} (S:SP Gl) (b:Book) (x:Task):CR Gl 250 [.d (.agg (Va b x))] (B (!(b.isComp x.one&&b.isComp x.other&&b.isComp x.third))):=by
 refine Ag S (let A3:=!Book.isComp b x.1;let A1:=eqB A3 false=true->eqB A3 false=true;let A0:=bif !Book.isComp b x.1 then true else !Book.isComp b x.2;let A2:=eqB A0 false=true->eqB A0 false=true;((rs [B (Book.isComp b x.1),B (Book.isComp b x.2),B (Book.isComp b x.3)] .nil),(CR Gl 323 [tBook b,I x.1] (B (Book.isComp b x.1))/\A1/\A1/\A1/\A1/\A1/\(eqB A3 false=true->CR Gl 323 [tBook b,I x.2] (B (Book.isComp b x.2)))/\A1/\(A3=false->eqB A3 false=true)/\A2/\A2/\A2/\A2/\A2/\(eqB A0 false=true->CR Gl 323 [tBook b,I x.3] (B (Book.isComp b x.3)))/\A2/\(A0=false->eqB A0 false=true)/\(bif bif !Book.isComp b x.1 then true else !Book.isComp b x.2 then true else !Book.isComp b x.3)=!(Book.isComp b x.1&&Book.isComp b x.2&&Book.isComp b x.3)))) func250 ?_;simp only[stdS,aL,aB,and_true,Bcc S b];grind
def Aqi {Gl} (S:SP Gl) (b:Book) (x:Task):CR Gl 251 [.d (.agg (Va b x))] (B (x.one==x.other||x.one==x.third||x.other==x.third)):=by
 refine Ag S (let A2:=bif x.1==x.2 then true else x.1==x.3;let A1:=eqB (x.1==x.2) false=true->eqB (x.1==x.2) false=true;let A0:=eqB A2 false=true->eqB A2 false=true;((.nil),(A1/\A1/\A1/\A1/\A1/\A1/\((x.1==x.2)=false->eqB (x.1==x.2) false=true)/\A0/\A0/\A0/\A0/\A0/\A0/\(A2=false->eqB A2 false=true)/\(bif bif x.1==x.2 then true else x.1==x.3 then true else x.2==x.3)=(x.1==x.2||x.1==x.3||x.2==x.3)))) func251 ?_;dsimp only;grind[Yc]
def Aqj {Gl} (S:SP Gl) (b:Book) (x:Task):CR Gl 252 [.d (.agg (Va b x))] (B (decide (x.other<x.one))):=by
 refine Ao S .nil (decide (x.2<x.1)=decide (x.2<x.1)) func252 ?_
 rfl
def Aqk {Gl} (S:SP Gl) (b:Book) (x:Task) (h1:b.isComp x.one=true) (h2:b.isComp x.other=true):CR Gl 253 [.d (.agg (Va b x))] (B ((nth b.comps x.one.toNat).room==(nth b.comps x.other.toNat).room)):=by
 refine Ag S (let A0:=(nth b.1 (Int.toNat x.1)).1==(nth b.1 (Int.toNat x.2)).1;((.nil),(((0:Int)<=x.1/\x.1<(b.1.length:Int))/\((0:Int)<=x.2/\x.2<(b.1.length:Int))/\A0=A0))) func253 ?_;dsimp only;grind[Book.isComp,Bi]
def Ail {Gl} (S:SP Gl) (b:Book) (s:Int) (x:Task) (hf:b.fault x=0):CR Gl 161 [tBook b,I s,Rz x] (.tup []):=by
 refine Ag S (let A8:=x.1==x.2||x.1==x.3||x.2==x.3;let A6:=(nth b.1 (Int.toNat x.1)).1==(nth b.1 (Int.toNat x.2)).1;let A5:=!(Book.isComp b x.1&&Book.isComp b x.2&&Book.isComp b x.3);let A4:=B (decide (Task.other (Task.mk x.1 x.2 x.3)<Task.one (Task.mk x.1 x.2 x.3)));let A0:=Task.mk x.1 x.2 x.3;let A7:=[tA (Va b A0)];let A3:=B (Task.one A0==Task.other A0||Task.one A0==Task.third A0||Task.other A0==Task.third A0);let A2:=B !(Book.isComp b (Task.one A0)&&Book.isComp b (Task.other A0)&&Book.isComp b (Task.third A0));let A1:=B (Comp.room (nth (Book.comps b) (Int.toNat (Task.one A0)))==Comp.room (nth (Book.comps b) (Int.toNat (Task.other A0))));((.un 5 (.tt (rt A2 (.br .nil (.tt (rt A3 (.br .nil (.tt (rt A4 (.br .nil (.tt (rt A1 (.br .nil (.ff .nil)))))))))))))),(true=true/\CR Gl 250 A7 A2/\(A5=true->False)/\(A5=false->iR ((1:Int)+1)/\true=true/\CR Gl 251 A7 A3/\(A8=true->False)/\(A8=false->iR ((1:Int)+1+1)/\true=true/\CR Gl 252 A7 A4/\(decide (x.2<x.1)=true->False)/\(decide (x.2<x.1)=false->iR ((1:Int)+1+1+1)/\true=true/\CR Gl 253 A7 A1/\(A6=true->False)/\(A6=false->iR ((1:Int)+1+1+1+1)/\false=false/\True))))))) func161 ?_;dsimp only;have c1:=Aqh S b x;have c2:=Aqi S b x;have c3:=Aqj S b x;have c4:=Aqk S b x;obtain⟨⟨a1,a2,a3⟩,⟨n1,n2,n3⟩,le,rm⟩:=Aq5 hf;refine⟨rfl,c1,λh=>?_,λ_=>⟨(Ad _).2 (by decide),rfl,c2,λh=>?_,λ_=>⟨(Ad _).2 (by decide),rfl,c3,λh=>?_,λ_=>⟨(Ad _).2 (by decide),rfl,c4 a1 a2,λh=>?_,λ_=>⟨(Ad _).2 (by decide),rfl,trivial⟩⟩⟩⟩⟩
 ·grind
 ·grind
 ·grind
 grind
def Aql {Gl} (S:SP Gl) (b:Book) (s:Int) (x:Task) (hf:b.fault x≠0):CO Gl 161 [tBook b,I s,Rz x] (.pan (.iface 176 (.agg #[.int .i64 s,.int .i64 (b.fault x)]))):=by
 refine Ag S (let A9:=x.1==x.2||x.1==x.3||x.2==x.3;let A7:=(nth b.1 (Int.toNat x.1)).1==(nth b.1 (Int.toNat x.2)).1;let A6:=!(Book.isComp b x.1&&Book.isComp b x.2&&Book.isComp b x.3);let A5:=B (decide (Task.other (Task.mk x.1 x.2 x.3)<Task.one (Task.mk x.1 x.2 x.3)));let A1:=Value.agg (Array.mk [vI s,vI (Book.fault b x)]);let A0:=Task.mk x.1 x.2 x.3;let A8:=[tA (Va b A0)];let A4:=B (Task.one A0==Task.other A0||Task.one A0==Task.third A0||Task.other A0==Task.third A0);let A3:=B !(Book.isComp b (Task.one A0)&&Book.isComp b (Task.other A0)&&Book.isComp b (Task.third A0));let A2:=B (Comp.room (nth (Book.comps b) (Int.toNat (Task.one A0)))==Comp.room (nth (Book.comps b) (Int.toNat (Task.other A0))));((.un 5 (.tt (rt A3 (.br .nil (.tt (rt A4 (.br .nil (.tt (rt A5 (.br .nil (.tt (rt A2 (.br .nil (.ff .nil)))))))))))))),(true=true/\CR Gl 250 A8 A3/\(A6=true->Value.iface 176 (Value.agg (Array.mk [vI s,vI 1]))=Value.iface 176 A1)/\(A6=false->iR ((1:Int)+1)/\true=true/\CR Gl 251 A8 A4/\(A9=true->Value.iface 176 (Value.agg (Array.mk [vI s,vI ((1:Int)+1)]))=Value.iface 176 A1)/\(A9=false->iR ((1:Int)+1+1)/\true=true/\CR Gl 252 A8 A5/\(decide (x.2<x.1)=true->Value.iface 176 (Value.agg (Array.mk [vI s,vI ((1:Int)+1+1)]))=Value.iface 176 A1)/\(decide (x.2<x.1)=false->iR ((1:Int)+1+1+1)/\true=true/\CR Gl 253 A8 A2/\(A7=true->Value.iface 176 (Value.agg (Array.mk [vI s,vI ((1:Int)+1+1+1)]))=Value.iface 176 A1)/\(A7=false->iR ((1:Int)+1+1+1+1)/\false=false/\False))))))) func161 ?_
 dsimp only;have c1:=Aqh S b x;have c2:=Aqi S b x;have c3:=Aqj S b x;have c4:=Aqk S b x;have e:∀y,b.fault x=y->Value.iface 176 (.agg #[.int .i64 s,.int .i64 y])=Value.iface 176 (.agg #[.int .i64 s,.int .i64 (b.fault x)]):=λy h=>by rw[h]
 have hb:b.fault x=(bif !(b.isComp x.one&&b.isComp x.other&&b.isComp x.third) then 1
  else bif x.one==x.other||x.one==x.third||x.other==x.third then 2
  else bif decide (x.other<x.one) then 3
  else bif (nth b.comps x.one.toNat).room==(nth b.comps x.other.toNat).room then 4 else 0):=rfl
 refine⟨rfl,c1,λh=>e _ ?_,λh1=>⟨(Ad _).2 (by decide),rfl,c2,λh=>e _ ?_,λh2=>⟨(Ad _).2 (by decide),rfl,c3,λh=>e _ ?_,λh3=>⟨(Ad _).2 (by decide),rfl,c4 ?_ ?_,λh=>e _ ?_,λh4=>?_⟩⟩⟩⟩
 ·grind
 ·grind
 ·grind
 ·grind
 ·grind
 ·grind
 grind
def Sa (f:Int):Int:=bif f==0 then 0 else 7
def Bcz {Gl} (S:SP Gl) (b:Book) (x:Task) (hf:b.fault x=0):CR Gl 262 [.d (.rd (cBook b)),.d (.rd (eTask x))] (.tup []):=by
 refine Ao S (rt (.tup []) .nil) (CR Gl 161 [tBook b,I 0,Rz (Task.mk x.1 x.2 x.3)] (.tup [])/\True) func262 ?_;exact⟨Ail S b 0 x hf,trivial⟩
def Bd0 {Gl} (S:SP Gl) (b:Book) (x:Task) (hf:b.fault x≠0):CO Gl 262 [.d (.rd (cBook b)),.d (.rd (eTask x))] (.pan (.iface 176 (.agg #[.int .i64 0,.int .i64 (b.fault x)]))):=by
 refine Ag S (let A1:=Task.mk x.1 x.2 x.3;let A0:=Res.pan (Value.iface 176 (Value.agg #[vI 0,vI (Book.fault b A1)]));((.r A0 .nil),(CO Gl 161 [tBook b,I 0,Rz A1] A0/\Value.iface 176 (Value.agg (Array.mk [vI 0,vI (Book.fault b A1)]))=Value.iface 176 (Value.agg (Array.mk [vI 0,vI (Book.fault b x)]))))) func262 ?_;dsimp only;exact⟨Aql S b 0 x hf,rfl⟩
def Bd1 {Gl} (S:SP Gl) (b:Book) (x:Task):CR Gl 159 [.fn 262 [] [.d (.rd (cBook b)),.d (.rd (eTask x))]] (.tup [.agg [Ci 0,Ci (b.fault x)],.c (Ci (Sa (b.fault x)))]):=by
 by_cases h:b.fault x=0
 ·have:=Acq S (fst:=[]) (Bcz S b x h) .ok;rw[h];exact this
 ·have:=Acq S (fst:=[]) (Bd0 S b x h) (.foul 0 (b.fault x));grind[Sa]
def Bd2 {b:Book} {plan:List Task} (h:b.isWhy plan=false):∀i,i<plan.length->b.fault (nth plan i)=0:=λi hi=>by
 grind[Book.isWhy,Fj]
def Bd3 {b:Book} {plan:List Task} (h:b.isWhy plan=true):b.why plan<plan.length/\b.fault (nth plan (b.why plan))≠0/\b.why1 plan=b.why plan/\b.why2 plan=b.fault (nth plan (b.why plan)):=by
 have hlt:b.why plan<plan.length:=by
  rcases bL (b.why plan) plan.length with hl|hl
  ·exact hl
  ·have:=Jg (p:=λt=>b.fault t==0) (l:=plan) hl;grind[Book.isWhy]
 refine⟨hlt,λh0=>?_,?_,?_⟩
 ·have:=Abt (p:=λt=>b.fault t==0) hlt;rw[dN]at this;trivial
 ·grind[Book.why1]
 grind[Book.why2]
def Bd4 {b:Book} {plan:List Task} {i:Nat} (h:i<b.why plan):b.fault (nth plan i)=0:=by
 have:=Io (p:=λt=>b.fault t==0) h;grind
def Bd5 {Gl} (S:SP Gl) (b:Book) (plan:List Task) (hf:b.isWhy plan=false):CR Gl 160 [.d (.rd [.l eTask plan]),.d (.rd (cBook b))] (.tup []):=by
 refine Ao S (.loop plan.length (λk=>[v 6 (I k),v 5 (I plan.length),v 4 (L eTask plan),v 1 (T.d (D.rd (cBook b)))]) λk0=>.br (rt (.tup []) .nil) .nil) (plan.length<=maxLen->(lz plan.length (sR eTask plan/\sR eComp b.1/\sR eI b.2/\sR eI b.3))/\∀(k0:Nat),k0<=plan.length->(dt k0 plan.length->(ix k0 plan.length)/\CR Gl 161 [tBook b,I k0,Rz (Task.mk (nth plan k0).1 (nth plan k0).2 (nth plan k0).3)] (.tup [])/\lq k0 plan.length ((plan.length:Int)=plan.length/\sR eTask plan/\sR eComp b.1/\sR eI b.2/\sR eI b.3))/\(df k0 plan.length->True)) func160 ?_;simp only[stdS,aL,aB,and_true,aN,aK,Ap,Ad];refine λ_ k hk=>⟨λhl=>⟨by omega,Ail S b k _ (Bd2 hf k (by omega)),by omega,by omega,by omega,trivial⟩,trivial⟩
def Bd6 {Gl} (S:SP Gl) (b:Book) (plan:List Task) (hf:b.isWhy plan=true):CO Gl 160 [.d (.rd [.l eTask plan]),.d (.rd (cBook b))] (.pan (.iface 176 (.agg #[.int .i64 (b.why1 plan),.int .i64 (b.why2 plan)]))):=by
 refine Ag S (let A0:=λ(k0:Nat)=>Task.mk (nth plan k0).1 (nth plan k0).2 (nth plan k0).3;let A1:=λ(k0:Nat)=>Res.pan (Value.iface 176 (Value.agg #[vI k0,vI (Book.fault b (A0 k0))]));((.loop (Book.why b plan) (λk=>[v 6 (I k),v 5 (I plan.length),v 4 (L eTask plan),v 1 (T.d (D.rd (cBook b)))]) λk0=>.ite (decide (k0<Book.why b plan)) (.br (rt (.tup []) .nil) .nil) (.br (.r (A1 k0) .nil) .nil)),(plan.length<=maxLen->(lz plan.length (sR eTask plan/\sR eComp b.1/\sR eI b.2/\sR eI b.3))/\∀(k0:Nat),k0<=Book.why b plan->(decide (k0<Book.why b plan)=true->(dt k0 plan.length->(ix k0 plan.length)/\CR Gl 161 [tBook b,I k0,Rz (A0 k0)] (.tup [])/\lq k0 (Book.why b plan) ((plan.length:Int)=plan.length/\sR eTask plan/\sR eComp b.1/\sR eI b.2/\sR eI b.3))/\(df k0 plan.length->False))/\(decide (k0<Book.why b plan)=false->(dt k0 plan.length->(ix k0 plan.length)/\CO Gl 161 [tBook b,I k0,Rz (A0 k0)] (A1 k0)/\Value.iface 176 (Value.agg (Array.mk [vI k0,vI (Book.fault b (A0 k0))]))=Value.iface 176 (Value.agg (Array.mk [vI (Book.why1 b plan),vI (Book.why2 b plan)])))/\(df k0 plan.length->False))))) func160 ?_;simp only[stdS,aL,aB,and_true,aN,aK,Ap,Ad];obtain⟨w1,w2,w3,w4⟩:=Bd3 hf;refine λ_ k hk=>⟨λhw=>⟨λhl=>⟨by omega,Ail S b k _ (Bd4 hw),by omega,by omega,by omega,trivial⟩,λhl=>by omega⟩,λhw=>⟨λhl=>?_,λhl=>by omega⟩⟩
 have bf:k=b.why plan:=by omega
 subst bf;refine⟨by omega,Aql S b _ _ w2,?_⟩;rw[w3,w4]
def Iu (b:Book) (plan:List Task):Int:=bif b.ok&&plan.length==b.sheets.length then (bif b.isWhy plan then 7 else 0) else 2
def Acr (b:Book) (plan:List Task):Work:=bif b.ok&&plan.length==b.sheets.length then ⟨b,plan⟩ else ⟨⟨[],[],[]⟩,[]⟩
def Sb (b:Book) (plan:List Task):Int:=bif b.ok&&plan.length==b.sheets.length then b.why1 plan else 0
def Sc (b:Book) (plan:List Task):Int:=bif b.ok&&plan.length==b.sheets.length then b.why2 plan else 0
def Bd7 {Gl} (S:SP Gl) (b:Book) (plan:List Task):CR Gl 159 [.fn 160 [] [.d (.rd [.l eTask plan]),.d (.rd (cBook b))]] (.tup [.agg [Ci (b.why1 plan),Ci (b.why2 plan)],.c (Ci (bif b.isWhy plan then 7 else 0))]):=by
 cases h:b.isWhy plan with
 |false=>
  have:=Acq S (fst:=[]) (Bd5 S b plan h) .ok;grind[Book.why1,Book.why2]
 |true=>exact Acq S (fst:=[]) (Bd6 S b plan h) (.foul _ _)
theorem Bd8 {Gl} (S:SP Gl) (b:Book) (plan:List Task):CR Gl 77 [tBook b,L eTask plan] (.tup [.agg (Yw (Acr b plan)),.agg [Ci (Sb b plan),Ci (Sc b plan)],.c (Ci (Iu b plan))]):=by
 refine Ag S (let A5:=!Book.ok b;let A4:=(bif Book.isWhy b plan then (7:Int) else (0:Int));let A3:=(bif !Book.ok b then true else (plan.length:Int) != (b.3.length:Int));let A2:=Acr b plan;let A1:=[D.agg [Ci (Book.why1 b plan),Ci (Book.why2 b plan)],D.c (Ci A4)];let A0:=eqB A5 false=true->eqB A5 false=true;((rt (B (Book.ok b)) (.br .nil (rt (.tup A1) .nil))),(CR Gl 80 [tBook b] (B (Book.ok b))/\A0/\((eqB A5 false=true->plan.length<=maxLen)->A0/\A0/\((eqB A5 false=true->b.3.length<=maxLen)->A0/\A0/\(A5=false->eqB A5 false=true)/\(A3=true->ln A2.1.1=0/\ln A2.1.2=0/\ln A2.1.3=0/\ln A2.2=0/\(0:Int)=Sb b plan/\(0:Int)=Sc b plan/\(2:Int)=Iu b plan)/\(A3=false->CR Gl 159 [T.fn 160 [] [T.d (D.rd [C.l eTask plan]),T.d (D.rd (cBook b))]] (.tup A1)/\(sQ eComp b.1 (A2.1.1))/\(sQ eI b.2 (A2.1.2))/\(sQ eI b.3 (A2.1.3))/\(sQ eTask plan (A2.2))/\Book.why1 b plan=Sb b plan/\Book.why2 b plan=Sc b plan/\A4=Iu b plan)))))) func77 ?_;simp only[stdS,aL,aB,and_true,Aii S b,aN,aK,Ap,Ad]
 have key:(b.ok&&plan.length==b.sheets.length)=!(!b.ok||((plan.length:Int) != (b.sheets.length:Int))):=by grind
 unfold Acr Sb Sc Iu;refine λ_ _=>⟨λh=>?_,λh=>?_⟩
 ·grind
 ·rw[key,h];exact⟨Bd7 S b plan,Ax rfl,Ax rfl,Ax rfl,Ax rfl,rfl,rfl,rfl⟩
def whyErr (b:Book) (plan:List Task):Int:=bif Iu b plan==0 then 5 else bif Iu b plan==7 then 0 else Iu b plan
def whyS (b:Book) (plan:List Task):Int:=bif Iu b plan==7 then Sb b plan else 0
def whyF (b:Book) (plan:List Task):Int:=bif Iu b plan==7 then Sc b plan else 0
def why23 {Gl} (S:SP Gl) (b:Book) (plan:List Task):CR Gl 240 [tBook b,L eTask plan] (.tup [.c (Ci (whyS b plan)),.c (Ci (whyF b plan)),.c (Ci (whyErr b plan))]):=by
 refine Ag S (let A0:=[D.agg (Yw (Acr b plan)),D.agg [Ci (Sb b plan),Ci (Sc b plan)],D.c (Ci (Iu b plan))];((rt (.tup A0) (.br .nil (.br .nil .nil))),(CR Gl 77 [tBook b,L eTask plan] (.tup A0)/\((Iu b plan==(0:Int))=true->(0:Int)=whyS b plan/\(0:Int)=whyF b plan/\(5:Int)=whyErr b plan)/\((Iu b plan==(0:Int))=false->((Iu b plan==(7:Int))=true->Sb b plan=whyS b plan/\Sc b plan=whyF b plan/\(0:Int)=whyErr b plan)/\((Iu b plan==(7:Int))=false->(0:Int)=whyS b plan/\(0:Int)=whyF b plan/\Iu b plan=whyErr b plan))))) func240 ?_;dsimp only;grind[Bd8,whyS,whyF,whyErr]
end Go.Vc.Zn.Gv
namespace Go.Vc.Zn.Rm
open Go Go.Proofs Go.Vc Go.RowKit Tryz
variable {Gl:World->Prop}
theorem Bd9 (S:SP Gl) (p:Plan):CR Gl 138 [Cn p] (I (bif Bn p then 0 else 2)):=by
 refine Ao S (rt (B (Bn p)) (.br .nil .nil)) (CR Gl 34 [Cn p] (B (Bn p))/\((!Bn p)=true->(2:Int)=bif Bn p then (0:Int) else (2:Int))/\((!Bn p)=false->(0:Int)=bif Bn p then (0:Int) else (2:Int))) func138 ?_;grind[Ahx]
theorem Bda (S:SP Gl) (pl:Int) (cs:List Cp):CR Gl 140 [tTr pl cs] (I (bif Ft pl cs then 0 else 2)):=by
 refine Ao S (rt (B (Ft pl cs)) (.br .nil .nil)) (CR Gl 121 [tTr pl cs] (B (Ft pl cs))/\((!Ft pl cs)=true->(2:Int)=bif Ft pl cs then (0:Int) else (2:Int))/\((!Ft pl cs)=false->(0:Int)=bif Ft pl cs then (0:Int) else (2:Int))) func140 ?_;grind[Bc8]
theorem Iv (S:SP Gl) (x lo hi:Int):CR Gl 143 [I x,I lo,I hi] (B (inR x lo hi)):=by
 refine Ag S (let A0:=eqB (decide (lo<=x)) true=true->eqB (decide (lo<=x)) true=true;((.nil),(A0/\A0/\(decide (lo<=x)=true->eqB (decide (lo<=x)) true=true)/\(bif decide (lo<=x) then decide (x<=hi) else false)=inR x lo hi))) func143 ?_;simp only[stdS,aL,aB,and_true,inR]
def Aqm (S:SP Gl) (a b:Int):CR Gl 136 [I a,I b] (.d (.agg (Ae ⟨a,b⟩))):=by
 refine Ao S .nil (a=a/\b=b) func136 ?_;trivial
def Qc (S:SP Gl) (a b:Int):CR Gl 137 [I a,I b] (.d (.agg (Ae ⟨a,b⟩))):=by
 refine Ao S .nil (a=a/\b=b) func137 ?_;trivial
def exPB:Py.PBook:=⟨2,4,30,5,12,2,[⟨0,3,⟨1,2⟩,1,0,0,2,0,0⟩,⟨1,2,⟨0,1⟩,0,3,0,1,3,0⟩,⟨0,2,⟨0,0⟩,2,1,0,1,9,0⟩]⟩
def Bdb (S:SP Gl)  :CR Gl 63 [] (.d (.agg (Py.cPB exPB))):=by
 refine Ag S (let A0:=[Py.Line.mk 0 3 (Span.mk 1 2) 1 0 0 2 0 0,Py.Line.mk 1 2 (Span.mk 0 1) 0 3 0 1 3 0,Py.Line.mk 0 2 (Span.mk 0 0) 2 1 0 1 9 0];((rs [tA (Ae (Span.mk 1 2)),tA (Ae (Span.mk 0 1))] .nil),(CR Gl 136 [I 1,I 2] (tA (Ae (Span.mk 1 2)))/\CR Gl 136 [I 0,I 1] (tA (Ae (Span.mk 0 1)))/\(2:Int)=2/\(4:Int)=4/\(30:Int)=30/\(5:Int)=5/\(12:Int)=12/\(2:Int)=2/\SEq 3 (gD [List.map C.dem (List.map C.dem [Ci 0,Ci 3,Ci 1,Ci 2,Ci 1,Ci 0,Ci 0,Ci 2,Ci 0,Ci 0]),List.map C.dem (List.map C.dem [Ci 1,Ci 2,Ci 0,Ci 1,Ci 0,Ci 3,Ci 0,Ci 1,Ci 3,Ci 0]),List.map C.dem (List.map C.dem [Ci 0,Ci 2,Ci 0,Ci 0,Ci 2,Ci 1,Ci 0,Ci 1,Ci 9,Ci 0])]) (List.length A0) λi=>Py.eLine (nth A0 i)))) func63 ?_;dsimp only;refine⟨Aqm S _ _,Aqm S _ _,rfl,rfl,rfl,rfl,rfl,rfl,.of ⟨rfl,λi hi=>?_⟩⟩
 match i,hi with|0,_=>rfl|1,_=>rfl|2,_=>rfl
def Kf:Gv.Book:=⟨[⟨0,⟨1,2⟩,⟨2,3⟩,⟨1,1⟩⟩,⟨1,⟨0,1⟩,⟨1,2⟩,⟨1,2⟩⟩,⟨0,⟨0,0⟩,⟨3,3⟩,⟨1,1⟩⟩],[12,9],[0,1]⟩
def Bdc (S:SP Gl)  :CR Gl 64 [] (.d (.agg (Gv.cBook Kf))):=by
 refine Ag S (let A2:=Ae (Span.mk 1 1);let A1:=Span.mk 1 2;let A0:=[Gv.Comp.mk 0 A1 (Span.mk 2 3) (Span.mk 1 1),Gv.Comp.mk 1 (Span.mk 0 1) A1 A1,Gv.Comp.mk 0 (Span.mk 0 0) (Span.mk 3 3) (Span.mk 1 1)];let P0:=λ(zz:Prop)=>CR Gl 137 [I 1,I 2] (tA (Ae A1))/\zz;((rs [tA (Ae A1),tA (Ae (Span.mk 2 3)),tA A2,tA (Ae (Span.mk 0 1)),tA (Ae A1),tA (Ae A1),tA (Ae (Span.mk 3 3)),tA A2] .nil),(P0 (CR Gl 137 [I 2,I 3] (tA (Ae (Span.mk 2 3)))/\CR Gl 137 [I 1,I 1] (tA A2)/\CR Gl 137 [I 0,I 1] (tA (Ae (Span.mk 0 1)))/\P0 (P0 (CR Gl 137 [I 3,I 3] (tA (Ae (Span.mk 3 3)))/\CR Gl 137 [I 1,I 1] (tA A2)/\(SEq 3 (gD [List.map C.dem (List.map C.dem [Ci 0,Ci 1,Ci 2,Ci 2,Ci 3,Ci 1,Ci 1]),List.map C.dem (List.map C.dem [Ci 1,Ci 0,Ci 1,Ci 1,Ci 2,Ci 1,Ci 2]),List.map C.dem (List.map C.dem [Ci 0,Ci 0,Ci 0,Ci 3,Ci 3,Ci 1,Ci 1])]) (List.length A0) λi=>Gv.eComp (nth A0 i))/\(SEq 2 (gD [mI 12,mI 9]) (List.length [(12:Int),(9:Int)]) λi=>eI (nth [(12:Int),(9:Int)] i))/\SEq 2 (gD [mI 0,mI 1]) (List.length [(0:Int),(1:Int)]) λi=>eI (nth [(0:Int),(1:Int)] i))))))) func64 ?_;dsimp only
 have hI:∀a b:Int,SEq 2 (λi=>List.getD [List.map C.dem [C.v (Value.int .i64 a)],List.map C.dem [C.v (Value.int .i64 b)]] i []) 2 λi=>eI (nth [a,b] i):=λa b=>.of ⟨rfl,λi hi=>by match i,hi with|0,_=>rfl|1,_=>rfl⟩;refine⟨Qc S _ _,Qc S _ _,Qc S _ _,Qc S _ _,Qc S _ _,Qc S _ _,Qc S _ _,Qc S _ _,.of ⟨rfl,λi hi=>?_⟩,hI _ _,hI _ _⟩
 match i,hi with|0,_=>rfl|1,_=>rfl|2,_=>rfl
def Ds:Plan:=⟨[⟨120,122⟩,⟨4,6⟩],4,1⟩
def cSu (p:Plan) (b:Gv.Book) (e pl:Int) (cs:List Cp) (y:Py.PBook):List C:=[.l Ae p.starts,Ci p.rows,Ci p.guard,.l Gv.eComp b.comps,.l eI b.dues,.l eI b.sheets,Ci e,Ci pl,.l eCp cs,Ci y.hands,Ci y.unit,Ci y.sheet,Ci y.error,Ci y.morn,Ci y.post,.l Py.eLine y.lines]
def exPB3:Py.PBook:={ exPB with hands:=3 }
def Aqn (S:SP Gl)  :CR Gl 21 [] (.d (.agg (cSu Ds Kf 1 2 Jn exPB3))):=by
 refine Ag S (let A3:=[Span.mk 120 122,Span.mk 4 6];let A2:=Span.mk 1 2;let A1:=[Py.Line.mk 0 3 A2 1 0 0 2 0 0,Py.Line.mk 1 2 (Span.mk 0 1) 0 3 0 1 3 0,Py.Line.mk 0 2 (Span.mk 0 0) 2 1 0 1 9 0];let A0:=[Gv.Comp.mk 0 A2 (Span.mk 2 3) (Span.mk 1 1),Gv.Comp.mk 1 (Span.mk 0 1) A2 A2,Gv.Comp.mk 0 (Span.mk 0 0) (Span.mk 3 3) (Span.mk 1 1)];((rs [tA (Py.cPB exPB),tA (Gv.cBook Kf),tTr 2 Jn] .nil),(CR Gl 63 [] (tA (Py.cPB exPB))/\CR Gl 64 [] (tA (Gv.cBook Kf))/\CR Gl 51 [] (tTr 2 Jn)/\(SEq 2 (gD [List.map C.dem (List.map C.dem [Ci 120,Ci 122]),List.map C.dem (List.map C.dem [Ci 4,Ci 6])]) (List.length A3) λi=>Ae (nth A3 i))/\(4:Int)=4/\(1:Int)=1/\(SEq 3 (λi=>Gv.eComp (nth A0 i)) (List.length A0) λi=>Gv.eComp (nth A0 i))/\(SEq 2 (λi=>eI (nth [(12:Int),(9:Int)] i)) (List.length [(12:Int),(9:Int)]) λi=>eI (nth [(12:Int),(9:Int)] i))/\(SEq 2 (λi=>eI (nth [(0:Int),(1:Int)] i)) (List.length [(0:Int),(1:Int)]) λi=>eI (nth [(0:Int),(1:Int)] i))/\(1:Int)=1/\(2:Int)=2/\(SEq 6 (λi=>eCp (nth Jn i)) Jn.length λi=>eCp (nth Jn i))/\(3:Int)=3/\(4:Int)=4/\(30:Int)=30/\(5:Int)=5/\(12:Int)=12/\(2:Int)=2/\SEq 3 (λi=>Py.eLine (nth A1 i)) (List.length A1) λi=>Py.eLine (nth A1 i)))) func21 ?_;dsimp only;have hr:∀(n:Nat) (f:Nat->List C),SEq n f n f:=λ_ _=>.of ⟨rfl,λ_ _=>rfl⟩;exact⟨Bdb S,Bdc S,Bc9 S,.of ⟨rfl,λi hi=>by match i,hi with|0,_=>rfl|1,_=>rfl⟩,rfl,rfl,hr _ _,hr _ _,hr _ _,rfl,rfl,hr _ _,rfl,rfl,rfl,rfl,rfl,rfl,hr _ _⟩
def Aqo (S:SP Gl) (l:List Span) (h1:1<=l.length) (h2:l.length<=1000):CR Gl 144 [L Ae l] (.d (.c (.l Ae l))):=by
 refine Ao S (.ff .nil) (0<l.length/\false=false/\(0+l.length)*16<=140737488355328/\0+l.length<=140737488355328/\SEq (0+l.length) (An 0 (λx=>[]) λi=>Ae (nth l i)) l.length λi=>Ae (nth l i)) func144 ?_;refine⟨by omega,rfl,by omega,by omega,.of ⟨by omega,λi hi=>?_⟩⟩;trivial
def Aqp (S:SP Gl) (l:List Gv.Comp) (h1:1<=l.length) (h2:l.length<=1000):CR Gl 145 [L Gv.eComp l] (.d (.c (.l Gv.eComp l))):=by
 refine Ao S (.ff .nil) (0<l.length/\false=false/\(0+l.length)*56<=140737488355328/\0+l.length<=140737488355328/\SEq (0+l.length) (An 0 (λx=>[]) λi=>Gv.eComp (nth l i)) l.length λi=>Gv.eComp (nth l i)) func145 ?_;refine⟨by omega,rfl,by omega,by omega,.of ⟨by omega,λi hi=>?_⟩⟩;trivial
def Bdd (S:SP Gl) (l:List Py.Line) (h1:1<=l.length) (h2:l.length<=1000):CR Gl 147 [L Py.eLine l] (.d (.c (.l Py.eLine l))):=by
 refine Ao S (.ff .nil) (0<l.length/\false=false/\(0+l.length)*80<=140737488355328/\0+l.length<=140737488355328/\SEq (0+l.length) (An 0 (λx=>[]) λi=>Py.eLine (nth l i)) l.length λi=>Py.eLine (nth l i)) func147 ?_;refine⟨by omega,rfl,by omega,by omega,.of ⟨by omega,λi hi=>?_⟩⟩;trivial
end Go.Vc.Zn.Rm
namespace Go.Vc.Zn.Py
open Go Go.Proofs Go.Vc Go.RowKit Tryz
variable {Gl:World->Prop}
def errsL (l:Line):List Int:=(List.range (l.errs.hi - l.errs.lo+1).toNat).map λi:Nat=>l.errs.lo+i
def trR:List Line->List Int->List (List Int)
 | [],now=>[now]
 |l::r,now=>(errsL l).flatMap λe=>trR r (now++[e])
def truthsL (b:PBook):List (List Int):=trR b.lines []
def trPre (b:PBook) (l p:Nat):Env:=[(0,BIG,.tr p),(2,FAR,live),(FAR+3,0,.yl l),(2,FAR+1,live),(FAR+4,0,.fn 288 [] [.d (.c (.p (cPB b))),.addr FAR 0,.addr (FAR+1) 0])]
def trYd (b:PBook) (P:List (List Int)) (l m s:Nat):Yd:=⟨l,m,s,λq=>[tAc b (nth P q)]⟩
def nowL (b:PBook) (now:List Int):Line:=nth b.lines now.length
def sub (b:PBook) (now:List Int) (e:Int):List (List Int):=trR (b.lines.drop (now.length+1)) (now++[e])
def cntT (b:PBook) (now:List Int) (k:Nat):Nat:=(((errsL (nowL b now)).take k).flatMap (sub b now)).length
def allT (b:PBook) (now:List Int):List (List Int):=trR (b.lines.drop now.length) now
def stopK (b:PBook) (now:List Int) (p s:Nat):Nat:=Bl (λk=>decide (p+cntT b now (k+1)<=s)) (List.range (errsL (nowL b now)).length)
theorem allT_step {b:PBook} {now:List Int} (h:now.length<b.lines.length):allT b now=(errsL (nowL b now)).flatMap (sub b now):=by
 unfold allT;rw[dP h]
 show (errsL _).flatMap _=_
 have:b.lines[now.length]=nowL b now:=by unfold nowL nth;rw[bU,aQ h];rfl
 rw[this]
 rfl
def allT_cnt {b:PBook} {now:List Int} (h:now.length<b.lines.length):(allT b now).length=cntT b now (errsL (nowL b now)).length:=by
 grind[allT_step,cntT]
theorem cntT_succ {b:PBook} {now:List Int} {k:Nat} (h:k<(errsL (nowL b now)).length):cntT b now (k+1)=cntT b now k+(sub b now (nth (errsL (nowL b now)) k)).length:=by
 grind[cntT,take_succ]
theorem cntT_mono {b:PBook} {now:List Int}:∀{j k:Nat},k<=j->j<=(errsL (nowL b now)).length->cntT b now k<=cntT b now j
 |0,k,h,_=>by grind
 |j+1,k,h,hj=>by
  rcases bL k (j+1) with h1|h1
  ·have:=cntT_mono (b:=b) (now:=now) (j:=j) (k:=k) (by omega) (by omega);grind[cntT_succ]
  grind
theorem errsL_len {l:Line} (h:l.errs.lo<=l.errs.hi):((errsL l).length:Int)=l.errs.hi - l.errs.lo+1:=by
 grind[errsL]
def errsL_at {l:Line} {k:Nat} (h:k<(errsL l).length):nth (errsL l) k=l.errs.lo+k:=by
 grind[errsL,Hq,Cc]
def Bde (S:SP Gl) (b:PBook) (now:List Int) (P:List (List Int)) (l m s p:Nat) (hn:now.length=b.lines.length) (hm:p<m) (hs:p<=s) (hP:nth P p=now):DO Gl (trYd b P l m s) 288 [L eI now,.d (.c (.p (cPB b))),.addr FAR 0,.addr (FAR+1) 0] (trPre b l p) (.ret (B (p != s))) [(0,BIG,.tr (p+1))]:=by
 refine Bs S (let A0:=[Ci b.1,Ci b.2,Ci b.3,Ci b.4,Ci b.5,Ci b.6,C.l eLine b.7];((.val 13 true (.tt .nil)),(now.length<=maxLen->b.7.length<=maxLen->((now.length:Int)==b.7.length)=true/\tt 1 (l=l/\p<m/\p<=s/\b.1=b.1/\b.2=b.2/\b.3=b.3/\b.4=b.4/\b.5=b.5/\b.6=b.6/\sR eLine b.7/\(sQ eI now (nth P p))/\(p != s)=(p != s)/\p+1=p+1/\l=l/\288=288/\A0=A0)))) func288 ?_;simp only[stdS,aL,aB,and_true];exact λ_ _=>⟨dI.2 (by omega),hm,hs,by rw[hP];exact Ax rfl,trivial⟩
theorem Bdf (S:SP Gl) (b:PBook) (now:List Int) (P:List (List Int)) (l m s p:Nat) (hlt:now.length<b.lines.length) (n6:okPB b=true) (hs:p<=s) (ih:∀(k n:Nat) (f:Nat->List C),k<(errsL (nowL b now)).length->p+cntT b now k<=s->SEq n f (now.length+1) (λi=>eI (nth (now++[nth (errsL (nowL b now)) k]) i))->DO Gl (trYd b P l m s) 288 [.d (.c (.s .n n f)),.d (.c (.p (cPB b))),.addr FAR 0,.addr (FAR+1) 0] (trPre b l (p+cntT b now k)) (.ret (B (decide (p+cntT b now (k+1)<=s)))) [(0,BIG,.tr (min (p+cntT b now (k+1)) (s+1)))]):DO Gl (trYd b P l m s) 288 [L eI now,.d (.c (.p (cPB b))),.addr FAR 0,.addr (FAR+1) 0] (trPre b l p) (.ret (B (decide (p+(allT b now).length<=s)))) [(0,BIG,.tr (min (p+(allT b now).length) (s+1)))]:=by
 refine Bs S (let A7:=λ(k0:Nat)=>p+cntT b now (k0+1);let A6:=nth b.7 now.length;let A3:=nowL b now;let A2:=(now.length:Int);let A4:=Int.toNat (A2-0)+1;let A1:=λ(k0:Nat)=>An (Int.toNat (A2-0)) (λi=>eI (nth now (Int.toNat 0+i))) (gD [mI (A3.3.1+(k0:Int))]);let A5:=λ(k0:Nat)=>[tS A4 (A1 k0),T.d (D.c (C.p (cPB b))),aF 0,T.addr (FAR+1) 0];let A0:=[Ci b.1,Ci b.2,Ci b.3,Ci b.4,Ci b.5,Ci b.6,C.l eLine b.7];((.val 13 false (.ff (.loop (stopK b now p s) (λk=>v 7 (I (Span.lo (Line.errs A3)+(k:Int)))::v 6 (ad 6)::v 0 (L eI now)::v 1 (T.d (D.c (C.p (cPB b))))::v 2 (aF 0)::v 3 (T.addr (FAR+1) 0)::(bx 6 (Ae (Line.errs A3))++trPre b l (p+cntT b now k))) λk0=>.br (.w [(FAR,FAR),(FAS,FAS)] (A5 k0) (trPre b l (p+cntT b now k0)) (.ret (B (decide (p+cntT b now (k0+1)<=s)))) [(0,BIG,T.tr (min (A7 k0) (s+1)))] (.br .nil .nil)) .nil))),(now.length<=maxLen->b.7.length<=maxLen->(A2==b.7.length)=false/\false=false/\(now.length<=maxLen->(0<=A2/\A2<b.7.length)/\(A6.3.1=A3.3.1+(↑(0:Nat):Int)/\sR eI now/\A0=A0/\A6.3.1=A3.3.1/\A6.3.2=A3.3.2/\p=p+cntT b now 0/\l=l/\288=288/\A0=A0)/\∀(k0:Nat),k0<=stopK b now p s->(decide ((nowL b now).3.1+(k0:Int)<=(nowL b now).3.2)=true->now.length<=maxLen->now.length<=maxLen->(0:Int)<=0/\0<=A2/\A2=now.length/\A2<=now.length/\cp A4 (SEq A4 (A1 k0) A4 (A1 k0)/\A0=A0/\p+cntT b now k0=p+cntT b now k0/\l=l/\288=288/\A0=A0/\DO Gl (trYd b P l m s) 288 (A5 k0) (trPre b l (p+cntT b now k0)) (.ret (B (decide (p+cntT b now (k0+1)<=s)))) [(0,BIG,T.tr (min (A7 k0) (s+1)))]/\((!decide (p+cntT b now (k0+1)<=s))=true->false=decide (p+ln (allT b now)<=s)/\min (A7 k0) (s+1)=min (p+ln (allT b now)) (s+1)/\l=l/\288=288/\A0=A0)/\((!decide (p+cntT b now (k0+1)<=s))=false->iR (A3.3.1+(k0:Int)+1)/\k0<stopK b now p s/\A3.3.1+(k0:Int)+1=A3.3.1+(↑(k0+1):Int)/\sR eI now/\A0=A0/\A3.3.1=A3.3.1/\A3.3.2=A3.3.2/\min (A7 k0) (s+1)=p+cntT b now (k0+1)/\l=l/\288=288/\A0=A0)))/\(decide ((nowL b now).3.1+(k0:Int)<=(nowL b now).3.2)=false->true=decide (p+ln (allT b now)<=s)/\p+cntT b now k0=min (p+ln (allT b now)) (s+1)/\l=l/\288=288/\A0=A0))))) func288 ?_
 simp only[stdS,aL,aB,and_true,aN,aK,cL,cZ,Ad,Ap];have hf:=okPB_facts n6;obtain⟨e1,e2,_⟩:=Us (show Dh b.hands (nowL b now)=true from hf.2.2.2.2.2.2.2 now.length hlt);have hlb:=hf.2.2.1;have w9:=errsL_len (l:=nowL b now) e2.1;have qn:cntT b now 0=0:=rfl;have m8:stopK b now p s<=(errsL (nowL b now)).length:=by have:=Kn (p:=λk=>decide (p+cntT b now (k+1)<=s)) (l:=List.range (errsL (nowL b now)).length);rw[cR]at this;exact this
 have jt:∀k,k<=stopK b now p s->p+cntT b now k<=s:=λk hk=>by
  match k,hk with
  |0,_=>rw[qn];exact hs
  |k+1,hk=>
   have h:=Io (p:=λk=>decide (p+cntT b now (k+1)<=s)) (l:=List.range (errsL (nowL b now)).length) (i:=k) hk;grind[Cc]
 have o6:=allT_cnt hlt;refine λ_ _=>⟨dN.2 (by omega),λ_=>⟨⟨by omega,by omega⟩,⟨?_,?_⟩,λk hk=>⟨λh1=>?_,λh1=>?_⟩⟩⟩
 ·grind[nowL]
 ·trivial
 ·have bf:k<(errsL (nowL b now)).length:=by omega
  have hm:=cntT_mono (b:=b) (now:=now) (show k+1<=(errsL (nowL b now)).length by omega) (aI _);have hz:((now.length:Int) - 0).toNat=now.length:=by omega
  have e0:(λi=>eI (nth now (Int.toNat 0+i)))=λi=>eI (nth now i):=funext λi=>by grind
  have hq:SEq (now.length+1) (An now.length (λi=>eI (nth now i)) λi=>[List.map C.dem [C.v (Value.int .i64 ((nowL b now).errs.lo+k))]].getD i []) (now.length+1) (λi=>eI (nth (now++[nth (errsL (nowL b now)) k]) i)):=by
   have:=Eb (f:=eI) (l:=now) (r:=now++[nth (errsL (nowL b now)) k]) (x:=nth (errsL (nowL b now)) k) rfl rfl;rw[cU,fG,errsL_at bf]at this;rw[errsL_at bf];exact this
  rw[hz,e0];refine λ_ _=>⟨by omega,by omega,by omega,by omega,by omega,ih k _ _ bf (jt k hk) hq,λh2=>⟨(fD (by omega)).symm,by omega,trivial⟩,λh2=>⟨by omega,Fq hk (by grind) (by grind[Cc]),by omega,by omega,trivial⟩⟩
 grind
theorem Aqq (S:SP Gl) (b:PBook) (P:List (List Int)) (l m s:Nat) (n6:okPB b=true):∀(r:Nat) (now:List Int) (p:Nat),now.length+r=b.lines.length->p<=s->(∀i,i<(allT b now).length->p+i<m/\nth P (p+i)=nth (allT b now) i)->
  DO Gl (trYd b P l m s) 288 [L eI now,.d (.c (.p (cPB b))),.addr FAR 0,.addr (FAR+1) 0] (trPre b l p) (.ret (B (decide (p+(allT b now).length<=s)))) [(0,BIG,.tr (min (p+(allT b now).length) (s+1)))]
 |0,now,p,hn,hs,hP=>by
  have ha:allT b now=[now]:=by unfold allT;rw[List.drop_eq_nil_of_le (by omega)];rfl
  rw[ha]at hP ⊢;obtain⟨h1,h2⟩:=hP 0 (Nat.zero_lt_one);have:=Bde S b now P l m s p (by omega) h1 hs h2;grind[decide_eq_false]
 |r+1,now,p,hn,hs,hP=>by
  refine Bdf S b now P l m s p (by omega) n6 hs λk n f hk m8 mi=>?_;have hlt:now.length<b.lines.length:=by omega
  have ih:=Aqq S b P l m s n6 r (now++[nth (errsL (nowL b now)) k]) (p+cntT b now k) (by grind) m8;have e1:allT b (now++[nth (errsL (nowL b now)) k])=sub b now (nth (errsL (nowL b now)) k):=by grind[allT,sub]
  rw[e1]at ih;have e2:=cntT_succ hk;rw[show p+cntT b now (k+1)=p+cntT b now k+(sub b now (nth (errsL (nowL b now)) k)).length by omega];refine (ih λi hi=>?_).args (show SEq n f (now++[nth (errsL (nowL b now)) k]).length (λi=>eI (nth (now++[nth (errsL (nowL b now)) k]) i))/\cPB b=cPB b from ⟨by grind,rfl⟩);have hb:=Ac8 (f:=sub b now) hk;have vf:=Yn (f:=sub b now) (i:=i) hk hi;grind[allT_step,cntT]
def Aim (S:SP Gl) (b:PBook):CR Gl 182 [.d (.agg (cPB b))] (.fn 287 [] [.d (.c (.p (cPB b)))]):=by
 refine Xw S (t:=2) (id:=1) .nil func182 (by kernel_rfl) Tryz.results182 (by decide) (by decide) (T.fn 287 [] [.addr 1 0]=T.fn 287 [] [.addr 1 0]/\live=live/\Hl (Dt 1 0 (cPB b)) 1 0 (cPB b)) (by kernel_rfl) ?_;trivial
theorem next0 (S:SP Gl) (b:PBook) (P:List (List Int)) (l m s:Nat) (n6:okPB b=true) (hP:∀i,i<(truthsL b).length->i<m/\nth P i=nth (truthsL b) i):
  DO Gl (trYd b P l m s) 288 [.d (.c (.v (.slice none 0 0))),.d (.c (.p (cPB b))),.addr FAR 0,.addr (FAR+1) 0] (trPre b l 0) (.ret (B (decide ((truthsL b).length<=s)))) [(0,BIG,.tr (min (truthsL b).length (s+1)))]:=by
 have h:=Aqq S b P l m s n6 b.lines.length [] 0 (by simp) (bV _) (λi hi=>by rw[bH];exact hP i hi);rw[bH]at h;exact h.args (show (0:Nat)=0/\cPB b=cPB b from ⟨rfl,rfl⟩)
def Ain (S:SP Gl) (b:PBook) (l m s:Nat) (n6:okPB b=true) (hm:m=(truthsL b).length):DO Gl (trYd b (truthsL b) l m s) 287 [.yl l,.d (.c (.p (cPB b)))] [(0,BIG,.tr 0)] (.ret (.tup [])) [(0,BIG,.tr (min m (s+1)))]:=by
 refine Bs S (let A1:=[T.d (D.c cN),T.d (D.c (C.p (cPB b))),aF 0,T.addr (FAR+1) 0];let A0:=[Ci b.1,Ci b.2,Ci b.3,Ci b.4,Ci b.5,Ci b.6,C.l eLine b.7];((.w [(FAR,nat_lit 2),(FAS,nat_lit 3)] A1 (trPre b l 0) (.ret (B (decide (List.length (truthsL b)<=s)))) [(0,BIG,T.tr (min (List.length (truthsL b)) (s+1)))] .nil),(Value.slice none 0 0=Value.slice none 0 0/\A0=A0/\0=0/\l=l/\288=288/\A0=A0/\DO Gl (trYd b (truthsL b) l m s) 288 A1 (trPre b l 0) (.ret (B (decide (ln (truthsL b)<=s)))) [(0,BIG,T.tr (min (ln (truthsL b)) (s+1)))]/\True/\min (ln (truthsL b)) (s+1)=min m (s+1)))) func287 ?_;simp only[stdS,aL,aB,and_true];grind[next0]
def errsL_mem {l:Line} {e:Int} (h:e∈errsL l):l.errs.lo<=e/\e<=l.errs.hi:=by
 grind[errsL]
theorem trR_mem:∀{ls:List Line} {now er:List Int},er∈trR ls now->er.length=now.length+ls.length/\(∀i,i<now.length->nth er i=nth now i)/\∀i,i<ls.length->(nth ls i).errs.lo<=nth er (now.length+i)/\nth er (now.length+i)<=(nth ls i).errs.hi
 | [],now,er,h=>by
  have:=aZ.1 h;grind
 |l::ls,now,er,h=>by
  obtain⟨e,h1,h2⟩:=dR.1 h;obtain⟨q1,q2,q3⟩:=trR_mem h2;rw[cU,fG]at q1 q2 q3;refine⟨by grind,λi hi=>?_,λi hi=>?_⟩
  ·grind[Mn]
  ·cases i with
   |zero=>
    rw[eB,q2 now.length (by omega),Km (aI _),eK];exact errsL_mem h1
   |succ i=>
    have:=q3 i (by grind);rw[show now.length+(i+1)=now.length+1+i by omega];exact this
def Vb {b:PBook} (n6:okPB b=true) {p:Nat} (hp:p<(truthsL b).length):(nth (truthsL b) p).length=b.lines.length/\∀i,i<(nth (truthsL b) p).length->inR (nth (nth (truthsL b) p) i) 0 20=true:=by
 obtain⟨q1,_,q3⟩:=trR_mem (ls:=b.lines) (now:=[]) (Fj hp);change (nth (truthsL b) p).length=_ at q1;rw[dA,bH]at q1;refine⟨q1,λi hi=>?_⟩;have h1:_<=nth (nth (truthsL b) p) _/\nth (nth (truthsL b) p) _<=_:=q3 i (by omega);rw[dA,bH]at h1;obtain⟨e1,e2,_⟩:=Us ((okPB_facts n6).2.2.2.2.2.2.2 i (by omega));grind[Bi]
def noL:List Int:=[]
def firstS (b:PBook):Nat:=Bl (λer=>!paidAll b er) (truthsL b)
theorem Bdg (S:SP Gl) (b:PBook) (n6:okPB b=true) (hs:firstS b<(truthsL b).length):CR Gl 237 [.d (.agg (cPB b))] (.tup [.c (.l eI (nth (truthsL b) (firstS b))),.c (Cb true)]):=by
 refine Ag S (let A2:=firstS b;let A1:=T.fn 287 [] [T.d (D.c (C.p (cPB b)))];let A0:=truthsL b;((rt A1 (.rf (List.length A0) A2 (λp=>[tAc b (nth A0 p)]) (λp=>v 4 (ad 4)::v 5 (ad 5)::(bx 4 [cN]++bx 5 [Cb false])) (λk0=>rt (B (paidAll b (nth A0 k0))) (.br .nil .nil)) .nil)),(CR Gl 182 [tA (cPB b)] A1/\Yd.m yd0=0/\Nq (DO Gl) 287 [] [T.d (D.c (C.p [Ci b.1,Ci b.2,Ci b.3,Ci b.4,Ci b.5,Ci b.6,C.l eLine b.7]))] (λl=>Yd.mk l (ln A0) A2 λp=>[tAc b (nth A0 p)]) (ln A0) A2/\(Value.slice none 0 0=Value.slice none 0 0/\false=false)/\(∀(k0:Nat),k0<ln A0->k0<=firstS b->CR Gl 319 [tAc b (nth A0 k0)] (B (paidAll b (nth A0 k0)))/\(paidAll b (nth A0 k0)=true->k0=firstS b/\(sQ eI (nth A0 k0) (nth A0 A2))/\true=true)/\(paidAll b (nth A0 k0)=false->k0<firstS b/\Value.slice none 0 0=Value.slice none 0 0/\false=false))/\(ln A0<=firstS b->ln (nth A0 A2)=0/\false=true)))) func237 ?_;simp only[stdS,aL,aB,and_true];have hl:=Kn (p:=λer=>!paidAll b er) (l:=truthsL b);refine⟨Aim S b,λl=>Ain S b l _ _ n6 rfl,λk hk ir=>⟨Apo S b _ n6 (Vb n6 hk).1 (Vb n6 hk).2,λh1=>?_,λh1=>?_⟩,λh1=>?_⟩
 ·have bf:k=firstS b:=by grind[firstS,Io]
  exact⟨bf,by rw[bf];exact Ax rfl,trivial⟩
 ·exact⟨Fq ir hk (by rw[h1];rfl),trivial⟩
 ·omega
theorem Bdh (S:SP Gl) (b:PBook) (n6:okPB b=true) (hs:firstS b=(truthsL b).length):CR Gl 237 [.d (.agg (cPB b))] (.tup [.c (.l eI noL),.c (Cb false)]):=by
 refine Ag S (let A1:=T.fn 287 [] [T.d (D.c (C.p (cPB b)))];let A0:=truthsL b;((rt A1 (.rf (List.length A0) (firstS b) (λp=>[tAc b (nth A0 p)]) (λp=>v 4 (ad 4)::v 5 (ad 5)::(bx 4 [cN]++bx 5 [Cb false])) (λk0=>rt (B (paidAll b (nth A0 k0))) (.br .nil .nil)) .nil)),(CR Gl 182 [tA (cPB b)] A1/\Yd.m yd0=0/\Nq (DO Gl) 287 [] [T.d (D.c (C.p [Ci b.1,Ci b.2,Ci b.3,Ci b.4,Ci b.5,Ci b.6,C.l eLine b.7]))] (λl=>Yd.mk l (ln A0) (firstS b) λp=>[tAc b (nth A0 p)]) (ln A0) (firstS b)/\(Value.slice none 0 0=Value.slice none 0 0/\false=false)/\(∀(k0:Nat),k0<ln A0->k0<=firstS b->CR Gl 319 [tAc b (nth A0 k0)] (B (paidAll b (nth A0 k0)))/\(paidAll b (nth A0 k0)=true->k0=firstS b/\(sQ eI (nth A0 k0) noL)/\true=false)/\(paidAll b (nth A0 k0)=false->k0<firstS b/\Value.slice none 0 0=Value.slice none 0 0/\false=false))/\(ln A0<=firstS b->0=0/\false=false)))) func237 ?_;simp only[stdS,aL,aB,and_true];have hl:=Kn (p:=λer=>!paidAll b er) (l:=truthsL b);refine⟨Aim S b,λl=>Ain S b l _ _ n6 rfl,λk hk ir=>⟨Apo S b _ n6 (Vb n6 hk).1 (Vb n6 hk).2,λh1=>?_,λh1=>?_⟩,trivial⟩
 ·grind[firstS,Io]
 grind
theorem agrees142 (S:SP Gl) (b:PBook) (n6:okPB b=true) (hs:firstS b<(truthsL b).length):CR Gl 142 [.d (.agg (cPB b))] (.tup [.c (.l eI (nth (truthsL b) (firstS b))),.c (Ci 0)]):=by
 refine Ag S (let A0:=nth (truthsL b) (firstS b);let A1:=[D.c (C.l eI A0),D.c (Cb true)];((rt (B (okPB b)) (.br .nil (rt (.tup A1) (.ff .nil)))),(CR Gl 88 [tA (cPB b)] (B (okPB b))/\((!okPB b)=true->ln A0=0/\(2:Int)=0)/\((!okPB b)=false->CR Gl 237 [tA (cPB b)] (.tup A1)/\false=false/\(sR eI A0)/\(0:Int)=0)))) func142 ?_;simp only[stdS,aL,aB,and_true,n6];grind[Ac9,Bdg]
def agrees142n (S:SP Gl) (b:PBook) (n6:okPB b=true) (hs:firstS b=(truthsL b).length):CR Gl 142 [.d (.agg (cPB b))] (.tup [.c (.l eI noL),.c (Ci 5)]):=by
 refine Ao S (rt (B (okPB b)) (.br .nil (rt (.tup [D.c (C.l eI noL),D.c (Cb false)]) (.tt .nil)))) (CR Gl 88 [tA (cPB b)] (B (okPB b))/\((!okPB b)=true->0=0/\(2:Int)=5)/\((!okPB b)=false->CR Gl 237 [tA (cPB b)] (.tup [D.c (C.l eI noL),D.c (Cb false)])/\tt 1 (0=0/\(5:Int)=5))) func142 ?_;simp only[stdS,aL,aB,and_true,n6];grind[Ac9,Bdh]
end Go.Vc.Zn.Py
namespace Go.Vc.Zn.Rm
open Go Go.Proofs Go.Vc Go.RowKit Tryz
variable {Gl:World->Prop}
structure Su where
 p:Plan
 b:Gv.Book
 e:Int
 pl:Int
 cs:List Cp
 y:Py.PBook
def cS (s:Su):List C:=cSu s.p s.b s.e s.pl s.cs s.y
def My (b:Py.PBook):Bool:=decide (Py.firstS b<(Py.truthsL b).length)
def Sd (b:Py.PBook):List Int:=bif My b then nth (Py.truthsL b) (Py.firstS b) else []
theorem Bdi (S:SP Gl) (b:Py.PBook) (n6:Py.okPB b=true):CR Gl 142 [.d (.agg (Py.cPB b))] (.tup [.c (.l eI (Sd b)),.c (Ci (bif My b then 0 else 5))]):=by
 unfold Sd My;rcases bL (Py.firstS b) (Py.truthsL b).length with h|h
 ·grind[Py.agrees142]
 ·rw[fD (by omega)];have:=Kn (p:=λer=>!Py.paidAll b er) (l:=Py.truthsL b);exact Py.agrees142n S b n6 (by grind[Py.firstS])
def okC (s:Su):Bool:=Bn s.p&&s.b.ok&&Ft s.pl s.cs&&Py.okPB s.y
def Yy (s:Su):Bool:=okC s&&(My s.y&&decide (s.p.rows<=6)&&(s.p.rows.tmod s.b.sheets.length==0)&&inR s.e 0 2&&(s.y.hands==(s.b.comps.length:Int)))
def Aio {s:Su} (h:okC s=true):Bn s.p=true/\s.b.ok=true/\Ft s.pl s.cs=true/\Py.okPB s.y=true:=by
 grind[okC]
def Acs {b:Gv.Book} (h:b.ok=true):1<=b.sheets.length/\b.sheets.length<=1000/\1<=b.comps.length/\b.comps.length<=1000/\1<=b.dues.length/\b.dues.length<=1000:=by
 grind[Gv.Book.ok,Bi]
theorem Aip {s:Su} (h:Yy s=true):okC s=true/\My s.y=true/\decide (s.p.rows<=6)=true/\(s.p.rows.tmod s.b.sheets.length==0)=true/\inR s.e 0 2=true/\(s.y.hands==(s.b.comps.length:Int))=true:=by
 grind[Yy]
theorem Bdj (S:SP Gl) (p:Plan) (h:Bn p=true):CR Gl 138 [Cn p] (I 0):=by grind[Bd9]
theorem Bdk (S:SP Gl) (b:Gv.Book) (h:b.ok=true):CR Gl 139 [Gv.tBook b] (I 0):=by grind[Gv.check67]
theorem Bdl (S:SP Gl) (pl:Int) (cs:List Cp) (h:Ft pl cs=true):CR Gl 140 [tTr pl cs] (I 0):=by grind[Bda]
theorem payOK (S:SP Gl) (b:Py.PBook) (h:Py.okPB b=true):CR Gl 141 [.d (.agg (Py.cPB b))] (I 0):=by grind[Py.check141]
theorem Aqr (S:SP Gl) (b:Py.PBook) (h:Py.okPB b=true) (h2:My b=true):CR Gl 142 [.d (.agg (Py.cPB b))] (.tup [.c (.l eI (Sd b)),.c (Ci 0)]):=by grind[Bdi]
theorem Bdm (S:SP Gl) (s:Su) (h:Yy s=true):CR Gl 65 [.d (.agg (cS s))] (B true):=by
 refine Ag S (let A0:=[D.c (C.l eI (Sd (Su.y s))),D.c (Ci 0)];((rt (I 0) (.sure 10 (.sure 11 (.sure 12 (rt (I 0) (.sure 13 (.sure 16 (.sure 17 (.sure 18 (rt (I 0) (.sure 19 (.sure 22 (.sure 23 (.sure 24 (rt (I 0) (.sure 25 (.ff (rt (.tup A0) (.sure 36 (.sure 37 (.sure 38 (.val 39 true (.sure 39 (.sure 42 (.sure 43 (.sure 44 (.sure 45 (.sure 46 (.sure 47 (.sure 48 (.sure 49 (.val 50 true (.sure 50 (.sure 53 (.sure 54 (.val 55 true (.sure 55 (rt (B (inR s.3 0 2)) (.sure 58 (.sure 59 (.sure 60 (.sure 61 (.sure 62 (.sure 63 (.sure 64 (.val 65 true (.sure 65 .nil))))))))))))))))))))))))))))))))))))))))))))))),(CR Gl 138 [Cn (Su.p s)] (I 0)/\tt 3 (CR Gl 139 [Gv.tBook (Su.b s)] (I 0)/\tt 4 (CR Gl 140 [tTr (Su.pl s) (Su.cs s)] (I 0)/\tt 4 (CR Gl 141 [tA (Py.cPB (Su.y s))] (I 0)/\tt 1 (false=false/\CR Gl 142 [tA (Py.cPB (Su.y s))] (.tup A0)/\tt 3 (decide (s.1.2<=(6:Int))=true/\tt 8 ((s.2.3.length<=maxLen->tt 1 ((s.2.3.length:Int)≠(0:Int)/\(Int.tmod s.1.2 s.2.3.length==0)=true/\tt 3 (inR s.3 0 2=true/\tt 1 (CR Gl 143 [I s.3,I 0,I 2] (B (inR s.3 0 2))/\tt 7 ((s.2.1.length<=maxLen->(s.6.1==(s.2.1.length:Int))=true/\tt 1 (true=true)))))))))))))))) func65 ?_;obtain⟨f1,f2,f3,f4,f5,f6⟩:=Aip h;obtain⟨g1,g2,g3,g4⟩:=Aio f1;have mh:=Acs g2;simp only[stdS,aL,aB,and_true];grind[Bdj,Bdk,Bdl,payOK,Aqr,Iv]
noncomputable def Se:List Code×Code:=match Tryz.f146.body with|some c=>Pn 2 c|none=>([],.skip)
def Bdn:Tryz.f146.body=some (Hm Se.1 Se.2):=by kernel_rfl
noncomputable def Aiq:Array Oper:=match Se.2 with| .seq (.region _ o _) _=>o|_=>#[]
def Bdo:Se.2=.seq (.region 3 Aiq false) .ret:=by kernel_rfl
noncomputable def Acu (i:Nat):Oper:=(Aiq[i]?).getD default
def Bdp:CloneOps Y 65 241 Aiq:=⟨by kernel_rfl,by kernel_rfl,by kernel_rfl,⟨Acu 0,by kernel_rfl,by kernel_rfl,by kernel_rfl,by kernel_rfl⟩,⟨Acu 1,by kernel_rfl,by kernel_rfl,by kernel_rfl,by kernel_rfl⟩,⟨Acu 2,by kernel_rfl,by kernel_rfl,by kernel_rfl,by kernel_rfl⟩,⟨Acu 3,by kernel_rfl,by kernel_rfl,by kernel_rfl,by kernel_rfl⟩⟩
def Bdq (S:SP Gl) (l:List Cp) (h1:1<=l.length) (h2:l.length<=1000) {X:Cx} {vis:Nat->Nat} {w0:World} {a:Act} {w:World} {G:Gh} (T:Tail Tryz.prog Gl Y X Tryz.f146 [v 0 (L eCp l)] vis w0 a w G):Se.2.wpIn (Fr none) 0 Tryz.prog (bodyPostM (Fr none) 0 Tryz.prog Tryz.f146 λen w'=>Below w0.heap.size w0 w'/\Ik vis w0 en w' (.ret (.own 2 l.length λi=>eCp (nth l i)))) a w:=by
 rw[Bdo];have hb:(Y 241).bytes=32:=by trivial
 have hs:(Y 241).size=2:=by trivial
 have:=Awt S T Bdp (by kernel_rfl) (by kernel_rfl) (by omega) (by grind) (by omega) (by rw[hs];rfl) (by trivial) 3;trivial
def Aqs (S:SP Gl) (l:List Cp) (h1:1<=l.length) (h2:l.length<=1000):CR Gl 146 [L eCp l] (.own 2 l.length λi=>eCp (nth l i)):=by
 refine Amr S (E:=[v 0 (L eCp l)]) (xs:=Se.1) (tl:=Se.2) (.ff .nil) func146 (by kernel_rfl) Bdn rfl ((0:Nat)<l.length/\false=false/\sR eCp l) (by kernel_rfl) ?_ (λX vis w0 a w G T=>Bdq S l h1 h2 T);exact⟨by omega,rfl,Ax rfl⟩
def Mz (S:SP Gl) (l:List Int) (h1:1<=l.length) (h2:l.length<=1000):CR Gl 69 [L eI l] (L eI l):=by
 refine Ao S (.ff .nil) (0<l.length/\false=false/\(0+l.length)*8<=140737488355328/\0+l.length<=140737488355328/\SEq (0+l.length) (An 0 (λx=>[]) λi=>eI (nth l i)) l.length λi=>eI (nth l i)) func69 ?_;refine⟨by omega,rfl,by omega,by omega,.of ⟨by omega,λi hi=>?_⟩⟩;trivial
def sT (s:Su) (x:T):List T:=[.d (.c (.l Ae s.p.starts)),I s.p.rows,I s.p.guard,.d (.c (.l Gv.eComp s.b.comps)),L eI s.b.dues,L eI s.b.sheets,I s.e,I s.pl,x,I s.y.hands,I s.y.unit,I s.y.sheet,I s.y.error,I s.y.morn,I s.y.post,.d (.c (.l Py.eLine s.y.lines))]
def bT (id:Nat) (xs:List T):Env:=(2,id,live)::Ky id 0 xs
def u16:List C:=List.replicate 16 .u
def Aqt {pl:Int} {cs:List Cp} (h:Ft pl cs=true):1<=cs.length/\cs.length<=8/\∀k,k<cs.length->1<=(nth cs k).seen.length/\(nth cs k).seen.length<=1000:=by
 unfold Ft at h;simp only[aE,Bi,aS,bB]at h;grind[Uw]
def plan_len {p:Plan} (h:Bn p=true):1<=p.starts.length/\p.starts.length<=1000:=by
 grind[Bn,Bi]
theorem Bdr (S:SP Gl) (s:Su) (h:okC s=true):CR Gl 66 [.d (.agg (cS s))] (.d (.agg (cS s))):=by
 refine Ag S (let A6:=Plan.starts (Su.p s);let A5:=Gv.Book.comps (Su.b s);let A4:=Su.cs s;let A3:=Py.PBook.lines (Su.y s);let A1:=List.length A4;let A0:=SEq s.6.7.length (λi=>Py.eLine (nth s.6.7 i)) s.6.7.length λi=>Py.eLine (nth s.6.7 i);let P0:=λ(zz:Prop)=>s.5.length=s.5.length/\zz;let A2:=P0 (zC (List.take 6 (List.drop 9 (cS (s)))) A0);((rs [L Ae A6,L Gv.eComp A5,L eI s.2.2,L eI s.2.3,T.own 2 A1 λi=>eCp (nth A4 i)] (.loop A1 (λk=>v 39 (I k)::v 38 (I (List.length A4:Int))::v 37 (T.arr 32 A1)::v 1 (ad 1)::v 2 (ad 2)::(2,32,T.arrc false 2 A1 λi=>eCp (nth A4 i))::(bT 1 (sT s (T.arr 32 A1))++bx 2 u16)) λk0=>.br (rt (L eI (nth s.5 k0).2) .nil) (rt (L Py.eLine A3) .nil))),(CR Gl 144 [L Ae A6] (L Ae A6)/\CR Gl 145 [L Gv.eComp A5] (L Gv.eComp A5)/\CR Gl 69 [L eI s.2.2] (L eI s.2.2)/\CR Gl 69 [L eI s.2.3] (L eI s.2.3)/\CR Gl 146 [L eCp A4] (T.own 2 (ln A4) λi=>eCp (nth A4 i))/\(s.5.length<=maxLen->(lz s.5.length (P0 (sR eCp s.5/\zC (List.take 8 (cS (s))) A2)))/\∀(k0:Nat),k0<=ln A4->(dt k0 s.5.length->(ix k0 s.5.length)/\k0<s.5.length/\CR Gl 69 [L eI (nth s.5 k0).2] (L eI (nth s.5 k0).2)/\(ix k0 s.5.length)/\k0<s.5.length/\lq k0 (ln A4) ((s.5.length:Int)=s.5.length/\P0 ((SEq s.5.length (Es (λi=>eCp (nth s.5 i)) k0 (Sp 1 (List.map C.dem [C.s Tag.n (ln (nth s.5 k0).2) λi=>eI (nth (nth s.5 k0).2 i)]) (eCp (nth s.5 k0)))) s.5.length λi=>eCp (nth s.5 i))/\zC (List.take 8 (cS (s))) A2)))/\(df k0 s.5.length->CR Gl 147 [L Py.eLine A3] (L Py.eLine A3)/\P0 (zC (List.take 15 (cS (s))) A0)))))) func66 ?_
 obtain⟨g1,g2,g3,g4⟩:=Aio h;obtain⟨q1,q2,q3,q4,q5,q6⟩:=Acs g2;obtain⟨c1,c2,c3⟩:=Aqt g3;have hp:=plan_len g1;have hy:=(Py.okPB_facts g4).2.2.1;simp only[stdS,aL,aB,and_true,aN,aK,Ad,Ap];refine⟨Aqo S _ hp.1 hp.2,Aqp S _ q3 q4,Mz S _ q5 q6,Mz S _ q1 q2,Aqs S _ c1 (by omega),λ_ k hk=>⟨λhl=>⟨by omega,by omega,Mz S _ (c3 k (by omega)).1 (c3 k (by omega)).2,by omega,by omega,by omega,by omega,by omega,.of ⟨rfl,λi hi=>?_⟩,trivial⟩,λ_=>⟨Bdd S _ hy.1 (by omega),trivial⟩⟩⟩;rw[Aah]
 by_cases hik:i=k
 ·rw[bG hik,hik];rfl
 grind
structure Gvn where
 one:Int
 other:Int
 third:Int
 day:Int
def eG (g:Gvn):List C:=[Ci g.one,Ci g.other,Ci g.third,Ci g.day]
structure St where
 su:Su
 day:Int
 tk:Int->Option Gvn
 co:Int->Int->Option (List Int)
 ri:Int->Option (List Int)
 pa:Int->Int->Bool
def tkD (s:St):List Int->Bool
 | [n]=>(s.tk n).isSome
 |_=>false
def tkV (s:St):List Int->List C
 | [n]=>eG ((s.tk n).getD ⟨0,0,0,0⟩)
 |_=>eG ⟨0,0,0,0⟩
def oC (x:Option (List Int)):C:=match x with
 |some l=>.l eI l
 |none=>.v (.slice none 0 0)
def eN (x:Option (List Int)):List C:=[oC x]
def coD (s:St):List Int->Bool
 | [a,b]=>(s.co a b).isSome
 |_=>false
def coV (s:St):List Int->List C
 | [a,b]=>eN (s.co a b)
 |_=>eN none
def riD (s:St):List Int->Bool
 | [a]=>(s.ri a).isSome
 |_=>false
def riV (s:St):List Int->List C
 | [a]=>eN (s.ri a)
 |_=>eN none
def paD (s:St):List Int->Bool
 | [a,b]=>s.pa a b
 |_=>false
def paV (s:St) (k:List Int):List C:=[Cb (paD s k)]
def mTk (s:St):T:=.mapc false 0 true (tkD s) (tkV s)
def mCo (s:St):T:=.mapc false 2 false (coD s) (coV s)
def mRi (s:St):T:=.mapc false 0 false (riD s) (riV s)
def mPa (s:St):T:=.mapc false 2 false (paD s) (paV s)
def Hu (s:Su):St:=⟨s,0,λ_=>none,λ_ _=>none,λ_=>none,λ_ _=>false⟩
def cS15 (s:Su):List C:=[.l Ae s.p.starts,Ci s.p.rows,Ci s.p.guard,.l Gv.eComp s.b.comps,.l eI s.b.dues,.l eI s.b.sheets,Ci s.e,Ci s.pl,.l eCp s.cs,Ci s.y.hands,Ci s.y.unit,Ci s.y.sheet,Ci s.y.error,Ci s.y.morn,Ci s.y.post]
def stB (id m:Nat) (s:St):Env:=(2,id,live)::(Dt id 0 (cS15 s.su)++((id+3,16,I s.day)::(id+3,17,.mp m)::(id+3,18,.mp (m+1))::(id+3,19,.mp (m+2))::(id+3,20,.mp (m+3))::(2,m,mTk s)::(2,m+1,mCo s)::(2,m+2,mRi s)::(2,m+3,mPa s)::[]))
def Bds (S:SP Gl) (s:Su) (h:Yy s=true):CO Gl 22 [.d (.agg (cS s))] (.new (.tpl [.addr 10 0,I 0]) ((2,10,live)::(Dt 10 0 (cS s)++[(13,16,.d (.c (.v (.slice none 0 0)))),(13,17,B true)]))):=by
 refine Aws S (.r (.ret (B true)) (.ff (.r (.ret (T.d (D.agg (cS s)))) .nil))) func22 (by kernel_rfl) (v 2 (.addr 10 0)::v 3 (I 0)::(2,10,live)::(Dt 10 0 (cS s)++[(13,16,.d (.c (.v (.slice none 0 0)))),(13,17,B true)])) rfl (T.tpl [T.addr 10 0,I 0]=T.tpl [T.addr 10 0,T.d (D.c (Ci 0))]/\CR Gl 65 [T.d (D.agg (cS s))] (B true)/\false=false/\CR Gl 66 [T.d (D.agg (cS s))] (T.d (D.agg (cS s)))/\(0:Int)=0/\(sR Ae s.1.1)/\s.1.2=s.1.2/\s.1.3=s.1.3/\(SEq s.2.1.length (λi=>Gv.eComp (nth s.2.1 i)) s.2.1.length λi=>Gv.eComp (nth s.2.1 i))/\(sR eI s.2.2)/\(sR eI s.2.3)/\s.3=s.3/\s.4=s.4/\(sR eCp s.5)/\s.6.1=s.6.1/\s.6.2=s.6.2/\s.6.3=s.6.3/\s.6.4=s.6.4/\s.6.5=s.6.5/\s.6.6=s.6.6/\(SEq s.6.7.length (λi=>Py.eLine (nth s.6.7 i)) s.6.7.length λi=>Py.eLine (nth s.6.7 i))/\Value.slice none 0 0=Value.slice none 0 0/\true=true) (by kernel_rfl) ?_;simp only[stdS,aL,aB,and_true];grind[Bdm,Bdr,Aip]
def k133:(Y 275).kind=.struct [(0,9)]:=by kernel_rfl
def k135:(Y 276).kind=.struct [(0,9)]:=by kernel_rfl
def z133:(Y 275).zero.toArray=#[.string (ByteArray.mk #[])]:=by kernel_rfl
def z135:(Y 276).zero.toArray=#[.string (ByteArray.mk #[])]:=by kernel_rfl
def s133:(Y 275).size=1:=by kernel_rfl
def s135:(Y 276).size=1:=by kernel_rfl
def kn133:(Y 275).known=true:=by kernel_rfl
def kn135:(Y 276).known=true:=by kernel_rfl
def catch_idle (p:Value) (w:World):
  CallsD Tryz.prog 149 #[p] .returning w λe u' w'=>e=.returned (.tuple #[])/\u'=.returning/\w'=w:=by
 refine dF func149 rfl λc₀ cs hu=>?_;apply gI;apply eE;simp[wpOpsS,go_sem,recoverD,hu,Tryz.ntmps149,Exit.thenS];have S:=sl1 p .nilIface;refine eS (fN (cE (aR ?_)));generalize ({ tmps:=#[p]++(Array.replicate 13 undef).setIfInBounds 4 Value.nilIface,defers:=[] }:Act)=a at S ⊢;refine Ak S (d:=7) (v:=.bool true) (w':=w) rfl (by decide) rfl ?_ λa1 S1=>?_
 ·simp[execOp,S.eval,upd,Acd und20,ev_const,eqGuard]
 refine dM (by simp[S1.eval,upd]) (aR ?_);refine Ak S1 (d:=1) (v:=.nilIface) (w':=w) rfl (by decide) rfl ?_ λa2 S2=>?_
 ·simp[execOp,S1.eval,upd]
 cases c₀;simp_all[wpList,bodyPostS,results,Tryz.results149,Exit.inBlock,S2.defers]
theorem catch_row (b1:Nat) (x:ByteArray) (t7:List PanicEntry) (w:World) (h1:w.heap[b1]?=some (.cells #[.int .i64 0] 30 (0,0))):
  CallsD Tryz.prog 149 #[.pointer (some ⟨b1,0,none⟩)] (.panicking ({ v:=.iface 275 (.agg #[.string x]),recovered:=false }::t7)) w λe u' w'=>
   e=.returned (.tuple #[])/\u'=.panicking ({ v:=.iface 275 (.agg #[.string x]),recovered:=true }::t7)/\Same w w'/\w'.heap[b1]?=some (.cells #[.int .i64 7] 30 (0,0))/\
   ∀b,b<w.heap.size->b≠b1->w'.heap[b]?=w.heap[b]?:=by
 have l1:b1<w.heap.size:=(aP.1 h1).1;refine dF func149 rfl λc₀ cs hu=>?_;apply gI;apply eE;simp[wpOpsS,go_sem,recoverD,hu,Tryz.ntmps149,Exit.thenS];have S:=sl1 (.pointer (some ⟨b1,0,none⟩)) (.iface 275 (.agg #[.string x]));refine eS (fN (cE (aR ?_)));generalize ({ tmps:=#[Value.pointer (some ⟨b1,0,none⟩)]++(Array.replicate 13 undef).setIfInBounds 4 (Value.iface 275 (.agg #[.string x])),defers:=[] }:Act)=a at S ⊢;refine Ak S (d:=7) (v:=.bool false) (w':=w) rfl (by decide) rfl ?_ λa1 S1=>?_
 ·simp[execOp,S.eval,upd,Pv und20,ev_const,eqGuard]
 refine dG (by simp[S1.eval,upd]) (cE (aR ?_));refine Ak S1 (d:=8) (v:=.tuple #[.agg #[.string x],.bool true]) (w':=w) rfl (by decide) rfl ?_ λa2 S2=>?_
 ·simp[execOp,S1.eval,upd,Pw (yok 275 kn133) ⟨_,k133⟩]
 refine Ak S2 (d:=9) (v:=.bool true) (w':=w) rfl (by decide) rfl ?_ λa3 S3=>?_
 ·simp[execOp,S2.eval,upd,Instr.extract]
 refine Ak S3 (d:=10) (v:=.agg #[.string x]) (w':=w) rfl (by decide) rfl ?_ λa7 S7=>?_
 ·simp[execOp,S3.eval,upd,Instr.extract]
 refine dM (by simp[S7.eval,upd]) (cE (aR ?_));have z7:=λ(o:Oper) (ho:o.op=Op.alloc 275)=>Jz (P:=Tryz.prog) (a:=a7) (w:=w) (o:=o) yok (t:=275) ho kn133;rw[z133]at z7;refine Ak S7 (d:=2) rfl (by decide) rfl (z7 _ rfl) λa8 S8=>?_;obtain⟨w1,il⟩:∃w1,w.alloc (.cells #[.string (ByteArray.mk #[])] 275 (0,0))=w1:=⟨_,rfl⟩
 have dc:w.alloc (.cells #[.string (ByteArray.mk #[])] 275)=w1:=il;rw[dc];have g1:Same w w1:=by grind[Gz]
 have g2:∀b,b<w.heap.size->w1.heap[b]?=w.heap[b]?:=λb hb=>by grind[Cm]
 have g3:w1.heap[w.heap.size]?=some (.cells #[.string (ByteArray.mk #[])] 275 (0,0)):=by grind[World.alloc_heap_new]
 have H:=λ(o:Oper) (ho:o.op=Op.store 275 (.tmp 2) (.tmp 10))=>Ev (P:=Tryz.prog) (a:=a8) (w:=w1) (v:=.agg #[.string x]) (b:=w.heap.size) (o:=o)
  yok (t:=275) ho kn133 (by simp[S8.eval,upd]) (by simp[S8.eval,upd]) (by rw[s133];rfl) (by rw[s133];rfl) (by simp[Value.cells,Value.oneCell']) g3
 obtain⟨_,r2,r3,r4⟩:=H (stO 275 (.tmp 2) (.tmp 10)) rfl;refine Eu S8 rfl rfl (H _ rfl).1 λa9 S9=>?_;clear H;generalize w1.setRow w.heap.size (Value.agg #[.string x]).cells=w2 at r2 r3 r4 ⊢;refine aR ?_;have g5:w2.heap[b1]?=some (.cells #[.int .i64 0] 30 (0,0)):=by grind
 have H:=λ(o:Oper) (ho:o.op=Op.store 30 (.tmp 0) (.const (.int .i64 7)))=>Ev (P:=Tryz.prog) (a:=a9) (w:=w2) (v:=.int .i64 7) (b:=b1) (o:=o)
  yok (t:=30) ho Ku (by simp[S9.eval,upd]) rfl (by trivial) (by trivial) (by trivial) g5
 obtain⟨_,t2,t3,t4⟩:=H (stO 30 (.tmp 0) (.const (.int .i64 7))) rfl;refine Eu S9 rfl rfl (H _ rfl).1 λqt ka=>?_;clear H;generalize w2.setRow b1 (Value.int .i64 7).cells=w4 at t2 t3 t4 ⊢;have e3:∀b,b<w.heap.size->b≠b1->w4.heap[b]?=w.heap[b]?:=λb hb h1=>by grind
 have e4:Same w w4:=(g1.trans r3).trans t3;exact⟨ka.defers,_,rfl,.tuple #[],by simp[results,Tryz.results149],rfl,rfl,e4,t2,e3⟩
theorem catch_text (b1:Nat) (x:ByteArray) (t7:List PanicEntry) (w:World) (h1:w.heap[b1]?=some (.cells #[.int .i64 0] 30 (0,0))):
  CallsD Tryz.prog 149 #[.pointer (some ⟨b1,0,none⟩)] (.panicking ({ v:=.iface 276 (.agg #[.string x]),recovered:=false }::t7)) w λe u' w'=>
   e=.returned (.tuple #[])/\u'=.panicking ({ v:=.iface 276 (.agg #[.string x]),recovered:=true }::t7)/\Same w w'/\w'.heap[b1]?=some (.cells #[.int .i64 4] 30 (0,0))/\
   ∀b,b<w.heap.size->b≠b1->w'.heap[b]?=w.heap[b]?:=by
 have l1:b1<w.heap.size:=(aP.1 h1).1;refine dF func149 rfl λc₀ cs hu=>?_;apply gI;apply eE;simp[wpOpsS,go_sem,recoverD,hu,Tryz.ntmps149,Exit.thenS];have S:=sl1 (.pointer (some ⟨b1,0,none⟩)) (.iface 276 (.agg #[.string x]));refine eS (fN (cE (aR ?_)));generalize ({ tmps:=#[Value.pointer (some ⟨b1,0,none⟩)]++(Array.replicate 13 undef).setIfInBounds 4 (Value.iface 276 (.agg #[.string x])),defers:=[] }:Act)=a at S ⊢;refine Ak S (d:=7) (v:=.bool false) (w':=w) rfl (by decide) rfl ?_ λa1 S1=>?_
 ·simp[execOp,S.eval,upd,Pv und20,ev_const,eqGuard]
 refine dG (by simp[S1.eval,upd]) (cE (aR ?_));obtain⟨z,hz⟩:=Ace (Y:=Y) (t:=275) (t':=276) (xt:=20) (v:=.agg #[.string x]) (w:=w) yok ⟨_,k133⟩ (by decide);refine Ak S1 (d:=8) (v:=.tuple #[z,.bool false]) (w':=w) rfl (by decide) rfl ?_ λa2 S2=>?_
 ·simp[execOp,S1.eval,upd,hz]
 refine Ak S2 (d:=9) (v:=.bool false) (w':=w) rfl (by decide) rfl ?_ λa3 S3=>?_
 ·simp[execOp,S2.eval,upd,Instr.extract]
 refine Ak S3 (d:=10) (v:=z) (w':=w) rfl (by decide) rfl ?_ λa4 S4=>?_
 ·simp[execOp,S3.eval,upd,Instr.extract]
 refine dG (by simp[S4.eval,upd]) (cE (aR ?_));refine Ak S4 (d:=11) (v:=.tuple #[.agg #[.string x],.bool true]) (w':=w) rfl (by decide) rfl ?_ λa5 S5=>?_
 ·simp[execOp,S4.eval,upd,Pw (yok 276 kn135) ⟨_,k135⟩]
 refine Ak S5 (d:=12) (v:=.bool true) (w':=w) rfl (by decide) rfl ?_ λa6 S6=>?_
 ·simp[execOp,S5.eval,upd,Instr.extract]
 refine Ak S6 (d:=13) (v:=.agg #[.string x]) (w':=w) rfl (by decide) rfl ?_ λa7 S7=>?_
 ·simp[execOp,S6.eval,upd,Instr.extract]
 refine dM (by simp[S7.eval,upd]) (cE (aR ?_));have z7:=λ(o:Oper) (ho:o.op=Op.alloc 276)=>Jz (P:=Tryz.prog) (a:=a7) (w:=w) (o:=o) yok (t:=276) ho kn135;rw[z135]at z7;refine Ak S7 (d:=3) rfl (by decide) rfl (z7 _ rfl) λa8 S8=>?_;obtain⟨w1,il⟩:∃w1,w.alloc (.cells #[.string (ByteArray.mk #[])] 276 (0,0))=w1:=⟨_,rfl⟩
 have dc:w.alloc (.cells #[.string (ByteArray.mk #[])] 276)=w1:=il;rw[dc];have g1:Same w w1:=by grind[Gz]
 have g2:∀b,b<w.heap.size->w1.heap[b]?=w.heap[b]?:=λb hb=>by grind[Cm]
 have g3:w1.heap[w.heap.size]?=some (.cells #[.string (ByteArray.mk #[])] 276 (0,0)):=by grind[World.alloc_heap_new]
 have H:=λ(o:Oper) (ho:o.op=Op.store 276 (.tmp 3) (.tmp 13))=>Ev (P:=Tryz.prog) (a:=a8) (w:=w1) (v:=.agg #[.string x]) (b:=w.heap.size) (o:=o)
  yok (t:=276) ho kn135 (by simp[S8.eval,upd]) (by simp[S8.eval,upd]) (by rw[s135];rfl) (by rw[s135];rfl) (by simp[Value.cells,Value.oneCell']) g3
 obtain⟨_,r2,r3,r4⟩:=H (stO 276 (.tmp 3) (.tmp 13)) rfl;refine Eu S8 rfl rfl (H _ rfl).1 λa9 S9=>?_;clear H;generalize w1.setRow w.heap.size (Value.agg #[.string x]).cells=w2 at r2 r3 r4 ⊢;refine aR ?_;have g5:w2.heap[b1]?=some (.cells #[.int .i64 0] 30 (0,0)):=by grind
 have H:=λ(o:Oper) (ho:o.op=Op.store 30 (.tmp 0) (.const (.int .i64 4)))=>Ev (P:=Tryz.prog) (a:=a9) (w:=w2) (v:=.int .i64 4) (b:=b1) (o:=o)
  yok (t:=30) ho Ku (by simp[S9.eval,upd]) rfl (by trivial) (by trivial) (by trivial) g5
 obtain⟨_,t2,t3,t4⟩:=H (stO 30 (.tmp 0) (.const (.int .i64 4))) rfl;refine Eu S9 rfl rfl (H _ rfl).1 λqt ka=>?_;clear H;generalize w2.setRow b1 (Value.int .i64 4).cells=w4 at t2 t3 t4 ⊢;have e3:∀b,b<w.heap.size->b≠b1->w4.heap[b]?=w.heap[b]?:=λb hb h1=>by grind
 have e4:Same w w4:=(g1.trans r3).trans t3;exact⟨ka.defers,_,rfl,.tuple #[],by simp[results,Tryz.results149],rfl,rfl,e4,t2,e3⟩
theorem attempt_calls (g:FuncId) (hg:Ha Tryz.prog g) (us vs:Array Value) (w:World) (R:Ending->World->Prop) (m6:Calls Tryz.prog g (us++vs) (attW w) R) (hR:∀en w',R en w'->AttOKG 275 276 (λx:ByteArray=>.agg #[.string x]) w w' en):
  Calls Tryz.prog 71 #[.func (.func g) us vs] w λen gr=>∃bc w',R bc w'/\Same w' gr/\(∀b,b<w'.heap.size->b≠w.heap.size->gr.heap[b]?=w'.heap[b]?)/\(∃x,gr.heap[w.heap.size]?=some (.cells #[x] 30 (0,0)))/\en=.returned (Uv 275 7 bc):=by
 go_enter_defers func71,Tryz.ntmps71
 have S:SL { tmps:=#[Value.func (Fn.func g) us vs,undef,undef,undef,undef,undef],defers:=[] } 6 (λt=>#[Value.func (Fn.func g) us vs].getD t undef) []:=by
  exact SL.start #[Value.func (Fn.func g) us vs] 6 (aH rfl)
 generalize ({ tmps:=#[Value.func (Fn.func g) us vs,undef,undef,undef,undef,undef],defers:=[] }:Act)=a at S ⊢;refine cE (aR ?_);have z7:=λ(o:Oper) (ho:o.op=Op.alloc 30)=>Jz (P:=Tryz.prog) (a:=a) (w:=w) (o:=o) yok (t:=30) ho Ku;rw[z26]at z7;refine Ak S (d:=2) rfl (by decide) rfl (z7 _ rfl) λa2 S2=>?_
 show Code.wp Tryz.prog _ _ a2 (attW w)
 generalize il:attW w=w1 at m6 ⊢;refine cE (aR ?_);refine Ak S2 (d:=3) (v:=.func (.func 149) #[] #[.pointer (some ⟨w.heap.size,0,none⟩)]) (w':=w1) rfl (by decide) rfl ?_ λa3 S3=>?_
 ·simp[execOp,S2.eval,upd,Instr.makeFunc]
 refine Abh S3 (d:={ target:=.fn (.func 149) #[.pointer (some ⟨w.heap.size,0,none⟩)],args:=#[] }) rfl rfl ?_ λa4 S4=>?_
 ·simp[execOp,resolve,S3.eval,upd,Deferred.ofValue]
 refine cE (aR ?_);refine Ak S4 (d:=4) (v:=.func (.func g) us vs) (w':=w1) rfl (by decide) rfl ?_ λa5 S5=>?_
 ·simp[execOp,S4.eval,upd]
 have fx:∀(p:Value) (w:World),(invoke (.fn (.func 149) #[p]) #[]).run Tryz.prog w=.ok (.enter 149 #[p]) w:=λp w=>by
  have h2:(Tryz.f149.name== "runtime.NumGoroutine")=false:=by trivial
  have h3:Tryz.f149.body.isNone=false:=by trivial
  have fm:Tryz.f149.name≠ "runtime.NumGoroutine":=by trivial
  have mv:Tryz.f149.body≠none:=by trivial
  simp[invoke,callFunc,func149,fm,mv]
 refine Xx S5 (d:=5) (g:=g) (vs:=us++vs) (R:=R) rfl (by decide) rfl ?_ m6 (λv w2 hr a6 S6=>?_) (λch w2 hr=>?_) (λw2 hr=>?_)
 ·have:=λ(o:Oper) (ho:o.op=Op.call { callee:=Callee.value (Operand.tmp 4),args:=#[],argTypes:=#[] })=>Rb (P:=Tryz.prog) (a:=a5) (w:=w1) (o:=o) ho (by simp[S5.eval,upd]) hg (us:=us) (cvs:=vs);grind
 ·obtain⟨c1,c3⟩:=hR _ _ hr;have l1:w.heap.size<w2.heap.size:=(aP.1 c1).1;refine cE (aR ?_);have H:=λ(o:Oper) (ho:o.op=Op.store 30 (.tmp 2) (.const (.int .i64 0)))=>Ev (P:=Tryz.prog) (a:=a6) (w:=w2) (v:=.int .i64 0) (b:=w.heap.size) (o:=o)
   yok (t:=30) ho Ku (by simp[S6.eval,upd]) rfl (by trivial) (by trivial) (by trivial) c1
  obtain⟨_,t2,t3,t4⟩:=H (stO 30 (.tmp 2) (.const (.int .i64 0))) rfl;refine Eu S6 rfl rfl (H _ rfl).1 λa9 S9=>?_;clear H;generalize w2.setRow w.heap.size (Value.int .i64 0).cells=w4 at t2 t3 t4 ⊢;refine wp_ret ?_
  show Leaves Tryz.prog Tryz.f71 a9.tmps _ a9.defers .returning w4
  rw[S9.defers];refine fO (by simp) (fx _ w4) ((catch_idle _ w4).mono ?_);rintro e u' w5 ⟨rfl,rfl,rfl⟩;have r1:=att_results (F:=Tryz.f71) Tryz.results71 (a:=a9) (w:=w5) (b1:=w.heap.size) (by rw[S9.get 2 (by decide)];simp[upd]) t2;refine⟨_,r1,_,_,hr,t3,λb hb h1=>t4 _ h1,⟨_,t2⟩,?_⟩;trivial
 ·obtain⟨c1,c3⟩:=hR _ _ hr;have l1:w.heap.size<w2.heap.size:=(aP.1 c1).1
  show Leaves Tryz.prog Tryz.f71 a5.tmps _ a5.defers (.panicking ch) w2
  rw[S5.defers];refine fO (by simp) (fx _ w2) ?_;have e1:a5.tmps.getD 2 undef=.pointer (some ⟨w.heap.size,0,none⟩):=by rw[S5.get 2 (by decide)];simp[upd]
  rcases c3 with h|⟨x,h⟩|⟨s,h⟩
  ·cases h
  ·obtain rfl:ch=[{ v:=.iface 275 (.agg #[.string x]),recovered:=false }]:=dC h;refine (catch_row _ x [] w2 c1).mono ?_;rintro e u' w5 ⟨rfl,rfl,g1,g2,g4⟩;have r1:=att_results (F:=Tryz.f71) Tryz.results71 (a:=a5) (w:=w5) e1 g2;exact⟨_,r1,_,_,hr,g1,g4,⟨_,g2⟩,rfl⟩
  ·obtain rfl:ch=[{ v:=.iface 276 (.agg #[.string s]),recovered:=false }]:=dC h;refine (catch_text _ s [] w2 c1).mono ?_;rintro e u' w5 ⟨rfl,rfl,g1,g2,g4⟩;have r1:=att_results (F:=Tryz.f71) Tryz.results71 (a:=a5) (w:=w5) e1 g2;exact⟨_,r1,_,_,hr,g1,g4,⟨_,g2⟩,rfl⟩
 ·obtain⟨_,c3⟩:=hR _ _ hr;grind
def attP:AttP 71 275 276 (λx:ByteArray=>.agg #[.string x]) 7:=⟨⟨_,func71,(by kernel_rfl),by kernel_rfl⟩,rfl,attempt_calls⟩
def attempt74_does {Gl:World->Prop} {g:FuncId} {fst f8:List T} {r:Res} {ev:Int} {c9 post:Env} {yd:Yd} (bd:En c9=true) (bt:Ie c9 post=true) (h:DO Gl yd g (fst++f8) c9 r post) (ha:AttG 275 276 (λx:ByteArray=>.agg #[.string x]) 7 r ev):DO Gl yd 71 [.fn g fst f8] c9 (.ret (I ev)) post:=attP.does bd bt h ha
def Lv (S:SP Gl) (w:ByteArray):CR Gl 74 [B true,Str w] (.tup []):=by
 refine Ao S (.ff .nil) (false=false/\True) func74 ?_;trivial
def kC:List C:=[.u,Ci 0,.u,Ci 1,.u,Ci 4,.u,Ci 3,.u,Ci 2,.u,Ci 2,.u,Ci 7,.u,Ci 2,.u,Ci 3,.u,Ci 3,.u,Ci 0]
theorem Yz (S:SP Gl)  :CR Gl 148 [] (.d (.agg kC)):=by
 refine Ao S .nil ((0:Int)=0/\(1:Int)=1/\(4:Int)=4/\(3:Int)=3/\(2:Int)=2/\(2:Int)=2/\(7:Int)=7/\(2:Int)=2/\(3:Int)=3/\(3:Int)=3/\(0:Int)=0) func148 ?_;trivial
def Bdt (S:SP Gl) (l:List Int) (h1:1<=l.length) (h2:l.length<=1) (h3:∀i,i<l.length->inR (nth l i) (-99999) 99999=true):CR Gl 68 [.d (.agg [Ci 1,.l eI l])] (B true):=by
 refine Ag S (let A0:=(-99999:Int);let P0:=λ(zz:Prop)=>CR Gl 148 [] (tA kC)/\((0:Int)<=1/\1<(↑(11:Nat):Int))/\zz;((rt (B (inR 1 1 10)) (.ff (rs [tA kC,tA kC] (.sure 25 (.sure 26 (.sure 27 (.ff (.loop l.length (λk=>v 35 (I k)::v 34 (I l.length)::v 33 (L eI l)::v 3 (I 1)::v 4 (I 1)::v 1 (ad 1)::bx 1 [Ci 1,C.l eI l]) λk0=>.br (.val 40 true (rt (B (inR (nth l k0) A0 99999)) (.ff .nil))) (rt (B (inR l.length 1 1)) .nil))))))))),(CR Gl 143 [I 1,I 1,I 10] (B (inR 1 1 10))/\false=false/\P0 (P0 (tt 3 (false=false/\(l.length<=maxLen->(lz l.length (sR eI l/\(1:Int)=1/\(1:Int)=1/\(1:Int)=1/\sR eI l))/\∀(k0:Nat),k0<=l.length->(dt k0 l.length->(ix k0 l.length)/\inR (nth l k0) A0 99999=true/\CR Gl 143 [I (nth l k0),I A0,I 99999] (B (inR (nth l k0) A0 99999))/\false=false/\lq k0 l.length ((l.length:Int)=l.length/\sR eI l/\(1:Int)=1/\(1:Int)=1/\(1:Int)=1/\sR eI l))/\(df k0 l.length->l.length<=maxLen->CR Gl 143 [I l.length,I 1,I 1] (B (inR l.length 1 1))/\inR l.length 1 1=true)))))))) func68 ?_;simp only[stdS,aL,aB,and_true,aN,aK,Ad,Ap];grind[Iv,Yz,Bi]
def Aqu (S:SP Gl) (l:List Int) (h1:4<=l.length) (h2:l.length<=4) (h3:∀i,i<l.length->inR (nth l i) (-99999) 99999=true):CR Gl 68 [.d (.agg [Ci 2,.l eI l])] (B true):=by
 refine Ag S (let A0:=(-99999:Int);let P0:=λ(zz:Prop)=>CR Gl 148 [] (tA kC)/\((0:Int)<=2/\2<(↑(11:Nat):Int))/\zz;((rt (B (inR 2 1 10)) (.ff (rs [tA kC,tA kC] (.sure 25 (.sure 26 (.sure 27 (.ff (.loop l.length (λk=>v 35 (I k)::v 34 (I l.length)::v 33 (L eI l)::v 3 (I 4)::v 4 (I 4)::v 1 (ad 1)::bx 1 [Ci 2,C.l eI l]) λk0=>.br (.val 40 true (rt (B (inR (nth l k0) A0 99999)) (.ff .nil))) (rt (B (inR l.length 4 4)) .nil))))))))),(CR Gl 143 [I 2,I 1,I 10] (B (inR 2 1 10))/\false=false/\P0 (P0 (tt 3 (false=false/\(l.length<=maxLen->(lz l.length (sR eI l/\(4:Int)=4/\(4:Int)=4/\(2:Int)=2/\sR eI l))/\∀(k0:Nat),k0<=l.length->(dt k0 l.length->(ix k0 l.length)/\inR (nth l k0) A0 99999=true/\CR Gl 143 [I (nth l k0),I A0,I 99999] (B (inR (nth l k0) A0 99999))/\false=false/\lq k0 l.length ((l.length:Int)=l.length/\sR eI l/\(4:Int)=4/\(4:Int)=4/\(2:Int)=2/\sR eI l))/\(df k0 l.length->l.length<=maxLen->CR Gl 143 [I l.length,I 4,I 4] (B (inR l.length 4 4))/\inR l.length 4 4=true)))))))) func68 ?_;simp only[stdS,aL,aB,and_true,aN,aK,Ad,Ap];grind[Iv,Yz,Bi]
def Bdu (S:SP Gl) (l:List Int) (h1:3<=l.length) (h2:l.length<=8) (h3:∀i,i<l.length->inR (nth l i) (-99999) 99999=true):CR Gl 68 [.d (.agg [Ci 3,.l eI l])] (B true):=by
 refine Ag S (let A0:=(-99999:Int);let P0:=λ(zz:Prop)=>CR Gl 148 [] (tA kC)/\((0:Int)<=3/\3<(↑(11:Nat):Int))/\zz;((rt (B (inR 3 1 10)) (.ff (rs [tA kC,tA kC] (.skip 25 (.skip 26 (.skip 27 (.tt (.loop l.length (λk=>v 35 (I k)::v 34 (I l.length)::v 33 (L eI l)::v 3 (I 3)::v 4 (I 8)::v 1 (ad 1)::bx 1 [Ci 3,C.l eI l]) λk0=>.br (.val 40 true (rt (B (inR (nth l k0) A0 99999)) (.ff .nil))) (rt (B (inR l.length 3 8)) .nil))))))))),(CR Gl 143 [I 3,I 1,I 10] (B (inR 3 1 10))/\false=false/\P0 (P0 (false=false/\false=false/\false=false/\(true=false->false=true)/\tt 1 (iR ((3:Int)+6)/\iR ((3:Int)+6-1)/\(l.length<=maxLen->(lz l.length (sR eI l/\(3:Int)=3/\(3:Int)+6-1=8/\(3:Int)=3/\sR eI l))/\∀(k0:Nat),k0<=l.length->(dt k0 l.length->(ix k0 l.length)/\inR (nth l k0) A0 99999=true/\CR Gl 143 [I (nth l k0),I A0,I 99999] (B (inR (nth l k0) A0 99999))/\false=false/\lq k0 l.length ((l.length:Int)=l.length/\sR eI l/\(3:Int)=3/\(8:Int)=8/\(3:Int)=3/\sR eI l))/\(df k0 l.length->l.length<=maxLen->CR Gl 143 [I l.length,I 3,I 8] (B (inR l.length 3 8))/\inR l.length 3 8=true)))))))) func68 ?_;simp only[stdS,aL,aB,and_true,aN,aK,Ad,Ap];grind[Iv,Yz,Bi]
def Aqv (n:Int):C:=.v (.iface 282 (.agg #[.int .i64 n]))
def Aqw (n a b c:Int):C:=.v (.iface 284 (.agg #[.int .i64 n,.int .i64 a,.int .i64 b,.int .i64 c]))
def aCol (n h:Int) (m:List Int):C:=.i 289 true [Ci n,Ci h,.l eI m]
def Bdv (S:SP Gl) (n:Int) (l:List Int) (h:l=[n]):CR Gl 76 [.d (.agg [Ci 1,.l eI l])] (.d (.c (Aqv n))):=by
 refine Ao S (.tt .nil) (true=true/\((0:Int)<=0/\0<(l.length:Int))/\Value.iface 282 (Value.agg (Array.mk [vI (nth l (Int.toNat 0))]))=Value.iface 282 (Value.agg (Array.mk [vI n]))) func76 ?_;subst h;exact⟨rfl,by simp,rfl⟩
def Aqx (S:SP Gl) (n a b c:Int) (l:List Int) (h:l=[n,a,b,c]):CR Gl 76 [.d (.agg [Ci 2,.l eI l])] (.d (.c (Aqw n a b c))):=by
 refine Ag S (let A0:=(l.length:Int);((.ff (.tt .nil)),(false=false/\true=true/\((0:Int)<=0/\0<A0)/\((0:Int)<=1/\1<A0)/\((0:Int)<=2/\2<A0)/\((0:Int)<=3/\3<A0)/\Value.iface 284 (Value.agg (Array.mk [vI (nth l (Int.toNat 0)),vI (nth l (Int.toNat 1)),vI (nth l (Int.toNat 2)),vI (nth l (Int.toNat 3))]))=Value.iface 284 (Value.agg (Array.mk [vI n,vI a,vI b,vI c]))))) func76 ?_;dsimp only;subst h;simp only[stdS,aL,aB,and_true];exact⟨by simp,by simp,by simp,by simp,rfl⟩
def Acv (S:SP Gl) (n h:Int) (m l:List Int) (hl:l=n::h::m):CR Gl 76 [.d (.agg [Ci 3,.l eI l])] (.d (.c (aCol n h m))):=by
 refine Ag S (let A0:=(l.length:Int);((.ff (.ff (.tt .nil))),(false=false/\false=false/\true=true/\((0:Int)<=0/\0<A0)/\((0:Int)<=1/\1<A0)/\((0:Int)<=2/\2<=A0/\A0<=l.length)/\289=289/\Fz [Ci (nth l (Int.toNat 0)),Ci (nth l (Int.toNat 1)),C.s Tag.n (Int.toNat (A0-2)) λi=>eI (nth l (Int.toNat 2+i))] [Ci n,Ci h,C.l eI m]))) func76 ?_;dsimp only;subst hl;simp only[stdS,aL,aB,and_true,cQ];refine⟨by omega,by omega,by omega,.inl rfl,.inl rfl,.inr (.inr ⟨_,_,_,_,_,_,rfl,rfl,by omega,λi _=>?_⟩),trivial⟩;grind[nth]
def Bdw (S:SP Gl) (n:Int) (l:List Int):DO Gl yd0 239 [.addr FAR 0,I n] [(2,FAR,live),(FAR+3,5,L eI l)] (.ret (B (inR n 0 ((l.length:Int) - 1)))) []:=by
 refine Bs S (let A0:=((l.length:Int)-1);((rt (B (inR n 0 A0)) .nil),(l.length<=maxLen->iR A0/\CR Gl 143 [I n,I 0,I A0] (B (inR n 0 A0))/\inR n 0 A0=inR n 0 A0/\sR eI l))) func239 ?_;simp only[stdS,aL,aB,and_true,Ad,Ap];grind[Iv]
def Air (S:SP Gl) (r:Int) (l:List Int) (h1:1<=l.length) (h2:0<=r/\r<=12):DO Gl yd0 241 [.addr FAR 0] [(2,FAR,live),(FAR+3,1,I r),(FAR+3,5,L eI l)] (.ret (I (r.tdiv l.length))) []:=by
 refine Fp S .nil (l.length<=maxLen->((l.length:Int)≠(0:Int)/\iR (Int.tdiv r l.length))/\Int.tdiv r l.length=Int.tdiv r l.length/\r=r/\sR eI l) func241 ?_;simp only[stdS,aL,aB,and_true,Ad,Ap];have:=Int.natAbs_tdiv_le_natAbs r l.length;grind
def Ep (s:St) (sheet hand:Int):Bool:=match s.tk sheet with
 |some g=>g.one==hand||g.other==hand
 |none=>false
theorem Za {s:St} {n:Int} (h:tkD s [n]=false):s.tk n=none:=by
 cases hx:s.tk n with
 |none=>rfl
 |some g=>simp[tkD,hx]at h
theorem Bdx (S:SP Gl) (s:St) (sheet hand:Int) (h:tkD s [sheet]=false):DO Gl yd0 154 [.addr FAR 0,I sheet,I hand] [(2,FAR,live),(FAR+3,17,.mp (FAR+1)),(2,FAR+1,mTk s)] (.ret (B false)) []:=by
 refine Bs S (let A0:=Option.getD (s.3 sheet) (Gvn.mk 0 0 0 0);let P0:=λ(zz:Prop)=>false=false/\false=false/\zz;((.val 17 false (.skip 20 (.skip 21 (.skip 22 (.skip 23 (.skip 24 (.skip 25 (.skip 26 (.skip 27 (.skip 28 (.skip 29 (.skip 30 (.skip 31 .nil))))))))))))),((tkD s [sheet]=false->[Ci A0.1,Ci A0.2,Ci A0.3,Ci A0.4]=[Ci 0,Ci 0,Ci 0,Ci 0])/\tkD s [sheet]=false/\P0 (P0 (P0 (P0 (P0 (P0 ((false=true->false=true)/\false=false/\MEq (tkD s) (tkV s) (tkD s) (tkV s)))))))))) func154 ?_;dsimp only;grind[Za,Bj]
theorem Bdy (S:SP Gl) (s:St) (sheet hand:Int) (h:tkD s [sheet]=true) (h2:(((s.tk sheet).getD ⟨0,0,0,0⟩).one==hand)=true):DO Gl yd0 154 [.addr FAR 0,I sheet,I hand] [(2,FAR,live),(FAR+3,17,.mp (FAR+1)),(2,FAR+1,mTk s)] (.ret (B true)) []:=by
 refine Bs S (let A0:=Option.getD (s.3 sheet) (Gvn.mk 0 0 0 0);((.val 17 true (.sure 20 (.sure 21 (.sure 22 (.sure 23 (.val 24 true (.sure 24 (.sure 25 (.skip 26 (.skip 27 (.skip 28 (.skip 29 (.skip 30 (.sure 31 .nil)))))))))))))),((tkD s [sheet]=false->[Ci A0.1,Ci A0.2,Ci A0.3,Ci A0.4]=[Ci 0,Ci 0,Ci 0,Ci 0])/\tkD s [sheet]=true/\true=true/\true=true/\true=true/\true=true/\(A0.1==hand)=true/\true=true/\true=true/\false=false/\false=false/\false=false/\false=false/\false=false/\true=true/\(true=false->false=true)/\true=true/\MEq (tkD s) (tkV s) (tkD s) (tkV s)))) func154 ?_;dsimp only;grind[Bj]
theorem Bdz (S:SP Gl) (s:St) (sheet hand:Int) (h:tkD s [sheet]=true) (h2:(((s.tk sheet).getD ⟨0,0,0,0⟩).one==hand)=false):DO Gl yd0 154 [.addr FAR 0,I sheet,I hand] [(2,FAR,live),(FAR+3,17,.mp (FAR+1)),(2,FAR+1,mTk s)] (.ret (B (((s.tk sheet).getD ⟨0,0,0,0⟩).other==hand))) []:=by
 refine Bs S (let A0:=Option.getD (s.3 sheet) (Gvn.mk 0 0 0 0);let P0:=λ(zz:Prop)=>true=true/\true=true/\zz;((.val 17 true (.sure 20 (.sure 21 (.sure 22 (.sure 23 (.val 24 false (.sure 24 (.sure 25 (.sure 26 (.sure 27 (.sure 28 (.sure 29 (.sure 30 (.sure 31 .nil)))))))))))))),((tkD s [sheet]=false->[Ci A0.1,Ci A0.2,Ci A0.3,Ci A0.4]=[Ci 0,Ci 0,Ci 0,Ci 0])/\tkD s [sheet]=true/\P0 (P0 ((A0.1==hand)=false/\P0 (P0 (P0 (P0 ((bif true then bif false then true else A0.2==hand else false)=(A0.2==hand)/\MEq (tkD s) (tkV s) (tkD s) (tkV s)))))))))) func154 ?_;dsimp only;grind[Bj]
def Hg (s:St) (n a b c:Int):St:={ s with tk:=λx=>bif x==n then some ⟨a,b,c,s.day⟩ else s.tk x }
def bk1 (b:Gv.Book) (n:Int):Gv.Book:={ b with sheets:=[nth b.sheets n.toNat] }
def whyR (S:SP Gl) (b:Gv.Book) (x:Int) (t:Gv.Task) (n m:Nat) (f g:Nat->List C) (hw:Gv.whyErr (bk1 b x) [t]=5) (h1:SEq n f 1 λi=>eI (nth [nth b.sheets x.toNat] i)) (h2:SEq m g 1 λi=>Gv.eTask (nth [t] i)):
  CR Gl 240 [.d (.agg [.l Gv.eComp b.comps,.l eI b.dues,.s .n n f]),.d (.c (.s .n m g))] (.tup [.c (Ci (Gv.whyS (bk1 b x) [t])),.c (Ci (Gv.whyF (bk1 b x) [t])),.c (Ci 5)]):=by
 have h:=Gv.why23 S (bk1 b x) [t];rw[hw]at h;exact h.args ⟨Ax rfl,Ax rfl,h1,h2⟩
def Be0 {s:St} {n a b c:Int}:MEq (Bw (tkD s) [n]) (Cr (tkV s) [n] (List.map C.dem [Ci a,Ci b,Ci c,Ci s.day])) (tkD (Hg s n a b c)) (tkV (Hg s n a b c)):=by
 have hd:∀x,tkD (Hg s n a b c) [x]=(x==n||tkD s [x]):=λx=>by
  show (bif x==n then some (Gvn.mk a b c s.day) else s.tk x).isSome=(x==n||(s.tk x).isSome)
  grind
 have hv:∀x,x≠n->tkV (Hg s n a b c) [x]=tkV s [x]:=λx h=>by
  grind[tkV,Hg]
 have hn:tkV (Hg s n a b c) [n]=[Ci a,Ci b,Ci c,Ci s.day]:=by
  unfold tkV Hg;simp only[dT,bA,Option.getD_some]
  rfl
 refine λk=>⟨?_,λh=>.inl ?_⟩
 ·rw[fT,Ij]
  match k with
  | [x]=>rw[hd];simp
  | []=>simp[tkD]
  |_::_::_=>simp[tkD]
 ·rw[Ny];rw[Ij]at h
  by_cases hk:k=[n]
  ·rw[bG hk,hk,hn];rfl
  ·rw[bI hk];have h:=h.resolve_left hk
   match k,hk,h with
   | [x],hk,_=>exact (hv x λe=>hk (by rw[e])).symm
   | [],_,h=>simp[tkD]at h
   |_::_::_,_,h=>simp[tkD]at h
def Be1 (S:SP Gl) (s:St) (n a b c:Int) (h0:tkD s [n]=false) (h1:inR n 0 ((s.su.b.sheets.length:Int) - 1)=true) (h2:s.su.b.sheets.length<=3) (hw:Gv.whyErr (bk1 s.su.b n) [⟨a,b,c⟩]=5):DO Gl yd0 152 [.addr FAR 0,.d (.agg [Ci n,Ci a,Ci b,Ci c])] [(2,FAR,live),(FAR+3,3,.d (.c (.l Gv.eComp s.su.b.comps))),(FAR+3,4,L eI s.su.b.dues),(FAR+3,5,L eI s.su.b.sheets),(FAR+3,16,I s.day),(FAR+3,17,.mp (FAR+1)),(2,FAR+1,mTk s)] (.ret (.tup [])) [(2,FAR+1,mTk (Hg s n a b c))]:=by
 refine Bs S (let A3:=Su.b (St.su s);let A2:=Gv.Book.sheets A3;let A1:=Option.getD (s.3 n) (Gvn.mk 0 0 0 0);let A0:=[D.c (Ci (Gv.whyS (bk1 A3 n) [Gv.Task.mk a b c])),D.c (Ci (Gv.whyF (bk1 A3 n) [Gv.Task.mk a b c])),D.c (Ci 5)];((.val 19 false (.val 23 true (.w [(FAR,FAR)] [aF 0,I n] [(2,FAR,live),(FAR+3,5,L eI A2)] (.ret (B (inR n 0 ((↑(List.length A2):Int)-1)))) [] (.sure 25 (.sure 26 (rs [.tup [],.tup A0,.tup []] .nil)))))),((tkD s [n]=false->[Ci A1.1,Ci A1.2,Ci A1.3,Ci A1.4]=[Ci 0,Ci 0,Ci 0,Ci 0])/\tkD s [n]=false/\inR n 0 ((s.1.2.3.length:Int)-1)=true/\n=n/\sR eI s.1.2.3/\DO Gl yd0 239 [aF 0,I n] [(2,FAR,live),(FAR+3,5,L eI A2)] (.ret (B (inR n 0 ((↑(ln A2):Int)-1)))) []/\tt 2 (CR Gl 74 [B true,Str (ByteArray.mk #[(115:UInt8),(104:UInt8),(101:UInt8),(101:UInt8),(116:UInt8)])] (.tup [])/\iR (n+(1:Int))/\((0:Int)<=n/\n<=n+(1:Int)/\n+1<=(s.1.2.3.length:Int))/\CR Gl 240 [tA [C.l Gv.eComp (Gv.Book.comps A3),C.l eI (Gv.Book.dues A3),C.s Tag.n (Int.toNat (n+(1:Int)-n)) λi=>eI (nth s.1.2.3 (Int.toNat n+i))],tS 1 (gD [List.map C.dem (List.map C.dem [Ci a,Ci b,Ci c])])] (.tup A0)/\CR Gl 74 [B true,Str (ByteArray.mk #[(116:UInt8),(97:UInt8),(115:UInt8),(107:UInt8)])] (.tup [])/\True/\MEq (Bw (tkD s) [n]) (Cr (tkV s) [n] (List.map C.dem [Ci a,Ci b,Ci c,Ci s.2])) (tkD (Hg s n a b c)) (tkV (Hg s n a b c))/\(SEq s.1.2.1.length (λi=>Gv.eComp (nth s.1.2.1 i)) s.1.2.1.length λi=>Gv.eComp (nth s.1.2.1 i))/\sR eI s.1.2.2/\sR eI s.1.2.3/\s.2=s.2)))) func152 ?_;have hr:=Bi.1 h1
 simp only[stdS,aL,aB,and_true,Ad];refine⟨λh=>by rw[Za h];rfl,h0,h1,Bdw S _ _,Lv S _,by omega,by omega,whyR S _ _ _ _ _ _ _ hw (.of ⟨by omega,λi hi=>?_⟩) (.of ⟨rfl,λi hi=>?_⟩),Lv S _,Be0,trivial⟩
 ·have:i=0:=by omega
  subst this;rfl
 ·have:i=0:=by omega
  subst this;rfl
def Ais (s:St) (n:Int):St:={ s with day:=s.day+n }
def Aqy (S:SP Gl) (s:St) (n a b c:Int) (h0:tkD s [n]=false) (h1:inR n 0 ((s.su.b.sheets.length:Int) - 1)=true) (h2:s.su.b.sheets.length<=3) (hw:Gv.whyErr (bk1 s.su.b n) [⟨a,b,c⟩]=5):DO Gl yd0 75 [.addr FAR 0,.d (.c (Aqw n a b c))] (stB FAR (FAR+1) s) (.ret (.tup [])) (stB FAR (FAR+1) (Hg s n a b c)):=by
 refine Bs S (let A5:=[aF 0,tA [Ci n,Ci a,Ci b,Ci c]];let A1:=Su.b (St.su s);let A4:=(FAR+3,4,L eI (Gv.Book.dues A1));let A3:=(FAR+3,5,L eI (Gv.Book.sheets A1));let A2:=(FAR+3,3,L Gv.eComp (Gv.Book.comps A1));let A0:=Hg s n a b c;((.ff (.tt (.w [(FAR,FAR),(FAS,FAS)] A5 [(2,FAR,live),A2,A4,A3,(FAR+3,16,I (St.day s)),(FAR+3,17,T.mp (FAR+1)),(2,FAR+1,mTk s)] (.ret (.tup [])) [(2,FAR+1,mTk A0)] .nil))),(false=false/\tt 1 (n=n/\a=a/\b=b/\c=c/\(SEq s.1.2.1.length (λi=>Gv.eComp (nth s.1.2.1 i)) s.1.2.1.length λi=>Gv.eComp (nth s.1.2.1 i))/\sR eI s.1.2.2/\sR eI s.1.2.3/\s.2=s.2/\MEq (tkD s) (tkV s) (tkD s) (tkV s)/\DO Gl yd0 152 A5 [(2,FAR,live),A2,A4,A3,(FAR+3,16,I (St.day s)),(FAR+3,17,T.mp (FAR+1)),(2,FAR+1,mTk s)] (.ret (.tup [])) [(2,FAR+1,mTk A0)]/\True/\zC (List.take 15 (cS (s.1))) (s.2=s.2/\MEq (tkD A0) (tkV A0) (tkD A0) (tkV A0)/\MEq (coD s) (coV s) (coD A0) (coV A0)/\MEq (riD s) (riV s) (riD A0) (riV A0)/\MEq (paD s) (paV s) (paD A0) (paV A0)))))) func75 ?_;simp only[stdS,aL,aB,and_true];exact⟨Bj,Be1 S s n a b c h0 h1 h2 hw,Bj,Bj,Bj,Bj⟩
def Be2 (S:SP Gl) (s:St) (n:Int) (h1:1<=n) (h2:s.day+n<=99) (h3:0<=s.day):DO Gl yd0 75 [.addr FAR 0,.d (.c (Aqv n))] (stB FAR (FAR+1) s) (.ret (.tup [])) (stB FAR (FAR+1) (Ais s n)):=by
 refine Bs S (let A0:=Ais s n;((.tt (.val 24 true (.sure 26 (.sure 27 (.sure 28 (.sure 29 (.sure 30 (.sure 31 (.sure 32 (.val 33 true (.sure 33 (rt (.tup []) .nil)))))))))))),(tt 1 (decide ((1:Int)<=n)=true/\tt 7 (iR (s.2+n)/\decide (s.2+n<=(99:Int))=true/\tt 1 (CR Gl 74 [B true,Str (ByteArray.mk #[(100:UInt8),(97:UInt8),(121:UInt8),(115:UInt8)])] (.tup [])/\iR (s.2+n)/\True/\zC (List.take 15 (cS (s.1))) (s.2+n=s.2+n/\MEq (tkD s) (tkV s) (tkD A0) (tkV A0)/\MEq (coD s) (coV s) (coD A0) (coV A0)/\MEq (riD s) (riV s) (riD A0) (riV A0)/\MEq (paD s) (paV s) (paD A0) (paV A0)))))))) func75 ?_;simp only[stdS,aL,aB,and_true,Ad];exact⟨eR h1,by omega,eR h2,Lv S _,by omega,Bj,Bj,Bj,Bj⟩
def Hv (s:St) (n h:Int) (m:List Int):St:={ s with co:=λa b=>bif a==n&&b==h then some m else s.co a b }
def Be3 (S:SP Gl) (l:List Int) (hl:(⟨[l],[0]⟩:Sheet).ok=true) (n m:Nat) (f g:Nat->List C) (h1:SEq n f 1 λi=>Ar (nth [l] i)) (h2:SEq m g 1 λi=>eI (nth [0] i)):
  CR Gl 242 [.d (.agg [.s .n n f,.s .n m g])] (I 0):=by
 have h:=Ayd S ⟨[l],[0]⟩;rw[hl]at h;exact h.args ⟨h1,h2⟩
def Be4 {s:St} {a b:Int} (h:coD s [a,b]=false):s.co a b=none:=by
 cases hx:s.co a b with
 |none=>rfl
 |some g=>simp[coD,hx]at h
def Be5 {s:St} {n h:Int} {m:List Int}:MEq (Bw (coD s) [n,h]) (Cr (coV s) [n,h] (List.map C.dem [C.l eI m])) (coD (Hv s n h m)) (coV (Hv s n h m)):=by
 have hd:∀x y,coD (Hv s n h m) [x,y]=((x==n&&y==h)||coD s [x,y]):=λx y=>by
  show (bif x==n&&y==h then some m else s.co x y).isSome=((x==n&&y==h)||(s.co x y).isSome)
  grind
 have hv:∀x y,(x==n&&y==h)=false->coV (Hv s n h m) [x,y]=coV s [x,y]:=λx y e=>by
  show eN (bif x==n&&y==h then some m else s.co x y)=eN (s.co x y)
  rw[e];rfl
 have hn:coV (Hv s n h m) [n,h]=[.l eI m]:=by
  show eN (bif n==n&&h==h then some m else s.co n h)=_
  rw[dT,dT];rfl
 refine λk=>⟨?_,λe=>.inl ?_⟩
 ·rw[fT,Ij]
  match k with
  | [x,y]=>rw[hd];simp
  | []=>simp[coD]
  | [_]=>simp[coD]
  |_::_::_::_=>simp[coD]
 ·rw[Ny];rw[Ij]at e
  by_cases hk:k=[n,h]
  ·rw[bG hk,hk,hn];rfl
  ·rw[bI hk];have e:=e.resolve_left hk
   match k,hk,e with
   | [x,y],hk,_=>exact (hv x y (by
     rw[fI];intro he;simp only[aE,dI]at he;exact hk (by rw[he.1,he.2]))).symm
   | [],_,e=>simp[coD]at e
   | [_],_,e=>simp[coD]at e
   |_::_::_::_,_,e=>simp[coD]at e
def preW (s:St):Env:=[(2,FAR,live),(FAR+3,1,I s.su.p.rows),(FAR+3,3,.d (.c (.l Gv.eComp s.su.b.comps))),(FAR+3,5,L eI s.su.b.sheets),(FAR+3,16,I s.day),(FAR+3,17,.mp (FAR+1)),(FAR+3,18,.mp (FAR+2)),(2,FAR+1,mTk s),(2,FAR+2,mCo s)]
abbrev home (s:St) (n h:Int):Int:=((s.tk n).getD ⟨0,0,0,0⟩).day+2*(nth s.su.b.comps h.toNat).post.lo+(nth s.su.b.comps h.toNat).sheet.lo
def Be6 {b:Gv.Book} (h:b.ok=true) {k:Nat} (hk:k<b.comps.length):(0<=(nth b.comps k).post.lo/\(nth b.comps k).post.lo<=5)/\(1<=(nth b.comps k).sheet.lo/\(nth b.comps k).sheet.lo<=5):=by
 grind[Gv.Book.ok,Bi,Fj,Gv.Comp.fine,Span.isIn]
structure WrOK (s:St) (n h:Int) (m:List Int):Prop where
 co:coD s [n,h]=false
 tk:tkD s [n]=true
 len:((m.length:Int)==s.su.p.rows.tdiv s.su.b.sheets.length)=true
 col:(⟨[m],[0]⟩:Sheet).ok=true
 rows:0<=s.su.p.rows/\s.su.p.rows<=12
 book:s.su.b.ok=true
 hand:inR h 0 ((s.su.b.comps.length:Int) - 1)=true
 day:0<=((s.tk n).getD ⟨0,0,0,0⟩).day/\((s.tk n).getD ⟨0,0,0,0⟩).day<=99
 ml:1<=m.length/\m.length<=1000
theorem Be7 (S:SP Gl) (s:St) (n h:Int) (m:List Int) (W:WrOK s n h m) (hI:DO Gl yd0 154 [.addr FAR 0,I n,I h] [(2,FAR,live),(FAR+3,17,.mp (FAR+1)),(2,FAR+1,mTk s)] (.ret (B true)) []) (hd:decide (home s n h<=s.day)=true):DO Gl yd0 153 [.addr FAR 0,.d (.agg [Ci n,Ci h,.l eI m])] (preW s) (.ret (.tup [])) [(2,FAR+2,mCo (Hv s n h m))]:=by
 refine Bs S (let A5:=(2,FAR,live);let A6:=[A5,(FAR+3,17,T.mp (FAR+1)),(2,FAR+1,mTk s)];let A4:=[C.s Tag.n m.length λi=>eI (nth m i)];let A3:=nth s.1.2.1 (Int.toNat h);let A2:=Plan.rows (Su.p (St.su s));let A1:=Gv.Book.sheets (Su.b (St.su s));let A7:=[A5,(FAR+3,1,I A2),(FAR+3,5,L eI A1)];let A0:=Option.getD (s.3 n) (Gvn.mk 0 0 0 0);((.val 16 false (.w [(FAR,FAR),(FAS,FAS)] [aF 0,I n,I h] A6 (.ret (B true)) [] (.sure 26 (.sure 27 (rt (.tup []) (.w [(FAR,FAR)] [aF 0] A7 (.ret (I (Int.tdiv A2 (↑(List.length A1):Int)))) [] (.val 35 true (.sure 37 (.sure 38 (.sure 39 (.sure 40 (.sure 41 (.sure 42 (rt (I 0) (.sure 43 (rt (.tup []) (.val 79 true (rs [.tup [],L eI m] .nil)))))))))))))))))),((coD s [n,h]=false->[oC (s.4 n h)]=[cN])/\coD s [n,h]=false/\n=n/\h=h/\MEq (tkD s) (tkV s) (tkD s) (tkV s)/\DO Gl yd0 154 [aF 0,I n,I h] A6 (.ret (B true)) []/\tt 2 (CR Gl 74 [B true,Str (ByteArray.mk #[(104:UInt8),(97:UInt8),(110:UInt8),(100:UInt8)])] (.tup [])/\(m.length<=maxLen->s.1.1.2=s.1.1.2/\sR eI s.1.2.3/\DO Gl yd0 241 [aF 0] A7 (.ret (I (Int.tdiv A2 (↑(ln A1):Int)))) []/\((m.length:Int)==Int.tdiv s.1.1.2 s.1.2.3.length)=true/\tt 6 (CR Gl 242 [tA [C.s Tag.n 1 (gD [List.map C.dem A4]),C.s Tag.n 1 (gD [mI 0])]] (I 0)/\tt 1 (CR Gl 74 [B true,Str (ByteArray.mk #[(99:UInt8),(111:UInt8),(108:UInt8),(117:UInt8),(109:UInt8),(110:UInt8)])] (.tup [])/\((0:Int)<=h/\h<(s.1.2.1.length:Int))/\(tkD s [n]=false->[Ci A0.1,Ci A0.2,Ci A0.3,Ci A0.4]=[Ci 0,Ci 0,Ci 0,Ci 0])/\iR ((2:Int)*A3.2.1)/\iR (A0.4+(2:Int)*A3.2.1)/\iR (A0.4+(2:Int)*A3.2.1+A3.3.1)/\decide ((Option.getD (s.3 n) (Gvn.mk 0 0 0 0)).4+(2:Int)*(nth s.1.2.1 (Int.toNat h)).2.1+(nth s.1.2.1 (Int.toNat h)).3.1<=s.2)=true/\CR Gl 74 [B true,Str (ByteArray.mk #[(100:UInt8),(97:UInt8),(121:UInt8)])] (.tup [])/\CR Gl 69 [L eI m] (L eI m)/\True/\MEq (Bw (coD s) [n,h]) (Cr (coV s) [n,h] (List.map C.dem A4)) (coD (Hv s n h m)) (coV (Hv s n h m))/\s.1.1.2=s.1.1.2/\(SEq s.1.2.1.length (λi=>Gv.eComp (nth s.1.2.1 i)) s.1.2.1.length λi=>Gv.eComp (nth s.1.2.1 i))/\sR eI s.1.2.3/\s.2=s.2/\MEq (tkD s) (tkV s) (tkD s) (tkV s)))))))) func153 ?_
 have hc:=Bi.1 W.hand;have hf:=Be6 W.book (k:=h.toNat) (by omega);have hdd:=W.day;simp only[stdS,aL,aB,and_true,Ad,Ap];refine⟨λh=>by rw[Be4 h];rfl,W.co,Bj,hI,Lv S _,λ_=>⟨Air S _ _ (Acs W.book).1 W.rows,W.len,Be3 S m W.col _ _ _ _ (.of ⟨rfl,λi hi=>?_⟩) (.of ⟨rfl,λi hi=>?_⟩),Lv S _,by omega,λh=>by rw[Za h];rfl,by omega,by omega,by omega,hd,Lv S _,Mz S m W.ml.1 W.ml.2,Be5,Bj⟩⟩
 ·have:i=0:=by omega
  subst this;rfl
 ·have:i=0:=by omega
  subst this;rfl
def Acw (S:SP Gl) (s:St) (n h:Int) (m:List Int) (W:WrOK s n h m) (hI:DO Gl yd0 154 [.addr FAR 0,I n,I h] [(2,FAR,live),(FAR+3,17,.mp (FAR+1)),(2,FAR+1,mTk s)] (.ret (B true)) []) (hd:decide (home s n h<=s.day)=true):DO Gl yd0 75 [.addr FAR 0,.d (.c (aCol n h m))] (stB FAR (FAR+1) s) (.ret (.tup [])) (stB FAR (FAR+1) (Hv s n h m)):=by
 refine Bs S (let A1:=[aF 0,tA [Ci n,Ci h,C.l eI m]];let A0:=Hv s n h m;((.ff (.ff (.tt (.w [(FAR,FAR),(FAS,FAS),(FAT,FAT)] A1 (preW s) (.ret (.tup [])) [(2,FAR+2,mCo A0)] .nil)))),(false=false/\false=false/\tt 1 (n=n/\h=h/\sR eI m/\s.1.1.2=s.1.1.2/\(SEq s.1.2.1.length (λi=>Gv.eComp (nth s.1.2.1 i)) s.1.2.1.length λi=>Gv.eComp (nth s.1.2.1 i))/\sR eI s.1.2.3/\s.2=s.2/\MEq (tkD s) (tkV s) (tkD s) (tkV s)/\MEq (coD s) (coV s) (coD s) (coV s)/\DO Gl yd0 153 A1 (preW s) (.ret (.tup [])) [(2,FAR+2,mCo A0)]/\True/\zC (List.take 15 (cS (s.1))) (s.2=s.2/\MEq (tkD s) (tkV s) (tkD A0) (tkV A0)/\MEq (coD A0) (coV A0) (coD A0) (coV A0)/\MEq (riD s) (riV s) (riD A0) (riV A0)/\MEq (paD s) (paV s) (paD A0) (paV A0)))))) func75 ?_;simp only[stdS,aL,aB,and_true];exact⟨Bj,Bj,Be7 S s n h m W hI hd,Bj,Bj,Bj,Bj⟩
def Be8 (S:SP Gl) (l:List Py.Line) (h1:1<=l.length) (h2:l.length<=1000):CR Gl 147 [L Py.eLine l] (.tkd 194 10 l.length λi=>Py.eLine (nth l i)):=by
 refine Ao S (.ff .nil) (0<l.length/\false=false/\(0+l.length)*80<=140737488355328/\0+l.length<=140737488355328/\SEq (0+l.length) (An 0 (λx=>[]) λi=>Py.eLine (nth l i)) l.length λi=>Py.eLine (nth l i)) func147 ?_;refine⟨by omega,rfl,by omega,by omega,.of ⟨by omega,λi hi=>?_⟩⟩;trivial
noncomputable def Sf:List Code×Code:=match Tryz.f66.body with|some c=>Pn 6 c|none=>([],.skip)
def cp66B:Tryz.f66.body=some (Hm Sf.1 Sf.2):=by kernel_rfl
def sTx (s:Su) (x:T):List T:=[.d (.c (.l Ae s.p.starts)),I s.p.rows,I s.p.guard,.d (.c (.l Gv.eComp s.b.comps)),L eI s.b.dues,L eI s.b.sheets,I s.e,I s.pl,x,I s.y.hands,I s.y.unit,I s.y.sheet,I s.y.error,I s.y.morn,I s.y.post]
def E66 (s:Su):Env:=v 1 (ad 1)::v 2 (ad 2)::(2,32,.arrc false 2 s.cs.length λi=>eCp (nth s.cs i))::tk 100057 194::(4,15,Lt 100057 Py.eLine s.y.lines)::(bT 1 (sTx s (.arr 32 s.cs.length))++bx 2 u16)
def R66 (s:Su) (vis:Nat->Nat) (w:World) (en:Ending) (w':World):Prop:=
 Below w.heap.size w w'/\∃(us:List Value) (vis':Nat->Nat) (z:Option Nat),en=.returned (.agg us.toArray)/\(∀b,b<w.heap.size->vis' b=vis b)/\(∀b,w'.heap.size<=b->vis' b=0)/\Aw vis' w' (cS s) us/\XC 10 (Gh0 vis') w' [] 194 s.y.lines.length (λi=>Py.eLine (nth s.y.lines i)) (us.getD 15 undef) z/\∀b,z=some b->w.heap.size<=b
noncomputable def Zb:Array Oper:=match Sf.2 with| .seq (.region _ o _) _=>o|_=>#[]
noncomputable def Na (i:Nat):Oper:=(Zb[i]?).getD default
def cp66E:Sf.2=.seq (.region 10 Zb false) .ret:=by kernel_rfl
def cp66C:List.range Zb.size=[0,1]/\(Zb[0]?=some (Na 0)/\(Na 0).guard=none/\(Na 0).op=.load 72 (.tmp 1)/\(Na 0).dst=some 60)/\(Zb[1]?=some (Na 1)/\(Na 1).guard=none/\(Na 1).op=.store 72 (.tmp 2) (.tmp 60)/\(Na 1).dst=none):=
 by trivial
def cs66 (s:Su):List C:=[.l Ae s.p.starts,Ci s.p.rows,Ci s.p.guard,.l Gv.eComp s.b.comps,.l eI s.b.dues,.l eI s.b.sheets,Ci s.e,Ci s.pl,.s .n s.cs.length λi=>eCp (nth s.cs i),Ci s.y.hands,Ci s.y.unit,Ci s.y.sheet,Ci s.y.error,Ci s.y.morn,Ci s.y.post,.lt 100057 Py.eLine s.y.lines]
def box66 (s:Su):((Qn 1 16 0).run (E66 s).get []).map (·.1)=some (cs66 s,[s.cs.length=s.cs.length],[(2,32,.arrc true 2 s.cs.length λi=>eCp (nth s.cs i))]):=by kernel_rfl
def Be9 {vis:Nat->Nat} {w:World} {s:Su} {us:List Value} (h:Aw vis w (cs66 s) us):Aw vis w (cS s) us:=by
 refine⟨h.1,λj c v hc hv=>?_⟩
 match j,hc,hv with
 |0,hc,hv=>exact h.2 0 _ _ hc hv
 |1,hc,hv=>exact h.2 1 _ _ hc hv
 |2,hc,hv=>exact h.2 2 _ _ hc hv
 |3,hc,hv=>exact h.2 3 _ _ hc hv
 |4,hc,hv=>exact h.2 4 _ _ hc hv
 |5,hc,hv=>exact h.2 5 _ _ hc hv
 |6,hc,hv=>exact h.2 6 _ _ hc hv
 |7,hc,hv=>exact h.2 7 _ _ hc hv
 |8,hc,hv=>exact h.2 8 _ _ hc hv
 |9,hc,hv=>exact h.2 9 _ _ hc hv
 |10,hc,hv=>exact h.2 10 _ _ hc hv
 |11,hc,hv=>exact h.2 11 _ _ hc hv
 |12,hc,hv=>exact h.2 12 _ _ hc hv
 |13,hc,hv=>exact h.2 13 _ _ hc hv
 |14,hc,hv=>exact h.2 14 _ _ hc hv
 |15,hc,hv=>cases hc;exact Xl (h.2 15 _ v rfl hv)
 |n+16,hc,hv=>cases hc
def ops_skip {P:Program} {a:Act} {w:World} {ops:Array Oper} {Q:Exit->Act->World->Prop} {i:Nat} {l:List Nat} {o:Oper} {w':World} {rd:Option Nat} {fu:Nat} (ho:ops[i]?=some o) (hg:o.guard=none) (aq:∀c,o.op≠.defer c) (hr:(execOp a.eval o).run P w=.ok .skip w')
  (h:wpOpsIn (Fr rd) fu P ops Q l (a.put o.dst undef) w'):wpOpsIn (Fr rd) fu P ops Q (i::l) a w:=by
 unfold wpOpsIn;rw[ho];dsimp only;rw[bG (by simp[Region.wanted,hg])];refine⟨λ_ _=>trivial,?_⟩;grind[Oper.semAt_eq,Oper.uponIn_skip]
theorem cp66T (S:SP Gl) (s:Su) {X:Cx} {vis:Nat->Nat} {w0:World} {a:Act} {w:World} {G:Gh} (Tl:Tail Tryz.prog Gl Y X Tryz.f66 (E66 s) vis w0 a w G):Sf.2.wpIn (Fr none) 0 Tryz.prog (bodyPostM (Fr none) 0 Tryz.prog Tryz.f66 λen w'=>R66 s vis w0 en w') a w:=by
 have R:=Tl.rel;have hb:=box66 s;cases d7:(Qn 1 16 0).run (E66 s).get [] with
 |none=>grind
 |some q=>
 rw[d7]at hb;simp only[bO,aA]at hb;obtain⟨q1,r'⟩:=q;dsimp only at hb;subst hb;obtain⟨_,hW,us,l1,l2,l3⟩:=Ak8 R 16 d7;obtain⟨G',R',lift,hv,y9,cm,hHH,ec⟩:=Lg R hW;have i6:=l3 hW (λ_ h=>h) (λp hp=>by grind) R' lift
 -- what it is made of
 have p1:a.eval (.tmp 1)=.pointer (some ⟨G.bk 1,0,none⟩):=(R.slots 1).rel;have p2:a.eval (.tmp 2)=.pointer (some ⟨G.bk 2,0,none⟩):=(R.slots 2).rel;obtain⟨b21,b22,b23,cur,ct,b24⟩:=R.mem.box 2 (show live≠T.any from Bc);obtain⟨_,_,ng,c15,_⟩:=R.mem.cells 2 15 (show T.d (.c .u)≠T.any by simp);have w8:16<=cur.size:=by grind[World.cell?]
 obtain⟨_,_,u,d1,d2⟩:=R'.mem.cells 1 15 (show Lt 100057 Py.eLine s.y.lines≠T.any by simp);change VOK G' w X.fz Y _ (Lt 100057 Py.eLine s.y.lines) u at d2;obtain⟨own1,own2⟩:Own G' w Y 100057 194 s.y.lines.length (λi=>Py.eLine (nth s.y.lines i)) u:=d2.own 194 rfl;have hu:us.getD 15 undef=u:=by grind
 have aj:∀v∈us,v.oneCell'=true:=λv hv=>by
  obtain⟨j,hj,rfl⟩:=bM.1 hv;have hc:j<(cs66 s).length:=by omega
  exact Lf (i6.2 j _ _ (aQ hc) (aQ hj))
 have hsz16:(Y 72).size=16:=by kernel_rfl
 obtain⟨j9,⟨a1,a2,a3,a4⟩,⟨e1,e2,e3,e4⟩⟩:=cp66C;rw[cp66E];refine eZ (iB ?_);rw[j9];have r0:(execOp a.eval (Na 0)).run Tryz.prog w=.ok (.value (.agg us.toArray)) w:=by
  have:=Jv (P:=Tryz.prog) (w:=w) yok (t:=72) (by kernel_rfl) (b:=G.bk 1) (off:=0) (us:=us) (by omega) l2;simp[execOp,a3,p1,Instr.loadAt,Instr.sureAddr,this]
 refine Ml a1 a2 (by grind) r0 ?_;rw[a4];have m8:=hS Tryz.prog (G.bk 2) 0 ct us 0 cur w b24 (by omega) aj;generalize au:(cur.toList.take (0+0)++us++cur.toList.drop (0+0+us.length)).toArray=row at m8;obtain⟨w2,hw2⟩:∃w2,w.setRow (G.bk 2) row=w2:=⟨_,rfl⟩
 rw[hw2]at m8;have r1:(execOp (a.put (some 60) (.agg us.toArray)).eval (Na 1)).run Tryz.prog w=.ok .skip w2:=by
  have f1:(a.put (some 60) (.agg us.toArray)).eval (.tmp 2)=.pointer (some ⟨G.bk 2,0,none⟩):=by rw[<-p2];simp[Act.eval,Act.put]
  have f2:(a.put (some 60) (.agg us.toArray)).eval (.tmp 60)=.agg us.toArray:=by
   have:=R.size;rw[Tryz.ntmps66]at this;simp[Act.eval,Act.put,Array.getD,this]
  have ax:(Y 72).known=true:=by kernel_rfl
  have om:us.length=(Y 72).size:=by omega
  simp[execOp,e3,f1,f2,Instr.storeAt,Instr.sureAddr,storeVar,Dq yok ax,m8,Value.cells,<-om]
 refine ops_skip e1 e2 (by grind) r1 ?_;rw[e4];refine wpIn_ret ?_;have ut:w2.heap[G.bk 2]?=some (.cells row ct (0,0)):=by grind[setRow_heap]
 have y8:∀b,b≠G.bk 2->w2.heap[b]?=w.heap[b]?:=λb hb=>by grind[setRow_other]
 have l6:Same w w2:=by rw[<-hw2];exact⟨rfl,rfl,rfl,by simp[World.setRow]⟩
 have jp:cur.size<=row.size:=by grind
 have cj:G'.vis (G.bk 2)=0:=by
  have:=(R'.mem.box 2 (show live≠T.any from Bc)).2.2;rw[y9]at this;exact this.1
 have n8:KeepV G'.vis w w2:=⟨λb k hk=>bF (y8 b λhh=>by grind),λb hb es c he=>by grind,Tm y8 λcs t z aw=>by
  rw[b24]at aw;obtain⟨rfl,rfl,rfl⟩:=Obj.cells.inj (bS aw);exact⟨ut,jp⟩⟩
 show LeavesInM (Fr none) 0 Tryz.prog Tryz.f66 _ _ a.defers .returning w2
 rw[R.defers];have ip:∀D,D∈G.dm->D≠G.bk 2:=λD hD hh=>by
  have:=(R.marks D hD).2.1;grind
 refine Ami (by simp) _ _ G.dm.nd (λD hD=>by rw[y8 D (ip D hD)];exact (R.marks D hD).2.1) λw3 s1 s2 s3=>?_;have cu:w3.heap[G.bk 2]?=some (.cells row ct (0,0)):=(s3 _ λhD=>ip _ hD rfl).trans ut;have hl:=Jv (P:=Tryz.prog) (w:=w3) yok (t:=72) (by kernel_rfl) (b:=G.bk 2) (off:=0) (us:=us) (by omega) λj x hj=>by
  grind[World.cell?]
 have p2':(a.put (some 60) (.agg us.toArray)).tmps.getD 2 undef=.pointer (some ⟨G.bk 2,0,none⟩):=by rw[<-p2];simp[Act.eval,Act.put]
 have fh:(results Tryz.f66 (a.put (some 60) (.agg us.toArray)).tmps).run Tryz.prog w3=.ok (.agg us.toArray) w3:=by
  have hf:Tryz.f66.results=#[.cell 2 72]:=by kernel_rfl
  have he:Tryz.f66.results.mapM (Bd (a.put (some 60) (.agg us.toArray)).tmps)=List.toArray <$> Tryz.f66.results.toList.mapM (Bd (a.put (some 60) (.agg us.toArray)).tmps):=cT ..;have iw:results Tryz.f66 (a.put (some 60) (.agg us.toArray)).tmps=(Tryz.f66.results.mapM (Bd (a.put (some 60) (.agg us.toArray)).tmps) >>= λvs=>pure (if h:vs.size=1 then vs[0] else .tuple vs)):=rfl;have hr1:(Tryz.f66.results.toList.mapM (Bd (a.put (some 60) (.agg us.toArray)).tmps)).run Tryz.prog w3=.ok [.agg us.toArray] w3:=by
   rw[hf]
   show (List.mapM (Bd (a.put (some 60) (.agg us.toArray)).tmps) [.cell 2 72]).run Tryz.prog w3=_
   rw[Oe];simp only[Bd,p2',asAddr];simp[hl,Result.andThen]
  rw[iw,he];simp only[cF,gQ,hr1,bK,eY]
  rfl
 refine⟨.agg us.toArray,fh,?_⟩;have hj:=R'.jj;rw[Tl.J]at hj;have sw:∀b,b<w0.heap.size->w3.heap[b]?=w.heap[b]?:=λb hb=>by
  rw[s3 b λhD=>by have:=(R.marks b hD).2.2;rw[Tl.base]at this;omega];refine y8 b λhh=>?_;have:=(R.ownb 2 (show live≠T.any from Bc)).1 (by decide);rw[Tl.base]at this;omega
 have bf:KeepV G'.vis w w3:=n8.trans (s2 _);refine⟨⟨s1.os.trans (l6.os.trans hj.2.os),s1.tape.trans (l6.tape.trans hj.2.tape),s1.output.trans (l6.output.trans hj.2.output),bJ hj.2.size (bJ l6.size s1.size),λb hb=>(sw b hb).trans (hj.2.block b hb)⟩,us,G'.vis,?_⟩;have qf:=Be9 (i6.mono' (λ_=>aI _) bf);have x9:∀b,b<w0.heap.size->G'.vis b=vis b:=λb hb=>by rw[R'.old b (by rw[Tl.base];exact hb),Tl.vis]
 have ae:∀b,w3.heap.size<=b->G'.vis b=0:=λb hb=>R'.fresh b (bJ (bJ l6.size s1.size) hb);rw[hu];rcases own2 with hn|⟨_,hn⟩|⟨b,xs,q1,q2,q3,q4⟩
 ·exact⟨none,rfl,x9,ae,qf,⟨own1,.inl hn⟩,λ_ h=>by cases h⟩
 ·exact⟨none,rfl,x9,ae,qf,⟨own1,.inr hn⟩,λ_ h=>by cases h⟩
 ·obtain⟨o1,o2,o3,⟨cs,t,o4⟩,o5⟩:=R'.tks _ _ q1;have w6:b≠G.bk 2:=λhh=>o5 2 (show live≠T.any from Bc) (by grind);have hbD:b ∉ G.dm:=λhD=>by rw[(R.marks b hD).2.1]at o4;cases o4
  have hbw:w3.heap[b]?=w.heap[b]?:=(s3 b hbD).trans (y8 b w6);refine⟨some b,rfl,x9,ae,qf,⟨own1,aX o2 (bJ l6.size s1.size),λh=>h,⟨cs,t,hbw.trans o4⟩,λid h=>absurd rfl h,q2,⟨xs,Ws q2 hbw q3⟩,q4⟩,λb' fj=>?_⟩;cases fj;rw[<-Tl.base];exact o1
theorem Aqz (S:SP Gl) (s:Su) (h:okC s=true):Amp Tryz.prog Gl 66 [.d (.agg (cS s))] (R66 s):=by
 refine Amq S (R66 s) (E:=(E66 s)) (xs:=Sf.1) (tl:=Sf.2) (let A0:=List.length (Su.cs s);.r (.ret (T.d (D.c (C.l Ae (Plan.starts (Su.p s)))))) (.r (.ret (T.d (D.c (C.l Gv.eComp (Gv.Book.comps (Su.b s)))))) (.r (.ret (L eI s.2.2)) (.r (.ret (L eI s.2.3)) (.r (.ret (T.own 2 A0 λi=>eCp (nth (Su.cs s) i))) (.loop A0 (λk=>v 39 (I k)::v 38 (I (List.length (Su.cs s):Int))::v 37 (T.arr 32 A0)::v 1 (ad 1)::v 2 (ad 2)::((2:Nat),(32:Nat),T.arrc false 2 A0 λi=>eCp (nth (Su.cs s) i))::(bT 1 (sT s (T.arr 32 A0))++bx 2 u16)) λk0=>.br (.r (.ret (L eI (nth s.5 k0).2)) .nil) (.r (.ret (T.tkd 194 10 (List.length (Py.PBook.lines (Su.y s))) λi=>Py.eLine (nth (Py.PBook.lines (Su.y s)) i))) .nil))))))) func66 (by kernel_rfl) cp66B rfl (let A2:=λ(i:Nat)=>Py.eLine (nth s.6.7 i);let A1:=Py.PBook.lines (Su.y s);let A0:=s.6.6=s.6.6/\SEq s.6.7.length A2 s.6.7.length λi=>Py.eLine (nth s.6.7 i);let P0:=λ(zz:Prop)=>(sR Ae s.1.1)/\s.1.2=s.1.2/\s.1.3=s.1.3/\(SEq s.2.1.length (λi=>Gv.eComp (nth s.2.1 i)) s.2.1.length λi=>Gv.eComp (nth s.2.1 i))/\(sR eI s.2.2)/\(sR eI s.2.3)/\s.3=s.3/\s.4=s.4/\s.5.length=s.5.length/\s.6.1=s.6.1/\s.6.2=s.6.2/\s.6.3=s.6.3/\s.6.4=s.6.4/\s.6.5=s.6.5/\zz;CR Gl 144 [L Ae (Plan.starts (Su.p s))] (T.d (D.c (C.l Ae (Plan.starts (Su.p s)))))/\CR Gl 145 [L Gv.eComp (Gv.Book.comps (Su.b s))] (T.d (D.c (C.l Gv.eComp (Gv.Book.comps (Su.b s)))))/\CR Gl 69 [L eI s.2.2] (L eI s.2.2)/\CR Gl 69 [L eI s.2.3] (L eI s.2.3)/\CR Gl 146 [L eCp (Su.cs s)] (T.own 2 (List.length (Su.cs s)) λi=>eCp (nth (Su.cs s) i))/\(s.5.length<=maxLen->(0=(↑(0:Nat):Int)/\(s.5.length:Int)=s.5.length/\s.5.length=s.5.length/\(sR eCp s.5)/\P0 A0)/\∀(k0:Nat),k0<=List.length (Su.cs s)->(decide ((k0:Int)<s.5.length)=true->(0<=(k0:Int)/\(k0:Int)<s.5.length)/\k0<s.5.length/\CR Gl 69 [L eI (nth s.5 k0).2] (L eI (nth s.5 k0).2)/\(0<=(k0:Int)/\(k0:Int)<s.5.length)/\k0<s.5.length/\iR ((k0:Int)+1)/\k0<List.length (Su.cs s)/\(k0:Int)+1=(↑(k0+1):Int)/\(s.5.length:Int)=s.5.length/\s.5.length=s.5.length/\(SEq s.5.length (Es (λi=>eCp (nth s.5 i)) k0 (Sp 1 (List.map C.dem [C.s Tag.n (List.length (nth s.5 k0).2) λi=>eI (nth (nth s.5 k0).2 i)]) (eCp (nth s.5 k0)))) s.5.length λi=>eCp (nth s.5 i))/\P0 A0)/\(decide ((k0:Int)<s.5.length)=false->CR Gl 147 [L Py.eLine A1] (T.tkd 194 10 (List.length A1) λi=>Py.eLine (nth A1 i))/\(sR eCp s.5)/\(SEq s.6.7.length A2 s.6.7.length λi=>Py.eLine (nth s.6.7 i))/\P0 (s.6.6=s.6.6)))) (by kernel_rfl) ?_ (λX vis w0 a w G T=>cp66T S s T)
 obtain⟨g1,g2,g3,g4⟩:=Aio h;obtain⟨q1,q2,q3,q4,q5,q6⟩:=Acs g2;obtain⟨c1,c2,c3⟩:=Aqt g3;have hp:=plan_len g1;have hy:=(Py.okPB_facts g4).2.2.1;simp only[stdS,aL,aB,and_true,aN,aK,Ad,Ap];refine⟨Aqo S _ hp.1 hp.2,Aqp S _ q3 q4,Mz S _ q5 q6,Mz S _ q1 q2,Aqs S _ c1 (by omega),λ_ k hk=>⟨λhl=>⟨by omega,by omega,Mz S _ (c3 k (by omega)).1 (c3 k (by omega)).2,by omega,by omega,by omega,by omega,by omega,.of ⟨rfl,λi hi=>?_⟩,trivial⟩,λ_=>⟨Be8 S _ hy.1 (by omega),trivial⟩⟩⟩;rw[Aah]
 by_cases hik:i=k
 ·rw[bG hik,hik];rfl
 grind
def Acx {vis:Nat->Nat} {w:World} {kn:Nat} {ag:Bool} {dom:List Int->Bool} {val:List Int->List C} (h:∀k,dom k=false):Pc vis w kn ag dom val #[] 0:=
 ⟨⟨λi en h=>(by simp at h),λk hk=>(by grind),λi j en bg k h=>(by simp at h),Ajy 0⟩,λi en k h=>(by simp at h)⟩
def Bea (s:Su):(∀k,tkD (Hu s) k=false)/\(∀k,coD (Hu s) k=false)/\(∀k,riD (Hu s) k=false)/\∀k,paD (Hu s) k=false:=
 ⟨λk=>by unfold tkD;split<;>rfl,λk=>by unfold coD;split<;>rfl,λk=>by unfold riD;split<;>rfl,λk=>by unfold paD;split<;>rfl⟩
def Beb {vis:Nat->Nat} {w:World} (o:Obj) (h:∀b,w.heap.size<=b->vis b=0):KeepV vis w (w.alloc o):=
 ⟨λb i hi=>bF (Cm w o (by
  grind)),λb hb es c he=>by grind[Cm],Me λb h=>Cm w o h⟩
def Ar0 {α:Type} {us:List α} (h:us.length=16):∃a0 a1 a2 a3 a4 a5 a6 a7 a8 a9 qt a11 a12 a13 a14 a15,us=[a0,a1,a2,a3,a4,a5,a6,a7,a8,a9,qt,a11,a12,a13,a14,a15]:=by
 match us,h with
 | [a0,a1,a2,a3,a4,a5,a6,a7,a8,a9,qt,a11,a12,a13,a14,a15],_=>exact⟨_,_,_,_,_,_,_,_,_,_,_,_,_,_,_,_,rfl⟩
theorem Bec (S:SP Gl) (s:Su) (h:okC s=true) (vis:Nat->Nat) (w:World) (dn:Array Value) (d8:∀b,w.heap.size<=b->vis b=0) (cb:Gl w) (i6:Aw vis w (cS s) dn.toList):
  Calls Tryz.prog 150 #[.agg dn] w λen w'=>∃(w2:World) (us:List Value) (vis':Nat->Nat) (z:Option Nat),Below w.heap.size w w2/\(∀b,b<w.heap.size->vis' b=vis b)/\(∀b,w2.heap.size<=b->vis' b=0)/\Aw vis' w2 (cS s) us/\XC 10 (Gh0 vis') w2 [] 194 s.y.lines.length (λi=>Py.eLine (nth s.y.lines i)) (us.getD 15 undef) z/\(∀b,z=some b->w.heap.size<=b)/\
   w'=((((w2.alloc (.map #[] 0)).alloc (.map #[] 0)).alloc (.map #[] 0)).alloc (.map #[] 0)).alloc (.cells (us++[Value.int .i64 0,Value.map (some w2.heap.size),Value.map (some (w2.heap.size+1)),Value.map (some (w2.heap.size+2)),Value.map (some (w2.heap.size+3)),Value.slice none 0 0]).toArray 167)/\en=.returned (.pointer (some ⟨w2.heap.size+4,0,none⟩)):=by
 go_enter func150,Tryz.ntmps150
 have S0:SL { tmps:=#[.agg dn,undef,undef,undef,undef,undef,undef,undef,undef,undef,undef],defers:=[] } 11 (λt=>#[.agg dn].getD t undef) []:=SL.start #[.agg dn] 11 (aH rfl);generalize ({ tmps:=#[.agg dn,undef,undef,undef,undef,undef,undef,undef,undef,undef,undef],defers:=[] }:Act)=a at S0 ⊢;refine cE (aR ?_);refine Ak S0 (d:=1) (v:=.pointer (some ⟨w.heap.size,0,none⟩)) (w':=w.alloc (.cells dn 72)) rfl (by decide) rfl ?_ λa1 S1=>?_
 ·simp[execOp,S0.eval,upd,Instr.box,newVar,newRow,Value.cells]
 refine Ak S1 (d:=2) (v:=.pointer none) (w':=w.alloc (.cells dn 72)) rfl (by decide) rfl ?_ λa2 S2=>?_
 ·trivial
 have hl1:dn.toList.length=16:=i6.1.symm;have hrows:∀(j:Nat) x,dn.toList[j]?=some x->(w.alloc (.cells dn 72)).cell? ⟨w.heap.size,0+j,none⟩=some x:=λj x hj=>by
  grind[World.cell?_alloc_new]
 have n8:KeepV vis w (w.alloc (.cells dn 72)):=Beb _ d8;have ws:(w.alloc (.cells dn 72)).heap.size=w.heap.size+1:=by simp[eC]
 have qg:Below w.heap.size w (w.alloc (.cells dn 72)):=(Below.refl _ w).alloc (aI _) _;have hgl1:Gl (w.alloc (.cells dn 72)):=S.gl _ _ cb qg;have sw:=Jv (P:=Tryz.prog) (w:=w.alloc (.cells dn 72)) yok (t:=72) (by kernel_rfl) (b:=w.heap.size) (off:=0) (us:=dn.toList) (by rw[hl1];kernel_rfl) hrows;have ik:Ac (Gh0 vis) (w.alloc (.cells dn 72)) (Lo (w.alloc (.cells dn 72)).heap.size) [.d (.agg (cS s))] (#[Value.agg dn]:Array Value).toList:=by
  simp only[Ac,Aa,Av];exact⟨_,[],rfl,⟨dn,rfl,i6.mono' (λ_=>aI _) n8⟩,rfl⟩
 generalize w.alloc (.cells dn 72)=w1 at S2 sw ik n8 ws qg hgl1;refine cE (aR ?_);refine Ak S2 (d:=3) (v:=.agg dn) (w':=w1) rfl (by decide) rfl ?_ λa3 S3=>?_
 ·simp[execOp,S2.eval,upd,Instr.loadAt,Instr.sureAddr,sw]
 refine Xx S3 (d:=4) (g:=66) (vs:=#[.agg dn]) rfl (by decide) rfl ?_ ((Aqz S s h).2 vis w1 #[.agg dn] (λb hb=>d8 b (by omega)) hgl1 ik) ?_ ?_ ?_
 ·have h3:=S3.eval (t:=3) (by decide);simp[upd]at h3;refine (Rb (us:=#[]) (cvs:=#[]) rfl rfl (Aqz S s h).1).trans ?_;simp[h3]
 ·rintro v w2 ⟨p8,us,vis',z,kg,x9,ae,hr,hx,hz⟩ a4 S4;obtain rfl:=Ending.returned.inj kg;have xi:Below w.heap.size w w2:=qg.trans (p8.mono (by omega));obtain⟨u0,u1,u2,u3,u4,u5,u6,u7,u8,u9,qy,ra,rb,rc,rg,ng,rfl⟩:=Ar0 (us:=us) hr.1.symm;refine Ak S4 (d:=5) (v:=.map (some w2.heap.size)) (w':=w2.alloc (.map #[] 0)) rfl (by decide) rfl (by simp[execOp,Instr.makeMap]) λa5 S5=>?_;refine Ak S5 (d:=6) (v:=.map (some (w2.heap.size+1))) (w':=(w2.alloc (.map #[] 0)).alloc (.map #[] 0)) rfl (by decide) rfl (by simp[execOp,Instr.makeMap]) λa6 S6=>?_;refine Ak S6 (d:=7) (v:=.map (some (w2.heap.size+2))) (w':=((w2.alloc (.map #[] 0)).alloc (.map #[] 0)).alloc (.map #[] 0)) rfl (by decide) rfl (by simp[execOp,Instr.makeMap]) λa7 S7=>?_;refine Ak S7 (d:=8) (v:=.map (some (w2.heap.size+3))) (w':=(((w2.alloc (.map #[] 0)).alloc (.map #[] 0)).alloc (.map #[] 0)).alloc (.map #[] 0)) rfl (by decide) rfl (by simp[execOp,Instr.makeMap]) λa8 S8=>?_;have hw6:((((w2.alloc (.map #[] 0)).alloc (.map #[] 0)).alloc (.map #[] 0)).alloc (.map #[] 0)).heap.size=w2.heap.size+4:=by simp[eC]
  refine Ak S8 (d:=9) (v:=.agg #[u0,u1,u2,u3,u4,u5,u6,u7,u8,u9,qy,ra,rb,rc,rg,ng,.int .i64 0,.map (some w2.heap.size),.map (some (w2.heap.size+1)),.map (some (w2.heap.size+2)),.map (some (w2.heap.size+3)),.slice none 0 0]) (w':=(((w2.alloc (.map #[] 0)).alloc (.map #[] 0)).alloc (.map #[] 0)).alloc (.map #[] 0)) rfl (by decide) rfl ?_ λa9 S9=>?_
  ·have d7:=iN (P:=Tryz.prog) ((((w2.alloc (.map #[] 0)).alloc (.map #[] 0)).alloc (.map #[] 0)).alloc (.map #[] 0)) 167 #[(0,.agg #[u0,u1,u2,u3,u4,u5,u6,u7,u8,u9,qy,ra,rb,rc,rg,ng]),(2,.map (some w2.heap.size)),(3,.map (some (w2.heap.size+1))),(4,.map (some (w2.heap.size+2))),(5,.map (some (w2.heap.size+3)))] #[u0,u1,u2,u3,u4,u5,u6,u7,u8,u9,qy,ra,rb,rc,rg,ng,.int .i64 0,.map (some w2.heap.size),.map (some (w2.heap.size+1)),.map (some (w2.heap.size+2)),.map (some (w2.heap.size+3)),.slice none 0 0] (by kernel_rfl);simp[execOp,S8.eval,upd,d7]
  refine Ak S9 (d:=10) (v:=.pointer (some ⟨w2.heap.size+4,0,none⟩)) (w':=((((w2.alloc (.map #[] 0)).alloc (.map #[] 0)).alloc (.map #[] 0)).alloc (.map #[] 0)).alloc (.cells #[u0,u1,u2,u3,u4,u5,u6,u7,u8,u9,qy,ra,rb,rc,rg,ng,.int .i64 0,.map (some w2.heap.size),.map (some (w2.heap.size+1)),.map (some (w2.heap.size+2)),.map (some (w2.heap.size+3)),.slice none 0 0] 167)) rfl (by decide) rfl ?_ λqt ka=>?_
  ·have h9:=S9.eval (t:=9) (by decide);simp[upd]at h9;simp[execOp,h9,Instr.box,newVar,newRow,Value.cells,hw6]
  refine Ak ka (d:=2) (v:=.pointer (some ⟨w2.heap.size+4,0,none⟩)) (w':=((((w2.alloc (.map #[] 0)).alloc (.map #[] 0)).alloc (.map #[] 0)).alloc (.map #[] 0)).alloc (.cells #[u0,u1,u2,u3,u4,u5,u6,u7,u8,u9,qy,ra,rb,rc,rg,ng,.int .i64 0,.map (some w2.heap.size),.map (some (w2.heap.size+1)),.map (some (w2.heap.size+2)),.map (some (w2.heap.size+3)),.slice none 0 0] 167)) rfl (by decide) rfl ?_ λa11 S11=>?_
  ·simp[execOp,ka.eval,upd]
  refine wp_ret ?_;have h2:=S11.eval (t:=2) (by decide);refine⟨S11.defers,_,results_tmp (fn:=Tryz.f150) (t:=2) rfl _ _ _,w2,_,vis',z,xi,λb hb=>x9 b (by omega),ae,hr,hx,λb hb=>by grind,rfl,?_⟩
  show Ending.returned (a11.eval (.tmp 2))=_
  rw[h2];rfl
 ·rintro ch w' ⟨_,us,vis',z,kg,_⟩;cases kg
 ·rintro w' ⟨_,us,vis',z,kg,_⟩;cases kg
theorem Bed (S:SP Gl) (s:Su) (h:okC s=true):CO Gl 150 [.d (.agg (cS s))] (.new (.addr 10 0) ((1,0,.elt 194 10 15 10)::(13,15,L Py.eLine s.y.lines)::(13,21,.d (.c (.v (.slice none 0 0))))::stB 10 5 (Hu s))):=by
 refine⟨⟨_,func150,(by kernel_rfl),by kernel_rfl⟩,λvis w vs d8 cb f7=>?_⟩;simp only[Ac,Aa,Av]at f7;obtain⟨v,vs1,ai,⟨dn,rfl,hrep0⟩,rfl⟩:=f7;obtain rfl:vs=#[.agg dn]:=by grind
 refine (Bec S s h vis w dn d8 cb hrep0).mono ?_;rintro en w' ⟨w2,us,vis',z,p8,x9,ae,hr,hx,hz,hw',rfl⟩;obtain⟨n1,n2,n3,n4⟩:=Bea s;obtain⟨u0,u1,u2,u3,u4,u5,u6,u7,u8,u9,qy,ra,rb,rc,rg,ng,rfl⟩:=Ar0 (us:=us) hr.1.symm;have hs4:((((w2.alloc (.map #[] 0)).alloc (.map #[] 0)).alloc (.map #[] 0)).alloc (.map #[] 0)).heap.size=w2.heap.size+4:=by simp[eC]
 have hs5:w'.heap.size=w2.heap.size+5:=by grind[World.size_alloc]
 have w6:∀b,b<w2.heap.size->w'.heap[b]?=w2.heap[b]?:=λb hb=>by
  grind[Cm]
 have n8:KeepV vis' w2 w':=by
  refine⟨λb i hi=>bF (w6 b ?_),λb hb es c he=>by grind,Me w6⟩;rcases bL b w2.heap.size with hb|hb
  ·exact hb
  ·grind
 have hm:∀i,i<4->w'.heap[w2.heap.size+i]?=some (.map #[] 0):=λi hi=>by
  grind[Cm,heap_alloc_new]
 have hbx:w'.heap[w2.heap.size+4]?=some (.cells #[u0,u1,u2,u3,u4,u5,u6,u7,u8,u9,qy,ra,rb,rc,rg,ng,.int .i64 0,.map (some w2.heap.size),.map (some (w2.heap.size+1)),.map (some (w2.heap.size+2)),.map (some (w2.heap.size+3)),.slice none 0 0] 167 (0,0)):=by
  rw[hw',<-hs4];exact bN _ _
 have e9:∀k u,#[u0,u1,u2,u3,u4,u5,u6,u7,u8,u9,qy,ra,rb,rc,rg,ng,Value.int .i64 0,.map (some w2.heap.size),.map (some (w2.heap.size+1)),.map (some (w2.heap.size+2)),.map (some (w2.heap.size+3)),.slice none 0 0][k]?=some u->w'.cell? ⟨w2.heap.size+4,k,none⟩=some u:=λk u hk=>by
  grind[World.cell?]
 have bn:∀i,vis' (w2.heap.size+i)=0:=λi=>ae _ (by omega);have d6:∀id,Env.get ((1,0,.elt 194 10 15 10)::(13,15,L Py.eLine s.y.lines)::(13,21,.d (.c (.v (.slice none 0 0))))::stB 10 5 (Hu s)) 2 id≠.any->id=10∨id=5∨id=6∨id=7∨id=8:=λid h=>by
  have h3:(2,id)∈([(1,0),(13,15),(13,21),(2,10),(13,0),(13,1),(13,2),(13,3),(13,4),(13,5),(13,6),(13,7),(13,8),(13,9),(13,10),(13,11),(13,12),(13,13),(13,14),(13,16),(13,17),(13,18),(13,19),(13,20),(2,5),(2,6),(2,7),(2,8)]:List (Nat×Nat)):=List.mem_map_of_mem (f:=λx:Nat×Nat×T=>(x.1,x.2.1)) ((get_mem rfl).resolve_left h);simp only[eL,aD,eP,or_false]at h3;omega
 have rq:∀id k,Env.get ((1,0,.elt 194 10 15 10)::(13,15,L Py.eLine s.y.lines)::(13,21,.d (.c (.v (.slice none 0 0))))::stB 10 5 (Hu s)) (id+3) k≠.any->id=10/\k<22:=λid k h=>by
  have h3:(id+3,k)∈([(1,0),(13,15),(13,21),(2,10),(13,0),(13,1),(13,2),(13,3),(13,4),(13,5),(13,6),(13,7),(13,8),(13,9),(13,10),(13,11),(13,12),(13,13),(13,14),(13,16),(13,17),(13,18),(13,19),(13,20),(2,5),(2,6),(2,7),(2,8)]:List (Nat×Nat)):=List.mem_map_of_mem (f:=λx:Nat×Nat×T=>(x.1,x.2.1)) ((get_mem rfl).resolve_left h);simp only[eL,aD,eP,or_false]at h3;omega
 have i7:=p8.size;refine⟨⟨?_,?_,?_,by omega,λb hb=>(w6 b (by omega)).trans (p8.block b hb)⟩,_,vis',rfl,x9,λb hb=>ae b (by omega),λid=>if id=10 then w2.heap.size+4 else w2.heap.size+(id - 5),?_,?_,?_,?_,?_⟩
 ·rw[hw'];exact p8.os
 ·rw[hw'];exact p8.tape
 ·rw[hw'];exact p8.output
 ·intro id h;obtain rfl|rfl|rfl|rfl|rfl:=d6 id h
  ·exact⟨by grind,by grind,bn 4,_,_,hbx⟩
  ·exact⟨by trivial,by grind,⟨#[],0,hm 0 (by decide),Acx n1⟩,λhh=>(by cases hh),λ_=>bn 0⟩
  ·exact⟨by grind,by grind,⟨#[],0,hm 1 (by decide),Acx n2⟩,λhh=>(by cases hh),λ_=>bn 1⟩
  ·exact⟨by grind,by grind,⟨#[],0,hm 2 (by decide),Acx n3⟩,λhh=>(by cases hh),λ_=>bn 2⟩
  ·exact⟨by grind,by grind,⟨#[],0,hm 3 (by decide),Acx n4⟩,λhh=>(by cases hh),λ_=>bn 3⟩
 ·grind[id]
 ·intro id k h;obtain⟨rfl,hk⟩:=rq id k h;refine⟨rfl,?_⟩
  match k,hk with
  |0,_=>exact⟨u0,e9 0 _ rfl,by simp only[Aa];exact (hr.2 0 _ u0 rfl rfl).mono' (λ_=>aI _) n8⟩
  |1,_=>exact⟨u1,e9 1 _ rfl,by simp only[Aa];exact (hr.2 1 _ u1 rfl rfl).mono' (λ_=>aI _) n8⟩
  |2,_=>exact⟨u2,e9 2 _ rfl,by simp only[Aa];exact (hr.2 2 _ u2 rfl rfl).mono' (λ_=>aI _) n8⟩
  |3,_=>exact⟨u3,e9 3 _ rfl,by simp only[Aa];exact (hr.2 3 _ u3 rfl rfl).mono' (λ_=>aI _) n8⟩
  |4,_=>exact⟨u4,e9 4 _ rfl,by simp only[Aa];exact (hr.2 4 _ u4 rfl rfl).mono' (λ_=>aI _) n8⟩
  |5,_=>exact⟨u5,e9 5 _ rfl,by simp only[Aa];exact (hr.2 5 _ u5 rfl rfl).mono' (λ_=>aI _) n8⟩
  |6,_=>exact⟨u6,e9 6 _ rfl,by simp only[Aa];exact (hr.2 6 _ u6 rfl rfl).mono' (λ_=>aI _) n8⟩
  |7,_=>exact⟨u7,e9 7 _ rfl,by simp only[Aa];exact (hr.2 7 _ u7 rfl rfl).mono' (λ_=>aI _) n8⟩
  |8,_=>exact⟨u8,e9 8 _ rfl,by simp only[Aa];exact (hr.2 8 _ u8 rfl rfl).mono' (λ_=>aI _) n8⟩
  |9,_=>exact⟨u9,e9 9 _ rfl,by simp only[Aa];exact (hr.2 9 _ u9 rfl rfl).mono' (λ_=>aI _) n8⟩
  |10,_=>exact⟨qy,e9 10 _ rfl,by simp only[Aa];exact (hr.2 10 _ qy rfl rfl).mono' (λ_=>aI _) n8⟩
  |11,_=>exact⟨ra,e9 11 _ rfl,by simp only[Aa];exact (hr.2 11 _ ra rfl rfl).mono' (λ_=>aI _) n8⟩
  |12,_=>exact⟨rb,e9 12 _ rfl,by simp only[Aa];exact (hr.2 12 _ rb rfl rfl).mono' (λ_=>aI _) n8⟩
  |13,_=>exact⟨rc,e9 13 _ rfl,by simp only[Aa];exact (hr.2 13 _ rc rfl rfl).mono' (λ_=>aI _) n8⟩
  |14,_=>exact⟨rg,e9 14 _ rfl,by simp only[Aa];exact (hr.2 14 _ rg rfl rfl).mono' (λ_=>aI _) n8⟩
  |15,_=>exact⟨ng,e9 15 _ rfl,by simp only[Aa];exact (hr.2 15 _ ng rfl rfl).mono' (λ_=>aI _) n8⟩
  |16,_=>exact⟨_,e9 16 _ rfl,by simp only[Aa];exact .v _ rfl⟩
  |17,_=>exact⟨_,e9 17 _ rfl,by trivial⟩
  |18,_=>exact⟨_,e9 18 _ rfl,by trivial⟩
  |19,_=>exact⟨_,e9 19 _ rfl,by simp only[Aa];rfl⟩
  |20,_=>exact⟨_,e9 20 _ rfl,by simp only[Aa];rfl⟩
  |21,_=>exact⟨_,e9 21 _ rfl,by simp only[Aa];exact .v _ rfl⟩
  |n+22,hk=>exact absurd hk (by omega)
 ·trivial
 ·refine⟨ng,z,⟨e9 15 _ rfl,s.y.lines.length,λi=>Py.eLine (nth s.y.lines i),rfl,?_⟩,λb hb=>hz b hb⟩;cases z with
  |none=>exact hx
  |some b=>
   obtain⟨x1,x2,x3,⟨cs,t,x4⟩,x5,x6,⟨xs,x7⟩,x8⟩:=hx;refine⟨x1,by omega,x3,⟨cs,t,(w6 b x2).trans x4⟩,λid h hh=>?_,x6,⟨xs,Ws x6 (w6 b x2) x7⟩,x8⟩;grind
structure Ent where
 kind:Int
 nums:List Int
instance:Inhabited Ent:=⟨⟨0,[]⟩⟩
def Ab (x:Ent):List C:=[Ci x.kind,.l eI x.nums]
def Bt (n:Nat):List Int:=(List.range n).map λi:Nat=>(i:Int)
def Zc (n:Nat):(Bt n).length=n:=by grind[Bt]
def Bee {n i:Nat} (h:i<n):nth (Bt n) i=i:=by
 grind[Bt,Hq,Cc]
def Ar1 (n:Nat):Bt (n+1)=Bt n++[(n:Int)]:=by
 grind[Bt,List.range_succ]
def stYd (l n:Nat) (m:List Ent):Yd:=⟨l,n,n,λq=>[I q,.d (.agg (Ab (nth m q)))]⟩
def Bef (S:SP Gl) (m:List Ent):CR Gl 151 [.d (.c (.l Ab m))] (.fn 238 [] [.d (.c (.p [.l Ab m]))]):=by
 refine Xw S (t:=2) (id:=1) .nil func151 (by kernel_rfl) Tryz.results151 (by decide) (by decide) (T.fn 238 [] [.addr 1 0]=T.fn 238 [] [.addr 1 0]/\live=live/\Hl (Dt 1 0 [.l Ab m]) 1 0 [.l Ab m]) (by kernel_rfl) ?_;trivial
def Beg (S:SP Gl) (m:List Ent) (l:Nat) (hm:m.length<=1000) (hu:∀i,i<m.length->((nth m i).kind != 10)=true):DO Gl (stYd l m.length m) 238 [.yl l,.d (.c (.p [.l Ab m]))] [(0,BIG,.tr 0)] (.ret (.tup [])) [(0,BIG,.tr (min m.length (m.length+1)))]:=by
 refine Bs S (let A2:=(m.length:Int);let A1:=[C.l Ab m];let A0:=Bt m.length;((.loop m.length (λk=>[v 10 (I k),v 9 (I m.length),v 8 (L Ab m),v 0 (T.yl l),v 1 (T.d (D.c (C.p A1))),v 3 (Lt 900 eI (Bt k)),tk 900 3,(0,BIG,T.tr 0)]) λk0=>.br (.val 17 true (.tt .nil)) (.loop m.length (λk=>[v 33 (I k),v 32 (I m.length),v 31 (L eI A0),v 0 (T.yl l),v 1 (T.d (D.c (C.p A1))),(0,BIG,T.tr k)]) λk1=>.br (.br .nil .nil) .nil)),(m.length<=maxLen->(lz m.length (sR Ab m/\l=l/\A1=A1/\0=0/\0=0))/\∀(k0:Nat),k0<=m.length->(dt k0 m.length->(ix k0 m.length)/\((nth m k0).1 != (10:Int))=true/\tt 1 (cp (ln (Bt k0)+1) (lq k0 m.length (A2=m.length/\sR Ab m/\l=l/\A1=A1/\(SEq (ln (Bt k0)+1) (An (ln (Bt k0)) (λi=>eI (nth (Bt k0) i)) (gD [mI k0])) (ln (Bt (k0+1))) λi=>eI (nth (Bt (k0+1)) i))/\0=0))))/\(df k0 m.length->ln (Bt k0)<=maxLen->(0=(↑(0:Nat):Int)/\(ln (Bt k0):Int)=A2/\(sQ eI (Bt k0) A0)/\l=l/\A1=A1/\0=0)/\∀(k1:Nat),k1<=m.length->(dt k1 m.length->(0<=(k1:Int)/\(k1:Int)<(ln A0:Int))/\((0:Int)<=nth A0 k1/\nth A0 k1<A2)/\l=l/\k1<m.length/\k1<=m.length/\nth A0 k1=(k1:Int)/\(nth m (Int.toNat (nth A0 k1))).1=(nth m k1).1/\(sQ eI ((nth m (Int.toNat (nth A0 k1))).2) ((nth m k1).2))/\((!k1 != m.length)=true->True/\k1+1=min m.length (m.length+1))/\((!k1 != m.length)=false->lq k1 m.length (A2=m.length/\(sR eI A0)/\l=l/\A1=A1/\k1+1=k1+1)))/\(df k1 m.length->True/\k1=min m.length (m.length+1)))))) func238 ?_;simp only[stdS,aL,aB,and_true,aN,aK,Ad,Ap,Zc,bne_iff_ne,cL,cZ,ne_eq,bne_eq_false_iff_eq]
 refine λ_ k hk=>⟨λh1=>?_,λh1 _=>⟨?_,λj hj=>⟨λh2=>?_,λh2=>by omega⟩⟩⟩
 ·have h3:=hu k (by omega);have hq:=Eb (f:=eI) (l:=Bt k) (r:=Bt (k+1)) (x:=(k:Int)) (Ar1 k) rfl;rw[Zc,Zc]at hq;exact⟨by omega,bne_iff_ne.1 h3,by omega,by omega,by omega,by omega,by omega,hq,trivial⟩
 ·have bf:k=m.length:=by omega
  subst bf;exact⟨rfl,.of ⟨rfl,λ_ _=>rfl⟩,trivial⟩
 ·have ss:j<m.length:=by omega
  rw[Bee ss,Int.toNat_natCast];exact⟨by omega,by omega,by omega,by omega,rfl,rfl,.of ⟨rfl,λ_ _=>rfl⟩,λh=>by omega,λ_=>⟨by omega,by omega,by omega,trivial⟩⟩
def Beh (su:Su):(Hu su).su=su:=rfl
def Bei (su:Su):(Hu su).day=0:=rfl
def Fe (dom:List Int->Bool) (val:List Int->List C):MEq dom val dom val↔True:=⟨λ_=>trivial,λ_ _=>⟨rfl,λ_=>.inl rfl⟩⟩
def stX (s:St):Env:=(FAR+3,15,L Py.eLine s.su.y.lines)::stB FAR (FAR+1) s
theorem Ar2 {vis:Nat->Nat} {w:World} {t:TypeId} {us:List Value} {v:Value} (hu:us.all Value.oneCell'=true):Rep vis w (.v (.iface t (.agg us.toArray))) v↔Rep vis w (.i t true (us.map C.v)) v:=by
 constructor
 ·intro h;rw[Le h];refine .i t true _ _ ⟨_,rfl⟩ (by simp[Gx]) λj c u hc hu'=>?_;have hu':us[j]?=some u:=by trivial
  rw[bQ]at hc;rw[hu']at hc;cases hc;exact .v u (aS.1 hu u (cG hu'))
 ·intro h;cases h with
  |i _ _ _ v' hs hl hr=>
   obtain⟨cs,rfl⟩:=hs;have:cs.toList=us:=by
    refine fZ λj=>?_;simp only[Gx,List.length_map]at hl hr;cases hj:us[j]? with
    |none=>grind
    |some x=>
     have ol:j<cs.toList.length:=by grind
     have:=hr j (.v x) (cs.toList[j]) (by grind) (aQ ol);grind[Le]
   rw[<-this];exact .v _ rfl
def Acy {Gl:World->Prop} {f:FuncId} {args:List T} {t:TypeId} {us:List Value} (hu:us.all Value.oneCell'=true) (h:CR Gl f args (.d (.c (.v (.iface t (.agg us.toArray)))))):CR Gl f args (.d (.c (.i t true (us.map C.v)))):=
 ⟨h.1,λvis w vs h1 h2 h3=>(h.2 vis w vs h1 h2 h3).mono λen w' ⟨g1,v,vis',g2,g3,g4,g5⟩=>⟨g1,v,vis',g2,g3,g4,(Ar2 hu).1 g5⟩⟩
def Aiv {Gl:World->Prop} {yd:Yd} {f:FuncId} {x:T} {c9 post:Env} {r:Res} {t:TypeId} {us:List Value} (hn:Jy r=true) (hu:us.all Value.oneCell'=true) (h:DO Gl yd f [x,.d (.c (.v (.iface t (.agg us.toArray))))] c9 r post):DO Gl yd f [x,.d (.c (.i t true (us.map C.v)))] c9 r post:=
 ⟨h.1,by
  rw[hn];intro J G w vs h1 h2 h3 h4 h5 h6 h7 h8;refine h.run hn J G w vs h1 h2 h3 h4 h5 h6 h7 ?_;grind[Ac,Aa,Av,Ar2]⟩
def doX {Gl:World->Prop} {a:T} {s s':St} (hl:s'.su.y.lines=s.su.y.lines) (h:DO Gl yd0 75 [.addr FAR 0,a] (stB FAR (FAR+1) s) (.ret (.tup [])) (stB FAR (FAR+1) s')):DO Gl yd0 75 [.addr FAR 0,a] (stX s) (.new (.tok 194) [(FAR,15,.any)]) (stX s'):=by
 have:=h.toX (el:=194) (F:=FAR) (c:=15) (n:=s.su.y.lines.length) (g:=λi=>Py.eLine (nth s.su.y.lines i)) rfl rfl rfl rfl;unfold stX;rw[hl];exact this
theorem now73 (S:SP Gl) (su:Su) (m:List Ent) (s:Nat->St) (t:Nat->TypeId) (p:Nat->List C) (hs:okC su=true) (hm:m.length<=1000) (hu:∀i,i<m.length->((nth m i).kind != 10)=true) (h0:s 0=Hu su) (ha:∀k,k<m.length->CR Gl 76 [.d (.agg (Ab (nth m k)))] (.d (.c (.i (t k) true (p k))))) (hp:∀k,Fz (p k) (p k)) (hd:∀k,k<m.length->DO Gl yd0 75 [.addr FAR 0,.d (.c (.i (t k) true (p k)))] (stX (s k)) (.new (.tok 194) [(FAR,15,.any)]) (stX (s (k+1)))):CO Gl 73 [.d (.agg (cS su)),.d (.c (.l Ab m))] (.new (.addr 10010 0) ((1,0,.elt (194) (10010) (15) (10))::((10013,21,L eI (Bt m.length))::(10013,15,L Py.eLine (s m.length).su.y.lines)::stB 10010 10005 (s m.length)))):=by
 refine Awy S (.n [(nat_lit 10,nat_lit 10010),(nat_lit 5,nat_lit 10005),(nat_lit 6,nat_lit 10006),(nat_lit 7,nat_lit 10007),(nat_lit 8,nat_lit 10008)] (Res.new (T.addr 10 0) (((1:Nat),(0:Nat),T.elt 194 10 15 10)::((13:Nat),(15:Nat),L Py.eLine (Py.PBook.lines (Su.y su)))::((13:Nat),(21:Nat),T.d (D.c cN))::stB 10 5 (Hu su))) (.r (.ret (T.fn 238 [] [T.d (D.c (C.p [C.l Ab m]))])) (.rf m.length m.length (λp=>[I p,T.d (D.agg (Ab (nth m p)))]) (λp=>v 5 (ad 5)::((2:Nat),(5:Nat),live)::((8:Nat),(0:Nat),T.addr 10010 0)::tk 900 3::((10013:Nat),(21:Nat),Lt 900 eI (Bt p))::tk 100901 194::((10013:Nat),(15:Nat),Lt 100901 Py.eLine (Py.PBook.lines (Su.y (St.su (s p)))))::stB 10010 10005 (s p)) (λk0=>.r (.ret (T.d (D.c (C.i (t k0) true (p k0))))) (.w [(FAR,nat_lit 10010),(FAS,nat_lit 10005),(FAT,nat_lit 10006),(FAU,nat_lit 10007),(nat_lit 100004,nat_lit 10008)] [T.addr FAR 0,T.d (D.c (C.i (t k0) true (p k0)))] (stX (s k0)) (Res.new (T.tok 194) [(FAR,(15:Nat),T.any)]) (stX (s (k0+1))) .nil)) .nil))) func73 (by kernel_rfl) (v 4 (.addr 10010 0)::(10013,21,L eI (Bt m.length))::(10013,15,L Py.eLine (s m.length).su.y.lines)::stB 10010 10005 (s m.length)) rfl (by kernel_rfl) (let A5:=[T.d (D.c (C.p [C.l Ab m]))];let A3:=Hu su;let A1:=λ(k0:Nat)=>s (k0+1);let A0:=s m.length;let A4:=MEq (paD A0) (paV A0) (paD A0) (paV A0);let A2:=SEq (List.length A0.1.6.7) (λi=>Py.eLine (nth A0.1.6.7 i)) (List.length A0.1.6.7) λi=>Py.eLine (nth A0.1.6.7 i);let P0:=λ(zz:Prop)=>(sR eI (Bt m.length))/\A2/\(sR Ae (A0.1.1.1))/\A0.1.1.2=A0.1.1.2/\A0.1.1.3=A0.1.1.3/\(SEq (List.length A0.1.2.1) (λi=>Gv.eComp (nth A0.1.2.1 i)) (List.length A0.1.2.1) λi=>Gv.eComp (nth A0.1.2.1 i))/\(sR eI (A0.1.2.2))/\(sR eI (A0.1.2.3))/\A0.1.3=A0.1.3/\A0.1.4=A0.1.4/\(sR eCp (A0.1.5))/\A0.1.6.1=A0.1.6.1/\A0.1.6.2=A0.1.6.2/\A0.1.6.3=A0.1.6.3/\A0.1.6.4=A0.1.6.4/\A0.1.6.5=A0.1.6.5/\A0.1.6.6=A0.1.6.6/\A0.2=A0.2/\MEq (tkD A0) (tkV A0) (tkD A0) (tkV A0)/\MEq (coD A0) (coV A0) (coD A0) (coV A0)/\MEq (riD A0) (riV A0) (riD A0) (riV A0)/\zz;T.addr 10010 0=T.addr 10010 0/\CO Gl 150 [T.d (D.agg (cS su))] (Res.new (T.addr 10 0) (((1:Nat),(0:Nat),T.elt 194 10 15 10)::((13:Nat),(15:Nat),L Py.eLine (Py.PBook.lines (Su.y su)))::((13:Nat),(21:Nat),T.d (D.c cN))::stB 10 5 A3))/\CR Gl 151 [T.d (D.c (C.l Ab m))] (T.fn 238 [] A5)/\Yd.m yd0=(0:Nat)/\Nq (DO Gl) 238 [] A5 (λl=>Yd.mk l m.length m.length λp=>[I p,T.d (D.agg (Ab (nth m p)))]) m.length m.length/\((0:Nat)=0/\(SEq su.6.7.length (λi=>Py.eLine (nth su.6.7 i)) (List.length (s 0).1.6.7) λi=>Py.eLine (nth (s 0).1.6.7 i))/\(sQ Ae su.1.1 ((s 0).1.1.1))/\su.1.2=(s 0).1.1.2/\su.1.3=(s 0).1.1.3/\(SEq su.2.1.length (λi=>Gv.eComp (nth su.2.1 i)) (List.length (s 0).1.2.1) λi=>Gv.eComp (nth (s 0).1.2.1 i))/\(sQ eI su.2.2 ((s 0).1.2.2))/\(sQ eI su.2.3 ((s 0).1.2.3))/\su.3=(s 0).1.3/\su.4=(s 0).1.4/\(sQ eCp su.5 ((s 0).1.5))/\su.6.1=(s 0).1.6.1/\su.6.2=(s 0).1.6.2/\su.6.3=(s 0).1.6.3/\su.6.4=(s 0).1.6.4/\su.6.5=(s 0).1.6.5/\su.6.6=(s 0).1.6.6/\(0:Int)=(s 0).2/\MEq (tkD A3) (tkV A3) (tkD (s 0)) (tkV (s 0))/\MEq (coD A3) (coV A3) (coD (s 0)) (coV (s 0))/\MEq (riD A3) (riV A3) (riD (s 0)) (riV (s 0))/\MEq (paD A3) (paV A3) (paD (s 0)) (paV (s 0)))/\(∀(k0:Nat),k0<m.length->k0<=m.length->CR Gl 76 [T.d (D.agg (Ab (nth m k0)))] (T.d (D.c (C.i (t k0) true (p k0))))/\t k0=t k0/\Fz (p k0) (p k0)/\(SEq (List.length (s k0).1.6.7) (λi=>Py.eLine (nth (s k0).1.6.7 i)) (List.length (s k0).1.6.7) λi=>Py.eLine (nth (s k0).1.6.7 i))/\(sR Ae ((s k0).1.1.1))/\(s k0).1.1.2=(s k0).1.1.2/\(s k0).1.1.3=(s k0).1.1.3/\(SEq (List.length (s k0).1.2.1) (λi=>Gv.eComp (nth (s k0).1.2.1 i)) (List.length (s k0).1.2.1) λi=>Gv.eComp (nth (s k0).1.2.1 i))/\(sR eI ((s k0).1.2.2))/\(sR eI ((s k0).1.2.3))/\(s k0).1.3=(s k0).1.3/\(s k0).1.4=(s k0).1.4/\(sR eCp ((s k0).1.5))/\(s k0).1.6.1=(s k0).1.6.1/\(s k0).1.6.2=(s k0).1.6.2/\(s k0).1.6.3=(s k0).1.6.3/\(s k0).1.6.4=(s k0).1.6.4/\(s k0).1.6.5=(s k0).1.6.5/\(s k0).1.6.6=(s k0).1.6.6/\(s k0).2=(s k0).2/\MEq (tkD (s k0)) (tkV (s k0)) (tkD (s k0)) (tkV (s k0))/\MEq (coD (s k0)) (coV (s k0)) (coD (s k0)) (coV (s k0))/\MEq (riD (s k0)) (riV (s k0)) (riD (s k0)) (riV (s k0))/\MEq (paD (s k0)) (paV (s k0)) (paD (s k0)) (paV (s k0))/\DO Gl yd0 75 [T.addr FAR 0,T.d (D.c (C.i (t k0) true (p k0)))] (stX (s k0)) (Res.new (T.tok 194) [(FAR,(15:Nat),T.any)]) (stX (A1 k0))/\(List.length (Bt k0)+1)*8<=140737488355328/\List.length (Bt k0)+1<=140737488355328/\k0<m.length/\(SEq (List.length (Bt k0)+1) (An (List.length (Bt k0)) (λi=>eI (nth (Bt k0) i)) λi=>List.getD [mI k0] i []) (List.length (Bt (k0+1))) λi=>eI (nth (Bt (k0+1)) i))/\(SEq (List.length (A1 k0).1.6.7) (λi=>Py.eLine (nth (A1 k0).1.6.7 i)) (List.length (A1 k0).1.6.7) λi=>Py.eLine (nth (A1 k0).1.6.7 i))/\(sR Ae ((A1 k0).1.1.1))/\(A1 k0).1.1.2=(A1 k0).1.1.2/\(A1 k0).1.1.3=(A1 k0).1.1.3/\(SEq (List.length (A1 k0).1.2.1) (λi=>Gv.eComp (nth (A1 k0).1.2.1 i)) (List.length (A1 k0).1.2.1) λi=>Gv.eComp (nth (A1 k0).1.2.1 i))/\(sR eI ((A1 k0).1.2.2))/\(sR eI ((A1 k0).1.2.3))/\(A1 k0).1.3=(A1 k0).1.3/\(A1 k0).1.4=(A1 k0).1.4/\(sR eCp ((A1 k0).1.5))/\(A1 k0).1.6.1=(A1 k0).1.6.1/\(A1 k0).1.6.2=(A1 k0).1.6.2/\(A1 k0).1.6.3=(A1 k0).1.6.3/\(A1 k0).1.6.4=(A1 k0).1.6.4/\(A1 k0).1.6.5=(A1 k0).1.6.5/\(A1 k0).1.6.6=(A1 k0).1.6.6/\(A1 k0).2=(A1 k0).2/\MEq (tkD (A1 k0)) (tkV (A1 k0)) (tkD (A1 k0)) (tkV (A1 k0))/\MEq (coD (A1 k0)) (coV (A1 k0)) (coD (A1 k0)) (coV (A1 k0))/\MEq (riD (A1 k0)) (riV (A1 k0)) (riD (A1 k0)) (riV (A1 k0))/\MEq (paD (A1 k0)) (paV (A1 k0)) (paD (A1 k0)) (paV (A1 k0)))/\(m.length<=m.length->(P0 A4)/\A2/\P0 A4)) (by kernel_rfl) ?_
 simp only[stdS,aL,aB,and_true,h0,Beh,Bei,Fe];refine⟨Bed S su hs,Bef S m,λl=>Beg S m l hm hu,λk hk _=>⟨ha k hk,hp k,hd k hk,?_⟩,trivial⟩;have hq:=Eb (f:=eI) (l:=Bt k) (r:=Bt (k+1)) (x:=(k:Int)) (Ar1 k) rfl;rw[Zc,Zc]at *
 exact⟨by omega,by omega,hk,hq,trivial⟩
def Bej (S:SP Gl) (l:List Ent) (h1:1<=l.length) (h2:l.length<=1000):CR Gl 70 [.d (.c (.l Ab l))] (.tkd 82 2 l.length (λi=>Ab (nth l i))):=by
 refine Ao S (.ff .nil) (0<l.length/\false=false/\(0+l.length)*32<=140737488355328/\0+l.length<=140737488355328/\SEq (0+l.length) (An 0 (λx=>[]) λi=>Ab (nth l i)) l.length λi=>Ab (nth l i)) func70 ?_;refine⟨by omega,rfl,by omega,by omega,.of ⟨by omega,λi hi=>?_⟩⟩;trivial
def Bek (S:SP Gl)  :CR Gl 70 [.d (.c (.v (.slice none 0 0)))] (.d (.c (.v (.slice none 0 0)))):=by
 refine Ao S (.tt .nil) (true=true/\Value.slice none 0 0=Value.slice none 0 0) func70 ?_;trivial
theorem Qd (S:SP Gl)  :DO Gl yd0 67 [.addr FAR 0] [(2,FAR,live),(FAR+3,17,B true)] (.ret (B true)) []:=by
 refine Fp S (.sure 6 (.sure 7 (.sure 8 (.sure 9 .nil)))) (true=true/\true=true/\true=true/\true=true/\true=true/\true=true) func67 ?_;trivial
def Sg (su:Su) (x:T) (e:Ent):Env:=(2,FAR,live)::(FAR+3,0,.addr (FAR+3) 0)::(2,FAR+1,live)::(FAR+4,0,I e.kind)::(2,FAR+2,live)::(FAR+5,0,I e.kind)::(FAR+5,1,L eI e.nums)::(2,FAR+3,live)::(FAR+6,16,x)::Dt (FAR+3) 0 (cS su)
def Ex (nn:List Int) (s:St):Res:=.new (.addr 10010 0) ((1,0,.elt 194 10010 15 10)::(10013,21,L eI nn)::(10013,15,L Py.eLine s.su.y.lines)::stB 10010 10005 s)
def run72 (S:SP Gl) (su:Su) (nn:List Int) (l:List Ent) (e:Ent) (s s':St) (u:TypeId) (q:List C) (hn:CO Gl 73 [.d (.agg (cS su)),.d (.c (.l Ab l))] (Ex nn s)) (he:(e.kind==10)=false) (hx:CR Gl 76 [.d (.agg (Ab e))] (.d (.c (.i u true q)))) (hq:Fz q q) (hy:DO Gl yd0 75 [.addr FAR 0,.d (.c (.i u true q))] (stX s) (.new (.tok 194) [(FAR,15,.any)]) (stX s')):DO Gl yd0 72 [.addr FAR 0,.addr (FAR+1) 0,.addr (FAR+2) 0] (Sg su (.d (.c (.l Ab l))) e) (.ret (.tup [])) []:=by
 refine Bs S (let A1:=Res.new (T.tok 194) [(FAR,15,T.any)];let A0:=D.c (C.i u true q);((.n [(nat_lit 10010,nat_lit 13010),(nat_lit 10005,nat_lit 13005),(nat_lit 10006,nat_lit 13006),(nat_lit 10007,nat_lit 13007),(nat_lit 10008,nat_lit 13008)] (Ex nn s) (.val 15 false (.ff (rt (T.d A0) (.w [(FAR,nat_lit 13010),(FAS,nat_lit 13005),(FAT,nat_lit 13006),(FAU,nat_lit 13007),(nat_lit 100004,nat_lit 13008)] [aF 0,T.d A0] (stX s) A1 (stX s') .nil))))),(CO Gl 73 [tA (cS su),L Ab l] (Ex nn s)/\(e.1==(10:Int))=false/\false=false/\CR Gl 76 [tA (Ab e)] (T.d A0)/\u=u/\Fz q q/\(SEq s.1.6.7.length (λi=>Py.eLine (nth s.1.6.7 i)) s.1.6.7.length λi=>Py.eLine (nth s.1.6.7 i))/\zC (List.take 15 (cS (s.1))) (s.2=s.2/\zM (tkD s) (tkV s) (zM (coD s) (coV s) (zM (riD s) (riV s) (zM (paD s) (paV s) (DO Gl yd0 75 [aF 0,T.d A0] (stX s) A1 (stX s')/\True/\e.1=e.1/\e.1=e.1/\sR eI e.2/\sR Ab l/\zC (List.take 15 (cS (su))) (SEq su.6.7.length (λi=>Py.eLine (nth su.6.7 i)) su.6.7.length λi=>Py.eLine (nth su.6.7 i)))))))))) func72 ?_;simp only[stdS,aL,aB,and_true,he,Fe];grind
abbrev f72:T:=.fn 72 [] [.addr FAR 0,.addr (FAR+1) 0,.addr (FAR+2) 0]
def Ay (su:Su) (x:T):Env:=(2,FAR,live)::(FAR+3,16,x)::(FAR+3,17,B true)::Dt FAR 0 (cS su)
def Bel (S:SP Gl) (su:Su) (e:Ent) (h1:1<=e.nums.length) (h2:e.nums.length<=8) (hf:CR Gl 68 [.d (.agg (Ab e))] (B true)) (hr:DO Gl yd0 71 [f72] (Sg su (.d (.c (.l Ab []))) e) (.ret (I 0)) []):DO Gl yd0 23 [.addr FAR 0,.d (.agg (Ab e))] (Ay su (.d (.c (.v (.slice none 0 0))))) (.ret (I 0)) [(FAR+3,16,.d (.c (.l Ab [e])))]:=by
 refine Fp S (.w [(FAR,FAR)] [aF 0] [(2,FAR,live),(FAR+3,17,B true)] (.ret (B true)) [] (.ff (rt (B true) (.ff (.ff (rs [L eI (Ent.nums e),T.d (D.c cN)] (.w [(FAR,nat_lit 2),(FAS,nat_lit 3),(FAT,nat_lit 5),(FAU,FAR)] [f72] (Sg su (L Ab []) e) (.ret (I 0)) [] (.tt .nil)))))))) (tt 1 (DO Gl yd0 67 [aF 0] [(2,FAR,live),(FAR+3,17,B true)] (.ret (B true)) []/\false=false/\CR Gl 68 [tA (Ab e)] (B true)/\false=false/\(0<=maxLen->false=false/\CR Gl 69 [L eI (Ent.nums e)] (L eI (Ent.nums e))/\CR Gl 70 [T.d (D.c cN)] (T.d (D.c cN))/\1*32<=140737488355328/\1<=140737488355328/\72=72/\e.1=e.1/\e.1=e.1/\sR eI e.2/\0=0/\zC (cS (su)) (DO Gl yd0 71 [f72] (Sg su (L Ab []) e) (.ret (I 0)) []/\tt 1 ((0:Int)=0/\(SEq 1 (gD [List.map C.dem (List.map C.dem [Ci e.1,C.s Tag.n e.2.length λi=>eI (nth e.2 i)])]) (List.length [e]) λi=>Ab (nth [e] i))/\tt 1 (zC (List.take 15 (cS (su))) (SEq su.6.7.length (λi=>Py.eLine (nth su.6.7 i)) su.6.7.length λi=>Py.eLine (nth su.6.7 i)))))))) func23 ?_;simp only[stdS,aL,aB,and_true];refine⟨Qd S,hf,λ_=>⟨Mz S e.nums h1 (by omega),Bek S,by omega,by omega,hr,.of ⟨rfl,λi hi=>?_⟩,trivial⟩⟩;obtain rfl:i=0:=by omega
 rfl
def Bem (S:SP Gl) (su:Su) (l:List Ent) (e:Ent) (v:Int) (h1:1<=e.nums.length) (h2:e.nums.length<=8) (g1:1<=l.length) (g2:l.length<=20) (g24:((l.length:Int)==24)=false) (hf:CR Gl 68 [.d (.agg (Ab e))] (B true)) (hr:DO Gl yd0 71 [f72] (Sg su (.d (.c (.l Ab l))) e) (.ret (I v)) []):DO Gl yd0 23 [.addr FAR 0,.d (.agg (Ab e))] (Ay su (.d (.c (.l Ab l)))) (.ret (I v)) [(FAR+3,16,.d (.c (.l Ab (bif v==0 then l++[e] else l))))]:=by
 refine Bs S (let A1:=bif v==(0:Int) then l++[e] else l;let A0:=zC (List.take 15 (cS (su))) (SEq su.6.7.length (λi=>Py.eLine (nth su.6.7 i)) su.6.7.length λi=>Py.eLine (nth su.6.7 i));((.w [(FAR,FAR)] [aF 0] [(2,FAR,live),(FAR+3,17,B true)] (.ret (B true)) [] (.ff (rt (B true) (.ff (.val 22 false (.ff (rs [L eI (Ent.nums e),T.tkd 82 2 l.length λi=>Ab (nth l i)] (.w [(FAR,nat_lit 2),(FAS,nat_lit 3),(FAT,nat_lit 5),(FAU,FAR)] [f72] (Sg su (L Ab l) e) (.ret (I v)) [] (.br .nil .nil))))))))),(tt 1 (DO Gl yd0 67 [aF 0] [(2,FAR,live),(FAR+3,17,B true)] (.ret (B true)) []/\false=false/\CR Gl 68 [tA (Ab e)] (B true)/\false=false/\(l.length<=maxLen->((l.length:Int)==24)=false/\false=false/\CR Gl 69 [L eI (Ent.nums e)] (L eI (Ent.nums e))/\CR Gl 70 [L Ab l] (T.tkd 82 2 l.length λi=>Ab (nth l i))/\(l.length+1)*32<=140737488355328/\l.length+1<=140737488355328/\72=72/\e.1=e.1/\e.1=e.1/\sR eI e.2/\sR Ab l/\zC (cS (su)) (DO Gl yd0 71 [f72] (Sg su (L Ab l) e) (.ret (I v)) []/\((v==(0:Int))=true->v=v/\(SEq (l.length+1) (An l.length (λi=>Ab (nth l i)) (gD [List.map C.dem (List.map C.dem [Ci e.1,C.s Tag.n e.2.length λi=>eI (nth e.2 i)])])) (ln A1) λi=>Ab (nth A1 i))/\tt 1 A0)/\((v==(0:Int))=false->v=v/\(sQ Ab l A1)/\tt 1 A0))))))) func23 ?_;have hq:=Eb (f:=Ab) (l:=l) (r:=l++[e]) (x:=e) rfl rfl;simp only[stdS,aL,aB,and_true];refine⟨Qd S,hf,λ_=>⟨g24,Mz S e.nums h1 (by omega),Bej S l g1 (by omega),by omega,by omega,hr,λhv=>?_,λhv=>?_⟩⟩
 ·rw[hv,bA];trivial
 ·rw[hv,cC];exact⟨.of ⟨rfl,λ_ _=>rfl⟩,trivial⟩
end Go.Vc.Zn.Rm
namespace Go.Vc.Zn
open Go Go.Proofs Go.Vc
def func400:Tryz.prog.funcs[400]?=some Tryz.f400:=by kernel_rfl
def name400:(Tryz.f400.name== "runtime.NumGoroutine")=false:=by kernel_rfl
def func401:Tryz.prog.funcs[401]?=some Tryz.f401:=by kernel_rfl
def name401:(Tryz.f401.name== "runtime.NumGoroutine")=false:=by kernel_rfl
end Go.Vc.Zn
namespace Go.Vc.Zn.Rm
open Go Go.Proofs Go.Vc Go.RowKit
theorem Acz:∀c9:Env,Af [] c9=c9
 | []=>rfl
 |(t,k,x)::r=>by
  have:=Acz r;change rest [] r=r at this
  show rest [] ((t,k,x)::r)=_
  unfold rest
  show (t,k,x)::rest [] r=_
  grind
def Ben {vis:Nat->Nat} {w:World} (o:Obj) (h:∀b,w.heap.size<=b->vis b=0):KeepV vis w (w.alloc o):=
 ⟨λb i hi=>bF (Cm w o (by
  grind)),λb hb es c he=>by grind[Cm],Me λb h=>Cm w o h⟩
def Vd (G:Gh) (b:Nat):Gh:={ G with vis:=λc=>if c=b then 1 else G.vis c }
def Mem.up {Y:TypeId->Ty} {m:Env} {w:World} {G:Gh} {b:Nat} (ho:∀id,m.get 2 id≠.any->Cv (m.get 2 id)=true) (h1:∀k,m.get 1 k=.any) (hb:∀id,m.get 2 id≠.any->G.bk id≠b) (h0:G.vis b=0) (M:Mem Y (λ_=>False) m w G):Mem Y (λ_=>False) m w (Vd G b):=by
 have i7:∀c,G.vis c<=(Vd G b).vis c:=λc=>by
  show _<=if c=b then 1 else G.vis c
  grind
 have m7:Ext (λ_=>False) G (Vd G b) w w:=⟨i7,.refl _ _,λ_ h=>h.elim⟩
 refine⟨λid k d6=>?_,λid d6=>?_,M.inj⟩
 ·obtain⟨q1,q2,u,q3,q4⟩:=M.cells id k d6;exact⟨q1,q2,u,q3,VOK.mono m7 (λ_ _=>rfl) (λ_ h=>h) (λk h=>absurd (h1 k) h) (λk b h=>absurd (h1 k) h) q4⟩
 ·obtain⟨q1,q2,q3⟩:=M.box id d6;have hv:(Vd G b).vis (G.bk id)=G.vis (G.bk id):=bI (hb id d6);refine⟨q1,q2,?_⟩
  show Bk (Vd G b) w (m.get 2 id) (G.bk id)
  have ho:=ho id d6;generalize m.get 2 id=ob at q3 ho;unfold Bk at q3 ⊢;split at q3
  ·grind
  ·rw[hv];obtain⟨⟨cs,t,z,h3,hz,h4,h5⟩,h6⟩:=q3;refine⟨⟨cs,t,z,h3,hz,h4,λi hi=>?_⟩,h6⟩;obtain⟨h7,h8⟩:=h5 i hi;exact⟨h7,λj c hc=>by obtain⟨u,h9,jk⟩:=h8 j c hc;exact⟨u,h9,jk.mono m7⟩⟩
  ·rw[hv];obtain⟨⟨es,cl,h3,h4,h5⟩,h6⟩:=q3;exact⟨⟨es,cl,h3,h4,λi en k he hk=>⟨(h5 i en k he hk).1,(h5 i en k he hk).2.mono m7⟩⟩,h6⟩
  ·trivial
  ·cases ho
  ·cases ho
  trivial
def Beo {f h:FuncId} (hf:Ha Tryz.prog f) {t:TypeId} (kq:∀(p:Addr) (w:World),Calls Tryz.prog f #[.pointer (some p)] w λen w'=>en=.returned (.func (.func h) #[] #[.pointer (some ⟨w.heap.size,0,none⟩)])/\w'=w.alloc (.cells #[.pointer (some p)] t))
  {Gl:World->Prop} {yd:Yd} {c9:Env} (bd:En c9=true) (F:Nat):DO Gl yd f [.addr F 0] c9 (.new (.fn h [.addr F 0] []) []) []:=by
 obtain⟨p0,p1,p2⟩:=Mk bd;refine⟨hf,λJ G w vs m8 cb sm ae hH hJ v6 f7=>?_⟩;simp only[Ac,Aa]at f7;obtain⟨v,vs1,ai,rfl,rfl⟩:=f7;obtain rfl:vs=#[.pointer (some ⟨G.bk F,0,none⟩)]:=by grind
 rw[Acz];refine (kq _ w).mono ?_;rintro en w' ⟨rfl,rfl⟩;have n8:=Ben (w:=w) (.cells #[.pointer (some ⟨G.bk F,0,none⟩)] t) ae;have y9:∀id,c9.get 2 id≠.any->G.bk id<w.heap.size:=λid d6=>(v6.box id d6).2.1;have wb:=m8.1 _ _ _ _ _ hJ (λb hb=>Cm w _ (hH b hb)) n8 (Gz w _);have js:=Mem.keep (Kl bd) p1 (λid d6=>Cm w _ (y9 id d6)) n8 (Gz w _) v6;have j9:(w.alloc (.cells #[.pointer (some ⟨G.bk F,0,none⟩)] t)).heap.size=w.heap.size+1:=by simp[eC]
 refine⟨Gz w _,n8,λb hb _ _=>Cm w _ hb,λid k hl hk=>bF (Cm w _ (y9 id (by rw[hl];exact Bc))),Vd G w.heap.size,rfl,λb hb=>bI (by omega),λb hb=>(bI (by omega)).trans (ae b (by omega)),λ_ _=>gU,λb hb=>by have:G.H b:=hb;grind,m8.2 _ _ _ _ _ wb (λc=>?_) (λc hc=>bI (by have:=hH c hc;omega)),Mem.up (Kl bd) p1 (λid d6=>by grind) (ae _ (aI _)) js,w.heap.size,_,rfl,by show 0<if _ then 1 else _;grind,?_,by trivial⟩
 ·show _<=if c=w.heap.size then 1 else G.vis c
  grind
 ·rw[World.cell?_alloc_new];rfl
def Bep (p:Addr) (w:World):Calls Tryz.prog 247 #[.pointer (some p)] w λen w'=>en=.returned (.func (.func 320) #[] #[.pointer (some ⟨w.heap.size,0,none⟩)])/\w'=w.alloc (.cells #[.pointer (some p)] 159):=by
 go_enter Tryz.func247,Tryz.ntmps247
 have S:SL { tmps:=#[.pointer (some p),undef,undef,undef],defers:=[] } 4 (λt=>#[.pointer (some p)].getD t undef) []:=SL.start #[.pointer (some p)] 4 (aH rfl);generalize ({ tmps:=#[.pointer (some p),undef,undef,undef],defers:=[] }:Act)=a at S ⊢;refine cE (aR ?_);refine Ak S (d:=1) (v:=.pointer (some ⟨w.heap.size,0,none⟩)) (w':=w.alloc (.cells #[.pointer (some p)] 159)) rfl (by decide) rfl ?_ λa1 S1=>?_
 ·simp[execOp,S.eval,upd,Instr.box,newVar,newRow,Value.cells]
 refine Ak S1 (d:=2) (v:=.nilFunc) (w':=w.alloc (.cells #[.pointer (some p)] 159)) rfl (by decide) rfl ?_ λa2 S2=>?_
 ·trivial
 generalize w.alloc (.cells #[.pointer (some p)] 159)=w1;refine cE (aR ?_);refine Ak S2 (d:=3) (v:=.func (.func 320) #[] #[.pointer (some ⟨w.heap.size,0,none⟩)]) (w':=w1) rfl (by decide) rfl ?_ λa3 S3=>?_
 ·simp[execOp,S2.eval,upd,Instr.makeFunc]
 refine Ak S3 (d:=2) (v:=.func (.func 320) #[] #[.pointer (some ⟨w.heap.size,0,none⟩)]) (w':=w1) rfl (by decide) rfl ?_ λa4 S4=>?_
 ·simp[execOp,S3.eval,upd]
 refine wp_ret ?_;have h2:=S4.eval (t:=2) (by decide);refine⟨S4.defers,_,results_tmp (fn:=Tryz.f247) (t:=2) rfl _ _ _,?_,rfl⟩
 show Ending.returned (a4.eval (.tmp 2))=_
 rw[h2];rfl
def Ad0 {Gl:World->Prop} {c9:Env} (bd:En c9=true) (F:Nat):DO Gl yd0 247 [.addr F 0] c9 (.new (.fn 320 [.addr F 0] []) []) []:=
 Beo ⟨_,Tryz.func247,(by kernel_rfl),by kernel_rfl⟩ Bep bd F
end Go.Vc.Zn.Rm
namespace Go.Vc.Zn.Df
open Go Go.Proofs Go.Vc Go.RowKit Tryz
def Aiw {s:Span} (h:Da s=true):-99999<=s.lo/\s.lo<=s.hi/\s.hi<=99999/\s.hi<=s.lo+6:=by
 grind[Da,Bi]
def errsL (l:Span):List Int:=(List.range (l.hi - l.lo+1).toNat).map λi:Nat=>l.lo+i
def trR:List Span->List Int->List (List Int)
 | [],now=>[now]
 |l::r,now=>(errsL l).flatMap λe=>trR r (now++[e])
def truthsL (b:Plan):List (List Int):=trR b.starts []
def trPre (b:Plan) (l p:Nat):Env:=[(0,BIG,.tr p),(2,FAR,live),(FAR+3,0,.yl l),(2,FAR+1,live),(FAR+4,0,.fn 401 [] [.d (.c (.p (Ca b))),.addr FAR 0,.addr (FAR+1) 0])]
def trYd (b:Plan) (P:List (List Int)) (l m s:Nat):Yd:=⟨l,m,s,λq=>[Oj b (nth P q)]⟩
def nowL (b:Plan) (now:List Int):Span:=nth b.starts now.length
def sub (b:Plan) (now:List Int) (e:Int):List (List Int):=trR (b.starts.drop (now.length+1)) (now++[e])
def cntT (b:Plan) (now:List Int) (k:Nat):Nat:=(((errsL (nowL b now)).take k).flatMap (sub b now)).length
def allT (b:Plan) (now:List Int):List (List Int):=trR (b.starts.drop now.length) now
def stopK (b:Plan) (now:List Int) (p s:Nat):Nat:=Bl (λk=>decide (p+cntT b now (k+1)<=s)) (List.range (errsL (nowL b now)).length)
theorem allT_step {b:Plan} {now:List Int} (h:now.length<b.starts.length):allT b now=(errsL (nowL b now)).flatMap (sub b now):=by
 unfold allT;rw[dP h]
 show (errsL _).flatMap _=_
 have:b.starts[now.length]=nowL b now:=by unfold nowL nth;rw[bU,aQ h];rfl
 rw[this]
 rfl
def allT_cnt {b:Plan} {now:List Int} (h:now.length<b.starts.length):(allT b now).length=cntT b now (errsL (nowL b now)).length:=by
 grind[allT_step,cntT]
theorem cntT_succ {b:Plan} {now:List Int} {k:Nat} (h:k<(errsL (nowL b now)).length):cntT b now (k+1)=cntT b now k+(sub b now (nth (errsL (nowL b now)) k)).length:=by
 grind[cntT,take_succ]
theorem cntT_mono {b:Plan} {now:List Int}:∀{j k:Nat},k<=j->j<=(errsL (nowL b now)).length->cntT b now k<=cntT b now j
 |0,k,h,_=>by grind
 |j+1,k,h,hj=>by
  rcases bL k (j+1) with h1|h1
  ·have:=cntT_mono (b:=b) (now:=now) (j:=j) (k:=k) (by omega) (by omega);grind[cntT_succ]
  grind
theorem errsL_len {l:Span} (h:l.lo<=l.hi):((errsL l).length:Int)=l.hi - l.lo+1:=by
 grind[errsL]
def errsL_at {l:Span} {k:Nat} (h:k<(errsL l).length):nth (errsL l) k=l.lo+k:=by
 grind[errsL,Hq,Cc]
def Beq {Gl} (S:SP Gl) (b:Plan) (now:List Int) (P:List (List Int)) (l m s p:Nat) (hn:now.length=b.starts.length) (hm:p<m) (hs:p<=s) (hP:nth P p=now):DO Gl (trYd b P l m s) 401 [L eI now,.d (.c (.p (Ca b))),.addr FAR 0,.addr (FAR+1) 0] (trPre b l p) (.ret (B (p != s))) [(0,BIG,.tr (p+1))]:=by
 refine Fp S (.val 13 true (.tt .nil)) (now.length<=maxLen->b.1.length<=maxLen->((now.length:Int)==b.1.length)=true/\tt 1 (l=l/\p<m/\p<=s/\sR Ae b.1/\b.2=b.2/\b.3=b.3/\(sQ eI now (nth P p))/\(p != s)=(p != s)/\p+1=p+1/\l=l/\401=401/\[C.l Ae b.1,Ci b.2,Ci b.3]=[C.l Ae b.1,Ci b.2,Ci b.3])) func401 ?_;simp only[stdS,aL,aB,and_true];exact λ_ _=>⟨dI.2 (by omega),hm,hs,by rw[hP];exact Ax rfl,trivial⟩
def Ber {Gl} (S:SP Gl)  :CR Gl 69 [.d (.c (.v (.slice none 0 0)))] (.d (.c (.v (.slice none 0 0)))):=by
 refine Ao S (.tt .nil) (true=true/\Value.slice none 0 0=Value.slice none 0 0) func69 ?_;trivial
theorem Bes {Gl} (S:SP Gl) (b:Plan) (now:List Int) (P:List (List Int)) (l m s p:Nat) (vf:1<=now.length) (hn4:now.length<=4) (hlt:now.length<b.starts.length) (n6:Bn b=true) (hs:p<=s) (ih:∀(k n:Nat) (f:Nat->List C),k<(errsL (nowL b now)).length->p+cntT b now k<=s->SEq n f (now.length+1) (λi=>eI (nth (now++[nth (errsL (nowL b now)) k]) i))->DO Gl (trYd b P l m s) 401 [.d (.c (.s .n n f)),.d (.c (.p (Ca b))),.addr FAR 0,.addr (FAR+1) 0] (trPre b l (p+cntT b now k)) (.ret (B (decide (p+cntT b now (k+1)<=s)))) [(0,BIG,.tr (min (p+cntT b now (k+1)) (s+1)))]):DO Gl (trYd b P l m s) 401 [L eI now,.d (.c (.p (Ca b))),.addr FAR 0,.addr (FAR+1) 0] (trPre b l p) (.ret (B (decide (p+(allT b now).length<=s)))) [(0,BIG,.tr (min (p+(allT b now).length) (s+1)))]:=by
 refine Bs S (let A8:=(now.length:Int);let A7:=λ(k0:Nat)=>p+cntT b now (k0+1);let A6:=now.length+1;let A5:=nth b.1 now.length;let A4:=T.tkd 3 1 now.length λi=>eI (nth now i);let A2:=nowL b now;let A1:=λ(k0:Nat)=>An now.length (λi=>eI (nth now i)) (gD [mI (A2.1+(k0:Int))]);let A3:=λ(k0:Nat)=>[tS A6 (A1 k0),T.d (D.c (C.p (Ca b))),aF 0,T.addr (FAR+1) 0];let A0:=[C.l Ae b.1,Ci b.2,Ci b.3];((.val 13 false (.ff (.loop (stopK b now p s) (λk=>v 7 (I (Span.lo A2+(k:Int)))::v 6 (ad 6)::v 0 (L eI now)::v 1 (T.d (D.c (C.p (Ca b))))::v 2 (aF 0)::v 3 (T.addr (FAR+1) 0)::(bx 6 (Ae A2)++trPre b l (p+cntT b now k))) λk0=>.br (rt A4 (.w [(FAR,FAR),(FAS,FAS)] (A3 k0) (trPre b l (p+cntT b now k0)) (.ret (B (decide (p+cntT b now (k0+1)<=s)))) [(0,BIG,T.tr (min (A7 k0) (s+1)))] (.br .nil .nil))) .nil))),(now.length<=maxLen->b.1.length<=maxLen->(A8==b.1.length)=false/\false=false/\(now.length<=maxLen->(0<=A8/\A8<b.1.length)/\(A5.1=A2.1+(↑(0:Nat):Int)/\sR eI now/\A0=A0/\A5.1=A2.1/\A5.2=A2.2/\p=p+cntT b now 0/\l=l/\401=401/\A0=A0)/\∀(k0:Nat),k0<=stopK b now p s->(decide ((nowL b now).1+(k0:Int)<=(nowL b now).2)=true->CR Gl 69 [L eI now] A4/\cp A6 (SEq A6 (A1 k0) A6 (A1 k0)/\A0=A0/\p+cntT b now k0=p+cntT b now k0/\l=l/\401=401/\A0=A0/\DO Gl (trYd b P l m s) 401 (A3 k0) (trPre b l (p+cntT b now k0)) (.ret (B (decide (p+cntT b now (k0+1)<=s)))) [(0,BIG,T.tr (min (A7 k0) (s+1)))]/\((!decide (p+cntT b now (k0+1)<=s))=true->false=decide (p+ln (allT b now)<=s)/\min (A7 k0) (s+1)=min (p+ln (allT b now)) (s+1)/\l=l/\401=401/\A0=A0)/\((!decide (p+cntT b now (k0+1)<=s))=false->iR (A2.1+(k0:Int)+1)/\k0<stopK b now p s/\A2.1+(k0:Int)+1=A2.1+(↑(k0+1):Int)/\sR eI now/\A0=A0/\A2.1=A2.1/\A2.2=A2.2/\min (A7 k0) (s+1)=p+cntT b now (k0+1)/\l=l/\401=401/\A0=A0)))/\(decide ((nowL b now).1+(k0:Int)<=(nowL b now).2)=false->true=decide (p+ln (allT b now)<=s)/\p+cntT b now k0=min (p+ln (allT b now)) (s+1)/\l=l/\401=401/\A0=A0))))) func401 ?_
 simp only[stdS,aL,aB,and_true,aN,aK,cL,cZ,Ad,Ap];have hf:=plan_len n6;have e2:=Aiw (show Da (nowL b now)=true from hf.2.2.2 now.length hlt);have hlb:=hf.1;have w9:=errsL_len (l:=nowL b now) e2.2.1;have qn:cntT b now 0=0:=rfl;have m8:stopK b now p s<=(errsL (nowL b now)).length:=by have:=Kn (p:=λk=>decide (p+cntT b now (k+1)<=s)) (l:=List.range (errsL (nowL b now)).length);rw[cR]at this;exact this
 have jt:∀k,k<=stopK b now p s->p+cntT b now k<=s:=λk hk=>by
  match k,hk with
  |0,_=>rw[qn];exact hs
  |k+1,hk=>
   have h:=Io (p:=λk=>decide (p+cntT b now (k+1)<=s)) (l:=List.range (errsL (nowL b now)).length) (i:=k) hk;grind[Cc]
 have o6:=allT_cnt hlt;refine λ_ _=>⟨dN.2 (by omega),λ_=>⟨⟨by omega,by omega⟩,⟨?_,?_⟩,λk hk=>⟨λh1=>?_,λh1=>?_⟩⟩⟩
 ·grind[nowL]
 ·trivial
 ·have bf:k<(errsL (nowL b now)).length:=by omega
  have hm:=cntT_mono (b:=b) (now:=now) (show k+1<=(errsL (nowL b now)).length by omega) (aI _);have hq:SEq (now.length+1) (An now.length (λi=>eI (nth now i)) λi=>[List.map C.dem [C.v (Value.int .i64 ((nowL b now).lo+k))]].getD i []) (now.length+1) (λi=>eI (nth (now++[nth (errsL (nowL b now)) k]) i)):=by
   have:=Eb (f:=eI) (l:=now) (r:=now++[nth (errsL (nowL b now)) k]) (x:=nth (errsL (nowL b now)) k) rfl rfl;rw[cU,fG,errsL_at bf]at this;rw[errsL_at bf];exact this
  exact⟨Bc5 S now vf (by omega),by omega,by omega,ih k _ _ bf (jt k hk) hq,λh2=>⟨(fD (by omega)).symm,by omega,trivial⟩,λh2=>⟨⟨by omega,by omega⟩,Fq hk (by grind) (by grind[Cc]),by omega,by omega,trivial⟩⟩
 grind
theorem Bet {Gl} (S:SP Gl) (b:Plan) (P:List (List Int)) (l m s p:Nat) (nz:((0:Int)==(b.starts.length:Int))=false) (hlt:0<b.starts.length) (n6:Bn b=true) (hs:p<=s) (ih:∀(k n:Nat) (f:Nat->List C),k<(errsL (nowL b [])).length->p+cntT b [] k<=s->SEq n f (1) (λi=>eI (nth ([]++[nth (errsL (nowL b [])) k]) i))->DO Gl (trYd b P l m s) 401 [.d (.c (.s .n n f)),.d (.c (.p (Ca b))),.addr FAR 0,.addr (FAR+1) 0] (trPre b l (p+cntT b [] k)) (.ret (B (decide (p+cntT b [] (k+1)<=s)))) [(0,BIG,.tr (min (p+cntT b [] (k+1)) (s+1)))]):DO Gl (trYd b P l m s) 401 [.d (.c (.v (.slice none 0 0))),.d (.c (.p (Ca b))),.addr FAR 0,.addr (FAR+1) 0] (trPre b l p) (.ret (B (decide (p+(allT b []).length<=s)))) [(0,BIG,.tr (min (p+(allT b []).length) (s+1)))]:=by
 refine Bs S (let A6:=(b.1.length:Int);let A5:=λ(k0:Nat)=>p+cntT b [] (k0+1);let A4:=p+ln (allT b []);let A3:=(↑(0:Nat):Int);let A1:=nowL b [];let A2:=λ(k0:Nat)=>[tS 1 (gD [mI (A1.1+(k0:Int))]),T.d (D.c (C.p (Ca b))),aF 0,T.addr (FAR+1) 0];let A0:=[C.l Ae b.1,Ci b.2,Ci b.3];((.br .nil (.loop (stopK b [] p s) (λk=>v 7 (I (Span.lo A1+(k:Int)))::v 6 (ad 6)::v 0 (T.d (D.c cN))::v 1 (T.d (D.c (C.p (Ca b))))::v 2 (aF 0)::v 3 (T.addr (FAR+1) 0)::(bx 6 (Ae A1)++trPre b l (p+cntT b [] k))) λk0=>.br (rt (T.d (D.c cN)) (.w [(FAR,FAR),(FAS,FAS)] (A2 k0) (trPre b l (p+cntT b [] k0)) (.ret (B (decide (p+cntT b [] (k0+1)<=s)))) [(0,BIG,T.tr (min (A5 k0) (s+1)))] (.br .nil .nil))) .nil)),(0<=maxLen->b.1.length<=maxLen->((A3==A6)=true->l=l/\p<m/\p<=s/\sR Ae b.1/\b.2=b.2/\b.3=b.3/\ln (nth P p)=0/\(p != s)=decide (p+ln (allT b [])<=s)/\p+1=min A4 (s+1)/\l=l/\401=401/\A0=A0)/\((A3==A6)=false->0<=maxLen->(0<=A3/\A3<A6)/\((nth b.1 0).1=A1.1+A3/\Value.slice none 0 0=Value.slice none 0 0/\A0=A0/\(nth b.1 0).1=A1.1/\(nth b.1 0).2=A1.2/\p=p+cntT b [] 0/\l=l/\401=401/\A0=A0)/\∀(k0:Nat),k0<=stopK b [] p s->(decide ((nowL b []).1+(k0:Int)<=(nowL b []).2)=true->CR Gl 69 [T.d (D.c cN)] (T.d (D.c cN))/\1*8<=140737488355328/\1<=140737488355328/\(SEq 1 (gD [mI (A1.1+(k0:Int))]) 1 (gD [mI (A1.1+(k0:Int))]))/\A0=A0/\p+cntT b [] k0=p+cntT b [] k0/\l=l/\401=401/\A0=A0/\DO Gl (trYd b P l m s) 401 (A2 k0) (trPre b l (p+cntT b [] k0)) (.ret (B (decide (p+cntT b [] (k0+1)<=s)))) [(0,BIG,T.tr (min (A5 k0) (s+1)))]/\((!decide (p+cntT b [] (k0+1)<=s))=true->false=decide (p+ln (allT b [])<=s)/\min (A5 k0) (s+1)=min A4 (s+1)/\l=l/\401=401/\A0=A0)/\((!decide (p+cntT b [] (k0+1)<=s))=false->iR (A1.1+(k0:Int)+1)/\k0<stopK b [] p s/\A1.1+(k0:Int)+1=A1.1+(↑(k0+1):Int)/\Value.slice none 0 0=Value.slice none 0 0/\A0=A0/\A1.1=A1.1/\A1.2=A1.2/\min (A5 k0) (s+1)=p+cntT b [] (k0+1)/\l=l/\401=401/\A0=A0))/\(decide ((nowL b []).1+(k0:Int)<=(nowL b []).2)=false->true=decide (p+ln (allT b [])<=s)/\p+cntT b [] k0=min A4 (s+1)/\l=l/\401=401/\A0=A0))))) func401 ?_
 simp only[stdS,aL,aB,and_true,aN,aK,cL,cZ,Ad,Ap];have hf:=plan_len n6;have e2:=Aiw (show Da (nowL b [])=true from hf.2.2.2 0 hlt);have w9:=errsL_len (l:=nowL b []) e2.2.1;have qn:cntT b [] 0=0:=rfl;have m8:stopK b [] p s<=(errsL (nowL b [])).length:=by have:=Kn (p:=λk=>decide (p+cntT b [] (k+1)<=s)) (l:=List.range (errsL (nowL b [])).length);rw[cR]at this;exact this
 have jt:∀k,k<=stopK b [] p s->p+cntT b [] k<=s:=λk hk=>by
  match k,hk with
  |0,_=>rw[qn];exact hs
  |k+1,hk=>
   have h:=Io (p:=λk=>decide (p+cntT b [] (k+1)<=s)) (l:=List.range (errsL (nowL b [])).length) (i:=k) hk;grind[Cc]
 have o6:=allT_cnt (b:=b) (now:=[]) hlt;refine λ_ _=>⟨λh=>absurd h (by grind),λ_ _=>⟨⟨by omega,by omega⟩,⟨?_,rfl,rfl,rfl,trivial⟩,λk hk=>⟨λh1=>?_,λh1=>?_⟩⟩⟩
 ·grind[nowL]
 ·have bf:k<(errsL (nowL b [])).length:=by omega
  have hm:=cntT_mono (b:=b) (now:=[]) (show k+1<=(errsL (nowL b [])).length by omega) (aI _);have hq:SEq 1 (λi=>[List.map C.dem [C.v (Value.int .i64 ((nowL b []).lo+k))]].getD i []) 1 (λi=>eI (nth ([]++[nth (errsL (nowL b [])) k]) i)):=.of ⟨rfl,λi hi=>by
   obtain rfl:i=0:=by omega
   rw[errsL_at bf];rfl⟩
  exact⟨Ber S,by omega,by omega,ih k _ _ bf (jt k hk) hq,λh2=>⟨(fD (by omega)).symm,by omega,trivial⟩,λh2=>⟨⟨by omega,by omega⟩,Fq hk (by grind) (by grind[Cc]),by omega,by omega,trivial⟩⟩
 grind
theorem Ar3 {Gl} (S:SP Gl) (b:Plan) (P:List (List Int)) (l m s:Nat) (n6:Bn b=true):∀(r:Nat) (now:List Int) (p:Nat),1<=now.length->now.length+r=b.starts.length->p<=s->(∀i,i<(allT b now).length->p+i<m/\nth P (p+i)=nth (allT b now) i)->
  DO Gl (trYd b P l m s) 401 [L eI now,.d (.c (.p (Ca b))),.addr FAR 0,.addr (FAR+1) 0] (trPre b l p) (.ret (B (decide (p+(allT b now).length<=s)))) [(0,BIG,.tr (min (p+(allT b now).length) (s+1)))]
 |0,now,p,h0,hn,hs,hP=>by
  have ha:allT b now=[now]:=by unfold allT;rw[List.drop_eq_nil_of_le (by omega)];rfl
  rw[ha]at hP ⊢;obtain⟨h1,h2⟩:=hP 0 (Nat.zero_lt_one);have:=Beq S b now P l m s p (by omega) h1 hs h2;grind[decide_eq_false]
 |r+1,now,p,h0,hn,hs,hP=>by
  have je:=plan_len n6;refine Bes S b now P l m s p h0 (by omega) (by omega) n6 hs λk n f hk m8 mi=>?_;have hlt:now.length<b.starts.length:=by omega
  have ih:=Ar3 S b P l m s n6 r (now++[nth (errsL (nowL b now)) k]) (p+cntT b now k) (by grind) (by grind) m8;have e1:allT b (now++[nth (errsL (nowL b now)) k])=sub b now (nth (errsL (nowL b now)) k):=by grind[allT,sub]
  rw[e1]at ih;have e2:=cntT_succ hk;rw[show p+cntT b now (k+1)=p+cntT b now k+(sub b now (nth (errsL (nowL b now)) k)).length by omega];refine (ih λi hi=>?_).args (show SEq n f (now++[nth (errsL (nowL b now)) k]).length (λi=>eI (nth (now++[nth (errsL (nowL b now)) k]) i))/\Ca b=Ca b from ⟨by grind,rfl⟩);have hb:=Ac8 (f:=sub b now) hk;have vf:=Yn (f:=sub b now) (i:=i) hk hi;grind[allT_step,cntT]
def Beu {Gl} (S:SP Gl) (b:Plan):CR Gl 373 [.d (.agg (Ca b))] (.fn 400 [] [.d (.c (.p (Ca b)))]):=by
 refine Xw S (t:=2) (id:=1) .nil func373 (by kernel_rfl) Tryz.results373 (by decide) (by decide) (T.fn 400 [] [.addr 1 0]=T.fn 400 [] [.addr 1 0]/\live=live/\Hl (Dt 1 0 (Ca b)) 1 0 (Ca b)) (by kernel_rfl) ?_;trivial
theorem next0 {Gl} (S:SP Gl) (b:Plan) (P:List (List Int)) (l m s:Nat) (n6:Bn b=true) (hP:∀i,i<(truthsL b).length->i<m/\nth P i=nth (truthsL b) i):
  DO Gl (trYd b P l m s) 401 [.d (.c (.v (.slice none 0 0))),.d (.c (.p (Ca b))),.addr FAR 0,.addr (FAR+1) 0] (trPre b l 0) (.ret (B (decide ((truthsL b).length<=s)))) [(0,BIG,.tr (min (truthsL b).length (s+1)))]:=by
 have je:=plan_len n6;have h:=Bet S b P l m s 0 (dN.2 (by omega)) (by omega) n6 (bV _) λk n f hk m8 mi=>(by
  have e1:allT b ([]++[nth (errsL (nowL b [])) k])=sub b [] (nth (errsL (nowL b [])) k):=rfl;have ih:=Ar3 S b P l m s n6 (b.starts.length - 1) ([]++[nth (errsL (nowL b [])) k]) (0+cntT b [] k) (by simp) (by simp;omega) m8;rw[e1]at ih;have e2:=cntT_succ hk;rw[show 0+cntT b [] (k+1)=0+cntT b [] k+(sub b [] (nth (errsL (nowL b [])) k)).length by omega];refine (ih λi hi=>?_).args ⟨mi,rfl⟩;have hb:=Ac8 (f:=sub b []) hk;have vf:=Yn (f:=sub b []) (i:=i) hk hi;have ht:truthsL b=(errsL (nowL b [])).flatMap (sub b []):=allT_step (b:=b) (now:=[]) (by simp;omega);grind[cntT])
 rw[bH]at h;exact h
def Bev {Gl} (S:SP Gl) (b:Plan) (l m s:Nat) (n6:Bn b=true) (hm:m=(truthsL b).length):DO Gl (trYd b (truthsL b) l m s) 400 [.yl l,.d (.c (.p (Ca b)))] [(0,BIG,.tr 0)] (.ret (.tup [])) [(0,BIG,.tr (min m (s+1)))]:=by
 refine Bs S (let A1:=[T.d (D.c cN),T.d (D.c (C.p (Ca b))),aF 0,T.addr (FAR+1) 0];let A0:=[C.l Ae b.1,Ci b.2,Ci b.3];((.w [(FAR,nat_lit 2),(FAS,nat_lit 3)] A1 (trPre b l 0) (.ret (B (decide (List.length (truthsL b)<=s)))) [(0,BIG,T.tr (min (List.length (truthsL b)) (s+1)))] .nil),(Value.slice none 0 0=Value.slice none 0 0/\A0=A0/\0=0/\l=l/\401=401/\A0=A0/\DO Gl (trYd b (truthsL b) l m s) 401 A1 (trPre b l 0) (.ret (B (decide (ln (truthsL b)<=s)))) [(0,BIG,T.tr (min (ln (truthsL b)) (s+1)))]/\True/\min (ln (truthsL b)) (s+1)=min m (s+1)))) func400 ?_;simp only[stdS,aL,aB,and_true];grind[next0]
end Go.Vc.Zn.Df
