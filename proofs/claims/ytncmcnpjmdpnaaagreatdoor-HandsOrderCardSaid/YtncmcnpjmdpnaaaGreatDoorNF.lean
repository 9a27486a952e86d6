/- A part of the proofs over layer 2 (hands): the program and the specification; no condition. -/
import Derived.Test.YtncmcnpjmdpnaaaGreatDoorNE
set_option linter.all false
set_option linter.unusedSimpArgs false
set_option linter.unusedVariables false
namespace Go.Vc.Hn
open Go Go.Proofs Go.Vc Go.RowKit
def litF (l:List Int) (i:Nat):List C:=(l.map fun x=>List.map C.dem [C.v (Value.int IntKind.i64 x)]).getD i []
theorem litE (l:List Int):SEqE l.length (litF l) l.length (fun i=>eI (nth l i)):=⟨rfl,fun i hi=>by
 show litF l i=eI (nth l i)
 unfold litF
 rw [List.getD_eq_getElem?_getD,List.getElem?_map,nth_eq hi,List.getElem?_eq_getElem hi]
 rfl⟩
theorem litS (l:List Int):SEq l.length (litF l) l.length (fun i=>eI (nth l i)):=.of (litE l)
theorem litC (g:Tag) (l:List Int):EqCs (List.map C.dem [C.s g l.length (litF l)]) (eCol l):=⟨.inr (.inr ⟨_,_,_,_,_,_,rfl,rfl,litE l⟩),trivial⟩
theorem exA70 {Gl} (S:SP Gl)  :CO Gl 70 [] (.ret (tSheet exA)):=by
 refine fn_iq S (let A0:=[[(123:Int),(45:Int),(-60:Int),(7:Int)],[(132:Int),(45:Int),(60:Int),(7:Int)]];((.nil),((SEq (2:Nat) (fun i=>List.getD [List.map C.dem [C.s (Tag.t (1:Nat)) (4:Nat) fun i=>List.getD [List.map C.dem [C.v (Value.int IntKind.i64 (123:Int))],List.map C.dem [C.v (Value.int IntKind.i64 (45:Int))],List.map C.dem [C.v (Value.int IntKind.i64 (-60:Int))],List.map C.dem [C.v (Value.int IntKind.i64 (7:Int))]] i []],List.map C.dem [C.s (Tag.t (2:Nat)) (4:Nat) fun i=>List.getD [List.map C.dem [C.v (Value.int IntKind.i64 (132:Int))],List.map C.dem [C.v (Value.int IntKind.i64 (45:Int))],List.map C.dem [C.v (Value.int IntKind.i64 (60:Int))],List.map C.dem [C.v (Value.int IntKind.i64 (7:Int))]] i []]] i []) (List.length A0) fun i=>eCol (nth A0 i))/\SEq (2:Nat) (fun i=>List.getD [List.map C.dem [C.v (Value.int IntKind.i64 (1:Int))],List.map C.dem [C.v (Value.int IntKind.i64 (1:Int))]] i []) (List.length [(1:Int),(1:Int)]) fun i=>eI (nth [(1:Int),(1:Int)] i)))) Tryz.func70 (by kernel_rfl) (by kernel_rfl) ?_
 dsimp only
 refine ⟨⟨rfl,fun i hi=>?_⟩,litS [1,1]⟩
 match i,hi with
 |0,_=>exact .inr (litC (.t 1) [123,45,-60,7])
 |1,_=>exact .inr (litC (.t 2) [132,45,60,7])
theorem exD71 {Gl} (S:SP Gl)  :CO Gl 71 [] (.ret (tSheet exD)):=by
 refine fn_is S (.nil) Tryz.func71 (by kernel_rfl) ((SEq (1:Nat) (fun i=>List.getD [List.map C.dem [C.s (Tag.t (1:Nat)) (2:Nat) fun i=>List.getD [List.map C.dem [C.v (Value.int IntKind.i64 (7:Int))],List.map C.dem [C.v (Value.int IntKind.i64 (7:Int))]] i []]] i []) (List.length [[(7:Int),(7:Int)]]) fun i=>eCol (nth [[(7:Int),(7:Int)]] i))/\SEq (1:Nat) (fun i=>List.getD [List.map C.dem [C.v (Value.int IntKind.i64 (1:Int))]] i []) (List.length [(1:Int)]) fun i=>eI (nth [(1:Int)] i)) (by kernel_rfl) ?_
 refine ⟨⟨rfl,fun i hi=>?_⟩,litS [1]⟩
 match i,hi with
 |0,_=>exact .inr (litC (.t 1) [7,7])
def shUp (s:Sheet):Nat:=upto (fun l:List Int=>decide (l.length<=8)) (s.cols.take 5)
def shortB (s:Sheet):Bool:=(s.cols.take 5).all (fun l=>decide (l.length<=8))&&(decide (s.cols.length<=5)&&decide (s.errs.length<=5))
theorem short30 {Gl} (S:SP Gl) (s:Sheet):CO Gl 30 [tSheet s] (.ret (B (shortB s))):=by
 refine fn_iq S (let A0:=(eqB (decide ((s.1.length:Int)<=5)) true=true->eqB (decide ((s.1.length:Int)<=5)) true=true);let A1:=fun (k0:Nat)=>(bif decide ((k0:Int)<(s.1.length:Int)) then decide ((k0:Int)<5) else false);((.loop (shUp s) (fun k=>v 3 (I k)::v 1 (ad 1)::bx 1 (cSheet s)) fun k0=>.br (.br .nil .nil) .nil),((0=(↑(0:Nat):Int)/\(sR eCol s.1)/\sR eI s.2)/\∀ (k0:Nat),k0<=shUp s->s.1.length<=maxLen->(eqB (decide ((k0:Int)<(s.1.length:Int))) true=true->eqB (decide ((k0:Int)<(s.1.length:Int))) true=true)/\(decide ((k0:Int)<(s.1.length:Int))=true->eqB (decide ((k0:Int)<(s.1.length:Int))) true=true)/\((A1 k0)=true->(0<=(k0:Int)/\(k0:Int)<(s.1.length:Int))/\(List.length (nth s.1 k0)<=maxLen->(decide (8<(List.length (nth s.1 k0):Int))=true->false=shortB s)/\(decide (8<(List.length (nth s.1 k0):Int))=false->iR ((k0:Int)+1)/\k0<shUp s/\(k0:Int)+1=(↑(k0+1):Int)/\(sR eCol s.1)/\sR eI s.2)))/\((A1 k0)=false->s.1.length<=maxLen->A0/\A0/\((eqB (decide ((s.1.length:Int)<=5)) true=true->s.2.length<=maxLen)->A0/\(decide ((s.1.length:Int)<=5)=true->eqB (decide ((s.1.length:Int)<=5)) true=true)/\(bif decide ((s.1.length:Int)<=5) then decide ((s.2.length:Int)<=5) else false)=shortB s))))) Tryz.func30 (by kernel_rfl) (by kernel_rfl) ?_
 have htl:(s.cols.take 5).length=min 5 s.cols.length:=List.length_take
 have hat:∀ k,k<(s.cols.take 5).length->nth (s.cols.take 5) k=nth s.cols k:=fun k hk=>nth_take (by omega)
 have hle:shUp s<=(s.cols.take 5).length:=upto_le
 simp only [stdS,imp_self,implies_true,and_true]
 refine fun k hk hm=>⟨fun hc=>?_,fun hc=>?_⟩
 ·rw [Bool.and_eq_true,decide_eq_true_eq,decide_eq_true_eq] at hc
  have hlt:k<(s.cols.take 5).length:=by omega
  refine ⟨by omega,fun _=>⟨fun h=>?_,fun h=>⟨(rng_iff _).2 (by omega),upto_lt hk hlt ?_,by omega,trivial⟩⟩⟩
  ·have h:=of_decide_eq_true h
   unfold shortB
   rw [upto_some (p:=fun l:List Int=>decide (l.length<=8)) (k:=k) hlt (by rw [hat k hlt];exact decide_eq_false (by omega))]
   rfl
  ·have h:=of_decide_eq_false h
   rw [hat k hlt]
   exact decide_eq_true (by omega)
 ·have hge:(s.cols.take 5).length<=k:=by
   rw [Bool.and_eq_false_iff,decide_eq_false_iff_not,decide_eq_false_iff_not] at hc
   omega
  unfold shortB
  rw [upto_all (p:=fun l:List Int=>decide (l.length<=8)) (l:=s.cols.take 5) (by unfold shUp at hk;omega),Bool.true_and]
  intro _ _
  have e:∀ n m:Nat,decide ((n:Int)<=(m:Int))=decide (n<=m):=fun n m=>by rw [decide_eq_decide];omega
  have e5:=e s.cols.length 5
  have e6:=e s.errs.length 5
  rw [<-e5,<-e6]
  rfl
theorem right44 {Gl} (S:SP Gl) (s:Sheet):CO Gl 44 [tSheet s] (.ret (B (shortB s&&s.ok))):=by
 refine fn_is S (.r (.ret (B (shortB s))) (.r (.ret (B (Sheet.ok s))) .nil)) Tryz.func44 (by kernel_rfl) (CO Gl 30 [tSheet s] (.ret (B (shortB s)))/\(eqB (shortB s) true=true->eqB (shortB s) true=true)/\(eqB (shortB s) true=true->CO Gl 32 [tSheet s] (.ret (B (Sheet.ok s))))/\(shortB s=true->eqB (shortB s) true=true)/\(bif shortB s then Sheet.ok s else false)=(shortB s&&Sheet.ok s)) (by kernel_rfl) ?_
 exact ⟨short30 S s,fun h=>h,fun _=>sheet32 S s,fun h=>by rw [h];rfl,by cases shortB s<;>rfl⟩
set_option maxRecDepth 100000
theorem sameL_self (a:List Int):sameL (·==·) a a=true:=by
 unfold sameL
 rw [beq_self_eq_true,Bool.true_and,List.all_eq_true]
 intro i _
 exact beq_self_eq_true _
theorem kSame {Gl} (S:SP Gl) (a:List Int) (n:Nat) (f:Nat->List C) (h:SEq n f a.length fun i=>eI (nth a i)):CO Gl 34 [L eI a,.d (.c (.s .n n f))] (.ret (B true)):=by
 have h1:=same34 S a a
 rw [sameL_self] at h1
 exact h1.args ⟨(SEq_refl _ _).2 trivial,h⟩
theorem kSameW {Gl} (S:SP Gl) (a:List Int) (n:Nat) (f:Nat->List C) (h:SEq n f a.length fun i=>eI (nth a i)):CO Gl 54 [L eI a,.d (.c (.s .n n f))] (.ret (B true)):=by
 have h1:=same68w S a a
 rw [sameL_self] at h1
 exact h1.args ⟨(SEq_refl _ _).2 trivial,h⟩
def errsX:List Err:=[⟨0,1⟩,⟨2,3⟩]
theorem kSameE {Gl} (S:SP Gl) (f:Nat->List C) (h:SEq 2 f errsX.length fun i=>eErr (nth errsX i)):CO Gl 25 [L eErr errsX,.d (.c (.s .n 2 f))] (.ret (B true)):=
 (show CO Gl 25 [L eErr errsX,L eErr errsX] (.ret (B true)) from sameErrors25 S errsX errsX).args ⟨(SEq_refl _ _).2 trivial,h⟩
theorem kErr {Gl} (S:SP Gl) (f g:Nat->List C) (hf:SEq 4 f [(132:Int),45,-60,7].length fun i=>eI (nth [(132:Int),45,-60,7] i)) (hg:SEq 4 g [(123:Int),45,60,7].length fun i=>eI (nth [(123:Int),45,60,7] i)):CO Gl 22 [.d (.c (.s .n 4 f)),.d (.c (.s .n 4 g))] (.ret (.tup [.c (.l eErr errsX),.c (Ci 0)])):=by
 have h1:=errors22 S [132,45,-60,7] [123,45,60,7] (by decide) (by decide) rfl exE.1
 rw [exE.2] at h1
 exact h1.args ⟨hf,hg⟩
theorem kApart {Gl} (S:SP Gl):CO Gl 53 [tSheet exA] (.ret (.tup [.c (.l eI [0,2]),.c (Ci 0)])):=by
 have h1:=apart53 S exA exA_ok
 rw [exA_apart] at h1
 exact h1
theorem kAgrees {Gl} (S:SP Gl) (f:Nat->List C) (hf:SEq 4 f [(123:Int),45,60,7].length fun i=>eI (nth [(123:Int),45,60,7] i)):CO Gl 28 [tSheet exA,.d (.c (.s .n 4 f))] (.ret (.tup [.c (.v (.bool true)),.c (Ci 0)])):=by
 have h1:=agrees28 S exA [123,45,60,7] exA_ok (by decide) rfl
 rw [exA_agrees] at h1
 exact h1.args ⟨(SEq_refl _ _).2 trivial,(SEq_refl _ _).2 trivial,hf⟩
theorem kFirst {Gl} (S:SP Gl):CO Gl 31 [tSheet exA] (.ret (.tup [.c (.l eI [123,45,60,7]),.c (Ci 0)])):=by
 have h1:=first31 S exA exA_ok exA_first.1
 rw [exA_first.2] at h1
 exact h1
theorem kVals {Gl} (S:SP Gl):CO Gl 37 [tSheet exD,I 1] (.ret (.tup [.c (.l eI [-7,7,17,70,107]),.c (Ci 0)])):=by
 have h1:=values37 S exD 1 exD_ok exD_vals.1 (by decide)
 rw [exD_vals.2.2.1,exD_vals.2.1] at h1
 exact h1
theorem kOpen {Gl} (S:SP Gl):CO Gl 37 [tSheet exD,I 0] (.ret (.tup [.c (.l eI []),.c (Ci 8)])):=by
 have h1:=values37 S exD 0 exD_ok exD_vals.1 (by decide)
 rw [exD_vals.2.2.2] at h1
 exact h1
theorem kSure {Gl} (S:SP Gl):CO Gl 38 [tSheet exA] (.ret (.tup [.c (.l eI [1,3]),.c (Ci 0)])):=by
 have h1:=sure38 S exA exA_ok exA_first.1
 rw [exA_sure] at h1
 exact h1
theorem exA_nextN:nextN exA=0/\nextC exA=0:=by decide +kernel
theorem kNext {Gl} (S:SP Gl):CO Gl 39 [tSheet exA] (.ret (.tup [.c (Ci 0),.c (Ci 0)])):=by
 have h1:=next39 S exA exA_ok exA_first.1
 rw [exA_nextN.1,exA_nextN.2] at h1
 exact h1
theorem kLeast {Gl} (S:SP Gl):CO Gl 29 [tSheet exA] (.ret (.tup [.c (Ci 2),.c (Ci 0)])):=by
 have h1:=least29 S exA exA_ok exA_first.1
 rw [exA_least] at h1
 exact h1
theorem kWrong {Gl} (S:SP Gl):CO Gl 48 [tSheet exA,I 0] (.ret (.tup [.c (.l eI [2,1,2,1]),.c (Ci 0)])):=by
 have h1:=wrong48 S exA 0 exA_ok exA_first.1 (by decide)
 rw [exA_wrong] at h1
 exact h1
theorem kHands {Gl} (S:SP Gl):CO Gl 49 [tSheet exB] (.ret (.tup [.c (.l eI [3,3,1]),.c (Ci 0)])):=by
 have h1:=hands49 S exB exB_ok exB_hands.1
 rw [exB_hands.2] at h1
 exact h1
theorem kBoth {Gl} (S:SP Gl):CO Gl 57 [tSheet exA,I 0,I 1] (.ret (.tup [.c (.l eI []),.c (Ci 0)])):=by
 have h1:=both57 S exA 0 1 exA_ok exA_first.1 (by decide) (by decide) (by decide)
 rw [show rows exA=4 from rfl,exA_both] at h1
 exact h1
def exS:Sheet:=⟨[[0]],[0]⟩
theorem exS_ok:exS.ok=true:=by decide +kernel
theorem exT_parse:parse exT=some exS:=by decide +kernel
theorem kRead {Gl} (S:SP Gl) (hG:GlOK Gl):CO Gl 66 [str exT] (.ret (.tup [.agg (cSheet exS),.c (Ci 0)])):=
 read66 S exT exS (by decide) (parsed110some S hG exT (by decide) exT_parse) exS_ok
theorem kPrint {Gl} (S:SP Gl):CO Gl 67 [tSheet exS] (.ret (str exT)):=by
 have h1:=print67 S exS (ok_low exS_ok)
 rw [show textS exS=exT from exT_text] at h1
 exact h1
theorem known21 {Gl} (S:SP Gl) (hG:GlOK Gl) (hB:CO Gl 72 [] (.ret (tSheet exB))):CO Gl 21 [] (.ret (B true)):=by
 refine fn_iq S (let A0:=(D.c (C.s Tag.n (4:Nat) fun i=>List.getD [List.map C.dem [C.v (Value.int IntKind.i64 (123:Int))],List.map C.dem [C.v (Value.int IntKind.i64 (45:Int))],List.map C.dem [C.v (Value.int IntKind.i64 (60:Int))],List.map C.dem [C.v (Value.int IntKind.i64 (7:Int))]] i []));let A1:=(tSheet exA);let A2:=(Value.int IntKind.i64 (1:Int));let A3:=(Value.int IntKind.i64 (2:Int));let A4:=(Value.int IntKind.i64 (3:Int));let A5:=[D.c (C.l eI [(-7:Int),(7:Int),(17:Int),(70:Int),(107:Int)]),D.c (Ci 0)];let A6:=[D.c (C.l eI [(123:Int),(45:Int),(60:Int),(7:Int)]),D.c (Ci 0)];let A7:=[D.c (C.l eI [(2:Int),(1:Int),(2:Int),(1:Int)]),D.c (Ci 0)];let A8:=[D.c (C.l eI [(3:Int),(3:Int),(1:Int)]),D.c (Ci 0)];((.r (.ret (.tup [D.c (C.l eErr errsX),D.c (Ci 0)])) (.r (.ret A1) (.r (.ret (.tup [D.c (C.l eI [(0:Int),(2:Int)]),D.c (Ci 0)])) (.r (.ret A1) (.r (.ret (.tup [D.c (C.v (Value.bool true)),D.c (Ci 0)])) (.r (.ret A1) (.r (.ret (.tup A6)) (.r (.ret (tSheet exD)) (.r (.ret (.tup A5)) (.r (.ret A1) (.r (.ret (.tup [D.c (C.l eI [(1:Int),(3:Int)]),D.c (Ci 0)])) (.r (.ret A1) (.r (.ret (.tup [D.c (Ci 0),D.c (Ci 0)])) (.r (.ret A1) (.r (.ret (.tup [D.c (Ci 2),D.c (Ci 0)])) (.r (.ret A1) (.r (.ret (.tup A7)) (.r (.ret (tSheet exB)) (.r (.ret (.tup A8)) (.r (.ret A1) (.r (.ret (.tup [D.c (C.l eI []),D.c (Ci 0)])) (.r (.ret (.tup [D.agg (cSheet exS),D.c (Ci 0)])) (.r (.ret (tSheet exD)) (.r (.ret (.tup [D.c (C.l eI []),D.c (Ci 8)])) (.sure 99 (.sure 100 (.sure 103 (.sure 104 (.sure 107 (.sure 108 (.sure 111 (.sure 112 (.sure 115 (.sure 116 (.sure 119 (.sure 120 (.sure 123 (.sure 124 (.sure 127 (.sure 128 (.sure 131 (.sure 132 (.sure 135 (.sure 136 (.sure 139 (.sure 140 (.sure 143 (.sure 144 (.ff (.r (.ret (B true)) (.sure 153 (.sure 154 (.sure 155 (.r (.ret (B true)) (.sure 156 (.sure 159 (.sure 160 (.sure 163 (.sure 164 (.sure 165 (.r (.ret (B true)) (.sure 166 (.sure 169 (.sure 170 (.sure 171 (.r (.ret (B true)) (.sure 172 (.sure 175 (.sure 176 (.sure 177 (.r (.ret (B true)) (.sure 178 (.ff (.sure 183 (.sure 184 (.sure 187 (.sure 188 (.sure 189 (.sure 190 (.sure 191 (.sure 192 (.sure 193 (.r (.ret (B true)) (.sure 196 (.sure 197 (.sure 198 (.sure 199 (.sure 200 (.sure 201 (.r (.ret (B true)) (.sure 204 (.sure 205 (.sure 206 (.sure 209 (.sure 210 (.r (.ret (str exT)) (.sure 211 .nil))))))))))))))))))))))))))))))))))))))))))))))))))))))))))))))))))))))))))))))))))))))))))))))))),(CO Gl 22 [T.d (D.c (C.s Tag.n (4:Nat) fun i=>List.getD [List.map C.dem [C.v (Value.int IntKind.i64 (132:Int))],List.map C.dem [C.v (Value.int IntKind.i64 (45:Int))],List.map C.dem [C.v (Value.int IntKind.i64 (-60:Int))],List.map C.dem [C.v (Value.int IntKind.i64 (7:Int))]] i [])),T.d A0] (.ret (.tup [D.c (C.l eErr errsX),D.c (Ci 0)]))/\CO Gl 70 [] (.ret A1)/\CO Gl 53 [tSheet exA] (.ret (.tup [D.c (C.l eI [(0:Int),(2:Int)]),D.c (Ci 0)]))/\CO Gl 70 [] (.ret A1)/\CO Gl 28 [tSheet exA,T.d A0] (.ret (.tup [D.c (C.v (Value.bool true)),D.c (Ci 0)]))/\CO Gl 70 [] (.ret A1)/\CO Gl 31 [tSheet exA] (.ret (.tup A6))/\CO Gl 71 [] (.ret (tSheet exD))/\CO Gl 37 [tSheet exD,I 1] (.ret (.tup A5))/\CO Gl 70 [] (.ret A1)/\CO Gl 38 [tSheet exA] (.ret (.tup [D.c (C.l eI [(1:Int),(3:Int)]),D.c (Ci 0)]))/\CO Gl 70 [] (.ret A1)/\CO Gl 39 [tSheet exA] (.ret (.tup [D.c (Ci 0),D.c (Ci 0)]))/\CO Gl 70 [] (.ret A1)/\CO Gl 29 [tSheet exA] (.ret (.tup [D.c (Ci 2),D.c (Ci 0)]))/\CO Gl 70 [] (.ret A1)/\CO Gl 48 [tSheet exA,I 0] (.ret (.tup A7))/\CO Gl 72 [] (.ret (tSheet exB))/\CO Gl 49 [tSheet exB] (.ret (.tup A8))/\CO Gl 70 [] (.ret A1)/\CO Gl 57 [tSheet exA,I 0,I 1] (.ret (.tup [D.c (C.l eI []),D.c (Ci 0)]))/\CO Gl 66 [str exT] (.ret (.tup [D.agg (cSheet exS),D.c (Ci 0)]))/\CO Gl 71 [] (.ret (tSheet exD))/\CO Gl 37 [tSheet exD,I 0] (.ret (.tup [D.c (C.l eI []),D.c (Ci 8)]))/\true=true/\true=true/\true=true/\true=true/\true=true/\true=true/\true=true/\true=true/\true=true/\true=true/\true=true/\true=true/\true=true/\true=true/\true=true/\true=true/\true=true/\true=true/\true=true/\true=true/\true=true/\true=true/\true=true/\true=true/\false=false/\CO Gl 25 [L eErr errsX,T.d (D.c (C.s Tag.n (2:Nat) fun i=>List.getD [List.map C.dem (List.map C.dem [C.v (Value.int IntKind.i64 (0:Int)),C.v A2]),List.map C.dem (List.map C.dem [C.v A3,C.v A4])] i []))] (.ret (B true))/\true=true/\true=true/\true=true/\CO Gl 34 [L eI [(0:Int),(2:Int)],T.d (D.c (C.s Tag.n (2:Nat) fun i=>List.getD [List.map C.dem [C.v (Value.int IntKind.i64 (0:Int))],List.map C.dem [C.v A3]] i []))] (.ret (B true))/\true=true/\true=true/\true=true/\true=true/\true=true/\true=true/\CO Gl 34 [L eI [(123:Int),(45:Int),(60:Int),(7:Int)],T.d A0] (.ret (B true))/\true=true/\true=true/\true=true/\true=true/\CO Gl 34 [L eI [(-7:Int),(7:Int),(17:Int),(70:Int),(107:Int)],T.d (D.c (C.s Tag.n (5:Nat) fun i=>List.getD [List.map C.dem [C.v (Value.int IntKind.i64 (-7:Int))],List.map C.dem [C.v (Value.int IntKind.i64 (7:Int))],List.map C.dem [C.v (Value.int IntKind.i64 (17:Int))],List.map C.dem [C.v (Value.int IntKind.i64 (70:Int))],List.map C.dem [C.v (Value.int IntKind.i64 (107:Int))]] i []))] (.ret (B true))/\true=true/\true=true/\true=true/\true=true/\CO Gl 34 [L eI [(1:Int),(3:Int)],T.d (D.c (C.s Tag.n (2:Nat) fun i=>List.getD [List.map C.dem [C.v A2],List.map C.dem [C.v A4]] i []))] (.ret (B true))/\true=true/\false=false/\true=true/\true=true/\true=true/\true=true/\true=true/\true=true/\true=true/\true=true/\true=true/\CO Gl 54 [L eI [(2:Int),(1:Int),(2:Int),(1:Int)],T.d (D.c (C.s Tag.n (4:Nat) fun i=>List.getD [List.map C.dem [C.v A3],List.map C.dem [C.v A2],List.map C.dem [C.v A3],List.map C.dem [C.v A2]] i []))] (.ret (B true))/\true=true/\true=true/\true=true/\true=true/\true=true/\true=true/\CO Gl 54 [L eI [(3:Int),(3:Int),(1:Int)],T.d (D.c (C.s Tag.n (3:Nat) fun i=>List.getD [List.map C.dem [C.v A4],List.map C.dem [C.v A4],List.map C.dem [C.v A2]] i []))] (.ret (B true))/\true=true/\true=true/\((0:Nat)<=maxLen->true=true/\true=true/\true=true/\CO Gl 67 [tSheet exS] (.ret (str exT))/\true=true/\true=true)))) Tryz.func21 (by kernel_rfl) (by kernel_rfl) ?_
 dsimp only
 have hE:SEq 2 (fun i=>List.getD [List.map C.dem (List.map C.dem [C.v (Value.int IntKind.i64 0),C.v (Value.int IntKind.i64 1)]),List.map C.dem (List.map C.dem [C.v (Value.int IntKind.i64 2),C.v (Value.int IntKind.i64 3)])] i []) errsX.length fun i=>eErr (nth errsX i):=.of ⟨rfl,fun i hi=>by
  match i,hi with
  |0,_=>rfl
  |1,_=>rfl⟩
 repeat' first|with_reducible apply And.intro|with_reducible intro _
 all_goals first
  |contradiction
  |with_reducible exact rfl
  |with_reducible exact trivial
  |with_reducible exact exA70 S
  |with_reducible exact exD71 S
  |with_reducible exact hB
  |with_reducible exact kErr S _ _ (litS [132,45,-60,7]) (litS [123,45,60,7])
  |with_reducible exact kApart S
  |with_reducible exact kAgrees S _ (litS [123,45,60,7])
  |with_reducible exact kFirst S
  |with_reducible exact kVals S
  |with_reducible exact kOpen S
  |with_reducible exact kSure S
  |with_reducible exact kNext S
  |with_reducible exact kLeast S
  |with_reducible exact kWrong S
  |with_reducible exact kHands S
  |with_reducible exact kBoth S
  |with_reducible exact kRead S hG
  |with_reducible exact kPrint S
  |with_reducible exact kSameE S _ hE
  |with_reducible exact kSame S [0,2] 2 _ (litS [0,2])
  |with_reducible exact kSame S [123,45,60,7] 4 _ (litS [123,45,60,7])
  |with_reducible exact kSame S [-7,7,17,70,107] 5 _ (litS [-7,7,17,70,107])
  |with_reducible exact kSame S [1,3] 2 _ (litS [1,3])
  |with_reducible exact kSameW S [2,1,2,1] 4 _ (litS [2,1,2,1])
  |with_reducible exact kSameW S [3,3,1] 3 _ (litS [3,3,1])
  |exact rfl
  |exact trivial
  |exact exA70 S
  |exact exD71 S
  |exact hB
  |exact kErr S _ _ (litS [132,45,-60,7]) (litS [123,45,60,7])
  |exact kApart S
  |exact kAgrees S _ (litS [123,45,60,7])
  |exact kFirst S
  |exact kVals S
  |exact kOpen S
  |exact kSure S
  |exact kNext S
  |exact kLeast S
  |exact kWrong S
  |exact kHands S
  |exact kBoth S
  |exact kRead S hG
  |exact kPrint S
  |exact kSameE S _ hE
  |exact kSame S [0,2] 2 _ (litS [0,2])
  |exact kSame S [123,45,60,7] 4 _ (litS [123,45,60,7])
  |exact kSame S [-7,7,17,70,107] 5 _ (litS [-7,7,17,70,107])
  |exact kSame S [1,3] 2 _ (litS [1,3])
  |exact kSameW S [2,1,2,1] 4 _ (litS [2,1,2,1])
  |exact kSameW S [3,3,1] 3 _ (litS [3,3,1])
  |exact trivial
  |rfl
  |omega
section
variable {P:Program} {Y:TypeId->Ty} {a:Act} {w:World}
theorem raw_slice (hY:YOK P Y) {o:Oper} {t el:TypeId} {len:Nat} {ps:Array (Nat×Operand)} {vs:List Value} (ho:o.op=.buildSlice t len ps) (hk:(Y t).kind=.slice el) (hkn:(Y el).known=true) (hs:(Y el).size=1)
  (hp:(ps.map fun x=>(x.1,a.eval x.2)).toList=(vs.zipIdx 0).map fun x=>(x.2,x.1)) (hl:vs.length=len) (hpos:1<=len) (hsm:len<=100) (hc:∀ v∈vs,v.cells=#[v]):
  (execOp a.eval o).run P w=.ok (.value (.slice (some ⟨w.heap.size,0,none⟩) len len)) (w.alloc (.cells vs.toArray el)):=by
 obtain ⟨dd,i,z,h1,h2,h3,h4,h5,h6,h7,h8⟩:=hY t (by simp [Ty.known,hk])
 rw [hk] at h7
 simp only [KOK] at h7
 subst h7
 obtain ⟨dd,ie,ze,g1,g2,g3,g4,g5,g6,g7,g8⟩:=hY el hkn
 have hvsz:∀ v∈vs,v.cells.size=1:=fun v hv=>by rw [hc v hv];rfl
 have hfill:=Great.fill_whole (s:=1) (by omega) vs ((Array.range (len*1)).map (ze.cells[· % ze.cells.size]!)) hvsz (by simp [hl])
 have hrow:(vs.flatMap fun v=>v.cells.toList)=vs:=by
  clear hfill hvsz hp hl
  induction vs with
  |nil=>rfl
  |cons v vs ih=>
   rw [List.flatMap_cons,ih fun x hx=>hc x (List.mem_cons_of_mem _ hx),hc v List.mem_cons_self]
   rfl
 rw [hrow] at hfill
 have hrun:=run_buildSlice (P:=P) w t el len (ps.map fun x=>(x.1,a.eval x.2)) _ ie ze h1 g2 g5 (by rw [g3,hs];omega) (by rw [g3,hs];omega) (by rw [hp,g3,hs];exact hfill)
 simp [execOp,ho,hrun]
theorem raw_grow (hY:YOK P Y) {t el:TypeId} {p q:Operand} {b sb n m sc:Nat} {olds news:List Value} {f1 f2:Nat×Nat} {T1 T2:TypeId} (hk:(Y t).kind=.slice el) (hkn:(Y el).known=true) (hs:(Y el).size=1) (hby:(Y el).bytes<=100)
  (hp:a.eval p=.slice (some ⟨b,0,none⟩) n n) (hq:a.eval q=.slice (some ⟨sb,0,none⟩) m sc) (hn:olds.length=n) (hm:news.length=m) (hm1:1<=m) (hnm:n+m<=100)
  (hb:w.heap[b]?=some (.cells olds.toArray T1 f1)) (hsb:w.heap[sb]?=some (.cells news.toArray T2 f2)):
  ∃ cap zs,n+m<=cap/\cap<=maxLen/\∀ o:Oper,o.op=.call { callee:=.builtin .append,args:=#[p,q],argTypes:=#[t,t] }->(execOp a.eval o).run P w=.ok (.value (.slice (some ⟨w.heap.size,0,none⟩) (n+m) cap)) (w.drew.alloc (.cells (olds.toArray++news.toArray++zs) el)):=by
 obtain ⟨dd,i,z,h1,h2,h3,h4,h5,h6,h7,h8⟩:=hY t (by simp [Ty.known,hk])
 rw [hk] at h7
 simp only [KOK] at h7
 subst h7
 obtain ⟨dd,ie,ze,g1,g2,g3,g4,g5,g6,g7,g8⟩:=hY el hkn
 have hc1:∀ (j:Nat) (v:Value),olds[j]?=some v->w.cell? ((⟨b,0,none⟩:Addr).add j)=some v:=fun j v hj=>by
  rw [addr_add]
  simp only [World.cell?,hb,Nat.zero_add]
  simpa using hj
 have hc2:∀ (j:Nat) (v:Value),news[j]?=some v->w.cell? ((⟨sb,0,none⟩:Addr).add j)=some v:=fun j v hj=>by
  rw [addr_add]
  simp only [World.cell?,hsb,Nat.zero_add]
  simpa using hj
 have hbound:(n+m)*(Y el).bytes<=140737488355328:=by
  have:=Nat.mul_le_mul hnm hby
  omega
 have hrun:=fun ty=>run_append_grow (P:=P) w t ty el ie ze h1 g2 g5 ⟨b,0,none⟩ n n olds (by rw [g3,hs];omega) hc1 ⟨sb,0,none⟩ m sc news (by rw [g3,hs];omega) hc2 (by omega) (by omega) (by rw [g4];exact growslice_fits (by omega) hbound)
 have hge:=grownCap_ge w (n+m) n el
 refine ⟨grownCap w (n+m) n el,Builtin.zeroCells ze.cells (grownCap w (n+m) n el - (n+m)),hge,?_,?_⟩
 ·exact grownCap_le_maxLen w (n+m) n el (by unfold maxLen;omega)
 ·intro o ho
  simp [execOp,ho,hp,hq,resolve,invoke,builtin,hrun]
theorem raw_put (hY:YOK P Y) {o:Oper} {p q:Operand} {t:TypeId} {b k:Nat} {v:Value} {cur:Array Value} {ct:TypeId} (ho:o.op=.store t p q) (hkn:(Y t).known=true) (hsz:(Y t).size=1) (hp:a.eval p=.pointer (some ⟨b,k,none⟩)) (hq:a.eval q=v)
  (hv:v.cells=#[v]) (h1:v.oneCell'=true) (hk:k<cur.size) (hcur:w.heap[b]?=some (.cells cur ct (0,0))):
  (execOp a.eval o).run P w=.ok .skip (w.setRow b (cur.toList.take k++[v]++cur.toList.drop (k+1)).toArray):=by
 have hst:=run_storeCells_at P b k ct [v] 0 cur w hcur (by simp only [List.length_singleton];omega) (fun u hu=>by rw [List.mem_singleton.1 hu];exact h1)
 have hvl:v.cells.toList=[v]:=by rw [hv]
 have hv2:v.cells.size=1:=by rw [hv];rfl
 simp only [Nat.add_zero,List.length_singleton] at hst
 simp [execOp,ho,hp,hq,Instr.storeAt,Instr.sureAddr,storeVar,run_sizeOf hY hkn,hsz,hv,hst]
theorem raw_put0 (hY:YOK P Y) {p q:Operand} {t:TypeId} {b:Nat} {v c0 c1:Value} {ct:TypeId} (hkn:(Y t).known=true) (hsz:(Y t).size=1) (hp:a.eval p=.pointer (some ⟨b,0,none⟩)) (hq:a.eval q=v)
  (hv:v.cells=#[v]) (h1:v.oneCell'=true) (hcur:w.heap[b]?=some (.cells #[c0,c1] ct (0,0))):
  ∃ w',(∀ o:Oper,o.op=.store t p q->(execOp a.eval o).run P w=.ok .skip w')/\w'.heap[b]?=some (.cells #[v,c1] ct (0,0))/\Same w w'/\∀ b',b'≠b->w'.heap[b']?=w.heap[b']?:=
 ⟨_,fun o ho=>raw_put hY ho hkn hsz hp hq hv h1 (cur:=#[c0,c1]) (Nat.zero_lt_succ 1) hcur,setRow_heap w b _ _ _ _ hcur,⟨rfl,rfl,rfl,by simp [World.setRow]⟩,fun b' hb=>setRow_other w b b' _ hb⟩
theorem raw_put1 (hY:YOK P Y) {p q:Operand} {t:TypeId} {b:Nat} {v c0 c1:Value} {ct:TypeId} (hkn:(Y t).known=true) (hsz:(Y t).size=1) (hp:a.eval p=.pointer (some ⟨b,1,none⟩)) (hq:a.eval q=v)
  (hv:v.cells=#[v]) (h1:v.oneCell'=true) (hcur:w.heap[b]?=some (.cells #[c0,c1] ct (0,0))):
  ∃ w',(∀ o:Oper,o.op=.store t p q->(execOp a.eval o).run P w=.ok .skip w')/\w'.heap[b]?=some (.cells #[c0,v] ct (0,0))/\Same w w'/\∀ b',b'≠b->w'.heap[b']?=w.heap[b']?:=
 ⟨_,fun o ho=>raw_put hY ho hkn hsz hp hq hv h1 (cur:=#[c0,c1]) (Nat.lt_succ_self 1) hcur,setRow_heap w b _ _ _ _ hcur,⟨rfl,rfl,rfl,by simp [World.setRow]⟩,fun b' hb=>setRow_other w b b' _ hb⟩
end
theorem raw_field {P:Program} {Y:TypeId->Ty} {a:Act} {w:World} (hY:YOK P Y) {o:Oper} {p:Operand} {s:TypeId} {f b off:Nat} {fs:List (Nat×TypeId)} {q:Nat×TypeId} (ho:o.op=.fieldAddr s p f) (hfs:(Y s).fields=some fs) (hq:fs[f]?=some q) (hp:a.eval p=.pointer (some ⟨b,off,none⟩)):
  (execOp a.eval o).run P w=.ok (.value (.pointer (some ⟨b,off+q.1,none⟩))) w:=by
 have hk:=fields_struct hfs
 obtain ⟨d,i,z,h1,h2,h3,h4,h5,h6,h7,h8⟩:=hY s (struct_known hk)
 rw [hk] at h7
 obtain ⟨fields,rfl,hmap,hne⟩:=h7
 rw [<-hmap] at hq
 rw [List.getElem?_map] at hq
 cases hf:fields.toList[f]? with
 |none=>rw [hf] at hq;cases hq
 |some fld=>
  rw [hf] at hq
  simp only [Option.map_some,Option.some.injEq] at hq
  subst hq
  obtain ⟨i',hi',hne'⟩:=hne fld (List.mem_of_getElem? hf)
  have hf':fields[f]?=some fld:=by simpa using hf
  simp [execOp,ho,hp,Instr.fieldAt,run_underlying h1,hf',Instr.sureAddr,fieldPlace,sizeOf,typeInfo,hi',hne',addr_add]
structure AtA (w w':World) (v:Value) (b1 b2 b3 b4:Nat):Prop where
 same:Same w w'
 old:∀ b,b<w.heap.size->w'.heap[b]?=w.heap[b]?
 val:v=.agg #[.slice (some ⟨b3,0,none⟩) 2 2,.slice (some ⟨b4,0,none⟩) 2 2]
 lo:w.heap.size<=b1/\b1<b2/\b2<b3/\b3<b4/\b4<w'.heap.size
 c1:w'.heap[b1]?=some (.cells #[.int .i64 123,.int .i64 45,.int .i64 (-60),.int .i64 7] 3 (0,0))
 c2:w'.heap[b2]?=some (.cells #[.int .i64 132,.int .i64 45,.int .i64 60,.int .i64 7] 3 (0,0))
 c3:w'.heap[b3]?=some (.cells #[.slice (some ⟨b1,0,none⟩) 4 4,.slice (some ⟨b2,0,none⟩) 4 4] 22 (0,0))
 c4:w'.heap[b4]?=some (.cells #[.int .i64 1,.int .i64 1] 3 (0,0))
theorem k22:(Y 22).kind=.slice 3:=by kernel_rfl
theorem k40:(Y 40).kind=.slice 22:=by kernel_rfl
theorem kn3:(Y 3).known=true:=by kernel_rfl
theorem kn22:(Y 22).known=true:=by kernel_rfl
theorem kn40:(Y 40).known=true:=by kernel_rfl
theorem kn42:(Y 42).known=true:=by kernel_rfl
theorem s3:(Y 3).size=1:=by kernel_rfl
theorem s22:(Y 22).size=1:=by kernel_rfl
theorem s40:(Y 40).size=1:=by kernel_rfl
theorem s42:(Y 42).size=2:=by kernel_rfl
theorem z42:(Y 42).zero.toArray=#[.slice none 0 0,.slice none 0 0]:=by kernel_rfl
theorem a42:(Y 42).agg=some true:=by kernel_rfl
theorem built42 (p q:Option Addr) (n c m d:Nat):Tryz.prog.built 42 [(0,.slice p n c),(1,.slice q m d)]=some #[.slice p n c,.slice q m d]:=by kernel_rfl
theorem alloc_facts (w:World) (o:Obj):∃ w',w.alloc o=w'/\Same w w'/\w'.heap.size=w.heap.size+1/\w'.heap[w.heap.size]?=some o/\∀ b,b<w.heap.size->w'.heap[b]?=w.heap[b]?:=
 ⟨_,rfl,same_alloc _ _,World.size_alloc ..,World.alloc_heap_new w _,fun b hb=>heap_alloc_lt _ _ hb⟩
theorem sheet_results {f:Func} {t:Nat} (hf:f.results=#[.cell t 42]) {a:Act} {w:World} {b1:Nat} {cs:Array Value} (h1:a.tmps.getD t undef=.pointer (some ⟨b1,0,none⟩)) (hc:cs.size=2)
  (g1:w.heap[b1]?=some (.cells cs 42 (0,0))):(results f a.tmps).run Tryz.prog w=.ok (.agg cs) w:=by
 have l1:=run_loadAgg yok a42 (w:=w) (b:=b1) (off:=0) (us:=cs.toList) (by rw [s42];simpa using hc) fun j u hj=>by
  simp only [World.cell?,g1,Nat.zero_add]
  simpa using hj
 have he:f.results.mapM (resM a.tmps)=List.toArray <$> f.results.toList.mapM (resM a.tmps):=Array.mapM_eq_mapM_toList ..
 have he2:results f a.tmps=(f.results.mapM (resM a.tmps) >>= fun vs=>pure (if h:vs.size=1 then vs[0] else .tuple vs)):=rfl
 have hrun:([ResultVar.cell t 42].mapM (resM a.tmps)).run Tryz.prog w=.ok [.agg cs] w:=by
  have r1:(resM a.tmps (.cell t 42)).run Tryz.prog w=.ok (.agg cs) w:=by simp [resM,h1,asAddr,l1]
  rw [run_mapM_cons,r1,Result.andThen_ok]
  simp
 rw [he2,he,hf]
 simp only [Sem.run_bind,Sem.run_map,hrun,Result.andThen_ok,Sem.run_pure]
 rfl
theorem calls70 (w:World):Calls Tryz.prog 70 #[] w fun en w'=>∃ v b1 b2 b3 b4,en=.returned v/\AtA w w' v b1 b2 b3 b4:=by
 go_enter_defers Tryz.func70,Tryz.ntmps70
 have S:SL { tmps:=#[undef,undef,undef,undef,undef,undef],defers:=[] } 6 (fun t=>#[].getD t undef) []:=by
  exact SL.start #[] 6 (Nat.le_of_ble_eq_true rfl)
 generalize ({ tmps:=#[undef,undef,undef,undef,undef,undef],defers:=[] }:Act)=a at S ⊢
 refine wp_seq (wp_region_list ?_)
 have hal:=fun (o:Oper) (ho:o.op=Op.alloc 42)=>raw_alloc (P:=Tryz.prog) (a:=a) (w:=w) (o:=o) yok (t:=42) ho kn42
 rw [z42] at hal
 refine rl_val S (d:=0) rfl (by decide) rfl (hal _ rfl) fun a1 S1=>?_
 obtain ⟨w1,hw1,m1,z1,n1,o1⟩:=alloc_facts w (.cells #[.slice none 0 0,.slice none 0 0] 42)
 rw [hw1]
 refine wp_seq (wp_region_list ?_)
 refine rl_val S1 (d:=1) rfl (by decide) rfl (raw_slice yok (vs:=[.int .i64 123,.int .i64 45,.int .i64 (-60),.int .i64 7]) rfl k22 kn3 s3 (by simp [Act.eval]) rfl (by decide) (by decide) (by simp [Value.cells])) fun a2 S2=>?_
 obtain ⟨w2,hw2,m2,z2,n2,o2⟩:=alloc_facts w1 (.cells [Value.int .i64 123,.int .i64 45,.int .i64 (-60),.int .i64 7].toArray 3)
 rw [hw2]
 refine rl_val S2 (d:=2) rfl (by decide) rfl (raw_slice yok (vs:=[.int .i64 132,.int .i64 45,.int .i64 60,.int .i64 7]) rfl k22 kn3 s3 (by simp [Act.eval]) rfl (by decide) (by decide) (by simp [Value.cells])) fun a3 S3=>?_
 obtain ⟨w3,hw3,m3,z3,n3,o3⟩:=alloc_facts w2 (.cells [Value.int .i64 132,.int .i64 45,.int .i64 60,.int .i64 7].toArray 3)
 rw [hw3]
 refine rl_val S3 (d:=3) rfl (by decide) rfl (raw_slice yok (vs:=[.slice (some ⟨w1.heap.size,0,none⟩) 4 4,.slice (some ⟨w2.heap.size,0,none⟩) 4 4]) rfl k40 kn22 s22 (by simp [S3.eval,upd]) rfl (by decide) (by decide) (by simp [Value.cells])) fun a4 S4=>?_
 obtain ⟨w4,hw4,m4,z4,n4,o4⟩:=alloc_facts w3 (.cells [Value.slice (some ⟨w1.heap.size,0,none⟩) 4 4,.slice (some ⟨w2.heap.size,0,none⟩) 4 4].toArray 22)
 rw [hw4]
 refine rl_val S4 (d:=4) rfl (by decide) rfl (raw_slice yok (vs:=[.int .i64 1,.int .i64 1]) rfl k22 kn3 s3 (by simp [Act.eval]) rfl (by decide) (by decide) (by simp [Value.cells])) fun a5 S5=>?_
 obtain ⟨w5,hw5,m5,z5,n5,o5⟩:=alloc_facts w4 (.cells [Value.int .i64 1,.int .i64 1].toArray 3)
 rw [hw5]
 refine rl_val S5 (d:=5) (v:=.agg #[.slice (some ⟨w3.heap.size,0,none⟩) 2 2,.slice (some ⟨w4.heap.size,0,none⟩) 2 2]) (w':=w5) rfl (by decide) rfl ?_ fun a6 S6=>?_
 ·simp [execOp,S5.eval,upd,run_build (P:=Tryz.prog) w5 42 _ _ (built42 (some ⟨w3.heap.size,0,none⟩) (some ⟨w4.heap.size,0,none⟩) 2 2 2 2)]
 have g0:w5.heap[w.heap.size]?=some (.cells #[.slice none 0 0,.slice none 0 0] 42 (0,0)):=by rw [o5 _ (by omega),o4 _ (by omega),o3 _ (by omega),o2 _ (by omega)];exact n1
 have H:=fun (o:Oper) (ho:o.op=Op.store 42 (.tmp 0) (.tmp 5))=>raw_store (P:=Tryz.prog) (a:=a6) (w:=w5) (v:=.agg #[.slice (some ⟨w3.heap.size,0,none⟩) 2 2,.slice (some ⟨w4.heap.size,0,none⟩) 2 2]) (b:=w.heap.size) (o:=o)
  yok (t:=42) ho kn42 (by simp [S6.eval,upd]) (by simp [S6.eval,upd]) (by rw [s42];rfl) (by rw [s42];rfl) (by simp [Value.cells,Value.oneCell']) g0
 obtain ⟨_,t2,t3,t4⟩:=H (stO 42 (.tmp 0) (.tmp 5)) rfl
 refine rl_skip S6 rfl rfl (H _ rfl).1 fun a7 S7=>?_
 clear H
 generalize w5.setRow w.heap.size (Value.agg #[.slice (some ⟨w3.heap.size,0,none⟩) 2 2,.slice (some ⟨w4.heap.size,0,none⟩) 2 2]).cells=w6 at t2 t3 t4 ⊢
 refine wp_ret ?_
 show Leaves Tryz.prog Tryz.f70 a7.tmps _ a7.defers .returning w6
 rw [S7.defers]
 have r1:=sheet_results (f:=Tryz.f70) (t:=0) Tryz.results70 (a:=a7) (w:=w6) (b1:=w.heap.size) (by rw [S7.get 0 (by decide)];simp [upd]) rfl t2
 have hsz:=t3.size
 refine ⟨_,r1,_,w1.heap.size,w2.heap.size,w3.heap.size,w4.heap.size,rfl,⟨((((m1.trans m2).trans m3).trans m4).trans m5).trans t3,fun b hb=>?_,rfl,by omega,?_,?_,?_,?_⟩⟩
 ·rw [t4 _ (by omega),o5 _ (by omega),o4 _ (by omega),o3 _ (by omega),o2 _ (by omega),o1 _ hb]
 ·rw [t4 _ (by omega),o5 _ (by omega),o4 _ (by omega),o3 _ (by omega)];exact n2
 ·rw [t4 _ (by omega),o5 _ (by omega),o4 _ (by omega)];exact n3
 ·rw [t4 _ (by omega),o5 _ (by omega)];exact n4
 ·rw [t4 _ (by omega)];exact n5
theorem fs42:(Y 42).fields=some [(0,40),(1,22)]:=by kernel_rfl
theorem fn70:FnOK Tryz.prog 70:=⟨Tryz.f70,by kernel_rfl,by kernel_rfl,by kernel_rfl⟩
theorem ag40:(Y 40).agg=some false:=by kernel_rfl
theorem by22:(Y 22).bytes<=100:=Nat.le_of_ble_eq_true (by kernel_rfl)
structure AtB (w w':World) (v:Value) (b1 b2 d1 d3 d4 cap:Nat) (zs:Array Value):Prop where
 same:Same w w'
 old:∀ b,b<w.heap.size->w'.heap[b]?=w.heap[b]?
 val:v=.agg #[.slice (some ⟨d3,0,none⟩) 3 cap,.slice (some ⟨d4,0,none⟩) 3 3]
 cap:3<=cap/\cap<=maxLen
 lo:w.heap.size<=b1/\b1<b2/\b2<d1/\d1<d3/\d3<d4/\d4<w'.heap.size
 c1:w'.heap[b1]?=some (.cells #[.int .i64 123,.int .i64 45,.int .i64 (-60),.int .i64 7] 3 (0,0))
 c2:w'.heap[b2]?=some (.cells #[.int .i64 132,.int .i64 45,.int .i64 60,.int .i64 7] 3 (0,0))
 e1:w'.heap[d1]?=some (.cells #[.int .i64 123,.int .i64 45,.int .i64 60,.int .i64 7] 3 (0,0))
 e3:w'.heap[d3]?=some (.cells (#[.slice (some ⟨b1,0,none⟩) 4 4,.slice (some ⟨b2,0,none⟩) 4 4,.slice (some ⟨d1,0,none⟩) 4 4]++zs) 22 (0,0))
 e4:w'.heap[d4]?=some (.cells #[.int .i64 1,.int .i64 1,.int .i64 0] 3 (0,0))
theorem calls72 (w:World):Calls Tryz.prog 72 #[] w fun en w'=>∃ v b1 b2 d1 d3 d4 cap zs,en=.returned v/\AtB w w' v b1 b2 d1 d3 d4 cap zs:=by
 go_enter_defers Tryz.func72,Tryz.ntmps72
 have S:SL { tmps:=#[undef,undef,undef,undef,undef,undef,undef,undef,undef,undef,undef,undef],defers:=[] } 12 (fun t=>#[].getD t undef) []:=by
  exact SL.start #[] 12 (Nat.le_of_ble_eq_true rfl)
 generalize ({ tmps:=#[undef,undef,undef,undef,undef,undef,undef,undef,undef,undef,undef,undef],defers:=[] }:Act)=a at S ⊢
 refine wp_seq (wp_region_list ?_)
 have hal:=fun (o:Oper) (ho:o.op=Op.alloc 42)=>raw_alloc (P:=Tryz.prog) (a:=a) (w:=w) (o:=o) yok (t:=42) ho kn42
 rw [z42] at hal
 refine rl_val S (d:=0) rfl (by decide) rfl (hal _ rfl) fun a1 S1=>?_
 obtain ⟨w1,hw1,m1,z1,n1,o1⟩:=alloc_facts w (.cells #[.slice none 0 0,.slice none 0 0] 42)
 rw [hw1]
 refine wp_seq (wp_region_list ?_)
 refine rl_call S1 (d:=2) (g:=70) (vs:=#[]) rfl (by decide) rfl ?_ (calls70 w1) (fun v w2 hr a2 S2=>?_) (fun ch w2 hr=>?_) (fun w2 hr=>?_)
 ·have:=fun (o:Oper) (ho:o.op=Op.call { callee:=Callee.value (.func 70),args:=#[],argTypes:=#[] })=>exec_call (P:=Tryz.prog) (a:=a1) (w:=w1) (o:=o) ho rfl fn70 (us:=#[]) (cvs:=#[])
  simpa using this _ rfl
 ·obtain ⟨v',b1,b2,b3,b4,hv,A⟩:=hr
  obtain rfl:v=v':=Ending.returned.inj hv
  have hA:=A.lo
  have hval:=A.val
  subst hval
  have hal:=fun (o:Oper) (ho:o.op=Op.alloc 42)=>raw_alloc (P:=Tryz.prog) (a:=a2) (w:=w2) (o:=o) yok (t:=42) ho kn42
  rw [z42] at hal
  refine rl_val S2 (d:=1) rfl (by decide) rfl (hal _ rfl) fun a3 S3=>?_
  obtain ⟨w3,hw3,m3,z3,n3,o3⟩:=alloc_facts w2 (.cells #[.slice none 0 0,.slice none 0 0] 42)
  rw [hw3]
  have H:=fun (o:Oper) (ho:o.op=Op.store 42 (.tmp 1) (.tmp 2))=>raw_store (P:=Tryz.prog) (a:=a3) (w:=w3) (v:=.agg #[.slice (some ⟨b3,0,none⟩) 2 2,.slice (some ⟨b4,0,none⟩) 2 2]) (b:=w2.heap.size) (o:=o)
   yok (t:=42) ho kn42 (by simp [S3.eval,upd]) (by simp [S3.eval,upd]) (by rw [s42];rfl) (by rw [s42];rfl) (by simp [Value.cells,Value.oneCell']) n3
  obtain ⟨_,t2,t3,t4⟩:=H (stO 42 (.tmp 1) (.tmp 2)) rfl
  refine rl_skip S3 rfl rfl (H _ rfl).1 fun a4 S4=>?_
  clear H
  generalize w3.setRow w2.heap.size (Value.agg #[.slice (some ⟨b3,0,none⟩) 2 2,.slice (some ⟨b4,0,none⟩) 2 2]).cells=w4 at t2 t3 t4 ⊢
  have hz4:=t3.size
  refine wp_seq (wp_region_list ?_)
  refine rl_val S4 (d:=3) rfl (by decide) rfl (raw_field yok rfl fs42 rfl (b:=w2.heap.size) (off:=0) (by simp [S4.eval,upd])) fun a5 S5=>?_
  refine rl_val S5 (d:=4) rfl (by decide) rfl (raw_load1 yok (b:=w2.heap.size) (k:=0) (u:=.slice (some ⟨b3,0,none⟩) 2 2) rfl ag40 (by simp [S5.eval,upd]) (by simp [World.cell?,t2,Value.cells])) fun a6 S6=>?_
  refine rl_val S6 (d:=5) rfl (by decide) rfl (raw_slice yok (vs:=[.int .i64 123,.int .i64 45,.int .i64 60,.int .i64 7]) rfl k22 kn3 s3 (by simp [Act.eval]) rfl (by decide) (by decide) (by simp [Value.cells])) fun a7 S7=>?_
  obtain ⟨w5,hw5,m5,z5,n5,o5⟩:=alloc_facts w4 (.cells [Value.int .i64 123,.int .i64 45,.int .i64 60,.int .i64 7].toArray 3)
  rw [hw5]
  refine rl_val S7 (d:=6) rfl (by decide) rfl (raw_slice yok (vs:=[.slice (some ⟨w4.heap.size,0,none⟩) 4 4]) rfl k40 kn22 s22 (by simp [S7.eval,upd]) rfl (by decide) (by decide) (by simp [Value.cells])) fun a8 S8=>?_
  obtain ⟨w6,hw6,m6,z6,n6,o6⟩:=alloc_facts w5 (.cells [Value.slice (some ⟨w4.heap.size,0,none⟩) 4 4].toArray 22)
  rw [hw6]
  have hb3:w6.heap[b3]?=some (.cells [Value.slice (some ⟨b1,0,none⟩) 4 4,.slice (some ⟨b2,0,none⟩) 4 4].toArray 22 (0,0)):=by
   rw [o6 _ (by omega),o5 _ (by omega),t4 _ (by omega),o3 _ (by omega)];exact A.c3
  obtain ⟨cap,zs,hc1,hc2,hrun⟩:=raw_grow (P:=Tryz.prog) (a:=a8) (w:=w6) (p:=.tmp 4) (q:=.tmp 6) yok (t:=40) (el:=22) (b:=b3) (sb:=w5.heap.size) (n:=2) (m:=1) (sc:=1)
   (olds:=[Value.slice (some ⟨b1,0,none⟩) 4 4,.slice (some ⟨b2,0,none⟩) 4 4]) (news:=[Value.slice (some ⟨w4.heap.size,0,none⟩) 4 4]) k40 kn22 s22 by22 (by simp [S8.eval,upd]) (by simp [S8.eval,upd]) rfl rfl (by decide) (by decide) hb3 n6
  refine rl_val S8 (d:=7) rfl (by decide) rfl (hrun _ rfl) fun a9 S9=>?_
  clear hrun
  obtain ⟨w7,hw7,m7,z7,n7,o7⟩:=alloc_facts w6.drew (.cells ([Value.slice (some ⟨b1,0,none⟩) 4 4,.slice (some ⟨b2,0,none⟩) 4 4].toArray++[Value.slice (some ⟨w4.heap.size,0,none⟩) 4 4].toArray++zs) 22)
  rw [hw7]
  have hdh:w6.drew.heap=w6.heap:=rfl
  have hds:Same w6 w6.drew:=⟨rfl,rfl,rfl,Nat.le_refl _⟩
  rw [hdh] at z7 n7 o7
  refine rl_val S9 (d:=8) rfl (by decide) rfl (raw_slice yok (vs:=[.int .i64 1,.int .i64 1,.int .i64 0]) rfl k22 kn3 s3 (by simp [Act.eval]) rfl (by decide) (by decide) (by simp [Value.cells])) fun a10 S10=>?_
  obtain ⟨w8,hw8,m8,z8,n8,o8⟩:=alloc_facts w7 (.cells [Value.int .i64 1,.int .i64 1,.int .i64 0].toArray 3)
  rw [hw8]
  have hc8:w8.heap[w2.heap.size]?=some (.cells #[.slice (some ⟨b3,0,none⟩) 2 2,.slice (some ⟨b4,0,none⟩) 2 2] 42 (0,0)):=by
   rw [o8 _ (by omega),o7 _ (by omega),o6 _ (by omega),o5 _ (by omega)];exact t2
  refine rl_val S10 (d:=9) rfl (by decide) rfl (raw_field yok rfl fs42 rfl (b:=w2.heap.size) (off:=0) (by simp [S10.eval,upd])) fun a11 S11=>?_
  obtain ⟨w9,q0,q1,q3,q2⟩:=raw_put0 (P:=Tryz.prog) (a:=a11) (w:=w8) (p:=.tmp 9) (q:=.tmp 7) yok (t:=40) kn40 s40 (b:=w2.heap.size) (v:=.slice (some ⟨w6.heap.size,0,none⟩) 3 cap) (by simp [S11.eval,upd]) (by simp [S11.eval,upd]) rfl rfl hc8
  refine rl_skip S11 rfl rfl (q0 _ rfl) fun a12 S12=>?_
  refine rl_val S12 (d:=10) rfl (by decide) rfl (raw_field yok rfl fs42 rfl (b:=w2.heap.size) (off:=0) (by simp [S12.eval,upd])) fun a13 S13=>?_
  obtain ⟨w10,r0,r1,r3,r2⟩:=raw_put1 (P:=Tryz.prog) (a:=a13) (w:=w9) (p:=.tmp 10) (q:=.tmp 8) yok (t:=22) kn22 s22 (b:=w2.heap.size) (v:=.slice (some ⟨w7.heap.size,0,none⟩) 3 3) (by simp [S13.eval,upd]) (by simp [S13.eval,upd]) rfl rfl q1
  refine rl_skip S13 rfl rfl (r0 _ rfl) fun a14 S14=>?_
  refine wp_seq (wp_region_list ?_)
  refine rl_val S14 (d:=11) rfl (by decide) rfl (raw_load yok (b:=w2.heap.size) (cur:=#[.slice (some ⟨w6.heap.size,0,none⟩) 3 cap,.slice (some ⟨w7.heap.size,0,none⟩) 3 3]) (t:=42) rfl a42 (by simp [S14.eval,upd]) (by rw [s42];rfl) r1) fun a15 S15=>?_
  have hn0:w10.heap[w.heap.size]?=some (.cells #[.slice none 0 0,.slice none 0 0] 42 (0,0)):=by
   rw [r2 _ (by omega),q2 _ (by omega),o8 _ (by omega),o7 _ (by omega),o6 _ (by omega),o5 _ (by omega),t4 _ (by omega),o3 _ (by omega),A.old _ (by omega)];exact n1
  have H:=fun (o:Oper) (ho:o.op=Op.store 42 (.tmp 0) (.tmp 11))=>raw_store (P:=Tryz.prog) (a:=a15) (w:=w10) (v:=.agg #[.slice (some ⟨w6.heap.size,0,none⟩) 3 cap,.slice (some ⟨w7.heap.size,0,none⟩) 3 3]) (b:=w.heap.size) (o:=o)
   yok (t:=42) ho kn42 (by simp [S15.eval,upd]) (by simp [S15.eval,upd]) (by rw [s42];rfl) (by rw [s42];rfl) (by simp [Value.cells,Value.oneCell']) hn0
  obtain ⟨_,v2,v3,v4⟩:=H (stO 42 (.tmp 0) (.tmp 11)) rfl
  refine rl_skip S15 rfl rfl (H _ rfl).1 fun a16 S16=>?_
  clear H
  generalize w10.setRow w.heap.size (Value.agg #[.slice (some ⟨w6.heap.size,0,none⟩) 3 cap,.slice (some ⟨w7.heap.size,0,none⟩) 3 3]).cells=w11 at v2 v3 v4 ⊢
  refine wp_ret ?_
  show Leaves Tryz.prog Tryz.f72 a16.tmps _ a16.defers .returning w11
  rw [S16.defers]
  have e1:=sheet_results (f:=Tryz.f72) (t:=0) Tryz.results72 (a:=a16) (w:=w11) (b1:=w.heap.size) (by rw [S16.get 0 (by decide)];simp [upd]) rfl v2
  have y1:=q3.size
  have y2:=r3.size
  have y3:=v3.size
  have old:∀ b,b<w8.heap.size->b≠w2.heap.size->b≠w.heap.size->w11.heap[b]?=w8.heap[b]?:=fun b hb h1 h2=>by rw [v4 _ h2,r2 _ h1,q2 _ h1]
  have old6:∀ b,b<w4.heap.size->b≠w2.heap.size->b≠w.heap.size->w11.heap[b]?=w4.heap[b]?:=fun b hb h1 h2=>by rw [old b (by omega) h1 h2,o8 _ (by omega),o7 _ (by omega),o6 _ (by omega),o5 _ hb]
  have oldA:∀ b,b<w2.heap.size->b≠w.heap.size->w11.heap[b]?=w2.heap[b]?:=fun b hb h2=>by rw [old6 b (by omega) (by omega) h2,t4 _ (by omega),o3 _ hb]
  refine ⟨_,e1,_,b1,b2,w4.heap.size,w6.heap.size,w7.heap.size,cap,zs,rfl,⟨?_,fun b hb=>?_,rfl,⟨hc1,hc2⟩,by omega,?_,?_,?_,?_,?_⟩⟩
  ·exact ((((((((((m1.trans A.same).trans m3).trans t3).trans m5).trans m6).trans hds).trans m7).trans m8).trans q3).trans r3).trans v3
  ·rw [oldA b (by omega) (by omega),A.old _ (by omega),o1 _ hb]
  ·rw [oldA _ (by omega) (by omega)];exact A.c1
  ·rw [oldA _ (by omega) (by omega)];exact A.c2
  ·rw [old _ (by omega) (by omega) (by omega),o8 _ (by omega),o7 _ (by omega),o6 _ (by omega)];exact n5
  ·rw [old _ (by omega) (by omega) (by omega),o8 _ (by omega)];exact n7
  ·rw [old _ (by omega) (by omega) (by omega)];exact n8
 ·obtain ⟨_,_,_,_,_,h,_⟩:=hr;cases h
 ·obtain ⟨_,_,_,_,_,h,_⟩:=hr;cases h
theorem rep_ints {vis:Nat->Nat} {w:World} {b:Nat} {l:List Int} {T:TypeId} {f:Nat×Nat} (hl:l.length<=100) (hb:w.heap[b]?=some (.cells (l.map (Value.int .i64)).toArray T f)) (hv:l.length<=vis b):Rep vis w (.l eI l) (.slice (some ⟨b,0,none⟩) l.length l.length):=by
 refine .s _ _ _ b 0 l.length 1 (fun i _=>.int .i64 (nth l i)) (Nat.le_refl _) (by unfold maxLen;omega) (fun i hi=>rfl) (by omega) (fun i j c hi hj=>?_) (fun i j c hi hj=>?_)
 ·have hj0:j=0:=by
   have:=(List.getElem?_eq_some_iff.1 hj).1
   have h1:(eI (nth l i)).length=1:=rfl
   omega
  subst hj0
  simp only [World.cell?,hb]
  rw [show 0+i*1+0=i by omega]
  simp [nth_eq hi,hi]
 ·have hj0:j=0:=by
   have:=(List.getElem?_eq_some_iff.1 hj).1
   have h1:(eI (nth l i)).length=1:=rfl
   omega
  subst hj0
  obtain rfl:C.v (.int .i64 (nth l i))=c:=Option.some.inj hj
  exact .v _ rfl
theorem exB72 {Gl:World->Prop}:CO Gl 72 [] (.ret (tSheet exB)):=by
 refine ⟨⟨Tryz.f72,by kernel_rfl,by kernel_rfl,by kernel_rfl⟩,fun vis w vs hvis hgl hargs=>?_⟩
 obtain rfl:vs=#[]:=by
  simp only [RelTs] at hargs
  exact Array.toList_eq_nil_iff.1 hargs
 refine (calls72 w).mono ?_
 rintro en w' ⟨v,b1,b2,d1,d3,d4,cap,zs,rfl,A⟩
 have hA:=A.lo
 have hcap:=A.cap
 refine ⟨⟨A.same.os,A.same.tape,A.same.output,A.same.size,A.old⟩,v,fun b=>if b<w.heap.size then vis b else if b<w'.heap.size then 4 else 0,rfl,fun b hb=>if_pos hb,fun b hb=>?_,?_⟩
 ·have:=A.same.size
  show (if b<w.heap.size then vis b else if b<w'.heap.size then 4 else 0)=0
  rw [if_neg (by omega),if_neg (by omega)]
 ·generalize hvv:(fun b=>if b<w.heap.size then vis b else if b<w'.heap.size then 4 else 0)=vv
  have hv4:∀ b,w.heap.size<=b->b<w'.heap.size->vv b=4:=fun b h1 h2=>by rw [<-hvv];show (if b<w.heap.size then vis b else if b<w'.heap.size then 4 else 0)=4;rw [if_neg (by omega),if_pos h2]
  have hval:=A.val
  subst hval
  have i1:=rep_ints (vis:=vv) (l:=[123,45,-60,7]) (by decide) A.c1 (by rw [hv4 _ (by omega) (by omega)];decide)
  have i2:=rep_ints (vis:=vv) (l:=[132,45,60,7]) (by decide) A.c2 (by rw [hv4 _ (by omega) (by omega)];decide)
  have i3:=rep_ints (vis:=vv) (l:=[123,45,60,7]) (by decide) A.e1 (by rw [hv4 _ (by omega) (by omega)];decide)
  have i4:=rep_ints (vis:=vv) (l:=[1,1,0]) (by decide) A.e4 (by rw [hv4 _ (by omega) (by omega)];decide)
  refine ⟨_,rfl,rfl,fun j c u hc hu=>?_⟩
  match j,hc,hu with
  |0,hc,hu=>
   obtain rfl:=Option.some.inj hc
   obtain rfl:=Option.some.inj hu
   refine .s _ _ _ d3 0 cap 1 (fun i _=>match i with|0=>.slice (some ⟨b1,0,none⟩) 4 4|1=>.slice (some ⟨b2,0,none⟩) 4 4|_=>.slice (some ⟨d1,0,none⟩) 4 4) hcap.1 hcap.2 (fun i hi=>rfl) (by rw [hv4 _ (by omega) (by omega)];decide) (fun i j c hi hj=>?_) (fun i j c hi hj=>?_)
   ·have hj0:j=0:=by
     have h1:=(List.getElem?_eq_some_iff.1 hj).1
     have h2:(eCol (nth exB.cols i)).length=1:=rfl
     omega
    subst hj0
    have hi:i<3:=hi
    match i,hi with
    |0,_=>
     simp only [World.cell?,A.e3]
     exact (Array.getElem?_append_left (show 0<3 by decide)).trans rfl
    |1,_=>
     simp only [World.cell?,A.e3]
     exact (Array.getElem?_append_left (show 1<3 by decide)).trans rfl
    |2,_=>
     simp only [World.cell?,A.e3]
     exact (Array.getElem?_append_left (show 2<3 by decide)).trans rfl
   ·have hj0:j=0:=by
     have h1:=(List.getElem?_eq_some_iff.1 hj).1
     have h2:(eCol (nth exB.cols i)).length=1:=rfl
     omega
    subst hj0
    obtain rfl:C.l eI (nth exB.cols i)=c:=Option.some.inj hj
    have hi:i<3:=hi
    match i,hi with
    |0,_=>exact i1
    |1,_=>exact i2
    |2,_=>exact i3
  |1,hc,hu=>
   obtain rfl:=Option.some.inj hc
   obtain rfl:=Option.some.inj hu
   exact i4
  |j+2,hc,hu=>cases hc
open Go Go.Proofs Go.Vc
def stF (s:Sheet):Bool:=s.ok&&decide (0<(allR s).length)
def stC (s:Sheet):Int:=bif s.ok then (bif decide (0<(allR s).length) then 0 else 5) else 2
theorem stF_yes {s:Sheet} (h:stF s=true):s.ok=true/\0<(allR s).length/\stC s=0:=by
 unfold stF at h
 rw [Bool.and_eq_true,decide_eq_true_eq] at h
 unfold stC
 rw [h.1,decide_eq_true h.2]
 exact ⟨rfl,h.2,rfl⟩
theorem st_cases (s:Sheet):(s.ok=true/\0<(allR s).length/\stF s=true/\stC s=0)∨(s.ok=true/\(allR s).length=0/\stF s=false/\stC s=5)∨(s.ok=false/\stF s=false/\stC s=2):=by
 unfold stF stC
 cases hs:s.ok with
 |false=>exact .inr (.inr ⟨rfl,rfl,rfl⟩)
 |true=>
  rcases Nat.eq_zero_or_pos (allR s).length with h|h
  ·exact .inr (.inl ⟨rfl,h,by rw [h];rfl,by rw [h];rfl⟩)
  ·exact .inl ⟨rfl,h,by rw [decide_eq_true h];rfl,by rw [decide_eq_true h];rfl⟩
section
variable {Gl} (S:SP Gl) (s:Sheet)
include S
theorem apart53a:CO Gl 53 [tSheet s] (.ret (.tup [.c (.l eI (bif s.ok then apartL s else [])),.c (Ci (bif s.ok then 0 else 2))])):=by
 cases hs:s.ok with
 |true=>exact apart53 S s hs
 |false=>exact apart53e S s hs
theorem first31a:CO Gl 31 [tSheet s] (.ret (.tup [.c (.l eI (bif stF s then firstL (allR s) else [])),.c (Ci (stC s))])):=by
 rcases st_cases s with ⟨h1,h2,h3,h4⟩|⟨h1,h2,h3,h4⟩|⟨h1,h3,h4⟩<;>rw [h3,h4]
 ·exact first31 S s h1 h2
 ·exact first31n S s h1 h2
 ·exact first31e S s h1
theorem least29a:CO Gl 29 [tSheet s] (.ret (.tup [.c (Ci (bif stF s then leastA s else 0)),.c (Ci (stC s))])):=by
 rcases st_cases s with ⟨h1,h2,h3,h4⟩|⟨h1,h2,h3,h4⟩|⟨h1,h3,h4⟩<;>rw [h3,h4]
 ·exact least29 S s h1 h2
 ·exact least29n S s h1 h2
 ·exact least29e S s h1
def rowC (s:Sheet) (r:Int):Int:=bif s.ok&&inR r 0 ((rows s:Int) - 1) then stC s else 2
def handQ (s:Sheet) (h:Int):Int:=bif s.ok&&inR h 0 ((s.cols.length:Int) - 1) then stC s else 2
def rowF (s:Sheet) (r:Int):Bool:=stF s&&inR r 0 ((rows s:Int) - 1)
def handF (s:Sheet) (h:Int):Bool:=stF s&&inR h 0 ((s.cols.length:Int) - 1)
theorem values37a (r:Int):CO Gl 37 [tSheet s,I r] (.ret (.tup [.c (.l eI (bif rowF s r&&!isOpen s (allR s) r.toNat then valL (allR s) r.toNat else [])),.c (Ci (bif rowF s r&&isOpen s (allR s) r.toNat then 8 else rowC s r))])):=by
 unfold rowF rowC
 cases hr:inR r 0 ((rows s:Int) - 1) with
 |false=>
  simp only [Bool.and_false,Bool.false_and,cond_false]
  cases hs:s.ok with
  |false=>exact values37e S s r hs
  |true=>exact values37r S s r hs hr
 |true=>
  obtain ⟨h5,h6⟩:=inR_iff.1 hr
  have hrn:((r.toNat:Nat):Int)=r:=by omega
  simp only [Bool.and_true]
  rcases st_cases s with ⟨h1,h2,h3,h4⟩|⟨h1,h2,h3,h4⟩|⟨h1,h3,h4⟩<;>rw [h3,h4,h1]
  ·have h:=values37 S s r.toNat h1 h2 (by omega)
   rw [hrn] at h
   cases ho:isOpen s (allR s) r.toNat<;>rw [ho] at h<;>exact h
  ·have h:=values37n S s r.toNat h1 h2 (by omega)
   rw [hrn] at h
   exact h
  ·exact values37e S s r h1
theorem wrong48a (r:Int):CO Gl 48 [tSheet s,I r] (.ret (.tup [.c (.l eI (bif handF s r then wrongsL s (allR s) r.toNat else [])),.c (Ci (handQ s r))])):=by
 unfold handF handQ
 cases hr:inR r 0 ((s.cols.length:Int) - 1) with
 |false=>
  simp only [Bool.and_false,cond_false]
  cases hs:s.ok with
  |false=>exact wrong48e S s r hs
  |true=>exact wrong48r S s r hs hr
 |true=>
  obtain ⟨h5,h6⟩:=inR_iff.1 hr
  have hrn:((r.toNat:Nat):Int)=r:=by omega
  simp only [Bool.and_true]
  rcases st_cases s with ⟨h1,h2,h3,h4⟩|⟨h1,h2,h3,h4⟩|⟨h1,h3,h4⟩<;>rw [h3,h4,h1]
  ·have h:=wrong48 S s r.toNat h1 h2 (by omega)
   rw [hrn] at h
   exact h
  ·have h:=wrong48n S s r.toNat h1 h2 (by omega)
   rw [hrn] at h
   exact h
  ·exact wrong48e S s r h1
end
set_option maxRecDepth 100000
set_option maxRecDepth 100000
set_option maxRecDepth 100000
set_option maxHeartbeats 4000000
set_option maxRecDepth 100000
set_option maxHeartbeats 4000000
set_option maxRecDepth 100000
set_option maxHeartbeats 8000000
set_option maxRecDepth 100000
set_option maxHeartbeats 8000000
def tSwap (s:Sheet) (a b:Int):T:=.d (.agg [C.s Tag.n s.1.length (updF (updF (fun i=>eCol (nth s.1 i)) a.toNat (List.map C.dem [C.s Tag.n (nth s.1 b.toNat).length fun i=>eI (nth (nth s.1 b.toNat) i)])) b.toNat (List.map C.dem [C.s Tag.n (nth s.1 a.toNat).length fun i=>eI (nth (nth s.1 a.toNat) i)])),
 C.s Tag.n s.2.length (updF (updF (fun i=>eI (nth s.2 i)) a.toNat (List.map C.dem [C.v (Value.int IntKind.i64 (nth s.2 b.toNat))])) b.toNat (List.map C.dem [C.v (Value.int IntKind.i64 (nth s.2 a.toNat))]))])
theorem updF_at {f:Nat->List C} {i:Nat} {cs:List C} {j:Nat}:updF f i cs j=if i=j then cs else f j:=by
 unfold updF
 rw [updC_get]
 by_cases h:i=j
 ·subst h;rw [if_pos rfl,Nat.beq_refl];rfl
 ·have hb:j.beq i=false:=by rw [Bool.eq_false_iff];exact fun hb=>h (Nat.eq_of_beq_eq_true hb).symm
  rw [if_neg h,hb];rfl
theorem updF_set {α:Type} [Inhabited α] {f:α->List C} {l:List α} {i j:Nat} {x y:α}:
  SEq l.length (updF (updF (fun k=>f (nth l k)) i (f x)) j (f y)) ((l.set i x).set j y).length fun k=>f (nth ((l.set i x).set j y) k):=by
 refine .of ⟨by simp,fun k hk=>?_⟩
 show _=f (nth ((l.set i x).set j y) k)
 rw [updF_at,updF_at,nth_set (by rw [List.length_set];exact hk),nth_set hk]
 split
 ·rfl
 ·split<;>rfl
section
variable {Gl:World->Prop} {s:Sheet} {a b:Int}
theorem swap_le:conjT (leTs [tSwap s a b] [tSheet (swapH s a.toNat b.toNat)]):=
 ⟨updF_set (f:=eCol) (l:=s.cols) (i:=a.toNat) (j:=b.toNat) (x:=nth s.cols b.toNat) (y:=nth s.cols a.toNat),updF_set (f:=eI) (l:=s.errs) (i:=a.toNat) (j:=b.toNat) (x:=nth s.errs b.toNat) (y:=nth s.errs a.toNat)⟩
theorem swap0 {f:FuncId} {r:Res} (h:CO Gl f [tSheet (swapH s a.toNat b.toNat)] r):CO Gl f [tSwap s a b] r:=h.args swap_le
theorem swapI {f:FuncId} {r:Res} {n:Int} (h:CO Gl f [tSheet (swapH s a.toNat b.toNat),I n] r):CO Gl f [tSwap s a b,I n] r:=
 h.args ⟨swap_le.1,swap_le.2,rfl⟩
end
theorem hand_lt {s:Sheet} {a:Int} (hs:s.ok=true) (ha:isHand s a=true):0<=a/\a.toNat<s.cols.length:=by
 obtain ⟨a1,a2⟩:=inR_iff.1 ha
 omega
theorem swap_st {s:Sheet} {a b:Nat} (hs:s.ok=true) (ha:a<s.cols.length) (hb:b<s.cols.length):stF (swapH s a b)=stF s/\stC (swapH s a b)=stC s:=by
 have hx:=swap_ok hs ha hb
 have M:=swap_mix hs ha hb
 have h:(0<(allR (swapH s a b)).length)↔(0<(allR s).length):=⟨M.symm.pos hx hs,M.pos hs hx⟩
 unfold stF stC
 rw [hx,hs,decide_eq_decide.2 h]
 exact ⟨rfl,rfl⟩
section
variable {Gl} (S:SP Gl) (s:Sheet) (a b r:Int) (hs:s.ok=true) (ha:isHand s a=true) (hb:isHand s b=true)
include S hs ha hb
theorem first31y:CO Gl 31 [tSwap s a b] (.ret (.tup [.c (.l eI (bif stF s then firstL (allR s) else [])),.c (Ci (stC s))])):=by
 obtain ⟨_,h1⟩:=hand_lt hs ha
 obtain ⟨_,h2⟩:=hand_lt hs hb
 have h:=first31a S (swapH s a.toNat b.toNat)
 obtain ⟨e1,e2⟩:=swap_st hs h1 h2
 rw [e1,e2] at h
 refine swap0 ?_
 cases u:stF s with
 |false=>simp only [u,cond_false] at h ⊢;exact h
 |true=>
  rw [u,cond_true,(swap_mix hs h1 h2).first hs (swap_ok hs h1 h2) (stF_yes u).2.1] at h
  simp only [cond_true]
  exact h
theorem least29y:CO Gl 29 [tSwap s a b] (.ret (.tup [.c (Ci (bif stF s then leastA s else 0)),.c (Ci (stC s))])):=by
 obtain ⟨_,h1⟩:=hand_lt hs ha
 obtain ⟨_,h2⟩:=hand_lt hs hb
 have h:=least29a S (swapH s a.toNat b.toNat)
 obtain ⟨e1,e2⟩:=swap_st hs h1 h2
 rw [e1,e2] at h
 refine swap0 ?_
 cases u:stF s with
 |false=>simp only [u,cond_false] at h ⊢;exact h
 |true=>
  rw [u,cond_true,swap_least hs h1 h2 (stF_yes u).2.1] at h
  simp only [cond_true]
  exact h
theorem values37y:CO Gl 37 [tSwap s a b,I r] (.ret (.tup [.c (.l eI (bif rowF s r&&!isOpen s (allR s) r.toNat then valL (allR s) r.toNat else [])),.c (Ci (bif rowF s r&&isOpen s (allR s) r.toNat then 8 else rowC s r))])):=by
 obtain ⟨_,h1⟩:=hand_lt hs ha
 obtain ⟨_,h2⟩:=hand_lt hs hb
 have h:=values37a S (swapH s a.toNat b.toNat) r
 obtain ⟨e1,e2⟩:=swap_st hs h1 h2
 have M:=swap_mix hs h1 h2
 have hx:=swap_ok hs h1 h2
 have q1:rowF (swapH s a.toNat b.toNat) r=rowF s r:=by unfold rowF;rw [e1,M.rows hs]
 have q2:rowC (swapH s a.toNat b.toNat) r=rowC s r:=by unfold rowC;rw [e2,M.rows hs,hx,hs]
 rw [q1,q2,M.open hs hx,M.val hs hx] at h
 exact swapI h
theorem wrong48y:CO Gl 48 [tSwap s a b,I b] (.ret (.tup [.c (.l eI (bif handF s a then wrongsL s (allR s) a.toNat else [])),.c (Ci (handQ s a))])):=by
 obtain ⟨_,h1⟩:=hand_lt hs ha
 obtain ⟨_,h2⟩:=hand_lt hs hb
 have h:=wrong48a S (swapH s a.toNat b.toNat) b
 obtain ⟨e1,e2⟩:=swap_st hs h1 h2
 have M:=swap_mix hs h1 h2
 have hx:=swap_ok hs h1 h2
 have ha':inR a 0 ((s.cols.length:Int) - 1)=true:=ha
 have hb':inR b 0 ((s.cols.length:Int) - 1)=true:=hb
 have q1:handF (swapH s a.toNat b.toNat) b=handF s a:=by unfold handF;rw [e1,M.len,ha',hb']
 have q2:handQ (swapH s a.toNat b.toNat) b=handQ s a:=by unfold handQ;rw [e2,M.len,ha',hb',hx,hs]
 rw [q1,q2] at h
 refine swapI ?_
 cases u:stF s with
 |false=>
  have:handF s a=false:=by unfold handF;rw [u];rfl
  rw [this,cond_false] at h ⊢
  exact h
 |true=>
  have:wrongsL (swapH s a.toNat b.toNat) (allR (swapH s a.toNat b.toNat)) b.toNat=wrongsL s (allR s) a.toNat:=by
   unfold wrongsL
   rw [M.rows hs]
   refine List.map_congr_left fun i _=>?_
   rw [M.wrongAt hs hx (stF_yes u).2.1 h2]
   have:sw a.toNat b.toNat b.toNat=a.toNat:=by unfold sw;rw [if_pos rfl]
   rw [this]
  rw [this] at h
  exact h
theorem apart53y:CO Gl 53 [tSwap s a b] (.ret (.tup [.c (.l eI (apartL s)),.c (Ci 0)])):=by
 obtain ⟨_,h1⟩:=hand_lt hs ha
 obtain ⟨_,h2⟩:=hand_lt hs hb
 have h:=apart53a S (swapH s a.toNat b.toNat)
 rw [swap_ok hs h1 h2,(swap_mix hs h1 h2).apart hs,cond_true,cond_true] at h
 exact swap0 h
end
theorem law14 {Gl} (S:SP Gl) (hG:GlOK Gl) (s:Sheet) (a b r:Int):CO Gl 14 [tSheet s,I a,I b,I r] (.ret (B true)):=by
 refine fn_iq S (let A0:=(bif rowF s r&&!isOpen s (allR s) (Int.toNat r) then valL (allR s) (Int.toNat r) else []);let A1:=(bif bif bif bif bif bif bif bif bif stC s==stC s then sameL (fun x1 x2=>x1==x2) (bif stF s then firstL (allR s) else []) (bif stF s then firstL (allR s) else []) else false then (bif rowF s r&&isOpen s (allR s) (Int.toNat r) then (8:Int) else rowC s r)==bif rowF s r&&isOpen s (allR s) (Int.toNat r) then (8:Int) else rowC s r else false then sameL (fun x1 x2=>x1==x2) A0 A0 else false then stC s==stC s else false then (bif stF s then leastA s else (0:Int))==bif stF s then leastA s else (0:Int) else false then handQ s a==handQ s a else false then sameL (fun x1 x2=>x1==x2) (bif handF s a then wrongsL s (allR s) (Int.toNat a) else []) (bif handF s a then wrongsL s (allR s) (Int.toNat a) else []) else false then true else false then true else false);let A2:=(bif stF s then firstL (allR s) else []);let A3:=(bif rowF s r&&isOpen s (allR s) (Int.toNat r) then (8:Int) else rowC s r);let A4:=(bif bif bif bif bif bif stC s==stC s then sameL (fun x1 x2=>x1==x2) A2 A2 else false then A3==bif rowF s r&&isOpen s (allR s) (Int.toNat r) then (8:Int) else rowC s r else false then sameL (fun x1 x2=>x1==x2) A0 A0 else false then stC s==stC s else false then (bif stF s then leastA s else (0:Int))==bif stF s then leastA s else (0:Int) else false then handQ s a==handQ s a else false);let A5:=(bif handF s a then wrongsL s (allR s) (Int.toNat a) else []);let A6:=(bif bif bif bif bif stC s==stC s then sameL (fun x1 x2=>x1==x2) A2 A2 else false then A3==bif rowF s r&&isOpen s (allR s) (Int.toNat r) then (8:Int) else rowC s r else false then sameL (fun x1 x2=>x1==x2) A0 A0 else false then stC s==stC s else false then (bif stF s then leastA s else (0:Int))==bif stF s then leastA s else (0:Int) else false);let A7:=(bif bif bif bif bif bif bif bif stC s==stC s then sameL (fun x1 x2=>x1==x2) A2 A2 else false then A3==bif rowF s r&&isOpen s (allR s) (Int.toNat r) then (8:Int) else rowC s r else false then sameL (fun x1 x2=>x1==x2) A0 A0 else false then stC s==stC s else false then (bif stF s then leastA s else (0:Int))==bif stF s then leastA s else (0:Int) else false then handQ s a==handQ s a else false then sameL (fun x1 x2=>x1==x2) A5 A5 else false then true else false);let A8:=(bif bif bif bif bif bif bif stC s==stC s then sameL (fun x1 x2=>x1==x2) A2 A2 else false then A3==bif rowF s r&&isOpen s (allR s) (Int.toNat r) then (8:Int) else rowC s r else false then sameL (fun x1 x2=>x1==x2) A0 A0 else false then stC s==stC s else false then (bif stF s then leastA s else (0:Int))==bif stF s then leastA s else (0:Int) else false then handQ s a==handQ s a else false then sameL (fun x1 x2=>x1==x2) A5 A5 else false);let A9:=(bif bif bif bif stC s==stC s then sameL (fun x1 x2=>x1==x2) A2 A2 else false then A3==bif rowF s r&&isOpen s (allR s) (Int.toNat r) then (8:Int) else rowC s r else false then sameL (fun x1 x2=>x1==x2) A0 A0 else false then stC s==stC s else false);let A10:=(bif bif bif bif bif bif bif bif bif bif stC s==stC s then sameL (fun x1 x2=>x1==x2) A2 A2 else false then A3==bif rowF s r&&isOpen s (allR s) (Int.toNat r) then (8:Int) else rowC s r else false then sameL (fun x1 x2=>x1==x2) A0 A0 else false then stC s==stC s else false then (bif stF s then leastA s else (0:Int))==bif stF s then leastA s else (0:Int) else false then handQ s a==handQ s a else false then sameL (fun x1 x2=>x1==x2) A5 A5 else false then true else false then true else false then sameL (fun x1 x2=>x1==x2) (apartL s) (apartL s) else false);let A11:=(bif bif bif stC s==stC s then sameL (fun x1 x2=>x1==x2) A2 A2 else false then A3==bif rowF s r&&isOpen s (allR s) (Int.toNat r) then (8:Int) else rowC s r else false then sameL (fun x1 x2=>x1==x2) A0 A0 else false);let A12:=(bif bif stC s==stC s then sameL (fun x1 x2=>x1==x2) A2 A2 else false then A3==bif rowF s r&&isOpen s (allR s) (Int.toNat r) then (8:Int) else rowC s r else false);let A13:=(bif bif !(shortB s&&Sheet.ok s) then true else !isHand s a then true else !isHand s b);let A14:=(bif !(shortB s&&Sheet.ok s) then true else !isHand s a);let A15:=(bif stC s==stC s then sameL (fun x1 x2=>x1==x2) A2 A2 else false);let A16:=(shortB s&&Sheet.ok s);let A17:=[D.c (Ci (bif stF s then leastA s else (0:Int))),D.c (Ci (stC s))];let A18:=(fun x1 x2=>x1==x2);let A19:=[D.c (C.l eI A5),D.c (Ci (handQ s a))];let A20:=[D.c (C.l eI (apartL s)),D.c (Ci 0)];let A21:=(bif bif bif !A16 then true else !isHand s a then true else !isHand s b then true else !isRow s r);let A22:=[D.c (C.l eI A2),D.c (Ci (stC s))];let A23:=(eqB (!A16) false=true->eqB (!A16) false=true);let A24:=[D.c (C.l eI A0),D.c (Ci A3)];let A25:=(eqB A14 false=true->eqB A14 false=true);let A26:=(eqB A13 false=true->eqB A13 false=true);let A27:=(stC s==stC s);let A28:=(apartL s);((.r (.ret (B A16)) (.r (.ret (B (isHand s a))) (.r (.ret (B (isHand s b))) (.r (.ret (B (isRow s r))) (.br (.r (.ret (B true)) .nil) (.arrA (nat_lit 54) (.arrA (nat_lit 57) (.r (.ret (.tup A22)) (.r (.ret (.tup A22)) (.r (.ret (.tup A24)) (.r (.ret (.tup A24)) (.r (.ret (.tup A17)) (.r (.ret (.tup A17)) (.r (.ret (.tup A19)) (.r (.ret (.tup A19)) (.r (.ret (.tup A20)) (.r (.ret (.tup A20)) (.r (.ret (B (sameL A18 A2 A2))) (.r (.ret (B (sameL A18 A0 A0))) (.r (.ret (B (sameL A18 A5 A5))) (.r (.ret (B (sameL A18 A28 A28))) (.r (.ret (B true)) .nil)))))))))))))))))))))),(CO Gl 44 [tSheet s] (.ret (B A16))/\A23/\A23/\(eqB (!A16) false=true->CO Gl 46 [tSheet s,I a] (.ret (B (isHand s a))))/\A23/\((!A16)=false->eqB (!A16) false=true)/\A25/\A25/\(eqB A14 false=true->CO Gl 46 [tSheet s,I b] (.ret (B (isHand s b))))/\A25/\(A14=false->eqB A14 false=true)/\A26/\A26/\(eqB A13 false=true->CO Gl 42 [tSheet s,I r] (.ret (B (isRow s r))))/\A26/\(A13=false->eqB A13 false=true)/\(A21=true->CO Gl 21 [] (.ret (B true))/\true=true)/\(A21=false->(0:Nat)<s.1.length/\s.1.length*24<=140737488355328/\s.1.length<=(140737488355328:Nat)/\(0:Nat)<s.2.length/\s.2.length*8<=140737488355328/\s.2.length<=(140737488355328:Nat)/\((0:Int)<=b/\b<(s.1.length:Int))/\((0:Int)<=a/\a<(s.1.length:Int))/\Int.toNat a<s.1.length/\((0:Int)<=a/\a<(s.1.length:Int))/\((0:Int)<=b/\b<(s.1.length:Int))/\Int.toNat b<s.1.length/\((0:Int)<=b/\b<(s.2.length:Int))/\((0:Int)<=a/\a<(s.2.length:Int))/\Int.toNat a<s.2.length/\((0:Int)<=a/\a<(s.2.length:Int))/\((0:Int)<=b/\b<(s.2.length:Int))/\Int.toNat b<s.2.length/\CO Gl 31 [tSheet s] (.ret (.tup A22))/\s.1.length=s.1.length/\s.2.length=s.2.length/\CO Gl 31 [tSwap s a b] (.ret (.tup A22))/\CO Gl 37 [tSheet s,I r] (.ret (.tup A24))/\s.1.length=s.1.length/\s.2.length=s.2.length/\CO Gl 37 [tSwap s a b,I r] (.ret (.tup A24))/\CO Gl 29 [tSheet s] (.ret (.tup A17))/\s.1.length=s.1.length/\s.2.length=s.2.length/\CO Gl 29 [tSwap s a b] (.ret (.tup A17))/\CO Gl 48 [tSheet s,I a] (.ret (.tup A19))/\s.1.length=s.1.length/\s.2.length=s.2.length/\CO Gl 48 [tSwap s a b,I b] (.ret (.tup A19))/\CO Gl 53 [tSheet s] (.ret (.tup A20))/\s.1.length=s.1.length/\s.2.length=s.2.length/\CO Gl 53 [tSwap s a b] (.ret (.tup A20))/\(eqB A27 true=true->eqB A27 true=true)/\(eqB A27 true=true->eqB A27 true=true)/\(eqB A27 true=true->CO Gl 34 [L eI A2,L eI A2] (.ret (B (sameL A18 A2 A2))))/\(A27=true->eqB A27 true=true)/\(eqB A15 true=true->eqB A15 true=true)/\(eqB A15 true=true->eqB A15 true=true)/\(A15=true->eqB A15 true=true)/\(eqB A12 true=true->eqB A12 true=true)/\(eqB A12 true=true->eqB A12 true=true)/\(eqB A12 true=true->CO Gl 34 [L eI A0,L eI A0] (.ret (B (sameL A18 A0 A0))))/\(A12=true->eqB A12 true=true)/\(eqB A11 true=true->eqB A11 true=true)/\(eqB A11 true=true->eqB A11 true=true)/\(A11=true->eqB A11 true=true)/\(eqB A9 true=true->eqB A9 true=true)/\(eqB A9 true=true->eqB A9 true=true)/\(A9=true->eqB A9 true=true)/\(eqB A6 true=true->eqB A6 true=true)/\(eqB A6 true=true->eqB A6 true=true)/\(A6=true->eqB A6 true=true)/\(eqB A4 true=true->eqB A4 true=true)/\(eqB A4 true=true->eqB A4 true=true)/\(eqB A4 true=true->CO Gl 54 [L eI A5,L eI A5] (.ret (B (sameL A18 A5 A5))))/\(A4=true->eqB A4 true=true)/\(eqB A8 true=true->eqB A8 true=true)/\(A8=true->eqB A8 true=true)/\(eqB A7 true=true->eqB A7 true=true)/\(A7=true->eqB A7 true=true)/\(eqB A1 true=true->eqB A1 true=true)/\(eqB A1 true=true->eqB A1 true=true)/\(eqB A1 true=true->CO Gl 34 [L eI A28,L eI A28] (.ret (B (sameL A18 A28 A28))))/\(A1=true->eqB A1 true=true)/\(eqB A10 true=true->CO Gl 21 [] (.ret (B true)))/\(A10=true->eqB A10 true=true)/\(bif bif bif bif bif bif bif bif bif bif bif stC s==stC s then sameL A18 A2 A2 else false then A3==bif rowF s r&&isOpen s (allR s) (Int.toNat r) then (8:Int) else rowC s r else false then sameL A18 A0 A0 else false then stC s==stC s else false then (bif stF s then leastA s else (0:Int))==bif stF s then leastA s else (0:Int) else false then handQ s a==handQ s a else false then sameL A18 A5 A5 else false then true else false then true else false then sameL A18 A28 A28 else false then true else false)=true)))) Tryz.func14 (by kernel_rfl) (by kernel_rfl) ?_
 have hK:=known21 S hG exB72
 have c0:=right44 S s
 simp (config:={ maxSteps:=20000000 }) only [zero_cast,eqB_true,eqB_false,imp_self,true_and,and_true,and_self,implies_true,bif_and,bif_or,bif_nand,bif_nor,Bool.and_assoc,Bool.not_eq_eq_eq_not,Bool.not_true,Bool.not_false,SEq_refl,Bool.or_assoc]
 cases e1:(shortB s&&s.ok)
 ·rw [e1] at c0
  simp only [e1,cond_true,cond_false,Bool.and_true,Bool.and_false,Bool.true_and,Bool.false_and,Bool.or_false,Bool.false_or,Bool.or_true,Bool.true_or,Bool.not_true,Bool.not_false] at c0 ⊢
  ((repeat' (first|with_reducible apply And.intro|with_reducible intro _))<;>first|contradiction|with_reducible rfl|exact c0|exact hK|(simp;done)|omega)
 obtain ⟨e0,h1⟩:=Bool.and_eq_true_iff.1 e1
 rw [e1] at c0
 have hrs:=(col_len ((ok_len h1).2.2.2 0 (by have:=(ok_len h1).1;omega))).2.2
 have hcl:=(ok_len h1).1
 have hcm:=(ok_len h1).2.1
 have c2:=hand46 S s a (by omega)
 have c3:=hand46 S s b (by omega)
 have c4:=row42 S s r (by omega) (by omega)
 cases e2:isHand s a
 ·rw [e2] at c2
  simp only [e1,e2,cond_true,cond_false,Bool.and_true,Bool.and_false,Bool.true_and,Bool.false_and,Bool.or_false,Bool.false_or,Bool.or_true,Bool.true_or,Bool.not_true,Bool.not_false] at *
  ((repeat' (first|with_reducible apply And.intro|with_reducible intro _))<;>first|contradiction|with_reducible rfl|exact c0|exact hK|exact c2|exact c3|exact c4|(simp;done)|omega)
 rw [e2] at c2
 cases e3:isHand s b
 ·rw [e3] at c3
  simp only [e1,e2,e3,cond_true,cond_false,Bool.and_true,Bool.and_false,Bool.true_and,Bool.false_and,Bool.or_false,Bool.false_or,Bool.or_true,Bool.true_or,Bool.not_true,Bool.not_false] at *
  ((repeat' (first|with_reducible apply And.intro|with_reducible intro _))<;>first|contradiction|with_reducible rfl|exact c0|exact hK|exact c2|exact c3|exact c4|(simp;done)|omega)
 rw [e3] at c3
 cases e4:isRow s r
 ·rw [e4] at c4
  simp only [e1,e2,e3,e4,cond_true,cond_false,Bool.and_true,Bool.and_false,Bool.true_and,Bool.false_and,Bool.or_false,Bool.false_or,Bool.or_true,Bool.true_or,Bool.not_true,Bool.not_false] at *
  ((repeat' (first|with_reducible apply And.intro|with_reducible intro _))<;>first|contradiction|with_reducible rfl|exact c0|exact hK|exact c2|exact c3|exact c4|(simp;done)|omega)
 rw [e4] at c4
 obtain ⟨a1,a2⟩:=hand_lt h1 e2
 obtain ⟨b1,b2⟩:=hand_lt h1 e3
 have hel:s.errs.length=s.cols.length:=(ok_len h1).2.2.1
 have c5:=first31a S s
 have c6:=first31y S s a b h1 e2 e3
 have c7:=values37a S s r
 have c8:=values37y S s a b r h1 e2 e3
 have c9:=least29a S s
 have c10:=least29y S s a b h1 e2 e3
 have c11:=wrong48a S s a
 have c12:=wrong48y S s a b h1 e2 e3
 have c13:=apart53 S s h1
 have c14:=apart53y S s a b h1 e2 e3
 have m:∀ x:List Int,sameL (fun x1 x2=>x1==x2) x x=true:=sameL_self
 have c15:∀ x:List Int,CO Gl 34 [L eI x,L eI x] (.ret (B true)):=fun x=>by have:=same34 S x x;rw [sameL_self] at this;exact this
 have c16:∀ x:List Int,CO Gl 54 [L eI x,L eI x] (.ret (B true)):=fun x=>by have:=same68w S x x;rw [sameL_self] at this;exact this
 simp only [e1,e2,e3,e4,m,cond_true,cond_false,Bool.and_true,Bool.and_false,Bool.true_and,Bool.false_and,Bool.or_false,Bool.false_or,Bool.or_true,Bool.true_or,Bool.not_true,Bool.not_false,Int.reduceBNe,Int.reduceBEq,Bool.false_eq_true,true_implies,false_implies,imp_self,and_true,true_and,implies_true,bne_self_eq_false,beq_self_eq_true,imp_false,Bool.true_eq_false,not_false_eq_true]
 ((repeat' (first|with_reducible apply And.intro|with_reducible intro _))<;>first|contradiction|with_reducible rfl|exact c0|exact hK|exact c2|exact c3|exact c4|exact c5|exact c6|exact c7|exact c8|exact c9|exact c10|exact c11|exact c12|exact c13|exact c14|exact c15 _|exact c16 _|exact h1|(simp;done)|omega)
end Go.Vc.Hn
