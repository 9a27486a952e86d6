/- A part of the proofs over the layers: the program and the specification; no condition. -/
import Derived.Test.YtknoiciabjockaaGreatCE
set_option linter.all false
set_option linter.unusedSimpArgs false
set_option linter.unusedVariables false
namespace Go.Vc.Zn.Rm
open Go Go.Proofs Go.Vc Go.RowKit
structure Su where
 p:Plan
 b:Gv.Book
 e:Int
 pl:Int
 cs:List Cp
 y:Py.PBook
def cS (s:Su):List C:=cSu s.p s.b s.e s.pl s.cs s.y
def Oh (b:Py.PBook):Bool:=decide (Py.firstS b<(Py.truthsL b).length)
def Un (b:Py.PBook):List Int:=bif Oh b then nth (Py.truthsL b) (Py.firstS b) else []
theorem Aw0 {Gl} (S:SP Gl) (b:Py.PBook) (hok:Py.okPB b=true):CO Gl 142 [.d (.agg (Py.cPB b))] (.ret (.tup [.c (.l eI (Un b)),.c (Ci (bif Oh b then 0 else 5))])):=by
 unfold Un Oh
 rcases Nat.lt_or_ge (Py.firstS b) (Py.truthsL b).length with h|h
 ·rw [decide_eq_true h];exact Py.agrees142 S b hok h
 ·rw [decide_eq_false (by omega)]
  have:=Lg (p:=fun er=>!Py.paidAll b er) (l:=Py.truthsL b)
  exact Py.agrees142n S b hok (by unfold Py.firstS at *;omega)
def okC (s:Su):Bool:=Em s.p&&s.b.ok&&Dx s.pl s.cs&&Py.okPB s.y
def Qy (s:Su):Bool:=okC s&&(Oh s.y&&decide (s.p.rows<=6)&&(s.p.rows.tmod s.b.sheets.length==0)&&inR s.e 0 2&&(s.y.hands==(s.b.comps.length:Int)))
theorem Akw {s:Su} (h:okC s=true):Em s.p=true/\s.b.ok=true/\Dx s.pl s.cs=true/\Py.okPB s.y=true:=by
 unfold okC at h
 simp only [Bool.and_eq_true] at h
 exact ⟨h.1.1.1,h.1.1.2,h.1.2,h.2⟩
theorem Ze {b:Gv.Book} (h:b.ok=true):1<=b.sheets.length/\b.sheets.length<=1000/\1<=b.comps.length/\b.comps.length<=1000/\1<=b.dues.length/\b.dues.length<=1000:=by
 unfold Gv.Book.ok at h
 simp only [Bool.and_eq_true,Bo] at h
 omega
theorem Uo {s:Su} (h:Qy s=true):okC s=true/\Oh s.y=true/\decide (s.p.rows<=6)=true/\(s.p.rows.tmod s.b.sheets.length==0)=true/\inR s.e 0 2=true/\(s.y.hands==(s.b.comps.length:Int))=true:=by
 unfold Qy at h
 simp only [Bool.and_eq_true] at h
 exact ⟨h.1,h.2.1.1.1.1,h.2.1.1.1.2,h.2.1.1.2,h.2.1.2,h.2.2⟩
theorem Aw1 {Gl} (S:SP Gl) (p:Plan) (h:Em p=true):CO Gl 138 [Tv p] (.ret (I 0)):=by have:=Avm S p;rw [h] at this;exact this
theorem Aw2 {Gl} (S:SP Gl) (b:Gv.Book) (h:b.ok=true):CO Gl 139 [Gv.tBook b] (.ret (I 0)):=by have:=Gv.check67 S b;rw [h] at this;exact this
theorem Aw3 {Gl} (S:SP Gl) (pl:Int) (cs:List Cp) (h:Dx pl cs=true):CO Gl 140 [tTr pl cs] (.ret (I 0)):=by have:=Avn S pl cs;rw [h] at this;exact this
theorem payOK {Gl} (S:SP Gl) (b:Py.PBook) (h:Py.okPB b=true):CO Gl 141 [.d (.agg (Py.cPB b))] (.ret (I 0)):=by have:=Py.check141 S b;rw [h] at this;exact this
theorem Aw4 {Gl} (S:SP Gl) (b:Py.PBook) (h:Py.okPB b=true) (h2:Oh b=true):CO Gl 142 [.d (.agg (Py.cPB b))] (.ret (.tup [.c (.l eI (Un b)),.c (Ci 0)])):=by have:=Aw0 S b h;rw [h2] at this;exact this
theorem Aw5 {Gl} (S:SP Gl) (s:Su) (h:Qy s=true):CO Gl 65 [.d (.agg (cS s))] (.ret (B true)):=by
 refine An S (.r (.ret (I 0)) (.sure 10 (.sure 11 (.sure 12 (.r (.ret (I 0)) (.sure 13 (.sure 16 (.sure 17 (.sure 18 (.r (.ret (I 0)) (.sure 19 (.sure 22 (.sure 23 (.sure 24 (.r (.ret (I 0)) (.sure 25 (.ff (.r (.ret (.tup [D.c (C.l eI (Un (Su.y s))),D.c (Ci 0)])) (.sure 36 (.sure 37 (.sure 38 (.val 39 true (.sure 39 (.sure 42 (.sure 43 (.sure 44 (.sure 45 (.sure 46 (.sure 47 (.sure 48 (.sure 49 (.val 50 true (.sure 50 (.sure 53 (.sure 54 (.val 55 true (.sure 55 (.r (.ret (B (inR s.3 (0:Int) (2:Int)))) (.sure 58 (.sure 59 (.sure 60 (.sure 61 (.sure 62 (.sure 63 (.sure 64 (.val 65 true (.sure 65 .nil))))))))))))))))))))))))))))))))))))))))))))))) Tryz.func65 (by kernel_rfl) (CO Gl 138 [Tv (Su.p s)] (.ret (I 0))/\true=true/\true=true/\true=true/\CO Gl 139 [Gv.tBook (Su.b s)] (.ret (I 0))/\true=true/\true=true/\true=true/\true=true/\CO Gl 140 [tTr (Su.pl s) (Su.cs s)] (.ret (I 0))/\true=true/\true=true/\true=true/\true=true/\CO Gl 141 [T.d (D.agg (Py.cPB (Su.y s)))] (.ret (I 0))/\true=true/\false=false/\CO Gl 142 [T.d (D.agg (Py.cPB (Su.y s)))] (.ret (.tup [D.c (C.l eI (Un (Su.y s))),D.c (Ci 0)]))/\true=true/\true=true/\true=true/\decide (s.1.2<=(6:Int))=true/\true=true/\true=true/\true=true/\true=true/\true=true/\true=true/\true=true/\true=true/\(s.2.3.length<=maxLen->true=true/\(s.2.3.length:Int)≠(0:Int)/\(Int.tmod s.1.2 (s.2.3.length:Int)==0)=true/\true=true/\true=true/\true=true/\inR s.3 (0:Int) (2:Int)=true/\true=true/\CO Gl 143 [I s.3,I 0,I 2] (.ret (B (inR s.3 (0:Int) (2:Int))))/\true=true/\true=true/\true=true/\true=true/\true=true/\true=true/\true=true/\(s.2.1.length<=maxLen->(s.6.1==(s.2.1.length:Int))=true/\true=true/\true=true))) (by kernel_rfl) ?_
 obtain ⟨f1,f2,f3,f4,f5,f6⟩:=Uo h
 obtain ⟨g1,g2,g3,g4⟩:=Akw f1
 have hsp:=Ze g2
 simp only [stdS,imp_self,implies_true,and_true]
 exact ⟨Aw1 S _ g1,Aw2 S _ g2,Aw3 S _ _ g3,payOK S _ g4,Aw4 S _ g4 f2,f3,fun _=>⟨by omega,f4,f5,Jh S _ _ _,fun _=>⟨f6,trivial⟩⟩⟩
noncomputable def Oi:List Code×Code:=match Tryz.f146.body with|some c=>Xx 2 c|none=>([],.skip)
theorem Aw6:Tryz.f146.body=some (Lb Oi.1 Oi.2):=by kernel_rfl
noncomputable def Ae7:Array Oper:=match Oi.2 with| .seq (.region _ o _) _=>o|_=>#[]
theorem Aw7:Oi.2=.seq (.region 3 Ae7 false) .ret:=by kernel_rfl
noncomputable def Zf (i:Nat):Oper:=(Ae7[i]?).getD default
theorem Aw8:CloneOps Y 65 241 Ae7:=⟨by kernel_rfl,by kernel_rfl,by kernel_rfl,⟨Zf 0,by kernel_rfl,by kernel_rfl,by kernel_rfl,by kernel_rfl⟩,⟨Zf 1,by kernel_rfl,by kernel_rfl,by kernel_rfl,by kernel_rfl⟩,⟨Zf 2,by kernel_rfl,by kernel_rfl,by kernel_rfl,by kernel_rfl⟩,⟨Zf 3,by kernel_rfl,by kernel_rfl,by kernel_rfl,by kernel_rfl⟩⟩
theorem Aw9 {Gl} (S:SP Gl) (l:List Cp) (h1:1<=l.length) (h2:l.length<=1000) {X:Cx} {vis:Nat->Nat} {w0:World} {a:Act} {w:World} {G:Gh} (T:Tail Tryz.prog Gl Y X Tryz.f146 [v 0 (L eCp l)] vis w0 a w G):Oi.2.wpIn (Fr none) 0 Tryz.prog (bodyPostM (Fr none) 0 Tryz.prog Tryz.f146 fun en w'=>Below w0.heap.size w0 w'/\Gx vis w0 en w' (.ret (.own 2 l.length fun i=>eCp (nth l i)))) a w:=by
 rw [Aw7]
 have hb:(Y 241).bytes=32:=by kernel_rfl
 have hs:(Y 241).size=2:=by kernel_rfl
 have:=Aq0 S T Aw8 (by kernel_rfl) (by kernel_rfl) (by omega) (by rw [hb];omega) (by omega) (by rw [hs];rfl) (by rw [hs];decide) 3
 rw [hs] at this
 exact this
theorem Awa {Gl} (S:SP Gl) (l:List Cp) (h1:1<=l.length) (h2:l.length<=1000):CO Gl 146 [L eCp l] (.ret (.own 2 l.length fun i=>eCp (nth l i))):=by
 refine Ah6 S (E:=[v 0 (L eCp l)]) (xs:=Oi.1) (tl:=Oi.2) (.ff .nil) Tryz.func146 (by kernel_rfl) Aw6 rfl ((0:Nat)<l.length/\false=false/\sR eCp l) (by kernel_rfl) ?_ (fun X vis w0 a w G T=>Aw9 S l h1 h2 T)
 exact ⟨by omega,rfl,Bn rfl⟩
theorem Qz {Gl} (S:SP Gl) (l:List Int) (h1:1<=l.length) (h2:l.length<=1000):CO Gl 69 [L eI l] (.ret (L eI l)):=by
 refine An S (.ff .nil) Tryz.func69 (by kernel_rfl) ((0:Nat)<l.length/\false=false/\((0:Nat)+l.length)*8<=140737488355328/\(0:Nat)+l.length<=(140737488355328:Nat)/\SEq ((0:Nat)+l.length) (Ar 0 (fun x=>[]) fun i=>eI (nth l i)) l.length fun i=>eI (nth l i)) (by kernel_rfl) ?_
 refine ⟨by omega,rfl,by omega,by omega,.of ⟨by omega,fun i hi=>?_⟩⟩
 unfold Ar
 rw [Ui (Nat.zero_le _),cond_false,Nat.sub_zero]
def sT (s:Su) (x:T):List T:=[.d (.c (.l Ad s.p.starts)),I s.p.rows,I s.p.guard,.d (.c (.l Gv.eComp s.b.comps)),L eI s.b.dues,L eI s.b.sheets,I s.e,I s.pl,x,I s.y.hands,I s.y.unit,I s.y.sheet,I s.y.error,I s.y.morn,I s.y.post,.d (.c (.l Py.eLine s.y.lines))]
def bT (id:Nat) (xs:List T):Env:=(2,id,live)::Ip id 0 xs
def u16:List C:=List.replicate 16 .u
theorem Awb {pl:Int} {cs:List Cp} (h:Dx pl cs=true):1<=cs.length/\cs.length<=8/\∀ k,k<cs.length->1<=(nth cs k).seen.length/\(nth cs k).seen.length<=1000:=by
 unfold Dx at h
 simp only [Bool.and_eq_true,Bo,List.all_eq_true,List.mem_range] at h
 obtain ⟨h1,h2,h3⟩:=h
 refine ⟨by omega,by omega,fun k hk=>?_⟩
 have h4:=h3 k hk
 unfold Lm at h4
 simp only [Bool.and_eq_true,beq_iff_eq] at h4
 omega
theorem plan_len {p:Plan} (h:Em p=true):1<=p.starts.length/\p.starts.length<=1000:=by
 unfold Em at h
 simp only [Bool.and_eq_true,Bo] at h
 omega
theorem Akx {Gl} (S:SP Gl) (s:Su) (h:okC s=true):CO Gl 66 [.d (.agg (cS s))] (.ret (.d (.agg (cS s)))):=by
 refine Ao S (let A0:=(SEq s.2.1.length (fun i=>Gv.eComp (nth s.2.1 i)) s.2.1.length fun i=>Gv.eComp (nth s.2.1 i));let A1:=(List.length (Su.cs s));let A2:=(s.5.length:Int);let A3:=(fun (i:Nat)=>Py.eLine (nth s.6.7 i));let A4:=(T.d (D.c (C.l Py.eLine (Py.PBook.lines (Su.y s)))));let A5:=(T.d (D.c (C.l Gv.eComp (Gv.Book.comps (Su.b s)))));let A6:=(T.own (2:Nat) A1 fun i=>eCp (nth (Su.cs s) i));let A7:=(T.d (D.c (C.l Ad (Plan.starts (Su.p s)))));((.r (.ret A7) (.r (.ret A5) (.r (.ret (L eI s.2.2)) (.r (.ret (L eI s.2.3)) (.r (.ret A6) (.loop A1 (fun k=>v 39 (I k)::v 38 (I (List.length (Su.cs s):Int))::v 37 (T.arr 32 A1)::v 1 (ad 1)::v 2 (ad 2)::((2:Nat),(32:Nat),T.arrc false (2:Nat) A1 fun i=>eCp (nth (Su.cs s) i))::(bT (1:Nat) (sT s (T.arr 32 A1))++bx 2 u16)) fun k0=>.br (.r (.ret (L eI (nth s.5 k0).2)) .nil) (.r (.ret A4) .nil))))))),(CO Gl 144 [L Ad (Plan.starts (Su.p s))] (.ret A7)/\CO Gl 145 [L Gv.eComp (Gv.Book.comps (Su.b s))] (.ret A5)/\CO Gl 69 [L eI s.2.2] (.ret (L eI s.2.2))/\CO Gl 69 [L eI s.2.3] (.ret (L eI s.2.3))/\CO Gl 146 [L eCp (Su.cs s)] (.ret A6)/\(s.5.length<=maxLen->(0=(↑(0:Nat):Int)/\A2=A2/\s.5.length=s.5.length/\(sR eCp s.5)/\(sR Ad s.1.1)/\s.1.2=s.1.2/\s.1.3=s.1.3/\A0/\(sR eI s.2.2)/\(sR eI s.2.3)/\s.3=s.3/\s.4=s.4/\s.5.length=s.5.length/\s.6.1=s.6.1/\s.6.2=s.6.2/\s.6.3=s.6.3/\s.6.4=s.6.4/\s.6.5=s.6.5/\s.6.6=s.6.6/\SEq s.6.7.length A3 s.6.7.length fun i=>Py.eLine (nth s.6.7 i))/\∀ (k0:Nat),k0<=List.length (Su.cs s)->(decide ((k0:Int)<(s.5.length:Int))=true->(0<=(k0:Int)/\(k0:Int)<A2)/\k0<s.5.length/\CO Gl 69 [L eI (nth s.5 k0).2] (.ret (L eI (nth s.5 k0).2))/\(0<=(k0:Int)/\(k0:Int)<A2)/\k0<s.5.length/\iR ((k0:Int)+1)/\k0<List.length (Su.cs s)/\(k0:Int)+1=(↑(k0+1):Int)/\A2=A2/\s.5.length=s.5.length/\(SEq s.5.length (Dq (fun i=>eCp (nth s.5 i)) k0 (Hf (1:Nat) (List.map C.dem [C.s Tag.n (List.length (nth s.5 k0).2) fun i=>eI (nth (nth s.5 k0).2 i)]) (eCp (nth s.5 k0)))) s.5.length fun i=>eCp (nth s.5 i))/\(sR Ad s.1.1)/\s.1.2=s.1.2/\s.1.3=s.1.3/\A0/\(sR eI s.2.2)/\(sR eI s.2.3)/\s.3=s.3/\s.4=s.4/\s.5.length=s.5.length/\s.6.1=s.6.1/\s.6.2=s.6.2/\s.6.3=s.6.3/\s.6.4=s.6.4/\s.6.5=s.6.5/\s.6.6=s.6.6/\SEq s.6.7.length A3 s.6.7.length fun i=>Py.eLine (nth s.6.7 i))/\(decide ((k0:Int)<(s.5.length:Int))=false->CO Gl 147 [L Py.eLine (Py.PBook.lines (Su.y s))] (.ret A4)/\s.5.length=s.5.length/\(sR Ad s.1.1)/\s.1.2=s.1.2/\s.1.3=s.1.3/\A0/\(sR eI s.2.2)/\(sR eI s.2.3)/\s.3=s.3/\s.4=s.4/\(sR eCp s.5)/\s.6.1=s.6.1/\s.6.2=s.6.2/\s.6.3=s.6.3/\s.6.4=s.6.4/\s.6.5=s.6.5/\s.6.6=s.6.6/\SEq s.6.7.length A3 s.6.7.length fun i=>Py.eLine (nth s.6.7 i)))))) Tryz.func66 (by kernel_rfl) (by kernel_rfl) ?_
 obtain ⟨g1,g2,g3,g4⟩:=Akw h
 obtain ⟨q1,q2,q3,q4,q5,q6⟩:=Ze g2
 obtain ⟨c1,c2,c3⟩:=Awb g3
 have hp:=plan_len g1
 have hy:=(Py.okPB_facts g4).2.2.1
 simp only [stdS,imp_self,implies_true,and_true,decide_eq_true_eq,decide_eq_false_iff_not,Af,Bi]
 refine ⟨Avq S _ hp.1 hp.2,Avr S _ q3 q4,Qz S _ q5 q6,Qz S _ q1 q2,Awa S _ c1 (by omega),fun _ k hk=>⟨fun hl=>⟨by omega,by omega,Qz S _ (c3 k (by omega)).1 (c3 k (by omega)).2,by omega,by omega,by omega,by omega,by omega,.of ⟨rfl,fun i hi=>?_⟩,trivial⟩,fun _=>⟨Avs S _ hy.1 (by omega),trivial⟩⟩⟩
 rw [Abm]
 by_cases hik:i=k
 ·rw [if_pos hik,hik];rfl
 ·rw [if_neg hik]
structure Gvn where
 one:Int
 other:Int
 third:Int
 day:Int
def eG (g:Gvn):List C:=[Ci g.one,Ci g.other,Ci g.third,Ci g.day]
structure St where
 su:Su
 day:Int
 tk:Int->Option Gvn
 co:Int->Int->Option (List Int)
 ri:Int->Option (List Int)
 pa:Int->Int->Bool
def tkD (s:St):List Int->Bool
 | [n]=>(s.tk n).isSome
 |_=>false
def tkV (s:St):List Int->List C
 | [n]=>eG ((s.tk n).getD ⟨0,0,0,0⟩)
 |_=>eG ⟨0,0,0,0⟩
def oC (x:Option (List Int)):C:=match x with
 |some l=>.l eI l
 |none=>.v (.slice none 0 0)
def eN (x:Option (List Int)):List C:=[oC x]
def coD (s:St):List Int->Bool
 | [a,b]=>(s.co a b).isSome
 |_=>false
def coV (s:St):List Int->List C
 | [a,b]=>eN (s.co a b)
 |_=>eN none
def riD (s:St):List Int->Bool
 | [a]=>(s.ri a).isSome
 |_=>false
def riV (s:St):List Int->List C
 | [a]=>eN (s.ri a)
 |_=>eN none
def paD (s:St):List Int->Bool
 | [a,b]=>s.pa a b
 |_=>false
def paV (s:St) (k:List Int):List C:=[Cb (paD s k)]
def mTk (s:St):T:=.mapc false 0 true (tkD s) (tkV s)
def mCo (s:St):T:=.mapc false 2 false (coD s) (coV s)
def mRi (s:St):T:=.mapc false 0 false (riD s) (riV s)
def mPa (s:St):T:=.mapc false 2 false (paD s) (paV s)
def Cl (s:Su):St:=⟨s,0,fun _=>none,fun _ _=>none,fun _=>none,fun _ _=>false⟩
def stB (id m:Nat) (s:St):Env:=(2,id,live)::(Dp id 0 (cS s.su)++((id+3,16,I s.day)::(id+3,17,.mp m)::(id+3,18,.mp (m+1))::(id+3,19,.mp (m+2))::(id+3,20,.mp (m+3))::(2,m,mTk s)::(2,m+1,mCo s)::(2,m+2,mRi s)::(2,m+3,mPa s)::[]))
theorem meq_none {dom:List Int->Bool} {val val':List Int->List C} (h:∀ k,dom k=false):MEq (fun _=>false) val dom val':=fun k=>⟨(h k).symm,fun hh=>(by cases hh)⟩
theorem Awc {Gl} (S:SP Gl) (s:Su) (h:okC s=true):CO Gl 150 [.d (.agg (cS s))] (.new (.addr 10 0) ((13,21,.d (.c (.v (.slice none 0 0))))::stB 10 5 (Cl s))):=by
 refine Te S (.r (.ret (T.d (D.agg (cS s)))) .nil) Tryz.func150 (by kernel_rfl) (v 2 (.addr 10 0)::(13,21,.d (.c (.v (.slice none 0 0))))::stB 10 5 (Cl s)) rfl (T.addr (10:Nat) (0:Nat)=T.addr (10:Nat) (0:Nat)/\CO Gl 66 [T.d (D.agg (cS s))] (.ret (T.d (D.agg (cS s))))/\Value.slice none 0 0=Value.slice none 0 0/\(sR Ad s.1.1)/\s.1.2=s.1.2/\s.1.3=s.1.3/\(SEq s.2.1.length (fun i=>Gv.eComp (nth s.2.1 i)) s.2.1.length fun i=>Gv.eComp (nth s.2.1 i))/\(sR eI s.2.2)/\(sR eI s.2.3)/\s.3=s.3/\s.4=s.4/\(sR eCp s.5)/\s.6.1=s.6.1/\s.6.2=s.6.2/\s.6.3=s.6.3/\s.6.4=s.6.4/\s.6.5=s.6.5/\s.6.6=s.6.6/\(SEq s.6.7.length (fun i=>Py.eLine (nth s.6.7 i)) s.6.7.length fun i=>Py.eLine (nth s.6.7 i))/\(0:Int)=0/\MEq (fun x=>false) (fun x=>vsC [Value.int IntKind.i64 (0:Int),Value.int IntKind.i64 (0:Int),Value.int IntKind.i64 (0:Int),Value.int IntKind.i64 (0:Int)]) (tkD (Cl s)) (tkV (Cl s))/\MEq (fun x=>false) (fun x=>vsC [Value.slice none 0 0]) (coD (Cl s)) (coV (Cl s))/\MEq (fun x=>false) (fun x=>vsC [Value.slice none 0 0]) (riD (Cl s)) (riV (Cl s))/\MEq (fun x=>false) (fun x=>vsC [Value.bool false]) (paD (Cl s)) (paV (Cl s))) (by kernel_rfl) ?_
 simp only [stdS,imp_self,implies_true,and_true]
 refine ⟨Akx S s h,meq_none fun k=>?_,meq_none fun k=>?_,meq_none fun k=>?_,meq_none fun k=>?_⟩
 ·unfold tkD;split<;>rfl
 ·unfold coD;split<;>rfl
 ·unfold riD;split<;>rfl
 ·unfold paD;split<;>rfl
theorem Awd {Gl} (S:SP Gl) (s:Su) (h:Qy s=true):CO Gl 22 [.d (.agg (cS s))] (.new (.tpl [.addr 10 0,I 0]) ((2,10,live)::(Dp 10 0 (cS s)++[(13,16,.d (.c (.v (.slice none 0 0)))),(13,17,B true)]))):=by
 refine Te S (.r (.ret (B true)) (.ff (.r (.ret (T.d (D.agg (cS s)))) .nil))) Tryz.func22 (by kernel_rfl) (v 2 (.addr 10 0)::v 3 (I 0)::(2,10,live)::(Dp 10 0 (cS s)++[(13,16,.d (.c (.v (.slice none 0 0)))),(13,17,B true)])) rfl (T.tpl [T.addr (10:Nat) (0:Nat),I 0]=T.tpl [T.addr (10:Nat) (0:Nat),T.d (D.c (C.v (Value.int IntKind.i64 (0:Int))))]/\CO Gl 65 [T.d (D.agg (cS s))] (.ret (B true))/\false=false/\CO Gl 66 [T.d (D.agg (cS s))] (.ret (T.d (D.agg (cS s))))/\(0:Int)=0/\(sR Ad s.1.1)/\s.1.2=s.1.2/\s.1.3=s.1.3/\(SEq s.2.1.length (fun i=>Gv.eComp (nth s.2.1 i)) s.2.1.length fun i=>Gv.eComp (nth s.2.1 i))/\(sR eI s.2.2)/\(sR eI s.2.3)/\s.3=s.3/\s.4=s.4/\(sR eCp s.5)/\s.6.1=s.6.1/\s.6.2=s.6.2/\s.6.3=s.6.3/\s.6.4=s.6.4/\s.6.5=s.6.5/\s.6.6=s.6.6/\(SEq s.6.7.length (fun i=>Py.eLine (nth s.6.7 i)) s.6.7.length fun i=>Py.eLine (nth s.6.7 i))/\Value.slice none 0 0=Value.slice none 0 0/\true=true) (by kernel_rfl) ?_
 simp only [stdS,imp_self,implies_true,and_true]
 exact ⟨Aw5 S s h,Akx S s (Uo h).1,trivial⟩
theorem und20:∃ ms,Tryz.prog.underlying 20=some (.interface ms):=by
 obtain ⟨d,i,z,h1,_,_,_,_,_,h7,_⟩:=yok 20 (by kernel_rfl)
 obtain ⟨ms,rfl⟩:∃ ms,d=.interface ms:=h7
 exact ⟨ms,h1⟩
theorem k133:(Y 275).kind=.struct [(0,9)]:=by kernel_rfl
theorem k135:(Y 276).kind=.struct [(0,9)]:=by kernel_rfl
theorem z133:(Y 275).zero.toArray=#[.string (ByteArray.mk #[])]:=by kernel_rfl
theorem z135:(Y 276).zero.toArray=#[.string (ByteArray.mk #[])]:=by kernel_rfl
theorem z26:(Y 30).zero.toArray=#[.int .i64 0]:=by kernel_rfl
theorem s133:(Y 275).size=1:=by kernel_rfl
theorem s135:(Y 276).size=1:=by kernel_rfl
theorem s26:(Y 30).size=1:=by kernel_rfl
theorem kn133:(Y 275).known=true:=by kernel_rfl
theorem kn135:(Y 276).known=true:=by kernel_rfl
theorem kn26:(Y 30).known=true:=by kernel_rfl
theorem ev_const {a:Act} {v:Value}:a.eval (.const v)=v:=rfl
theorem sl1 (p v:Value):SL { tmps:=#[p]++(Array.replicate 13 undef).setIfInBounds 4 v,defers:=[] } 14 (upd (fun t=>#[p].getD t undef) 5 v) []:=by
 have:=(SL.start #[p] 14 (Nat.le_of_ble_eq_true rfl)).put (d:=5) (by decide) v
 simpa [Act.put] using this
def stO (t:TypeId) (p q:Operand):Oper:={ dst:=none,op:=Op.store t p q,type:=0,pos:= "",after:=#[],guard:=none }
theorem catch_idle (p:Value) (w:World):
  CallsD Tryz.prog 149 #[p] .returning w fun e u' w'=>e=.returned (.tuple #[])/\u'=.returning/\w'=w:=by
 refine callsD_of_wpS Tryz.func149 rfl fun c₀ cs hu=>?_
 apply wpS_seq
 apply wpS_region
 simp [wpOpsS,go_sem,recoverD,hu,Tryz.ntmps149,Exit.thenS]
 have S:=sl1 p .nilIface
 refine wpS_of_wp (wp_block (wp_seq (wp_region_list ?_)))
 generalize ({ tmps:=#[p]++(Array.replicate 13 undef).setIfInBounds 4 Value.nilIface,defers:=[] }:Act)=a at S ⊢
 refine Aj S (d:=7) (v:=.bool true) (w':=w) rfl (by decide) rfl ?_ fun a1 S1=>?_
 ·simp [execOp,S.eval,upd,Ub und20,ev_const,eqGuard]
 refine wp_cond_true (by simp [S1.eval,upd]) (wp_region_list ?_)
 refine Aj S1 (d:=1) (v:=.nilIface) (w':=w) rfl (by decide) rfl ?_ fun a2 S2=>?_
 ·simp [execOp,S1.eval,upd]
 cases c₀
 simp_all [wpList,bodyPostS,results,Tryz.results149,Exit.inBlock,S2.defers]
theorem catch_row (b1:Nat) (x:ByteArray) (older:List PanicEntry) (w:World) (h1:w.heap[b1]?=some (.cells #[.int .i64 0] 30 (0,0))):
  CallsD Tryz.prog 149 #[.pointer (some ⟨b1,0,none⟩)] (.panicking ({ v:=.iface 275 (.agg #[.string x]),recovered:=false }::older)) w fun e u' w'=>
   e=.returned (.tuple #[])/\u'=.panicking ({ v:=.iface 275 (.agg #[.string x]),recovered:=true }::older)/\Same w w'/\w'.heap[b1]?=some (.cells #[.int .i64 7] 30 (0,0))/\
   ∀ b,b<w.heap.size->b≠b1->w'.heap[b]?=w.heap[b]?:=by
 have l1:b1<w.heap.size:=(Array.getElem?_eq_some_iff.1 h1).1
 refine callsD_of_wpS Tryz.func149 rfl fun c₀ cs hu=>?_
 apply wpS_seq
 apply wpS_region
 simp [wpOpsS,go_sem,recoverD,hu,Tryz.ntmps149,Exit.thenS]
 have S:=sl1 (.pointer (some ⟨b1,0,none⟩)) (.iface 275 (.agg #[.string x]))
 refine wpS_of_wp (wp_block (wp_seq (wp_region_list ?_)))
 generalize ({ tmps:=#[Value.pointer (some ⟨b1,0,none⟩)]++(Array.replicate 13 undef).setIfInBounds 4 (Value.iface 275 (.agg #[.string x])),defers:=[] }:Act)=a at S ⊢
 refine Aj S (d:=7) (v:=.bool false) (w':=w) rfl (by decide) rfl ?_ fun a1 S1=>?_
 ·simp [execOp,S.eval,upd,Kg und20,ev_const,eqGuard]
 refine wp_cond_false (by simp [S1.eval,upd]) (wp_seq (wp_region_list ?_))
 refine Aj S1 (d:=8) (v:=.tuple #[.agg #[.string x],.bool true]) (w':=w) rfl (by decide) rfl ?_ fun a2 S2=>?_
 ·simp [execOp,S1.eval,upd,Kh (yok 275 kn133) ⟨_,k133⟩]
 refine Aj S2 (d:=9) (v:=.bool true) (w':=w) rfl (by decide) rfl ?_ fun a3 S3=>?_
 ·simp [execOp,S2.eval,upd,Instr.extract]
 refine Aj S3 (d:=10) (v:=.agg #[.string x]) (w':=w) rfl (by decide) rfl ?_ fun a7 S7=>?_
 ·simp [execOp,S3.eval,upd,Instr.extract]
 refine wp_cond_true (by simp [S7.eval,upd]) (wp_seq (wp_region_list ?_))
 have hal:=fun (o:Oper) (ho:o.op=Op.alloc 275)=>Fj (P:=Tryz.prog) (a:=a7) (w:=w) (o:=o) yok (t:=275) ho kn133
 rw [z133] at hal
 refine Aj S7 (d:=2) rfl (by decide) rfl (hal _ rfl) fun a8 S8=>?_
 obtain ⟨w1,hw1⟩:∃ w1,w.alloc (.cells #[.string (ByteArray.mk #[])] 275 (0,0))=w1:=⟨_,rfl⟩
 have hw1':w.alloc (.cells #[.string (ByteArray.mk #[])] 275)=w1:=hw1
 rw [hw1']
 have g1:Same w w1:=by rw [<-hw1];exact Eo _ _
 have g2:∀ b,b<w.heap.size->w1.heap[b]?=w.heap[b]?:=fun b hb=>by rw [<-hw1];exact Cm _ _ hb
 have g3:w1.heap[w.heap.size]?=some (.cells #[.string (ByteArray.mk #[])] 275 (0,0)):=by rw [<-hw1];exact World.alloc_heap_new w _
 have H:=fun (o:Oper) (ho:o.op=Op.store 275 (.tmp 2) (.tmp 10))=>Cz (P:=Tryz.prog) (a:=a8) (w:=w1) (v:=.agg #[.string x]) (b:=w.heap.size) (o:=o)
  yok (t:=275) ho kn133 (by simp [S8.eval,upd]) (by simp [S8.eval,upd]) (by rw [s133];rfl) (by rw [s133];rfl) (by simp [Value.cells,Value.oneCell']) g3
 obtain ⟨_,r2,r3,r4⟩:=H (stO 275 (.tmp 2) (.tmp 10)) rfl
 refine Cy S8 rfl rfl (H _ rfl).1 fun a9 S9=>?_
 clear H
 generalize w1.setRow w.heap.size (Value.agg #[.string x]).cells=w2 at r2 r3 r4 ⊢
 refine wp_region_list ?_
 have g5:w2.heap[b1]?=some (.cells #[.int .i64 0] 30 (0,0)):=by rw [r4 _ (by omega),g2 _ l1];exact h1
 have H:=fun (o:Oper) (ho:o.op=Op.store 30 (.tmp 0) (.const (.int .i64 7)))=>Cz (P:=Tryz.prog) (a:=a9) (w:=w2) (v:=.int .i64 7) (b:=b1) (o:=o)
  yok (t:=30) ho kn26 (by simp [S9.eval,upd]) rfl (by rw [s26];rfl) (by rw [s26];rfl) (by simp [Value.cells,Value.oneCell']) g5
 obtain ⟨_,t2,t3,t4⟩:=H (stO 30 (.tmp 0) (.const (.int .i64 7))) rfl
 refine Cy S9 rfl rfl (H _ rfl).1 fun a10 S10=>?_
 clear H
 generalize w2.setRow b1 (Value.int .i64 7).cells=w4 at t2 t3 t4 ⊢
 have e3:∀ b,b<w.heap.size->b≠b1->w4.heap[b]?=w.heap[b]?:=fun b hb h1=>by rw [t4 _ h1,r4 _ (by omega),g2 _ hb]
 have e4:Same w w4:=(g1.trans r3).trans t3
 exact ⟨S10.defers,_,rfl,.tuple #[],by simp [results,Tryz.results149],rfl,rfl,e4,t2,e3⟩
theorem catch_text (b1:Nat) (x:ByteArray) (older:List PanicEntry) (w:World) (h1:w.heap[b1]?=some (.cells #[.int .i64 0] 30 (0,0))):
  CallsD Tryz.prog 149 #[.pointer (some ⟨b1,0,none⟩)] (.panicking ({ v:=.iface 276 (.agg #[.string x]),recovered:=false }::older)) w fun e u' w'=>
   e=.returned (.tuple #[])/\u'=.panicking ({ v:=.iface 276 (.agg #[.string x]),recovered:=true }::older)/\Same w w'/\w'.heap[b1]?=some (.cells #[.int .i64 4] 30 (0,0))/\
   ∀ b,b<w.heap.size->b≠b1->w'.heap[b]?=w.heap[b]?:=by
 have l1:b1<w.heap.size:=(Array.getElem?_eq_some_iff.1 h1).1
 refine callsD_of_wpS Tryz.func149 rfl fun c₀ cs hu=>?_
 apply wpS_seq
 apply wpS_region
 simp [wpOpsS,go_sem,recoverD,hu,Tryz.ntmps149,Exit.thenS]
 have S:=sl1 (.pointer (some ⟨b1,0,none⟩)) (.iface 276 (.agg #[.string x]))
 refine wpS_of_wp (wp_block (wp_seq (wp_region_list ?_)))
 generalize ({ tmps:=#[Value.pointer (some ⟨b1,0,none⟩)]++(Array.replicate 13 undef).setIfInBounds 4 (Value.iface 276 (.agg #[.string x])),defers:=[] }:Act)=a at S ⊢
 refine Aj S (d:=7) (v:=.bool false) (w':=w) rfl (by decide) rfl ?_ fun a1 S1=>?_
 ·simp [execOp,S.eval,upd,Kg und20,ev_const,eqGuard]
 refine wp_cond_false (by simp [S1.eval,upd]) (wp_seq (wp_region_list ?_))
 obtain ⟨z,hz⟩:=Uc (Y:=Y) (t:=275) (t':=276) (xt:=20) (v:=.agg #[.string x]) (w:=w) yok ⟨_,k133⟩ (by decide)
 refine Aj S1 (d:=8) (v:=.tuple #[z,.bool false]) (w':=w) rfl (by decide) rfl ?_ fun a2 S2=>?_
 ·simp [execOp,S1.eval,upd,hz]
 refine Aj S2 (d:=9) (v:=.bool false) (w':=w) rfl (by decide) rfl ?_ fun a3 S3=>?_
 ·simp [execOp,S2.eval,upd,Instr.extract]
 refine Aj S3 (d:=10) (v:=z) (w':=w) rfl (by decide) rfl ?_ fun a4 S4=>?_
 ·simp [execOp,S3.eval,upd,Instr.extract]
 refine wp_cond_false (by simp [S4.eval,upd]) (wp_seq (wp_region_list ?_))
 refine Aj S4 (d:=11) (v:=.tuple #[.agg #[.string x],.bool true]) (w':=w) rfl (by decide) rfl ?_ fun a5 S5=>?_
 ·simp [execOp,S4.eval,upd,Kh (yok 276 kn135) ⟨_,k135⟩]
 refine Aj S5 (d:=12) (v:=.bool true) (w':=w) rfl (by decide) rfl ?_ fun a6 S6=>?_
 ·simp [execOp,S5.eval,upd,Instr.extract]
 refine Aj S6 (d:=13) (v:=.agg #[.string x]) (w':=w) rfl (by decide) rfl ?_ fun a7 S7=>?_
 ·simp [execOp,S6.eval,upd,Instr.extract]
 refine wp_cond_true (by simp [S7.eval,upd]) (wp_seq (wp_region_list ?_))
 have hal:=fun (o:Oper) (ho:o.op=Op.alloc 276)=>Fj (P:=Tryz.prog) (a:=a7) (w:=w) (o:=o) yok (t:=276) ho kn135
 rw [z135] at hal
 refine Aj S7 (d:=3) rfl (by decide) rfl (hal _ rfl) fun a8 S8=>?_
 obtain ⟨w1,hw1⟩:∃ w1,w.alloc (.cells #[.string (ByteArray.mk #[])] 276 (0,0))=w1:=⟨_,rfl⟩
 have hw1':w.alloc (.cells #[.string (ByteArray.mk #[])] 276)=w1:=hw1
 rw [hw1']
 have g1:Same w w1:=by rw [<-hw1];exact Eo _ _
 have g2:∀ b,b<w.heap.size->w1.heap[b]?=w.heap[b]?:=fun b hb=>by rw [<-hw1];exact Cm _ _ hb
 have g3:w1.heap[w.heap.size]?=some (.cells #[.string (ByteArray.mk #[])] 276 (0,0)):=by rw [<-hw1];exact World.alloc_heap_new w _
 have H:=fun (o:Oper) (ho:o.op=Op.store 276 (.tmp 3) (.tmp 13))=>Cz (P:=Tryz.prog) (a:=a8) (w:=w1) (v:=.agg #[.string x]) (b:=w.heap.size) (o:=o)
  yok (t:=276) ho kn135 (by simp [S8.eval,upd]) (by simp [S8.eval,upd]) (by rw [s135];rfl) (by rw [s135];rfl) (by simp [Value.cells,Value.oneCell']) g3
 obtain ⟨_,r2,r3,r4⟩:=H (stO 276 (.tmp 3) (.tmp 13)) rfl
 refine Cy S8 rfl rfl (H _ rfl).1 fun a9 S9=>?_
 clear H
 generalize w1.setRow w.heap.size (Value.agg #[.string x]).cells=w2 at r2 r3 r4 ⊢
 refine wp_region_list ?_
 have g5:w2.heap[b1]?=some (.cells #[.int .i64 0] 30 (0,0)):=by rw [r4 _ (by omega),g2 _ l1];exact h1
 have H:=fun (o:Oper) (ho:o.op=Op.store 30 (.tmp 0) (.const (.int .i64 4)))=>Cz (P:=Tryz.prog) (a:=a9) (w:=w2) (v:=.int .i64 4) (b:=b1) (o:=o)
  yok (t:=30) ho kn26 (by simp [S9.eval,upd]) rfl (by rw [s26];rfl) (by rw [s26];rfl) (by simp [Value.cells,Value.oneCell']) g5
 obtain ⟨_,t2,t3,t4⟩:=H (stO 30 (.tmp 0) (.const (.int .i64 4))) rfl
 refine Cy S9 rfl rfl (H _ rfl).1 fun a10 S10=>?_
 clear H
 generalize w2.setRow b1 (Value.int .i64 4).cells=w4 at t2 t3 t4 ⊢
 have e3:∀ b,b<w.heap.size->b≠b1->w4.heap[b]?=w.heap[b]?:=fun b hb h1=>by rw [t4 _ h1,r4 _ (by omega),g2 _ hb]
 have e4:Same w w4:=(g1.trans r3).trans t3
 exact ⟨S10.defers,_,rfl,.tuple #[],by simp [results,Tryz.results149],rfl,rfl,e4,t2,e3⟩
def attV:Ending->Value
 | .panicked [{ v:=.iface 275 _,.. }]=>.int .i64 7
 | .panicked [{ v:=.iface 276 _,.. }]=>.int .i64 4
 |_=>.int .i64 0
def attW (w:World):World:=w.alloc (.cells #[.int .i64 0] 30 (0,0))
structure AttOK (w w':World) (en:Ending):Prop where
 one:w'.heap[w.heap.size]?=some (.cells #[.int .i64 0] 30 (0,0))
 en:en=.returned (.tuple #[])∨(∃ x,en=.panicked [{ v:=.iface 275 (.agg #[.string x]),recovered:=false }])∨∃ s,en=.panicked [{ v:=.iface 276 (.agg #[.string s]),recovered:=false }]
theorem att_results {a:Act} {w:World} {b1:Nat} {x:Value} (h1:a.tmps.getD 2 undef=.pointer (some ⟨b1,0,none⟩))
  (g1:w.heap[b1]?=some (.cells #[x] 30 (0,0))):(results Tryz.f71 a.tmps).run Tryz.prog w=.ok x w:=by
 have l1:=Jr yok (t:=30) (by kernel_rfl) (w:=w) (b:=b1) (off:=0) (u:=x) (by simp [World.cell?,g1])
 have he:Tryz.f71.results.mapM (Aq a.tmps)=List.toArray <$> Tryz.f71.results.toList.mapM (Aq a.tmps):=Array.mapM_eq_mapM_toList ..
 have he2:results Tryz.f71 a.tmps=(Tryz.f71.results.mapM (Aq a.tmps) >>= fun vs=>pure (if h:vs.size=1 then vs[0] else .tuple vs)):=rfl
 have hrun:([ResultVar.cell 2 30].mapM (Aq a.tmps)).run Tryz.prog w=.ok [x] w:=by
  have r1:(Aq a.tmps (.cell 2 30)).run Tryz.prog w=.ok x w:=by simp [Aq,h1,asAddr,l1]
  rw [Gz,r1,Result.andThen_ok]
  simp
 rw [he2,he,Tryz.results71]
 simp only [Sem.run_bind,Sem.run_map,hrun,Result.andThen_ok,Sem.run_pure]
 rfl
theorem attempt_calls (g:FuncId) (hg:Gy Tryz.prog g) (us vs:Array Value) (w:World) (R:Ending->World->Prop) (hcall:Calls Tryz.prog g (us++vs) (attW w) R) (hR:∀ en w',R en w'->AttOK w w' en):
  Calls Tryz.prog 71 #[.func (.func g) us vs] w fun en w''=>∃ en0 w',R en0 w'/\Same w' w''/\(∀ b,b<w'.heap.size->b≠w.heap.size->w''.heap[b]?=w'.heap[b]?)/\(∃ x,w''.heap[w.heap.size]?=some (.cells #[x] 30 (0,0)))/\en=.returned (attV en0):=by
 go_enter_defers Tryz.func71,Tryz.ntmps71
 have S:SL { tmps:=#[Value.func (Fn.func g) us vs,undef,undef,undef,undef,undef],defers:=[] } 6 (fun t=>#[Value.func (Fn.func g) us vs].getD t undef) []:=by
  exact SL.start #[Value.func (Fn.func g) us vs] 6 (Nat.le_of_ble_eq_true rfl)
 generalize ({ tmps:=#[Value.func (Fn.func g) us vs,undef,undef,undef,undef,undef],defers:=[] }:Act)=a at S ⊢
 refine wp_seq (wp_region_list ?_)
 have hal:=fun (o:Oper) (ho:o.op=Op.alloc 30)=>Fj (P:=Tryz.prog) (a:=a) (w:=w) (o:=o) yok (t:=30) ho kn26
 rw [z26] at hal
 refine Aj S (d:=2) rfl (by decide) rfl (hal _ rfl) fun a2 S2=>?_
 show Code.wp Tryz.prog _ _ a2 (attW w)
 generalize hw1:attW w=w1 at hcall ⊢
 refine wp_seq (wp_region_list ?_)
 refine Aj S2 (d:=3) (v:=.func (.func 149) #[] #[.pointer (some ⟨w.heap.size,0,none⟩)]) (w':=w1) rfl (by decide) rfl ?_ fun a3 S3=>?_
 ·simp [execOp,S2.eval,upd,Instr.makeFunc]
 refine Sy S3 (d:={ target:=.fn (.func 149) #[.pointer (some ⟨w.heap.size,0,none⟩)],args:=#[] }) rfl rfl ?_ fun a4 S4=>?_
 ·simp [execOp,resolve,S3.eval,upd,Deferred.ofValue]
 refine wp_seq (wp_region_list ?_)
 refine Aj S4 (d:=4) (v:=.func (.func g) us vs) (w':=w1) rfl (by decide) rfl ?_ fun a5 S5=>?_
 ·simp [execOp,S4.eval,upd]
 have hinv:∀ (p:Value) (w:World),(invoke (.fn (.func 149) #[p]) #[]).run Tryz.prog w=.ok (.enter 149 #[p]) w:=fun p w=>by
  have h2:(Tryz.f149.name== "runtime.NumGoroutine")=false:=by kernel_rfl
  have h3:Tryz.f149.body.isNone=false:=by kernel_rfl
  have h2':Tryz.f149.name≠ "runtime.NumGoroutine":=by simpa using h2
  have h3':Tryz.f149.body≠none:=by intro hh;rw [hh] at h3;cases h3
  simp [invoke,callFunc,Tryz.func149,h2',h3']
 refine Sz S5 (d:=5) (g:=g) (vs:=us++vs) (R:=R) rfl (by decide) rfl ?_ hcall (fun v w2 hr a6 S6=>?_) (fun ch w2 hr=>?_) (fun w2 hr=>?_)
 ·have:=fun (o:Oper) (ho:o.op=Op.call { callee:=Callee.value (Operand.tmp 4),args:=#[],argTypes:=#[] })=>Nv (P:=Tryz.prog) (a:=a5) (w:=w1) (o:=o) ho (by simp [S5.eval,upd]) hg (us:=us) (cvs:=vs)
  simpa using this _ rfl
 ·obtain ⟨c1,c3⟩:=hR _ _ hr
  have l1:w.heap.size<w2.heap.size:=(Array.getElem?_eq_some_iff.1 c1).1
  refine wp_seq (wp_region_list ?_)
  have H:=fun (o:Oper) (ho:o.op=Op.store 30 (.tmp 2) (.const (.int .i64 0)))=>Cz (P:=Tryz.prog) (a:=a6) (w:=w2) (v:=.int .i64 0) (b:=w.heap.size) (o:=o)
   yok (t:=30) ho kn26 (by simp [S6.eval,upd]) rfl (by rw [s26];rfl) (by rw [s26];rfl) (by simp [Value.cells,Value.oneCell']) c1
  obtain ⟨_,t2,t3,t4⟩:=H (stO 30 (.tmp 2) (.const (.int .i64 0))) rfl
  refine Cy S6 rfl rfl (H _ rfl).1 fun a9 S9=>?_
  clear H
  generalize w2.setRow w.heap.size (Value.int .i64 0).cells=w4 at t2 t3 t4 ⊢
  refine wp_ret ?_
  show Leaves Tryz.prog Tryz.f71 a9.tmps _ a9.defers .returning w4
  rw [S9.defers]
  refine leaves_cons (by simp) (hinv _ w4) ((catch_idle _ w4).mono ?_)
  rintro e u' w5 ⟨rfl,rfl,rfl⟩
  have r1:=att_results (a:=a9) (w:=w5) (b1:=w.heap.size) (by rw [S9.get 2 (by decide)];simp [upd]) t2
  refine ⟨_,r1,_,_,hr,t3,fun b hb h1=>t4 _ h1,⟨_,t2⟩,?_⟩
  rcases c3 with h|⟨_,h⟩|⟨_,h⟩<;>cases h
  rfl
 ·obtain ⟨c1,c3⟩:=hR _ _ hr
  have l1:w.heap.size<w2.heap.size:=(Array.getElem?_eq_some_iff.1 c1).1
  show Leaves Tryz.prog Tryz.f71 a5.tmps _ a5.defers (.panicking ch) w2
  rw [S5.defers]
  refine leaves_cons (by simp) (hinv _ w2) ?_
  have e1:a5.tmps.getD 2 undef=.pointer (some ⟨w.heap.size,0,none⟩):=by rw [S5.get 2 (by decide)];simp [upd]
  rcases c3 with h|⟨x,h⟩|⟨s,h⟩
  ·cases h
  ·obtain rfl:ch=[{ v:=.iface 275 (.agg #[.string x]),recovered:=false }]:=Ending.panicked.inj h
   refine (catch_row _ x [] w2 c1).mono ?_
   rintro e u' w5 ⟨rfl,rfl,g1,g2,g4⟩
   have r1:=att_results (a:=a5) (w:=w5) e1 g2
   exact ⟨_,r1,_,_,hr,g1,g4,⟨_,g2⟩,rfl⟩
  ·obtain rfl:ch=[{ v:=.iface 276 (.agg #[.string s]),recovered:=false }]:=Ending.panicked.inj h
   refine (catch_text _ s [] w2 c1).mono ?_
   rintro e u' w5 ⟨rfl,rfl,g1,g2,g4⟩
   have r1:=att_results (a:=a5) (w:=w5) e1 g2
   exact ⟨_,r1,_,_,hr,g1,g4,⟨_,g2⟩,rfl⟩
 ·obtain ⟨_,c3⟩:=hR _ _ hr
  rcases c3 with h|⟨_,h⟩|⟨_,h⟩<;>cases h
variable {Gl:World->Prop}
inductive AttR:Res->Int->Prop
 |ok:AttR (.ret (.tup [])) 0
 |row (x:ByteArray):AttR (.pan (.iface 275 (.agg #[.string x]))) 7
 |text (s:ByteArray):AttR (.pan (.iface 276 (.agg #[.string s]))) 4
theorem attW_size (w:World):(attW w).heap.size=w.heap.size+1:=by simp [attW,World.size_alloc]
theorem attW_lt (w:World) {b:Nat} (h:b<w.heap.size):(attW w).heap[b]?=w.heap[b]?:=by
 unfold attW
 exact Cm _ _ h
theorem attW_same (w:World):Same w (attW w):=Eo _ _
theorem attW_one (w:World):(attW w).heap[w.heap.size]?=some (.cells #[.int .i64 0] 30 (0,0)):=World.alloc_heap_new w _
theorem attW_keep {vis:Nat->Nat} {w:World} (h:∀ b,w.heap.size<=b->vis b=0):KeepV vis w (attW w):=
 ⟨fun b i hi=>World.cell?_of_block (attW_lt w (by
  rcases Nat.lt_or_ge b w.heap.size with hb|hb
  ·exact hb
  ·rw [h b hb] at hi;omega)),fun b hb es c he=>by rw [attW_lt w (Array.getElem?_eq_some_iff.1 he).1];exact he,Mb fun b h=>attW_lt w h⟩
theorem att_ret {base:Nat} {vis:Nat->Nat} {w:World} (e:Int):Fz base vis w (I e) (.int .i64 e):=Rep.v _ rfl
theorem attempt74 (S:Set Tryz.prog Y Gl) {g:FuncId} {fst caps:List T} {r:Res} {ev:Int} (h:CO Gl g (fst++caps) r) (ha:AttR r ev):CO Gl 71 [.fn g fst caps] (.ret (I ev)):=by
 refine ⟨⟨_,Tryz.func71,Ahn,by kernel_rfl⟩,fun vis w vs hvis hgl hargs=>?_⟩
 simp only [Ab,Aa] at hargs
 obtain ⟨v,vs1,hvs,⟨us,cvs,rfl,hu,hc⟩,rfl⟩:=hargs
 obtain rfl:vs=#[.func (.func g) us cvs]:=by rw [<-Array.toArray_toList (xs:=vs),hvs]
 have hb:Below w.heap.size w (attW w):=⟨(attW_same w).os,(attW_same w).tape,(attW_same w).output,(attW_same w).size,fun k hk=>attW_lt w hk⟩
 have hext:Ext (Lo w.heap.size) (Gh0 vis) (Gh0 vis) w (attW w):=⟨fun _=>Nat.le_refl _,attW_keep hvis,fun b hb=>attW_lt w hb⟩
 have hrel:Ab (Gh0 vis) (attW w) (Lo (attW w).heap.size) (fst++caps) (us++cvs).toList:=by
  rw [Array.toList_append]
  exact Ab.weak (fun b hb=>by have:=attW_size w;unfold Lo at hb ⊢;omega) ((Ab.mono hext (fun _ _=>rfl) hu).app (Ab.mono hext (fun _ _=>rfl) hc))
 have hcall:=h.2 vis (attW w) (us++cvs) (fun b hb=>hvis b (by rw [attW_size] at hb;omega)) (S.gl _ _ hgl hb) hrel
 refine (attempt_calls g h.1 us cvs w _ hcall fun en w' ⟨hbe,han⟩=>⟨?_,?_⟩).mono ?_
 ·rw [hbe.block _ (by rw [attW_size];omega)];exact attW_one w
 ·cases ha with
  |ok=>
   obtain ⟨v,vis',rfl,_,_,vs,rfl,hr⟩:=han
   obtain rfl:vs=#[]:=by
    have:=hr.1
    exact Array.eq_empty_of_size_eq_zero (by simpa using this.symm)
   exact .inl rfl
  |row x=>exact .inr (.inl ⟨x,han⟩)
  |text s=>exact .inr (.inr ⟨s,han⟩)
 ·rintro en w2 ⟨en0,w',⟨hbe,han⟩,hs,hh,_,rfl⟩
  have hsz:w.heap.size<=w2.heap.size:=by
   have h1:=hbe.size
   have h2:=hs.size
   rw [attW_size] at h1;omega
  refine ⟨⟨hs.os.trans (hbe.os.trans hb.os),hs.tape.trans (hbe.tape.trans hb.tape),hs.output.trans (hbe.output.trans hb.output),hsz,fun k hk=>?_⟩,_,vis,rfl,fun _ _=>rfl,fun b hb=>hvis b (by omega),?_⟩
  ·have h1:=hbe.size
   rw [attW_size] at h1
   rw [hh k (by omega) (by omega),hbe.block k (by rw [attW_size];omega),attW_lt w hk]
  ·cases ha with
   |ok=>
    obtain ⟨v,vis',rfl,_⟩:=han
    exact att_ret 0
   |row x=>
    have han:en0=_:=han
    subst han
    exact att_ret 7
   |text s=>
    have han:en0=_:=han
    subst han
    exact att_ret 4
theorem attempt74_does {g:FuncId} {fst caps:List T} {r:Res} {ev:Int} {pre post:Env} {yd:Yd} (hpre:En pre=true) (hpost:Hj pre post=true) (h:Does Tryz.prog Y Gl yd g (fst++caps) pre r post) (ha:AttR r ev):Does Tryz.prog Y Gl yd 71 [.fn g fst caps] pre (.ret (I ev)) post:=by
 obtain ⟨p0,p1,p2⟩:=La hpre
 obtain ⟨o1,o2,o3⟩:=Mk hpost
 refine ⟨⟨_,Tryz.func71,Ahn,by kernel_rfl⟩,fun J G w vs hst hgl hyl hfr hH hJ hmem hargs=>?_⟩
 simp only [Ab,Aa] at hargs
 obtain ⟨v,vs1,hvs,⟨us,cvs,rfl,hu,hc⟩,rfl⟩:=hargs
 obtain rfl:vs=#[.func (.func g) us cvs]:=by rw [<-Array.toArray_toList (xs:=vs),hvs]
 have hkv:=attW_keep (w:=w) hfr
 have hext:Ext (fun _=>False) G G w (attW w):=⟨fun _=>Nat.le_refl _,hkv,fun b hb=>hb.elim⟩
 have hrel:Ab G (attW w) (fun _=>False) (fst++caps) (us++cvs).toList:=by
  rw [Array.toList_append]
  exact (Ab.mono hext (fun _ _=>rfl) hu).app (Ab.mono hext (fun _ _=>rfl) hc)
 have hbk:∀ id,pre.get 2 id≠.any->G.bk id<w.heap.size:=fun id hid=>(hmem.box id hid).2.1
 have hJ1:=hst.1 _ _ _ _ _ hJ (fun b hb=>attW_lt w (hH b hb)) hkv (attW_same w)
 have hmem1:Mem Y (fun _=>False) pre (attW w) G:=Mem.keep (Hn hpre) p1 (fun id hid=>attW_lt w (hbk id hid)) hkv (attW_same w) hmem
 have hsz:=attW_size w
 have hused:∀ id,Env.get (Ah post pre) 2 id≠.any->pre.get 2 id≠.any:=fun id hid=>by
  rw [Ee] at hid
  split at hid
  ·rename_i hk
   have:=o2 id hk
   intro hh
   rw [hh] at this
   unfold Ev at this
   split at this<;>first|(rename_i hx;cases hx;done)|cases this
  ·exact hid
 have htok:∀ k,Env.get (Ah post pre) 1 k=.any:=fun k=>by
  rw [Ee,o1 k,if_neg (by decide)];exact p1 k
 have hobj:∀ id,Env.get (Ah post pre) 2 id≠.any->Cq (Env.get (Ah post pre) 2 id)=true:=fun id hid=>by
  rw [Ee] at hid ⊢
  split
  ·rename_i hk
   have:=o2 id hk
   unfold Ev at this
   split at this<;>first|(rename_i hx _;rw [hx];rfl)|(rename_i hx;rw [hx];rfl)|(cases this)
  ·rename_i hk
   rw [if_neg hk] at hid
   exact Hn hpre id hid
 have hcall:=h.2 J G (attW w) (us++cvs) hst hgl hyl (fun b hb=>hfr b (by omega)) (fun b hb=>by have:=hH b hb;omega) hJ1 hmem1 hrel
 refine (attempt_calls g h.1 us cvs w _ hcall fun en w' ⟨h1,h2,h3,h4,h5⟩=>⟨?_,?_⟩).mono ?_
 ·rw [h3 _ (by omega) (fun hh=>by have:=hH _ hh;omega) (fun id hid hh=>by have:=hbk id hid;omega)];exact attW_one w
 ·obtain ⟨G',_,_,_,_,_,_,_,hr⟩:=h5
  cases ha with
  |ok=>
   obtain ⟨v,rfl,vs,rfl,hr⟩:=hr
   obtain rfl:vs=#[]:=by
    have:=hr.1
    exact Array.eq_empty_of_size_eq_zero (by simpa using this.symm)
   exact .inl rfl
  |row x=>exact .inr (.inl ⟨x,hr⟩)
  |text s=>exact .inr (.inr ⟨s,hr⟩)
 ·rintro en w2 ⟨en0,w',⟨h1,h2,h3,h4,h5⟩,hs,hh,⟨x2,hx2⟩,rfl⟩
  have s1:=h1.size
  have s2:=hs.size
  obtain ⟨G',g1,g2,g3,g4,g5,g6,g7,hr⟩:=h5
  have hkeep2:∀ vis:Nat->Nat,(∀ b,w'.heap.size<=b->vis b=0)->vis w.heap.size=0->KeepV vis w' w2:=fun vis v1 v2=>by
   have hv:∀ b,0<vis b->w2.heap[b]?=w'.heap[b]?:=fun b hb=>hh b (by
    rcases Nat.lt_or_ge b w'.heap.size with h|h
    ·exact h
    ·rw [v1 b h] at hb;omega) (fun h=>by rw [h,v2] at hb;omega)
   refine ⟨fun b i hi=>World.cell?_of_block (hv b (by omega)),fun b hb es c he=>by rw [hv b hb];exact he,fun b cs t z hcs=>?_⟩
   by_cases hb:b=w.heap.size
   ·have h9:=h3 w.heap.size (by omega) (fun hh=>by have:=hH _ hh;omega) (fun id hid hh=>by have:=hbk id hid;omega)
    rw [hb,h9,attW_one w] at hcs
    obtain ⟨rfl,rfl,rfl⟩:=Obj.cells.inj (Option.some.inj hcs)
    rw [hb]
    exact ⟨_,_,_,hx2,Nat.le_refl _⟩
   ·exact ⟨cs,t,z,(hh b (Array.getElem?_eq_some_iff.1 hcs).1 hb).trans hcs,Nat.le_refl _⟩
  have hH':∀ b,G'.H b->w2.heap[b]?=w'.heap[b]?:=fun b hb=>by
   refine hh b (g5 b hb) (fun he=>?_)
   have:=hH b ((g4 b (by omega)).1 hb);omega
  have v1:G'.vis w.heap.size=0:=by rw [g2 _ (by omega)];exact hfr _ (by omega)
  refine ⟨((attW_same w).trans h1).trans hs,(hkv.trans h2).trans (hkeep2 G.vis (fun b hb=>hfr b (by omega)) (hfr _ (by omega))),fun b hb hn hno=>?_,fun id k hl hk=>?_,G',g1,fun b hb=>g2 b (by omega),fun b hb=>g3 b (by omega),
   fun b hb=>g4 b (by omega),fun b hb=>by have:=g5 b hb;omega,hst.1 _ _ _ _ _ g6 hH' (hkeep2 G'.vis g3 v1) hs,Mem.keep hobj htok (fun id hid=>?_) (hkeep2 G'.vis g3 v1) hs g7,?_⟩
  ·rw [hh b (by omega) (by omega),h3 b (by omega) hn hno,attW_lt w hb]
  ·have hid:pre.get 2 id≠.any:=by rw [hl];exact Bh
   have hlt:=hbk id hid
   rw [World.cell?_of_block (show w2.heap[G.bk id]?=w'.heap[G.bk id]? from hh _ (by omega) (by omega)),h4 id k hl hk,World.cell?_of_block (show (attW w).heap[G.bk id]?=w.heap[G.bk id]? from attW_lt w hlt)]
  ·have hlt:=hbk id (hused id hid)
   rw [g1]
   exact hh _ (by omega) (by omega)
  ·cases ha with
   |ok=>
    obtain ⟨v,rfl,_⟩:=hr
    exact ⟨_,rfl,att_ret 0⟩
   |row x=>
    have hr:en0=_:=hr
    subst hr
    exact ⟨_,rfl,att_ret 7⟩
   |text s=>
    have hr:en0=_:=hr
    subst hr
    exact ⟨_,rfl,att_ret 4⟩
theorem Nc {Gl} (S:SP Gl) (w:ByteArray):CO Gl 74 [B true,Str w] (.ret (.tup [])):=by
 refine An S (.ff .nil) Tryz.func74 (by kernel_rfl) (false=false/\True) (by kernel_rfl) ?_
 exact ⟨rfl,trivial⟩
theorem needF {Gl} (S:SP Gl) (w:ByteArray):CO Gl 74 [B false,Str w] (.pan (.iface 275 (.agg #[.string w]))):=by
 refine An S (.tt .nil) Tryz.func74 (by kernel_rfl) (true=true/\Value.iface (275:Nat) (Value.agg (Array.mk [Value.string w]))=Value.iface (275:Nat) (Value.agg (Array.mk [Value.string w]))) (by kernel_rfl) ?_
 exact ⟨rfl,rfl⟩
def kC:List C:=[.u,Ci 0,.u,Ci 1,.u,Ci 4,.u,Ci 3,.u,Ci 2,.u,Ci 2,.u,Ci 7,.u,Ci 2,.u,Ci 3,.u,Ci 3,.u,Ci 0]
theorem Rb {Gl} (S:SP Gl)  :CO Gl 148 [] (.ret (.d (.agg kC))):=by
 refine An S (.nil) Tryz.func148 (by kernel_rfl) ((0:Int)=0/\(1:Int)=1/\(4:Int)=4/\(3:Int)=3/\(2:Int)=2/\(2:Int)=2/\(7:Int)=7/\(2:Int)=2/\(3:Int)=3/\(3:Int)=3/\(0:Int)=0) (by kernel_rfl) ?_
 exact ⟨rfl,rfl,rfl,rfl,rfl,rfl,rfl,rfl,rfl,rfl,rfl⟩
theorem Awe {Gl} (S:SP Gl) (l:List Int) (h1:1<=l.length) (h2:l.length<=1) (h3:∀ i,i<l.length->inR (nth l i) (-99999) 99999=true):CO Gl 68 [.d (.agg [Ci 1,.l eI l])] (.ret (B true)):=by
 refine Ao S (let A0:=(l.length:Int);((.r (.ret (B (inR (1:Int) (1:Int) (10:Int)))) (.ff (.r (.ret (T.d (D.agg kC))) (.r (.ret (T.d (D.agg kC))) (.sure 25 (.sure 26 (.sure 27 (.ff (.loop l.length (fun k=>v 35 (I k)::v 34 (I l.length)::v 33 (L eI l)::v 3 (I 1)::v 4 (I 1)::v 1 (ad 1)::bx 1 [Ci 1,C.l eI l]) fun k0=>.br (.val 40 true (.r (.ret (B (inR (nth l k0) (-99999:Int) (99999:Int)))) (.ff .nil))) (.r (.ret (B (inR A0 (1:Int) (1:Int)))) .nil)))))))))),(CO Gl 143 [I 1,I 1,I 10] (.ret (B (inR (1:Int) (1:Int) (10:Int))))/\false=false/\CO Gl 148 [] (.ret (T.d (D.agg kC)))/\((0:Int)<=1/\1<(↑(11:Nat):Int))/\CO Gl 148 [] (.ret (T.d (D.agg kC)))/\((0:Int)<=1/\1<(↑(11:Nat):Int))/\true=true/\true=true/\true=true/\false=false/\(l.length<=maxLen->(0=(↑(0:Nat):Int)/\A0=A0/\(sR eI l)/\(1:Int)=1/\(1:Int)=1/\(1:Int)=1/\sR eI l)/\∀ (k0:Nat),k0<=l.length->(decide ((k0:Int)<(l.length:Int))=true->(0<=(k0:Int)/\(k0:Int)<A0)/\inR (nth l k0) (-99999:Int) (99999:Int)=true/\CO Gl 143 [I (nth l k0),I (-99999:Int),I 99999] (.ret (B (inR (nth l k0) (-99999:Int) (99999:Int))))/\false=false/\iR ((k0:Int)+1)/\k0<l.length/\(k0:Int)+1=(↑(k0+1):Int)/\A0=A0/\(sR eI l)/\(1:Int)=1/\(1:Int)=1/\(1:Int)=1/\sR eI l)/\(decide ((k0:Int)<(l.length:Int))=false->l.length<=maxLen->CO Gl 143 [I l.length,I 1,I 1] (.ret (B (inR A0 (1:Int) (1:Int))))/\inR A0 (1:Int) (1:Int)=true))))) Tryz.func68 (by kernel_rfl) (by kernel_rfl) ?_
 simp only [stdS,imp_self,implies_true,and_true,decide_eq_true_eq,decide_eq_false_iff_not,Af,Bi]
 exact ⟨Jh S _ _ _,Rb S,by omega,Rb S,by omega,fun _ k hk=>⟨fun hl=>⟨by omega,h3 k (by omega),Jh S _ _ _,by omega,by omega,by omega,trivial⟩,fun _ _=>⟨Jh S _ _ _,Bo.2 (by omega)⟩⟩⟩
theorem Awf {Gl} (S:SP Gl) (l:List Int) (h1:4<=l.length) (h2:l.length<=4) (h3:∀ i,i<l.length->inR (nth l i) (-99999) 99999=true):CO Gl 68 [.d (.agg [Ci 2,.l eI l])] (.ret (B true)):=by
 refine Ao S (let A0:=(l.length:Int);((.r (.ret (B (inR (2:Int) (1:Int) (10:Int)))) (.ff (.r (.ret (T.d (D.agg kC))) (.r (.ret (T.d (D.agg kC))) (.sure 25 (.sure 26 (.sure 27 (.ff (.loop l.length (fun k=>v 35 (I k)::v 34 (I l.length)::v 33 (L eI l)::v 3 (I 4)::v 4 (I 4)::v 1 (ad 1)::bx 1 [Ci 2,C.l eI l]) fun k0=>.br (.val 40 true (.r (.ret (B (inR (nth l k0) (-99999:Int) (99999:Int)))) (.ff .nil))) (.r (.ret (B (inR A0 (4:Int) (4:Int)))) .nil)))))))))),(CO Gl 143 [I 2,I 1,I 10] (.ret (B (inR (2:Int) (1:Int) (10:Int))))/\false=false/\CO Gl 148 [] (.ret (T.d (D.agg kC)))/\((0:Int)<=2/\2<(↑(11:Nat):Int))/\CO Gl 148 [] (.ret (T.d (D.agg kC)))/\((0:Int)<=2/\2<(↑(11:Nat):Int))/\true=true/\true=true/\true=true/\false=false/\(l.length<=maxLen->(0=(↑(0:Nat):Int)/\A0=A0/\(sR eI l)/\(4:Int)=4/\(4:Int)=4/\(2:Int)=2/\sR eI l)/\∀ (k0:Nat),k0<=l.length->(decide ((k0:Int)<(l.length:Int))=true->(0<=(k0:Int)/\(k0:Int)<A0)/\inR (nth l k0) (-99999:Int) (99999:Int)=true/\CO Gl 143 [I (nth l k0),I (-99999:Int),I 99999] (.ret (B (inR (nth l k0) (-99999:Int) (99999:Int))))/\false=false/\iR ((k0:Int)+1)/\k0<l.length/\(k0:Int)+1=(↑(k0+1):Int)/\A0=A0/\(sR eI l)/\(4:Int)=4/\(4:Int)=4/\(2:Int)=2/\sR eI l)/\(decide ((k0:Int)<(l.length:Int))=false->l.length<=maxLen->CO Gl 143 [I l.length,I 4,I 4] (.ret (B (inR A0 (4:Int) (4:Int))))/\inR A0 (4:Int) (4:Int)=true))))) Tryz.func68 (by kernel_rfl) (by kernel_rfl) ?_
 simp only [stdS,imp_self,implies_true,and_true,decide_eq_true_eq,decide_eq_false_iff_not,Af,Bi]
 exact ⟨Jh S _ _ _,Rb S,by omega,Rb S,by omega,fun _ k hk=>⟨fun hl=>⟨by omega,h3 k (by omega),Jh S _ _ _,by omega,by omega,by omega,trivial⟩,fun _ _=>⟨Jh S _ _ _,Bo.2 (by omega)⟩⟩⟩
theorem Awg {Gl} (S:SP Gl) (l:List Int) (h1:3<=l.length) (h2:l.length<=8) (h3:∀ i,i<l.length->inR (nth l i) (-99999) 99999=true):CO Gl 68 [.d (.agg [Ci 3,.l eI l])] (.ret (B true)):=by
 refine Ao S (let A0:=(l.length:Int);((.r (.ret (B (inR (3:Int) (1:Int) (10:Int)))) (.ff (.r (.ret (T.d (D.agg kC))) (.r (.ret (T.d (D.agg kC))) (.skip (25:Nat) (.skip (26:Nat) (.skip (27:Nat) (.tt (.loop l.length (fun k=>v 35 (I k)::v 34 (I l.length)::v 33 (L eI l)::v 3 (I 3)::v 4 (I 8)::v 1 (ad 1)::bx 1 [Ci 3,C.l eI l]) fun k0=>.br (.val 40 true (.r (.ret (B (inR (nth l k0) (-99999:Int) (99999:Int)))) (.ff .nil))) (.r (.ret (B (inR A0 (3:Int) (8:Int)))) .nil)))))))))),(CO Gl 143 [I 3,I 1,I 10] (.ret (B (inR (3:Int) (1:Int) (10:Int))))/\false=false/\CO Gl 148 [] (.ret (T.d (D.agg kC)))/\((0:Int)<=3/\3<(↑(11:Nat):Int))/\CO Gl 148 [] (.ret (T.d (D.agg kC)))/\((0:Int)<=3/\3<(↑(11:Nat):Int))/\false=false/\false=false/\false=false/\(true=false->false=true)/\true=true/\iR ((3:Int)+6)/\iR ((3:Int)+6-(1:Int))/\(l.length<=maxLen->(0=(↑(0:Nat):Int)/\A0=A0/\(sR eI l)/\(3:Int)=3/\(3:Int)+6-(1:Int)=8/\(3:Int)=3/\sR eI l)/\∀ (k0:Nat),k0<=l.length->(decide ((k0:Int)<(l.length:Int))=true->(0<=(k0:Int)/\(k0:Int)<A0)/\inR (nth l k0) (-99999:Int) (99999:Int)=true/\CO Gl 143 [I (nth l k0),I (-99999:Int),I 99999] (.ret (B (inR (nth l k0) (-99999:Int) (99999:Int))))/\false=false/\iR ((k0:Int)+1)/\k0<l.length/\(k0:Int)+1=(↑(k0+1):Int)/\A0=A0/\(sR eI l)/\(3:Int)=3/\(8:Int)=8/\(3:Int)=3/\sR eI l)/\(decide ((k0:Int)<(l.length:Int))=false->l.length<=maxLen->CO Gl 143 [I l.length,I 3,I 8] (.ret (B (inR A0 (3:Int) (8:Int))))/\inR A0 (3:Int) (8:Int)=true))))) Tryz.func68 (by kernel_rfl) (by kernel_rfl) ?_
 simp only [stdS,imp_self,implies_true,and_true,decide_eq_true_eq,decide_eq_false_iff_not,Af,Bi]
 exact ⟨Jh S _ _ _,Rb S,by omega,Rb S,by omega,fun h=>(by cases h),by omega,by omega,fun _=>⟨⟨by omega,trivial⟩,fun k hk=>⟨fun hl=>⟨by omega,h3 k (by omega),Jh S _ _ _,by omega,by omega,by omega,trivial⟩,fun _ _=>⟨Jh S _ _ _,Bo.2 (by omega)⟩⟩⟩⟩
def Aky (n:Int):C:=.v (.iface 282 (.agg #[.int .i64 n]))
def Akz (n a b c:Int):C:=.v (.iface 284 (.agg #[.int .i64 n,.int .i64 a,.int .i64 b,.int .i64 c]))
def Lr (n h:Int) (m:List Int):C:=.i 289 true [Ci n,Ci h,.l eI m]
theorem Al0 {Gl} (S:SP Gl) (n:Int) (l:List Int) (h:l=[n]):CO Gl 76 [.d (.agg [Ci 1,.l eI l])] (.ret (.d (.c (Aky n)))):=by
 refine An S (.tt .nil) Tryz.func76 (by kernel_rfl) (true=true/\((0:Int)<=0/\0<(l.length:Int))/\Value.iface (282:Nat) (Value.agg (Array.mk [Value.int IntKind.i64 (nth l (Int.toNat (0:Int)))]))=Value.iface (282:Nat) (Value.agg (Array.mk [Value.int IntKind.i64 n]))) (by kernel_rfl) ?_
 subst h
 exact ⟨rfl,by simp,rfl⟩
theorem Zg {Gl} (S:SP Gl) (n a b c:Int) (l:List Int) (h:l=[n,a,b,c]):CO Gl 76 [.d (.agg [Ci 2,.l eI l])] (.ret (.d (.c (Akz n a b c)))):=by
 refine An S (.ff (.tt .nil)) Tryz.func76 (by kernel_rfl) (false=false/\true=true/\((0:Int)<=0/\0<(l.length:Int))/\((0:Int)<=1/\1<(l.length:Int))/\((0:Int)<=2/\2<(l.length:Int))/\((0:Int)<=3/\3<(l.length:Int))/\Value.iface (284:Nat) (Value.agg (Array.mk [Value.int IntKind.i64 (nth l (Int.toNat (0:Int))),Value.int IntKind.i64 (nth l (Int.toNat (1:Int))),Value.int IntKind.i64 (nth l (Int.toNat (2:Int))),Value.int IntKind.i64 (nth l (Int.toNat (3:Int)))]))=Value.iface (284:Nat) (Value.agg (Array.mk [Value.int IntKind.i64 n,Value.int IntKind.i64 a,Value.int IntKind.i64 b,Value.int IntKind.i64 c]))) (by kernel_rfl) ?_
 subst h
 simp only [stdS,imp_self,implies_true,and_true]
 exact ⟨by simp,by simp,by simp,by simp,rfl⟩
theorem Al1 {Gl} (S:SP Gl) (n h:Int) (m l:List Int) (hl:l=n::h::m):CO Gl 76 [.d (.agg [Ci 3,.l eI l])] (.ret (.d (.c (Lr n h m)))):=by
 refine Ao S (let A0:=(l.length:Int);((.ff (.ff (.tt .nil))),(false=false/\false=false/\true=true/\((0:Int)<=0/\0<A0)/\((0:Int)<=1/\1<A0)/\((0:Int)<=2/\2<=A0/\A0<=A0)/\Hh [C.v (Value.int IntKind.i64 (nth l (Int.toNat (0:Int)))),C.v (Value.int IntKind.i64 (nth l (Int.toNat (1:Int)))),C.s Tag.n (Int.toNat (A0-2)) fun i=>eI (nth l (Int.toNat (2:Int)+i))] [Ci n,Ci h,C.l eI m]))) Tryz.func76 (by kernel_rfl) (by kernel_rfl) ?_
 dsimp only
 subst hl
 simp only [stdS,imp_self,implies_true,and_true,List.length_cons]
 refine ⟨by omega,by omega,by omega,.inl rfl,.inl rfl,.inr (.inr ⟨_,_,_,_,_,_,rfl,rfl,by omega,fun i _=>?_⟩),trivial⟩
 show eI (nth (n::h::m) (Int.toNat 2+i))=eI (nth m i)
 rw [show Int.toNat 2+i=i+1+1 by simp;omega]
 rfl
theorem Awh {Gl} (S:SP Gl) (n:Int) (l:List Int):Does Tryz.prog Y Gl yd0 239 [.addr FAR 0,I n] [(2,FAR,live),(FAR+3,5,L eI l)] (.ret (B (inR n 0 ((l.length:Int) - 1)))) []:=by
 refine Qf S (.r (.ret (B (inR n (0:Int) ((l.length:Int)-1)))) .nil) Tryz.func239 (by kernel_rfl) (l.length<=maxLen->iR ((l.length:Int)-1)/\CO Gl 143 [I n,I 0,I ((l.length:Int)-1)] (.ret (B (inR n (0:Int) ((l.length:Int)-1))))/\inR n (0:Int) ((l.length:Int)-1)=inR n (0:Int) ((l.length:Int)-1)/\sR eI l) (by kernel_rfl) ?_
 simp only [stdS,imp_self,implies_true,and_true,Af,Bi]
 exact fun _=>⟨by omega,Jh S _ _ _,trivial⟩
theorem Al2 {Gl} (S:SP Gl) (r:Int) (l:List Int) (h1:1<=l.length) (h2:0<=r/\r<=12):Does Tryz.prog Y Gl yd0 241 [.addr FAR 0] [(2,FAR,live),(FAR+3,1,I r),(FAR+3,5,L eI l)] (.ret (I (r.tdiv l.length))) []:=by
 refine Qf S (.nil) Tryz.func241 (by kernel_rfl) (l.length<=maxLen->((l.length:Int)≠(0:Int)/\iR (Int.tdiv r (l.length:Int)))/\Int.tdiv r (l.length:Int)=Int.tdiv r (l.length:Int)/\r=r/\sR eI l) (by kernel_rfl) ?_
 simp only [stdS,imp_self,implies_true,and_true,Af,Bi]
 have:=Int.natAbs_tdiv_le_natAbs r l.length
 exact fun _=>⟨by omega,trivial⟩
theorem Zh {s:St} {n:Int} (h:tkD s [n]=false):s.tk n=none:=by
 cases hx:s.tk n with
 |none=>rfl
 |some g=>simp [tkD,hx] at h
theorem Awi {Gl} (S:SP Gl) (s:St) (sheet hand:Int) (h:tkD s [sheet]=true) (h2:(((s.tk sheet).getD ⟨0,0,0,0⟩).one==hand)=true):Does Tryz.prog Y Gl yd0 154 [.addr FAR 0,I sheet,I hand] [(2,FAR,live),(FAR+3,17,.mp (FAR+1)),(2,FAR+1,mTk s)] (.ret (B true)) []:=by
 refine Ef S (let A0:=(Option.getD (s.3 sheet) (Gvn.mk (0:Int) (0:Int) (0:Int) (0:Int)));let A1:=(Value.int IntKind.i64 (0:Int));((.val 17 true (.sure 20 (.sure 21 (.sure 22 (.sure 23 (.val 24 true (.sure 24 (.sure 25 (.skip (26:Nat) (.skip (27:Nat) (.skip (28:Nat) (.skip (29:Nat) (.skip (30:Nat) (.sure 31 .nil)))))))))))))),((tkD s [sheet]=false->[C.v (Value.int IntKind.i64 A0.1),C.v (Value.int IntKind.i64 A0.2),C.v (Value.int IntKind.i64 A0.3),C.v (Value.int IntKind.i64 A0.4)]=[C.v A1,C.v A1,C.v A1,C.v A1])/\tkD s [sheet]=true/\true=true/\true=true/\true=true/\true=true/\(A0.1==hand)=true/\true=true/\true=true/\false=false/\false=false/\false=false/\false=false/\false=false/\true=true/\(true=false->false=true)/\true=true/\MEq (tkD s) (tkV s) (tkD s) (tkV s)))) Tryz.func154 (by kernel_rfl) (by kernel_rfl) ?_
 dsimp only
 exact ⟨fun h=>by rw [Zh h];rfl,h,rfl,rfl,rfl,rfl,h2,rfl,rfl,rfl,rfl,rfl,rfl,rfl,rfl,fun h=>(by cases h),rfl,Bt⟩
def Hv (s:St) (n a b c:Int):St:={ s with tk:=fun x=>bif x==n then some ⟨a,b,c,s.day⟩ else s.tk x }
def bk1 (b:Gv.Book) (n:Int):Gv.Book:={ b with sheets:=[nth b.sheets n.toNat] }
theorem whyR {Gl} (S:SP Gl) (b:Gv.Book) (x:Int) (t:Gv.Task) (n m:Nat) (f g:Nat->List C) (hw:Gv.whyErr (bk1 b x) [t]=5) (h1:SEq n f 1 fun i=>eI (nth [nth b.sheets x.toNat] i)) (h2:SEq m g 1 fun i=>Gv.eTask (nth [t] i)):
  CO Gl 240 [.d (.agg [.l Gv.eComp b.comps,.l eI b.dues,.s .n n f]),.d (.c (.s .n m g))] (.ret (.tup [.c (Ci (Gv.whyS (bk1 b x) [t])),.c (Ci (Gv.whyF (bk1 b x) [t])),.c (Ci 5)])):=by
 have h:=Gv.why23 S (bk1 b x) [t]
 rw [hw] at h
 exact h.args ⟨Bn rfl,Bn rfl,h1,h2⟩
theorem Awj {s:St} {n a b c:Int}:MEq (Ca (tkD s) [n]) (Dl (tkV s) [n] (List.map C.dem [Ci a,Ci b,Ci c,Ci s.day])) (tkD (Hv s n a b c)) (tkV (Hv s n a b c)):=by
 have hd:∀ x,tkD (Hv s n a b c) [x]=(x==n||tkD s [x]):=fun x=>by
  show (bif x==n then some (Gvn.mk a b c s.day) else s.tk x).isSome=(x==n||(s.tk x).isSome)
  cases x==n<;>rfl
 have hv:∀ x,x≠n->tkV (Hv s n a b c) [x]=tkV s [x]:=fun x h=>by
  unfold tkV Hv
  simp only [beq_eq_false_iff_ne.2 h,cond_false]
 have hn:tkV (Hv s n a b c) [n]=[Ci a,Ci b,Ci c,Ci s.day]:=by
  unfold tkV Hv
  simp only [beq_self_eq_true,cond_true,Option.getD_some]
  rfl
 refine fun k=>⟨?_,fun h=>.inl ?_⟩
 ·rw [Bool.eq_iff_iff,Gw]
  match k with
  | [x]=>rw [hd];simp
  | []=>simp [tkD]
  |_::_::_=>simp [tkD]
 ·rw [Nu]
  rw [Gw] at h
  by_cases hk:k=[n]
  ·rw [if_pos hk,hk,hn];rfl
  ·rw [if_neg hk]
   have h:=h.resolve_left hk
   match k,hk,h with
   | [x],hk,_=>exact (hv x fun e=>hk (by rw [e])).symm
   | [],_,h=>simp [tkD] at h
   |_::_::_,_,h=>simp [tkD] at h
theorem Awk {Gl} (S:SP Gl) (s:St) (n a b c:Int) (h0:tkD s [n]=false) (h1:inR n 0 ((s.su.b.sheets.length:Int) - 1)=true) (h2:s.su.b.sheets.length<=3) (hw:Gv.whyErr (bk1 s.su.b n) [⟨a,b,c⟩]=5):Does Tryz.prog Y Gl yd0 152 [.addr FAR 0,.d (.agg [Ci n,Ci a,Ci b,Ci c])] [(2,FAR,live),(FAR+3,3,.d (.c (.l Gv.eComp s.su.b.comps))),(FAR+3,4,L eI s.su.b.dues),(FAR+3,5,L eI s.su.b.sheets),(FAR+3,16,I s.day),(FAR+3,17,.mp (FAR+1)),(2,FAR+1,mTk s)] (.ret (.tup [])) [(2,FAR+1,mTk (Hv s n a b c))]:=by
 refine Ef S (let A0:=(Option.getD (s.3 n) (Gvn.mk (0:Int) (0:Int) (0:Int) (0:Int)));let A1:=[D.c (Ci (Gv.whyS (bk1 (Su.b (St.su s)) n) [Gv.Task.mk a b c])),D.c (Ci (Gv.whyF (bk1 (Su.b (St.su s)) n) [Gv.Task.mk a b c])),D.c (Ci 5)];let A2:=(Gv.Book.sheets (Su.b (St.su s)));let A3:=(Value.int IntKind.i64 (0:Int));let A4:=(B (inR n (0:Int) ((↑(List.length A2):Int)-1)));((.val 19 false (.val 23 true (.w [(nat_lit 100000,nat_lit 100000)] [T.addr FAR (0:Nat),I n] [((2:Nat),FAR,live),(FAR+(3:Nat),(5:Nat),L eI A2)] (.ret A4) [] (.sure 25 (.sure 26 (.r (.ret (.tup [])) (.r (.ret (.tup A1)) (.r (.ret (.tup [])) .nil)))))))),((tkD s [n]=false->[C.v (Value.int IntKind.i64 A0.1),C.v (Value.int IntKind.i64 A0.2),C.v (Value.int IntKind.i64 A0.3),C.v (Value.int IntKind.i64 A0.4)]=[C.v A3,C.v A3,C.v A3,C.v A3])/\tkD s [n]=false/\inR n (0:Int) ((s.1.2.3.length:Int)-1)=true/\n=n/\(sR eI s.1.2.3)/\Does Tryz.prog Y Gl yd0 (239:FuncId) [T.addr FAR (0:Nat),I n] [((2:Nat),FAR,live),(FAR+(3:Nat),(5:Nat),L eI A2)] (.ret A4) []/\true=true/\true=true/\CO Gl 74 [B true,Str (ByteArray.mk #[(115:UInt8),(104:UInt8),(101:UInt8),(101:UInt8),(116:UInt8)])] (.ret (.tup []))/\iR (n+(1:Int))/\((0:Int)<=n/\n<=n+(1:Int)/\n+1<=(s.1.2.3.length:Int))/\CO Gl 240 [T.d (D.agg [C.l Gv.eComp (Gv.Book.comps (Su.b (St.su s))),C.l eI (Gv.Book.dues (Su.b (St.su s))),C.s Tag.n (Int.toNat (n+(1:Int)-n)) fun i=>eI (nth s.1.2.3 (Int.toNat n+i))]),T.d (D.c (C.s Tag.n (1:Nat) fun i=>List.getD [List.map C.dem (List.map C.dem [C.v (Value.int IntKind.i64 a),C.v (Value.int IntKind.i64 b),C.v (Value.int IntKind.i64 c)])] i []))] (.ret (.tup A1))/\CO Gl 74 [B true,Str (ByteArray.mk #[(116:UInt8),(97:UInt8),(115:UInt8),(107:UInt8)])] (.ret (.tup []))/\True/\MEq (Ca (tkD s) [n]) (Dl (tkV s) [n] (List.map C.dem [C.v (Value.int IntKind.i64 a),C.v (Value.int IntKind.i64 b),C.v (Value.int IntKind.i64 c),C.v (Value.int IntKind.i64 s.2)])) (tkD (Hv s n a b c)) (tkV (Hv s n a b c))/\(SEq s.1.2.1.length (fun i=>Gv.eComp (nth s.1.2.1 i)) s.1.2.1.length fun i=>Gv.eComp (nth s.1.2.1 i))/\(sR eI s.1.2.2)/\(sR eI s.1.2.3)/\s.2=s.2))) Tryz.func152 (by kernel_rfl) (by kernel_rfl) ?_
 have hr:=Bo.1 h1
 simp only [stdS,imp_self,implies_true,and_true,Af]
 refine ⟨fun h=>by rw [Zh h];rfl,h0,h1,Awh S _ _,Nc S _,by omega,by omega,whyR S _ _ _ _ _ _ _ hw (.of ⟨by omega,fun i hi=>?_⟩) (.of ⟨rfl,fun i hi=>?_⟩),Nc S _,Awj,trivial⟩
 ·have:i=0:=by omega
  subst this;rfl
 ·have:i=0:=by omega
  subst this;rfl
def Up (s:St) (n:Int):St:={ s with day:=s.day+n }
theorem Awl {Gl} (S:SP Gl) (s:St) (n a b c:Int) (h0:tkD s [n]=false) (h1:inR n 0 ((s.su.b.sheets.length:Int) - 1)=true) (h2:s.su.b.sheets.length<=3) (hw:Gv.whyErr (bk1 s.su.b n) [⟨a,b,c⟩]=5):Does Tryz.prog Y Gl yd0 75 [.addr FAR 0,.d (.c (Akz n a b c))] (stB FAR (FAR+1) s) (.ret (.tup [])) (stB FAR (FAR+1) (Hv s n a b c)):=by
 refine Ef S (let A0:=(Hv s n a b c);let A1:=(SEq s.1.2.1.length (fun i=>Gv.eComp (nth s.1.2.1 i)) s.1.2.1.length fun i=>Gv.eComp (nth s.1.2.1 i));let A2:=(FAR+(3:Nat),(3:Nat),T.d (D.c (C.l Gv.eComp (Gv.Book.comps (Su.b (St.su s))))));let A3:=(FAR+(3:Nat),(5:Nat),L eI (Gv.Book.sheets (Su.b (St.su s))));let A4:=(FAR+(3:Nat),(4:Nat),L eI (Gv.Book.dues (Su.b (St.su s))));let A5:=[T.addr FAR (0:Nat),T.d (D.agg [Ci n,Ci a,Ci b,Ci c])];((.ff (.tt (.w [(nat_lit 100000,nat_lit 100000),(nat_lit 100001,nat_lit 100001)] A5 [((2:Nat),FAR,live),A2,A4,A3,(FAR+(3:Nat),(16:Nat),I (St.day s)),(FAR+(3:Nat),(17:Nat),T.mp (FAR+1)),((2:Nat),FAR+(1:Nat),mTk s)] (.ret (.tup [])) [((2:Nat),FAR+(1:Nat),mTk A0)] .nil))),(false=false/\true=true/\n=n/\a=a/\b=b/\c=c/\A1/\(sR eI s.1.2.2)/\(sR eI s.1.2.3)/\s.2=s.2/\MEq (tkD s) (tkV s) (tkD s) (tkV s)/\Does Tryz.prog Y Gl yd0 (152:FuncId) A5 [((2:Nat),FAR,live),A2,A4,A3,(FAR+(3:Nat),(16:Nat),I (St.day s)),(FAR+(3:Nat),(17:Nat),T.mp (FAR+1)),((2:Nat),FAR+(1:Nat),mTk s)] (.ret (.tup [])) [((2:Nat),FAR+(1:Nat),mTk A0)]/\True/\(sR Ad s.1.1.1)/\s.1.1.2=s.1.1.2/\s.1.1.3=s.1.1.3/\A1/\(sR eI s.1.2.2)/\(sR eI s.1.2.3)/\s.1.3=s.1.3/\s.1.4=s.1.4/\(sR eCp s.1.5)/\s.1.6.1=s.1.6.1/\s.1.6.2=s.1.6.2/\s.1.6.3=s.1.6.3/\s.1.6.4=s.1.6.4/\s.1.6.5=s.1.6.5/\s.1.6.6=s.1.6.6/\(SEq s.1.6.7.length (fun i=>Py.eLine (nth s.1.6.7 i)) s.1.6.7.length fun i=>Py.eLine (nth s.1.6.7 i))/\s.2=s.2/\MEq (tkD A0) (tkV A0) (tkD A0) (tkV A0)/\MEq (coD s) (coV s) (coD A0) (coV A0)/\MEq (riD s) (riV s) (riD A0) (riV A0)/\MEq (paD s) (paV s) (paD A0) (paV A0)))) Tryz.func75 (by kernel_rfl) (by kernel_rfl) ?_
 simp only [stdS,imp_self,implies_true,and_true]
 exact ⟨Bt,Awk S s n a b c h0 h1 h2 hw,Bt,Bt,Bt,Bt⟩
theorem Awm {Gl} (S:SP Gl) (s:St) (n:Int) (h1:1<=n) (h2:s.day+n<=99) (h3:0<=s.day):Does Tryz.prog Y Gl yd0 75 [.addr FAR 0,.d (.c (Aky n))] (stB FAR (FAR+1) s) (.ret (.tup [])) (stB FAR (FAR+1) (Up s n)):=by
 refine Ef S (let A0:=(Up s n);((.tt (.val 24 true (.sure 26 (.sure 27 (.sure 28 (.sure 29 (.sure 30 (.sure 31 (.sure 32 (.val 33 true (.sure 33 (.r (.ret (.tup [])) .nil)))))))))))),(true=true/\decide ((1:Int)<=n)=true/\true=true/\true=true/\true=true/\true=true/\true=true/\true=true/\true=true/\iR (s.2+n)/\decide (s.2+n<=(99:Int))=true/\true=true/\CO Gl 74 [B true,Str (ByteArray.mk #[(100:UInt8),(97:UInt8),(121:UInt8),(115:UInt8)])] (.ret (.tup []))/\iR (s.2+n)/\True/\(sR Ad s.1.1.1)/\s.1.1.2=s.1.1.2/\s.1.1.3=s.1.1.3/\(SEq s.1.2.1.length (fun i=>Gv.eComp (nth s.1.2.1 i)) s.1.2.1.length fun i=>Gv.eComp (nth s.1.2.1 i))/\(sR eI s.1.2.2)/\(sR eI s.1.2.3)/\s.1.3=s.1.3/\s.1.4=s.1.4/\(sR eCp s.1.5)/\s.1.6.1=s.1.6.1/\s.1.6.2=s.1.6.2/\s.1.6.3=s.1.6.3/\s.1.6.4=s.1.6.4/\s.1.6.5=s.1.6.5/\s.1.6.6=s.1.6.6/\(SEq s.1.6.7.length (fun i=>Py.eLine (nth s.1.6.7 i)) s.1.6.7.length fun i=>Py.eLine (nth s.1.6.7 i))/\s.2+n=s.2+n/\MEq (tkD s) (tkV s) (tkD A0) (tkV A0)/\MEq (coD s) (coV s) (coD A0) (coV A0)/\MEq (riD s) (riV s) (riD A0) (riV A0)/\MEq (paD s) (paV s) (paD A0) (paV A0)))) Tryz.func75 (by kernel_rfl) (by kernel_rfl) ?_
 simp only [stdS,imp_self,implies_true,and_true,Af]
 exact ⟨decide_eq_true h1,by omega,decide_eq_true h2,Nc S _,by omega,Bt,Bt,Bt,Bt⟩
def Kj (s:St) (n h:Int) (m:List Int):St:={ s with co:=fun a b=>bif a==n&&b==h then some m else s.co a b }
theorem Al3 {Gl} (S:SP Gl) (l:List Int) (hl:(⟨[l],[0]⟩:Sheet).ok=true) (n m:Nat) (f g:Nat->List C) (h1:SEq n f 1 fun i=>Au (nth [l] i)) (h2:SEq m g 1 fun i=>eI (nth [0] i)):
  CO Gl 242 [.d (.agg [.s .n n f,.s .n m g])] (.ret (I 0)):=by
 have h:=Ar2 S ⟨[l],[0]⟩
 rw [hl] at h
 exact h.args ⟨h1,h2⟩
theorem Al4 {s:St} {a b:Int} (h:coD s [a,b]=false):s.co a b=none:=by
 cases hx:s.co a b with
 |none=>rfl
 |some g=>simp [coD,hx] at h
theorem Awn {s:St} {n h:Int} {m:List Int}:MEq (Ca (coD s) [n,h]) (Dl (coV s) [n,h] (List.map C.dem [C.l eI m])) (coD (Kj s n h m)) (coV (Kj s n h m)):=by
 have hd:∀ x y,coD (Kj s n h m) [x,y]=((x==n&&y==h)||coD s [x,y]):=fun x y=>by
  show (bif x==n&&y==h then some m else s.co x y).isSome=((x==n&&y==h)||(s.co x y).isSome)
  cases x==n&&y==h<;>rfl
 have hv:∀ x y,(x==n&&y==h)=false->coV (Kj s n h m) [x,y]=coV s [x,y]:=fun x y e=>by
  show eN (bif x==n&&y==h then some m else s.co x y)=eN (s.co x y)
  rw [e];rfl
 have hn:coV (Kj s n h m) [n,h]=[.l eI m]:=by
  show eN (bif n==n&&h==h then some m else s.co n h)=_
  rw [beq_self_eq_true,beq_self_eq_true];rfl
 refine fun k=>⟨?_,fun e=>.inl ?_⟩
 ·rw [Bool.eq_iff_iff,Gw]
  match k with
  | [x,y]=>rw [hd];simp
  | []=>simp [coD]
  | [_]=>simp [coD]
  |_::_::_::_=>simp [coD]
 ·rw [Nu]
  rw [Gw] at e
  by_cases hk:k=[n,h]
  ·rw [if_pos hk,hk,hn];rfl
  ·rw [if_neg hk]
   have e:=e.resolve_left hk
   match k,hk,e with
   | [x,y],hk,_=>exact (hv x y (by
     rw [Bool.eq_false_iff]
     intro he
     simp only [Bool.and_eq_true,beq_iff_eq] at he
     exact hk (by rw [he.1,he.2]))).symm
   | [],_,e=>simp [coD] at e
   | [_],_,e=>simp [coD] at e
   |_::_::_::_,_,e=>simp [coD] at e
def Kk (s:St):Env:=[(2,FAR,live),(FAR+3,1,I s.su.p.rows),(FAR+3,3,.d (.c (.l Gv.eComp s.su.b.comps))),(FAR+3,5,L eI s.su.b.sheets),(FAR+3,16,I s.day),(FAR+3,17,.mp (FAR+1)),(FAR+3,18,.mp (FAR+2)),(2,FAR+1,mTk s),(2,FAR+2,mCo s)]
abbrev home (s:St) (n h:Int):Int:=((s.tk n).getD ⟨0,0,0,0⟩).day+2*(nth s.su.b.comps h.toNat).post.lo+(nth s.su.b.comps h.toNat).sheet.lo
theorem Al5 {b:Gv.Book} (h:b.ok=true) {k:Nat} (hk:k<b.comps.length):(0<=(nth b.comps k).post.lo/\(nth b.comps k).post.lo<=5)/\(1<=(nth b.comps k).sheet.lo/\(nth b.comps k).sheet.lo<=5):=by
 unfold Gv.Book.ok at h
 simp only [Bool.and_eq_true,Bo,List.all_eq_true] at h
 have h4:=h.2.2.2.1 _ (Er hk)
 unfold Gv.Comp.fine Span.isIn at h4
 simp only [Bool.and_eq_true,Bo] at h4
 exact ⟨h4.2.1.1,h4.2.2.1.1⟩
structure WrOK (s:St) (n h:Int) (m:List Int):Prop where
 co:coD s [n,h]=false
 tk:tkD s [n]=true
 len:((m.length:Int)==s.su.p.rows.tdiv s.su.b.sheets.length)=true
 col:(⟨[m],[0]⟩:Sheet).ok=true
 rows:0<=s.su.p.rows/\s.su.p.rows<=12
 book:s.su.b.ok=true
 hand:inR h 0 ((s.su.b.comps.length:Int) - 1)=true
 day:0<=((s.tk n).getD ⟨0,0,0,0⟩).day/\((s.tk n).getD ⟨0,0,0,0⟩).day<=99
 ml:1<=m.length/\m.length<=1000
theorem Awo {Gl} (S:SP Gl) (s:St) (n h:Int) (m:List Int) (W:WrOK s n h m) (hI:Does Tryz.prog Y Gl yd0 154 [.addr FAR 0,I n,I h] [(2,FAR,live),(FAR+3,17,.mp (FAR+1)),(2,FAR+1,mTk s)] (.ret (B true)) []) (hd:decide (home s n h<=s.day)=true):Does Tryz.prog Y Gl yd0 153 [.addr FAR 0,.d (.agg [Ci n,Ci h,.l eI m])] (Kk s) (.ret (.tup [])) [(2,FAR+2,mCo (Kj s n h m))]:=by
 refine Ef S (let A0:=(Option.getD (s.3 n) (Gvn.mk (0:Int) (0:Int) (0:Int) (0:Int)));let A1:=(Value.int IntKind.i64 (0:Int));let A2:=(I (Int.tdiv (Plan.rows (Su.p (St.su s))) (↑(List.length (Gv.Book.sheets (Su.b (St.su s)))):Int)));let A3:=(nth s.1.2.1 (Int.toNat h));let A4:=(FAR+(3:Nat),(5:Nat),L eI (Gv.Book.sheets (Su.b (St.su s))));let A5:=(FAR+(3:Nat),(1:Nat),I (Plan.rows (Su.p (St.su s))));let A6:=((2:Nat),FAR,live);let A7:=[A6,(FAR+(3:Nat),(17:Nat),T.mp (FAR+1)),((2:Nat),FAR+(1:Nat),mTk s)];((.val 16 false (.w [(nat_lit 100000,nat_lit 100000),(nat_lit 100001,nat_lit 100001)] [T.addr FAR (0:Nat),I n,I h] A7 (.ret (B true)) [] (.sure 26 (.sure 27 (.r (.ret (.tup [])) (.w [(nat_lit 100000,nat_lit 100000)] [T.addr FAR (0:Nat)] [A6,A5,A4] (.ret A2) [] (.val 35 true (.sure 37 (.sure 38 (.sure 39 (.sure 40 (.sure 41 (.sure 42 (.r (.ret (I 0)) (.sure 43 (.r (.ret (.tup [])) (.val 79 true (.r (.ret (.tup [])) (.r (.ret (L eI m)) .nil))))))))))))))))))),((coD s [n,h]=false->[oC (s.4 n h)]=[C.v (Value.slice none 0 0)])/\coD s [n,h]=false/\n=n/\h=h/\MEq (tkD s) (tkV s) (tkD s) (tkV s)/\Does Tryz.prog Y Gl yd0 (154:FuncId) [T.addr FAR (0:Nat),I n,I h] A7 (.ret (B true)) []/\true=true/\true=true/\CO Gl 74 [B true,Str (ByteArray.mk #[(104:UInt8),(97:UInt8),(110:UInt8),(100:UInt8)])] (.ret (.tup []))/\(m.length<=maxLen->s.1.1.2=s.1.1.2/\(sR eI s.1.2.3)/\Does Tryz.prog Y Gl yd0 (241:FuncId) [T.addr FAR (0:Nat)] [A6,A5,A4] (.ret A2) []/\((m.length:Int)==Int.tdiv s.1.1.2 (s.1.2.3.length:Int))=true/\true=true/\true=true/\true=true/\true=true/\true=true/\true=true/\CO Gl 242 [T.d (D.agg [C.s Tag.n (1:Nat) fun i=>List.getD [List.map C.dem [C.s Tag.n m.length fun i=>eI (nth m i)]] i [],C.s Tag.n (1:Nat) fun i=>List.getD [List.map C.dem [C.v A1]] i []])] (.ret (I 0))/\true=true/\CO Gl 74 [B true,Str (ByteArray.mk #[(99:UInt8),(111:UInt8),(108:UInt8),(117:UInt8),(109:UInt8),(110:UInt8)])] (.ret (.tup []))/\((0:Int)<=h/\h<(s.1.2.1.length:Int))/\(tkD s [n]=false->[C.v (Value.int IntKind.i64 A0.1),C.v (Value.int IntKind.i64 A0.2),C.v (Value.int IntKind.i64 A0.3),C.v (Value.int IntKind.i64 A0.4)]=[C.v A1,C.v A1,C.v A1,C.v A1])/\iR ((2:Int)*A3.2.1)/\iR (A0.4+(2:Int)*A3.2.1)/\iR (A0.4+(2:Int)*A3.2.1+A3.3.1)/\decide ((Option.getD (s.3 n) (Gvn.mk (0:Int) (0:Int) (0:Int) (0:Int))).4+(2:Int)*(nth s.1.2.1 (Int.toNat h)).2.1+(nth s.1.2.1 (Int.toNat h)).3.1<=s.2)=true/\CO Gl 74 [B true,Str (ByteArray.mk #[(100:UInt8),(97:UInt8),(121:UInt8)])] (.ret (.tup []))/\CO Gl 69 [L eI m] (.ret (L eI m))/\True/\MEq (Ca (coD s) [n,h]) (Dl (coV s) [n,h] (List.map C.dem [C.s Tag.n m.length fun i=>eI (nth m i)])) (coD (Kj s n h m)) (coV (Kj s n h m))/\s.1.1.2=s.1.1.2/\(SEq s.1.2.1.length (fun i=>Gv.eComp (nth s.1.2.1 i)) s.1.2.1.length fun i=>Gv.eComp (nth s.1.2.1 i))/\(sR eI s.1.2.3)/\s.2=s.2/\MEq (tkD s) (tkV s) (tkD s) (tkV s))))) Tryz.func153 (by kernel_rfl) (by kernel_rfl) ?_
 have hc:=Bo.1 W.hand
 have hf:=Al5 W.book (k:=h.toNat) (by omega)
 have hdd:=W.day
 simp only [stdS,imp_self,implies_true,and_true,Af,Bi]
 refine ⟨fun h=>by rw [Al4 h];rfl,W.co,Bt,hI,Nc S _,fun _=>⟨Al2 S _ _ (Ze W.book).1 W.rows,W.len,Al3 S m W.col _ _ _ _ (.of ⟨rfl,fun i hi=>?_⟩) (.of ⟨rfl,fun i hi=>?_⟩),Nc S _,by omega,fun h=>by rw [Zh h];rfl,by omega,by omega,by omega,hd,Nc S _,Qz S m W.ml.1 W.ml.2,Awn,Bt⟩⟩
 ·have:i=0:=by omega
  subst this;rfl
 ·have:i=0:=by omega
  subst this;rfl
theorem Awp {Gl} (S:SP Gl) (s:St) (n h:Int) (m:List Int) (W:WrOK s n h m) (hI:Does Tryz.prog Y Gl yd0 154 [.addr FAR 0,I n,I h] [(2,FAR,live),(FAR+3,17,.mp (FAR+1)),(2,FAR+1,mTk s)] (.ret (B true)) []) (hd:decide (home s n h<=s.day)=false):Does Tryz.prog Y Gl yd0 153 [.addr FAR 0,.d (.agg [Ci n,Ci h,.l eI m])] (Kk s) (.pan (.iface 275 (.agg #[.string (ByteArray.mk #[100,97,121])]))) []:=by
 refine Ef S (let A0:=(Option.getD (s.3 n) (Gvn.mk (0:Int) (0:Int) (0:Int) (0:Int)));let A1:=(ByteArray.mk #[(100:UInt8),(97:UInt8),(121:UInt8)]);let A2:=(Value.int IntKind.i64 (0:Int));let A3:=(I (Int.tdiv (Plan.rows (Su.p (St.su s))) (↑(List.length (Gv.Book.sheets (Su.b (St.su s)))):Int)));let A4:=(nth s.1.2.1 (Int.toNat h));let A5:=(Res.pan (Value.iface (275:TypeId) (Value.agg #[Value.string A1])));let A6:=(FAR+(3:Nat),(5:Nat),L eI (Gv.Book.sheets (Su.b (St.su s))));let A7:=(FAR+(3:Nat),(1:Nat),I (Plan.rows (Su.p (St.su s))));let A8:=((2:Nat),FAR,live);let A9:=[A8,(FAR+(3:Nat),(17:Nat),T.mp (FAR+1)),((2:Nat),FAR+(1:Nat),mTk s)];((.val 16 false (.w [(nat_lit 100000,nat_lit 100000),(nat_lit 100001,nat_lit 100001)] [T.addr FAR (0:Nat),I n,I h] A9 (.ret (B true)) [] (.sure 26 (.sure 27 (.r (.ret (.tup [])) (.w [(nat_lit 100000,nat_lit 100000)] [T.addr FAR (0:Nat)] [A8,A7,A6] (.ret A3) [] (.val 35 true (.sure 37 (.sure 38 (.sure 39 (.sure 40 (.sure 41 (.sure 42 (.r (.ret (I 0)) (.sure 43 (.r (.ret (.tup [])) (.val 79 false (.r A5 .nil)))))))))))))))))),((coD s [n,h]=false->[oC (s.4 n h)]=[C.v (Value.slice none 0 0)])/\coD s [n,h]=false/\n=n/\h=h/\MEq (tkD s) (tkV s) (tkD s) (tkV s)/\Does Tryz.prog Y Gl yd0 (154:FuncId) [T.addr FAR (0:Nat),I n,I h] A9 (.ret (B true)) []/\true=true/\true=true/\CO Gl 74 [B true,Str (ByteArray.mk #[(104:UInt8),(97:UInt8),(110:UInt8),(100:UInt8)])] (.ret (.tup []))/\(m.length<=maxLen->s.1.1.2=s.1.1.2/\(sR eI s.1.2.3)/\Does Tryz.prog Y Gl yd0 (241:FuncId) [T.addr FAR (0:Nat)] [A8,A7,A6] (.ret A3) []/\((m.length:Int)==Int.tdiv s.1.1.2 (s.1.2.3.length:Int))=true/\true=true/\true=true/\true=true/\true=true/\true=true/\true=true/\CO Gl 242 [T.d (D.agg [C.s Tag.n (1:Nat) fun i=>List.getD [List.map C.dem [C.s Tag.n m.length fun i=>eI (nth m i)]] i [],C.s Tag.n (1:Nat) fun i=>List.getD [List.map C.dem [C.v A2]] i []])] (.ret (I 0))/\true=true/\CO Gl 74 [B true,Str (ByteArray.mk #[(99:UInt8),(111:UInt8),(108:UInt8),(117:UInt8),(109:UInt8),(110:UInt8)])] (.ret (.tup []))/\((0:Int)<=h/\h<(s.1.2.1.length:Int))/\(tkD s [n]=false->[C.v (Value.int IntKind.i64 A0.1),C.v (Value.int IntKind.i64 A0.2),C.v (Value.int IntKind.i64 A0.3),C.v (Value.int IntKind.i64 A0.4)]=[C.v A2,C.v A2,C.v A2,C.v A2])/\iR ((2:Int)*A4.2.1)/\iR (A0.4+(2:Int)*A4.2.1)/\iR (A0.4+(2:Int)*A4.2.1+A4.3.1)/\decide ((Option.getD (s.3 n) (Gvn.mk (0:Int) (0:Int) (0:Int) (0:Int))).4+(2:Int)*(nth s.1.2.1 (Int.toNat h)).2.1+(nth s.1.2.1 (Int.toNat h)).3.1<=s.2)=false/\CO Gl 74 [B false,Str A1] A5/\Value.iface (275:Nat) (Value.agg (Array.mk [Value.string A1]))=Value.iface (275:Nat) (Value.agg (Array.mk [Value.string A1]))/\s.1.1.2=s.1.1.2/\(SEq s.1.2.1.length (fun i=>Gv.eComp (nth s.1.2.1 i)) s.1.2.1.length fun i=>Gv.eComp (nth s.1.2.1 i))/\(sR eI s.1.2.3)/\s.2=s.2/\MEq (tkD s) (tkV s) (tkD s) (tkV s)/\MEq (coD s) (coV s) (coD s) (coV s))))) Tryz.func153 (by kernel_rfl) (by kernel_rfl) ?_
 have hc:=Bo.1 W.hand
 have hf:=Al5 W.book (k:=h.toNat) (by omega)
 have hdd:=W.day
 simp only [stdS,imp_self,implies_true,and_true,Af,Bi]
 refine ⟨fun h=>by rw [Al4 h];rfl,W.co,Bt,hI,Nc S _,fun _=>⟨Al2 S _ _ (Ze W.book).1 W.rows,W.len,Al3 S m W.col _ _ _ _ (.of ⟨rfl,fun i hi=>?_⟩) (.of ⟨rfl,fun i hi=>?_⟩),Nc S _,by omega,fun h=>by rw [Zh h];rfl,by omega,by omega,by omega,hd,needF S _,Bt,Bt⟩⟩
 ·have:i=0:=by omega
  subst this;rfl
 ·have:i=0:=by omega
  subst this;rfl
theorem doCol {Gl} (S:SP Gl) (s:St) (n h:Int) (m:List Int) (W:WrOK s n h m) (hI:Does Tryz.prog Y Gl yd0 154 [.addr FAR 0,I n,I h] [(2,FAR,live),(FAR+3,17,.mp (FAR+1)),(2,FAR+1,mTk s)] (.ret (B true)) []) (hd:decide (home s n h<=s.day)=true):Does Tryz.prog Y Gl yd0 75 [.addr FAR 0,.d (.c (Lr n h m))] (stB FAR (FAR+1) s) (.ret (.tup [])) (stB FAR (FAR+1) (Kj s n h m)):=by
 refine Ef S (let A0:=(Kj s n h m);let A1:=(SEq s.1.2.1.length (fun i=>Gv.eComp (nth s.1.2.1 i)) s.1.2.1.length fun i=>Gv.eComp (nth s.1.2.1 i));let A2:=[T.addr FAR (0:Nat),T.d (D.agg [Ci n,Ci h,C.l eI m])];((.ff (.ff (.tt (.w [(nat_lit 100000,nat_lit 100000),(nat_lit 100001,nat_lit 100001),(nat_lit 100002,nat_lit 100002)] A2 (Kk s) (.ret (.tup [])) [((2:Nat),FAR+(2:Nat),mCo A0)] .nil)))),(false=false/\false=false/\true=true/\n=n/\h=h/\(sR eI m)/\s.1.1.2=s.1.1.2/\A1/\(sR eI s.1.2.3)/\s.2=s.2/\MEq (tkD s) (tkV s) (tkD s) (tkV s)/\MEq (coD s) (coV s) (coD s) (coV s)/\Does Tryz.prog Y Gl yd0 (153:FuncId) A2 (Kk s) (.ret (.tup [])) [((2:Nat),FAR+(2:Nat),mCo A0)]/\True/\(sR Ad s.1.1.1)/\s.1.1.2=s.1.1.2/\s.1.1.3=s.1.1.3/\A1/\(sR eI s.1.2.2)/\(sR eI s.1.2.3)/\s.1.3=s.1.3/\s.1.4=s.1.4/\(sR eCp s.1.5)/\s.1.6.1=s.1.6.1/\s.1.6.2=s.1.6.2/\s.1.6.3=s.1.6.3/\s.1.6.4=s.1.6.4/\s.1.6.5=s.1.6.5/\s.1.6.6=s.1.6.6/\(SEq s.1.6.7.length (fun i=>Py.eLine (nth s.1.6.7 i)) s.1.6.7.length fun i=>Py.eLine (nth s.1.6.7 i))/\s.2=s.2/\MEq (tkD s) (tkV s) (tkD A0) (tkV A0)/\MEq (coD A0) (coV A0) (coD A0) (coV A0)/\MEq (riD s) (riV s) (riD A0) (riV A0)/\MEq (paD s) (paV s) (paD A0) (paV A0)))) Tryz.func75 (by kernel_rfl) (by kernel_rfl) ?_
 simp only [stdS,imp_self,implies_true,and_true]
 exact ⟨Bt,Bt,Awo S s n h m W hI hd,Bt,Bt,Bt,Bt⟩
theorem Awq {Gl} (S:SP Gl) (s:St) (n h:Int) (m:List Int) (W:WrOK s n h m) (hI:Does Tryz.prog Y Gl yd0 154 [.addr FAR 0,I n,I h] [(2,FAR,live),(FAR+3,17,.mp (FAR+1)),(2,FAR+1,mTk s)] (.ret (B true)) []) (hd:decide (home s n h<=s.day)=false):Does Tryz.prog Y Gl yd0 75 [.addr FAR 0,.d (.c (Lr n h m))] (Kk s) (.pan (.iface 275 (.agg #[.string (ByteArray.mk #[100,97,121])]))) []:=by
 refine Ef S (let A0:=(ByteArray.mk #[(100:UInt8),(97:UInt8),(121:UInt8)]);let A1:=(SEq s.1.2.1.length (fun i=>Gv.eComp (nth s.1.2.1 i)) s.1.2.1.length fun i=>Gv.eComp (nth s.1.2.1 i));let A2:=(Res.pan (Value.iface (275:TypeId) (Value.agg #[Value.string A0])));let A3:=[T.addr FAR (0:Nat),T.d (D.agg [Ci n,Ci h,C.l eI m])];((.ff (.ff (.tt (.w [(nat_lit 100000,nat_lit 100000),(nat_lit 100001,nat_lit 100001),(nat_lit 100002,nat_lit 100002)] A3 (Kk s) A2 [] .nil)))),(false=false/\false=false/\true=true/\n=n/\h=h/\(sR eI m)/\s.1.1.2=s.1.1.2/\A1/\(sR eI s.1.2.3)/\s.2=s.2/\MEq (tkD s) (tkV s) (tkD s) (tkV s)/\MEq (coD s) (coV s) (coD s) (coV s)/\Does Tryz.prog Y Gl yd0 (153:FuncId) A3 (Kk s) A2 []/\Value.iface (275:Nat) (Value.agg (Array.mk [Value.string A0]))=Value.iface (275:Nat) (Value.agg (Array.mk [Value.string A0]))/\s.1.1.2=s.1.1.2/\A1/\(sR eI s.1.2.3)/\s.2=s.2/\MEq (tkD s) (tkV s) (tkD s) (tkV s)/\MEq (coD s) (coV s) (coD s) (coV s)))) Tryz.func75 (by kernel_rfl) (by kernel_rfl) ?_
 simp only [stdS,imp_self,implies_true,and_true]
 exact ⟨Bt,Bt,Awp S s n h m W hI hd,Bt,Bt⟩
structure Ent where
 kind:Int
 nums:List Int
instance:Inhabited Ent:=⟨⟨0,[]⟩⟩
def Al (x:Ent):List C:=[Ci x.kind,.l eI x.nums]
def Bz (n:Nat):List Int:=(List.range n).map fun i:Nat=>(i:Int)
theorem Uq (n:Nat):(Bz n).length=n:=by unfold Bz;rw [List.length_map,List.length_range]
theorem Awr {n i:Nat} (h:i<n):nth (Bz n) i=i:=by
 unfold Bz
 rw [Ep (by rw [List.length_range];exact h),Cr h]
theorem Al6 (n:Nat):Bz (n+1)=Bz n++[(n:Int)]:=by
 unfold Bz
 rw [List.range_succ,List.map_append];rfl
def stYd (l n:Nat) (m:List Ent):Yd:=⟨l,n,n,fun q=>[I q,.d (.agg (Al (nth m q)))]⟩
theorem Aws {Gl} (S:SP Gl) (m:List Ent):CO Gl 151 [.d (.c (.l Al m))] (.ret (.fn 238 [] [.d (.c (.p [.l Al m]))])):=by
 refine Acr S (t:=2) (id:=1) .nil Tryz.func151 (by kernel_rfl) Tryz.results151 (by decide) (by decide) (T.fn 238 [] [.addr 1 0]=T.fn 238 [] [.addr 1 0]/\live=live/\Gb (Dp 1 0 [.l Al m]) 1 0 [.l Al m]) (by kernel_rfl) ?_
 exact ⟨rfl,rfl,rfl,trivial⟩
theorem Awt {Gl} (S:SP Gl) (m:List Ent) (l:Nat) (hm:m.length<=1000) (hu:∀ i,i<m.length->((nth m i).kind != 10)=true):Does Tryz.prog Y Gl (stYd l m.length m) 238 [.yl l,.d (.c (.p [.l Al m]))] [(0,BIG,.tr 0)] (.ret (.tup [])) [(0,BIG,.tr (min m.length (m.length+1)))]:=by
 refine Ef S (let A0:=(Bz m.length);let A1:=(m.length:Int);let A2:=[C.l Al m];((.loop m.length (fun k=>[v 10 (I k),v 9 (I m.length),v 8 (T.d (D.c (C.l Al m))),v 0 (T.yl l),v 1 (T.d (D.c (C.p A2))),v 3 (Lt 900 eI (Bz k)),tk 900 3,((0:Nat),BIG,T.tr (0:Nat))]) fun k0=>.br (.val 17 true (.tt .nil)) (.loop m.length (fun k=>[v 33 (I k),v 32 (I m.length),v 31 (L eI A0),v 0 (T.yl l),v 1 (T.d (D.c (C.p A2))),((0:Nat),BIG,T.tr k)]) fun k1=>.br (.br .nil .nil) .nil)),(m.length<=maxLen->(0=(↑(0:Nat):Int)/\A1=A1/\(sR Al m)/\l=l/\A2=A2/\(0:Nat)=(0:Nat)/\(0:Nat)=(0:Nat))/\∀ (k0:Nat),k0<=m.length->(decide ((k0:Int)<(m.length:Int))=true->(0<=(k0:Int)/\(k0:Int)<A1)/\((nth m k0).1 != (10:Int))=true/\true=true/\(List.length (Bz k0)+1)*8<=140737488355328/\List.length (Bz k0)+1<=140737488355328/\iR ((k0:Int)+1)/\k0<m.length/\(k0:Int)+1=(↑(k0+1):Int)/\A1=A1/\(sR Al m)/\l=l/\A2=A2/\(SEq (List.length (Bz k0)+1) (Ar (List.length (Bz k0)) (fun i=>eI (nth (Bz k0) i)) fun i=>List.getD [List.map C.dem [C.v (Value.int IntKind.i64 (k0:Int))]] i []) (List.length (Bz (k0+1))) fun i=>eI (nth (Bz (k0+1)) i))/\(0:Nat)=(0:Nat))/\(decide ((k0:Int)<(m.length:Int))=false->List.length (Bz k0)<=maxLen->(0=(↑(0:Nat):Int)/\(List.length (Bz k0):Int)=A1/\(sQ eI (Bz k0) A0)/\l=l/\A2=A2/\(0:Nat)=(0:Nat))/\∀ (k1:Nat),k1<=m.length->(decide ((k1:Int)<(m.length:Int))=true->(0<=(k1:Int)/\(k1:Int)<(List.length A0:Int))/\((0:Int)<=nth A0 k1/\nth A0 k1<A1)/\l=l/\k1<m.length/\k1<=m.length/\nth A0 k1=(k1:Int)/\(nth m (Int.toNat (nth A0 k1))).1=(nth m k1).1/\(sQ eI ((nth m (Int.toNat (nth A0 k1))).2) ((nth m k1).2))/\((!k1 != m.length)=true->True/\k1+(1:Nat)=min m.length (m.length+1))/\((!k1 != m.length)=false->iR ((k1:Int)+1)/\k1<m.length/\(k1:Int)+1=(↑(k1+1):Int)/\A1=A1/\(sR eI A0)/\l=l/\A2=A2/\k1+(1:Nat)=k1+1))/\(decide ((k1:Int)<(m.length:Int))=false->True/\k1=min m.length (m.length+1)))))) Tryz.func238 (by kernel_rfl) (by kernel_rfl) ?_
 simp only [stdS,imp_self,implies_true,and_true,decide_eq_true_eq,decide_eq_false_iff_not,Af,Bi,Uq,bne_iff_ne,Bool.not_eq_true',Bool.not_eq_false',ne_eq,bne_eq_false_iff_eq]
 refine fun _ k hk=>⟨fun h1=>?_,fun h1 _=>⟨?_,fun j hj=>⟨fun h2=>?_,fun h2=>by omega⟩⟩⟩
 ·have h3:=hu k (by omega)
  have hq:=Oc (f:=eI) (l:=Bz k) (r:=Bz (k+1)) (x:=(k:Int)) (Al6 k) rfl
  rw [Uq,Uq] at hq
  exact ⟨by omega,bne_iff_ne.1 h3,by omega,by omega,by omega,by omega,by omega,hq,trivial⟩
 ·have hke:k=m.length:=by omega
  subst hke
  exact ⟨rfl,.of ⟨rfl,fun _ _=>rfl⟩,trivial⟩
 ·have hj2:j<m.length:=by omega
  rw [Awr hj2,Int.toNat_natCast]
  exact ⟨by omega,by omega,by omega,by omega,rfl,rfl,.of ⟨rfl,fun _ _=>rfl⟩,fun h=>by omega,fun _=>⟨by omega,by omega,by omega,trivial⟩⟩
theorem Awu (su:Su):(Cl su).su=su:=rfl
theorem Awv (su:Su):(Cl su).day=0:=rfl
theorem Zi (dom:List Int->Bool) (val:List Int->List C):MEq dom val dom val↔True:=⟨fun _=>trivial,fun _ _=>⟨rfl,fun _=>.inl rfl⟩⟩
theorem Zj {Gl} (S:SP Gl) (su:Su) (m:List Ent) (s:Nat->St) (t:Nat->TypeId) (p:Nat->Value) (hs:okC su=true) (hm:m.length<=1000) (hu:∀ i,i<m.length->((nth m i).kind != 10)=true) (h0:s 0=Cl su) (ha:∀ k,k<m.length->CO Gl 76 [.d (.agg (Al (nth m k)))] (.ret (.d (.c (.v (.iface (t k) (p k))))))) (hd:∀ k,k<m.length->Does Tryz.prog Y Gl yd0 75 [.addr FAR 0,.d (.c (.v (.iface (t k) (p k))))] (stB FAR (FAR+1) (s k)) (.ret (.tup [])) (stB FAR (FAR+1) (s (k+1)))):CO Gl 73 [.d (.agg (cS su)),.d (.c (.l Al m))] (.new (.addr 10010 0) ((10013,21,L eI (Bz m.length))::stB 10010 10005 (s m.length))):=by
 refine Te S (.n [(nat_lit 10,nat_lit 10010),(nat_lit 5,nat_lit 10005),(nat_lit 6,nat_lit 10006),(nat_lit 7,nat_lit 10007),(nat_lit 8,nat_lit 10008)] (Res.new (T.addr (10:Nat) (0:Nat)) (((13:Nat),(21:Nat),T.d (D.c (C.v (Value.slice none 0 0))))::stB (10:Nat) (5:Nat) (Cl su))) (.r (.ret (T.fn (238:FuncId) [] [T.d (D.c (C.p [C.l Al m]))])) (.rf m.length m.length (fun p=>[I p,T.d (D.agg (Al (nth m p)))]) (fun p=>v 5 (ad 5)::((2:Nat),(5:Nat),live)::((8:Nat),(0:Nat),T.addr (10010:Nat) (0:Nat))::tk 900 3::((10013:Nat),(21:Nat),Lt 900 eI (Bz p))::stB (10010:Nat) (10005:Nat) (s p)) (fun k0=>.r (.ret (T.d (D.c (C.v (Value.iface (t k0) (p k0)))))) (.w [(nat_lit 100000,nat_lit 10010),(nat_lit 100001,nat_lit 10005),(nat_lit 100002,nat_lit 10006),(nat_lit 100003,nat_lit 10007),(nat_lit 100004,nat_lit 10008)] [T.addr FAR (0:Nat),T.d (D.c (C.v (Value.iface (t k0) (p k0))))] (stB FAR (FAR+1) (s k0)) (.ret (.tup [])) (stB FAR (FAR+1) (s (k0+1))) .nil)) .nil))) Tryz.func73 (by kernel_rfl) (v 4 (.addr 10010 0)::(10013,21,L eI (Bz m.length))::stB 10010 10005 (s m.length)) rfl (T.addr (10010:Nat) (0:Nat)=T.addr (10010:Nat) (0:Nat)/\CO Gl 150 [T.d (D.agg (cS su))] (Res.new (T.addr (10:Nat) (0:Nat)) (((13:Nat),(21:Nat),T.d (D.c (C.v (Value.slice none 0 0))))::stB (10:Nat) (5:Nat) (Cl su)))/\CO Gl 151 [T.d (D.c (C.l Al m))] (.ret (T.fn (238:FuncId) [] [T.d (D.c (C.p [C.l Al m]))]))/\Yd.m yd0=(0:Nat)/\Pi (Does Tryz.prog Y Gl) (238:Nat) [] [T.d (D.c (C.p [C.l Al m]))] (fun l=>Yd.mk l m.length m.length fun p=>[I p,T.d (D.agg (Al (nth m p)))]) m.length m.length/\((0:Nat)=(0:Nat)/\(sQ Ad su.1.1 ((s (0:Nat)).1.1.1))/\su.1.2=(s (0:Nat)).1.1.2/\su.1.3=(s (0:Nat)).1.1.3/\(SEq su.2.1.length (fun i=>Gv.eComp (nth su.2.1 i)) (List.length (s (0:Nat)).1.2.1) fun i=>Gv.eComp (nth (s (0:Nat)).1.2.1 i))/\(sQ eI su.2.2 ((s (0:Nat)).1.2.2))/\(sQ eI su.2.3 ((s (0:Nat)).1.2.3))/\su.3=(s (0:Nat)).1.3/\su.4=(s (0:Nat)).1.4/\(sQ eCp su.5 ((s (0:Nat)).1.5))/\su.6.1=(s (0:Nat)).1.6.1/\su.6.2=(s (0:Nat)).1.6.2/\su.6.3=(s (0:Nat)).1.6.3/\su.6.4=(s (0:Nat)).1.6.4/\su.6.5=(s (0:Nat)).1.6.5/\su.6.6=(s (0:Nat)).1.6.6/\(SEq su.6.7.length (fun i=>Py.eLine (nth su.6.7 i)) (List.length (s (0:Nat)).1.6.7) fun i=>Py.eLine (nth (s (0:Nat)).1.6.7 i))/\(0:Int)=(s (0:Nat)).2/\MEq (tkD (Cl su)) (tkV (Cl su)) (tkD (s (0:Nat))) (tkV (s (0:Nat)))/\MEq (coD (Cl su)) (coV (Cl su)) (coD (s (0:Nat))) (coV (s (0:Nat)))/\MEq (riD (Cl su)) (riV (Cl su)) (riD (s (0:Nat))) (riV (s (0:Nat)))/\MEq (paD (Cl su)) (paV (Cl su)) (paD (s (0:Nat))) (paV (s (0:Nat))))/\(∀ (k0:Nat),k0<m.length->k0<=m.length->CO Gl 76 [T.d (D.agg (Al (nth m k0)))] (.ret (T.d (D.c (C.v (Value.iface (t k0) (p k0))))))/\Value.iface (t k0) (p k0)=Value.iface (t k0) (p k0)/\(sR Ad ((s k0).1.1.1))/\(s k0).1.1.2=(s k0).1.1.2/\(s k0).1.1.3=(s k0).1.1.3/\(SEq (List.length (s k0).1.2.1) (fun i=>Gv.eComp (nth (s k0).1.2.1 i)) (List.length (s k0).1.2.1) fun i=>Gv.eComp (nth (s k0).1.2.1 i))/\(sR eI ((s k0).1.2.2))/\(sR eI ((s k0).1.2.3))/\(s k0).1.3=(s k0).1.3/\(s k0).1.4=(s k0).1.4/\(sR eCp ((s k0).1.5))/\(s k0).1.6.1=(s k0).1.6.1/\(s k0).1.6.2=(s k0).1.6.2/\(s k0).1.6.3=(s k0).1.6.3/\(s k0).1.6.4=(s k0).1.6.4/\(s k0).1.6.5=(s k0).1.6.5/\(s k0).1.6.6=(s k0).1.6.6/\(SEq (List.length (s k0).1.6.7) (fun i=>Py.eLine (nth (s k0).1.6.7 i)) (List.length (s k0).1.6.7) fun i=>Py.eLine (nth (s k0).1.6.7 i))/\(s k0).2=(s k0).2/\MEq (tkD (s k0)) (tkV (s k0)) (tkD (s k0)) (tkV (s k0))/\MEq (coD (s k0)) (coV (s k0)) (coD (s k0)) (coV (s k0))/\MEq (riD (s k0)) (riV (s k0)) (riD (s k0)) (riV (s k0))/\MEq (paD (s k0)) (paV (s k0)) (paD (s k0)) (paV (s k0))/\Does Tryz.prog Y Gl yd0 (75:FuncId) [T.addr FAR (0:Nat),T.d (D.c (C.v (Value.iface (t k0) (p k0))))] (stB FAR (FAR+1) (s k0)) (.ret (.tup [])) (stB FAR (FAR+1) (s (k0+1)))/\(List.length (Bz k0)+1)*8<=140737488355328/\List.length (Bz k0)+1<=140737488355328/\k0<m.length/\(SEq (List.length (Bz k0)+1) (Ar (List.length (Bz k0)) (fun i=>eI (nth (Bz k0) i)) fun i=>List.getD [List.map C.dem [C.v (Value.int IntKind.i64 (k0:Int))]] i []) (List.length (Bz (k0+1))) fun i=>eI (nth (Bz (k0+1)) i))/\(sR Ad ((s (k0+1)).1.1.1))/\(s (k0+1)).1.1.2=(s (k0+1)).1.1.2/\(s (k0+1)).1.1.3=(s (k0+1)).1.1.3/\(SEq (List.length (s (k0+1)).1.2.1) (fun i=>Gv.eComp (nth (s (k0+1)).1.2.1 i)) (List.length (s (k0+1)).1.2.1) fun i=>Gv.eComp (nth (s (k0+1)).1.2.1 i))/\(sR eI ((s (k0+1)).1.2.2))/\(sR eI ((s (k0+1)).1.2.3))/\(s (k0+1)).1.3=(s (k0+1)).1.3/\(s (k0+1)).1.4=(s (k0+1)).1.4/\(sR eCp ((s (k0+1)).1.5))/\(s (k0+1)).1.6.1=(s (k0+1)).1.6.1/\(s (k0+1)).1.6.2=(s (k0+1)).1.6.2/\(s (k0+1)).1.6.3=(s (k0+1)).1.6.3/\(s (k0+1)).1.6.4=(s (k0+1)).1.6.4/\(s (k0+1)).1.6.5=(s (k0+1)).1.6.5/\(s (k0+1)).1.6.6=(s (k0+1)).1.6.6/\(SEq (List.length (s (k0+1)).1.6.7) (fun i=>Py.eLine (nth (s (k0+1)).1.6.7 i)) (List.length (s (k0+1)).1.6.7) fun i=>Py.eLine (nth (s (k0+1)).1.6.7 i))/\(s (k0+1)).2=(s (k0+1)).2/\MEq (tkD (s (k0+1))) (tkV (s (k0+1))) (tkD (s (k0+1))) (tkV (s (k0+1)))/\MEq (coD (s (k0+1))) (coV (s (k0+1))) (coD (s (k0+1))) (coV (s (k0+1)))/\MEq (riD (s (k0+1))) (riV (s (k0+1))) (riD (s (k0+1))) (riV (s (k0+1)))/\MEq (paD (s (k0+1))) (paV (s (k0+1))) (paD (s (k0+1))) (paV (s (k0+1))))/\(m.length<=m.length->(sR eI (Bz m.length))/\(sR Ad ((s m.length).1.1.1))/\(s m.length).1.1.2=(s m.length).1.1.2/\(s m.length).1.1.3=(s m.length).1.1.3/\(SEq (List.length (s m.length).1.2.1) (fun i=>Gv.eComp (nth (s m.length).1.2.1 i)) (List.length (s m.length).1.2.1) fun i=>Gv.eComp (nth (s m.length).1.2.1 i))/\(sR eI ((s m.length).1.2.2))/\(sR eI ((s m.length).1.2.3))/\(s m.length).1.3=(s m.length).1.3/\(s m.length).1.4=(s m.length).1.4/\(sR eCp ((s m.length).1.5))/\(s m.length).1.6.1=(s m.length).1.6.1/\(s m.length).1.6.2=(s m.length).1.6.2/\(s m.length).1.6.3=(s m.length).1.6.3/\(s m.length).1.6.4=(s m.length).1.6.4/\(s m.length).1.6.5=(s m.length).1.6.5/\(s m.length).1.6.6=(s m.length).1.6.6/\(SEq (List.length (s m.length).1.6.7) (fun i=>Py.eLine (nth (s m.length).1.6.7 i)) (List.length (s m.length).1.6.7) fun i=>Py.eLine (nth (s m.length).1.6.7 i))/\(s m.length).2=(s m.length).2/\MEq (tkD (s m.length)) (tkV (s m.length)) (tkD (s m.length)) (tkV (s m.length))/\MEq (coD (s m.length)) (coV (s m.length)) (coD (s m.length)) (coV (s m.length))/\MEq (riD (s m.length)) (riV (s m.length)) (riD (s m.length)) (riV (s m.length))/\MEq (paD (s m.length)) (paV (s m.length)) (paD (s m.length)) (paV (s m.length)))) (by kernel_rfl) ?_
 simp only [stdS,imp_self,implies_true,and_true,h0,Awu,Awv,Zi]
 refine ⟨Awc S su hs,Aws S m,fun l=>Awt S m l hm hu,fun k hk _=>⟨ha k hk,hd k hk,?_⟩,trivial⟩
 have hq:=Oc (f:=eI) (l:=Bz k) (r:=Bz (k+1)) (x:=(k:Int)) (Al6 k) rfl
 rw [Uq,Uq] at *
 exact ⟨by omega,by omega,hk,hq,trivial⟩
theorem Aww {Gl} (S:SP Gl) (l:List Ent) (h1:1<=l.length) (h2:l.length<=1000):CO Gl 70 [.d (.c (.l Al l))] (.ret (.tkd 82 2 l.length (fun i=>Al (nth l i)))):=by
 refine An S (.ff .nil) Tryz.func70 (by kernel_rfl) ((0:Nat)<l.length/\false=false/\((0:Nat)+l.length)*32<=140737488355328/\(0:Nat)+l.length<=(140737488355328:Nat)/\SEq ((0:Nat)+l.length) (Ar 0 (fun x=>[]) fun i=>Al (nth l i)) l.length fun i=>Al (nth l i)) (by kernel_rfl) ?_
 refine ⟨by omega,rfl,by omega,by omega,.of ⟨by omega,fun i hi=>?_⟩⟩
 unfold Ar
 rw [Ui (Nat.zero_le _),cond_false,Nat.sub_zero]
theorem Awx {Gl} (S:SP Gl)  :CO Gl 70 [.d (.c (.v (.slice none 0 0)))] (.ret (.d (.c (.v (.slice none 0 0))))):=by
 refine An S (.tt .nil) Tryz.func70 (by kernel_rfl) (true=true/\Value.slice none 0 0=Value.slice none 0 0) (by kernel_rfl) ?_
 exact ⟨rfl,rfl⟩
theorem Al7 {Gl} (S:SP Gl)  :Does Tryz.prog Y Gl yd0 67 [.addr FAR 0] [(2,FAR,live),(FAR+3,17,B true)] (.ret (B true)) []:=by
 refine Qf S (.sure 6 (.sure 7 (.sure 8 (.sure 9 .nil)))) Tryz.func67 (by kernel_rfl) (true=true/\true=true/\true=true/\true=true/\true=true/\true=true) (by kernel_rfl) ?_
 exact ⟨rfl,rfl,rfl,rfl,rfl,rfl⟩
def Im (su:Su) (x:T) (e:Ent):Env:=(2,FAR,live)::(FAR+3,0,.addr (FAR+3) 0)::(2,FAR+1,live)::(FAR+4,0,I e.kind)::(2,FAR+2,live)::(FAR+5,0,I e.kind)::(FAR+5,1,L eI e.nums)::(2,FAR+3,live)::(FAR+6,16,x)::Dp (FAR+3) 0 (cS su)
theorem Al8 {Gl} (S:SP Gl) (su:Su) (nn:List Int) (l:List Ent) (e:Ent) (s s':St) (u:TypeId) (q:Value) (hn:CO Gl 73 [.d (.agg (cS su)),.d (.c (.l Al l))] (.new (.addr 10010 0) ((10013,21,L eI nn)::stB 10010 10005 s))) (he:(e.kind==10)=false) (hx:CO Gl 76 [.d (.agg (Al e))] (.ret (.d (.c (.v (.iface u q)))))) (hy:Does Tryz.prog Y Gl yd0 75 [.addr FAR 0,.d (.c (.v (.iface u q)))] (stB FAR (FAR+1) s) (.ret (.tup [])) (stB FAR (FAR+1) s')):Does Tryz.prog Y Gl yd0 72 [.addr FAR 0,.addr (FAR+1) 0,.addr (FAR+2) 0] (Im su (.d (.c (.l Al l))) e) (.ret (.tup [])) []:=by
 refine Ef S (let A0:=(Res.new (T.addr (10010:Nat) (0:Nat)) (((10013:Nat),(21:Nat),L eI nn)::stB (10010:Nat) (10005:Nat) s));let A1:=(D.c (C.v (Value.iface u q)));((.n [(nat_lit 10010,nat_lit 13010),(nat_lit 10005,nat_lit 13005),(nat_lit 10006,nat_lit 13006),(nat_lit 10007,nat_lit 13007),(nat_lit 10008,nat_lit 13008)] A0 (.val 15 false (.ff (.r (.ret (T.d A1)) (.w [(nat_lit 100000,nat_lit 13010),(nat_lit 100001,nat_lit 13005),(nat_lit 100002,nat_lit 13006),(nat_lit 100003,nat_lit 13007),(nat_lit 100004,nat_lit 13008)] [T.addr FAR (0:Nat),T.d A1] (stB FAR (FAR+1) s) (.ret (.tup [])) (stB FAR (FAR+1) s') .nil))))),(CO Gl 73 [T.d (D.agg (cS su)),T.d (D.c (C.l Al l))] A0/\(e.1==(10:Int))=false/\false=false/\CO Gl 76 [T.d (D.agg (Al e))] (.ret (T.d A1))/\Value.iface u q=Value.iface u q/\(sR Ad s.1.1.1)/\s.1.1.2=s.1.1.2/\s.1.1.3=s.1.1.3/\(SEq s.1.2.1.length (fun i=>Gv.eComp (nth s.1.2.1 i)) s.1.2.1.length fun i=>Gv.eComp (nth s.1.2.1 i))/\(sR eI s.1.2.2)/\(sR eI s.1.2.3)/\s.1.3=s.1.3/\s.1.4=s.1.4/\(sR eCp s.1.5)/\s.1.6.1=s.1.6.1/\s.1.6.2=s.1.6.2/\s.1.6.3=s.1.6.3/\s.1.6.4=s.1.6.4/\s.1.6.5=s.1.6.5/\s.1.6.6=s.1.6.6/\(SEq s.1.6.7.length (fun i=>Py.eLine (nth s.1.6.7 i)) s.1.6.7.length fun i=>Py.eLine (nth s.1.6.7 i))/\s.2=s.2/\MEq (tkD s) (tkV s) (tkD s) (tkV s)/\MEq (coD s) (coV s) (coD s) (coV s)/\MEq (riD s) (riV s) (riD s) (riV s)/\MEq (paD s) (paV s) (paD s) (paV s)/\Does Tryz.prog Y Gl yd0 (75:FuncId) [T.addr FAR (0:Nat),T.d A1] (stB FAR (FAR+1) s) (.ret (.tup [])) (stB FAR (FAR+1) s')/\True/\e.1=e.1/\e.1=e.1/\(sR eI e.2)/\(sR Al l)/\(sR Ad su.1.1)/\su.1.2=su.1.2/\su.1.3=su.1.3/\(SEq su.2.1.length (fun i=>Gv.eComp (nth su.2.1 i)) su.2.1.length fun i=>Gv.eComp (nth su.2.1 i))/\(sR eI su.2.2)/\(sR eI su.2.3)/\su.3=su.3/\su.4=su.4/\(sR eCp su.5)/\su.6.1=su.6.1/\su.6.2=su.6.2/\su.6.3=su.6.3/\su.6.4=su.6.4/\su.6.5=su.6.5/\su.6.6=su.6.6/\SEq su.6.7.length (fun i=>Py.eLine (nth su.6.7 i)) su.6.7.length fun i=>Py.eLine (nth su.6.7 i)))) Tryz.func72 (by kernel_rfl) (by kernel_rfl) ?_
 simp only [stdS,imp_self,implies_true,and_true,he,Zi]
 exact ⟨hn,hx,hy,trivial⟩
theorem Awy {Gl} (S:SP Gl) (su:Su) (nn:List Int) (l:List Ent) (e:Ent) (s s':St) (n h:Int) (m:List Int) (hn:CO Gl 73 [.d (.agg (cS su)),.d (.c (.l Al l))] (.new (.addr 10010 0) ((10013,21,L eI nn)::stB 10010 10005 s))) (he:(e.kind==10)=false) (hx:CO Gl 76 [.d (.agg (Al e))] (.ret (.d (.c (Lr n h m))))) (hy:Does Tryz.prog Y Gl yd0 75 [.addr FAR 0,.d (.c (Lr n h m))] (stB FAR (FAR+1) s) (.ret (.tup [])) (stB FAR (FAR+1) s')):Does Tryz.prog Y Gl yd0 72 [.addr FAR 0,.addr (FAR+1) 0,.addr (FAR+2) 0] (Im su (.d (.c (.l Al l))) e) (.ret (.tup [])) []:=by
 refine Ef S (let A0:=(Res.new (T.addr (10010:Nat) (0:Nat)) (((10013:Nat),(21:Nat),L eI nn)::stB (10010:Nat) (10005:Nat) s));let A1:=(D.c (Lr n h m));((.n [(nat_lit 10010,nat_lit 13010),(nat_lit 10005,nat_lit 13005),(nat_lit 10006,nat_lit 13006),(nat_lit 10007,nat_lit 13007),(nat_lit 10008,nat_lit 13008)] A0 (.val 15 false (.ff (.r (.ret (T.d A1)) (.w [(nat_lit 100000,nat_lit 13010),(nat_lit 100001,nat_lit 13005),(nat_lit 100002,nat_lit 13006),(nat_lit 100003,nat_lit 13007),(nat_lit 100004,nat_lit 13008)] [T.addr FAR (0:Nat),T.d A1] (stB FAR (FAR+1) s) (.ret (.tup [])) (stB FAR (FAR+1) s') .nil))))),(CO Gl 73 [T.d (D.agg (cS su)),T.d (D.c (C.l Al l))] A0/\(e.1==(10:Int))=false/\false=false/\CO Gl 76 [T.d (D.agg (Al e))] (.ret (T.d A1))/\Hh [C.v (Value.int IntKind.i64 n),C.v (Value.int IntKind.i64 h),C.l eI m] [Ci n,Ci h,C.l eI m]/\(sR Ad s.1.1.1)/\s.1.1.2=s.1.1.2/\s.1.1.3=s.1.1.3/\(SEq s.1.2.1.length (fun i=>Gv.eComp (nth s.1.2.1 i)) s.1.2.1.length fun i=>Gv.eComp (nth s.1.2.1 i))/\(sR eI s.1.2.2)/\(sR eI s.1.2.3)/\s.1.3=s.1.3/\s.1.4=s.1.4/\(sR eCp s.1.5)/\s.1.6.1=s.1.6.1/\s.1.6.2=s.1.6.2/\s.1.6.3=s.1.6.3/\s.1.6.4=s.1.6.4/\s.1.6.5=s.1.6.5/\s.1.6.6=s.1.6.6/\(SEq s.1.6.7.length (fun i=>Py.eLine (nth s.1.6.7 i)) s.1.6.7.length fun i=>Py.eLine (nth s.1.6.7 i))/\s.2=s.2/\MEq (tkD s) (tkV s) (tkD s) (tkV s)/\MEq (coD s) (coV s) (coD s) (coV s)/\MEq (riD s) (riV s) (riD s) (riV s)/\MEq (paD s) (paV s) (paD s) (paV s)/\Does Tryz.prog Y Gl yd0 (75:FuncId) [T.addr FAR (0:Nat),T.d A1] (stB FAR (FAR+1) s) (.ret (.tup [])) (stB FAR (FAR+1) s')/\True/\e.1=e.1/\e.1=e.1/\(sR eI e.2)/\(sR Al l)/\(sR Ad su.1.1)/\su.1.2=su.1.2/\su.1.3=su.1.3/\(SEq su.2.1.length (fun i=>Gv.eComp (nth su.2.1 i)) su.2.1.length fun i=>Gv.eComp (nth su.2.1 i))/\(sR eI su.2.2)/\(sR eI su.2.3)/\su.3=su.3/\su.4=su.4/\(sR eCp su.5)/\su.6.1=su.6.1/\su.6.2=su.6.2/\su.6.3=su.6.3/\su.6.4=su.6.4/\su.6.5=su.6.5/\su.6.6=su.6.6/\SEq su.6.7.length (fun i=>Py.eLine (nth su.6.7 i)) su.6.7.length fun i=>Py.eLine (nth su.6.7 i)))) Tryz.func72 (by kernel_rfl) (by kernel_rfl) ?_
 simp only [stdS,imp_self,implies_true,and_true,he,Zi]
 exact ⟨hn,hx,⟨.inl rfl,.inl rfl,.inl rfl,trivial⟩,hy,trivial⟩
theorem Awz {Gl} (S:SP Gl) (su:Su) (nn:List Int) (l:List Ent) (e:Ent) (s:St) (n h:Int) (m:List Int) (hn:CO Gl 73 [.d (.agg (cS su)),.d (.c (.l Al l))] (.new (.addr 10010 0) ((10013,21,L eI nn)::stB 10010 10005 s))) (he:(e.kind==10)=false) (hx:CO Gl 76 [.d (.agg (Al e))] (.ret (.d (.c (Lr n h m))))) (hy:Does Tryz.prog Y Gl yd0 75 [.addr FAR 0,.d (.c (Lr n h m))] (Kk s) (.pan (.iface 275 (.agg #[.string (ByteArray.mk #[100,97,121])]))) []):Does Tryz.prog Y Gl yd0 72 [.addr FAR 0,.addr (FAR+1) 0,.addr (FAR+2) 0] (Im su (.d (.c (.l Al l))) e) (.pan (.iface 275 (.agg #[.string (ByteArray.mk #[100,97,121])]))) []:=by
 refine Ef S (let A0:=(ByteArray.mk #[(100:UInt8),(97:UInt8),(121:UInt8)]);let A1:=(Res.new (T.addr (10010:Nat) (0:Nat)) (((10013:Nat),(21:Nat),L eI nn)::stB (10010:Nat) (10005:Nat) s));let A2:=(Res.pan (Value.iface (275:TypeId) (Value.agg #[Value.string A0])));let A3:=(D.c (Lr n h m));((.n [(nat_lit 10010,nat_lit 13010),(nat_lit 10005,nat_lit 13005),(nat_lit 10006,nat_lit 13006),(nat_lit 10007,nat_lit 13007),(nat_lit 10008,nat_lit 13008)] A1 (.val 15 false (.ff (.r (.ret (T.d A3)) (.w [(nat_lit 100000,nat_lit 13010),(nat_lit 100001,nat_lit 13005),(nat_lit 100002,nat_lit 13006)] [T.addr FAR (0:Nat),T.d A3] (Kk s) A2 [] .nil))))),(CO Gl 73 [T.d (D.agg (cS su)),T.d (D.c (C.l Al l))] A1/\(e.1==(10:Int))=false/\false=false/\CO Gl 76 [T.d (D.agg (Al e))] (.ret (T.d A3))/\Hh [C.v (Value.int IntKind.i64 n),C.v (Value.int IntKind.i64 h),C.l eI m] [Ci n,Ci h,C.l eI m]/\s.1.1.2=s.1.1.2/\(SEq s.1.2.1.length (fun i=>Gv.eComp (nth s.1.2.1 i)) s.1.2.1.length fun i=>Gv.eComp (nth s.1.2.1 i))/\(sR eI s.1.2.3)/\s.2=s.2/\MEq (tkD s) (tkV s) (tkD s) (tkV s)/\MEq (coD s) (coV s) (coD s) (coV s)/\Does Tryz.prog Y Gl yd0 (75:FuncId) [T.addr FAR (0:Nat),T.d A3] (Kk s) A2 []/\Value.iface (275:Nat) (Value.agg (Array.mk [Value.string A0]))=Value.iface (275:Nat) (Value.agg (Array.mk [Value.string A0]))/\e.1=e.1/\e.1=e.1/\(sR eI e.2)/\(sR Al l)/\(sR Ad su.1.1)/\su.1.2=su.1.2/\su.1.3=su.1.3/\(SEq su.2.1.length (fun i=>Gv.eComp (nth su.2.1 i)) su.2.1.length fun i=>Gv.eComp (nth su.2.1 i))/\(sR eI su.2.2)/\(sR eI su.2.3)/\su.3=su.3/\su.4=su.4/\(sR eCp su.5)/\su.6.1=su.6.1/\su.6.2=su.6.2/\su.6.3=su.6.3/\su.6.4=su.6.4/\su.6.5=su.6.5/\su.6.6=su.6.6/\SEq su.6.7.length (fun i=>Py.eLine (nth su.6.7 i)) su.6.7.length fun i=>Py.eLine (nth su.6.7 i)))) Tryz.func72 (by kernel_rfl) (by kernel_rfl) ?_
 simp only [stdS,imp_self,implies_true,and_true,he,Zi]
 exact ⟨hn,hx,⟨.inl rfl,.inl rfl,.inl rfl,trivial⟩,hy,trivial⟩
abbrev f72:T:=.fn 72 [] [.addr FAR 0,.addr (FAR+1) 0,.addr (FAR+2) 0]
def Fq (su:Su) (x:T):Env:=(2,FAR,live)::(FAR+3,16,x)::(FAR+3,17,B true)::Dp FAR 0 (cS su)
theorem Ax0 {Gl} (S:SP Gl) (su:Su) (e:Ent) (h1:1<=e.nums.length) (h2:e.nums.length<=8) (hf:CO Gl 68 [.d (.agg (Al e))] (.ret (B true))) (hr:Does Tryz.prog Y Gl yd0 71 [f72] (Im su (.d (.c (.l Al []))) e) (.ret (I 0)) []):Does Tryz.prog Y Gl yd0 23 [.addr FAR 0,.d (.agg (Al e))] (Fq su (.d (.c (.v (.slice none 0 0))))) (.ret (I 0)) [(FAR+3,16,.d (.c (.l Al [e])))]:=by
 refine Ef S (let A0:=(SEq su.2.1.length (fun i=>Gv.eComp (nth su.2.1 i)) su.2.1.length fun i=>Gv.eComp (nth su.2.1 i));let A1:=(D.c (C.v (Value.slice none 0 0)));((.w [(nat_lit 100000,nat_lit 100000)] [T.addr FAR (0:Nat)] [((2:Nat),FAR,live),(FAR+(3:Nat),(17:Nat),B true)] (.ret (B true)) [] (.ff (.r (.ret (B true)) (.ff (.ff (.r (.ret (L eI (Ent.nums e))) (.r (.ret (T.d A1)) (.w [(nat_lit 100000,nat_lit 2),(nat_lit 100001,nat_lit 3),(nat_lit 100002,nat_lit 5),(nat_lit 100003,nat_lit 100000)] [f72] (Im su (T.d (D.c (C.l Al []))) e) (.ret (I 0)) [] (.tt .nil))))))))),(true=true/\Does Tryz.prog Y Gl yd0 (67:FuncId) [T.addr FAR (0:Nat)] [((2:Nat),FAR,live),(FAR+(3:Nat),(17:Nat),B true)] (.ret (B true)) []/\false=false/\CO Gl 68 [T.d (D.agg (Al e))] (.ret (B true))/\false=false/\((0:Nat)<=maxLen->false=false/\CO Gl 69 [L eI (Ent.nums e)] (.ret (L eI (Ent.nums e)))/\CO Gl 70 [T.d A1] (.ret (T.d A1))/\(1:Nat)*32<=140737488355328/\(1:Nat)<=(140737488355328:Nat)/\(72:Nat)=(72:Nat)/\e.1=e.1/\e.1=e.1/\(sR eI e.2)/\(0:Nat)=(0:Nat)/\(sR Ad su.1.1)/\su.1.2=su.1.2/\su.1.3=su.1.3/\A0/\(sR eI su.2.2)/\(sR eI su.2.3)/\su.3=su.3/\su.4=su.4/\(sR eCp su.5)/\su.6.1=su.6.1/\su.6.2=su.6.2/\su.6.3=su.6.3/\su.6.4=su.6.4/\su.6.5=su.6.5/\su.6.6=su.6.6/\(SEq su.6.7.length (fun i=>Py.eLine (nth su.6.7 i)) su.6.7.length fun i=>Py.eLine (nth su.6.7 i))/\Does Tryz.prog Y Gl yd0 (71:FuncId) [f72] (Im su (T.d (D.c (C.l Al []))) e) (.ret (I 0)) []/\true=true/\(0:Int)=0/\(SEq (1:Nat) (fun i=>List.getD [List.map C.dem (List.map C.dem [C.v (Value.int IntKind.i64 e.1),C.s Tag.n e.2.length fun i=>eI (nth e.2 i)])] i []) (List.length [e]) fun i=>Al (nth [e] i))/\true=true/\(sR Ad su.1.1)/\su.1.2=su.1.2/\su.1.3=su.1.3/\A0/\(sR eI su.2.2)/\(sR eI su.2.3)/\su.3=su.3/\su.4=su.4/\(sR eCp su.5)/\su.6.1=su.6.1/\su.6.2=su.6.2/\su.6.3=su.6.3/\su.6.4=su.6.4/\su.6.5=su.6.5/\su.6.6=su.6.6/\SEq su.6.7.length (fun i=>Py.eLine (nth su.6.7 i)) su.6.7.length fun i=>Py.eLine (nth su.6.7 i))))) Tryz.func23 (by kernel_rfl) (by kernel_rfl) ?_
 simp only [stdS,imp_self,implies_true,and_true]
 refine ⟨Al7 S,hf,fun _=>⟨Qz S e.nums h1 (by omega),Awx S,by omega,by omega,hr,.of ⟨rfl,fun i hi=>?_⟩,trivial⟩⟩
 obtain rfl:i=0:=by omega
 rfl
theorem Al9 {Gl} (S:SP Gl) (su:Su) (l:List Ent) (e:Ent) (v:Int) (h1:1<=e.nums.length) (h2:e.nums.length<=8) (g1:1<=l.length) (g2:l.length<=20) (g24:((l.length:Int)==24)=false) (hf:CO Gl 68 [.d (.agg (Al e))] (.ret (B true))) (hr:Does Tryz.prog Y Gl yd0 71 [f72] (Im su (.d (.c (.l Al l))) e) (.ret (I v)) []):Does Tryz.prog Y Gl yd0 23 [.addr FAR 0,.d (.agg (Al e))] (Fq su (.d (.c (.l Al l)))) (.ret (I v)) [(FAR+3,16,.d (.c (.l Al (bif v==0 then l++[e] else l))))]:=by
 refine Ef S (let A0:=(SEq su.2.1.length (fun i=>Gv.eComp (nth su.2.1 i)) su.2.1.length fun i=>Gv.eComp (nth su.2.1 i));let A1:=(bif v==(0:Int) then l++[e] else l);let A2:=(fun (i:Nat)=>Py.eLine (nth su.6.7 i));let A3:=(T.tkd (82:Nat) (2:Nat) l.length fun i=>Al (nth l i));((.w [(nat_lit 100000,nat_lit 100000)] [T.addr FAR (0:Nat)] [((2:Nat),FAR,live),(FAR+(3:Nat),(17:Nat),B true)] (.ret (B true)) [] (.ff (.r (.ret (B true)) (.ff (.val 22 false (.ff (.r (.ret (L eI (Ent.nums e))) (.r (.ret A3) (.w [(nat_lit 100000,nat_lit 2),(nat_lit 100001,nat_lit 3),(nat_lit 100002,nat_lit 5),(nat_lit 100003,nat_lit 100000)] [f72] (Im su (T.d (D.c (C.l Al l))) e) (.ret (I v)) [] (.br .nil .nil)))))))))),(true=true/\Does Tryz.prog Y Gl yd0 (67:FuncId) [T.addr FAR (0:Nat)] [((2:Nat),FAR,live),(FAR+(3:Nat),(17:Nat),B true)] (.ret (B true)) []/\false=false/\CO Gl 68 [T.d (D.agg (Al e))] (.ret (B true))/\false=false/\(l.length<=maxLen->((l.length:Int)==24)=false/\false=false/\CO Gl 69 [L eI (Ent.nums e)] (.ret (L eI (Ent.nums e)))/\CO Gl 70 [T.d (D.c (C.l Al l))] (.ret A3)/\(l.length+1)*32<=140737488355328/\l.length+1<=140737488355328/\(72:Nat)=(72:Nat)/\e.1=e.1/\e.1=e.1/\(sR eI e.2)/\(sR Al l)/\(sR Ad su.1.1)/\su.1.2=su.1.2/\su.1.3=su.1.3/\A0/\(sR eI su.2.2)/\(sR eI su.2.3)/\su.3=su.3/\su.4=su.4/\(sR eCp su.5)/\su.6.1=su.6.1/\su.6.2=su.6.2/\su.6.3=su.6.3/\su.6.4=su.6.4/\su.6.5=su.6.5/\su.6.6=su.6.6/\(SEq su.6.7.length A2 su.6.7.length fun i=>Py.eLine (nth su.6.7 i))/\Does Tryz.prog Y Gl yd0 (71:FuncId) [f72] (Im su (T.d (D.c (C.l Al l))) e) (.ret (I v)) []/\((v==(0:Int))=true->v=v/\(SEq (l.length+1) (Ar l.length (fun i=>Al (nth l i)) fun i=>List.getD [List.map C.dem (List.map C.dem [C.v (Value.int IntKind.i64 e.1),C.s Tag.n e.2.length fun i=>eI (nth e.2 i)])] i []) (List.length A1) fun i=>Al (nth A1 i))/\true=true/\(sR Ad su.1.1)/\su.1.2=su.1.2/\su.1.3=su.1.3/\A0/\(sR eI su.2.2)/\(sR eI su.2.3)/\su.3=su.3/\su.4=su.4/\(sR eCp su.5)/\su.6.1=su.6.1/\su.6.2=su.6.2/\su.6.3=su.6.3/\su.6.4=su.6.4/\su.6.5=su.6.5/\su.6.6=su.6.6/\SEq su.6.7.length A2 su.6.7.length fun i=>Py.eLine (nth su.6.7 i))/\((v==(0:Int))=false->v=v/\(sQ Al l A1)/\true=true/\(sR Ad su.1.1)/\su.1.2=su.1.2/\su.1.3=su.1.3/\A0/\(sR eI su.2.2)/\(sR eI su.2.3)/\su.3=su.3/\su.4=su.4/\(sR eCp su.5)/\su.6.1=su.6.1/\su.6.2=su.6.2/\su.6.3=su.6.3/\su.6.4=su.6.4/\su.6.5=su.6.5/\su.6.6=su.6.6/\SEq su.6.7.length A2 su.6.7.length fun i=>Py.eLine (nth su.6.7 i)))))) Tryz.func23 (by kernel_rfl) (by kernel_rfl) ?_
 have hq:=Oc (f:=Al) (l:=l) (r:=l++[e]) (x:=e) rfl rfl
 simp only [stdS,imp_self,implies_true,and_true]
 refine ⟨Al7 S,hf,fun _=>⟨g24,Qz S e.nums h1 (by omega),Aww S l g1 (by omega),by omega,by omega,hr,fun hv=>?_,fun hv=>?_⟩⟩
 ·rw [hv,cond_true];exact ⟨hq,trivial⟩
 ·rw [hv,cond_false];exact ⟨.of ⟨rfl,fun _ _=>rfl⟩,trivial⟩
def aN (b:Gv.Book):T:=.arrc false 7 3 fun i=>Gv.eComp (nth b.comps i)
theorem Ax1 {Gl} (S:SP Gl)  :CO Gl 64 [] (.new (.ag [.arr 12 3,L eI Dt.dues,L eI Dt.sheets]) ((2,12,aN Dt)::bT 0 [.arr 12 3,L eI Dt.dues,L eI Dt.sheets])):=by
 refine Te S (.r (.ret (T.d (D.agg (Ad (Span.mk (1:Int) (2:Int)))))) (.r (.ret (T.d (D.agg (Ad (Span.mk (2:Int) (3:Int)))))) (.r (.ret (T.d (D.agg (Ad (Span.mk (1:Int) (1:Int)))))) (.r (.ret (T.d (D.agg (Ad (Span.mk (0:Int) (1:Int)))))) (.r (.ret (T.d (D.agg (Ad (Span.mk (1:Int) (2:Int)))))) (.r (.ret (T.d (D.agg (Ad (Span.mk (1:Int) (2:Int)))))) (.r (.ret (T.d (D.agg (Ad (Span.mk (3:Int) (3:Int)))))) (.r (.ret (T.d (D.agg (Ad (Span.mk (1:Int) (1:Int)))))) (.arrA (12:Nat) .nil))))))))) Tryz.func64 (by kernel_rfl) (v 0 (ad 0)::(2,12,aN Dt)::bT 0 [.arr 12 3,L eI Dt.dues,L eI Dt.sheets]) rfl (T.ag [T.arr 12 (3:Nat),L eI (Gv.Book.dues Dt),L eI (Gv.Book.sheets Dt)]=T.ag [T.arr 12 (3:Nat),T.d (D.c (C.s Tag.n (2:Nat) fun i=>eI (nth [(12:Int),(9:Int)] i))),T.d (D.c (C.s Tag.n (2:Nat) fun i=>eI (nth [(0:Int),(1:Int)] i)))]/\CO Gl 137 [I 1,I 2] (.ret (T.d (D.agg (Ad (Span.mk (1:Int) (2:Int))))))/\CO Gl 137 [I 2,I 3] (.ret (T.d (D.agg (Ad (Span.mk (2:Int) (3:Int))))))/\CO Gl 137 [I 1,I 1] (.ret (T.d (D.agg (Ad (Span.mk (1:Int) (1:Int))))))/\CO Gl 137 [I 0,I 1] (.ret (T.d (D.agg (Ad (Span.mk (0:Int) (1:Int))))))/\CO Gl 137 [I 1,I 2] (.ret (T.d (D.agg (Ad (Span.mk (1:Int) (2:Int))))))/\CO Gl 137 [I 1,I 2] (.ret (T.d (D.agg (Ad (Span.mk (1:Int) (2:Int))))))/\CO Gl 137 [I 3,I 3] (.ret (T.d (D.agg (Ad (Span.mk (3:Int) (3:Int))))))/\CO Gl 137 [I 1,I 1] (.ret (T.d (D.agg (Ad (Span.mk (1:Int) (1:Int))))))/\(SEq (3:Nat) (fun i=>List.getD [List.map C.dem (List.map C.dem [C.v (Value.int IntKind.i64 (0:Int)),C.v (Value.int IntKind.i64 (1:Int)),C.v (Value.int IntKind.i64 (2:Int)),C.v (Value.int IntKind.i64 (2:Int)),C.v (Value.int IntKind.i64 (3:Int)),C.v (Value.int IntKind.i64 (1:Int)),C.v (Value.int IntKind.i64 (1:Int))]),List.map C.dem (List.map C.dem [C.v (Value.int IntKind.i64 (1:Int)),C.v (Value.int IntKind.i64 (0:Int)),C.v (Value.int IntKind.i64 (1:Int)),C.v (Value.int IntKind.i64 (1:Int)),C.v (Value.int IntKind.i64 (2:Int)),C.v (Value.int IntKind.i64 (1:Int)),C.v (Value.int IntKind.i64 (2:Int))]),List.map C.dem (List.map C.dem [C.v (Value.int IntKind.i64 (0:Int)),C.v (Value.int IntKind.i64 (0:Int)),C.v (Value.int IntKind.i64 (0:Int)),C.v (Value.int IntKind.i64 (3:Int)),C.v (Value.int IntKind.i64 (3:Int)),C.v (Value.int IntKind.i64 (1:Int)),C.v (Value.int IntKind.i64 (1:Int))])] i []) (3:Nat) fun i=>Gv.eComp (nth [Gv.Comp.mk (0:Int) (Span.mk (1:Int) (2:Int)) (Span.mk (2:Int) (3:Int)) (Span.mk (1:Int) (1:Int)),Gv.Comp.mk (1:Int) (Span.mk (0:Int) (1:Int)) (Span.mk (1:Int) (2:Int)) (Span.mk (1:Int) (2:Int)),Gv.Comp.mk (0:Int) (Span.mk (0:Int) (0:Int)) (Span.mk (3:Int) (3:Int)) (Span.mk (1:Int) (1:Int))] i))/\(3:Nat)=(3:Nat)/\(SEq (2:Nat) (fun i=>List.getD [List.map C.dem [C.v (Value.int IntKind.i64 (12:Int))],List.map C.dem [C.v (Value.int IntKind.i64 (9:Int))]] i []) (List.length [(12:Int),(9:Int)]) fun i=>eI (nth [(12:Int),(9:Int)] i))/\SEq (2:Nat) (fun i=>List.getD [List.map C.dem [C.v (Value.int IntKind.i64 (0:Int))],List.map C.dem [C.v (Value.int IntKind.i64 (1:Int))]] i []) (List.length [(0:Int),(1:Int)]) fun i=>eI (nth [(0:Int),(1:Int)] i)) (by kernel_rfl) ?_
 have hI:∀ a b:Int,SEq 2 (fun i=>List.getD [List.map C.dem [C.v (Value.int IntKind.i64 a)],List.map C.dem [C.v (Value.int IntKind.i64 b)]] i []) 2 fun i=>eI (nth [a,b] i):=fun a b=>.of ⟨rfl,fun i hi=>by match i,hi with|0,_=>rfl|1,_=>rfl⟩
 have hp:=Avo S
 refine ⟨rfl,hp _ _,hp _ _,hp _ _,hp _ _,hp _ _,hp _ _,hp _ _,hp _ _,.of ⟨rfl,fun i hi=>?_⟩,rfl,hI _ _,hI _ _⟩
 match i,hi with|0,_=>rfl|1,_=>rfl|2,_=>rfl
def Oj:Su:=⟨Zc,Dt,1,2,Hu,Qx⟩
def sN (s:Su) (x:T):List T:=[.d (.c (.l Ad s.p.starts)),I s.p.rows,I s.p.guard,x,L eI s.b.dues,L eI s.b.sheets,I s.e,I s.pl,.d (.c (.l eCp s.cs)),I s.y.hands,I s.y.unit,I s.y.sheet,I s.y.error,I s.y.morn,I s.y.post,.d (.c (.l Py.eLine s.y.lines))]
theorem Ax2 {Gl} (S:SP Gl)  :CO Gl 21 [] (.new (.ag (sN Oj (.arr 9012 3))) ((2,9012,aN Dt)::bT 0 (sN Oj (.arr 9012 3)))):=by
 refine Te S (.r (.ret (T.d (D.agg (Py.cPB exPB)))) (.n [(nat_lit 12,nat_lit 9012),(nat_lit 0,nat_lit 9000)] (Res.new (T.ag [T.arr 12 (3:Nat),L eI (Gv.Book.dues Dt),L eI (Gv.Book.sheets Dt)]) (((2:Nat),(12:Nat),aN Dt)::bT (0:Nat) [T.arr 12 (3:Nat),L eI (Gv.Book.dues Dt),L eI (Gv.Book.sheets Dt)])) (.r (.ret (tTr (2:Int) Hu)) .nil))) Tryz.func21 (by kernel_rfl) (v 0 (ad 0)::(2,9012,aN Dt)::bT 0 (sN Oj (.arr 9012 3))) rfl (T.ag (sN Oj (T.arr 9012 (3:Nat)))=T.ag [T.d (D.c (C.s Tag.n (2:Nat) fun i=>Ad (nth [Span.mk (120:Int) (122:Int),Span.mk (4:Int) (6:Int)] i))),T.d (D.c (C.v (Value.int IntKind.i64 (4:Int)))),T.d (D.c (C.v (Value.int IntKind.i64 (1:Int)))),T.arr 9012 (3:Nat),T.d (D.c (C.s Tag.n (2:Nat) fun i=>eI (nth [(12:Int),(9:Int)] i))),T.d (D.c (C.s Tag.n (2:Nat) fun i=>eI (nth [(0:Int),(1:Int)] i))),T.d (D.c (C.v (Value.int IntKind.i64 (1:Int)))),T.d (D.c (C.v (Value.int IntKind.i64 (2:Int)))),T.d (D.c (C.s Tag.n (6:Nat) fun i=>eCp (nth Hu i))),T.d (D.c (C.v (Value.int IntKind.i64 (3:Int)))),T.d (D.c (C.v (Value.int IntKind.i64 (4:Int)))),T.d (D.c (C.v (Value.int IntKind.i64 (30:Int)))),T.d (D.c (C.v (Value.int IntKind.i64 (5:Int)))),T.d (D.c (C.v (Value.int IntKind.i64 (12:Int)))),T.d (D.c (C.v (Value.int IntKind.i64 (2:Int)))),T.d (D.c (C.s Tag.n (3:Nat) fun i=>Py.eLine (nth [Py.Line.mk (0:Int) (3:Int) (Span.mk (1:Int) (2:Int)) (1:Int) (0:Int) (0:Int) (2:Int) (0:Int) (0:Int),Py.Line.mk (1:Int) (2:Int) (Span.mk (0:Int) (1:Int)) (0:Int) (3:Int) (0:Int) (1:Int) (3:Int) (0:Int),Py.Line.mk (0:Int) (2:Int) (Span.mk (0:Int) (0:Int)) (2:Int) (1:Int) (0:Int) (1:Int) (9:Int) (0:Int)] i)))]/\CO Gl 63 [] (.ret (T.d (D.agg (Py.cPB exPB))))/\CO Gl 64 [] (Res.new (T.ag [T.arr 12 (3:Nat),L eI (Gv.Book.dues Dt),L eI (Gv.Book.sheets Dt)]) (((2:Nat),(12:Nat),aN Dt)::bT (0:Nat) [T.arr 12 (3:Nat),L eI (Gv.Book.dues Dt),L eI (Gv.Book.sheets Dt)]))/\CO Gl 51 [] (.ret (tTr (2:Int) Hu))/\(SEq (3:Nat) (fun i=>Gv.eComp (nth [Gv.Comp.mk (0:Int) (Span.mk (1:Int) (2:Int)) (Span.mk (2:Int) (3:Int)) (Span.mk (1:Int) (1:Int)),Gv.Comp.mk (1:Int) (Span.mk (0:Int) (1:Int)) (Span.mk (1:Int) (2:Int)) (Span.mk (1:Int) (2:Int)),Gv.Comp.mk (0:Int) (Span.mk (0:Int) (0:Int)) (Span.mk (3:Int) (3:Int)) (Span.mk (1:Int) (1:Int))] i)) (3:Nat) fun i=>Gv.eComp (nth [Gv.Comp.mk (0:Int) (Span.mk (1:Int) (2:Int)) (Span.mk (2:Int) (3:Int)) (Span.mk (1:Int) (1:Int)),Gv.Comp.mk (1:Int) (Span.mk (0:Int) (1:Int)) (Span.mk (1:Int) (2:Int)) (Span.mk (1:Int) (2:Int)),Gv.Comp.mk (0:Int) (Span.mk (0:Int) (0:Int)) (Span.mk (3:Int) (3:Int)) (Span.mk (1:Int) (1:Int))] i))/\(SEq (2:Nat) (fun i=>List.getD [List.map C.dem (List.map C.dem [C.v (Value.int IntKind.i64 (120:Int)),C.v (Value.int IntKind.i64 (122:Int))]),List.map C.dem (List.map C.dem [C.v (Value.int IntKind.i64 (4:Int)),C.v (Value.int IntKind.i64 (6:Int))])] i []) (List.length [Span.mk (120:Int) (122:Int),Span.mk (4:Int) (6:Int)]) fun i=>Ad (nth [Span.mk (120:Int) (122:Int),Span.mk (4:Int) (6:Int)] i))/\(4:Int)=4/\(1:Int)=1/\(3:Nat)=(3:Nat)/\(SEq (2:Nat) (fun i=>eI (nth [(12:Int),(9:Int)] i)) (List.length [(12:Int),(9:Int)]) fun i=>eI (nth [(12:Int),(9:Int)] i))/\(SEq (2:Nat) (fun i=>eI (nth [(0:Int),(1:Int)] i)) (List.length [(0:Int),(1:Int)]) fun i=>eI (nth [(0:Int),(1:Int)] i))/\(1:Int)=1/\(2:Int)=2/\(SEq (6:Nat) (fun i=>eCp (nth Hu i)) Hu.length fun i=>eCp (nth Hu i))/\(3:Int)=3/\(4:Int)=4/\(30:Int)=30/\(5:Int)=5/\(12:Int)=12/\(2:Int)=2/\SEq (3:Nat) (fun i=>Py.eLine (nth [Py.Line.mk (0:Int) (3:Int) (Span.mk (1:Int) (2:Int)) (1:Int) (0:Int) (0:Int) (2:Int) (0:Int) (0:Int),Py.Line.mk (1:Int) (2:Int) (Span.mk (0:Int) (1:Int)) (0:Int) (3:Int) (0:Int) (1:Int) (3:Int) (0:Int),Py.Line.mk (0:Int) (2:Int) (Span.mk (0:Int) (0:Int)) (2:Int) (1:Int) (0:Int) (1:Int) (9:Int) (0:Int)] i)) (List.length [Py.Line.mk (0:Int) (3:Int) (Span.mk (1:Int) (2:Int)) (1:Int) (0:Int) (0:Int) (2:Int) (0:Int) (0:Int),Py.Line.mk (1:Int) (2:Int) (Span.mk (0:Int) (1:Int)) (0:Int) (3:Int) (0:Int) (1:Int) (3:Int) (0:Int),Py.Line.mk (0:Int) (2:Int) (Span.mk (0:Int) (0:Int)) (2:Int) (1:Int) (0:Int) (1:Int) (9:Int) (0:Int)]) fun i=>Py.eLine (nth [Py.Line.mk (0:Int) (3:Int) (Span.mk (1:Int) (2:Int)) (1:Int) (0:Int) (0:Int) (2:Int) (0:Int) (0:Int),Py.Line.mk (1:Int) (2:Int) (Span.mk (0:Int) (1:Int)) (0:Int) (3:Int) (0:Int) (1:Int) (3:Int) (0:Int),Py.Line.mk (0:Int) (2:Int) (Span.mk (0:Int) (0:Int)) (2:Int) (1:Int) (0:Int) (1:Int) (9:Int) (0:Int)] i)) (by kernel_rfl) ?_
 have hr:∀ (n:Nat) (f:Nat->List C),SEq n f n f:=fun _ _=>.of ⟨rfl,fun _ _=>rfl⟩
 exact ⟨rfl,Avp S,Ax1 S,Aug S,hr _ _,.of ⟨rfl,fun i hi=>by match i,hi with|0,_=>rfl|1,_=>rfl⟩,rfl,rfl,rfl,hr _ _,hr _ _,rfl,rfl,hr _ _,rfl,rfl,rfl,rfl,rfl,rfl,hr _ _⟩
def bD (p w:Span):Gv.Book:=⟨[⟨0,p,w,⟨1,1⟩⟩,⟨1,⟨0,1⟩,⟨1,2⟩,⟨1,2⟩⟩,⟨0,⟨0,0⟩,⟨3,3⟩,⟨1,1⟩⟩],[12,9],[0,1]⟩
def suD (p w:Span):Su:=⟨Zc,bD p w,1,2,Hu,Qx⟩
structure Dk (p w:Span) (n:Int):Prop where
 k1:decide (p.lo<0)=false
 k2:decide (p.hi<p.lo)=false
 k3:decide (5<p.hi)=false
 k4:decide (w.lo<1)=false
 k5:decide (w.hi<w.lo)=false
 k6:decide (5<w.hi)=false
 k7:decide (n<0)=false
 k8:decide (99<n)=false
theorem Dk.all {p w:Span} {n:Int} (h:Dk p w n):(0<=p.lo/\p.lo<=p.hi/\p.hi<=5)/\(1<=w.lo/\w.lo<=w.hi/\w.hi<=5)/\0<=n/\n<=99:=by
 obtain ⟨h1,h2,h3,h4,h5,h6,h7,h8⟩:=h
 simp only [decide_eq_false_iff_not] at *
 omega
theorem Ala {p w:Span} {n:Int} (h:Dk p w n):(⟨0,p,w,⟨1,1⟩⟩:Gv.Comp).fine=true:=by
 have:=h.all
 unfold Gv.Comp.fine Span.isIn
 simp only [Bool.and_eq_true,Bo]
 omega
theorem okD {p w:Span} {n:Int} (h:Dk p w n):(bD p w).ok=true:=by
 unfold Gv.Book.ok bD
 simp only [List.all_cons,Ala h,Bool.true_and]
 rfl
theorem okD1 {p w:Span} {n:Int} (h:Dk p w n):(bk1 (bD p w) 0).ok=true:=by
 unfold Gv.Book.ok bk1 bD
 simp only [List.all_cons,Ala h,Bool.true_and]
 rfl
theorem Zk {p w:Span} {n:Int} (h:Dk p w n):Qy (suD p w)=true:=by
 have h1:Em Zc=true:=by decide +kernel
 have h2:Dx 2 Hu=true:=by decide +kernel
 have h3:Py.okPB Qx=true:=by decide +kernel
 have h4:Oh Qx=true:=by decide +kernel
 have h5:okC (suD p w)=true:=by
  show (Em Zc&&(bD p w).ok&&Dx 2 Hu&&Py.okPB Qx)=true
  rw [h1,h2,h3,okD h];rfl
 unfold Qy
 rw [h5,show (suD p w).y=Qx from rfl,h4]
 show (true&&(true&&decide ((4:Int)<=6)&&(4:Int).tmod ((2:Nat):Int)==0&&inR 1 0 2&&(3:Int)==((3:Nat):Int)))=true
 decide +kernel
def Kl:List Gv.Task:=[⟨0,1,2⟩,⟨1,2,0⟩]
theorem whyD {p w:Span} {n:Int} (h:Dk p w n):Gv.whyErr (bk1 (bD p w) 0) [⟨0,1,2⟩]=5:=by
 unfold Gv.whyErr
 rw [Gv.open_iff.2 ⟨okD1 h,rfl⟩]
 rfl
theorem goodD (p w:Span):(bD p w).good Kl=true:=rfl
theorem backD {p w:Span} {n:Int} (h:Dk p w n):2*p.lo+w.lo<(nth (Gv.backs (bD p w) Kl) 0).lo:=by
 have:=h.all
 rw [Gv.backs_nth (by decide)]
 have h1:Gv.home Kl ((bD p w).ends false) 0 0 false=2*p.lo+((1:Nat):Int)*w.lo:=rfl
 show _<max (max (Gv.home Kl ((bD p w).ends false) 0 0 false) (Gv.home Kl ((bD p w).ends false) 0 1 false)+0) 0+1+0
 rw [h1]
 omega
def eG2:Ent:=⟨2,[0,0,1,2]⟩
def eW1 (n:Int):Ent:=⟨1,[n]⟩
def eC3:Ent:=⟨3,[0,0,121,126]⟩
def Ur (p w:Span):Int:=2*p.lo+w.lo
def Ji (p w:Span) (n:Int):Int:=bif decide (Ur p w<=n) then 0 else 7
def Io (n:Int):List Ent:=bif decide (0<n) then [eG2,eW1 n] else [eG2]
def s1D (p w:Span):St:=Hv (Cl (suD p w)) 0 0 1 2
def s2D (p w:Span) (n:Int):St:=bif decide (0<n) then Up (s1D p w) n else s1D p w
section
variable {Gl:World->Prop}
variable (S:Set Tryz.prog Y Gl)
include S
theorem doG {p w:Span} {n:Int} (h:Dk p w n):Does Tryz.prog Y Gl yd0 75 [.addr FAR 0,.d (.c (.v (.iface 284 (.agg #[.int .i64 0,.int .i64 0,.int .i64 1,.int .i64 2]))))] (stB FAR (FAR+1) (Cl (suD p w))) (.ret (.tup [])) (stB FAR (FAR+1) (s1D p w)):=
 Awl S (Cl (suD p w)) 0 0 1 2 rfl rfl (show 2<=3 by decide) (whyD h)
theorem doW {p w:Span} {n:Int} (h:Dk p w n) (h0:0<n):Does Tryz.prog Y Gl yd0 75 [.addr FAR 0,.d (.c (.v (.iface 282 (.agg #[.int .i64 n]))))] (stB FAR (FAR+1) (s1D p w)) (.ret (.tup [])) (stB FAR (FAR+1) (Up (s1D p w) n)):=by
 have:=h.all
 exact Awm S (s1D p w) n (by omega) (show 0+n<=99 by omega) (show (0:Int)<=0 by decide)
theorem giveE {p w:Span} {n:Int} (h:Dk p w n):Does Tryz.prog Y Gl yd0 71 [f72] (Im (suD p w) (.d (.c (.l Al []))) eG2) (.ret (I 0)) []:=
 attempt74_does (fst:=[]) rfl rfl (Al8 S (suD p w) _ [] eG2 _ _ _ _ (Zj S (suD p w) [] (fun _=>Cl (suD p w)) (fun _=>0) (fun _=>.int .i64 0) (Uo (Zk h)).1 (by decide) (fun i hi=>absurd hi (Nat.not_lt_zero i)) rfl (fun i hi=>absurd hi (Nat.not_lt_zero i)) (fun i hi=>absurd hi (Nat.not_lt_zero i))) rfl (Zg S 0 0 1 2 _ rfl) (doG S h)) .ok
theorem waitE {p w:Span} {n:Int} (h:Dk p w n) (h0:0<n):Does Tryz.prog Y Gl yd0 71 [f72] (Im (suD p w) (.d (.c (.l Al [eG2]))) (eW1 n)) (.ret (I 0)) []:=
 attempt74_does (fst:=[]) rfl rfl (Al8 S (suD p w) _ [eG2] (eW1 n) _ _ _ _ (Zj S (suD p w) [eG2] (fun k=>match k with|0=>Cl (suD p w)|_=>s1D p w) (fun _=>284) (fun _=>.agg #[.int .i64 0,.int .i64 0,.int .i64 1,.int .i64 2]) (Uo (Zk h)).1 (by decide) (fun i hi=>match i,hi with|0,_=>rfl) rfl (fun i hi=>match i,hi with|0,_=>Zg S 0 0 1 2 _ rfl) (fun i hi=>match i,hi with|0,_=>doG S h)) rfl (Al0 S n _ rfl) (doW S h h0)) .ok
theorem nowE {p w:Span} {n:Int} (h:Dk p w n):∃ nn,CO Gl 73 [.d (.agg (cS (suD p w))),.d (.c (.l Al (Io n)))] (.new (.addr 10010 0) ((10013,21,L eI nn)::stB 10010 10005 (s2D p w n))):=by
 have hc:=(Uo (Zk h)).1
 unfold Io s2D
 cases h0:decide (0<n) with
 |false=>exact ⟨_,Zj S (suD p w) [eG2] (fun k=>match k with|0=>Cl (suD p w)|_=>s1D p w) (fun _=>284) (fun _=>.agg #[.int .i64 0,.int .i64 0,.int .i64 1,.int .i64 2]) hc (by decide) (fun i hi=>match i,hi with|0,_=>rfl) rfl (fun i hi=>match i,hi with|0,_=>Zg S 0 0 1 2 _ rfl) (fun i hi=>match i,hi with|0,_=>doG S h)⟩
 |true=>exact ⟨_,Zj S (suD p w) [eG2,eW1 n] (fun k=>match k with|0=>Cl (suD p w)|1=>s1D p w|_=>Up (s1D p w) n) (fun k=>match k with|0=>284|_=>282) (fun k=>match k with|0=>.agg #[.int .i64 0,.int .i64 0,.int .i64 1,.int .i64 2]|_=>.agg #[.int .i64 n]) hc (show 2<=1000 by decide) (fun i hi=>match i,hi with|0,_=>rfl|1,_=>rfl) rfl (fun i hi=>match i,hi with|0,_=>Zg S 0 0 1 2 _ rfl|1,_=>Al0 S n _ rfl) (fun i hi=>match i,hi with|0,_=>doG S h|1,_=>doW S h (of_decide_eq_true h0))⟩
theorem colE {p w:Span} {n:Int} (h:Dk p w n):Does Tryz.prog Y Gl yd0 71 [f72] (Im (suD p w) (.d (.c (.l Al (Io n)))) eC3) (.ret (I (Ji p w n))) []:=by
 obtain ⟨nn,hn⟩:=nowE S h
 have ha:=h.all
 have hs:(s2D p w n).su=suD p w/\(s2D p w n).day=n/\(s2D p w n).tk=(s1D p w).tk/\(s2D p w n).co=(Cl (suD p w)).co:=by
  unfold s2D
  cases h0:decide (0<n) with
  |true=>exact ⟨rfl,show 0+n=n by omega,rfl,rfl⟩
  |false=>
   have:=of_decide_eq_false h0
   exact ⟨rfl,show (0:Int)=n by omega,rfl,rfl⟩
 obtain ⟨e1,e2,e3,e4⟩:=hs
 have W:WrOK (s2D p w n) 0 0 [121,126]:=by
  refine ⟨?_,?_,?_,by decide +kernel,?_,?_,?_,?_,by decide⟩
  ·unfold coD;rw [e4];rfl
  ·unfold tkD;rw [e3];rfl
  ·rw [e1];show (((2:Nat):Int)==(4:Int).tdiv ((2:Nat):Int))=true;decide +kernel
  ·rw [e1];exact ⟨show (0:Int)<=4 by decide,show (4:Int)<=12 by decide⟩
  ·rw [e1];exact okD h
  ·rw [e1];show inR 0 0 (((3:Nat):Int) - 1)=true;decide +kernel
  ·rw [e3];exact ⟨show (0:Int)<=0 by decide,show (0:Int)<=99 by decide⟩
 have hI:=Awi S (s2D p w n) 0 0 W.tk (by rw [e3];rfl)
 have hh:home (s2D p w n) 0 0=Ur p w:=by
  unfold home
  rw [e3,e1]
  show 0+2*p.lo+w.lo=2*p.lo+w.lo
  omega
 unfold Ji
 cases hd:decide (Ur p w<=n) with
 |true=>exact attempt74_does (fst:=[]) rfl rfl (Awy S (suD p w) nn (Io n) eC3 _ _ 0 0 [121,126] hn rfl (Al1 S 0 0 [121,126] _ rfl) (doCol S _ 0 0 _ W hI (by rw [hh,e2];exact hd))) .ok
 |false=>exact attempt74_does (fst:=[]) rfl rfl (Awz S (suD p w) nn (Io n) eC3 _ 0 0 [121,126] hn rfl (Al1 S 0 0 [121,126] _ rfl) (Awq S _ 0 0 _ W hI (by rw [hh,e2];exact hd))) (.row _)
end
section
variable {Gl:World->Prop}
variable (S:Set Tryz.prog Y Gl)
include S
theorem giveR {p w:Span} {n:Int} (h:Dk p w n) (m:Nat) (f:Nat->List C) (hf:SEq m f 4 fun i=>eI (nth [(0:Int),0,1,2] i)):Does Tryz.prog Y Gl yd0 23 [.addr FAR 0,.d (.agg [Ci 2,.s .n m f])] (Fq (suD p w) (.d (.c (.v (.slice none 0 0))))) (.ret (I 0)) [(FAR+3,16,.d (.c (.l Al [eG2])))]:=
 Does.args (Ax0 S (suD p w) eG2 (by decide) (by decide) (Awf S [0,0,1,2] (by decide) (by decide) fun i hi=>match i,hi with|0,_=>rfl|1,_=>rfl|2,_=>rfl|3,_=>rfl) (giveE S h)) ⟨rfl,hf⟩
theorem waitR {p w:Span} {n:Int} (h:Dk p w n) (h0:0<n) (m:Nat) (f:Nat->List C) (hf:SEq m f 1 fun i=>eI (nth [n] i)):Does Tryz.prog Y Gl yd0 23 [.addr FAR 0,.d (.agg [Ci 1,.s .n m f])] (Fq (suD p w) (.d (.c (.l Al [eG2])))) (.ret (I 0)) [(FAR+3,16,.d (.c (.l Al [eG2,eW1 n])))]:=
 have:=h.all
 Does.args (Al9 S (suD p w) [eG2] (eW1 n) 0 (show 1<=1 by decide) (show 1<=8 by decide) (by decide) (by decide) rfl (Awe S [n] (show 1<=1 by decide) (show 1<=1 by decide) fun i hi=>match i,hi with|0,_=>Bo.2 (show -99999<=n/\n<=99999 by omega)) (waitE S h h0)) ⟨rfl,hf⟩
theorem colR {p w:Span} {n:Int} (h:Dk p w n) (l:List Ent) (hl:Io n=l) (m:Nat) (f:Nat->List C) (hf:SEq m f 4 fun i=>eI (nth [(0:Int),0,121,126] i)):Does Tryz.prog Y Gl yd0 23 [.addr FAR 0,.d (.agg [Ci 3,.s .n m f])] (Fq (suD p w) (.d (.c (.l Al l)))) (.ret (I (Ji p w n))) [(FAR+3,16,.d (.c (.l Al (bif Ji p w n==0 then l++[eC3] else l))))]:=by
 have h2:1<=l.length/\l.length<=2:=by
  subst hl;unfold Io;cases decide (0<n) with
  |true=>exact ⟨show 1<=2 by decide,show 2<=2 by decide⟩
  |false=>exact ⟨show 1<=1 by decide,show 1<=2 by decide⟩
 exact Does.args (Al9 S (suD p w) l eC3 (Ji p w n) (by decide) (by decide) h2.1 (by omega) (by rw [beq_eq_false_iff_ne];omega) (Awg S [0,0,121,126] (by decide) (by decide) fun i hi=>match i,hi with|0,_=>rfl|1,_=>rfl|2,_=>rfl|3,_=>rfl) (hl▸colE S h)) ⟨rfl,hf⟩
def cSx (s:Su) (x:C):List C:=[.l Ad s.p.starts,Ci s.p.rows,Ci s.p.guard,x,.l eI s.b.dues,.l eI s.b.sheets,Ci s.e,Ci s.pl,.l eCp s.cs,Ci s.y.hands,Ci s.y.unit,Ci s.y.sheet,Ci s.y.error,Ci s.y.morn,Ci s.y.post,.l Py.eLine s.y.lines]
omit S in
theorem Ax3 (s t:Su) {m:Nat} {f:Nat->List C} (h0:s=Oj) {p w:Span} (h1:t=suD p w) (hf:SEq m f 3 fun i=>Gv.eComp (nth t.b.comps i)):Lw (Cj [T.d (.agg (cSx s (.s .n m f)))] [T.d (.agg (cS t))]):=by
 subst h0;subst h1
 exact ⟨Bn rfl,rfl,rfl,hf,Bn rfl,Bn rfl,rfl,rfl,Bn rfl,rfl,rfl,rfl,rfl,rfl,rfl,Bn rfl⟩
structure Dz (p w:Span) (n:Int) (s t:Su) (bk:List Span) (r:Int):Prop where
 h:Dk p w n
 s:s=Oj
 t:t=suD p w
 k:bk=Gv.backs (bD p w) Kl
 r:r=Ji p w n
 e1:((bk.length:Int) != 2)=false
 e2:decide ((nth bk 0).lo<=2*p.lo+w.lo)=false
variable {p w:Span} {n r:Int} {s t:Su} {bk:List Span} (h:Dz p w n s t bk r)
include h
theorem Alb:CO Gl 21 [] (.new (.ag (sN s (.arr 9012 3))) ((2,9012,aN s.b)::bT 0 (sN s (.arr 9012 3)))):=by
 obtain ⟨h,rfl,_,_,_,_,_⟩:=h;exact Ax2 S
theorem Alc (m:Nat) (f:Nat->List C) (hf:SEq m f 3 fun i=>Gv.eComp (nth t.b.comps i)):CO Gl 22 [.d (.agg (cSx s (.s .n m f)))] (.new (.tpl [.addr 10 0,I 0]) ((2,10,live)::(Dp 10 0 (cS t)++[(13,16,.d (.c (.v (.slice none 0 0)))),(13,17,B true)]))):=
 (Awd S t (by rw [h.t];exact Zk h.h)).args (Ax3 s t h.s h.t hf)
theorem Ald (m:Nat) (f:Nat->List C) (hf:SEq m f 4 fun i=>eI (nth [(0:Int),0,1,2] i)):Does Tryz.prog Y Gl yd0 23 [.addr FAR 0,.d (.agg [Ci 2,.s .n m f])] (Fq t (.d (.c (.v (.slice none 0 0))))) (.ret (I 0)) [(FAR+3,16,.d (.c (.l Al [eG2])))]:=by
 obtain ⟨h,_,rfl,_,_,_,_⟩:=h;exact giveR S h m f hf
theorem waitX (h0:decide (0<n)=true) (m:Nat) (f:Nat->List C) (hf:SEq m f 1 fun i=>eI (nth [n] i)):Does Tryz.prog Y Gl yd0 23 [.addr FAR 0,.d (.agg [Ci 1,.s .n m f])] (Fq t (.d (.c (.l Al [eG2])))) (.ret (I 0)) [(FAR+3,16,.d (.c (.l Al [eG2,eW1 n])))]:=by
 obtain ⟨h,_,rfl,_,_,_,_⟩:=h;exact waitR S h (of_decide_eq_true h0) m f hf
theorem colX (l:List Ent) (hl:Io n=l) (m:Nat) (f:Nat->List C) (hf:SEq m f 4 fun i=>eI (nth [(0:Int),0,121,126] i)):Does Tryz.prog Y Gl yd0 23 [.addr FAR 0,.d (.agg [Ci 3,.s .n m f])] (Fq t (.d (.c (.l Al l)))) (.ret (I r)) [(FAR+3,16,.d (.c (.l Al (bif r==0 then l++[eC3] else l))))]:=by
 obtain ⟨h,_,rfl,_,rfl,_,_⟩:=h;exact colR S h l hl m f hf
theorem Ale (m k:Nat) (f g:Nat->List C) (hf:SEq m f 3 fun i=>Gv.eComp (nth t.b.comps i)) (hg:SEq k g 2 fun i=>Gv.eTask (nth Kl i)):CO Gl 24 [.d (.agg [.s .n m f,.l eI s.b.dues,.l eI s.b.sheets]),.d (.c (.s .n k g))] (.ret (.tup [.c (.l Ad bk),.c (Ci 0)])):=by
 obtain ⟨h,rfl,rfl,rfl,_,_,_⟩:=h
 exact (Gv.back28 S (bD p w) Kl (okD h) (goodD p w)).args ⟨hf,Bn rfl,Bn rfl,hg⟩
end
theorem suF {p w:Span} {n r:Int} {s t:Su} {bk:List Span} (h:Dz p w n s t bk r):SEq 3 (Dq (Dq (fun i=>Gv.eComp (nth s.b.comps i)) 0 (Hf 1 (List.map C.dem (List.map C.dem [C.v (Value.int IntKind.i64 p.lo),C.v (Value.int IntKind.i64 p.hi)])) (Gv.eComp (nth s.b.comps 0)))) 0 (Hf 3 (List.map C.dem (List.map C.dem [C.v (Value.int IntKind.i64 w.lo),C.v (Value.int IntKind.i64 w.hi)])) (Dq (fun i=>Gv.eComp (nth s.b.comps i)) 0 (Hf 1 (List.map C.dem (List.map C.dem [C.v (Value.int IntKind.i64 p.lo),C.v (Value.int IntKind.i64 p.hi)])) (Gv.eComp (nth s.b.comps 0))) 0))) 3 fun i=>Gv.eComp (nth t.b.comps i):=by
 obtain ⟨_,rfl,rfl,_,_,_,_⟩:=h
 exact .of ⟨rfl,fun i hi=>match i,hi with|0,_=>rfl|1,_=>rfl|2,_=>rfl⟩
theorem Alf:SEq 2 (fun i=>[List.map C.dem (List.map C.dem [C.v (Value.int IntKind.i64 0),C.v (Value.int IntKind.i64 1),C.v (Value.int IntKind.i64 2)]),List.map C.dem (List.map C.dem [C.v (Value.int IntKind.i64 1),C.v (Value.int IntKind.i64 2),C.v (Value.int IntKind.i64 0)])].getD i []) 2 fun i=>Gv.eTask (nth Kl i):=.of ⟨rfl,fun i hi=>match i,hi with|0,_=>rfl|1,_=>rfl⟩
theorem errT {p w:Span} {n r:Int} (h:r=Ji p w n) (hn:decide (n<2*p.lo+w.lo)=true):(r==7&&true)=true:=by
 have:=of_decide_eq_true hn
 subst h
 unfold Ji Ur
 rw [decide_eq_false (by omega)];rfl
theorem errF {p w:Span} {n r:Int} (h:r=Ji p w n) (hn:decide (n<2*p.lo+w.lo)=false):(r==0&&true)=true:=by
 have:=of_decide_eq_false hn
 subst h
 unfold Ji Ur
 rw [decide_eq_true (by omega)];rfl
theorem law5z {Gl} (S:SP Gl) (p w:Span) (n:Int) (s t:Su) (bk:List Span) (r:Int) (h:Dz p w n s t bk r) (h0:decide (0<n)=false) (hl:Io n=[eG2]):CO Gl 5 [.d (.agg (Ad p)),.d (.agg (Ad w)),I n] (.ret (B true)):=by
 refine Ao S (let A0:=[List.map C.dem [C.v (Value.int IntKind.i64 (0:Int))],List.map C.dem [C.v (Value.int IntKind.i64 (0:Int))],List.map C.dem [C.v (Value.int IntKind.i64 (121:Int))],List.map C.dem [C.v (Value.int IntKind.i64 (126:Int))]];let A1:=[List.map C.dem [C.v (Value.int IntKind.i64 (0:Int))],List.map C.dem [C.v (Value.int IntKind.i64 (0:Int))],List.map C.dem [C.v (Value.int IntKind.i64 (1:Int))],List.map C.dem [C.v (Value.int IntKind.i64 (2:Int))]];let A2:=(Dq (Dq (fun i=>Gv.eComp (nth s.2.1 i)) (0:Nat) (Hf (1:Nat) (List.map C.dem (List.map C.dem [C.v (Value.int IntKind.i64 p.1),C.v (Value.int IntKind.i64 p.2)])) (Gv.eComp (nth s.2.1 (0:Nat))))) (0:Nat) (Hf (3:Nat) (List.map C.dem (List.map C.dem [C.v (Value.int IntKind.i64 w.1),C.v (Value.int IntKind.i64 w.2)])) (Dq (fun i=>Gv.eComp (nth s.2.1 i)) (0:Nat) (Hf (1:Nat) (List.map C.dem (List.map C.dem [C.v (Value.int IntKind.i64 p.1),C.v (Value.int IntKind.i64 p.2)])) (Gv.eComp (nth s.2.1 (0:Nat)))) (0:Nat))));let A3:=(Res.new (T.tpl [T.addr (10:Nat) (0:Nat),I 0]) (((2:Nat),(10:Nat),live)::(Dp (10:Nat) (0:Nat) (cS t)++[((13:Nat),(16:Nat),T.d (D.c (C.v (Value.slice none 0 0)))),((13:Nat),(17:Nat),B true)])));let A4:=(Res.new (T.ag (sN s (T.arr 9012 (3:Nat)))) (((2:Nat),(9012:Nat),aN (Su.b s))::bT (0:Nat) (sN s (T.arr 9012 (3:Nat)))));let A5:=(SEq t.2.1.length (fun i=>Gv.eComp (nth t.2.1 i)) t.2.1.length fun i=>Gv.eComp (nth t.2.1 i));let A6:=(SEq t.6.7.length (fun i=>Py.eLine (nth t.6.7 i)) t.6.7.length fun i=>Py.eLine (nth t.6.7 i));let A7:=(FAR+(3:Nat),(16:Nat),T.d (D.c (C.l Al (bif r==(0:Int) then [eG2]++[eC3] else [eG2]))));let A8:=(bif false then true else decide ((nth bk (Int.toNat (0:Int))).1<=(2:Int)*p.1+w.1));let A9:=[T.addr FAR (0:Nat),T.d (D.agg [Ci 2,C.s Tag.n (4:Nat) fun i=>List.getD A1 i []])];let A10:=[T.addr FAR (0:Nat),T.d (D.agg [Ci 3,C.s Tag.n (4:Nat) fun i=>List.getD A0 i []])];let A11:=(D.c (C.l Al [eG2]));let A12:=(Fq t (T.d (D.c (C.v (Value.slice none 0 0)))));((.val 16 false (.sure 18 (.sure 19 (.sure 20 (.sure 21 (.val 22 false (.sure 22 (.sure 25 (.sure 26 (.val 27 false (.sure 27 (.sure 30 (.sure 31 (.val 32 false (.sure 32 (.sure 35 (.sure 36 (.sure 37 (.sure 38 (.val 39 false (.sure 39 (.sure 42 (.sure 43 (.val 44 false (.sure 44 (.sure 47 (.val 48 false (.sure 48 (.sure 51 (.val 52 false (.sure 52 (.ff (.n [(nat_lit 9012,nat_lit 56012),(nat_lit 0,nat_lit 56000)] A4 (.n [(nat_lit 10,nat_lit 71010)] A3 (.sure 76 (.sure 77 (.sure 80 (.sure 81 (.sure 82 (.sure 83 (.w [(nat_lit 100000,nat_lit 71010)] A9 A12 (.ret (I 0)) [(FAR+(3:Nat),(16:Nat),T.d A11)] (.sure 84 (.ff (.val 87 false (.skip (89:Nat) (.skip (90:Nat) (.skip (91:Nat) (.skip (92:Nat) (.skip (93:Nat) (.skip (94:Nat) (.ff (.w [(nat_lit 100000,nat_lit 71010)] A10 (Fq t (T.d A11)) (.ret (I r)) [A7] (.r (.ret (.tup [D.c (C.l Ad bk),D.c (Ci 0)])) (.sure 118 (.sure 119 (.val 120 false (.sure 120 (.sure 123 (.sure 124 (.sure 125 (.sure 126 (.sure 127 (.sure 128 (.br .nil (.br (.r (.ret (B true)) .nil) (.r (.ret (B true)) .nil)))))))))))))))))))))))))))))))))))))))))))))))))))))))))))))))))),(decide (p.1<(0:Int))=false/\true=true/\true=true/\true=true/\true=true/\decide (p.2<p.1)=false/\true=true/\true=true/\true=true/\decide ((5:Int)<p.2)=false/\true=true/\true=true/\true=true/\decide (w.1<(1:Int))=false/\true=true/\true=true/\true=true/\true=true/\true=true/\decide (w.2<w.1)=false/\true=true/\true=true/\true=true/\decide ((5:Int)<w.2)=false/\true=true/\true=true/\decide (n<(0:Int))=false/\true=true/\true=true/\decide ((99:Int)<n)=false/\true=true/\false=false/\CO Gl 21 [] A4/\((0:Int)<=0/\0<(↑(3:Nat):Int))/\(0:Nat)<(3:Nat)/\((0:Int)<=0/\0<(↑(3:Nat):Int))/\(0:Nat)<(3:Nat)/\(3:Nat)=(3:Nat)/\CO Gl 22 [T.d (D.agg (cSx s (C.s Tag.n (3:Nat) A2)))] A3/\true=true/\true=true/\true=true/\true=true/\true=true/\true=true/\(2:Int)=2/\(SEq (4:Nat) (fun i=>List.getD A1 i []) (4:Nat) fun i=>List.getD A1 i [])/\Value.slice none 0 0=Value.slice none 0 0/\true=true/\(sR Ad t.1.1)/\t.1.2=t.1.2/\t.1.3=t.1.3/\A5/\(sR eI t.2.2)/\(sR eI t.2.3)/\t.3=t.3/\t.4=t.4/\(sR eCp t.5)/\t.6.1=t.6.1/\t.6.2=t.6.2/\t.6.3=t.6.3/\t.6.4=t.6.4/\t.6.5=t.6.5/\t.6.6=t.6.6/\A6/\Does Tryz.prog Y Gl yd0 (23:FuncId) A9 A12 (.ret (I 0)) [(FAR+(3:Nat),(16:Nat),T.d A11)]/\true=true/\false=false/\decide ((0:Int)<n)=false/\false=false/\false=false/\false=false/\false=false/\false=false/\false=false/\(false=true->false=true)/\false=false/\(3:Int)=3/\(SEq (4:Nat) (fun i=>List.getD A0 i []) (4:Nat) fun i=>List.getD A0 i [])/\(sR Al [eG2])/\true=true/\(sR Ad t.1.1)/\t.1.2=t.1.2/\t.1.3=t.1.3/\A5/\(sR eI t.2.2)/\(sR eI t.2.3)/\t.3=t.3/\t.4=t.4/\(sR eCp t.5)/\t.6.1=t.6.1/\t.6.2=t.6.2/\t.6.3=t.6.3/\t.6.4=t.6.4/\t.6.5=t.6.5/\t.6.6=t.6.6/\A6/\Does Tryz.prog Y Gl yd0 (23:FuncId) A10 (Fq t (T.d A11)) (.ret (I r)) [A7]/\iR ((2:Int)*p.1)/\iR ((2:Int)*p.1+w.1)/\(3:Nat)=(3:Nat)/\CO Gl 24 [T.d (D.agg [C.s Tag.n (3:Nat) A2,C.l eI (Gv.Book.dues (Su.b s)),C.l eI (Gv.Book.sheets (Su.b s))]),T.d (D.c (C.s Tag.n (2:Nat) fun i=>List.getD [List.map C.dem (List.map C.dem [C.v (Value.int IntKind.i64 (0:Int)),C.v (Value.int IntKind.i64 (1:Int)),C.v (Value.int IntKind.i64 (2:Int))]),List.map C.dem (List.map C.dem [C.v (Value.int IntKind.i64 (1:Int)),C.v (Value.int IntKind.i64 (2:Int)),C.v (Value.int IntKind.i64 (0:Int))])] i []))] (.ret (.tup [D.c (C.l Ad bk),D.c (Ci 0)]))/\true=true/\true=true/\(bk.length<=maxLen->((bk.length:Int) != (2:Int))=false/\true=true/\true=true/\true=true/\((0:Int)<=0/\0<(bk.length:Int))/\true=true/\true=true/\true=true/\true=true/\(A8=true->false=true)/\(A8=false->(decide (n<(2:Int)*p.1+w.1)=true->(eqB (r==(7:Int)) true=true->CO Gl 7 [] (.ret (B true)))/\((r==(7:Int))=true->eqB (r==(7:Int)) true=true)/\(bif r==(7:Int) then true else false)=true)/\(decide (n<(2:Int)*p.1+w.1)=false->(eqB (r==(0:Int)) true=true->CO Gl 7 [] (.ret (B true)))/\((r==(0:Int))=true->eqB (r==(0:Int)) true=true)/\(bif r==(0:Int) then true else false)=true)))))) Tryz.func5 (by kernel_rfl) (by kernel_rfl) ?_
 obtain ⟨q,e0,e3,e4,e5,e1,e2⟩:=id h
 have ha:=q.all
 simp only [stdS,imp_self,implies_true,and_true,q.k1,q.k2,q.k3,q.k4,q.k5,q.k6,q.k7,q.k8,h0,e1,e2,Af,Bi,Bool.false_eq_true,false_implies,Int.toNat_zero,Bool.or_self,forall_const]
 exact ⟨Alb S h,by omega,by omega,by omega,by omega,Alc S h _ _ (suF h),Ald S h _ _ (Og [0,0,1,2]),colX S h _ hl _ _ (Og [0,0,121,126]),by omega,by omega,Ale S h _ _ _ _ (suF h) Alf,fun _=>⟨by have:=e1;simp at this;omega,fun hn=>(by simp at hn),fun _=>⟨fun hn=>⟨fun _=>Uh S,errT e5 hn⟩,fun hn=>⟨fun _=>Uh S,errF e5 hn⟩⟩⟩⟩
theorem law5p {Gl} (S:SP Gl) (p w:Span) (n:Int) (s t:Su) (bk:List Span) (r:Int) (h:Dz p w n s t bk r) (h0:decide (0<n)=true) (hl:Io n=[eG2,eW1 n]):CO Gl 5 [.d (.agg (Ad p)),.d (.agg (Ad w)),I n] (.ret (B true)):=by
 refine Ao S (let A0:=[List.map C.dem [C.v (Value.int IntKind.i64 (0:Int))],List.map C.dem [C.v (Value.int IntKind.i64 (0:Int))],List.map C.dem [C.v (Value.int IntKind.i64 (121:Int))],List.map C.dem [C.v (Value.int IntKind.i64 (126:Int))]];let A1:=[List.map C.dem [C.v (Value.int IntKind.i64 (0:Int))],List.map C.dem [C.v (Value.int IntKind.i64 (0:Int))],List.map C.dem [C.v (Value.int IntKind.i64 (1:Int))],List.map C.dem [C.v (Value.int IntKind.i64 (2:Int))]];let A2:=(Dq (Dq (fun i=>Gv.eComp (nth s.2.1 i)) (0:Nat) (Hf (1:Nat) (List.map C.dem (List.map C.dem [C.v (Value.int IntKind.i64 p.1),C.v (Value.int IntKind.i64 p.2)])) (Gv.eComp (nth s.2.1 (0:Nat))))) (0:Nat) (Hf (3:Nat) (List.map C.dem (List.map C.dem [C.v (Value.int IntKind.i64 w.1),C.v (Value.int IntKind.i64 w.2)])) (Dq (fun i=>Gv.eComp (nth s.2.1 i)) (0:Nat) (Hf (1:Nat) (List.map C.dem (List.map C.dem [C.v (Value.int IntKind.i64 p.1),C.v (Value.int IntKind.i64 p.2)])) (Gv.eComp (nth s.2.1 (0:Nat)))) (0:Nat))));let A3:=(Res.new (T.tpl [T.addr (10:Nat) (0:Nat),I 0]) (((2:Nat),(10:Nat),live)::(Dp (10:Nat) (0:Nat) (cS t)++[((13:Nat),(16:Nat),T.d (D.c (C.v (Value.slice none 0 0)))),((13:Nat),(17:Nat),B true)])));let A4:=(SEq t.2.1.length (fun i=>Gv.eComp (nth t.2.1 i)) t.2.1.length fun i=>Gv.eComp (nth t.2.1 i));let A5:=(SEq t.6.7.length (fun i=>Py.eLine (nth t.6.7 i)) t.6.7.length fun i=>Py.eLine (nth t.6.7 i));let A6:=[List.map C.dem [C.v (Value.int IntKind.i64 n)]];let A7:=(Res.new (T.ag (sN s (T.arr 9012 (3:Nat)))) (((2:Nat),(9012:Nat),aN (Su.b s))::bT (0:Nat) (sN s (T.arr 9012 (3:Nat)))));let A8:=(FAR+(3:Nat),(16:Nat),T.d (D.c (C.l Al (bif r==(0:Int) then [eG2,eW1 n]++[eC3] else [eG2,eW1 n]))));let A9:=(bif false then true else decide ((nth bk (Int.toNat (0:Int))).1<=(2:Int)*p.1+w.1));let A10:=[T.addr FAR (0:Nat),T.d (D.agg [Ci 2,C.s Tag.n (4:Nat) fun i=>List.getD A1 i []])];let A11:=[T.addr FAR (0:Nat),T.d (D.agg [Ci 1,C.s Tag.n (1:Nat) fun i=>List.getD A6 i []])];let A12:=[T.addr FAR (0:Nat),T.d (D.agg [Ci 3,C.s Tag.n (4:Nat) fun i=>List.getD A0 i []])];let A13:=(D.c (C.l Al [eG2,eW1 n]));let A14:=(D.c (C.l Al [eG2]));let A15:=(nat_lit 100000,nat_lit 71010);let A16:=(Fq t (T.d (D.c (C.v (Value.slice none 0 0)))));((.val 16 false (.sure 18 (.sure 19 (.sure 20 (.sure 21 (.val 22 false (.sure 22 (.sure 25 (.sure 26 (.val 27 false (.sure 27 (.sure 30 (.sure 31 (.val 32 false (.sure 32 (.sure 35 (.sure 36 (.sure 37 (.sure 38 (.val 39 false (.sure 39 (.sure 42 (.sure 43 (.val 44 false (.sure 44 (.sure 47 (.val 48 false (.sure 48 (.sure 51 (.val 52 false (.sure 52 (.ff (.n [(nat_lit 9012,nat_lit 56012),(nat_lit 0,nat_lit 56000)] A7 (.n [(nat_lit 10,nat_lit 71010)] A3 (.sure 76 (.sure 77 (.sure 80 (.sure 81 (.sure 82 (.sure 83 (.w [A15] A10 A16 (.ret (I 0)) [(FAR+(3:Nat),(16:Nat),T.d A14)] (.sure 84 (.ff (.val 87 true (.sure 89 (.sure 90 (.sure 91 (.sure 92 (.sure 93 (.w [A15] A11 (Fq t (T.d A14)) (.ret (I 0)) [(FAR+(3:Nat),(16:Nat),T.d A13)] (.sure 94 (.ff (.w [A15] A12 (Fq t (T.d A13)) (.ret (I r)) [A8] (.r (.ret (.tup [D.c (C.l Ad bk),D.c (Ci 0)])) (.sure 118 (.sure 119 (.val 120 false (.sure 120 (.sure 123 (.sure 124 (.sure 125 (.sure 126 (.sure 127 (.sure 128 (.br .nil (.br (.r (.ret (B true)) .nil) (.r (.ret (B true)) .nil))))))))))))))))))))))))))))))))))))))))))))))))))))))))))))))))))),(decide (p.1<(0:Int))=false/\true=true/\true=true/\true=true/\true=true/\decide (p.2<p.1)=false/\true=true/\true=true/\true=true/\decide ((5:Int)<p.2)=false/\true=true/\true=true/\true=true/\decide (w.1<(1:Int))=false/\true=true/\true=true/\true=true/\true=true/\true=true/\decide (w.2<w.1)=false/\true=true/\true=true/\true=true/\decide ((5:Int)<w.2)=false/\true=true/\true=true/\decide (n<(0:Int))=false/\true=true/\true=true/\decide ((99:Int)<n)=false/\true=true/\false=false/\CO Gl 21 [] A7/\((0:Int)<=0/\0<(↑(3:Nat):Int))/\(0:Nat)<(3:Nat)/\((0:Int)<=0/\0<(↑(3:Nat):Int))/\(0:Nat)<(3:Nat)/\(3:Nat)=(3:Nat)/\CO Gl 22 [T.d (D.agg (cSx s (C.s Tag.n (3:Nat) A2)))] A3/\true=true/\true=true/\true=true/\true=true/\true=true/\true=true/\(2:Int)=2/\(SEq (4:Nat) (fun i=>List.getD A1 i []) (4:Nat) fun i=>List.getD A1 i [])/\Value.slice none 0 0=Value.slice none 0 0/\true=true/\(sR Ad t.1.1)/\t.1.2=t.1.2/\t.1.3=t.1.3/\A4/\(sR eI t.2.2)/\(sR eI t.2.3)/\t.3=t.3/\t.4=t.4/\(sR eCp t.5)/\t.6.1=t.6.1/\t.6.2=t.6.2/\t.6.3=t.6.3/\t.6.4=t.6.4/\t.6.5=t.6.5/\t.6.6=t.6.6/\A5/\Does Tryz.prog Y Gl yd0 (23:FuncId) A10 A16 (.ret (I 0)) [(FAR+(3:Nat),(16:Nat),T.d A14)]/\true=true/\false=false/\decide ((0:Int)<n)=true/\true=true/\true=true/\true=true/\true=true/\true=true/\(1:Int)=1/\(SEq (1:Nat) (fun i=>List.getD A6 i []) (1:Nat) fun i=>List.getD A6 i [])/\(sR Al [eG2])/\true=true/\(sR Ad t.1.1)/\t.1.2=t.1.2/\t.1.3=t.1.3/\A4/\(sR eI t.2.2)/\(sR eI t.2.3)/\t.3=t.3/\t.4=t.4/\(sR eCp t.5)/\t.6.1=t.6.1/\t.6.2=t.6.2/\t.6.3=t.6.3/\t.6.4=t.6.4/\t.6.5=t.6.5/\t.6.6=t.6.6/\A5/\Does Tryz.prog Y Gl yd0 (23:FuncId) A11 (Fq t (T.d A14)) (.ret (I 0)) [(FAR+(3:Nat),(16:Nat),T.d A13)]/\true=true/\false=false/\(3:Int)=3/\(SEq (4:Nat) (fun i=>List.getD A0 i []) (4:Nat) fun i=>List.getD A0 i [])/\(sR Al [eG2,eW1 n])/\true=true/\(sR Ad t.1.1)/\t.1.2=t.1.2/\t.1.3=t.1.3/\A4/\(sR eI t.2.2)/\(sR eI t.2.3)/\t.3=t.3/\t.4=t.4/\(sR eCp t.5)/\t.6.1=t.6.1/\t.6.2=t.6.2/\t.6.3=t.6.3/\t.6.4=t.6.4/\t.6.5=t.6.5/\t.6.6=t.6.6/\A5/\Does Tryz.prog Y Gl yd0 (23:FuncId) A12 (Fq t (T.d A13)) (.ret (I r)) [A8]/\iR ((2:Int)*p.1)/\iR ((2:Int)*p.1+w.1)/\(3:Nat)=(3:Nat)/\CO Gl 24 [T.d (D.agg [C.s Tag.n (3:Nat) A2,C.l eI (Gv.Book.dues (Su.b s)),C.l eI (Gv.Book.sheets (Su.b s))]),T.d (D.c (C.s Tag.n (2:Nat) fun i=>List.getD [List.map C.dem (List.map C.dem [C.v (Value.int IntKind.i64 (0:Int)),C.v (Value.int IntKind.i64 (1:Int)),C.v (Value.int IntKind.i64 (2:Int))]),List.map C.dem (List.map C.dem [C.v (Value.int IntKind.i64 (1:Int)),C.v (Value.int IntKind.i64 (2:Int)),C.v (Value.int IntKind.i64 (0:Int))])] i []))] (.ret (.tup [D.c (C.l Ad bk),D.c (Ci 0)]))/\true=true/\true=true/\(bk.length<=maxLen->((bk.length:Int) != (2:Int))=false/\true=true/\true=true/\true=true/\((0:Int)<=0/\0<(bk.length:Int))/\true=true/\true=true/\true=true/\true=true/\(A9=true->false=true)/\(A9=false->(decide (n<(2:Int)*p.1+w.1)=true->(eqB (r==(7:Int)) true=true->CO Gl 7 [] (.ret (B true)))/\((r==(7:Int))=true->eqB (r==(7:Int)) true=true)/\(bif r==(7:Int) then true else false)=true)/\(decide (n<(2:Int)*p.1+w.1)=false->(eqB (r==(0:Int)) true=true->CO Gl 7 [] (.ret (B true)))/\((r==(0:Int))=true->eqB (r==(0:Int)) true=true)/\(bif r==(0:Int) then true else false)=true)))))) Tryz.func5 (by kernel_rfl) (by kernel_rfl) ?_
 obtain ⟨q,e0,e3,e4,e5,e1,e2⟩:=id h
 have ha:=q.all
 simp only [stdS,imp_self,implies_true,and_true,q.k1,q.k2,q.k3,q.k4,q.k5,q.k6,q.k7,q.k8,h0,e1,e2,Af,Bi,Bool.false_eq_true,false_implies,Int.toNat_zero,Bool.or_self,forall_const]
 exact ⟨Alb S h,by omega,by omega,by omega,by omega,Alc S h _ _ (suF h),Ald S h _ _ (Og [0,0,1,2]),waitX S h h0 _ _ (Og [n]),colX S h _ hl _ _ (Og [0,0,121,126]),by omega,by omega,Ale S h _ _ _ _ (suF h) Alf,fun _=>⟨by have:=e1;simp at this;omega,fun hn=>(by simp at hn),fun _=>⟨fun hn=>⟨fun _=>Uh S,errT e5 hn⟩,fun hn=>⟨fun _=>Uh S,errF e5 hn⟩⟩⟩⟩
theorem law5k {Gl} (S:SP Gl) (p w:Span) (n:Int) (hg:(bif bif bif bif bif bif bif decide (p.lo<0) then true else decide (p.hi<p.lo) then true else decide (5<p.hi) then true else decide (w.lo<1) then true else decide (w.hi<w.lo) then true else decide (5<w.hi) then true else decide (n<0) then true else decide (99<n))=true):CO Gl 5 [.d (.agg (Ad p)),.d (.agg (Ad w)),I n] (.ret (B true)):=by
 refine Ao S (let A0:=(bif bif bif decide (p.1<(0:Int)) then true else decide (p.2<p.1) then true else decide ((5:Int)<p.2) then true else decide (w.1<(1:Int)));let A1:=(bif bif bif bif decide (p.1<(0:Int)) then true else decide (p.2<p.1) then true else decide ((5:Int)<p.2) then true else decide (w.1<(1:Int)) then true else decide (w.2<w.1));let A2:=(bif bif bif bif bif bif decide (p.1<(0:Int)) then true else decide (p.2<p.1) then true else decide ((5:Int)<p.2) then true else decide (w.1<(1:Int)) then true else decide (w.2<w.1) then true else decide ((5:Int)<w.2) then true else decide (n<(0:Int)));let A3:=(bif bif bif bif bif decide (p.1<(0:Int)) then true else decide (p.2<p.1) then true else decide ((5:Int)<p.2) then true else decide (w.1<(1:Int)) then true else decide (w.2<w.1) then true else decide ((5:Int)<w.2));let A4:=(bif bif decide (p.1<(0:Int)) then true else decide (p.2<p.1) then true else decide ((5:Int)<p.2));let A5:=(bif decide (p.1<(0:Int)) then true else decide (p.2<p.1));let A6:=(eqB (decide (p.1<(0:Int))) false=true->eqB (decide (p.1<(0:Int))) false=true);let A7:=(eqB A0 false=true->eqB A0 false=true);((.val 53 true (.tt (.r (.ret (B true)) .nil))),(A6/\A6/\A6/\A6/\(decide (p.1<(0:Int))=false->eqB (decide (p.1<(0:Int))) false=true)/\(eqB A5 false=true->eqB A5 false=true)/\(eqB A5 false=true->eqB A5 false=true)/\(A5=false->eqB A5 false=true)/\(eqB A4 false=true->eqB A4 false=true)/\(eqB A4 false=true->eqB A4 false=true)/\(A4=false->eqB A4 false=true)/\A7/\A7/\A7/\A7/\(A0=false->eqB A0 false=true)/\(eqB A1 false=true->eqB A1 false=true)/\(eqB A1 false=true->eqB A1 false=true)/\(A1=false->eqB A1 false=true)/\(eqB A3 false=true->eqB A3 false=true)/\(A3=false->eqB A3 false=true)/\(eqB A2 false=true->eqB A2 false=true)/\(bif bif bif bif bif bif bif decide (p.1<(0:Int)) then true else decide (p.2<p.1) then true else decide ((5:Int)<p.2) then true else decide (w.1<(1:Int)) then true else decide (w.2<w.1) then true else decide ((5:Int)<w.2) then true else decide (n<(0:Int)) then true else decide ((99:Int)<n))=true/\(A2=false->eqB A2 false=true)/\true=true/\CO Gl 7 [] (.ret (B true))/\true=true))) Tryz.func5 (by kernel_rfl) (by kernel_rfl) ?_
 dsimp only
 have hK:=Uh S
 repeat' first
  |with_reducible exact fun h=>h
  |with_reducible exact hK
  |with_reducible exact hg
  |with_reducible rfl
  |(intro h;rw [Ad0,h];rfl)
  |with_reducible apply And.intro
theorem law5 {Gl} (S:SP Gl) (p w:Span) (n:Int):CO Gl 5 [.d (.agg (Ad p)),.d (.agg (Ad w)),I n] (.ret (B true)):=by
 cases hg:(bif bif bif bif bif bif bif decide (p.lo<0) then true else decide (p.hi<p.lo) then true else decide (5<p.hi) then true else decide (w.lo<1) then true else decide (w.hi<w.lo) then true else decide (5<w.hi) then true else decide (n<0) then true else decide (99<n)) with
 |true=>exact law5k S p w n hg
 |false=>
  simp only [Yf,Bool.or_eq_false_iff] at hg
  obtain ⟨⟨⟨⟨⟨⟨⟨g1,g2⟩,g3⟩,g4⟩,g5⟩,g6⟩,g7⟩,g8⟩:=hg
  have h:Dz p w n Oj (suD p w) (Gv.backs (bD p w) Kl) (Ji p w n):=⟨⟨g1,g2,g3,g4,g5,g6,g7,g8⟩,rfl,rfl,rfl,rfl,by rw [Gv.backs_len];rfl,by
   rw [decide_eq_false_iff_not]
   have:=backD ⟨g1,g2,g3,g4,g5,g6,g7,g8⟩
   omega⟩
  cases h0:decide (0<n) with
  |false=>exact law5z S p w n _ _ _ _ h h0 (by unfold Io;rw [h0];rfl)
  |true=>exact law5p S p w n _ _ _ _ h h0 (by unfold Io;rw [h0];rfl)
end Go.Vc.Zn.Rm
set_option maxRecDepth 100000
namespace Go.Vc.Zn
open Go Go.Proofs Go.Vc Go.Proofs.YtknoiciabjockaaGreat Go.ChangeShapes Go.WideShapes Go.ChangeAt Go.RowKit Go.Deep
theorem Alg:Tryz.prog.cellsOf 28=2:=by kernel_rfl
section
variable {W:World} {b0:Nat} {v:Value}
theorem row2 {t u0 u1:TypeId} {fs:Array Field} (hu:Tryz.prog.underlying t=some (.struct fs)) (hc:Tryz.prog.cellsOf t=2) (hts:Tryz.prog.cellTypes Tryz.prog.depth t=some [u0,u1]) (h:Value.okWide Tryz.prog W .any b0 t v):
  ∃ v0 v1,v=.agg #[v0,v1]:=by
 unfold Value.okWide at h
 rw [hu] at h
 simp only at h
 obtain ⟨cs,rfl,hsz,ts,hts',_,hall⟩:=h
 rw [hc] at hsz
 obtain ⟨l⟩:=cs
 match l,hsz with
 | [v0,v1],_=>exact ⟨v0,v1,rfl⟩
theorem Alh (h:Value.okWide Tryz.prog W .any b0 28 v):Jx Tryz.prog W 28 v fun x=>∃ s:Span,x=.d (.agg (Ad s)):=by
 obtain ⟨v0,v1,rfl⟩:=row2 (u0:=3) (u1:=3) Tryz.underlying28 Alg (by kernel_rfl) h
 refine (Jx.struct2 Tryz.underlying28 Alg rfl rfl Ahs Ahs (Gc.int Tryz.underlying3) (Gc.int Tryz.underlying3)).weak ?_
 rintro x ⟨_,_,⟨m,_,rfl⟩,⟨k,_,rfl⟩,rfl⟩
 refine ⟨.d (.agg (Ad ⟨m,k⟩)),⟨_,rfl⟩,fun p hp=>?_⟩
 change p∈[m=m,k=k] at hp
 simp only [List.mem_cons,List.not_mem_nil,or_false] at hp
 rcases hp with rfl|rfl
 all_goals trivial
end
end Go.Vc.Zn
