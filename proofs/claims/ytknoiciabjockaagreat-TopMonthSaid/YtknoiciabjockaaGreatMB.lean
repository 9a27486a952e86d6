/- A part of the proofs over the layers: the program and the specification; no condition. -/
import Derived.Test.YtknoiciabjockaaGreatMA
import Derived.MapKept
import Derived.Laws.MakeOwn
import Derived.Laws.RangeAny
import Derived.Maps.RangeRun
import Derived.Laws.IdiomStrings
import Derived.RangeFuncLeaves
import Derived.Sort.LoopGhostIn
import Derived.OrdersIn
set_option linter.all false
namespace Go
abbrev bS:=@Option.some.inj
abbrev bW:=@Bool.or_eq_true
abbrev cB:=@Go.Ending.returned.injEq
abbrev cI:=@List.cons.injEq
abbrev cK:=@Array.getElem?_eq_getElem
abbrev cL:=@Bool.not_eq_true'
abbrev cQ:=@List.length_cons
abbrev cV:=@Go.MapKept.run_getObj_map
abbrev dH:=@Bool.false_eq_true
abbrev dI:=@beq_iff_eq
abbrev dJ:=@Nat.le_mul_of_pos_right
abbrev dK:=@Go.Oper.semAt_eq
abbrev dQ:=@Array.eq_empty_of_size_eq_zero
abbrev dV:=@Int.le_refl
abbrev dW:=@Bool.or_eq_false_iff
abbrev dZ:=@Nat.le_add_left
abbrev eL:=@List.mem_cons
abbrev eX:=@Go.MapKept.run_setObj_map
abbrev fE:=@Bool.true_and
abbrev fP:=@Nat.beq_refl
abbrev gC:=@Nat.ne_of_beq_eq_false
abbrev gU:=@Iff.rfl
abbrev iA:=@Classical.not_not
abbrev iF:=@Bool.and_true
abbrev iH:=@if_false
abbrev iI:=@Go.Value.func.injEq
abbrev iO:=@LawfulBEq.eq_of_beq
end Go
namespace Go.Vc
open Go Go.RowKit
section
variable {P:Program} {Y:TypeId->Ty} {X:Cx} {nt:Nat} {ds:List Deferred} {e:Env} {a:Act} {w:World} {G:Gh} {O:Nat->Prop}
def VOK.ids_used {id:Nat} {x:T} {v:Value} (h:Aa G w O x v) (hm:Kh G w Y e x v) (ht:Ck x=[]) (v8:Aj x=[id]) (hu:e.get 2 id≠.any):VOK G w O Y e x v:=
 ⟨h,hm,Gy (by grind),by
  have:=VOK.plain (G:=G) (w:=w) (O:=O) (Y:=Y) (e:=e) (x:=.any) (v:=v) (by trivial) rfl rfl trivial;cases x with
  |may b x=>
   have:∀{x:T},Ck x=[]->Ey (λx=>∀k,k∈Ck x->e.get 1 k≠.any) x:=by
    intro x
    induction x using Ck.induct with
    |case1 b=>intro h;cases h
    |case2 b x ih=>exact λh _=>ih h
    |case3 x h1 h2=>
     intro h;cases x with
     |may b x=>grind
     |_=>intro k hk;grind
   grind
  |_=>intro k hk;trivial⟩
def Auc (R:Rel Y X nt ds e a w G) {d el n:Nat} {f:Nat->List C} {v:Value} (aq:e.get 1 d=.any) (i6:Rep G.vis w (.s .n n f) v) (i9:∀i,i<n->(f i).length=(Y el).size) (nq:v=.slice none 0 0∨((n=0∨FAR<=d)/\∃b,v=.slice b n n)):
  ∃G',Rel Y X nt ds ((1,d,As el)::Fi none++e) a w G'/\VOK G' w X.fz Y ((1,d,As el)::Fi none++e) (.d (.c (.s (.t d) n f))) v:=by
 obtain⟨f1,f2⟩:=Mf R (w':=w) (vis':=G.vis) (tb:=none) (el:=el) (kd:=none) none aq (.refl _) (λ_ _ _=>rfl) (λb hb=>(by cases hb)) (λ_=>aI _) (.refl _ _)
  (λ_ _=>rfl) (λb hb=>(by cases hb)) (λ_ _ _ _=>⟨rfl,rfl⟩) R.fresh (λ_ _=>rfl) (λ_ _=>rfl)
 refine⟨_,f1,Mg (kd:=none) (d:=d) (el:=el) (e:=e) ?_ ⟨i9,nq.imp id λh=>.inl h⟩⟩;cases i6 with
 |nil=>exact .nil _ _
 |e=>exact .e _ _ _
 |s _ n f b off cap sz u a1 a2 a3 a4 a5 a6=>exact .s _ n f b off cap sz u a1 a2 a3 a4 a5 a6
theorem Akw (hY:YOK P Y) (R:Rel Y X nt ds e a w G) {o:Oper} {t el:TypeId} {len:Nat} {ps:Array (Nat×Operand)} {css:List (List C)} (ho:o.op=.buildSlice t len ps) (hk:(Y t).kind=.slice el)
  {r1 r2:List (Nat×Nat)} (hp:(Lz ev1 0 ps.toList).run e.get r1=some (css,r2)) (hb:(Y el).known&&css.length.beq len&&Vt (Y el).size css&&Nat.blt 0 (Y el).size&&Nat.blt 0 len&&Nat.ble (len*(Y el).size) 1000):
  ∃row:List Value,(execOp a.eval o).run P w=.ok (.value (.slice (some ⟨w.heap.size,0,none⟩) len len)) (w.alloc (.cells row.toArray el))/\Ii G.vis w len (λi=>css.getD i []) (Y el).size row/\row.length=len*(Y el).size/\1<=len/\1<=(Y el).size/\len*(Y el).size<=1000:=by
 obtain⟨hb,lv⟩:=and_true hb;obtain⟨hb,i9⟩:=and_true hb;obtain⟨hb,j9⟩:=and_true hb;obtain⟨hb,o6⟩:=and_true hb;obtain⟨ax,eu⟩:=and_true hb;have eu:=aG eu;have lv:=aH lv;have i9:1<=len:=by simpa[Nat.blt]using i9
 have j9:1<=(Y el).size:=by simpa[Nat.blt]using j9
 obtain⟨hl,hzip,hpr⟩:=Akh R ps.toList hp;have hals:=Atl o6;generalize ai:(ps.toList.map λp=>a.eval p.2)=vs at hzip;have om:vs.length=len:=by grind
 have sx:∀(j:Nat) v,vs[j]?=some v->∃cs,css[j]?=some cs/\cs.length=(Y el).size/\v.cells.size=(Y el).size/\∀(k:Nat) c u,cs[k]?=some c->v.cells[k]?=some u->VOK G w X.fz Y e (.d (.c c)) u:=by
  intro j v hj;rw[<-ai,bQ]at hj;cases hq:ps.toList[j]? with
  |none=>grind
  |some q=>
   rw[hq]at hj;simp only[bO,aA]at hj;subst hj;have hlt:j<css.length:=by grind
   have hc:=aQ hlt;grind
 have hvsz:∀v∈vs,v.cells.size=(Y el).size:=λv hv=>by
  obtain⟨j,hj,rfl⟩:=bM.1 hv;obtain⟨_,_,_,h,_⟩:=sx j _ (aQ hj);exact h
 obtain⟨dd,i,z,h1,h2,h3,h4,h5,h6,h7,h8⟩:=hY t (by simp[Ty.known,hk]);rw[hk]at h7;simp only[KOK]at h7;subst h7;obtain⟨dd,ie,ze,g1,g2,g3,g4,g5,g6,g7,g8⟩:=hY el ax;have hfill:=Great.fill_whole (s:=(Y el).size) (by omega) vs ((Array.range (len*(Y el).size)).map (ze.cells[· % ze.cells.size]!)) hvsz (by simp[om]);have d7:=run_buildSlice (P:=P) w t el len (ps.map λ(i,x)=>(i,a.eval x)) _ ie ze h1 g2 g5 (by grind) (by grind[Nat.mul_eq_zero]) (by
  have e1:(ps.map λ(i,x)=>(i,a.eval x)).toList=(vs.zipIdx 0).map λx=>(x.2,x.1):=by grind[Array.toList_map]
  rw[e1,g3];exact hfill)
 generalize au:(vs.flatMap λv=>v.cells.toList)=row at d7;have vp:row.length=len*(Y el).size:=by grind[Atk]
 have lw:(execOp a.eval o).run P w=.ok (.value (.slice (some ⟨w.heap.size,0,none⟩) len len)) (w.alloc (.cells row.toArray el)):=by
  simp[execOp,ho,d7]
 have fl:Ii G.vis w len (λi=>css.getD i []) (Y el).size row:=by
  refine⟨vp,λi hi=>?_,λi j c hi hj=>?_⟩
  ·grind
  ·have hc:css[i]?=some css[i]:=aQ (by omega);dsimp only at hj;rw[bU,hc]at hj;have ol:j<(Y el).size:=by grind
   have hvi:vs[i]?=some vs[i]:=aQ (by omega);obtain⟨cs,h9,jk,h11,h12⟩:=sx i _ hvi;rw[hc]at h9;simp only[aA]at h9;subst h9;have hrg:row[i*(Y el).size+j]?=vs[i].cells[j]?:=by grind[Atj]
   have hcj:vs[i].cells[j]?=some vs[i].cells[j]:=by simp[h11,ol]
   exact⟨_,hrg.trans hcj,(h12 j c _ hj hcj).reld⟩
 grind
theorem Aud (hY:YOK P Y) (R:Rel Y X nt ds e a w G) {o:Oper} {t el:TypeId} {len:Nat} {ps:Array (Nat×Operand)} {css:List (List C)} (ho:o.op=.buildSlice t len ps) (hk:(Y t).kind=.slice el)
  {r1 r2:List (Nat×Nat)} (hp:(Lz ev1 0 ps.toList).run e.get r1=some (css,r2)) {r r':List (Nat×Nat)} {out:Out} (h:(Adz el (Y el) o.dst len css).run e.get r=some (out,r')):OpR P Y X nt ds e a w o out:=by
 unfold Adz at h;obtain⟨hb,h⟩:=Al h;obtain⟨row,lw,fl,vp,i9,j9,lv⟩:=Akw hY R ho hk hp hb;obtain⟨d,hd,aq,rfl⟩:=Aaj h;obtain⟨G',f1,f2⟩:=Akl R (Gz w (.cells row.toArray el)) (λb hb=>Cm w _ hb) (Tp R _) (el:=el) (d:=d) (cap:=len) (N:=len) (sz:=(Y el).size) (kd:=none) (F:=λi=>css.getD i []) (cur:=row.toArray) (zs:=row) rfl aq fl
  (by grind) (by trivial) (aI _) (by unfold maxLen;have:=dJ len j9;omega) (bN w _) (by simp)
 exact⟨_,_,_,G',lw,.inl rfl,λ_ h=>(by cases h),f1,f2⟩
theorem Aue (hY:YOK P Y) (R:Rel Y X nt ds e a w G) {o:Oper} {t el:TypeId} {len:Nat} {ps:Array (Nat×Operand)} {css:List (List C)} (ho:o.op=.buildSlice t len ps) (hk:(Y t).kind=.slice el)
  {r1 r2:List (Nat×Nat)} (hp:(Lz ev1 0 ps.toList).run e.get r1=some (css,r2)) {r r':List (Nat×Nat)} {out:Out} (h:(Ae0 (Y el) o.dst len css).run e.get r=some (out,r')):OpR P Y X nt ds e a w o out:=by
 unfold Ae0 at h;obtain⟨hb,h⟩:=Al h;obtain⟨row,lw,fl,vp,i9,j9,lv⟩:=Akw hY R ho hk hp hb;obtain⟨d,_,hd,hf,rfl⟩:=Je h;obtain⟨G',q1,q2,R',lift,q3⟩:=Jd R hd hf (.cells row.toArray el) (st:=.arrc false (Y el).size len (λi=>css.getD i [])) (ce:=[]) (by simp) (λt k h=>rfl)
  (λG' cd=>by
   refine⟨⟨row.toArray,el,_,bN w _,.inl rfl,by simp[vp],λi hi=>⟨fl.2.1 i hi,λj c hj=>?_⟩⟩,j9,λhh=>(by cases hh),λ_=>by rw[cd];exact R.fresh _ (aI _)⟩;obtain⟨u,h3,h4⟩:=fl.2.2 i j c hi hj;refine⟨u,by grind,?_⟩;rw[cd];exact h4.mono' (λ_=>aI _) (Tp R _))
  (λG' lift k hk=>by
   rw[cH]at hk;exact absurd (R.mem.cells d k hk).1 (by rw[hd];exact λh=>Bc h.symm))
 refine⟨_,.slice (some ⟨w.heap.size,0,none⟩) len len,_,G',lw,.inl rfl,λ_ h=>(by cases h),R',VOK.ids_used (id:=d) ?_ trivial rfl rfl (by
  grind)⟩
 simp only[Aa];have:=dJ len j9;exact .inr ⟨len,by rw[q2],aI _,by unfold maxLen;omega,row.toArray,el,_,by rw[q2];exact bN w _,by grind⟩
theorem Auf (hY:YOK P Y) (R:Rel Y X nt ds e a w G) {o:Oper} {t el:TypeId} {len:Nat} {ps:Array (Nat×Operand)} {css:List (List C)} (ho:o.op=.buildSlice t len ps) (hk:(Y t).kind=.slice el)
  {r1 r2:List (Nat×Nat)} (hp:(Lz ev1 0 ps.toList).run e.get r1=some (css,r2)) {r r':List (Nat×Nat)} {out:Out} (h:(Ae1 el (Y el) o.dst len css).run e.get r=some (out,r')):OpR P Y X nt ds e a w o out:=by
 unfold Ae1 at h;split at h
 ·obtain⟨ax,h⟩:=Al h;obtain⟨d,hd,aq,rfl⟩:=Aaj h;obtain⟨hl,hzip,hpr⟩:=Akh R ps.toList hp;have de:ps=#[]:=dQ (by grind);obtain⟨dd,i,z,h1,h2,h3,h4,h5,h6,h7,h8⟩:=hY t (by simp[Ty.known,hk]);rw[hk]at h7;simp only[KOK]at h7;subst h7;have d7:(Instr.buildSlice t 0 #[]).run P w=.ok (.slice (some ⟨w.heap.size,0,none⟩) 0 0) (w.alloc (.cells #[] el)):=by
   simp[Instr.buildSlice,aO h1,Dq hY ax,Instr.fill,newRow];congr 2;exact dQ (by simp)
  obtain⟨f1,f2⟩:=Mf R (w':=w.alloc (.cells #[] el)) (vis':=G.vis) (tb:=none) (el:=el) (d:=d) (kd:=none) none aq (Gz _ _) (λb hb _=>Cm _ _ hb) (λb hb=>(by cases hb)) (λ_=>aI _) (Tp R _)
   (λ_ _=>rfl) (λb hb=>(by cases hb)) (λk b _ hb=>⟨Cm _ _ (R.tks k b hb).2.1,rfl⟩) (λb hb=>R.fresh b (by grind[World.size_alloc])) (λ_ _=>rfl) (λ_ _=>rfl)
  refine⟨_,.slice (some ⟨w.heap.size,0,none⟩) 0 0,_,_,?_,.inl rfl,λ_ h=>(by cases h),f1,Mg (kd:=none) (d:=d) (el:=el) (e:=e) ?_ ⟨λi hi=>absurd hi (aV _),.inr (.inl ⟨.inl rfl,_,rfl⟩)⟩⟩
  ·subst de;simp[execOp,ho,d7]
  ·exact .s _ 0 _ w.heap.size 0 0 0 (λ_ _=>undef) (aI _) (by decide) (λi hi=>absurd hi (aV _)) (by omega) (λi j c hi=>absurd hi (aV _)) (λi j c hi=>absurd hi (aV _))
 grind[Aud]
def Wz {len cap:Nat} (uy:len<=cap) {lo:Option T} {l h:Int} {ql:Option Operand} {qh qm:Operand} {kh km:IntKind} (hl:Jq 0 lo=some l) (hh:a.eval qh=.int kh h) (hm:a.eval qm=.int km h)
  (gn:Ki G w O Y e a lo ql) (h0:0<=l) (h1:l<=h) (h2:h<=len):(Instr.sliceBounds true len cap (ql.map a.eval) (some (a.eval qh)) (some (a.eval qm))).run P w=.ok (l.toNat,h.toNat,h.toNat) w:=by
 have jq:0<=h:=by omega
 have hhc:h<=(cap:Int):=by omega
 have tm:max h 0=h:=by omega
 rcases bound_ok hl gn with ⟨_,rfl,rfl⟩|⟨q'',k',rfl,hq''⟩
 ·simp[Instr.sliceBounds,Instr.sliceBound,asIntOf,hh,hm,jq,hhc,tm]
 ·have hmx2:¬(max h 0<l):=by omega
  simp[Instr.sliceBounds,Instr.sliceBound,asIntOf,hh,hm,hq'',jq,hhc,h0,tm,h1]
theorem Akx (hY:YOK P Y) (R:Rel Y X nt ds e a w G) {o:Oper} {p qh qm:Operand} {ql:Option Operand} {t:TypeId} {x hi mx:T} {lo:Option T} (ho:o.op=.slice t p ql (some qh) (some qm)) (hx:VOK G w X.fz Y e x (a.eval p))
  (gn:Ki G w X.fz Y e a lo ql) (qi:VOK G w X.fz Y e hi (a.eval qh)) (hxm:VOK G w X.fz Y e mx (a.eval qm))
  {r r':List (Nat×Nat)} {out:Out} (h:(Aeb Y (Y t) o.dst x lo hi mx).run e.get r=some (out,r')) (hv:∀p∈out.vc,p):OpR P Y X nt ds e a w o out:=by
 unfold Aeb at h;split at h
 ·rename_i el kh hh km m hk hhi tm;have e1:=Ez hhi qi;have e2:=Ez tm hxm;split at h
  ·rename_i l hl;obtain⟨d2,i2,z2,h1,h2,h3,h4,h5,h6,h7,h8⟩:=hY t (by simp[Ty.known,hk]);rw[hk]at h7;simp only[KOK]at h7;subst h7;have bi:∀{n d:Nat} {f:Nat->List C} {wr:Env} {v:Value},e.get 1 d=.any->wr=[(1,d,As el)]->
     (Instr.slice t (a.eval p) (ql.map a.eval) (some (a.eval qh)) (some (a.eval qm))).run P w=.ok v w->Rep G.vis w (.s .n n f) v->(∀i,i<n->(f i).length=(Y el).size)->(v=.slice none 0 0∨((n=0∨FAR<=d)/\∃b,v=.slice b n n))->∀vc,
     OpR P Y X nt ds e a w o ⟨vc,[],.d (.c (.s (.t d) n f)),wr⟩:=by
    intro n d f wr v aq hwr d7 i6 i9 nq vc;subst hwr;obtain⟨G',f1,f2⟩:=Auc R (el:=el) aq i6 i9 nq;refine⟨_,v,w,G',?_,.inl rfl,λ_ h=>(by cases h),f1,f2⟩;have gx:∀{v':Value},(∃b n c,a.eval p=.slice b n c)->(Instr.slice t (a.eval p) (ql.map a.eval) (some (a.eval qh)) (some (a.eval qm))).run P w=.ok v' w->(execOp a.eval o).run P w=.ok (.value v') w:=by
     rintro v' ⟨b,n,c,hb⟩ hr;rw[hb]at hr;simp[execOp,ho,hb,Instr.sliceAt,aO h1,hr]
    refine gx ?_ d7;cases hp:a.eval p with
    |slice b n c=>grind
    |_=>rw[hp]at d7;simp[Instr.slice,aO h1]at d7
   split at h
   ·rename_i id n;simp only[M.run]at h;split at h
    ·rename_i fz sz m' f i8;replace h:=Al h;obtain⟨hb,h⟩:=h;obtain⟨w9,j9⟩:=and_true hb;obtain⟨d,hd,aq,rfl⟩:=Aaj h;have c1:0<=l:=hv _ (by simp);have c2:l=hh:=hv _ (by simp);have c3:hh=m:=hv _ (by simp);have c4:m<=(n:Int):=hv _ (by simp);subst c3;rcases arr_val hx with ⟨hn0,cf⟩|⟨cap,cf,hnc,fy⟩
     ·subst hn0;have ej:=Wz (P:=P) (w:=w) (G:=G) (Y:=Y) (e:=e) (a:=a) (aI 0) hl e1 e2 gn c1 (by omega) c4;refine bi (v:=.slice none 0 0) aq rfl ?_ (.nil _ _) (λi hi=>absurd hi (aV i)) (.inl rfl) _;have mu:l=0:=by omega
      subst mu;have jq:hh=0:=by omega
      subst jq;rw[cf];simp[Instr.slice,aO h1,ej,Dq hY w9]
     ·have ej:=Wz (P:=P) (w:=w) (G:=G) (Y:=Y) (e:=e) (a:=a) hnc hl e1 e2 gn c1 (by omega) c4;subst c2;refine bi (v:=.slice (some ⟨G.bk id,0,none⟩) 0 0) aq rfl ?_ (.s _ 0 _ _ 0 0 sz (λ_ _=>undef) (aI _) (bV _) (λi hi=>absurd hi (aV i)) (by omega) (λi j c hi=>absurd hi (aV i)) (λi j c hi=>absurd hi (aV i))) (λi hi=>absurd hi (aV i)) (.inr ⟨.inl rfl,_,rfl⟩) _;rw[cf];simp[Instr.slice,aO h1,ej,Dq hY w9]
    trivial
   ·split at h
    ·rename_i n f hn;replace h:=Al h;obtain⟨hb,h⟩:=h;obtain⟨w9,j9⟩:=and_true hb;have j9:=aG j9;obtain⟨d,hd,aq,rfl⟩:=Aai h;have c1:0<=l:=hv _ (by simp);have c2:l<=hh:=hv _ (by simp);have c3:hh=m:=hv _ (by simp);have c4:m<=(n:Int):=hv _ (by simp);subst c3;have i6:=Tn hn hx;have ta:(hh - l).toNat=hh.toNat - l.toNat:=by omega
     generalize cf:a.eval p=pv at i6;cases i6 with
     |nil=>
      have ej:=Wz (P:=P) (w:=w) (G:=G) (Y:=Y) (e:=e) (a:=a) (aI 0) hl e1 e2 gn c1 c2 c4;have mu:l=0:=by omega
      subst mu;have jq:hh=0:=by omega
      subst jq;refine bi (v:=.slice none 0 0) aq rfl ?_ (.nil _ _) (λi hi=>absurd hi (aV i)) (.inl rfl) _;rw[cf];simp[Instr.slice,aO h1,ej,Dq hY w9]
     |e g f ba=>
      have ej:=Wz (P:=P) (w:=w) (G:=G) (Y:=Y) (e:=e) (a:=a) (aI 0) hl e1 e2 gn c1 c2 c4;have mu:l=0:=by omega
      subst mu;have jq:hh=0:=by omega
      subst jq;refine bi (v:=.slice (some ba) 0 0) aq rfl ?_ (.e _ _ _) (λi hi=>absurd hi (aV i)) (.inr ⟨.inl rfl,_,rfl⟩) _;rw[cf];simp[Instr.slice,aO h1,ej,Dq hY w9]
     |s g n f b off cap sz u uu hc hz cd hu hr=>
      have ej:=Wz (P:=P) (w:=w) (G:=G) (Y:=Y) (e:=e) (a:=a) uu hl e1 e2 gn c1 c2 c4
      by_cases eu:hh.toNat=l.toNat
      ·have nz:(hh - l).toNat=0:=by omega
       rw[nz]at *
       refine bi (v:=.slice (some ⟨b,off,none⟩) 0 0) aq rfl ?_ (.s _ 0 _ b off 0 sz (λ_ _=>undef) (aI _) (bV _) (λi hi=>absurd hi (aV i)) (by omega) (λi j c hi=>absurd hi (aV i)) (λi j c hi=>absurd hi (aV i))) (λi hi=>absurd hi (aV i)) (.inr ⟨.inr hd,_,rfl⟩) _;rw[cf];simp[Instr.slice,aO h1,ej,Dq hY w9,eu]
      ·have hln:l.toNat+(hh.toNat - l.toNat)<=n:=by omega
       have hs:(Y el).size=sz:=by grind
       have i7:(l.toNat+(hh.toNat - l.toNat))*sz<=n*sz:=aY _ hln;rw[dD]at i7;refine bi (v:=.slice (some ⟨b,off+l.toNat*sz,none⟩) (hh - l).toNat (hh - l).toNat) aq rfl ?_ ?_ (λi hi=>by grind) (.inr ⟨.inr hd,_,rfl⟩) _
       ·rw[cf];simp[Instr.slice,aO h1,ej,Dq hY w9,eu,hs,Ih,ta]
       ·rw[ta];refine .s _ _ _ b _ _ sz (λi j=>u (l.toNat+i) j) (aI _) (by omega) (λi hi=>hz _ (by omega)) (by omega) (λi j c hi hj=>?_) (λi j c hi hj=>hr _ j c (by omega) hj);grind
    trivial
  trivial
 trivial
end
section
variable {P:Program} {Y:TypeId->Ty} {X:Cx} {nt:Nat} {ds:List Deferred} {e:Env} {a:Act} {w:World} {G:Gh} {O:Nat->Prop}
def Aky:∀(l:List Value) (j:Nat) c,(vsC l)[j]?=some c->∃v,l[j]?=some v/\c=.v v:=by
 intro l
 induction l with
 |nil=>grind[vsC]
 |cons v l ih=>
  grind[vsC]
theorem Afr:∀(l:List Value),(vsC l).length=l.length
 | []=>rfl
 |v::l=>by simp[vsC,Afr l]
theorem Aap {vis:Nat->Nat} {l:List Value} (h:l.all Value.oneCell'=true):Aw vis w (vsC l) l:=
 ⟨Afr l,λj c v hc hv=>by
  obtain⟨v',h1,rfl⟩:=Aky l j c hc;rw[hv]at h1;obtain rfl:=bS h1;exact .v v (aS.1 h v (cG hv))⟩
theorem Akz {z:Array Value} {n k:Nat} (hz:0<z.size) (hk:k<n):(madeCells z n)[k]?=z[k % z.size]?:=by
 grind[Nat.mod_lt,madeCells]
theorem Aug (hY:YOK P Y) (R:Rel Y X nt ds e a w G) {o:Oper} {p q:Operand} {t:TypeId} {x y:T} (ho:o.op=.makeSlice t p q) (hx:VOK G w X.fz Y e x (a.eval p)) (hy:VOK G w X.fz Y e y (a.eval q))
  {r r':List (Nat×Nat)} {out:Out} (h:(Aeg Y (Y t) o.dst x y).run e.get r=some (out,r')) (hv:∀p∈out.vc,p):OpR P Y X nt ds e a w o out:=by
 unfold Aeg at h;split at h
 ·rename_i el k n k' m hk hn hm;replace h:=Al h;obtain⟨hb,h⟩:=h;obtain⟨hb,j9⟩:=and_true hb;obtain⟨ax,qv⟩:=and_true hb;have j9:=Bh j9;obtain⟨d,_,hd,hf,rfl⟩:=Je h;have c1:n=m:=hv _ aC;have c2:0<=n:=hv _ (.tail _ (.head _));have c3:n.toNat*(Y el).bytes<=140737488355328:=hv _ (.tail _ (.tail _ (.head _)));have c4:n.toNat<=140737488355328:=hv _ (.tail _ (.tail _ (.tail _ (.head _))));clear hv h;subst c1;have e1:=Ez hn hx;have e2:=Ez hm hy;obtain⟨d2,i2,z2,h1,h2,h3,h4,h5,h6,h7,h8⟩:=hY t (by simp[Ty.known,hk]);rw[hk]at h7;simp only[KOK]at h7;subst h7;obtain⟨_,ie,ze,g1,g2,g3,g4,g5,g6,g7,g8⟩:=hY el ax;have pj:ze.cells.size=(Y el).size:=by grind
  have c5:ie.bytes*n.toNat<=281474976710656:=by grind
  have c6:(ie.bytes:Int)*n=((ie.bytes*n.toNat:Nat):Int):=by grind
  have d7:=run_make (P:=P) w t el ie ze h1 g2 g5 k k' n n c2 (dV _) (by omega) (by omega);obtain⟨G',q1,q2,R',lift,q3⟩:=Jd R hd hf (.cells (madeCells ze.cells (n.toNat*ie.size)) el) (st:=.arrc false (Y el).size n.toNat λ_=>vsC (Y el).zero) (ce:=[]) (by simp) (λt k h=>rfl)
   (λG' cd=>by
    refine⟨⟨_,el,_,bN w _,.inl rfl,by grind[size_madeCells],λi hi=>⟨by grind[Afr],λj c hj=>?_⟩⟩,j9,λhh=>(by cases hh),λ_=>by rw[cd];exact R.fresh _ (aI _)⟩;obtain⟨v,bq,rfl⟩:=Aky _ j c hj;have ol:j<(Y el).size:=by grind
    refine⟨v,?_,.v v (aS.1 qv v (cG bq))⟩;have i7:(i+1)*(Y el).size<=n.toNat*(Y el).size:=aY _ hi;grind[Akz,Nat.mul_comm,Nat.mul_add_mod,Nat.mod_eq_of_lt])
   (λG' lift k hk=>by
    rw[cH]at hk;exact absurd (R.mem.cells d k hk).1 (by rw[hd];exact λh=>Bc h.symm))
  refine⟨_,.slice (some ⟨w.heap.size,0,none⟩) n.toNat n.toNat,_,G',?_,.inl rfl,λ_ h=>(by cases h),R',VOK.ids_used (id:=d) ?_ trivial rfl rfl (by
   grind)⟩
  ·simp[execOp,ho,e1,e2,d7]
  ·simp only[Aa];exact .inr ⟨n.toNat,by rw[q2],aI _,by unfold maxLen;omega,_,el,_,by rw[q2];exact bN w _,by rw[size_madeCells,g3];exact dJ _ j9⟩
 trivial
def Xb (R:Rel Y X nt ds e a w G) {id:Nat} (d6:e.get 2 id≠.any) (bn:G.vis (G.bk id)=0) {ob ob':Obj} (w8:w.heap[G.bk id]?=some ob) (ip:ob≠.deferred (some [])) (hnc:∀cs t z,ob=.cells cs t z->∃az t' z',ob'=.cells az t' z'/\cs.size<=az.size) {st:T} (m8:st≠.any) (gx:st≠live) (hnl:e.get 2 id≠live)
  (i8:KeepV G.vis w { w with heap:=w.heap.setIfInBounds (G.bk id) ob' }->Bk G { w with heap:=w.heap.setIfInBounds (G.bk id) ob' } st (G.bk id)):
  Rel Y X nt ds ((2,id,st)::e) a { w with heap:=w.heap.setIfInBounds (G.bk id) ob' } G/\∀x v,VOK G w X.fz Y e x v->VOK G { w with heap:=w.heap.setIfInBounds (G.bk id) ob' } X.fz Y ((2,id,st)::e) x v:=by
 obtain⟨ar,w6,cu⟩:=R.mem.box id d6;have y8:∀b,b≠G.bk id->(w.heap.setIfInBounds (G.bk id) ob')[b]?=w.heap[b]?:=λb h=>by
  grind
 have e9:∀b i,b≠G.bk id->({ w with heap:=w.heap.setIfInBounds (G.bk id) ob' }:World).cell? ⟨b,i,none⟩=w.cell? ⟨b,i,none⟩:=λb i h=>bF (y8 b h);have mz:∀t k,t≠2->Env.get ((2,id,st)::e) t k=e.get t k:=λt k h=>Bb (λhh=>h hh.1.symm);have h2:∀k,Env.get ((2,id,st)::e) 2 k=if k=id then st else e.get 2 k:=λk=>by
  grind[Am]
 have s4:KeepV G.vis w { w with heap:=w.heap.setIfInBounds (G.bk id) ob' }:=by
  refine⟨λb i hi=>e9 b i λhh=>?_,λb hi es c he=>?_,λb cs t z h=>?_⟩
  ·grind
  ·grind
  ·grind
 refine R.move (w':={ w with heap:=w.heap.setIfInBounds (G.bk id) ob' }) ⟨λ_=>aI _,s4,λb hb=>y8 b λhh=>ar (by rw[<-hh];exact R.fzh b hb)⟩ ⟨rfl,rfl,rfl,by simp⟩ rfl rfl
  (λb hb=>y8 b λhh=>ar (by grind)) (λD hD=>y8 D λhh=>?_) (λt=>mz 0 t (by decide)) (λk hk=>⟨rfl,by grind⟩)
  (λk hk=>by grind) (λk b _ hb _=>⟨hb,y8 b λhh=>(R.tks k b hb).2.2.2.2 id d6 hh.symm,rfl⟩)
  (λlift i5 v7=>?_) (λi5 k hk=>?_) (λk b hb=>?_) R.tinj (λb hb=>R.fresh b (by grind)) (λ_ _=>rfl) (λ_ _=>rfl)
 ·have:=(R.marks D hD).2.1;grind
 ·by_cases h:i5=id
  ·subst h;refine .inr ⟨ar,by grind,R.ownb i5 d6,λi hi hh=>?_,λk hk=>(R.tks k _ hk).2.2.2.2 i5 d6 rfl,by grind,λ_ hl=>absurd (by grind) gx,λk hk=>?_⟩
   ·rw[h2]at hi;split at hi
    ·assumption
    ·exact R.mem.inj i i5 hi d6 hh
   ·rw[mz _ k (by omega)]at hk;exact absurd (R.mem.cells i5 k hk).1 hnl
  ·rw[h2,bI h]at v7;exact .inl ⟨v7,by grind,y8 _ λhh=>h (R.mem.inj _ _ v7 d6 hh),rfl,λk=>mz _ k (by omega)⟩
 ·rw[h2];split
  ·exact m8
  ·rw[mz _ k (by omega)]at hk;rw[(R.mem.cells i5 k hk).1];exact Bc
 ·obtain⟨h3,h4,h5,h6,h7⟩:=R.tks k b hb;exact⟨h3,by grind,h5,by grind,h7,(R.tlive k b hb).mono (λk hk=>by trivial) (λi5 v7=>⟨by grind,rfl⟩)⟩
theorem Aaq {v:Value} {k:List Int} (h:Br 0 v=some k):∃n,v=.int .i64 n/\k=[n]:=by
 unfold Br at h;grind
theorem Afs:∀{vs:List Value} {l:List Int},Hy (vsC vs)=some l->vs=l.map (Value.int .i64)
 | [],l,h=>by
  grind[vsC,Hy]
 |v::vs,l,h=>by
  rw[vsC]at h;unfold Hy at h;split at h
  ·trivial
  ·rename_i n rest kf;obtain⟨h1,h2⟩:=iD kf;subst h2;injection h1 with h1
   subst h1;cases hr:Hy (vsC vs) with
   |none=>grind
   |some m=>
    rw[hr]at h;simp only[bO,aA]at h;subst h;rw[Afs hr];rfl
  ·cases h
theorem Al0:∀l:List Int,Hy (vsC (l.map (Value.int .i64)))=some l
 | []=>rfl
 |n::l=>by
  show (Hy (vsC (l.map (Value.int .i64)))).map _=_
  rw[Al0 l];rfl
def valK (kn:Nat) (k:List Int):Value:=
 match kn with
 |0=>.int .i64 (k.headD 0)
 |_+1=>.agg (k.map (Value.int .i64)).toArray
def Aas {kn:Nat} {v:Value} {k:List Int} (h:Br kn v=some k):v=valK kn k:=by
 unfold Br at h;split at h
 ·simp only[aA]at h;subst h;rfl
 ·rename_i n cs;split at h
  ·rename_i l hl;cases hb:l.length.beq (n+1) with
   |false=>grind
   |true=>
    rw[hb]at h;simp only[bA,aA]at h;subst h;have h2:=Afs hl
    show Value.agg cs=.agg (l.map (Value.int .i64)).toArray
    rw[<-h2]
  ·cases h
 ·cases h
def Aat {n:Nat} {v:Value} {k:List Int} (h:Br (n+1) v=some k):v=.agg (k.map (Value.int .i64)).toArray/\k.length=n+1:=by
 unfold Br at h;split at h
 ·trivial
 ·rename_i m cs hh;obtain rfl:=Nat.succ.inj hh;split at h
  ·rename_i l hl;cases hb:l.length.beq (n+1) with
   |false=>grind
   |true=>
    rw[hb]at h;simp only[bA,aA]at h;subst h;have h2:=Afs hl;rw[<-h2];grind[Nat.eq_of_beq_eq_true]
  ·cases h
 ·cases h
def keyN_kind {y:Ty} {kn:Nat} (h:Nk y=some kn):(kn=0/\y.kind=.int .i64)∨(∃n fs,kn=n+1/\y.size=n+1/\y.kind=.struct fs/\y.eqi=true):=by
 unfold Nk at h;split at h
 ·grind
 ·rename_i fs hk;obtain⟨hb,h⟩:=Jx h;obtain⟨h1,h2⟩:=and_true hb;have h2:0<y.size:=aH h2;simp only[aA]at h;obtain⟨n,hn⟩:∃n,y.size=n+1:=⟨y.size - 1,by omega⟩
  exact .inr ⟨n,fs,by omega,hn,hk,h1⟩
 ·cases h
def Aft {y:Ty} {x:T} {v:Value} {kn:Nat} {p:Nat×List Int} (hb:Qo y kn p=true) (h:Wc x=some p) (hx:VOK G w O Y e x v):Nk y=some kn/\Br kn v=some p.2:=by
 unfold Qo at hb;split at hb
 ·rename_i n hn;obtain⟨h1,h2⟩:=and_true hb;have h1:=aG h1;have h2:=aG h2;subst h1;refine⟨hn,?_⟩;unfold Wc at h;split at h
  ·rename_i m;simp only[aA]at h;subst h;have h2:n=0:=h2;subst h2;rw[Cl hx];rfl
  ·rename_i xs;split at h
   ·rename_i m l hl;simp only[aA]at h;subst h;have h2:n=l.length+1:=h2;subst h2;have hr:=hx.rel;simp only[Aa,Av]at hr;obtain⟨vs,rfl,hr⟩:=hr;have h3:=Afp hl hr;grind[Br,Al0]
   ·cases h
  ·cases h
 ·cases hb
def findNow_int (n:Int):∀(l:List MapEntry) (k:Nat),(∀en∈l,∃m,en.key=.int .i64 m)->
  (∃(i:Nat) (en:MapEntry),l[i]?=some en/\en.key=.int .i64 n/\Instr.findNow (.int .i64) (.int .i64 n) l k=some (some (k+i,en.val)))∨((∀en∈l,en.key≠.int .i64 n)/\Instr.findNow (.int .i64) (.int .i64 n) l k=some none):=by
 intro l
 induction l with
 |nil=>intro k _;exact .inr ⟨λen h=>(by cases h),rfl⟩
 |cons en l ih=>
  intro k h;obtain⟨m,hm⟩:=h en aC
  by_cases hmn:n=m
  ·subst hmn;refine .inl ⟨0,en,rfl,hm,?_⟩;grind[Instr.findNow,Instr.sameNow]
  ·have hs:Instr.sameNow (.int .i64) (.int .i64 n) en.key=some false:=by grind[Instr.sameNow]
   have hf:Instr.findNow (.int .i64) (.int .i64 n) (en::l) k=Instr.findNow (.int .i64) (.int .i64 n) l (k+1):=by grind[Instr.findNow]
   rw[hf];rcases ih (k+1) (λen h'=>h en (aU _ h')) with ⟨i,bg,h1,h2,h3⟩|⟨h1,h2⟩
   ·exact .inl ⟨i+1,bg,by trivial,h2,by grind⟩
   grind
theorem Auh {kt:TypeId} {es:Array MapEntry} {m9:Nat} {dom:List Int->Bool} (ke:P.underlying kt=some (.int .i64)) (hk:Nr 0 es m9 dom) (n:Int):
  (dom [n]=true/\∃(i:Nat) (en:MapEntry),es[i]?=some en/\Br 0 en.key=some [n]/\(Instr.findKey kt (.int .i64 n) es.toList).run P w=.ok (some (i,en.val)) w)∨
  (dom [n]=false/\(∀(i:Nat) en,es[i]?=some en->Br 0 en.key≠some [n])/\(Instr.findKey kt (.int .i64 n) es.toList).run P w=.ok none w):=by
 have o6:∀en∈es.toList,∃m,en.key=.int .i64 m:=λen hm=>by
  obtain⟨i,hi,rfl⟩:=bM.1 hm;obtain⟨k,h1,_⟩:=hk.1 i es.toList[i] (by grind);grind[Aaq]
 rcases findNow_int n es.toList 0 o6 with ⟨i,en,h1,h2,h3⟩|⟨h1,h2⟩
 ·rw[bD]at h1;have h4:Br 0 en.key=some [n]:=by rw[h2];rfl
  obtain⟨k,h5,h6⟩:=hk.1 i en h1;grind[MapKept.run_findKey]
 ·have dy:∀(i:Nat) en,es[i]?=some en->Br 0 en.key≠some [n]:=λi en hi cw=>by
   grind[Aaq]
  refine .inr ⟨?_,dy,MapKept.run_findKey ke h2⟩;cases hd:dom [n] with
  |false=>rfl
  |true=>
   obtain⟨i,en,h3,h4⟩:=hk.2.1 [n] hd;grind
theorem Aui {kt:TypeId} (ke:P.underlying kt=some (.int .i64)) (em:Bool) (n:Int):(Instr.checkKey em 10000 kt (.int .i64 n)).run P w=.ok () w:=by
 unfold Instr.checkKey;simp[aO ke]
theorem eqKK:∀{a b:List Int},eqL a b=true↔a=b
 | [],[]=>by simp[eqL]
 | [],_::_=>by simp[eqL]
 |_::_,[]=>by simp[eqL]
 |a::l,b::m=>by
  have:=eqKK (a:=l) (b:=m);grind[eqL]
theorem findAsking_ints {kt:TypeId} {n:Nat} (kf:EqI P kt (n+1)) {k:List Int} (hk:k.length=n+1):∀(l:List MapEntry) (i:Nat),(∀en∈l,∃m,Br (n+1) en.key=some m)->
  (∃(j:Nat) (en:MapEntry),l[j]?=some en/\Br (n+1) en.key=some k/\(Instr.findAsking kt (.agg (k.map (Value.int .i64)).toArray) l i).run P w=.ok (some (i+j,en.val)) w)∨
  ((∀en∈l,Br (n+1) en.key≠some k)/\(Instr.findAsking kt (.agg (k.map (Value.int .i64)).toArray) l i).run P w=.ok none w)
 | [],i,_=>.inr ⟨λen h=>(by cases h),rfl⟩
 |en::l,i,h=>by
  obtain⟨m,hm⟩:=h en aC;obtain⟨h1,h2⟩:=Aat hm;have hq:=(kf k m hk h2 w).2.1;rw[<-h1]at hq;unfold Instr.findAsking;simp only[cF,hq,bK]
  by_cases hkm:k=m
  ·subst hkm;have he:eqL k k=true:=(eqKK (a:=k) (b:=k)).2 rfl;rw[he];exact .inl ⟨0,en,rfl,hm,by simp⟩
  ·have he:eqL k m=false:=by grind[eqKK]
   rw[he];simp only[dH,iH];rcases findAsking_ints kf hk l (i+1) (λbg h'=>h bg (aU _ h')) with ⟨j,bg,q1,q2,q3⟩|⟨q1,q2⟩
   ·exact .inl ⟨j+1,bg,by trivial,q2,by grind⟩
   grind
def find_keyG (hY:YOK P Y) {kt:TypeId} {kn:Nat} {es:Array MapEntry} {m9:Nat} {dom:List Int->Bool} {v:Value} {key:List Int} (ke:Nk (Y kt)=some kn) (hk:Nr kn es m9 dom) (hv:Br kn v=some key):
  (dom key=true/\∃(i:Nat) (en:MapEntry),es[i]?=some en/\Br kn en.key=some key/\(Instr.findKey kt v es.toList).run P w=.ok (some (i,en.val)) w)∨
  (dom key=false/\(∀(i:Nat) en,es[i]?=some en->Br kn en.key≠some key)/\(Instr.findKey kt v es.toList).run P w=.ok none w):=by
 rcases keyN_kind ke with ⟨rfl,hki⟩|⟨n,fs,rfl,j9,ir,heqi⟩
 ·obtain⟨d3,i3,z3,k1,k2,k3,k4,k5,k6,k7,k8⟩:=hY kt (by simp[Ty.known,hki]);grind[KOK,Aaq,Auh]
 ·obtain⟨d3,i3,z3,k1,k2,k3,k4,k5,k6,k7,k8,k9,k10,k11⟩:=hY kt (by simp[Ty.known,ir]);rw[ir]at k7;simp only[KOK]at k7;obtain⟨fields,rfl,_,_⟩:=k7;have kf:=k10 heqi;rw[j9]at kf;obtain⟨rfl,i9⟩:=Aat hv;have o6:∀en∈es.toList,∃m,Br (n+1) en.key=some m:=λen hm=>by
   obtain⟨i,hi,rfl⟩:=bM.1 hm;obtain⟨k,h1,_⟩:=hk.1 i es.toList[i] (by grind);grind
  have hnow:(Instr.findKey kt (.agg (key.map (Value.int .i64)).toArray) es.toList).run P w=(Instr.findAsking kt (.agg (key.map (Value.int .i64)).toArray) es.toList).run P w:=by
   unfold Instr.findKey;simp only[cF,aO k1,bK];cases es.toList with
   |nil=>trivial
   |cons en l=>trivial
  rw[hnow];rcases findAsking_ints (w:=w) kf i9 es.toList 0 o6 with ⟨i,en,h1,h2,h3⟩|⟨h1,h2⟩
  ·rw[bD]at h1;obtain⟨k,h5,h6⟩:=hk.1 i en h1;grind
  ·have dy:∀(i:Nat) en,es[i]?=some en->Br (n+1) en.key≠some key:=λi en hi=>h1 en (cG (by rw[bD];exact hi));refine .inr ⟨?_,dy,h2⟩;cases hd:dom key with
   |false=>rfl
   |true=>
    obtain⟨i,en,h3,h4⟩:=hk.2.1 key hd;grind
def Pd (hY:YOK P Y) {kt:TypeId} {kn:Nat} {v:Value} {key:List Int} (ke:Nk (Y kt)=some kn) (hv:Br kn v=some key) (em:Bool):(Instr.checkKey em 10000 kt v).run P w=.ok () w:=by
 rcases keyN_kind ke with ⟨rfl,hki⟩|⟨n,fs,rfl,j9,ir,heqi⟩
 ·obtain⟨d3,i3,z3,k1,k2,k3,k4,k5,k6,k7,k8⟩:=hY kt (by simp[Ty.known,hki]);grind[KOK,Aaq,Aui]
 ·obtain⟨d3,i3,z3,k1,k2,k3,k4,k5,k6,k7,k8,k9,k10,k11⟩:=hY kt (by simp[Ty.known,ir]);have kf:=k10 heqi;rw[j9]at kf;obtain⟨rfl,i9⟩:=Aat hv;exact (kf key key i9 i9 w).2.2 em
def Auj {kn:Nat} {v v':Value} {key:List Int} (hv:Br kn v=some key) (ak:Br kn v'=some key):(Instr.keyThatStays v' v).run P w=.ok v w:=by
 rw[Aas hv,Aas ak];have rh:Instr.sameBits 10000 (valK kn key) (valK kn key)=true:=by
  unfold valK;split
  ·simp[Instr.sameBits]
  ·grind[Instr.sameBits]
 simp[Instr.keyThatStays,rh]
theorem Auk (hY:YOK P Y) {t kt et:TypeId} {kn:Nat} {key:List Int} {kv:Value} {ag:Bool} {dom:List Int->Bool} {val:List Int->List C} {es:Array MapEntry} {m9 b:Nat} {ok:Bool} (hk:(Y t).kind=.map kt et) (ke:Nk (Y kt)=some kn) (n8:Br kn kv=some key) (l8:(Y et).agg=some ag) (hz:(Y et).zero.all Value.oneCell'=true)
  (hb:w.heap[b]?=some (.map es m9)) (kg:Pc G.vis w kn ag dom val es m9) {r r':List (Nat×Nat)} {out:Out} (h:(Wd (Y et) ag key dom val ok).run e.get r=some (out,r')) (hv:∀p∈out.vc,p):
  ∃v,(Instr.lookup t (.map (some b)) kv ok).run P w=.ok v w/\out.wr=[]/\out.hyp=[]/\VOK G w O Y e out.val v:=by
 obtain⟨d2,i2,z2,h1,h2,h3,h4,h5,h6,h7,h8⟩:=hY t (by simp[Ty.known,hk]);rw[hk]at h7;simp only[KOK]at h7;subst h7;obtain⟨z,nf,hzc⟩:=Wt hY (Et l8) w;obtain⟨n7,oc⟩:=kg
 -- the value,and what it reads as
 have keyH:∀(v:Value),(dom key=true->∃(i:Nat) (en:MapEntry),es[i]?=some en/\Br kn en.key=some key/\v=en.val)->(dom key=false->v=z)->(dom key=false->val key=vsC (Y et).zero)->
   Pb ag v/\Aw G.vis w (val key) (Gx ag v):=by
  intro v h1 h2 h3;cases hd:dom key with
  |true=>
   grind
  |false=>
   rw[h2 hd,h3 hd];have kw:Pb ag z/\Gx ag z=z.cells.toList:=by
    obtain⟨d4,i4,z4,q1,q2,q3,q4,q5,q6,q7,q8,q9,q10,q11⟩:=hY et (Et l8);have hzz:z=z4:=by
     have:(zeroValue et).run P w=.ok z4 w:=by simp[zeroValue,typeInfo,q2,q5]
     rw[this]at nf;simpa using nf.symm
    subst hzz;have:=q11.1 ag l8;cases ag with
    |true=>
     obtain⟨cs,rfl⟩:=this;exact⟨⟨cs,rfl⟩,rfl⟩
    |false=>
     have this:z.oneCell'=true:=this;exact⟨this,by cases z<;>trivial⟩
   grind[Aap]
 -- what the code comes to
 have d7:∃v,(Instr.lookup t (.map (some b)) kv ok).run P w=.ok (if ok then .tuple #[v,.bool (dom key)] else v) w/\(dom key=true->∃(i:Nat) (en:MapEntry),es[i]?=some en/\Br kn en.key=some key/\v=en.val)/\(dom key=false->v=z):=by
  rcases find_keyG (w:=w) hY ke n7 n8 with ⟨hd,i,en,g1,g2,g3⟩|⟨hd,g1,g2⟩
  ·refine⟨en.val,?_,λ_=>⟨i,en,g1,g2,rfl⟩,λhh=>by grind⟩;simp[Instr.lookup,aO h1,cV hb,Pd hY ke n8,g3,hd]
  ·refine⟨z,?_,λhh=>(by grind),λ_=>rfl⟩;simp[Instr.lookup,aO h1,cV hb,Pd hY ke n8,g2,nf,hd]
 obtain⟨v,d7,bq,cj⟩:=d7
 -- its shape
 have one:∀{d:D},asD ag ((val key).map C.dem)=some (.d d)->(dom key=false->val key=vsC (Y et).zero)->Av G.vis w O d v/\VOK G w O Y e (.d d) v:=by
  intro d hd nz;obtain⟨s1,s2⟩:=keyH v bq cj nz;have s2:=s2.dem;unfold asD at hd;split at hd
  ·simp only[aA,T.d.injEq]at hd;subst hd;obtain⟨cs,rfl⟩:=s1;exact⟨⟨cs,rfl,s2⟩,VOK.agg s2⟩
  ·rename_i c hc _;simp only[aA,T.d.injEq]at hd;subst hd;rw[hc]at s2;have sa:Rep G.vis w c v:=s2.2 0 c v rfl rfl;have hcd:c=c.dem:=by
    cases iv:val key with
    |nil=>grind
    |cons c0 l=>
     rw[iv]at hc;simp only[List.map_cons,cI]at hc;rw[<-hc.1];cases c0<;>rfl
   refine⟨sa,?_⟩;rw[hcd];exact VOK.dem (x:=.c c) sa
  ·cases hd
 unfold Wd at h;split at h
 ·rename_i d hd;simp only[M.run,aA,aD]at h;obtain⟨rfl,_⟩:=h;obtain⟨g1,g2⟩:=one hd (hv _ aC);refine⟨_,d7,rfl,rfl,.plain ?_ rfl rfl trivial⟩;simp only[Aa,eV];refine⟨_,rfl,rfl,λj x u hj hu=>?_⟩
  match j with
  |0=>simp at hj hu;subst hj;subst hu;exact g1
  |1=>simp at hj hu;subst hj;subst hu;exact Rep.v _ rfl
  |j+2=>simp at hj
 ·rename_i x hx;simp only[M.run,aA,aD]at h;obtain⟨rfl,_⟩:=h;refine⟨_,d7,rfl,rfl,?_⟩;simp only[dH,iH];have hxd:∃d,x=.d d:=by
   unfold asD at hx;grind
  grind[List.mem_cons_self]
 trivial
end
section
variable {P:Program} {Y:TypeId->Ty} {X:Cx} {nt:Nat} {ds:List Deferred} {e:Env} {a:Act} {w:World} {G:Gh} {O:Nat->Prop}
def Al1 {x:Option Bool} {b:Bool} (h:(x==some b)=true):x=some b:=by
 grind
theorem Aul (hY:YOK P Y) (R:Rel Y X nt ds e a w G) {o:Oper} {p q:Operand} {t:TypeId} {x k:T} {ok:Bool} (ho:o.op=.lookup t p q ok) (hx:VOK G w X.fz Y e x (a.eval p)) (hy:VOK G w X.fz Y e k (a.eval q))
  {r r':List (Nat×Nat)} {out:Out} (h:(Aed Y (Y t) x k ok).run e.get r=some (out,r')) (hv:∀p∈out.vc,p):OpR P Y X nt ds e a w o out:=by
 unfold Aed at h;split at h
 ·rename_i kt et key hk ic;have bi:∀{kn:Nat} {ag:Bool} {dom:List Int->Bool} {val:List Int->List C} {b:Nat} {es:Array MapEntry} {cl:Nat} {r r':List (Nat×Nat)},(Qo (Y kt) kn key&&(Y et).agg==some ag&&(Y et).zero.all Value.oneCell')=true->
    a.eval p=.map (some b)->w.heap[b]?=some (.map es cl)->Pc G.vis w kn ag dom val es cl->(Wd (Y et) ag key.2 dom val ok).run e.get r=some (out,r')->OpR P Y X nt ds e a w o out:=by
   intro kn ag dom val b es cl r r' hb hp hh kg h;obtain⟨hb,hz⟩:=and_true hb;obtain⟨hb,l8⟩:=and_true hb;have l8:=Al1 l8;obtain⟨k1,hq⟩:=Aft hb ic hy;obtain⟨v,g1,g2,g3,g4⟩:=Auk (O:=X.fz) (e:=e) hY hk k1 hq l8 hz hh kg h hv;have:out=⟨out.vc,[],out.val,[]⟩:=by rw[<-g2,<-g3]
   rw[this];refine OpR.pure R (v:=v) ?_ g4 (λ_ h=>(by cases h));simp[execOp,ho,hp,g1]
  split at h
  ·rename_i id;simp only[M.run]at h;split at h
   ·rename_i fz kn ag dom val i8;replace h:=Al h;obtain⟨hb,h⟩:=h;have hp:=hx.rel;simp only[Aa]at hp;have:=(R.mem.box id (by grind)).2.2;rw[i8]at this;obtain⟨⟨es,cl,g1,g2⟩,_⟩:=this;grind
   trivial
  ·rename_i kn ag dom val;replace h:=Al h;obtain⟨hb,h⟩:=h;have hr:=hx.reld;generalize cf:a.eval p=pv at hr;have hr:Rep G.vis w (.m kn ag dom val) pv:=hr;cases hr with
   |m _ _ _ _ b es cl c1 c2 c3 c4 c5=>exact bi hb cf c2 ⟨c3,λi en k he hk=>⟨(c4 i en k he hk).1,(c4 i en k he hk).2,λj c u hc hu=>c5 i j en k c u he hk hc hu⟩⟩ h
  trivial
 trivial
theorem Ts {a b:List Int}:eqK a b=true↔a=b:=eqKK
def Ny (val:List Int->List C) (key:List Int) (cs:List C) (k:List Int):Cr val key cs k=if k=key then cs else val k:=by
 grind[Cr,Ts]
theorem Ij (dom:List Int->Bool) (key k:List Int):Bw dom key k=true↔k=key∨dom k=true:=by
 grind[Bw,Ts]
theorem Al2 (hY:YOK P Y) (R:Rel Y X nt ds e a w G) {o:Oper} {p q s:Operand} {t:TypeId} {x k y:T} (ho:o.op=.mapUpdate t p q s∨o.op=.insert t p q s) (hx:VOK G w X.fz Y e x (a.eval p)) (t8:VOK G w X.fz Y e k (a.eval q)) (hy:VOK G w X.fz Y e y (a.eval s))
  {r r':List (Nat×Nat)} {out:Out} (h:(Zq Y (Y t) x k y).run e.get r=some (out,r')):OpR P Y X nt ds e a w o out:=by
 unfold Zq at h;split at h
 ·rename_i kt et key id hk ic;simp only[M.run]at h;split at h
  ·rename_i kn ag dom val i8;split at h
   ·rename_i cs aw;replace h:=Al h;obtain⟨hb,h⟩:=h;obtain⟨hb,l8⟩:=and_true hb;have l8:=Al1 l8;simp only[M.run,aA,aD]at h;obtain⟨rfl,_⟩:=h;obtain⟨k1,hq⟩:=Aft hb ic t8;obtain⟨_,key⟩:=key;dsimp only at hq hb ⊢;generalize wn:a.eval q=kv at hq t8;have hp:=hx.rel;simp only[Aa]at hp;have d6:e.get 2 id≠.any:=by grind
    have z6:=(R.mem.box id d6).2.2;rw[i8]at z6;obtain⟨⟨es,cl,g1,n7,oc⟩,_,g3⟩:=z6;have bn:=g3 rfl;obtain⟨d2,i2,z2,h1,h2,h3,h4,h5,h6,h7,h8⟩:=hY t (by simp[Ty.known,hk]);rw[hk]at h7;simp only[KOK]at h7;subst h7
    -- the new value,as an entry's
    have cq:Pb ag (a.eval s)/\Aw G.vis w (cs.map C.dem) (Gx ag (a.eval s)):=by
     unfold Ajl at aw;split at aw
     ·simp only[aA]at aw;subst aw;obtain⟨vs,ai,hr⟩:=hy.reld;rw[ai];exact⟨⟨vs,rfl⟩,hr.dem⟩
     ·simp only[aA]at aw;subst aw;have hr:Rep G.vis w _ (a.eval s):=hy.reld;exact⟨Lf hr,Aw.dem ⟨rfl,λj c u hj hu=>by
       grind[Gx]⟩⟩
     ·cases aw
    have bi:∀(md:Array MapEntry) (cl':Nat),(Instr.mapUpdate t (.map (some (G.bk id))) kv (a.eval s)).run P w=.ok () { w with heap:=w.heap.setIfInBounds (G.bk id) (.map md cl') }->
      Nr kn md cl' (Bw dom key)->(∀(i:Nat) en k,md[i]?=some en->Br kn en.key=some k->(k=key/\en.val=a.eval s)∨(k≠key/\∃(i':Nat) (bg:MapEntry),es[i']?=some bg/\Br kn bg.key=some k/\en.val=bg.val))->
      OpR P Y X nt ds e a w o ⟨[],[],.any,[(2,id,.mapc false kn ag (Bw dom key) (Cr val key (cs.map C.dem)))]⟩:=by
     intro md cl' d7 ky pc;have mw:=Xb R d6 bn g1 (ob':=.map md cl') (by simp) (λ_ _ _ hh=>(by cases hh)) (st:=.mapc false kn ag (Bw dom key) (Cr val key (cs.map C.dem))) (by simp) (by simp[live]) (by rw[i8];simp[live]) (λn8=>by
      refine⟨⟨md,cl',?_,ky,λi en k he hk=>?_⟩,λhh=>(by cases hh),λ_=>bn⟩
      ·grind
      ·rw[Ny];rcases pc i en k he hk with ⟨rfl,kz⟩|⟨s7,i',bg,q1,q2,q3⟩
       ·rw[bG rfl,kz];exact⟨cq.1,cq.2.mono' (λ_=>aI _) n8⟩
       ·rw[bI s7,q3];obtain⟨q4,q5⟩:=oc i' bg k q1 q2;exact⟨q4,q5.mono' (λ_=>aI _) n8⟩)
     refine⟨.skip,undef,_,G,?_,.inr ⟨rfl,rfl⟩,λ_ h=>(by cases h),mw.1,VOK.any _⟩;rcases ho with ho|ho<;>simp[execOp,ho,hp,wn,d7]
    rcases find_keyG (w:=w) hY k1 n7 hq with ⟨hd,i,en,f1,f2,f3⟩|⟨hd,f1,f2⟩
    ·-- the key is there
     have ic:en.key=kv:=by rw[Aas f2,Aas hq]
     have dk:∀(j:Nat) bg,(es.modify i λen=>{ en with key:=kv,val:=a.eval s })[j]?=some bg->∃bc,es[j]?=some bc/\bg=if i=j then { bc with key:=kv,val:=a.eval s } else bc:=by grind
     have cw:∀(j:Nat) bg k,(es.modify i λen=>{ en with key:=kv,val:=a.eval s })[j]?=some bg->Br kn bg.key=some k->∃bc,es[j]?=some bc/\Br kn bc.key=some k/\(i=j->k=key/\bg.val=a.eval s)/\(i≠j->bg=bc):=by grind
     refine bi (es.modify i λen=>{ en with key:=kv,val:=a.eval s }) cl ?_ ⟨λj bg hj=>?_,λk hk=>?_,λj j' en1 en2 k h1 h2 h3 h4=>?_,Asp n7.2.2.2 _ _ λ_=>rfl⟩ (λj bg k hj hk=>?_)
     ·simp[Instr.mapUpdate,aO h1,cV g1,Pd hY k1 hq,f3,f1,ic,Auj hq hq,eX _ g1]
     ·obtain⟨bc,h0,rfl⟩:=dk j bg hj;obtain⟨k,c1,c2⟩:=n7.1 j bc h0;grind[Ij]
     ·have hdk:dom k=true:=by grind[Ij]
      obtain⟨j,bc,c1,c2⟩:=n7.2.1 k hdk;refine⟨j,if i=j then { bc with key:=kv,val:=a.eval s } else bc,?_,?_⟩
      ·grind
      grind
     ·obtain⟨e1,q1,q2,_⟩:=cw j en1 k h1 h3;obtain⟨e2,q3,q4,_⟩:=cw j' en2 k h2 h4;exact n7.2.2.1 j j' e1 e2 k q1 q3 q2 q4
     ·obtain⟨bc,q1,q2,q3,q4⟩:=cw j bg k hj hk
      by_cases sn:i=j
      ·grind
      ·refine .inr ⟨λax=>sn ?_,j,bc,q1,q2,by rw[q4 sn]⟩;subst ax;exact n7.2.2.1 i j en bc _ f1 q1 f2 q2
    ·-- a new key
     have dk:∀(j:Nat) bg,(es.push { key:=kv,val:=a.eval s,born:=cl })[j]?=some bg->(es[j]?=some bg/\j<es.size)∨(j=es.size/\bg={ key:=kv,val:=a.eval s,born:=cl }):=by grind
     refine bi (es.push { key:=kv,val:=a.eval s,born:=cl }) (cl+1) ?_ ⟨λj bg hj=>?_,λk hk=>?_,λj j' en1 en2 k h1 h2 h3 h4=>?_,Aso n7.2.2.2 _ _⟩ (λj bg k hj hk=>?_)
     ·simp[Instr.mapUpdate,aO h1,cV g1,Pd hY k1 hq,f2,eX _ g1]
     ·rcases dk j bg hj with ⟨h0,_⟩|⟨_,rfl⟩
      ·obtain⟨k,c1,c2⟩:=n7.1 j bg h0;grind[Ij]
      grind[Ij]
     ·rcases (Ij _ _ _).1 hk with rfl|hk
      ·exact⟨es.size,_,by rw[Array.getElem?_push,bG rfl],hq⟩
      ·obtain⟨j,bc,c1,c2⟩:=n7.2.1 k hk;grind
     ·have ax:∀{k':List Int},Br kn kv=some k'->k'=key:=λhh=>by grind
      rcases dk j en1 h1 with ⟨q1,q2⟩|⟨q1,rfl⟩<;>rcases dk j' en2 h2 with ⟨q3,q4⟩|⟨q3,rfl⟩
      ·exact n7.2.2.1 j j' en1 en2 k q1 q3 h3 h4
      ·grind
      ·grind
      ·omega
     grind
   trivial
  trivial
 trivial
theorem Aav (dom:List Int->Bool) (key k:List Int):Sx dom key k=true↔k≠key/\dom k=true:=by
 grind[Sx,Ts]
theorem Aum (hY:YOK P Y) (R:Rel Y X nt ds e a w G) {o:Oper} {p q:Operand} {t t2:TypeId} {x k:T} (ho:o.op=.call { callee:=.builtin .delete,args:=#[p,q],argTypes:=#[t,t2] }) (hx:VOK G w X.fz Y e x (a.eval p)) (t8:VOK G w X.fz Y e k (a.eval q))
  {r r':List (Nat×Nat)} {out:Out} (h:(Aee Y (Y t) x k).run e.get r=some (out,r')):OpR P Y X nt ds e a w o out:=by
 unfold Aee at h;split at h
 ·rename_i kt et key id hk ic;simp only[M.run]at h;split at h
  ·rename_i kn ag dom val i8;obtain⟨hb,h⟩:=Al h;simp only[M.run,aA,aD]at h;obtain⟨rfl,_⟩:=h;obtain⟨k1,hq⟩:=Aft hb ic t8;obtain⟨_,key⟩:=key;dsimp only at hq hb ⊢;generalize wn:a.eval q=kv at hq t8;have hp:=hx.rel;simp only[Aa]at hp;have d6:e.get 2 id≠.any:=by grind
   have z6:=(R.mem.box id d6).2.2;rw[i8]at z6;obtain⟨⟨es,cl,g1,n7,oc⟩,_,g3⟩:=z6;have bn:=g3 rfl;obtain⟨d2,i2,z2,h1,h2,h3,h4,h5,h6,h7,h8⟩:=hY t (by simp[Ty.known,hk]);rw[hk]at h7;simp only[KOK]at h7;subst h7;have bi:∀(md:Array MapEntry),(Builtin.delete_ #[t,t2] o.type #[.map (some (G.bk id)),kv]).run P w=.ok (.tuple #[]) { w with heap:=w.heap.setIfInBounds (G.bk id) (.map md cl) }->
     Nr kn md cl (Sx dom key)->(∀(i:Nat) en,md[i]?=some en->∃(i':Nat),es[i']?=some en)->
     OpR P Y X nt ds e a w o ⟨[],[],.any,[(2,id,.mapc false kn ag (Sx dom key) val)]⟩:=by
    intro md d7 ky pc;have mw:=Xb R d6 bn g1 (ob':=.map md cl) (by simp) (λ_ _ _ hh=>(by cases hh)) (st:=.mapc false kn ag (Sx dom key) val) (by simp) (by simp[live]) (by rw[i8];simp[live]) (λn8=>by
     refine⟨⟨md,cl,?_,ky,λi en k he hk=>?_⟩,λhh=>(by cases hh),λ_=>bn⟩
     ·grind
     ·obtain⟨i',q1⟩:=pc i en he;obtain⟨q4,q5⟩:=oc i' en k q1 hk;exact⟨q4,q5.mono' (λ_=>aI _) n8⟩)
    refine⟨.value (.tuple #[]),.tuple #[],_,G,?_,.inl rfl,λ_ h=>(by cases h),mw.1,VOK.any _⟩;simp[execOp,ho,hp,wn,resolve,invoke,builtin,d7]
   rcases find_keyG (w:=w) hY k1 n7 hq with ⟨hd,i,en,f1,f2,f3⟩|⟨hd,f1,f2⟩
   ·have hi:i<es.size:=(aP.1 f1).1;have he:es.eraseIdxIfInBounds i=es.eraseIdx i hi:=by grind
    have dk:∀(j:Nat),(es.eraseIdxIfInBounds i)[j]?=es[if j<i then j else j+1]?:=λj=>by
     grind
    refine bi (es.eraseIdxIfInBounds i) ?_ ⟨λj bg hj=>?_,λk hk=>?_,λj j' en1 en2 k h1 h2 h3 h4=>?_,λe' sf=>?_,?_⟩ (λj bg hj=>⟨_,by rw[dk]at hj;exact hj⟩)
    ·simp[Builtin.delete_,aO h1,cV g1,Pd hY k1 hq,f3,eX _ g1]
    ·rw[dk]at hj;obtain⟨k,c1,c2⟩:=n7.1 _ bg hj;refine⟨k,c1,(Aav _ _ _).2 ⟨λhh=>?_,c2⟩⟩;have:=n7.2.2.1 _ i bg en k hj f1 c1 (by rw[f2,hh]);grind
    ·obtain⟨s7,hdk⟩:=(Aav _ _ _).1 hk;obtain⟨j,bc,c1,c2⟩:=n7.2.1 k hdk;have sl:j≠i:=λhh=>by
      grind
     refine⟨if j<i then j else j - 1,bc,?_,c2⟩;grind
    ·rw[dk]at h1 h2;have:=n7.2.2.1 _ _ en1 en2 k h1 h2 h3 h4;grind
    ·rw[he,Array.toList_eraseIdx]at sf;exact n7.2.2.2.1 e' (List.mem_of_mem_eraseIdx sf)
    ·rw[he,Array.toList_eraseIdx];exact List.Nodup.sublist ((List.eraseIdx_sublist _ _).map _) n7.2.2.2.2
   ·refine bi es ?_ ⟨λj bg hj=>?_,λk hk=>n7.2.1 k ((Aav _ _ _).1 hk).2,n7.2.2.1,n7.2.2.2⟩ (λj bg hj=>⟨j,hj⟩)
    ·simp[Builtin.delete_,aO h1,cV g1,Pd hY k1 hq,f2,eX _ g1]
    ·obtain⟨k,c1,c2⟩:=n7.1 _ bg hj;grind[Aav]
  trivial
 trivial
theorem Aun (hY:YOK P Y) (R:Rel Y X nt ds e a w G) {o:Oper} {t:TypeId} (ho:o.op=.makeMap t none)
  {r r':List (Nat×Nat)} {out:Out} (h:(Aef Y (Y t) o.dst).run e.get r=some (out,r')):OpR P Y X nt ds e a w o out:=by
 unfold Aef at h;split at h
 ·rename_i kt et hk;split at h
  ·rename_i ag kn l8 ax;obtain⟨d,_,hd,hf,rfl⟩:=Je h;obtain⟨G',q1,q2,R',lift,q3⟩:=Jd R hd hf (.map #[] 0) (st:=.mapc false kn ag (λ_=>false) λ_=>vsC (Y et).zero) (ce:=[]) (by simp) (λt k h=>rfl)
    (λG' cd=>⟨⟨#[],0,bN w _,⟨λi en h=>(by simp at h),λk h=>(by cases h),λi j en bg k h=>(by simp at h),Ajy 0⟩,λi en k h=>(by simp at h)⟩,λhh=>(by cases hh),λ_=>by rw[cd];exact R.fresh _ (aI _)⟩)
    (λG' lift k hk=>by
     rw[cH]at hk;exact absurd (R.mem.cells d k hk).1 (by rw[hd];exact λh=>Bc h.symm))
   refine⟨_,.map (some w.heap.size),_,G',?_,.inl rfl,λ_ h=>(by cases h),R',VOK.ids_used (id:=d) (by grind[Aa]) trivial rfl rfl (by
    grind)⟩
   simp[execOp,ho,Instr.makeMap]
  trivial
 trivial
end
section
variable {P:Program} {Y:TypeId->Ty} {X:Cx} {nt:Nat} {ds:List Deferred} {e:Env} {a:Act} {w:World} {G:Gh} {O:Nat->Prop}
def Auo {vis:Nat->Nat}:∀{xs:List C} {l:List Value} {vs:List Value},Qp xs=some l->Aw vis w xs vs->vs=l:=by
 intro xs
 induction xs with
 |nil=>
  intro l vs h hr;simp only[Qp,aA]at h;subst h;exact bX hr.1.symm
 |cons x xs ih=>
  intro l vs h hr;cases x with
  |v x=>
   simp only[Qp]at h;cases hp:Qp xs with
   |none=>grind
   |some l'=>
    rw[hp]at h;simp only[bO,aA]at h;subst h;cases vs with
    |nil=>have:=hr.1;simp at this
    |cons v vs=>
     have h1:=Le (hr.2 0 _ v rfl rfl);have h2:vs=l':=ih hp ⟨by have:=hr.1;grind,λj c u hc hu=>hr.2 (j+1) c u (by trivial) (by trivial)⟩;rw[h1,h2]
  |s _ _ _=>cases h
  |m _ _ _ _=>cases h
  |p _=>cases h
  |i _ _ _=>cases h
  |u=>cases h
def Aup {x:T} {v u:Value} (h:Aeh x=some u) (hx:VOK G w O Y e x v):v=u:=by
 unfold Aeh at h;split at h
 ·grind[Cl]
 ·rename_i xs;cases hp:Qp xs with
  |none=>grind
  |some l=>
   rw[hp]at h;simp only[bO,aA]at h;subst h;obtain⟨vs,rfl,hr⟩:=hx.reld;have:=Auo hp hr;rw[<-this]
 ·cases h
theorem Auq (hY:YOK P Y) (R:Rel Y X nt ds e a w G) {o:Oper} {p:Operand} {t:TypeId} {x:T} (ho:o.op=.makeInterface t p) (hx:VOK G w X.fz Y e x (a.eval p))
  {r r':List (Nat×Nat)} {out:Out} (h:(Aei t (Y t) x).run e.get r=some (out,r')):OpR P Y X nt ds e a w o out:=by
 unfold Aei at h;split at h
 ·trivial
 ·trivial
 ·rename_i v hv al bo;obtain rfl:=Bp h;have ax:(Y t).known=true:=by grind[Ty.known]
  obtain⟨d,i,z,h1,h2,h3,h4,h5,h6,h7,h8⟩:=hY t ax;refine OpR.pure R (v:=.iface t v) ?_ (VOK.v _ rfl) (λ_ h=>(by cases h));have hnot:∀ms,d≠.interface ms:=by
   intro ms hd;subst hd;cases hk:(Y t).kind<;>rw[hk]at h7<;>simp only[KOK]at h7
   case none=>exact bo hk
   case iface=>exact al hk
   case ptr=>grind
   case struct=>grind
   case func=>grind
   all_goals cases h7
  have d7:(Instr.makeInterface t v).run P w=.ok (.iface t v) w:=by
   unfold Instr.makeInterface;simp only[cF,aO h1,bK];trivial
  simp[execOp,ho,Aup hv hx,d7]
 ·rename_i hv al bo;have ax:(Y t).known=true:=by grind[Ty.known]
  obtain⟨d,i,z,h1,h2,h3,h4,h5,h6,h7,h8⟩:=hY t ax;have hnot:∀ms,d≠.interface ms:=by
   intro ms hd;subst hd;cases hk:(Y t).kind<;>rw[hk]at h7<;>simp only[KOK]at h7
   case none=>exact bo hk
   case iface=>exact al hk
   case ptr=>grind
   case struct=>grind
   case func=>grind
   all_goals cases h7
  have d7:∀v,(Instr.makeInterface t v).run P w=.ok (.iface t v) w:=by
   intro v;unfold Instr.makeInterface;simp only[cF,aO h1,bK];trivial
  cases x with
  |d y=>
   cases y with
   |agg xs=>
    obtain rfl:=Bp h;obtain⟨vs,ai,hr⟩:=hx.reld;refine OpR.pure R (v:=.iface t (.agg vs)) ?_ (VOK.dem (x:=.c (.i t true (xs.map C.dem))) ?_) (λ_ h=>(by cases h))
    ·simp[execOp,ho,ai,d7]
    ·exact .i t true _ (.agg vs) ⟨vs,rfl⟩ hr.dem.1 λj c u h1 h2=>hr.dem.2 j c u h1 h2
   |c c=>
    obtain rfl:=Bp h;have hr:Rep G.vis w c (a.eval p):=hx.reld;refine OpR.pure R (v:=.iface t (a.eval p)) ?_ (VOK.dem (x:=.c (.i t false [c.dem])) ?_) (λ_ h=>(by cases h))
    ·simp[execOp,ho,d7]
    ·refine .i t false _ (a.eval p) (Lf hr) rfl λj c' u h1 h2=>?_
     match j with
     |0=>simp[Gx]at h1 h2;subst h1;subst h2;exact hr.dem
     |j+1=>simp at h1
   |rd _=>trivial
  |_=>trivial
def Aur (hY:YOK P Y) {t:TypeId} (al:(Y t).kind≠.iface) (bo:(Y t).kind≠.none):(Y t).known=true:=by
 grind[Ty.known]
theorem Aus (hY:YOK P Y) (R:Rel Y X nt ds e a w G) {o:Oper} {p:Operand} {t:TypeId} {x:T} (ho:o.op=.range t p) (hx:VOK G w X.fz Y e x (a.eval p))
  {r r':List (Nat×Nat)} {out:Out} (h:(Aen (Y t) o.dst x).run e.get r=some (out,r')):OpR P Y X nt ds e a w o out:=by
 unfold Aen at h;split at h
 ·rename_i s hk;obtain⟨d,_,hd,hf,rfl⟩:=Je h;obtain⟨d2,i2,z2,h1,h2,h3,h4,h5,h6,h7,h8⟩:=hY t (by simp[Ty.known,hk]);rw[hk]at h7;simp only[KOK]at h7;subst h7;have hp:=Cl hx;obtain⟨G',q1,q2,R',lift,q3⟩:=Jd R hd hf (.stringIter s 0) (st:=.itc s 0) (ce:=[]) (by simp) (λt k h=>rfl)
   (λG' cd=>⟨by rw[cd];exact R.fresh _ (aI _),bN w _⟩)
   (λG' lift k hk=>by
    rw[cH]at hk;exact absurd (R.mem.cells d k hk).1 (by rw[hd];exact λh=>Bc h.symm))
  refine⟨_,.pointer (some ⟨w.heap.size,0,none⟩),_,G',?_,.inl rfl,λ_ h=>(by cases h),R',VOK.ids_used (id:=d) (by grind[Aa]) trivial rfl rfl (by
   grind)⟩
  simp[execOp,ho,hp,run_range_string w t s h1,World.iter]
 ·rename_i kt et kn ag dom val hk;obtain⟨d,_,hd,hf,rfl⟩:=Je h;obtain⟨d2,i2,z2,h1,h2,h3,h4,h5,h6,h7,h8⟩:=hY t (by simp[Ty.known,hk]);rw[hk]at h7;simp only[KOK]at h7;subst h7;have hp:Rep G.vis w (.m kn ag dom val) (a.eval p):=hx.reld;generalize cf:a.eval p=pv at hp;cases hp with
  |m _ _ _ _ mb es cl g1 g2 g3 g4 g5=>
   have hlt:mb<w.heap.size:=(aP.1 g2).1;obtain⟨G',q1,q2,R',lift,q3⟩:=Jd R hd hf (.mapIter (some mb) cl #[] cl) (st:=.mitc kn ag dom val [] none) (ce:=[]) (by simp) (λt k h=>rfl)
    (λG' cd=>⟨by rw[cd];exact R.fresh _ (aI _),mb,es,cl,#[],cl,bN w _,aI _,by grind,(Cm w _ hlt).trans g2,
     ⟨g3,λi en k he hk=>⟨(g4 i en k he hk).1,(g4 i en k he hk).2,λj c u hc hu=>by rw[cd];exact (g5 i j en k c u he hk hc hu).mono' (λ_=>aI _) (Tp R _)⟩⟩,
     λx hx=>(by cases hx),List.nodup_nil,λe he k hk=>by simp,λk hk=>(by cases hk)⟩)
    (λG' lift k hk=>by
     rw[cH]at hk;exact absurd (R.mem.cells d k hk).1 (by rw[hd];exact λh=>Bc h.symm))
   refine⟨_,.pointer (some ⟨w.heap.size,0,none⟩),_,G',?_,.inl rfl,λ_ h=>(by cases h),R',VOK.ids_used (id:=d) (by grind[Aa]) trivial rfl rfl (by
    grind)⟩
   simp[execOp,ho,cf,run_range_map w t kt et mb es cl h1 g2]
 trivial
theorem Al3 {vis:Nat->Nat} {kn:Nat} {k:List Int} {v:Value} (h:Br kn v=some k):Av vis w O (Zh kn k) v:=by
 unfold Zh;cases kn with
 |zero=>
  unfold Br at h;split at h
  ·simp only[aA]at h;subst h;exact Rep.v _ rfl
  ·trivial
  ·cases h
 |succ n=>
  obtain⟨rfl,hl⟩:=Aat h;refine⟨_,rfl,by simp,λj c u hc hu=>?_⟩;simp only[bQ]at hc hu;cases hj:k[j]? with
  |none=>grind
  |some x=>
   rw[hj]at hc hu;simp only[bO,aA]at hc hu;subst hc;subst hu;exact .v _ rfl
theorem Al4 {vis:Nat->Nat} {ag:Bool} {cs:List C} {v:Value} (h1:Pb ag v) (h2:Aw vis w cs (Gx ag v)):Av vis w O (Zi ag cs) v:=by
 unfold Zi;cases ag with
 |true=>
  obtain⟨vs,rfl⟩:=h1;exact⟨vs,rfl,h2.dem⟩
 |false=>
  have hl:=h2.1;have:∃c,cs=[c]:=by
   match cs,hl with
   | [c],_=>exact⟨c,rfl⟩
  obtain⟨c,rfl⟩:=this;exact (h2.2 0 c v rfl rfl).dem
def Aut (R:Rel Y X nt ds e a w G) {o:Oper} {p:Operand} {x:T} (ho:o.op=.entry p) (hx:VOK G w X.fz Y e x (a.eval p))
  {r r':List (Nat×Nat)} {out:Out} (h:(Aeo x).run e.get r=some (out,r')):OpR P Y X nt ds e a w o out:=by
 unfold Aeo at h;split at h
 ·rename_i id;simp only[M.run]at h;split at h
  ·rename_i kn ag dom val hh k i8;obtain rfl:=Bp h;have d6:e.get 2 id≠.any:=by grind
   have z6:=(R.mem.box id d6).2.2;rw[i8]at z6;obtain⟨q0,mb,es,cl,seen,c0,q1,q2,q3,q4,⟨q5,q6⟩,q7,q8,q9,q10⟩:=z6;obtain⟨en,e1,e2,rfl,s0,rfl⟩:=q10 k rfl;obtain⟨i,hi,kb⟩:=bM.1 e1;have hi3:es[i]?=some en:=by grind
   have hp:=hx.rel;simp only[Aa]at hp;refine OpR.pure R (v:=.tuple #[en.key,en.val]) ?_ ?_ (λ_ h=>(by cases h))
   ·simp[execOp,ho,hp,run_entry_at w _ mb c0 s0 es c0 en q1 q4 e1 q5.2.2.2.2]
   ·refine .plain ?_ rfl rfl trivial;simp only[Aa];refine⟨_,rfl,rfl,λj x u hj hu=>?_⟩;grind[Al3,Al4]
  trivial
 trivial
def Auu (R:Rel Y X nt ds e a w G) {o:Oper} {p:Operand} {x:T} {isS:Bool} (ho:o.op=.next p isS) (hx:VOK G w X.fz Y e x (a.eval p))
  {r r':List (Nat×Nat)} {out:Out} (h:(Aep x isS).run e.get r=some (out,r')):OpR P Y X nt ds e a w o out:=by
 unfold Aep at h;split at h
 ·rename_i id;simp only[M.run]at h;split at h
  ·rename_i s pos i8;simp only[M.run,aA,aD]at h;obtain⟨rfl,_⟩:=h;have d6:e.get 2 id≠.any:=by grind
   have z6:=(R.mem.box id d6).2.2;rw[i8]at z6;obtain⟨bn,g1⟩:=z6;have hlt:=(R.mem.box id d6).2.1;have hp:=hx.rel;simp only[Aa]at hp;have mw:=λst'=>Xb R d6 bn g1 (ob':=.stringIter s st') (by simp) (λ_ _ _ hh=>(by cases hh)) (st:=.itc s st') (by simp) (by simp[live]) (by rw[i8];simp[live]) (λn8=>⟨bn,by simp[hlt]⟩);cases hb:Nat.blt pos s.size with
   |true=>
    have pf:pos<s.size:=Bh hb;obtain⟨R',lift⟩:=mw (pos+Aem s pos);refine⟨_,.tuple #[.bool true,.int .i64 pos,.int .i32 (Ael s pos)],_,G,?_,.inl rfl,λ_ h=>(by cases h),R',.plain ?_ rfl rfl trivial⟩
    ·simp only[execOp,ho,hp];simp[Instr.next,getObj,setObj,Sem.run,g1,pf,goInt,Ael,Aem]
    ·simp only[Aa];refine⟨λ_=>⟨_,rfl,rfl,λj x u hj hu=>?_⟩,λhh=>(by cases hh)⟩
     match j with
     |0=>simp at hj hu;subst hj;subst hu;exact Rep.v _ rfl
     |1=>simp at hj hu;subst hj;subst hu;exact Rep.v _ rfl
     |2=>simp at hj hu;subst hj;subst hu;exact Rep.v _ rfl
     |j+3=>simp at hj
   |false=>
    have pf:¬pos<s.size:=λh=>by grind[Nat.blt,Nat.ble_eq_true_of_le]
    obtain⟨R',lift⟩:=mw pos;have hw:({ w with heap:=w.heap.setIfInBounds (G.bk id) (.stringIter s pos) }:World)=w:=by
     have:w.heap.setIfInBounds (G.bk id) (.stringIter s pos)=w.heap:=by grind
     rw[this]
    rw[hw]at R';refine⟨_,.tuple #[.bool false],w,G,?_,.inl rfl,λ_ h=>(by cases h),R',.plain ?_ rfl rfl trivial⟩
    ·simp only[execOp,ho,hp];simp[Instr.next,getObj,Sem.run,g1,pf]
    grind[Aa]
  trivial
 trivial
def Afu (hY:YOK P Y) {t:TypeId} {d:D} (h:Sy (Y t)=some (.d d)) (hz:(Y t).zero.all Value.oneCell'=true):∃z,(zeroValue t).run P w=.ok z w/\Av G.vis w O d z:=by
 have l8:∃ag,(Y t).agg=some ag:=by grind[Sy]
 obtain⟨ag,l8⟩:=l8;obtain⟨d2,i2,z2,h1,h2,h3,h4,h5,h6,h7,h8,h9,jk,h11⟩:=hY t (Et l8);refine⟨z2,by simp[zeroValue,typeInfo,h2,h5],?_⟩;have h12:=h11.1 ag l8;unfold Sy at h;rw[l8]at h;cases ag with
 |true=>
  simp only[aA,T.d.injEq]at h;subst h;obtain⟨cs,rfl⟩:=h12;exact⟨cs,rfl,by have h6:cs.toList=(Y t).zero:=h6;grind[Aap]⟩
 |false=>
  dsimp only at h;split at h
  ·rename_i v hv;simp only[aA,T.d.injEq]at h;subst h;have h12:z2.oneCell'=true:=h12;have hc:z2.cells.toList=[z2]:=by cases z2<;>trivial
   rw[hc,hv]at h6;obtain⟨rfl,_⟩:=iD h6;exact Rep.v _ h12
  ·cases h
def Afv {v:Value} {x:T} (h:T.ofPlain v=some x):∃d,x=.d d/\Av G.vis w O d v/\VOK G w O Y e x v:=by
 unfold T.ofPlain at h;split at h
 ·rename_i cs;cases hb:cs.toList.all Value.oneCell' with
  |false=>grind
  |true=>
   rw[hb]at h;simp only[bA,aA]at h;subst h;exact⟨_,rfl,⟨cs,rfl,Aap hb⟩,VOK.agg (Aap hb)⟩
 ·cases hb:v.oneCell' with
  |false=>grind
  |true=>
   rw[hb]at h;simp only[bA,aA]at h;subst h;exact⟨_,rfl,Rep.v _ hb,VOK.v _ hb⟩
def Xc {d:D} {v:Value} {b:Bool} (h:Av G.vis w O d v):VOK G w O Y e (.tup [d,.c (Cb b)]) (.tuple #[v,.bool b]):=by
 refine .plain ?_ rfl rfl trivial;simp only[Aa];refine⟨_,rfl,rfl,λj x u hj hu=>?_⟩
 match j with
 |0=>simp at hj hu;subst hj;subst hu;exact h
 |1=>simp at hj hu;subst hj;subst hu;exact Rep.v _ rfl
 |j+2=>simp at hj
def Afw {ag:Bool} {cs:List C} {d:D} {v:Value} (hd:asD ag (cs.map C.dem)=some (.d d)) (hs:Pb ag v) (hr:Aw G.vis w cs (Gx ag v)):Av G.vis w O d v/\VOK G w O Y e (.d d) v:=by
 have s2:=hr.dem;unfold asD at hd;split at hd
 ·simp only[aA,T.d.injEq]at hd;subst hd;obtain⟨vs,rfl⟩:=hs;exact⟨⟨vs,rfl,s2⟩,VOK.agg s2⟩
 ·rename_i c hc;simp only[aA,T.d.injEq]at hd;subst hd;rw[hc]at s2;have sa:Rep G.vis w c v:=s2.2 0 c v rfl rfl;have hcd:c=c.dem:=by
   cases iv:cs with
   |nil=>grind
   |cons c0 l=>
    rw[iv]at hc;simp only[List.map_cons,cI]at hc;rw[<-hc.1];cases c0<;>rfl
  refine⟨sa,?_⟩;rw[hcd];exact VOK.dem (x:=.c c) sa
 ·cases hd
theorem Auv (hY:YOK P Y) (R:Rel Y X nt ds e a w G) {o:Oper} {p:Operand} {s t:TypeId} {x:T} {ok:Bool} (ho:o.op=.typeAssert p s t ok) (hx:VOK G w X.fz Y e x (a.eval p))
  {r r':List (Nat×Nat)} {out:Out} (h:(Aej t (Y t) x ok).run e.get r=some (out,r')):OpR P Y X nt ds e a w o out:=by
 have hund:(Y t).kind≠.iface->(Y t).kind≠.none->∃d,P.underlying t=some d/\∀ms,d≠.interface ms:=by
  intro al bo;obtain⟨d,i,z,h1,h2,h3,h4,h5,h6,h7,h8⟩:=hY t (Aur hY al bo);refine⟨d,h1,λms hd=>?_⟩;subst hd;cases hk:(Y t).kind<;>rw[hk]at h7<;>simp only[KOK]at h7
  case none=>exact bo hk
  case iface=>exact al hk
  case ptr=>grind
  case struct=>grind
  case func=>grind
  all_goals cases h7
 have lb:∀{u:Value},(Y t).kind≠.iface->(Y t).kind≠.none->(∀v',u=.iface t v'->(Instr.typeAssert u s t ok).run P w=.ok (if ok then .tuple #[v',.bool true] else v') w)/\
   ((u=.nilIface∨∃t' v',u=.iface t' v'/\t'≠t)->ok=true->∀z,(zeroValue t).run P w=.ok z w->(Instr.typeAssert u s t ok).run P w=.ok (.tuple #[z,.bool false]) w):=by
  intro u al bo;obtain⟨d,h1,h2⟩:=hund al bo;constructor
  ·rintro v' rfl;unfold Instr.typeAssert;simp only[cF,aO h1,bK];trivial
  ·rintro hu n6 z hz;subst n6;unfold Instr.typeAssert;simp only[cF,aO h1,bK];rcases hu with rfl|⟨t',v',rfl,s7⟩
   ·cases d<;>first|exact absurd rfl (h2 _)|simp[hz]
   ·cases d<;>first|exact absurd rfl (h2 _)|simp[hz,s7]
 unfold Aej at h;split at h
 ·trivial
 ·trivial
 ·rename_i t' v al bo;have hp:=Cl hx;cases hb:t'.beq t with
  |true=>
   rw[hb]at h;simp only[bA]at h;have ht:=aG hb;subst ht;split at h
   ·rename_i d hd;obtain rfl:=Bp h;obtain⟨d',qp,h1,_⟩:=Afv (G:=G) (w:=w) (O:=X.fz) (Y:=Y) (e:=e) hd;simp only[T.d.injEq]at qp;subst qp;refine OpR.pure R (v:=.tuple #[v,.bool true]) ?_ (Xc h1) (λ_ h=>(by cases h));have:=(lb (u:=.iface t' v) al bo).1 v rfl;simp[execOp,ho,hp,this]
   trivial
  |false=>
   rw[hb]at h;simp only[cC]at h;split at h
   ·rename_i d hd;replace h:=Al h;obtain⟨hz,h⟩:=h;obtain rfl:=Bp h;obtain⟨z,h1,h2⟩:=Afu (P:=P) (w:=w) (G:=G) (O:=X.fz) hY hd hz;refine OpR.pure R (v:=.tuple #[z,.bool false]) ?_ (Xc h2) (λ_ h=>(by cases h));have:=(lb (u:=.iface t' v) al bo).2 (.inr ⟨t',v,rfl,gC hb⟩) rfl z h1;simp[execOp,ho,hp,this]
   trivial
 ·rename_i al bo;have hp:=Cl hx;split at h
  ·rename_i d hd;replace h:=Al h;obtain⟨hz,h⟩:=h;obtain rfl:=Bp h;obtain⟨z,h1,h2⟩:=Afu (P:=P) (w:=w) (G:=G) (O:=X.fz) hY hd hz;refine OpR.pure R (v:=.tuple #[z,.bool false]) ?_ (Xc h2) (λ_ h=>(by cases h));have:=(lb (u:=.nilIface) al bo).2 (.inl rfl) rfl z h1;simp[execOp,ho,hp,this]
  trivial
 ·rename_i t' v al bo;have hp:=Cl hx;replace h:=Al h;obtain⟨hb,h⟩:=h;have ht:=aG hb;subst ht;split at h
  ·rename_i x hd;obtain rfl:=Bp h;obtain⟨d',qp,h1,h2⟩:=Afv (G:=G) (w:=w) (O:=X.fz) (Y:=Y) (e:=e) hd;refine OpR.pure R (v:=v) ?_ h2 (λ_ h=>(by cases h));have:=(lb (u:=.iface t' v) al bo).1 v rfl;simp[execOp,ho,hp,this]
  trivial
 ·rename_i t' ag cs al bo;have pk:=hx.reld;generalize cf:a.eval p=pv at pk;have pk:Rep G.vis w (.i t' ag cs) pv:=pk;cases pk with
  |i _ _ _ v hs hl hr=>
  cases hb:t'.beq t with
  |true=>
   rw[hb]at h;simp only[bA]at h;have ht:=aG hb;subst ht;split at h
   ·rename_i d hd;obtain rfl:=Bp h;have h1:=(Afw (O:=X.fz) (Y:=Y) (e:=e) hd hs ⟨hl,hr⟩).1;refine OpR.pure R (v:=.tuple #[v,.bool true]) ?_ (Xc h1) (λ_ h=>(by cases h));have:=(lb (u:=.iface t' v) al bo).1 v rfl;simp[execOp,ho,cf,this]
   trivial
  |false=>
   rw[hb]at h;simp only[cC]at h;split at h
   ·rename_i d hd;replace h:=Al h;obtain⟨hz,h⟩:=h;obtain rfl:=Bp h;obtain⟨z,h1,h2⟩:=Afu (P:=P) (w:=w) (G:=G) (O:=X.fz) hY hd hz;refine OpR.pure R (v:=.tuple #[z,.bool false]) ?_ (Xc h2) (λ_ h=>(by cases h));have:=(lb (u:=.iface t' v) al bo).2 (.inr ⟨t',v,rfl,gC hb⟩) rfl z h1;simp[execOp,ho,cf,this]
   trivial
 ·rename_i t' ag cs al bo;have pk:=hx.reld;generalize cf:a.eval p=pv at pk;have pk:Rep G.vis w (.i t' ag cs) pv:=pk;cases pk with
  |i _ _ _ v hs hl hr=>
  replace h:=Al h;obtain⟨hb,h⟩:=h;have ht:=aG hb;subst ht;split at h
  ·rename_i x hd;obtain rfl:=Bp h;have hxd:∃d,x=.d d:=by
    unfold asD at hd;grind
   obtain⟨d,rfl⟩:=hxd;refine OpR.pure R (v:=v) ?_ (Afw (O:=X.fz) (Y:=Y) (e:=e) hd hs ⟨hl,hr⟩).2 (λ_ h=>(by cases h));have:=(lb (u:=.iface t' v) al bo).1 v rfl;simp[execOp,ho,cf,this]
  trivial
 trivial
end
section
variable {P:Program} {Y:TypeId->Ty} {X:Cx} {nt:Nat} {ds:List Deferred} {e:Env} {a:Act} {w:World} {G:Gh} {O:Nat->Prop}
theorem VOKs.one {x:T} {v:Value} (h:VOKs G w O Y e [x] [v]):VOK G w O Y e x v:=by
 cases h with
 |cons h1 _=>exact h1
def VOKs.two {x y:T} {v u:Value} (h:VOKs G w O Y e [x,y] [v,u]):VOK G w O Y e x v/\VOK G w O Y e y u:=by
 cases h with
 |cons h1 h2=>exact⟨h1,h2.one⟩
def VOKs.three {x y z:T} {v u t:Value} (h:VOKs G w O Y e [x,y,z] [v,u,t]):VOK G w O Y e x v/\VOK G w O Y e y u/\VOK G w O Y e z t:=by
 cases h with
 |cons h1 h2=>exact⟨h1,h2.two⟩
def VOKs.inv1 {x:T} {l:List Operand} (h:VOKs G w O Y e [x] (l.map a.eval)):∃p,l=[p]/\VOK G w O Y e x (a.eval p):=by
 cases l with
 |nil=>cases h
 |cons p l=>
  cases l with
  |nil=>exact⟨p,rfl,h.one⟩
  |cons q l=>trivial
def VOKs.inv2 {x y:T} {l:List Operand} (h:VOKs G w O Y e [x,y] (l.map a.eval)):∃p q,l=[p,q]/\VOK G w O Y e x (a.eval p)/\VOK G w O Y e y (a.eval q):=by
 cases l with
 |nil=>cases h
 |cons p l=>
  cases l with
  |nil=>trivial
  |cons q l=>
   cases l with
   |nil=>exact⟨p,q,rfl,h.two⟩
   |cons s l=>trivial
theorem Lh {α:Type} {xs:Array α} {l:List α} (h:xs.toList=l):xs=l.toArray:=by
 grind
theorem Auw (hY:YOK P Y) (R:Rel Y X nt ds e a w G) {o:Oper} {op:Op} (ho:o.op=op) {xs:List T} (hx:VOKs G w X.fz Y e xs (op.operands.toList.map a.eval)) {r r':List (Nat×Nat)} {out:Out}
  (h:(Zr Y o.dst op xs).run e.get r=some (out,r')) (hv:∀p∈out.vc,p):OpR P Y X nt ds e a w o out:=by
 unfold Zr at h;split at h
 ·have h1:=VOKs.one hx;grind[Ak2]
 ·have h1:=VOKs.one hx;exact Ak2 R (.inr ho) h1 h
 ·have h1:=VOKs.one hx;grind[Ast]
 ·have h1:=VOKs.one hx;grind[Ate]
 ·obtain⟨hb,h⟩:=Al h;grind[Ata]
 ·have h1:=VOKs.one hx;exact Au8 hY R ho h1.asRd h hv
 ·obtain⟨h1,h2⟩:=VOKs.two hx;grind[Ath]
 ·have h1:=VOKs.one hx;exact Asz hY R ho h1.asRd h
 ·have h1:=VOKs.one hx;grind[At0]
 ·obtain⟨h1,h2⟩:=VOKs.two hx;grind[At2]
 ·obtain⟨h1,h2⟩:=VOKs.two hx;grind[Atw]
 ·rename_i t ps;refine Au2 hY R ho ?_ h;have:(Op.build t ps).operands.toList.map a.eval=ps.toList.map λp=>a.eval p.2:=by simp[Op.operands]
  grind
 ·have h1:=VOKs.one hx;grind[Aub]
 ·obtain⟨h1,h2⟩:=VOKs.two hx;grind[Au5]
 ·rename_i t p lo hi;split at h
  ·rename_i x l hh m8;have:(Op.slice t p lo hi none).operands.toList=p::(lo.toList++hi.toList):=by cases lo<;>cases hi<;>rfl
   rw[this]at hx;cases xs with
   |nil=>cases m8
   |cons x0 xs=>
    cases hx with
    |cons h1 h2=>
     unfold Ajj at m8;dsimp only at m8;split at m8
     ·simp only[aA,aD]at m8;obtain⟨rfl,rfl,rfl⟩:=m8;exact Aao hY R ho h1 (lo:=none) (hi:=none) trivial trivial h hv
     ·simp only[aA,aD]at m8;obtain⟨rfl,rfl,rfl⟩:=m8;exact Aao hY R ho h1 (lo:=some _) (hi:=none) (VOKs.one h2) trivial h hv
     ·simp only[aA,aD]at m8;obtain⟨rfl,rfl,rfl⟩:=m8;exact Aao hY R ho h1 (lo:=none) (hi:=some _) trivial (VOKs.one h2) h hv
     ·simp only[aA,aD]at m8;obtain⟨rfl,rfl,rfl⟩:=m8;obtain⟨h3,h4⟩:=VOKs.two h2;exact Aao hY R ho h1 (lo:=some _) (hi:=some _) h3 h4 h hv
     ·cases m8
  trivial
 ·rename_i t p lo qh qm;split at h
  ·rename_i x l hh mm m8;have:(Op.slice t p lo (some qh) (some qm)).operands.toList=p::(lo.toList++[qh,qm]):=by cases lo<;>rfl
   rw[this]at hx;cases xs with
   |nil=>cases m8
   |cons x0 xs=>
    cases hx with
    |cons h1 h2=>
     unfold Ajk at m8;dsimp only at m8;split at m8
     ·simp only[aA,aD]at m8;obtain⟨rfl,rfl,rfl,rfl⟩:=m8;obtain⟨h3,h4⟩:=VOKs.two h2;exact Akx hY R ho h1 (lo:=none) trivial h3 h4 h hv
     ·simp only[aA,aD]at m8;obtain⟨rfl,rfl,rfl,rfl⟩:=m8;obtain⟨h3,h4,h5⟩:=VOKs.three h2;exact Akx hY R ho h1 (lo:=some _) h3 h4 h5 h hv
     ·cases m8
  trivial
 ·rename_i f first cap
  split at h
  ·rename_i as bs ha hb;refine Au7 R ho ha hb ?_ h;trivial
  trivial
 ·have h1:=VOKs.one hx;grind[Asu,Jc]
 ·have h1:=VOKs.one hx;grind[Asv,Jc]
 ·have h1:=VOKs.one hx;grind[Asy]
 ·obtain⟨h1,h2⟩:=VOKs.two hx;grind[Aul]
 ·obtain⟨h1,h2,h3⟩:=VOKs.three hx;grind[Al2]
 ·obtain⟨h1,h2,h3⟩:=VOKs.three hx;exact Al2 hY R (.inr ho) h1 h2 h3 h
 ·grind[Aun]
 ·obtain⟨h1,h2⟩:=VOKs.two hx;grind[Aug]
 ·have h1:=VOKs.one hx;grind[Auq]
 ·have h1:=VOKs.one hx;grind[Auv]
 ·have h1:=VOKs.one hx;grind[Aus]
 ·have h1:=VOKs.one hx;exact Auu R ho h1 h
 ·have h1:=VOKs.one hx;exact Aut R ho h1 h
 ·rename_i b args ek;have wm:(Op.call { callee:=.builtin b,args:=args,argTypes:=ek }).operands.toList=args.toList:=by simp[Op.operands,Call.operands]
  rw[wm]at hx;unfold Ajm at h;split at h
  ·split at h
   ·rename_i t ht;obtain⟨p,hp,h1⟩:=VOKs.inv1 hx;rw[Lh ht,Lh hp]at ho;grind[At5]
   trivial
  ·obtain⟨p,q,hp,h1,h2⟩:=VOKs.inv2 hx;rw[Lh hp]at ho;grind[At6]
  ·obtain⟨p,q,hp,h1,h2⟩:=VOKs.inv2 hx;rw[Lh hp]at ho;grind[Ato]
  ·split at h
   ·rename_i t t' ht;obtain⟨p,q,hp,h1,h2⟩:=VOKs.inv2 hx;rw[Lh ht,Lh hp]at ho;grind[Aum]
   trivial
  ·split at h
   ·rename_i t t' ht;obtain⟨hb,h⟩:=Al h;have hb:=aG hb;obtain⟨p,q,hp,h1,h2⟩:=VOKs.inv2 hx;rw[Lh ht,Lh hp,<-hb]at ho;grind[Atn,Jc]
   trivial
  trivial
 trivial
def Aux (hY:YOK P Y) (R:Rel Y X nt ds e a w G) {o:Oper} {r r':List (Nat×Nat)} {bs:List Prop} {out:Out}
  (h:(sem Y o.dst o.op).run e.get r=some ((bs,out),r')) (hb:∀p∈bs,p) (hv:∀p∈out.vc,p):OpR P Y X nt ds e a w o out:=by
 unfold sem at h;split at h
 ·rename_i c p q ca;obtain⟨x,r1,h1,h⟩:=Ah h;obtain⟨y,r2,h2,h⟩:=Ah h;obtain⟨z,r3,h3,h⟩:=Ah h;obtain⟨o',r4,h4,h⟩:=Ah h;simp only[M.run,aA,aD]at h;obtain⟨⟨rfl,rfl⟩,_⟩:=h;exact Asx R ca (Ju R h1) (Ju R h2) (Ju R h3) h4 hv
 ·rename_i t len ps ca;split at h
  ·rename_i el hk;obtain⟨css,r1,h1,h⟩:=Ah h;obtain⟨o',r4,h4,h⟩:=Ah h;grind[M.run,Auf]
  trivial
 ·obtain⟨p,r1,h1,h⟩:=Ah h;obtain⟨o',r4,h4,h⟩:=Ah h;obtain⟨ys,vm⟩:=p;simp only[M.run,aA,aD]at h;obtain⟨⟨rfl,rfl⟩,_⟩:=h;exact Auw hY R rfl (Ig R h1 hb) h4 hv
end
section
variable {P:Program} {Y:TypeId->Ty} {X:Cx} {nt:Nat} {ds:List Deferred} {e:Env} {a:Act} {w:World} {G:Gh} {O:Nat->Prop}
def Rel.drewR (R:Rel Y X nt ds e a w G):Rel Y X nt ds e a w.drew G/\∀x v,VOK G w X.fz Y e x v->VOK G w.drew X.fz Y e x v:=by
 refine R.move (w':=w.drew) (G':=G) (e':=e) ⟨λ_=>aI _,⟨λ_ _ _=>rfl,λ_ _ _ _ h=>h,λ_ cs t z h=>⟨cs,t,z,h,aI _⟩⟩,λ_ _=>rfl⟩ ⟨rfl,rfl,rfl,aI _⟩ rfl rfl (λ_ _=>rfl) (λ_ _=>rfl) (λ_=>rfl) (λ_ h=>⟨rfl,h⟩) (λ_ h=>⟨h,λ_ h=>h⟩)
  (λ_ _ _ hb _=>⟨hb,rfl,rfl⟩) (λ_ id d6=>.inl ⟨d6,rfl,rfl,rfl,λ_=>rfl⟩) (λid k hk=>?_) (λk b hb=>?_) R.tinj (λb hb=>R.fresh b hb) (λ_ _=>rfl) (λ_ _=>rfl)
 ·rw[(R.mem.cells id k hk).1];exact Bc
 ·obtain⟨h1,h2,h3,h4,h5⟩:=R.tks k b hb;exact⟨h1,h2,h3,h4,h5,R.tlive k b hb⟩
theorem Al5 (hY:YOK P Y) (R:Rel Y X nt ds e a w G) {o:Oper} {p q:Operand} {t el:TypeId} {m d:Nat} {g:Nat->List C} (ho:o.op=.call { callee:=.builtin .append,args:=#[p,q],argTypes:=#[t,t] }) (hk:(Y t).kind=.slice el)
  (ax:(Y el).known=true) (hs:0<(Y el).size) (hxv:a.eval p=.slice none 0 0) (gm:Wy G w (Y el).size m g (a.eval q)) (hd:e.get 2 d=.any) (hf:d<FAR) (c0:0<m) (c1:m*(Y el).bytes<=140737488355328) (c2:m<=140737488355328) (vc:List Prop):
  OpR P Y X nt ds e a w o ⟨vc,[],.arr d m,[(2,d,.arrc false (Y el).size m g)]⟩:=by
 obtain⟨dd,i0,z0,h1,h2,h3,h4,h5,h6,h7,h8⟩:=hY t (by simp[Ty.known,hk]);rw[hk]at h7;simp only[KOK]at h7;subst h7;obtain⟨dd,ie,ze,g1,g2,g3,g4,g5,g6,g7,g8⟩:=hY el ax;have pj:ze.cells.size=(Y el).size:=by grind
 obtain⟨j0,n1,n2,n3⟩:=gm;rcases n3 with ⟨_,n3⟩|⟨b,off,cap,n3,n4⟩
 ·omega
 have d7:=gA (P:=P) w t o.type el ie ze h1 g2 g5 ⟨b,off,none⟩ m cap j0 (by rw[g3];exact n1.1) n4 (by omega) (by omega) (by grind);have dr:=eJ w m 0 el;have ni:m<=maxLen:=by unfold maxLen;omega
 obtain⟨R1,jm⟩:=R.drewR;have am:(j0.toArray++Builtin.zeroCells ze.cells (grownCap w m 0 el - m)).size=grownCap w m 0 el*(Y el).size:=by
  simp only[dX,cW,fL,pj,n1.1,<-dD];congr 1;omega
 obtain⟨G',q1,q2,R',lift,q3⟩:=Jd R1 hd hf (.cells (j0.toArray++Builtin.zeroCells ze.cells (grownCap w m 0 el - m)) el) (st:=.arrc false (Y el).size m g) (ce:=[]) (by simp) (λt k h=>rfl)
  (λG' cd=>by
   refine⟨⟨_,el,_,bN w.drew _,.inl rfl,by rw[am];exact aY _ dr,λi hi=>⟨n1.2.1 i hi,λj c hj=>?_⟩⟩,hs,λhh=>(by cases hh),λ_=>by rw[cd];exact R.fresh _ (aI _)⟩;obtain⟨u,h3,h4⟩:=n1.2.2 i j c hi hj;refine⟨u,?_,?_⟩
   ·grind
   ·rw[cd];exact h4.mono' (λ_=>aI _) (Aak R _))
  (λG' lift k hk=>by
   rw[cH]at hk;exact absurd (R.mem.cells d k hk).1 (by rw[hd];exact λh=>Bc h.symm))
 refine⟨_,.slice (some ⟨w.heap.size,0,none⟩) m (grownCap w m 0 el),_,G',?_,.inl rfl,λ_ h=>(by cases h),R',VOK.ids_used (id:=d) ?_ trivial rfl rfl (by
  grind)⟩
 ·simp[execOp,ho,resolve,invoke,builtin,hxv,n3,d7]
 ·simp only[Aa];exact .inr ⟨_,by rw[q2];rfl,dr,cY w m 0 el ni,_,el,_,by rw[q2];exact bN w.drew _,by rw[am];exact dJ _ hs⟩
theorem Auy (hY:YOK P Y) (R:Rel Y X nt ds e a w G) {o:Oper} {p q:Operand} {t el:TypeId} {x z:T} (ho:o.op=.call { callee:=.builtin .append,args:=#[p,q],argTypes:=#[t,t] }) (hk:(Y t).kind=.slice el)
  (hx:VOK G w X.fz Y e x (a.eval p)) (hz:VOK G w X.fz Y e z (a.eval q)) {r r':List (Nat×Nat)} {out:Out} (h:(Aeq (Y el) o.dst x z).run e.get r=some (out,r')) (hv:∀p∈out.vc,p):OpR P Y X nt ds e a w o out:=by
 unfold Aeq at h;split at h
 ·split at h
  ·rename_i id m;simp only[M.run]at h;grind[Nat.eq_of_beq_eq_true,Je,List.mem_cons_self,Afo,Al5,Cl,Jc]
  ·split at h
   ·rename_i m g hzz;obtain⟨hb,h⟩:=Al h;obtain⟨hb,mc⟩:=and_true hb;obtain⟨ax,hs⟩:=and_true hb;have mc:=aG mc;have hs:0<(Y el).size:=aH hs;grind[Je,List.mem_cons_self,Al5,Cl,Aam]
   trivial
 trivial
def Auz (hY:YOK P Y) (R:Rel Y X nt ds e a w G) {o:Oper} {p:Operand} {s t:TypeId} {x:T} (ho:o.op=.convert s t p) (hx:VOK G w X.fz Y e x (a.eval p))
  {r r':List (Nat×Nat)} {out:Out} (h:(Aer Y (Y s) (Y t) o.dst x).run e.get r=some (out,r')) (hv:∀p∈out.vc,p):OpR P Y X nt ds e a w o out:=by
 unfold Aer at h;split at h
 ·rename_i el S hk ir wd;obtain⟨so,h⟩:=Al h;have so:=Akn so;obtain⟨d,_,hd,hf,rfl⟩:=Je h;have c1:S.size<=140737488355328:=hv _ aC;obtain⟨d1,i1,z1,g1,g2,g3,g4,g5,g6,g7,g8⟩:=hY s (by simp[Ty.known,ir]);rw[ir]at g7;simp only[KOK]at g7;subst g7;obtain⟨d2,i2,z2,h1,h2,h3,h4,h5,h6,h7,h8⟩:=hY t (by simp[Ty.known,hk]);rw[hk]at h7;simp only[KOK]at h7;subst h7;obtain⟨d3,i3,z3,e1,e2,e3,e4,e5,e6,e7,e8⟩:=hY el (by simp[Ty.known,so]);rw[so]at e7;simp only[KOK]at e7;subst e7;have d7:=run_bytes_of_string (P:=P) w s t el S g1 h1 e1;have dr:=eJ w S.size 0 el;have ni:S.size<=maxLen:=by unfold maxLen;omega
  obtain⟨R1,jm⟩:=R.drewR;have am:(bytesRow S (grownCap w S.size 0 el)).size=grownCap w S.size 0 el:=by
   unfold bytesRow;rw[dX,Array.size_map,Array.size_replicate]
   show S.size+(grownCap w S.size 0 el - S.size)=_
   omega
  obtain⟨G',q1,q2,R',lift,q3⟩:=Jd R1 hd hf (.cells (bytesRow S (grownCap w S.size 0 el)) el ((bytesRow S (grownCap w S.size 0 el)).size,(bytesRow S (grownCap w S.size 0 el)).size+1)) (st:=.arrc false 1 S.size λi=>[.v (.int .u8 (S.data.getD i 0).toNat)]) (ce:=[]) (by simp) (λt k h=>rfl)
   (λG' cd=>by
    refine⟨⟨_,el,_,bN w.drew _,.inr (aI _),by omega,λi hi=>⟨rfl,λj c hj=>?_⟩⟩,Nat.one_pos,λhh=>(by cases hh),λ_=>by rw[cd];exact R.fresh _ (aI _)⟩;cases j with
    |succ j=>cases hj
    |zero=>
     simp only[bR,aA]at hj;subst hj;have gh:i<S.data.size:=hi;refine⟨_,by rw[fX,eB];exact bytesRow_at S _ i gh,?_⟩;have:S.data.getD i 0=S.data[i]:=by rw[aW,cK gh];rfl
     rw[this];exact .v _ rfl)
   (λG' lift k hk=>by
    rw[cH]at hk;exact absurd (R.mem.cells d k hk).1 (by rw[hd];exact λh=>Bc h.symm))
  refine⟨_,.slice (some ⟨w.heap.size,0,none⟩) S.size (grownCap w S.size 0 el),_,G',?_,.inl rfl,λ_ h=>(by cases h),R',VOK.ids_used (id:=d) ?_ trivial rfl rfl (by
   grind)⟩
  ·simp[execOp,ho,Ak1 wd hx,d7]
  ·simp only[Aa];exact .inr ⟨_,by rw[q2];rfl,dr,cY w S.size 0 el ni,_,el,_,by rw[q2];exact bN w.drew _,by omega⟩
 trivial
def Av0 {l:List Value} (h:nilZ l=true):l=[.slice none 0 0]:=by
 grind[nilZ]
theorem Av1 (hY:YOK P Y) (R:Rel Y X nt ds e a w G) {o:Oper} {p q:Operand} {t:TypeId} {x y:T} (ho:o.op=.makeSlice t p q) (hx:VOK G w X.fz Y e x (a.eval p)) (hy:VOK G w X.fz Y e y (a.eval q))
  {r r':List (Nat×Nat)} {out:Out} (h:(Aet Y (Y t) o.dst x y).run e.get r=some (out,r')) (hv:∀p∈out.vc,p):OpR P Y X nt ds e a w o out:=by
 unfold Aet at h;split at h
 case h_2=>trivial
 rename_i el k n k' m hk hn hm;split at h
 case h_2=>trivial
 rename_i el2 bo;replace h:=Al h;obtain⟨hb,h⟩:=h;obtain⟨hb,qv⟩:=and_true hb;obtain⟨ax,j9⟩:=and_true hb;have j9:=Bh j9;have qv:=Av0 qv;obtain⟨d,_,hd,hf,rfl⟩:=Je h;have c1:n=m:=hv _ aC;have c2:0<=n:=hv _ (.tail _ (.head _));have c3:n.toNat*(Y el).bytes<=140737488355328:=hv _ (.tail _ (.tail _ (.head _)));have c4:n.toNat<=140737488355328:=hv _ (.tail _ (.tail _ (.tail _ (.head _))));clear hv h;subst c1;have e1:=Ez hn hx;have e2:=Ez hm hy;obtain⟨d2,i2,z2,h1,h2,h3,h4,h5,h6,h7,h8⟩:=hY t (by simp[Ty.known,hk]);rw[hk]at h7;simp only[KOK]at h7;subst h7;obtain⟨_,ie,ze,g1,g2,g3,g4,g5,g6,g7,g8⟩:=hY el (by simp[Ty.known,bo]);have kx:(Y el).size=1:=g8.1 (by simp[Ty.agg,bo]);have hzc:ze.cells.toList=[.slice none 0 0]:=by grind
 have pj:ze.cells.size=1:=by grind
 have c5:ie.bytes*n.toNat<=281474976710656:=by grind
 have c6:(ie.bytes:Int)*n=((ie.bytes*n.toNat:Nat):Int):=by grind
 have d7:=run_make (P:=P) w t el ie ze h1 g2 g5 k k' n n c2 (dV _) (by omega) (by omega);obtain⟨G',q1,q2,R',lift,q3⟩:=Jd R hd hf (.cells (madeCells ze.cells (n.toNat*ie.size)) el) (st:=.arro el2 (Y el2).size n.toNat (λ_=>(0,λ_=>[])) none) (ce:=[]) (by simp) (λt k h=>rfl)
  (λG' cd=>by
   refine⟨by rw[cd];exact R.fresh _ (aI _),j9,_,el,bN w _,by grind[size_madeCells],λj hj=>⟨.slice none 0 0,?_,λ_=>⟨.nil _ _,λi hi=>absurd hi (aV i),.inl rfl⟩⟩⟩;rw[Akz (by omega) (by grind),pj,Nat.mod_one,<-bD,hzc]
   rfl)
  (λG' lift k hk=>by
   rw[cH]at hk;exact absurd (R.mem.cells d k hk).1 (by rw[hd];exact λh=>Bc h.symm))
 refine⟨_,.slice (some ⟨w.heap.size,0,none⟩) n.toNat n.toNat,_,G',?_,.inl rfl,λ_ h=>(by cases h),R',VOK.ids_used (id:=d) ?_ trivial rfl rfl (by
  grind)⟩
 ·simp[execOp,ho,e1,e2,d7]
 ·simp only[Aa];exact .inr ⟨n.toNat,by rw[q2],aI _,by unfold maxLen;omega,_,el,_,by rw[q2];exact bN w _,by grind[size_madeCells]⟩
def Av2 (hY:YOK P Y) (R:Rel Y X nt ds e a w G) {o:Oper} {p:Operand} {t:TypeId} {x:T} (ho:o.op=.load t p) (hx:VOK G w X.fz Y e x (a.eval p))
  {r r':List (Nat×Nat)} {out:Out} (h:(Aeu Y o.dst (Y t) x).run e.get r=some (out,r')) (hv:∀p∈out.vc,p):OpR P Y X nt ds e a w o out:=by
 unfold Aeu at h;split at h
 case h_2=>trivial
 rename_i id i s1 off d l8 w7;simp only[M.run]at h;split at h
 case h_2=>trivial
 rename_i el sz n f i8;replace h:=Al h;obtain⟨hb,h⟩:=h;obtain⟨hb,h3⟩:=and_true hb;obtain⟨hb,h0⟩:=and_true hb;obtain⟨h1,h2⟩:=and_true hb;have h0:=aG h0;have h1:=Bh h1;have h2:=aG h2;have h3:=aG h3;subst h0;subst h2;subst h3;simp only[M.run]at h;split at h
 case h_2=>trivial
 rename_i hd;simp only[M.run,aA,aD]at h;obtain⟨rfl,_⟩:=h;have hlt:i<n:=hv _ aC;obtain⟨G',u,R',hcu,i6,l7⟩:=At8 R i8 hd h1 hlt;have hp:=hx.rel;simp only[Aa,fX,eB]at hp;refine⟨.value u,u,w,G',?_,.inl rfl,λ_ h=>(by cases h),R',⟨?_,?_,λi5 d6=>(by cases d6),λk hk=>?_⟩⟩
 ·simp[execOp,ho,hp,Instr.loadAt,Instr.sureAddr,Nt hY l8 hcu]
 ·simp only[Aa,Av];generalize (f i).1=m0 at i6 ⊢;cases i6 with
  |nil=>exact .nil _ _
  |e=>exact .e _ _ _
  |s _ _ _ b off cap sz u a1 a2 a3 a4 a5 a6=>exact .s _ _ _ b off cap sz u a1 a2 a3 a4 a5 a6
 ·intro bz w9;grind[As,Am]
 grind[Ck,As,Am]
def Av3 (R:Rel Y X nt ds e a w G) {o:Oper} {p:Operand} {x:T} (ho:o.op=.move p) (hx:VOK G w X.fz Y e x (a.eval p))
  {r r':List (Nat×Nat)} {out:Out} (h:(Aev x).run e.get r=some (out,r')) (hv:∀p∈out.vc,p):OpR P Y X nt ds e a w o out:=by
 unfold Aev at h;split at h
 ·rename_i id n;obtain⟨⟨c,ps,W⟩,r1,h1,h2⟩:=Ah h;simp only[M.run,aA,aD]at h2;obtain⟨rfl,_⟩:=h2;obtain⟨hW,hc⟩:=Jw (Y:=Y) (X:=X) (nt:=nt) (ds:=ds) (a:=a) (w:=w) (O:=X.fz) h1;obtain⟨G',R',lift,_⟩:=Lg R hW;have i6:=hc hW (λ_ h=>h) (λq hq=>hv q hq) R' (lift _ _ hx);have aw:∃m f,c=.s .n m f:=by grind[Gw,M.run]
  obtain⟨m,f,rfl⟩:=aw;exact⟨_,a.eval p,w,G',by simp[execOp,ho],.inl rfl,λ_ h=>(by cases h),R',VOK.dem (x:=.c (.s .n m f)) i6⟩
 ·rename_i id;obtain⟨⟨c,ps,W⟩,r1,h1,h2⟩:=Ah h;simp only[M.run,aA,aD]at h2;obtain⟨rfl,_⟩:=h2;obtain⟨hW,hc⟩:=Jw (Y:=Y) (X:=X) (nt:=nt) (ds:=ds) (a:=a) (w:=w) (O:=X.fz) h1;obtain⟨G',R',lift,_⟩:=Lg R hW;have i6:=hc hW (λ_ h=>h) (λq hq=>hv q hq) R' (lift _ _ hx);have aw:∃kn ag dom val,c=.m kn ag dom val:=by grind[Gw,M.run]
  obtain⟨kn,ag,dom,val,rfl⟩:=aw;exact⟨_,a.eval p,w,G',by simp[execOp,ho],.inl rfl,λ_ h=>(by cases h),R',VOK.dem (x:=.c (.m kn ag dom val)) i6⟩
 trivial
def Av4 (R:Rel Y X nt ds e a w G) {id:Nat}:∀(n:Nat) {k:Nat} {r r':List (Nat×Nat)} {cs:List C} {ps:List Prop} {W:Env},(We id n k).run e.get r=some ((cs,ps,W),r')->
  cs.length=n/\Cf e W/\∃us:List Value,us.length=n/\(∀(j:Nat) u,us[j]?=some u->w.cell? ⟨G.bk id,k+j,none⟩=some u)/\
  ∀{W':Env} {G':Gh},Cf e W'->(∀p∈W,p∈W')->(∀p∈ps,p)->Rel Y X nt ds (W'++e) a w G'->(∀x v,VOK G w X.fz Y e x v->VOK G' w X.fz Y (W'++e) x v)->Aw G'.vis w cs us:=by
 intro n
 induction n with
 |zero=>
  intro k r r' cs ps W h;simp only[We,M.run,aA,aD]at h;obtain⟨⟨rfl,rfl,rfl⟩,_⟩:=h;exact⟨rfl,.nil,[],rfl,λj u hj=>(by simp at hj),λ_ _ _ _ _=>⟨rfl,λj c v hj=>(by simp at hj)⟩⟩
 |succ n ih=>
  intro k r r' cs ps W h;simp only[We,M.run]at h;obtain⟨⟨c,qu,W1⟩,r1,h1,h2⟩:=Ah h;obtain⟨⟨az,na,W2⟩,r2,h3,h4⟩:=Ah h2;simp only[M.run,aA,aD,Gv.add]at h4;obtain⟨⟨rfl,rfl,rfl⟩,_⟩:=h4;obtain⟨g1,g2,us,g3,g4,g5⟩:=ih h3;have s7:e.get (id+3) k≠.any:=λhh=>by rw[hh]at h1;trivial
  obtain⟨_,_,u,hu,hv⟩:=R.mem.cells id k s7;have key:Cf e W1/\∀{W':Env} {G':Gh},Cf e W'->(∀p∈W1,p∈W')->(∀p∈qu,p)->Rel Y X nt ds (W'++e) a w G'->(∀x v,VOK G w X.fz Y e x v->VOK G' w X.fz Y (W'++e) x v)->Rep G'.vis w c u:=by
   unfold Ajn at h1;split at h1
   ·rename_i mid hm;simp only[M.run,aA,aD]at h1;obtain⟨⟨rfl,rfl,rfl⟩,_⟩:=h1;refine⟨.nil,λ_ _ _ _ _=>.u _ ?_⟩;rw[hm]at hv;have:=hv.rel;simp only[Aa]at this;rw[this];rfl
   ·exact⟨(Jw (Y:=Y) (X:=X) (nt:=nt) (ds:=ds) (a:=a) (w:=w) (O:=X.fz) h1).1,λhW n5 hp R' lift=>(Jw (Y:=Y) (X:=X) (nt:=nt) (ds:=ds) (a:=a) (w:=w) (O:=X.fz) h1).2 hW n5 hp R' (lift _ _ hv)⟩
  obtain⟨f1,f2⟩:=key;refine⟨by simp[g1],f1.app g2,u::us,by simp[g3],λj u' hj=>?_,λhW n5 hp R' lift=>?_⟩
  ·grind
  ·have hc:=f2 hW (λp hp=>n5 p (aJ _ hp)) (λp gg=>hp p (aJ _ gg)) R' lift;obtain⟨l1,l2⟩:=g5 hW (λp hp=>n5 p (aM _ hp)) (λp gg=>hp p (aM _ gg)) R' lift;refine⟨by simp[l1],λj c' v hc' ak=>?_⟩;grind
def Av5 (hY:YOK P Y) (R:Rel Y X nt ds e a w G) {o:Oper} {p:Operand} {t:TypeId} {x:T} (ho:o.op=.load t p) (hx:VOK G w X.fz Y e x (a.eval p))
  {r r':List (Nat×Nat)} {out:Out} (h:(Aew (Y t) x).run e.get r=some (out,r')) (hv:∀p∈out.vc,p):OpR P Y X nt ds e a w o out:=by
 unfold Aew at h;split at h
 ·rename_i id k l8;obtain⟨⟨cs,ps,W⟩,r1,h1,h2⟩:=Ah h;simp only[M.run,aA,aD]at h2;obtain⟨rfl,_⟩:=h2;obtain⟨g1,g2,us,g3,g4,g5⟩:=Av4 R _ h1;have hp:=hx.rel;simp only[Aa]at hp;obtain⟨G',R',lift,_⟩:=Lg R g2;have hl:=g5 g2 (λ_ h=>h) hv R' lift;refine⟨.value (.agg us.toArray),.agg us.toArray,w,G',?_,.inl rfl,λ_ h=>(by cases h),R',VOK.agg (Aw.dem (by trivial))⟩;simp[execOp,ho,hp,Instr.loadAt,Instr.sureAddr,Jv hY l8 g3 g4]
 ·rename_i id k l8;simp only[M.run]at h;obtain⟨⟨c,ps,W⟩,r1,h1,h2⟩:=Ah h;simp only[M.run,aA,aD]at h2;obtain⟨rfl,_⟩:=h2;have s7:e.get (id+3) k≠.any:=λhh=>by
   rw[hh]at h1;trivial
  obtain⟨_,_,u,hu,ak⟩:=R.mem.cells id k s7;obtain⟨hW,hc⟩:=Jw (Y:=Y) (X:=X) (nt:=nt) (ds:=ds) (a:=a) (w:=w) (O:=X.fz) h1;obtain⟨G',R',lift,_⟩:=Lg R hW;have i6:=hc hW (λ_ h=>h) (λq hq=>hv q hq) R' (lift _ _ ak);have hp:=hx.rel;simp only[Aa]at hp;refine⟨.value u,u,w,G',?_,.inl rfl,λ_ h=>(by cases h),R',VOK.dem (x:=.c c) i6⟩;simp[execOp,ho,hp,Instr.loadAt,Instr.sureAddr,Nt hY l8 hu]
 trivial
def Av6 (hY:YOK P Y) (R:Rel Y X nt ds e a w G) {o:Oper} {p:Operand} {t:TypeId} {x:T} (ho:o.op=.load t p) (hx:VOK G w X.fz Y e x (a.eval p))
  {r r':List (Nat×Nat)} {out:Out} (h:(Aex (Y t) x).run e.get r=some (out,r')) (hv:∀p∈out.vc,p):OpR P Y X nt ds e a w o out:=by
 unfold Aex at h;split at h
 ·rename_i id k l8;obtain⟨xs,r1,h1,h2⟩:=Ah h;obtain rfl:=Bp h2;obtain⟨us,g1,g2,g3,g4⟩:=Aan R _ h1;have hp:=hx.rel;simp only[Aa]at hp;obtain⟨k1,k2⟩:=g4.relTs g2;refine OpR.pure R (v:=.agg us.toArray) ?_ ⟨by grind[Aa],trivial,λi5 d6=>k2 i5 (by trivial),λ_ h=>(by cases h)⟩ (λ_ h=>(by cases h));simp[execOp,ho,hp,Instr.loadAt,Instr.sureAddr,Jv hY l8 g1 g3]
 trivial
theorem Av7 (hY:YOK P Y) (R:Rel Y X nt ds e a w G) {o:Oper} {p q:Operand} {t:TypeId} {x h0:T} (ho:o.op=.slice t p none (some q) none) (hx:VOK G w X.fz Y e x (a.eval p)) (hh:VOK G w X.fz Y e h0 (a.eval q))
  {r r':List (Nat×Nat)} {out:Out} (h:(Aey Y (Y t) x h0).run e.get r=some (out,r')) (hv:∀p∈out.vc,p):OpR P Y X nt ds e a w o out:=by
 unfold Aey at h;split at h
 ·rename_i el id n k m hk hi;simp only[M.run]at h;split at h
  ·rename_i sz m' f i8;obtain⟨ax,h⟩:=Al h;simp only[M.run,aA,aD]at h;obtain⟨rfl,_⟩:=h;have c0:n=m':=hv _ aC;have c1:0<=m:=hv _ (.tail _ (.head _));have c2:m<=n:=hv _ (.tail _ (.tail _ (.head _)));subst c0;obtain⟨d2,i2,z2,h1,h2,h3,h4,h5,h6,h7,h8⟩:=hY t (by simp[Ty.known,hk]);rw[hk]at h7;simp only[KOK]at h7;subst h7;have d6:e.get 2 id≠.any:=by grind
   have z6:=(R.mem.box id d6).2.2;have hlt:=(R.mem.box id d6).2.1;rw[i8]at z6;obtain⟨⟨cs,ct,z,q1,hz,q2,q3⟩,q4,q5,q6⟩:=z6;have bn:=q6 rfl;have i7:m.toNat<=n:=by omega
   obtain⟨R',lift⟩:=Xb R d6 bn q1 (ob':=.cells cs ct z) (by simp) (λaz t' z' hh=>⟨cs,ct,z,rfl,by grind⟩) (st:=.arrc false sz m.toNat f) (by simp) (by simp[live]) (by rw[i8];simp[live]) (λn8=>by
    refine⟨⟨cs,ct,z,by grind,hz,bJ (aY _ i7) q2,λi hi=>⟨(q3 i (by omega)).1,λj c hj=>?_⟩⟩,q4,λhb=>(by cases hb),λ_=>bn⟩;obtain⟨u,h9,jk⟩:=(q3 i (by omega)).2 j c hj;exact⟨u,h9,jk.mono' (λ_=>aI _) n8⟩)
   have hw:({ w with heap:=w.heap.setIfInBounds (G.bk id) (.cells cs ct z) }:World)=w:=by
    have:w.heap.setIfInBounds (G.bk id) (.cells cs ct z)=w.heap:=by grind
    rw[this]
   rw[hw]at R' lift;have iy:=hx.rel;simp only[Aa]at iy;have hvk:∀v,Aa G w X.fz (.arr id m.toNat) v->VOK G w X.fz Y ([(2,id,.arrc false sz m.toNat f)]++e) (.arr id m.toNat) v:=λv hv=>VOK.ids_used (id:=id) hv trivial rfl rfl (by
    grind[Am])
   rcases iy with ⟨hn0,iy⟩|⟨cap,iy,ko,hmax⟩
   ·have jh:m=0:=by omega
    have ej:=Tq (P:=P) (w:=w) (G:=G) (O:=X.fz) (Y:=Y) (e:=e) (a:=a) true (aI 0) (lo:=none) (hi:=some h0) (l:=0) (h:=m) (ql:=none) (qh:=some q) rfl (by simp[Jq,hi]) trivial hh (dV 0) (by omega) (by omega);refine⟨_,.slice none 0 0,w,G,?_,.inl rfl,λ_ h=>(by cases h),R',hvk _ (by grind[Aa])⟩;rw[jh]at ej;simp only[Option.map_none,bO]at ej;simp[execOp,ho,iy,Instr.sliceAt,Instr.slice,aO h1,ej,Dq hY ax]
   ·have ej:=Tq (P:=P) (w:=w) (G:=G) (O:=X.fz) (Y:=Y) (e:=e) (a:=a) true ko (lo:=none) (hi:=some h0) (l:=0) (h:=m) (ql:=none) (qh:=some q) rfl (by simp[Jq,hi]) trivial hh (dV 0) (by omega) (by omega);refine⟨_,.slice (some ⟨G.bk id,0,none⟩) m.toNat cap,w,G,?_,.inl rfl,λ_ h=>(by cases h),R',hvk _ (by grind[Aa])⟩;simp only[Option.map_none,bO]at ej;have d7:(Instr.slice t (.slice (some ⟨G.bk id,0,none⟩) n cap) none (some (a.eval q)) none).run P w=.ok (.slice (some ⟨G.bk id,0,none⟩) m.toNat cap) w:=by
     simp[Instr.slice,aO h1,ej,Dq hY ax,Ih]
    simp[execOp,ho,iy,Instr.sliceAt,aO h1,d7]
  trivial
 trivial
def Av8 (hY:YOK P Y) (R:Rel Y X nt ds e a w G) {kp:Bool} {o:Oper} {r r':List (Nat×Nat)} {bs:List Prop} {out:Out}
  (h:(semA Y kp o.dst o.op).run e.get r=some ((bs,out),r')) (hb:∀p∈bs,p) (hv:∀p∈out.vc,p):OpR P Y X nt ds e a w o out/\∀c,o.op≠.defer c:=by
 unfold semA at h;split at h
 ·rename_i t len ps ca;split at h
  ·rename_i el hk;obtain⟨css,r1,h1,h⟩:=Ah h;obtain⟨o',r4,h4,h⟩:=Ah h;grind[M.run,Aue]
  trivial
 ·rename_i p ca;obtain⟨⟨ys,vm⟩,r1,h1,h⟩:=Ah h;dsimp only at h;split at h
  ·rename_i x;obtain⟨o',r4,h4,h⟩:=Ah h;simp only[M.run,aA,aD]at h;obtain⟨⟨rfl,rfl⟩,_⟩:=h;exact⟨Av3 R ca (VOKs.one (Ig R h1 hb)) h4 hv,λc hc=>by grind⟩
  trivial
 ·rename_i t p q ca;obtain⟨⟨ys,vm⟩,r1,h1,h⟩:=Ah h;dsimp only at h;split at h
  ·rename_i x y qw;obtain⟨o',r4,h4,h⟩:=Ah h;simp only[M.run,aA,aD]at h;obtain⟨⟨rfl,rfl⟩,_⟩:=h;obtain⟨k1,k2⟩:=VOKs.two (Ig R h1 hb);grind[Av1]
  trivial
 ·rename_i t p ca;obtain⟨⟨ys,vm⟩,r1,h1,h⟩:=Ah h;dsimp only at h;split at h
  ·rename_i x;obtain⟨o',r4,h4,h⟩:=Ah h;simp only[M.run,aA,aD]at h;obtain⟨⟨rfl,rfl⟩,_⟩:=h;cases hia:Ajo x with
   |true=>
    rw[hia]at h4;cases kp with
    |true=>exact⟨Av6 hY R ca (VOKs.one (Ig R h1 hb)) h4 hv,λc hc=>by grind⟩
    |false=>exact⟨Av5 hY R ca (VOKs.one (Ig R h1 hb)) h4 hv,λc hc=>by grind⟩
   |false=>rw[hia]at h4;exact⟨Av2 hY R ca (VOKs.one (Ig R h1 hb)) h4 hv,λc hc=>by grind⟩
  trivial
 ·rename_i t p q ca;obtain⟨⟨ys,vm⟩,r1,h1,h⟩:=Ah h;dsimp only at h;split at h
  ·rename_i x y qw;obtain⟨o',r4,h4,h⟩:=Ah h;simp only[M.run,aA,aD]at h;obtain⟨⟨rfl,rfl⟩,_⟩:=h;obtain⟨k1,k2⟩:=VOKs.two (Ig R h1 hb);grind[Av7]
  trivial
 ·rename_i s t p ca;obtain⟨⟨ys,vm⟩,r1,h1,h⟩:=Ah h;dsimp only at h;split at h
  ·rename_i x;obtain⟨o',r4,h4,h⟩:=Ah h;simp only[M.run,aA,aD]at h;obtain⟨⟨rfl,rfl⟩,_⟩:=h;exact⟨Auz hY R ca (VOKs.one (Ig R h1 hb)) h4 hv,λc hc=>by grind⟩
  trivial
 ·rename_i args ek ca;obtain⟨⟨ys,vm⟩,r1,h1,h⟩:=Ah h;dsimp only at h;split at h
  ·rename_i x z t t' jf htys;obtain⟨w6,h⟩:=Al h;have w6:=aG w6;split at h
   ·rename_i el hk;obtain⟨o',r4,h4,h⟩:=Ah h;simp only[M.run,aA,aD]at h;obtain⟨⟨rfl,rfl⟩,_⟩:=h;have hx:=Ig R h1 hb;obtain⟨p,q,hp,k1,k2⟩:=VOKs.inv2 hx;rw[Lh htys,Lh hp,<-w6]at ca;grind[Auy]
   trivial
  trivial
 trivial
end
def Gh0 (vis:Nat->Nat):Gh:=⟨vis,λ_=>0,λ_=>none,λ_=>False,⟨[],.nil⟩⟩
section
variable {P:Program} {Y:TypeId->Ty} {X:Cx} {nt:Nat} {ds:List Deferred} {e:Env} {a:Act} {w:World} {G:Gh} {O:Nat->Prop}
theorem Av.weak {vis:Nat->Nat} {O O':Nat->Prop} (h:∀b,O b->O' b) {x:D} {v:Value} (r:Av vis w O x v):Av vis w O' x v:=by
 cases x with
 |c x=>exact r
 |agg xs=>exact r
 |rd xs=>
  obtain⟨bb,off,h1,h2,h3⟩:=r;exact⟨bb,off,h1,h2,h3.imp (h _) id⟩
theorem Av.pure {vis:Nat->Nat} {O O':Nat->Prop} {x:D} {v:Value} (hx:Ja (.d x)=true) (r:Av vis w O x v):Av vis w O' x v:=by
 cases x with
 |c x=>exact r
 |agg xs=>exact r
 |rd xs=>cases hx
mutual
theorem Aa.pure {G':Gh} {O O':Nat->Prop} (hv:G'.vis=G.vis):∀{x:T} {v:Value},Ja x=true->Aa G w O x v->Aa G' w O' x v
 | .d x,v,hx,r=>by grind[Aa,Av.pure]
 | .fn f a b,v,hx,r=>by
  simp only[Ja,aE]at hx;simp only[Aa]at r ⊢;obtain⟨us,vs,h1,h2,h3⟩:=r;exact⟨us,vs,h1,Ac.pure hv hx.1 h2,Ac.pure hv hx.2 h3⟩
 | .tup _,_,hx,_| .addr _ _,_,hx,_| .may _ _,_,hx,_| .any,_,hx,_| .tok _,_,hx,_| .arr _ _,_,hx,_| .elt _ _ _ _,_,hx,_| .mp _,_,hx,_| .it _,_,hx,_| .nx _ _,_,hx,_| .yl _,_,hx,_| .ag _,_,hx,_| .tpl _,_,hx,_| .pt _,_,hx,_
 | .own _ _ _,_,hx,_| .tkd _ _ _ _,_,hx,_| .arrc _ _ _ _,_,hx,_| .mapc _ _ _ _ _,_,hx,_| .itc _ _,_,hx,_| .mitc _ _ _ _ _ _,_,hx,_| .tr _,_,hx,_| .arro _ _ _ _ _,_,hx,_=>by trivial
theorem Ac.pure {G':Gh} {O O':Nat->Prop} (hv:G'.vis=G.vis):∀{xs:List T} {vs:List Value},Du xs=true->Ac G w O xs vs->Ac G' w O' xs vs
 | [],vs,_,r=>by trivial
 |x::xs,vs,hx,r=>by
  simp only[Du,aE]at hx;simp only[Ac]at r ⊢;obtain⟨v,us,h1,h2,h3⟩:=r;exact⟨v,us,h1,Aa.pure hv hx.1 h2,Ac.pure hv hx.2 h3⟩
end
mutual
theorem Afx:∀{x:T},Ja x=true->Aj x=[]
 | .d x,_=>rfl
 | .fn f a b,hx=>by
  simp only[Ja,aE]at hx;simp only[Aj,Xd hx.1,Xd hx.2,dO]
 | .tup _,hx| .addr _ _,hx| .may _ _,hx| .any,hx| .tok _,hx| .arr _ _,hx| .elt _ _ _ _,hx| .mp _,hx| .it _,hx| .nx _ _,hx| .yl _,hx| .ag _,hx| .tpl _,hx| .pt _,hx
 | .own _ _ _,hx| .tkd _ _ _ _,hx| .arrc _ _ _ _,hx| .mapc _ _ _ _ _,hx| .itc _ _,hx| .mitc _ _ _ _ _ _,hx| .tr _,hx| .arro _ _ _ _ _,hx=>by trivial
theorem Xd:∀{xs:List T},Du xs=true->Bo xs=[]
 | [],_=>rfl
 |x::xs,hx=>by
  simp only[Du,aE]at hx;simp only[Bo,Afx hx.1,Xd hx.2,dO]
end
def Ac.len {xs:List T} {vs:List Value} (h:Ac G w O xs vs):xs.length=vs.length:=by
 induction xs generalizing vs with
 |nil=>grind[Ac]
 |cons x xs ih=>grind[Ac]
def Ac.app {xs ys:List T} {vs us:List Value} (h1:Ac G w O xs vs) (h2:Ac G w O ys us):Ac G w O (xs++ys) (vs++us):=by
 induction xs generalizing vs with
 |nil=>grind[Ac]
 |cons x xs ih=>
  grind[Ac]
theorem Ac.get {xs:List T} {vs:List Value} (h:Ac G w O xs vs):∀(i:Nat) x v,xs[i]?=some x->vs[i]?=some v->Aa G w O x v:=by
 induction xs generalizing vs with
 |nil=>grind
 |cons y xs ih=>
  grind[Ac]
def Ac.take {xs:List T} {vs:List Value} (h:Ac G w O xs vs):∀n,Ac G w O (xs.take n) (vs.take n):=by
 induction xs generalizing vs with
 |nil=>grind[Ac]
 |cons y xs ih=>
  simp only[Ac]at h;obtain⟨u,us,rfl,h1,h2⟩:=h;intro n;cases n with
  |zero=>simp[Ac]
  |succ n=>grind[Ac]
def Ac.drop {xs:List T} {vs:List Value} (h:Ac G w O xs vs):∀n,Ac G w O (xs.drop n) (vs.drop n):=by
 induction xs generalizing vs with
 |nil=>grind[Ac]
 |cons y xs ih=>
  have h0:=h;simp only[Ac]at h;obtain⟨u,us,rfl,h1,h2⟩:=h;intro n;cases n with
  |zero=>exact h0
  |succ n=>grind
def Lo (n:Nat):Nat->Prop:=λb=>b<n
def Av9 (R:Rel Y X nt ds e a w G) {id k n:Nat} {r r':List (Nat×Nat)} {cs:List C} (d6:e.get 2 id≠.any) (h:(Ni id n k).run e.get r=some (cs,r')):
  Lb G.vis w (Lo w.heap.size) cs (.pointer (some ⟨G.bk id,k,none⟩)):=by
 obtain⟨us,h1,h2,h3⟩:=At4 R (At3 _ h).2;refine⟨_,_,rfl,λj c hj=>?_,.inl (R.mem.box id d6).2.1⟩;have hlt:j<us.length:=by grind
 exact⟨_,h2 j _ (aQ hlt),h3.2 j c _ hj (aQ hlt)⟩
theorem Ava {e':Env} {id:Nat} (h:∀k,e'.get (id+3) k=e.get (id+3) k):∀(n k:Nat) (r:List (Nat×Nat)),(Ni id n k).run e'.get r=(Ni id n k).run e.get r:=by
 intro n
 induction n with
 |zero=>intro k r;rfl
 |succ n ih=>
  grind[Ni,M.run,run_bind]
mutual
theorem Avb:∀{x y:T} {ps:List Prop} {W:Env} {r r':List (Nat×Nat)},(Oy x).run e.get r=some ((y,ps,W),r')->Cf e W/\
  ∀{W':Env} {G':Gh} {v:Value},Cf e W'->(∀p∈W,p∈W')->(∀p∈ps,p)->Rel Y X nt ds (W'++e) a w G'->Aa G' w X.fz x v->(∀id,id∈Aj x->Env.get (W'++e) 2 id≠.any)->Aa (Gh0 G'.vis) w (Lo w.heap.size) y v
 | .addr id k,y,ps,W,r,r',h=>by
  simp only[Oy]at h;obtain⟨cs,r1,h1,h2⟩:=Ah h;simp only[M.run,aA,aD]at h2;obtain⟨⟨rfl,rfl,rfl⟩,_⟩:=h2;refine⟨.nil,λhW _ _ R' hx d6=>?_⟩;simp only[Aa]at hx ⊢;subst hx;exact Av9 (n:=64) (r:=r) (r':=r1) R' (d6 id (by simp[Aj])) (by grind[Ava,Nu])
 | .d x,y,ps,W,r,r',h=>by
  simp only[Oy,M.run,aA,aD]at h;obtain⟨⟨rfl,rfl,rfl⟩,_⟩:=h;refine⟨.nil,λhW _ _ R' hx d6=>?_⟩;simp only[Aa]at hx ⊢;exact Av.dem (hx.weak λb hb=>R'.hlt b (R'.fzh b hb))
 | .fn f p q,y,ps,W,r,r',h=>by
  simp only[Oy]at h;obtain⟨⟨p',qu,W1⟩,r1,h1,h2⟩:=Ah h;obtain⟨⟨q',na,W2⟩,r2,h3,h4⟩:=Ah h2;simp only[M.run,aA,aD,Gv.add]at h4;obtain⟨⟨rfl,rfl,rfl⟩,_⟩:=h4;obtain⟨f1,g1⟩:=Pe h1;obtain⟨f2,g2⟩:=Pe h3;refine⟨f1.app f2,λhW n5 hp R' hx d6=>?_⟩;simp only[Aa]at hx ⊢;obtain⟨us,vs,hv,h5,h6⟩:=hx;exact⟨us,vs,hv,g1 hW (λp hp=>n5 p (aJ _ hp)) (λp gg=>hp p (aJ _ gg)) R' h5 (λid h=>d6 id (by simp[Aj,h])),
   g2 hW (λp hp=>n5 p (aM _ hp)) (λp gg=>hp p (aM _ gg)) R' h6 (λid h=>d6 id (by simp[Aj,h]))⟩
 | .arr id n,y,ps,W,r,r',h=>by
  simp only[Oy]at h;obtain⟨⟨c,qu,W1⟩,r1,h1,h2⟩:=Ah h;simp only[M.run,aA,aD]at h2;obtain⟨⟨rfl,rfl,rfl⟩,_⟩:=h2;obtain⟨f1,g1⟩:=Jw (Y:=Y) (X:=X) (nt:=nt) (ds:=ds) (a:=a) (w:=w) (O:=X.fz) h1;refine⟨f1,λhW n5 hp R' hx d6=>?_⟩;have hc:=g1 hW n5 hp R' (VOK.ids_used (id:=id) hx trivial rfl rfl (d6 id (by simp[Aj])));trivial
 | .mp id,y,ps,W,r,r',h=>by
  simp only[Oy]at h;obtain⟨⟨c,qu,W1⟩,r1,h1,h2⟩:=Ah h;simp only[M.run,aA,aD]at h2;obtain⟨⟨rfl,rfl,rfl⟩,_⟩:=h2;obtain⟨f1,g1⟩:=Jw (Y:=Y) (X:=X) (nt:=nt) (ds:=ds) (a:=a) (w:=w) (O:=X.fz) h1;refine⟨f1,λhW n5 hp R' hx d6=>?_⟩;have hc:=g1 hW n5 hp R' (VOK.ids_used (id:=id) hx trivial rfl rfl (d6 id (by simp[Aj])));trivial
 | .tup _,_,_,_,_,_,h| .may _ _,_,_,_,_,_,h| .any,_,_,_,_,_,h| .tok _,_,_,_,_,_,h| .elt _ _ _ _,_,_,_,_,_,h| .it _,_,_,_,_,_,h| .nx _ _,_,_,_,_,_,h| .yl _,_,_,_,_,_,h| .ag _,_,_,_,_,_,h| .tpl _,_,_,_,_,_,h| .pt _,_,_,_,_,_,h
 | .own _ _ _,_,_,_,_,_,h| .tkd _ _ _ _,_,_,_,_,_,h| .arrc _ _ _ _,_,_,_,_,_,h| .mapc _ _ _ _ _,_,_,_,_,_,h| .itc _ _,_,_,_,_,_,h| .mitc _ _ _ _ _ _,_,_,_,_,_,h| .tr _,_,_,_,_,_,h| .arro _ _ _ _ _,_,_,_,_,_,h=>by trivial
theorem Pe:∀{xs ys:List T} {ps:List Prop} {W:Env} {r r':List (Nat×Nat)},(Fh xs).run e.get r=some ((ys,ps,W),r')->Cf e W/\
  ∀{W':Env} {G':Gh} {vs:List Value},Cf e W'->(∀p∈W,p∈W')->(∀p∈ps,p)->Rel Y X nt ds (W'++e) a w G'->Ac G' w X.fz xs vs->(∀id,id∈Bo xs->Env.get (W'++e) 2 id≠.any)->Ac (Gh0 G'.vis) w (Lo w.heap.size) ys vs
 | [],ys,ps,W,r,r',h=>by
  simp only[Fh,M.run,aA,aD]at h;obtain⟨⟨rfl,rfl,rfl⟩,_⟩:=h;refine⟨.nil,λ_ _ _ _ hx _=>?_⟩;trivial
 |x::xs,ys,ps,W,r,r',h=>by
  simp only[Fh]at h;obtain⟨⟨y,qu,W1⟩,r1,h1,h2⟩:=Ah h;obtain⟨⟨ys',na,W2⟩,r2,h3,h4⟩:=Ah h2;simp only[M.run,aA,aD,Gv.add]at h4;obtain⟨⟨rfl,rfl,rfl⟩,_⟩:=h4;obtain⟨f1,g1⟩:=Avb h1;obtain⟨f2,g2⟩:=Pe h3;refine⟨f1.app f2,λhW n5 hp R' hx d6=>?_⟩;simp only[Ac]at hx ⊢;obtain⟨v,us,hv,h5,h6⟩:=hx;exact⟨v,us,hv,g1 hW (λp hp=>n5 p (aJ _ hp)) (λp gg=>hp p (aJ _ gg)) R' h5 (λid h=>d6 id (by simp[Bo,h])),
   g2 hW (λp hp=>n5 p (aM _ hp)) (λp gg=>hp p (aM _ gg)) R' h6 (λid h=>d6 id (by simp[Bo,h]))⟩
end
def Kj (base:Nat) (vis:Nat->Nat) (w:World):T->Value->Prop
 | .d x,v=>Av vis w (λ_=>False) x v
 | .tup xs,v=>∃vs:Array Value,v=.tuple vs/\Jt vis w (λ_=>False) xs vs.toList
 | .fn f a b,v=>Ja (.fn f a b)=true/\Aa (Gh0 vis) w (λ_=>False) (.fn f a b) v
 | .ag xs,v=>Du xs=true/\Aa (Gh0 vis) w (λ_=>False) (.ag xs) v
 | .own sz n f,v=>∃b cs t z,((n=0/\v=.slice none 0 0)∨∃cap,v=.slice (some ⟨b,0,none⟩) n cap/\n<=cap/\cap<=maxLen/\cap<=cs.size)/\base<=b/\b<w.heap.size/\vis b=0/\0<sz/\w.heap[b]?=some (.cells cs t z)/\Ns cs z/\RowR vis w sz n f cs
 | .tkd el sz n f,v=>Rep vis w (.s .n n f) v/\(∀i,i<n->(f i).length=sz)/\(v=.slice none 0 0∨(∃a,v=.slice a n n)∨∃b xs,base<=b/\b<w.heap.size/\(∃cs t,w.heap[b]?=some (.cells cs t (0,0)))/\v.ownBlock=some b/\w.ownsRow 0 el sz v n xs/\vis b=n*sz)
 |_,_=>False
def XC (sz:Nat) (G:Gh) (w:World) (m:Env) (el n:Nat) (f:Nat->List C) (u:Value):Option Nat->Prop
 |none=>(∀i,i<n->(f i).length=sz)/\(u=.slice none 0 0∨∃a,u=.slice a n n)
 |some b=>(∀i,i<n->(f i).length=sz)/\b<w.heap.size/\¬G.H b/\(∃cs t,w.heap[b]?=some (.cells cs t (0,0)))/\(∀id,m.get 2 id≠.any->G.bk id≠b)/\u.ownBlock=some b/\(∃xs,w.ownsRow 0 el sz u n xs)/\G.vis b=n*sz
def XAt (sz:Nat) (G:Gh) (w:World) (m:Env) (el F c:Nat) (u:Value) (z:Option Nat):Prop:=
 w.cell? ⟨G.bk F,c,none⟩=some u/\∃n f,m.get (F+3) c=.d (.c (.s .n n f))/\XC sz G w m el n f u z
def NewX (base:Nat) (vis:Nat->Nat) (w:World) (bk:Nat->Nat) (m:Env):Prop:=
 match m.get 1 0 with
 | .elt el F c sz=>∃u z,XAt sz { Gh0 vis with bk:=bk } w m el F c u z/\∀b,z=some b->base<=b
 |_=>True
def NewOK (base:Nat) (vis:Nat->Nat) (w:World) (m:Env) (x:T) (v:Value):Prop:=
 ∃bk:Nat->Nat,(∀id,m.get 2 id≠.any->base<=bk id/\bk id<w.heap.size/\Bk { Gh0 vis with bk:=bk } w (m.get 2 id) (bk id))/\(∀id i5,m.get 2 id≠.any->m.get 2 i5≠.any->bk id=bk i5->id=i5)/\
  (∀id k,m.get (id+3) k≠.any->m.get 2 id=live/\∃u,w.cell? ⟨bk id,k,none⟩=some u/\Aa { Gh0 vis with bk:=bk } w (λ_=>False) (m.get (id+3) k) u)/\Aa { Gh0 vis with bk:=bk } w (λ_=>False) x v/\NewX base vis w bk m
def Ik (vis:Nat->Nat) (w:World) (en:Ending) (w':World):Res->Prop
 | .ret x=>∃v vis',en=.returned v/\(∀b,b<w.heap.size->vis' b=vis b)/\(∀b,w'.heap.size<=b->vis' b=0)/\Kj w.heap.size vis' w' x v
 | .pan v=>en=.panicked [{ v,recovered:=false }]
 | .new x m=>∃v vis',en=.returned v/\(∀b,b<w.heap.size->vis' b=vis b)/\(∀b,w'.heap.size<=b->vis' b=0)/\NewOK w.heap.size vis' w' m x v
def Ha (P:Program) (f:FuncId):Prop:=∃fn,P.funcs[f]?=some fn/\(fn.name== "runtime.NumGoroutine")=false/\fn.body.isNone=false
def Computes (P:Program) (Gl:World->Prop) (f:FuncId) (args:List T) (r:Res):Prop:=
 Ha P f/\∀(vis:Nat->Nat) (w:World) (vs:Array Value),(∀b,w.heap.size<=b->vis b=0)->Gl w->Ac (Gh0 vis) w (Lo w.heap.size) args vs.toList->
  Calls P f vs w λen w'=>Below w.heap.size w w'/\Ik vis w en w' r
def Al6 (P:Program) (l:Nat) (args:Array Value) (w:World) (R:Ending->World->Prop):Prop:=
 ∃fn tmps assign body,(Instr.yield l args).run P w=.ok (.round l fn tmps assign body) w/\RoundIn Fence.wide 0 P l fn tmps assign body w R
def Tt (H:Nat->Prop) (w w':World):Nat->Prop:=λb=>H b∨(w.heap.size<=b/\b<w'.heap.size)
def Pf (P:Program) (J:Oth) (yd:Yd):Prop:=
 ∀p H vis w vs,p<yd.m->p<=yd.s->J p H vis w->(∀b,H b->b<w.heap.size)->(∀b,w.heap.size<=b->vis b=0)->Du (yd.ys p)=true->Ac (Gh0 vis) w (λ_=>False) (yd.ys p) vs.toList->
  Al6 P yd.l vs w λen w'=>en=.returned (.bool (p != yd.s))/\J (p+1) (Tt H w w') vis w'/\(∀b,b<w.heap.size->¬H b->w'.heap[b]?=w.heap[b]?)/\KeepV vis w w'/\Same w w'
def Al7 (Y:TypeId->Ty) (J:Oth) (G:Gh) (post:Env) (w:World) (en:Ending) (w':World) (r:Res):Prop:=
 ∃G',G'.bk=G.bk/\(∀b,b<w.heap.size->G'.vis b=G.vis b)/\(∀b,w'.heap.size<=b->G'.vis b=0)/\(∀b,b<w.heap.size->(G'.H b↔G.H b))/\(∀b,G'.H b->b<w'.heap.size)/\
  J (trN (post.get 0 BIG)) G'.H G'.vis w'/\Mem Y (λ_=>False) post w' G'/\
  match r with
  | .ret x=>∃v,en=.returned v/\Kj w.heap.size G'.vis w' x v
  | .pan v=>en=.panicked [{ v,recovered:=false }]
  | .new (.fn h [x] []) []=>∃b u,en=.returned (.func (.func h) #[] #[.pointer (some ⟨b,0,none⟩)])/\0<G'.vis b/\w'.cell? ⟨b,0,none⟩=some u/\Aa G' w' (λ_=>False) x u
  | .new _ _=>False
def Aaw (P:Program) (Y:TypeId->Ty) (Gl:World->Prop) (yd:Yd) (f:FuncId) (args:List T) (c9:Env) (r:Res) (post:Env):Prop:=
 ∀(J:Oth) (G:Gh) (w:World) (vs:Array Value),J.Stable->(∀p H vi w,J p H vi w->Gl w)->Pf P J yd->
  (∀b,w.heap.size<=b->G.vis b=0)->(∀b,G.H b->b<w.heap.size)->J (trN (c9.get 0 BIG)) G.H G.vis w->Mem Y (λ_=>False) c9 w G->Ac G w (λ_=>False) args vs.toList->
  Calls P f vs w λen w'=>Same w w'/\KeepV G.vis w w'/\(∀b,b<w.heap.size->¬G.H b->(∀id,c9.get 2 id≠.any->G.bk id≠b)->w'.heap[b]?=w.heap[b]?)/\
   (∀id k,c9.get 2 id=live->c9.get (id+3) k=.any->w'.cell? ⟨G.bk id,k,none⟩=w.cell? ⟨G.bk id,k,none⟩)/\Al7 Y J G (Af post c9) w en w' r
def Al8 (P:Program) (Y:TypeId->Ty) (Gl:World->Prop) (yd:Yd) (f:FuncId) (args:List T) (c9:Env):Prop:=
 ∀(J:Oth) (G:Gh) (w:World) (vs:Array Value),J.Stable->(∀p H vi w,J p H vi w->Gl w)->(∀p H vi w',p<=yd.m->J p H vi w'->∃G':Gh,(∀F,c9.get 2 F≠.any->G'.bk F=G.bk F)/\Mem Y (λ_=>False) c9 w' G')->Pf P J yd->
  (∀b,w.heap.size<=b->G.vis b=0)->(∀b,b<w.heap.size->G.H b)->(∀b,G.H b->b<w.heap.size)->J 0 G.H G.vis w->Ac G w (λ_=>False) args vs.toList->
  Calls P f vs w λen w'=>Same w w'/\KeepV G.vis w w'/\∃H' vis' v,J yd.m H' vis' w'/\en=.returned v
def Aax (P:Program) (Y:TypeId->Ty) (Gl:World->Prop) (yd:Yd) (f:FuncId) (args:List T) (c9:Env) (el F c:Nat) (post:Env):Prop:=
 ∀(J:Oth) (G:Gh) (w:World) (vs:Array Value) (u:Value) (z:Option Nat),J.Stable->(∀p H vi w,J p H vi w->Gl w)->Pf P J yd->
  (∀b,w.heap.size<=b->G.vis b=0)->(∀b,G.H b->b<w.heap.size)->J (trN (c9.get 0 BIG)) G.H G.vis w->Mem Y (λ_=>False) c9 w G->Ac G w (λ_=>False) args vs.toList->XAt (Y el).size G w c9 el F c u z->
  Calls P f vs w λen w'=>en=.returned (.tuple #[])/\Same w w'/\KeepV G.vis w w'/\(∀b,b<w.heap.size->¬G.H b->(∀id,c9.get 2 id≠.any->G.bk id≠b)->z≠some b->w'.heap[b]?=w.heap[b]?)/\
   (∀id k,c9.get 2 id=live->c9.get (id+3) k=.any->w'.cell? ⟨G.bk id,k,none⟩=w.cell? ⟨G.bk id,k,none⟩)/\
   ∃G' u' z',G'.bk=G.bk/\(∀b,G.vis b<=G'.vis b)/\(∀b,b<w.heap.size->z≠some b->G'.vis b=G.vis b)/\(∀b,w'.heap.size<=b->G'.vis b=0)/\(∀b,b<w.heap.size->(G'.H b↔G.H b))/\(∀b,G'.H b->b<w'.heap.size)/\
    J (trN ((Af post c9).get 0 BIG)) G'.H G'.vis w'/\Mem Y (λ_=>False) (Af post c9) w' G'/\XAt (Y el).size G' w' (Af post c9) el F c u' z'/\∀b,z'=some b->w.heap.size<=b∨z=some b
def Jy:Res->Bool
 | .new (.yl _) _=>false
 | .new (.tok _) _=>false
 |_=>true
def Al9 (P:Program) (Y:TypeId->Ty) (Gl:World->Prop) (yd:Yd) (f:FuncId) (args:List T) (c9:Env) (post:Env):Res->Prop
 | .new (.tok el) [(F,c,_)]=>Aax P Y Gl yd f args c9 el F c post
 |_=>Al8 P Y Gl yd f args c9
def Does (P:Program) (Y:TypeId->Ty) (Gl:World->Prop) (yd:Yd) (f:FuncId) (args:List T) (c9:Env) (r:Res) (post:Env):Prop:=
 Ha P f/\bif Jy r then Aaw P Y Gl yd f args c9 r post else Al9 P Y Gl yd f args c9 post r
theorem Does.run {P:Program} {Y:TypeId->Ty} {Gl:World->Prop} {yd:Yd} {f:FuncId} {args:List T} {c9:Env} {r:Res} {post:Env} (h:Does P Y Gl yd f args c9 r post) (hr:Jy r=true):Aaw P Y Gl yd f args c9 r post:=by
 have:=h.2;grind
end
abbrev Fr (r:Option Nat):Fence:={ Fence.wide with round:=r }
structure Set (P:Program) (Y:TypeId->Ty) (Gl:World->Prop):Prop where
 y:YOK P Y
 gl:∀w w',Gl w->Below w.heap.size w w'->Gl w'
 mixed:P.follows .mixedOrders=true
def Afz {r:Option Nat} {n:Nat} {P:Program} {f:FuncId} {args:Array Value} {w:World} {R:Ending->World->Prop} (h:Calls P f args w R):CallsIn (Fr r) n P f args w R:=
 (callsIn_wide (n:=n)).2 h
def Nz {n:Nat} {P:Program} {f:FuncId} {args:Array Value} {w:World} {R:Ending->World->Prop} (h:CallsIn (Fr none) n P f args w R):Calls P f args w R:=
 (callsIn_wide (n:=n)).1 h
def Ala {r:Option Nat} {n m l f:Nat} {P:Program} {tmps:Array Value} {assign body:Code} {w:World} {R:Ending->World->Prop} (h:RoundIn Fence.wide m P l f tmps assign body w R):RoundIn (Fr r) n P l f tmps assign body w R:=
 ⟨trivial,λc cs _=>h.2 c cs (room_wide _)⟩
section
variable {P:Program} {Y:TypeId->Ty} {Gl:World->Prop} {X:Cx} {nt:Nat} {ds:List Deferred} {e:Env} {a:Act} {w:World} {G:Gh} {O:Nat->Prop} {Q:Exit->Act->World->Prop} {rd:Option Nat} {fu:Nat} {yd:Yd}
abbrev Cq (Y:TypeId->Ty) (X:Cx) (nt:Nat) (ds:List Deferred) (e:Env) (a:Act) (w:World):Prop:=∃G,Rel Y X nt ds e a w G
def Rel.after (R:Rel Y X nt ds e a w G) {w':World} {vis':Nat->Nat} (hb:Below w.heap.size w w') (hv:∀b,b<w.heap.size->vis' b=G.vis b) (hf:∀b,w'.heap.size<=b->vis' b=0):
  Rel Y X nt ds e a w' { G with vis:=vis' }/\∀x v,VOK G w X.fz Y e x v->VOK { G with vis:=vis' } w' X.fz Y e x v:=by
 have i7:∀b,G.vis b<=vis' b:=λb=>by
  rcases bL b w.heap.size with h|h
  ·grind
  ·rw[R.fresh b h];omega
 have z8:∀b,0<G.vis b->b<w.heap.size:=λb h=>by
  rcases bL b w.heap.size with h'|h'
  ·exact h'
  ·rw[R.fresh b h']at h;omega
 refine R.grow (w':=w') (G':={ G with vis:=vis' }) none (λ_ _ _=>rfl) ⟨hb.os,hb.tape,hb.output,hb.size⟩ (λb h _=>hb.block b h) (λb hb=>(by cases hb)) i7
  ⟨λb i hi=>bF (hb.block _ (z8 b (by omega))),λb h es c he=>by rw[hb.block _ (z8 b h)];exact he,Me λb h=>hb.block b h⟩ rfl rfl rfl (λid h=>hv _ (R.mem.box id h).2.1)
  (λk b h=>?_) R.tinj (λk h=>⟨h,λ_ h=>h⟩) (λk b _ h _=>⟨h,hb.block _ (R.tks k b h).2.1,hv _ (R.tks k b h).2.1⟩) hf (λb h=>hv b (aX h R.base)) (λb h=>hv b (R.hlt b h))
 obtain⟨h1,h2,h3,h4,h5⟩:=R.tks k b h;exact⟨h1,aX h2 hb.size,h3,by rw[hb.block _ h2];exact h4,h5,R.tlive k b h⟩
def Rel.adopt (R:Rel Y X nt ds e a w G) {d b:Nat} (hd:e.get 2 d=.any) (aq:d<FAR) (hb:X.base<=b) (hlt:b<w.heap.size) (hH:¬G.H b) (ux:∀id,e.get 2 id≠.any->G.bk id≠b) (cm:∀k,G.tk k≠some b)
  {st:T} (m8:st≠.any) (i8:∀G':Gh,G'.vis=G.vis->Bk G' w st b):
  ∃G',G'.vis=G.vis/\G'.bk d=b/\Rel Y X nt ds ((2,d,st)::e) a w G'/\∀x v,VOK G w X.fz Y e x v->VOK G' w X.fz Y ((2,d,st)::e) x v:=by
 obtain⟨G',hG⟩:∃G',({ G with bk:=λid=>if id=d then b else G.bk id }:Gh)=G':=⟨_,rfl⟩
 have d8:G'.vis=G.vis:=by grind
 have ig:G'.tk=G.tk:=by grind
 have ph:G'.bk d=b:=by subst hG;simp
 have la:∀id,id≠d->G'.bk id=G.bk id:=λid h=>by subst hG;simp[h]
 have mz:∀t k,t≠2->Env.get ((2,d,st)::e) t k=e.get t k:=λt k h=>Bb (λhh=>h hh.1.symm);have h2:∀k,Env.get ((2,d,st)::e) 2 k=if k=d then st else e.get 2 k:=λk=>by
  grind[Am]
 have s7:∀id,e.get 2 id≠.any->id≠d:=λid h hh=>h (by grind);obtain⟨R',lift⟩:=R.move (w':=w) (G':=G') (e':=(2,d,st)::e) ⟨λb=>by grind,.refl _ _,λ_ _=>rfl⟩ (.refl _) (by grind) (by grind) (λ_ _=>rfl) (λ_ _=>rfl) (λt=>mz 0 t (by decide))
  (λid h=>⟨la id (s7 id h),by grind⟩) (λk h=>by grind) (λk c _ hc _=>⟨by grind,rfl,by rw[d8]⟩)
  (λlift id d6=>by
   by_cases h:id=d
   ·subst h;refine .inr ⟨by grind,by omega,⟨λ_=>by omega,λbh=>absurd aq (fV.2 bh)⟩,λi5 v7 hh=>?_,λk=>by rw[ph,ig];exact cm k,by grind,λbh=>absurd aq (fV.2 bh),λk hk=>?_⟩
    ·grind
    ·rw[mz _ k (by omega)]at hk;exact absurd (R.mem.cells id k hk).1 (by rw[hd];exact λh=>Bc h.symm)
   grind)
  (λid k hk=>by
   rw[mz _ k (by omega)]at hk;rw[h2];split
   ·exact m8
   ·rw[(R.mem.cells id k hk).1];exact Bc)
  (λk c hc=>by
   rw[ig]at hc;obtain⟨q1,q2,q3,q4,q5⟩:=R.tks k c hc;exact⟨q1,q2,q3,q4,q5,(R.tlive k c hc).mono (λk hk=>by trivial) λid d6=>⟨by grind,la id (s7 id d6)⟩⟩)
  (λk k' c h h'=>by rw[ig]at h h';exact R.tinj k k' c h h') (λc hc=>by rw[d8];exact R.fresh c hc) (λc _=>by rw[d8]) (λc _=>by rw[d8])
 grind
theorem VOKs.rel {xs:List T} {vs:List Value} (h:VOKs G w O Y e xs vs) (hx:∀x∈xs,∀b y,x≠.may b y):Ac G w O xs vs/\∀id,id∈Bo xs->e.get 2 id≠.any:=by
 induction h with
 |nil=>exact⟨by trivial,λid h=>(by cases h)⟩
 |cons h1 h2 ih=>
  rename_i x v xs vs;obtain⟨g1,g2⟩:=ih λy hy=>hx y (aU _ hy);refine⟨by simp only[Ac];exact⟨v,vs,rfl,h1.rel,g1⟩,λid d6=>?_⟩;simp only[Bo,cP]at d6;exact d6.elim (h1.ids' (hx x aC) id) (g2 id)
theorem Ag0 (xs ys:List T):Bo (xs++ys)=Bo xs++Bo ys:=by
 induction xs with
 |nil=>rfl
 |cons x xs ih=>simp[Bo,ih]
def Rb {o:Oper} {f:Operand} {args:Array Operand} {ek:Array TypeId} {g:FuncId} {us cvs:Array Value} (ho:o.op=.call { callee:=.value f,args:=args,argTypes:=ek }) (hf:a.eval f=.func (.func g) us cvs)
  (lj:Ha P g):(execOp a.eval o).run P w=.ok (.enter g (us++args.map a.eval++cvs)) w:=by
 obtain⟨fn,h1,h2,h3⟩:=lj;have fm:fn.name≠ "runtime.NumGoroutine":=by grind
 have mv:fn.body≠none:=by grind
 simp[execOp,ho,resolve,hf,Deferred.ofValue,invoke,callFunc,h1,fm,mv]
def Avc {o:Oper} {r:Operand} {name:String} {args:Array Operand} {ek:Array TypeId} {g:FuncId} {t:TypeId} {v:Value} (ho:o.op=.call { callee:=.invoke r name,args:=args,argTypes:=ek }) (hf:a.eval r=.iface t v)
  (hm:∀w:World,(method (P.types.size+Made.depth) t v name).run P w=.ok (g,v) w) (lj:Ha P g):(execOp a.eval o).run P w=.ok (.enter g (#[v]++args.map a.eval++#[])) w:=by
 obtain⟨fn,h1,h2,h3⟩:=lj;have fm:fn.name≠ "runtime.NumGoroutine":=by grind
 have mv:fn.body≠none:=by grind
 have h0:(#[Value.iface t v]++args.map a.eval)[0]?=some (.iface t v):=by grind
 have hx:(args.map a.eval).extract 0 args.size=args.map a.eval:=by grind
 simp[execOp,ho,resolve,hf,invoke,h0,callMethod,hm,callFunc,h1,fm,mv,hx]
structure CallAs (P:Program) (a:Act) (o:Oper) (g:FuncId) (us:Array Value) (args:Array Operand) (vs:Array Value):Prop where
 nd:∀c,o.op≠.defer c
 ex:∀w:World,Ha P g->(execOp a.eval o).run P w=.ok (.enter g (us++args.map a.eval++vs)) w
def CallAs.value {o:Oper} {f:Operand} {args:Array Operand} {ek:Array TypeId} {g:FuncId} {us cvs:Array Value} (ho:o.op=.call { callee:=.value f,args:=args,argTypes:=ek }) (hf:a.eval f=.func (.func g) us cvs):CallAs P a o g us args cvs:=
 ⟨λc' h=>(by grind),λ_ lj=>Rb ho hf lj⟩
theorem CallAs.invoke {o:Oper} {r:Operand} {name:String} {args:Array Operand} {ek:Array TypeId} {g:FuncId} {t:TypeId} {v:Value} (ho:o.op=.call { callee:=.invoke r name,args:=args,argTypes:=ek }) (hf:a.eval r=.iface t v)
  (hm:∀w:World,(method (P.types.size+Made.depth) t v name).run P w=.ok (g,v) w):CallAs P a o g #[v] args #[]:=
 ⟨λc' h=>(by grind),λ_ lj=>Avc ho hf hm lj⟩
theorem Tu {o:Oper} {g:FuncId} {args:Array Value} (hd:∀c,o.op≠.defer c) (d7:(execOp a.eval o).run P w=.ok (.enter g args) w) {K:Act->World->Prop} {R:Ending->World->Prop} (hc:Calls P g args w R)
  (hR:∀en w',R en w'->(∀v,en=.returned v->K (a.put o.dst v) w')/\(∀ch,en=.panicked ch->Q (.panic ch) a w')/\en≠.outgrown):o.wpIn (Fr rd) fu P a w K Q:=by
 refine⟨λ_ _=>trivial,?_⟩;rw[dK _ _ _ hd,d7,Oper.uponIn_enter];refine⟨λh=>by trivial,(Afz hc).mono λen w' h=>?_⟩;grind
def Avd {o:Oper} {v:Value} {w':World} (hd:∀c,o.op≠.defer c) (d7:(execOp a.eval o).run P w=.ok (.value v) w') {K:Act->World->Prop} (hK:K (a.put o.dst v) w'):o.wpIn (Fr rd) fu P a w K Q:=by
 refine⟨λ_ _=>trivial,?_⟩;rw[dK _ _ _ hd,d7];exact hK
def OpR.wp {o:Oper} {out:Out} (hd:∀c,o.op≠.defer c) (h:OpR P Y X nt ds e a w o out) {K:Act->World->Prop} (hK:∀v w' G',(∀p∈out.hyp,p)->Rel Y X nt ds (out.wr++e) a w' G'->VOK G' w' X.fz Y (out.wr++e) out.val v->K (a.put o.dst v) w'):o.wpIn (Fr rd) fu P a w K Q:=by
 obtain⟨nx,v,w',G',h1,h2,h3,h4,h5⟩:=h;refine⟨λ_ _=>trivial,?_⟩;rw[dK _ _ _ hd,h1];rcases h2 with rfl|⟨rfl,rfl⟩
 ·exact hK v w' G' h3 h4 h5
 ·exact hK undef w' G' h3 h4 h5
def Tv {base:Nat} {x:T} {v:Value} (h:Kj base G.vis w x v) (hx:∀sz n f,x≠.own sz n f) (gq:∀el sz n f,x≠.tkd el sz n f):VOK G w O Y e x.dem v:=by
 cases x with
 |d x=>exact VOK.dem (Av.weak (λ_ h=>h.elim) h)
 |tup xs=>
  obtain⟨vs,rfl,h1,h2⟩:=h;refine .plain ?_ rfl rfl trivial;simp only[T.dem,Aa];refine⟨vs,rfl,by grind,λj x v hj hv=>?_⟩;grind[Av.dem,Av.weak]
 |fn f p q=>
  obtain⟨h1,h2⟩:=h;exact .plain (Aa.pure (G:=Gh0 G.vis) (G':=G) rfl h1 h2) (Afx h1) rfl trivial
 |ag xs=>
  obtain⟨h1,h2⟩:=h;refine .plain (?_:Aa G w O (.ag xs) v) (Xd h1) rfl trivial;grind[Aa,Ac.pure,Gh0]
 |own sz n f=>grind
 |tkd el sz n f=>grind
 |_=>exact h.elim
def Ave {vis vis':Nat->Nat}:∀{xs:List C} {vs:List Value},Adk xs=true->Aw vis w xs vs->Aw vis' w xs vs:=by
 intro xs vs hx h;refine⟨h.1,λj c v hc hv=>?_⟩;have:∃u,c=.v u:=by
  clear h hv
  induction xs generalizing j with
  |nil=>simp at hc
  |cons x xs ih=>
   cases x with
   |v u=>
    cases j with
    |zero=>grind
    |succ j=>exact ih hx j (by trivial)
   |s _ _ _=>trivial
   |m _ _ _ _=>trivial
   |p _=>trivial
   |i _ _ _=>trivial
   |u=>trivial
 obtain⟨u,rfl⟩:=this;have:=h.2 j _ v hc hv;cases this with
 |v _ h=>exact .v _ h
def Alb {vis vis':Nat->Nat} {x:D} {v:Value} (hx:x.flat=true) (h:Av vis w (λ_=>False) x v):Av vis' w (λ_=>False) x v:=by
 cases x with
 |c c=>
  cases c with
  |v u=>cases h with|v _ h=>exact Rep.v _ h
  |s _ _ _=>trivial
  |m _ _ _ _=>trivial
  |p _=>trivial
  |i _ _ _=>trivial
  |u=>trivial
 |agg xs=>
  obtain⟨vs,hv,hr⟩:=h;exact⟨vs,hv,Ave (vis:=vis) hx hr⟩
 |rd xs=>trivial
theorem Alc:∀{xs:List D},Vq xs=true->∀(j:Nat) x,xs[j]?=some x->x.flat=true
 | [],_,j,x,h=>by simp at h
 |y::xs,hx,j,x,h=>by
  simp only[Vq,aE]at hx;cases j with
  |zero=>grind
  |succ j=>exact Alc hx.2 j x (by trivial)
end
theorem Ald:∀{xs ys:List C},Fz xs ys->xs.length=ys.length/\∀(j:Nat) y,ys[j]?=some y->∃x,xs[j]?=some x/\EqC x y
 | [],[],_=>⟨rfl,λj y h=>(by simp at h)⟩
 | [],_::_,h=>h.elim
 |_::_,[],h=>h.elim
 |x::xs,y::ys,⟨h1,h2⟩=>by
  obtain⟨e1,e2⟩:=Ald h2;grind
theorem Oa {xs ys:List C} (h:xs=ys∨Fz xs ys):xs.length=ys.length/\∀(j:Nat) y,ys[j]?=some y->∃x,xs[j]?=some x/\EqC x y:=by
 rcases h with rfl|h
 ·exact⟨rfl,λj y hj=>⟨y,hj,.inl rfl⟩⟩
 ·exact Ald h
theorem Aay {vis:Nat->Nat} {w:World} {x y:C} {v:Value} (h:EqC x y) (hr:Rep vis w x v):Rep vis w y v:=by
 rcases h with rfl|⟨rfl,g,f,rfl⟩|⟨a,n,f,b,m,g,rfl,rfl,h1,h2⟩
 ·exact hr
 ·rw[Le hr];exact .nil _ _
 ·subst h1;cases hr with
  |nil=>exact .nil _ _
  |e=>exact .e _ _ _
  |s _ n f b off cap sz u a1 a2 a3 a4 a5 a6=>
   exact .s _ n g b off cap sz u a1 a2 (λi hi=>by grind) a4 (λi j c hi hj=>a5 i j c hi (by grind)) (λi j c hi hj=>a6 i j c hi (by grind))
def Ale {vis:Nat->Nat} {w:World} {xs ys:List C} {vs:List Value} (h:xs=ys∨Fz xs ys) (hr:Aw vis w xs vs):Aw vis w ys vs:=by
 obtain⟨h1,h2⟩:=Oa h;refine⟨by rw[<-h1];exact hr.1,λj y v hy hv=>?_⟩;obtain⟨x,hx,qw⟩:=h2 j y hy;exact Aay qw (hr.2 j x v hx hv)
def Avf {kn:Nat} {es:Array MapEntry} {m9:Nat} {dom bv:List Int->Bool} {val val':List Int->List C} (h:MEq dom val bv val') (hk:Nr kn es m9 dom):Nr kn es m9 bv:=
 ⟨λi e he=>by obtain⟨k,h1,h2⟩:=hk.1 i e he;exact⟨k,h1,by rw[<-(h k).1];exact h2⟩,λk hd=>hk.2.1 k (by rw[(h k).1];exact hd),hk.2.2⟩
def Ag1 {vis:Nat->Nat} {w:World} {kn:Nat} {ag:Bool} {es:Array MapEntry} {m9:Nat} {dom bv:List Int->Bool} {val val':List Int->List C} (h:MEq dom val bv val') (hk:Pc vis w kn ag dom val es m9):Pc vis w kn ag bv val' es m9:=
 ⟨Avf h hk.1,λi e k he cw=>by
  obtain⟨h1,h2⟩:=hk.2 i e k he cw;obtain⟨k',h3,h4⟩:=hk.1.1 i e he;rw[cw]at h3;obtain rfl:=bS h3;exact⟨h1,Ale ((h k).2 h4) h2⟩⟩
theorem Aaz {vis:Nat->Nat} {w:World} {x y:C} {v:Value} (h:∀p∈leC x y,p) (hr:Rep vis w x v):Rep vis w y v:=by
 unfold leC at h;split at h
 ·grind[List.mem_cons_self]
 ·grind[List.mem_cons_self]
 ·grind[List.mem_cons_self]
 ·have:=h _ aC;subst this;rw[Le hr];exact .nil _ _
 ·grind[List.mem_cons_self]
 ·rename_i g n f g' m f';obtain⟨h1,h2⟩:SEq n f m f':=h _ aC;subst h1;cases hr with
  |nil=>exact .nil _ _
  |e=>exact .e _ _ _
  |s _ n f b off cap sz u a1 a2 a3 a4 a5 a6=>
   exact .s _ n f' b off cap sz u a1 a2 (λi hi=>by grind[Oa]) a4
    (λi j c hi hj=>by grind[Oa])
    (λi j c hi hj=>by grind[Oa,Aay])
 ·grind[List.mem_cons_self]
 ·rename_i t ag xs t' mq ys;cases hb:(ag==mq) with
  |false=>grind[List.mem_cons_self]
  |true=>
   rw[hb]at h;have e1:t=t':=h _ aC;have hm:Fz xs ys:=h _ (.tail _ aC);have e2:ag=mq:=by grind
   subst e1;subst e2;cases hr with
   |i _ _ _ v hs hl hr=>
    have h2:=Ale (.inr hm) (⟨hl,hr⟩:Aw vis w xs (Gx ag v));exact .i _ _ _ v hs h2.1 h2.2
 ·rename_i kn ag dom val wg mq bv val';cases hb:(kn.beq wg&&ag==mq) with
  |false=>grind[List.mem_cons_self]
  |true=>
   rw[hb]at h;have hm:MEq dom val bv val':=h _ aC;simp only[aE]at hb;have e1:=aG hb.1;have e2:ag=mq:=by grind
   subst e1;subst e2;cases hr with
   |m _ _ _ _ b es cl c1 c2 c3 c4 c5=>
    obtain⟨h1,h2⟩:=Ag1 hm ⟨c3,λi en k he hk=>⟨(c4 i en k he hk).1,(c4 i en k he hk).2,λj c u hc hu=>c5 i j en k c u he hk hc hu⟩⟩;exact .m _ _ _ _ b es cl c1 c2 h1 (λi en k he hk=>⟨(h2 i en k he hk).1,(h2 i en k he hk).2.1⟩) (λi j en k c u he hk hc hu=>(h2 i en k he hk).2.2 j c u hc hu)
 ·exact .u _ (Lf hr)
 grind[List.mem_cons_self]
def Alf {xs ys:List C} (h:∀p∈Zs xs ys,p):xs.length=ys.length/\∀(j:Nat) y,ys[j]?=some y->∃x,xs[j]?=some x/\∀p∈leC x y,p:=by
 induction xs generalizing ys with
 |nil=>
  cases ys with
  |nil=>grind
  |cons y ys=>exact (h False aC).elim
 |cons x xs ih=>
  cases ys with
  |nil=>exact (h False aC).elim
  |cons y ys=>
   obtain⟨h1,h2⟩:=ih (ys:=ys) λp hp=>h p (aM _ hp);refine⟨by simp[h1],λj z hj=>?_⟩;cases j with
   |zero=>simp only[bR,aA]at hj;subst hj;exact⟨x,rfl,λp hp=>h p (aJ _ hp)⟩
   |succ j=>grind
theorem Ag2 {vis:Nat->Nat} {w:World} {O:Nat->Prop} {x y:D} {v:Value} (h:∀p∈leD x y,p) (hr:Av vis w O x v):Av vis w O y v:=by
 unfold leD at h;split at h
 ·exact Aaz h hr
 ·obtain⟨vs,rfl,hl,hc⟩:=hr;obtain⟨h1,h2⟩:=Alf h;refine⟨vs,rfl,by omega,λj c u hj hu=>?_⟩;grind[Aaz]
 ·obtain⟨b,off,rfl,hc,hb⟩:=hr;obtain⟨h1,h2⟩:=Alf h;refine⟨b,off,rfl,λj c hj=>?_,by grind⟩;grind[Aaz]
 grind[List.mem_cons_self]
theorem Alg {vis:Nat->Nat} {w:World} {O:Nat->Prop}:∀{xs ys:List D} {vs:List Value},(∀p∈leDs xs ys,p)->Jt vis w O xs vs->Jt vis w O ys vs
 | [],[],_,_,r=>r
 | [],_::_,_,h,_=>(h False aC).elim
 |_::_,[],_,h,_=>(h False aC).elim
 |x::xs,y::ys,[],_,r=>by have:=r.1;simp at this
 |x::xs,y::ys,v::vs,h,r=>by
  have r':Jt vis w O xs vs:=⟨by have:=r.1;grind,λj z u hz hu=>r.2 (j+1) z u (by trivial) (by trivial)⟩
  have h1:=Ag2 (λp hp=>h p (aJ _ hp)) (r.2 0 x v rfl rfl);have h2:=Alg (λp hp=>h p (aM _ hp)) r';refine⟨by simp[h2.1],λj z u hz hu=>?_⟩;cases j with
  |zero=>grind
  |succ j=>exact h2.2 j z u (by trivial) (by trivial)
def Rc {b:Bool} {ps:List Prop} (h:∀p∈(bif b then ps else [False]),p):b=true/\∀p∈ps,p:=by
 grind[List.mem_cons_self]
def Ag3 {G:Gh} {w:World} {O:Nat->Prop} {x y:T} {v:Value} (lj:∀f a b,x=.fn f a b->(∀{ys:List T} {vs:List Value},(∀p∈Cj a ys,p)->Ac G w O a vs->Ac G w O ys vs)/\∀{ys:List T} {vs:List Value},(∀p∈Cj b ys,p)->Ac G w O b vs->Ac G w O ys vs)
  (l8:∀xs,x=.ag xs->∀{ys:List T} {vs:List Value},(∀p∈Cj xs ys,p)->Ac G w O xs vs->Ac G w O ys vs) (h:∀p∈leT x y,p) (hr:Aa G w O x v):Aa G w O y v:=by
 unfold leT at h;split at h
 ·trivial
 ·grind[Aa,Ag2]
 ·obtain⟨hb,_⟩:=Rc h;grind[Nat.eq_of_beq_eq_true]
 ·exact hr
 ·rename_i f a b f' a' b';have hb:f=f':=h _ aC;replace h:∀p∈Cj a a'++Cj b b',p:=λp hp=>h p (aU _ hp);subst hb;simp only[Aa]at hr ⊢;obtain⟨us,vs,h1,h2,h3⟩:=hr;exact⟨us,vs,h1,(lj _ _ _ rfl).1 (λp hp=>h p (aJ _ hp)) h2,(lj _ _ _ rfl).2 (λp hp=>h p (aM _ hp)) h3⟩
 ·grind[Nat.eq_of_beq_eq_true,List.mem_cons_self]
 ·obtain⟨hb,h⟩:=Rc h;grind[Nat.eq_of_beq_eq_true]
 ·obtain⟨hb,h⟩:=Rc h;grind[Nat.eq_of_beq_eq_true]
 ·grind[List.mem_cons_self]
 ·grind[Aa]
 ·trivial
 ·trivial
 ·trivial
 ·trivial
 ·trivial
 ·trivial
 grind[List.mem_cons_self]
mutual
theorem Ab0 {G:Gh} {w:World} {O:Nat->Prop}:∀{x y:T} {v:Value},(∀p∈leT x y,p)->Aa G w O x v->Aa G w O y v
 | .fn f a b,_,_,h,hr=>Ag3 (λf' a' b' hx=>by cases hx;exact⟨λh r=>Il h r,λh r=>Il h r⟩) (λ_ hx=>by cases hx) h hr
 | .ag xs,_,_,h,hr=>Ag3 (λ_ _ _ hx=>by cases hx) (λjl hx=>by cases hx;exact λh r=>Il h r) h hr
 | .d _,_,_,h,hr| .tup _,_,_,h,hr| .addr _ _,_,_,h,hr| .may _ _,_,_,h,hr| .any,_,_,h,hr| .tok _,_,_,h,hr| .arr _ _,_,_,h,hr| .elt _ _ _ _,_,_,h,hr| .mp _,_,_,h,hr| .it _,_,_,h,hr| .nx _ _,_,_,h,hr
 | .yl _,_,_,h,hr| .tpl _,_,_,h,hr| .pt _,_,_,h,hr| .own _ _ _,_,_,h,hr| .tkd _ _ _ _,_,_,h,hr| .arrc _ _ _ _,_,_,h,hr| .mapc _ _ _ _ _,_,_,h,hr| .itc _ _,_,_,h,hr| .mitc _ _ _ _ _ _,_,_,h,hr| .tr _,_,_,h,hr| .arro _ _ _ _ _,_,_,h,hr=>Ag3 (λ_ _ _ hx=>by cases hx) (λ_ hx=>by cases hx) h hr
theorem Il {G:Gh} {w:World} {O:Nat->Prop}:∀{xs ys:List T} {vs:List Value},(∀p∈Cj xs ys,p)->Ac G w O xs vs->Ac G w O ys vs
 | [],[],_,_,r=>r
 | [],_::_,_,h,_=>by grind[Cj,List.mem_cons_self]
 |_::_,[],_,h,_=>by grind[Cj,List.mem_cons_self]
 |x::xs,y::ys,vs,h,r=>by
  unfold Cj at h;simp only[Ac]at r ⊢;obtain⟨v,us,h1,h2,h3⟩:=r;exact⟨v,us,h1,Ab0 (λp hp=>h p (aJ _ hp)) h2,Il (λp hp=>h p (aM _ hp)) h3⟩
end
section
variable {P:Program} {Y:TypeId->Ty} {Gl:World->Prop} {X:Cx} {nt:Nat} {ds:List Deferred} {e:Env} {a:Act} {w:World} {G:Gh} {O:Nat->Prop} {Q:Exit->Act->World->Prop} {rd:Option Nat} {fu:Nat} {yd:Yd}
theorem Ag4:∀{xs ys:List T} {g:Nat->Nat->T} {gv:Gv} {r r':List (Nat×Nat)},(Fh xs).run g r=some ((ys,gv),r')->∀x∈xs,∀b y,x≠.may b y
 | [],_,_,_,_,_,_,x,hx=>(by cases hx)
 |x::xs,ys,g,gv,r,r',h,z,hz=>by
  simp only[Fh]at h;obtain⟨p,r1,h1,h2⟩:=Ah h;obtain⟨q,r2,h3,h4⟩:=Ah h2;cases hz with
  |head=>
   grind[Oy,Jc]
  |tail _ hz=>exact Ag4 h3 z hz
def VOKs.lift {G':Gh} {w':World} {e':Env} {xs:List T} {vs:List Value} (h:VOKs G w O Y e xs vs) (l:∀x v,VOK G w O Y e x v->VOK G' w' O Y e' x v):VOKs G' w' O Y e' xs vs:=by
 induction h with
 |nil=>exact .nil
 |cons h1 _ ih=>exact .cons (l _ _ h1) ih
def Alh {o:Oper} {c:Call} (ho:o.op=.call c):∀c,o.op≠.defer c:=by grind
def Ag5 (S:Set P Y Gl) (hX:∀p H vi w,X.J p H vi w->Gl w) (R:Rel Y X nt ds e a w G) {o:Oper} {args:Array Operand} {us vs:Array Value}
  {g:FuncId} {fst f8 ys xs:List T} (ho:CallAs P a o g us args vs) (hf:VOK G w X.fz Y e (.fn g fst f8) (.func (.func g) us vs)) (jf:VOKs G w X.fz Y e ys (args.toList.map a.eval)) {ps:List Prop} {W:Env} {r r':List (Nat×Nat)}
  (hc:(Fh (fst++ys++f8)).run e.get r=some ((xs,ps,W),r')) (de:∀p∈ps,p) {o9:Res} (ck:Computes P Gl g xs o9):
  ∃G' av,Rel Y X nt ds (W++e) a w G'/\(∀b,b<w.heap.size->G.vis b<=G'.vis b)/\Cf e W/\(execOp a.eval o).run P w=.ok (.enter g av) w/\
   Calls P g av w λen w'=>Below w.heap.size w w'/\Ik G'.vis w en w' o9:=by
 obtain⟨hW,jn⟩:=Pe (Y:=Y) (X:=X) (nt:=nt) (ds:=ds) (a:=a) (w:=w) hc;obtain⟨G',R',lift,d8,_⟩:=Lg R hW;have ae:=(lift _ _ hf).rel;simp only[Aa]at ae;obtain⟨lu,vt,hv,h1,h2⟩:=ae;simp only[iI,gX]at hv;obtain⟨rfl,rfl⟩:=hv;have hys':VOKs G' w X.fz Y (W++e) ys (args.toList.map a.eval):=jf.lift lift;obtain⟨h3,h4⟩:=hys'.rel λx hx=>Ag4 hc x (aJ _ (aM _ hx));have v8:=(lift _ _ hf).ids;have f7:Ac G' w X.fz (fst++ys++f8) (us++args.map a.eval++vs).toList:=by
  have:=(h1.app h3).app h2;simpa using this
 have hx:=jn hW (λ_ h=>h) de R' f7 (λid d6=>by
  rw[Ag0,Ag0]at d6;simp only[cP]at d6;rcases d6 with (d6|d6)|d6
  ·exact v8 id (by grind[Aj])
  ·grind
  ·exact v8 id (by grind[Aj]))
 exact⟨G',_,R',λb _=>d8 b,hW,ho.ex w ck.1,ck.2 G'.vis w _ R'.fresh (hX _ _ _ _ R'.jj) hx⟩
theorem Avg (S:Set P Y Gl) (hX:∀p H vi w,X.J p H vi w->Gl w) (R:Rel Y X nt ds e a w G) {o:Oper} {args:Array Operand} {us vs:Array Value}
  {g:FuncId} {fst f8 ys xs:List T} (ho:CallAs P a o g us args vs) (hf:VOK G w X.fz Y e (.fn g fst f8) (.func (.func g) us vs)) (jf:VOKs G w X.fz Y e ys (args.toList.map a.eval)) {gv:Gv} {r r':List (Nat×Nat)}
  (hc:(Fh (fst++ys++f8)).run e.get r=some ((xs,gv),r')) (de:∀p∈gv.1,p) {o9:Res} (ck:Computes P Gl g xs o9) {bs:List Prop} {d9:Orc} {d:Done} {r1 r2:List (Nat×Nat)}
  (hd:(Zz Y o.dst bs (Computes P Gl g xs o9) gv d9 o9).run e.get r1=some (d,r2)) {K:Act->World->Prop}
  (hK:∀vc hyp val wr o',d=.go vc hyp val wr o'->∀v w' G',(∀p∈hyp,p)->Rel Y X nt ds (wr++e) a w' G'->VOK G' w' X.fz Y (wr++e) val v->K (a.put o.dst v) w')
  (hP:∀vc v wr o',d=.pan vc v wr o'->∀w' G',Rel Y X nt ds (wr++e) a w' G'->Q (.panic [{ v,recovered:=false }]) a w'):o.wpIn (Fr rd) fu P a w K Q:=by
 obtain⟨ps,W⟩:=gv;obtain⟨G',av,R',d8,hW,d7,m6⟩:=Ag5 S hX R ho hf jf hc de ck;refine Tu ho.nd d7 m6 λen w' ⟨p8,ef⟩=>?_
 -- plain answers: the objects stay ours
 have flat:∀{vis':Nat->Nat},(∀b,w'.heap.size<=b->vis' b=0)->Rel Y X nt ds e a w' { G with vis:=λb=>if b<w.heap.size then G.vis b else vis' b }:=λ{vis'} hf=>
  (R.after (vis':=λb=>if b<w.heap.size then G.vis b else vis' b) p8 (λb hb=>bG hb) (λb hb=>by rw[bI (by have:=p8.size;omega)];grind)).1
 unfold Zz at hd;split at hd
 ·rename_i sz n f _;obtain⟨out,r3,h1,h2⟩:=Ah hd;simp only[M.run,aA,aD]at h2;obtain⟨rfl,_⟩:=h2;obtain⟨dd,w7,hdd,aq,rfl⟩:=Je h1;obtain⟨v,vis',rfl,bq,cj,b,cs,t,z,c1,c3,c4,c5,c6,c7,cz,c8⟩:=ef;refine⟨λv hv=>?_,λch dx=>(by cases dx),λhh=>(by cases hh)⟩;simp only[cB]at hv;subst hv;obtain⟨R2,dz⟩:=R'.after p8 bq cj;have hlt:∀id,Env.get (W++e) 2 id≠.any->G'.bk id<w.heap.size:=λid h=>(R'.mem.box id h).2.1;obtain⟨G3,q1,q2,R3,ot⟩:=R2.adopt (d:=dd) (b:=b) (by
    rcases get_frz (t:=2) (k:=dd) hW with ⟨x,_,hm,_⟩|h
    ·obtain⟨_,_,hx⟩:=hW _ _ _ hm;rcases hx with ⟨_,_,_,hx|⟨_,_,_,_,hx,_⟩,_⟩|⟨_,_,_,_,hx,_⟩<;>rw[hdd]at hx<;>cases hx
    grind) aq (bJ R.base c3) c4 (λh=>by have:=R'.hlt b h;omega) (λid d6 hh=>by grind) (λk hk=>by have:=(R'.tks k b hk).2.1;omega)
   (st:=.arrc false sz n f) (by simp) (λG4 hv=>⟨⟨cs,t,z,c7,cz,by grind⟩,c6,λhh=>(by cases hh),λ_=>by grind⟩)
  refine hK _ _ _ _ _ rfl _ w' G3 (λ_ h=>(by cases h)) R3 (VOK.ids_used (id:=dd) (by simp only[Aa];rw[q2];exact c1.imp id λ⟨cap,d1,d2,d3,d4⟩=>⟨cap,d1,d2,d3,cs,t,z,c7,d4⟩) trivial rfl rfl ?_);grind[Am]
 ·rename_i el sz n f _;obtain⟨j9,hd⟩:=Al hd;have j9:=aG j9;subst j9;obtain⟨out,r3,h1,h2⟩:=Ah hd;simp only[M.run,aA,aD]at h2;obtain⟨rfl,_⟩:=h2;obtain⟨dd,w7,hdd,rfl⟩:=Aai h1;obtain⟨v,vis',rfl,bq,cj,i6,i9,l7⟩:=ef;refine⟨λv hv=>?_,λch dx=>(by cases dx),λhh=>(by cases hh)⟩;simp only[cB]at hv;subst hv;obtain⟨R2,dz⟩:=R'.after p8 bq cj;have hdd':Env.get (W++e) 1 dd=.any:=by grind[get_frz]
  have key:∀tb:Option Nat,(∀b,tb=some b->w.heap.size<=b/\b<w'.heap.size/\∃cs t,w'.heap[b]?=some (.cells cs t (0,0)))->
    (v=.slice none 0 0∨(∃a,v=.slice a n n)∨∃b xs,tb=some b/\v.ownBlock=some b/\w'.ownsRow 0 el (Y el).size v n xs/\vis' b=n*(Y el).size)->K (a.put o.dst v) w':=λtb htb l7=>by
   obtain⟨f1,f2⟩:=Mf R2 (w':=w') (vis':=vis') (tb:=tb) (el:=el) (d:=dd) (kd:=none) none hdd' (.refl _) (λ_ _ _=>rfl) (λb hb=>(by cases hb)) (λ_=>aI _) (.refl _ _)
    (λ_ _=>rfl) (λb hb=>by
     obtain⟨q1,q2,q3⟩:=htb b hb;have hb:=R.base;refine⟨by omega,q2,λh=>?_,q3,λid d6 hh=>?_,λk _ hk=>?_⟩
     ·have:=R'.hlt b h;omega
     ·have:=(R'.mem.box id d6).2.1;grind
     ·have:=(R'.tks k b hk).2.1;omega) (λ_ _ _ _=>⟨rfl,rfl⟩) R2.fresh (λ_ _=>rfl) (λ_ _=>rfl)
   refine hK _ _ _ _ _ rfl _ w' _ (λ_ h=>(by cases h)) f1 (Mg (kd:=none) (d:=dd) (el:=el) (e:=W++e) ?_ ⟨i9,?_⟩)
   ·cases i6 with
    |nil=>exact .nil _ _
    |e=>exact .e _ _ _
    |s _ n f b off cap sz u a1 a2 a3 a4 a5 a6=>exact .s _ n f b off cap sz u a1 a2 a3 a4 a5 a6
   grind
  rcases l7 with h|h|⟨b,xs,g1,g2,g3,g4,g5,g6⟩
  ·exact key none (λb hb=>(by cases hb)) (.inl h)
  ·exact key none (λb hb=>(by cases hb)) (.inr (.inl h))
  ·exact key (some b) (λb' fj=>by grind) (.inr (.inr ⟨b,xs,rfl,g4,g5,g6⟩))
 ·rename_i x _;simp only[M.run,Ajs,aA,aD]at hd;obtain⟨rfl,_⟩:=hd;obtain⟨v,vis',rfl,bq,cj,ou⟩:=ef;refine⟨λv hv=>?_,λch dx=>(by cases dx),λhh=>(by cases hh)⟩;simp only[cB]at hv;subst hv;cases lx:x.flat with
  |true=>
   have h4:Av (λb=>if b<w.heap.size then G.vis b else vis' b) w' (λ_=>False) x v:=Alb lx ou;refine hK _ _ _ _ _ rfl _ w' _ (λ_ h=>(by cases h)) (by rw[lx];exact flat cj) ?_;grind[VOK.dem,Av.weak]
  |false=>
   obtain⟨R2,dz⟩:=R'.after p8 bq cj;refine hK _ _ _ _ _ rfl _ w' _ (λ_ h=>(by cases h)) (by rw[lx];exact R2) ?_;rw[lx];exact VOK.dem (Av.weak (λ_ h=>h.elim) ou)
 ·rename_i jl _;simp only[M.run,Ajs,aA,aD]at hd;obtain⟨rfl,_⟩:=hd;obtain⟨v,vis',rfl,bq,cj,ou⟩:=ef;refine⟨λv hv=>?_,λch dx=>(by cases dx),λhh=>(by cases hh)⟩;simp only[cB]at hv;subst hv;cases lx:Vq jl with
  |true=>
   have h4:Kj w.heap.size (λb=>if b<w.heap.size then G.vis b else vis' b) w' (.tup jl) v:=by
    obtain⟨vs,g1,g2,g3⟩:=ou;exact⟨vs,g1,g2,λj x u hx hu=>Alb (Alc lx j x hx) (g3 j x u hx hu)⟩
   refine hK _ _ _ _ _ rfl _ w' _ (λ_ h=>(by cases h)) (by rw[lx];exact flat cj) ?_;rw[lx];exact Tv (G:={ G with vis:=λb=>if b<w.heap.size then G.vis b else vis' b }) h4 (λ_ _ _ hh=>by cases hh) (λ_ _ _ _ hh=>by cases hh)
  |false=>
   obtain⟨R2,dz⟩:=R'.after p8 bq cj;refine hK _ _ _ _ _ rfl _ w' _ (λ_ h=>(by cases h)) (by rw[lx];exact R2) ?_;rw[lx];exact Tv (G:={ G' with vis:=vis' }) (x:=.tup jl) ou (λ_ _ _ hh=>by cases hh) (λ_ _ _ _ hh=>by cases hh)
 ·rename_i f p q _;simp only[M.run,aA,aD]at hd;obtain⟨rfl,_⟩:=hd;obtain⟨v,vis',rfl,bq,cj,ou⟩:=ef;refine⟨λv hv=>?_,λch dx=>(by cases dx),λhh=>(by cases hh)⟩;simp only[cB]at hv;subst hv;obtain⟨R2,dz⟩:=R'.after p8 bq cj;exact hK _ _ _ _ _ rfl _ w' _ (λ_ h=>(by cases h)) R2 (Tv (G:={ G' with vis:=vis' }) (x:=.fn f p q) ou (λ_ _ _ hh=>by cases hh) (λ_ _ _ _ hh=>by cases hh))
 ·rename_i xs2 _;simp only[M.run,aA,aD]at hd;obtain⟨rfl,_⟩:=hd;obtain⟨v,vis',rfl,bq,cj,ou⟩:=ef;refine⟨λv hv=>?_,λch dx=>(by cases dx),λhh=>(by cases hh)⟩;simp only[cB]at hv;subst hv;obtain⟨R2,dz⟩:=R'.after p8 bq cj;exact hK _ _ _ _ _ rfl _ w' _ (λ_ h=>(by cases h)) R2 (Tv (G:={ G' with vis:=vis' }) (x:=.ag xs2) ou (λ_ _ _ hh=>by cases hh) (λ_ _ _ _ hh=>by cases hh))
 ·trivial
 ·trivial
 ·rename_i v _;simp only[M.run,aA,aD]at hd;obtain⟨rfl,_⟩:=hd;simp only[Ik]at ef;subst ef;refine⟨λv hv=>(by cases hv),λch dx=>?_,λhh=>(by cases hh)⟩;simp only[Ending.panicked.injEq]at dx;subst dx;exact hP _ _ _ _ rfl w' _ (flat (vis':=λ_=>0) (λ_ _=>rfl))
end
section
variable {P:Program} {Y:TypeId->Ty} {Gl:World->Prop} {X:Cx} {nt:Nat} {ds:List Deferred} {e:Env} {a:Act} {w:World} {G:Gh} {O:Nat->Prop} {Q:Exit->Act->World->Prop} {rd:Option Nat} {fu:Nat} {yd:Yd}
structure Sur (P:Program) (Gl:World->Prop) (X:Cx) (yd:Yd):Prop where
 gl:∀p H vi w,X.J p H vi w->Gl w
 ok:Pf P X.J yd
 fz:yd.m=0∨∀b,¬X.fz b
theorem Avh (U:Sur P Gl X yd) (R:Rel Y X nt ds e a w G) {o:Oper} {fo:Operand} {args:Array Operand} {ek:Array TypeId} (ho:o.op=.call { callee:=.value fo,args:=args,argTypes:=ek })
  {l n:Nat} {ys xs:List T} (hf:VOK G w X.fz Y e (.yl l) (a.eval fo)) (jf:VOKs G w X.fz Y e ys (args.toList.map a.eval)) {ps:List Prop} {W:Env} {r r':List (Nat×Nat)}
  (hc:(Fh ys).run e.get r=some ((xs,ps,W),r')) (de:∀p∈ps,p) (nr:Du xs=true) (hn:e.get 0 BIG=.tr n) (hl:l=yd.l) (hm:n<yd.m) (hs:n<=yd.s) (i7:∀p∈Cj xs (yd.ys n),p) (hpy:Du (yd.ys n)=true)
  {K:Act->World->Prop} (hK:∀v w' G',Rel Y X nt ds ((0,BIG,.tr (n+1))::W++e) a w' G'->VOK G' w' X.fz Y ((0,BIG,.tr (n+1))::W++e) (B (n != yd.s)) v->K (a.put o.dst v) w'):o.wpIn (Fr rd) fu P a w K Q:=by
 obtain⟨hW,jn⟩:=Pe (Y:=Y) (X:=X) (nt:=nt) (ds:=ds) (a:=a) (w:=w) hc;obtain⟨G',R',lift,d8,_⟩:=Lg R hW;have ae:=hf.rel;simp only[Aa]at ae;obtain⟨h3,h4⟩:=(jf.lift lift).rel λx hx=>Ag4 hc x hx;have hx:=jn hW (λ_ h=>h) de R' h3 h4;have hx:=Il i7 hx;have hx:Ac (Gh0 G'.vis) w (λ_=>False) (yd.ys n) (args.map a.eval).toList:=by
  have:=Ac.pure (G:=Gh0 G'.vis) (G':=Gh0 G'.vis) (O':=λ_=>False) rfl hpy hx;simpa using this
 have bj:Env.get (W++e) 0 BIG=.tr n:=by grind[Nu]
 have hJ:=R'.jj;rw[bj]at hJ;obtain⟨fn,tmps,assign,body,d7,ao⟩:=U.ok n G'.H G'.vis w _ hm hs hJ R'.hlt R'.fresh hpy hx;have cg:(execOp a.eval o).run P w=.ok (.round l fn tmps assign body) w:=by grind[execOp,resolve,Deferred.ofValue,invoke]
 refine⟨λ_ _=>trivial,?_⟩;rw[dK _ _ _ (Alh ho),cg,Oper.uponIn_round];refine⟨λh=>by trivial,?_⟩;rw[hl];refine (Ala ao).mono λen w' ⟨h5,h6,h7,h8,h9⟩=>?_;subst h5;dsimp only;have pm:∀b,¬X.fz b:=U.fz.resolve_left (by omega)
 -- the ghost behind it
 have hpn:∀b,b<w.heap.size->(Tt G'.H w w' b↔G'.H b):=λb hb=>⟨λh=>h.resolve_right (by omega),.inl⟩
 obtain⟨R2,dz⟩:=R'.move' (w':=w') (G':={ G' with H:=Tt G'.H w w' }) (e':=(0,BIG,.tr (n+1))::(W++e)) ⟨λ_=>aI _,h8,λb hb=>absurd hb (pm b)⟩ h9 hpn
  (λb hb=>hb.elim (λh=>aX (R'.hlt b h) h9.size) (λh=>h.2)) rfl rfl rfl (λ_=>False) (λ_ _ _ h=>h) (λ_ _ h=>h) (λb hb hnH _ _=>⟨h7 b hb hnH,rfl⟩) (λt ht=>Bb (λhh=>ht hh.2.symm)) (.inl (by trivial)) (λk=>Bb (by omega))
  (λid=>by trivial)
  (λlift id d6=>by
   obtain⟨q1,q2,q3⟩:=R'.mem.box id d6;have l6:=h7 _ q2 q1;refine⟨?_,λhf hl k hk=>?_,λk hk=>?_⟩
   ·rw[Bb (by omega)];exact q3.stay (λ_=>aI _) h8 l6 rfl λj bb hb=>⟨hb,h7 _ (R'.tks _ bb hb).2.1 (R'.tks _ bb hb).2.2.1,rfl⟩
   ·rw[Bb (by omega)]at hl hk;rw[bF l6];exact R'.far id k hf hl hk
   ·rw[Bb (by omega)]at hk ⊢;rw[Bb (by omega)];obtain⟨g1,g2,u,g3,g4⟩:=R'.mem.cells id k hk;grind[World.cell?_of_block])
  (λid k hk=>by rw[Bb (by omega)]at hk;rw[(R'.mem.cells id k hk).1];exact Bc)
  (λb hb=>R'.fresh b (bJ h9.size hb)) (λb _=>rfl) (by trivial)
 exact hK _ w' _ R2 (VOK.v _ rfl)
end
theorem Ali {i:Nat}:∀{rho:List (Nat×Nat)},inL i rho=true->∃b,(i,b)∈rho
 | [],h=>by cases h
 |(a,b)::r,h=>by
  simp only[inL,bW]at h;rcases h with h|h
  ·grind[Nat.eq_of_beq_eq_true]
  ·obtain⟨b',hb⟩:=Ali h;grind
theorem Alj {i b:Nat}:∀{rho:List (Nat×Nat)},(i,b)∈rho->inL i rho=true
 |(a,c)::r,h=>by
  simp only[inL,bW];cases h with
  |head=>grind[Nat.beq_refl]
  |tail _ h=>exact .inr (Alj h)
theorem Ag6 {i b:Nat}:∀{rho:List (Nat×Nat)},(i,b)∈rho->Zx b rho=true
 |(a,c)::r,h=>by
  simp only[Zx,bW];cases h with
  |head=>grind[Nat.beq_refl]
  |tail _ h=>exact .inr (Ag6 h)
theorem Alk {i b:Nat}:∀{rho:List (Nat×Nat)},Gc rho=true->(i,b)∈rho->rn rho i=b
 |(a,c)::r,h,hm=>by
  simp only[Gc,aE,cL]at h;unfold rn;cases hm with
  |head=>rw[fP];rfl
  |tail _ hm=>
   have:a.beq i=false:=by
    cases hb:a.beq i with
    |false=>rfl
    |true=>
     have:=aG hb;subst this;rw[Alj hm]at h;grind
   rw[this];exact Alk h.2 hm
theorem All {i j b:Nat}:∀{rho:List (Nat×Nat)},Gc rho=true->(i,b)∈rho->(j,b)∈rho->i=j
 |(a,c)::r,h,hi,hj=>by
  simp only[Gc,aE,cL]at h;cases hi with
  |head=>
   grind[Ag6]
  |tail _ hi=>
   cases hj with
   |head=>rw[Ag6 hi]at h;grind
   |tail _ hj=>exact All h.2 hi hj
theorem Tw {rho:List (Nat×Nat)} (h:Gc rho=true) {i j:Nat} (hi:inL i rho=true) (hj:inL j rho=true) (he:rn rho i=rn rho j):i=j:=by
 grind[Ali,Alk,All]
section
variable {P:Program} {Y:TypeId->Ty} {Gl:World->Prop} {X:Cx} {nt:Nat} {ds:List Deferred} {e:Env} {a:Act} {w:World} {G:Gh} {O:Nat->Prop} {Q:Exit->Act->World->Prop} {rd:Option Nat} {fu:Nat} {yd:Yd} {rho:List (Nat×Nat)}
theorem tameE_mem:∀{m:Env},Ce rho m=true->∀{t k x},(t,k,x)∈m->(t=0/\k=BIG/\La x=true)∨(t=2/\inL k rho=true/\Cv x=true)∨∃i,t=i+3/\inL i rho=true/\Bg rho x=true/\x.one=true
 | [],_,_,_,_,h=>(by cases h)
 |p::m,hm,t,k,x,h=>by
  unfold Ce at hm;split at hm
  ·trivial
  ·rename_i hh;simp only[cI]at hh;obtain⟨rfl,rfl⟩:=hh;simp only[aE]at hm;cases h with
   |head=>grind[Nat.eq_of_beq_eq_true]
   |tail _ h=>exact tameE_mem hm.2 h
  ·cases hm
  ·rename_i hh;simp only[cI]at hh;obtain⟨rfl,rfl⟩:=hh;simp only[aE]at hm;cases h with
   |head=>grind
   |tail _ h=>exact tameE_mem hm.2 h
  ·rename_i hh;simp only[cI]at hh;obtain⟨rfl,rfl⟩:=hh;simp only[aE]at hm;cases h with
   |head=>grind
   |tail _ h=>exact tameE_mem hm.2 h
theorem get_mem {t k:Nat}:∀{e:Env} {x:T},e.get t k=x->x=.any∨(t,k,x)∈e
 | [],x,h=>.inl h.symm
 |(a,b,y)::e,x,h=>by
  rw[Am]at h;split at h
  ·grind
  ·exact (get_mem h).imp id (aU _)
def Cg (rho:List (Nat×Nat)) (t k:Nat):Nat×Nat:=
 match t with
 |0=>(0,k)
 |1=>(1,k)
 |2=>(2,rn rho k)
 |t+3=>(rn rho t+3,k)
def Avi (hr:Gc rho=true) {t k t' k':Nat} (h1:t=2->inL k rho=true) (h2:t'=2->inL k' rho=true) (h3:∀i,t=i+3->inL i rho=true) (h4:∀i,t'=i+3->inL i rho=true) (h:Cg rho t k=Cg rho t' k'):t=t'/\k=k':=by
 unfold Cg at h;split at h<;>split at h<;>simp only[aD]at h<;>grind[Tw]
def Rd (rho:List (Nat×Nat)) (t:Nat) (x:T):T:=
 match t with
 |0=>x
 |1=>x
 |_=>Ba rho x
def Ab1 (t k:Nat) (x:T) (m:Env):Aq rho ((t,k,x)::m)=((Cg rho t k).1,(Cg rho t k).2,Rd rho t x)::Aq rho m:=by
 match t with
 |0=>rfl
 |1=>rfl
 |2=>rfl
 |t+3=>rfl
theorem Xe {t k:Nat} {x:T}:∀{m:Env},(t,k,x)∈m->((Cg rho t k).1,(Cg rho t k).2,Rd rho t x)∈Aq rho m
 |(a,b,y)::m,h=>by
  rw[Ab1];cases h with
  |head=>grind
  |tail _ h=>exact aU _ (Xe h)
theorem Mh (hr:Gc rho=true):∀{m:Env},Ce rho m=true->∀{t k:Nat},(t=2->inL k rho=true)->(∀i,t=i+3->inL i rho=true)->m.get t k≠.any->
  Env.get (Aq rho m++e) (Cg rho t k).1 (Cg rho t k).2=Rd rho t (m.get t k)
 | [],_,_,_,_,_,h=>absurd rfl h
 |(a,b,y)::m,hm,t,k,h1,h2,h=>by
  have lm:Ce rho m=true:=by
   unfold Ce at hm;split at hm
   ·trivial
   ·grind
   ·cases hm
   ·grind
   ·grind
  have hab:=tameE_mem hm (aC (a:=(a,b,y)));rw[Ab1,bZ,Am];rw[Am]at h ⊢
  by_cases hk:a=t/\b=k
  ·grind
  ·rw[bI hk]at h;rw[bI hk,bI]
   ·exact Mh hr lm h1 h2 h
   ·intro hh;have he:Cg rho a b=Cg rho t k:=Prod.ext hh.1 hh.2;refine hk (Avi hr (λha=>?_) h1 (λi hi=>?_) h2 he)
    ·grind
    grind
theorem Li {t k:Nat}:∀{m:Env},(∀t' k' x,(t',k',x)∈m->Cg rho t' k'≠(t,k))->Env.get (Aq rho m++e) t k=e.get t k
 | [],_=>rfl
 |(a,b,y)::m,h=>by
  rw[Ab1,bZ,Bb (λhh=>h a b y aC (Prod.ext hh.1 hh.2))];exact Li λt' k' x hx=>h t' k' x (aU _ hx)
theorem Ab2:∀{m:Env} {r r':List (Nat×Nat)} {ps:List Prop},(Tb m).run e.get r=some (ps,r')->(∀p∈ps,p)->∀t k x,(t,k,x)∈m->∀p∈leT (e.get t k) x,p
 | [],_,_,_,_,_,_,_,_,h=>(by cases h)
 |(a,b,y)::m,r,r',ps,h,hp,t,k,x,hx=>by
  simp only[Tb,M.run]at h;obtain⟨ps',r1,h1,h2⟩:=Ah h;simp only[M.run,aA,aD]at h2;obtain⟨rfl,_⟩:=h2;cases hx with
  |head=>exact λp hq=>hp p (aJ _ hq)
  |tail _ hx=>exact Ab2 h1 (λp hq=>hp p (aM _ hq)) t k x hx
theorem Alm:∀{m:Env} {r r':List (Nat×Nat)} {ps:List Prop},(Zy m).run e.get r=some (ps,r')->(∀p∈ps,p)->∀t k,Env.get (m++e) t k=e.get t k
 | [],_,_,_,_,_,_,_=>rfl
 |(a,b,y)::m,r,r',ps,h,hp,t,k=>by
  simp only[Zy,M.run]at h;obtain⟨ps',r1,h1,h2⟩:=Ah h;simp only[M.run,aA,aD]at h2;obtain⟨rfl,_⟩:=h2;rw[bZ,Am];split
  ·grind[List.mem_cons_self]
  ·exact Alm h1 (λp hq=>hp p (aU _ hq)) t k
def VOK.congr {e':Env} {x:T} {v:Value} (h:∀t k,e'.get t k=e.get t k) (r:VOK G w O Y e x v):VOK G w O Y e' x v:=
 VOK.mono (.refl _ _ _) (λ_ _=>rfl) (λid d6=>by grind) (λk hk=>by grind) (λk b _ hb _=>⟨hb,rfl,rfl⟩) r
def Rel.congr {e':Env} (h:∀t k,e'.get t k=e.get t k) (R:Rel Y X nt ds e a w G):Rel Y X nt ds e' a w G:=
 ⟨⟨λid k hk=>by rw[h]at hk ⊢;rw[h];obtain⟨q1,q2,u,q3,q4⟩:=R.mem.cells id k hk;exact⟨q1,q2,u,q3,q4.congr h⟩,λid d6=>by rw[h]at d6 ⊢;exact R.mem.box id d6,λid i5 h1 h2=>by rw[h]at h1 h2;exact R.mem.inj id i5 h1 h2⟩,
  R.size,R.defers,R.marks,λt=>by rw[h];exact (R.slots t).congr h,λk b hb=>by simp only[h];exact R.tks k b hb,R.tinj,λk b hb=>(R.tlive k b hb).mono (λk hk=>by grind) (λid d6=>⟨by grind,rfl⟩),R.fresh,R.old,R.base,λid d6=>by rw[h]at d6;exact R.ownb id d6,R.hlt,R.fzh,by rw[h];exact R.jj,λid k hf hl hk=>by rw[h]at hl hk;exact R.far id k hf hl hk⟩
def Jf (rho:List (Nat×Nat)) (G:Gh) (H:Nat->Prop):Gh:=⟨G.vis,λF=>G.bk (rn rho F),λ_=>none,H,⟨[],.nil⟩⟩
mutual
theorem Ag7 {H:Nat->Prop} {O':Nat->Prop}:∀{x:T} {v:Value},Bg rho x=true->Aa G w O (Ba rho x) v->Aa (Jf rho G H) w O' x v
 | .d x,v,hx,r=>by
  simp only[Ba,Aa]at r ⊢;refine Av.pure (?_:Ja (.d x)=true) r;cases x with
  |rd xs=>trivial
  |c c=>rfl
  |agg xs=>rfl
 | .addr id k,v,_,r=>by trivial
 | .fn f p q,v,hx,r=>by
  simp only[Bg,aE]at hx;simp only[Ba,Aa]at r ⊢;obtain⟨us,vs,h1,h2,h3⟩:=r;exact⟨us,vs,h1,Pg hx.1 h2,Pg hx.2 h3⟩
 | .arr id n,v,_,r=>by trivial
 | .mp id,v,_,r=>by trivial
 | .yl l,v,_,r=>by trivial
 | .ag p,v,hx,r=>by
  simp only[Bg]at hx;simp only[Ba,Aa]at r ⊢;obtain⟨vs,h1,h2⟩:=r;exact⟨vs,h1,Pg hx h2⟩
 | .tpl p,v,hx,r=>by
  simp only[Bg]at hx;simp only[Ba,Aa]at r ⊢;obtain⟨vs,h1,h2⟩:=r;exact⟨vs,h1,Pg hx h2⟩
 | .pt p,v,hx,r=>by
  simp only[Bg]at hx;simp only[Ba,Aa]at r ⊢;obtain⟨b,u,h1,h2,h3,h4⟩:=r;exact⟨b,u,h1,h2,h3,Ag7 hx h4⟩
 | .tup _,_,hx,_| .may _ _,_,hx,_| .any,_,hx,_| .tok _,_,hx,_| .elt _ _ _ _,_,hx,_| .it _,_,hx,_| .nx _ _,_,hx,_
 | .own _ _ _,_,hx,_| .tkd _ _ _ _,_,hx,_| .arrc _ _ _ _,_,hx,_| .mapc _ _ _ _ _,_,hx,_| .itc _ _,_,hx,_| .mitc _ _ _ _ _ _,_,hx,_| .tr _,_,hx,_| .arro _ _ _ _ _,_,hx,_=>by trivial
theorem Pg {H:Nat->Prop} {O':Nat->Prop}:∀{xs:List T} {vs:List Value},Fm rho xs=true->Ac G w O (Ea rho xs) vs->Ac (Jf rho G H) w O' xs vs
 | [],vs,_,r=>by trivial
 |x::xs,vs,hx,r=>by
  simp only[Fm,aE]at hx;simp only[Ea,Ac]at r ⊢;obtain⟨v,us,h1,h2,h3⟩:=r;exact⟨v,us,h1,Ag7 hx.1 h2,Pg hx.2 h3⟩
end
mutual
theorem Re {G2:Gh} {O':Nat->Prop} (hv:G2.vis=G.vis) (hb:∀F,G2.bk F=G.bk (rn rho F)):∀{x:T} {v:Value},Bg rho x=true->Aa G2 w O' x v->Aa G w O (Ba rho x) v
 | .d x,v,hx,r=>by
  simp only[Ba,Aa]at r ⊢;rw[<-hv];refine Av.pure (?_:Ja (.d x)=true) r;cases x with
  |rd xs=>trivial
  |c c=>rfl
  |agg xs=>rfl
 | .addr id k,v,_,r=>by grind[Ba,Aa]
 | .fn f p q,v,hx,r=>by
  simp only[Bg,aE]at hx;simp only[Ba,Aa]at r ⊢;obtain⟨us,vs,h1,h2,h3⟩:=r;exact⟨us,vs,h1,Xf hv hb hx.1 h2,Xf hv hb hx.2 h3⟩
 | .arr id n,v,_,r=>by grind[Ba,Aa]
 | .mp id,v,_,r=>by grind[Ba,Aa]
 | .yl l,v,_,r=>by trivial
 | .ag p,v,hx,r=>by
  simp only[Bg]at hx;simp only[Ba,Aa]at r ⊢;obtain⟨vs,h1,h2⟩:=r;exact⟨vs,h1,Xf hv hb hx h2⟩
 | .tpl p,v,hx,r=>by
  simp only[Bg]at hx;simp only[Ba,Aa]at r ⊢;obtain⟨vs,h1,h2⟩:=r;exact⟨vs,h1,Xf hv hb hx h2⟩
 | .pt p,v,hx,r=>by
  simp only[Bg]at hx;simp only[Ba,Aa]at r ⊢;obtain⟨b,u,h1,h2,h3,h4⟩:=r;exact⟨b,u,h1,by grind,h3,Re hv hb hx h4⟩
 | .tup _,_,hx,_| .may _ _,_,hx,_| .any,_,hx,_| .tok _,_,hx,_| .elt _ _ _ _,_,hx,_| .it _,_,hx,_| .nx _ _,_,hx,_
 | .own _ _ _,_,hx,_| .tkd _ _ _ _,_,hx,_| .arrc _ _ _ _,_,hx,_| .mapc _ _ _ _ _,_,hx,_| .itc _ _,_,hx,_| .mitc _ _ _ _ _ _,_,hx,_| .tr _,_,hx,_| .arro _ _ _ _ _,_,hx,_=>by trivial
theorem Xf {G2:Gh} {O':Nat->Prop} (hv:G2.vis=G.vis) (hb:∀F,G2.bk F=G.bk (rn rho F)):∀{xs:List T} {vs:List Value},Fm rho xs=true->Ac G2 w O' xs vs->Ac G w O (Ea rho xs) vs
 | [],vs,_,r=>by trivial
 |x::xs,vs,hx,r=>by
  simp only[Fm,aE]at hx;simp only[Ea,Ac]at r ⊢;obtain⟨v,us,h1,h2,h3⟩:=r;exact⟨v,us,h1,Re hv hb hx.1 h2,Xf hv hb hx.2 h3⟩
end
mutual
theorem Ob:∀{x:T},Bg rho x=true->(∀id,id∈Aj x->inL id rho=true)/\(∀id,id∈Aj (Ba rho x)->∃F,inL F rho=true/\F∈Aj x/\id=rn rho F)
 | .d x,_=>⟨λid h=>(by cases h),λid h=>(by cases h)⟩
 | .addr id k,hx=>⟨λi h=>by simp only[Aj,aZ]at h;rw[h];exact hx,λi h=>by simp only[Ba,Aj,aZ]at h;exact⟨id,hx,by simp[Aj],h⟩⟩
 | .fn f p q,hx=>by
  simp only[Bg,aE]at hx;obtain⟨a1,a2⟩:=Xg hx.1;obtain⟨b1,b2⟩:=Xg hx.2;grind[Aj,Ba]
 | .arr id n,hx=>⟨λi h=>by simp only[Aj,aZ]at h;rw[h];exact hx,λi h=>by simp only[Ba,Aj,aZ]at h;exact⟨id,hx,by simp[Aj],h⟩⟩
 | .mp id,hx=>⟨λi h=>by simp only[Aj,aZ]at h;rw[h];exact hx,λi h=>by simp only[Ba,Aj,aZ]at h;exact⟨id,hx,by simp[Aj],h⟩⟩
 | .yl l,_=>⟨λid h=>(by cases h),λid h=>(by cases h)⟩
 | .ag p,hx=>by
  simp only[Bg]at hx;simpa only[Aj,Ba]using Xg hx
 | .tpl p,hx=>by
  simp only[Bg]at hx;simpa only[Aj,Ba]using Xg hx
 | .pt p,hx=>by
  simp only[Bg]at hx;simpa only[Aj,Ba]using Ob hx
 | .tup _,hx| .may _ _,hx| .any,hx| .tok _,hx| .elt _ _ _ _,hx| .it _,hx| .nx _ _,hx
 | .own _ _ _,hx| .tkd _ _ _ _,hx| .arrc _ _ _ _,hx| .mapc _ _ _ _ _,hx| .itc _ _,hx| .mitc _ _ _ _ _ _,hx| .tr _,hx| .arro _ _ _ _ _,hx=>by trivial
theorem Xg:∀{xs:List T},Fm rho xs=true->(∀id,id∈Bo xs->inL id rho=true)/\(∀id,id∈Bo (Ea rho xs)->∃F,inL F rho=true/\F∈Bo xs/\id=rn rho F)
 | [],_=>⟨λid h=>(by cases h),λid h=>(by cases h)⟩
 |x::xs,hx=>by
  simp only[Fm,aE]at hx;obtain⟨a1,a2⟩:=Ob hx.1;obtain⟨b1,b2⟩:=Xg hx.2;grind[Bo,Ea]
end
theorem Aln {x:T} (h:Bg rho x=true):Ck x=[]:=by
 cases x with
 |d x=>
  cases x with
  |c c=>cases c with
   |s g n f=>cases g with
    |n=>rfl
    |t k=>trivial
   |v _=>rfl
   |m _ _ _ _=>rfl
   |p _=>rfl
   |i _ _ _=>rfl
   |u=>rfl
  |agg _=>rfl
  |rd _=>rfl
 |may b x=>trivial
 |_=>rfl
theorem Alo {x:T} {v:Value} (h:Bg rho x=true):Kh G w Y e x v:=by
 cases x with
 |d x=>
  cases x with
  |c c=>cases c with
   |s g n f=>cases g with
    |n=>trivial
    |t k=>trivial
   |v _=>trivial
   |m _ _ _ _=>trivial
   |p _=>trivial
   |i _ _ _=>trivial
   |u=>trivial
  |agg _=>trivial
  |rd _=>trivial
 |may b x=>trivial
 |_=>trivial
theorem Ab3 {x:T} (h:Bg rho x=true):(Ba rho x).one=x.one:=by
 cases x<;>trivial
def Pi {x:T} (h:Bg rho x=true):Ck (Ba rho x)=[]/\(∀{v:Value},Kh G w Y e (Ba rho x) v):=by
 cases x with
 |d x=>
  grind[Ba,Aln,Alo]
 |_=>first|exact⟨rfl,trivial⟩|simp[Bg]at h
theorem Xh {x:T} (h:Cv x=true):Ba rho x=x:=by
 unfold Cv at h;split at h<;>trivial
theorem Xi {x:T} (h:Bg rho x=true):∀b y,Ba rho x≠.may b y:=by
 intro b y;cases x<;>first|(simp only[Ba];intro hh;cases hh;done)|simp[Bg]at h
def Alp {o o':T} {b:Nat} {H:Nat->Prop} (i7:∀p∈leT o o',p) (ho:Cv o'=true) (h:Bk G w o b):Bk (Jf rho G H) w o' b:=by
 unfold leT at i7;split at i7
 ·cases ho
 ·cases ho
 ·cases ho
 ·exact h
 ·cases ho
 ·cases ho
 ·cases ho
 ·cases ho
 ·cases ho
 ·cases ho
 ·replace i7:=Rc i7;obtain⟨hb,i7⟩:=i7;obtain⟨h1,h2⟩:=and_true hb;have h2:=aG h2;have h1:=iO h1;subst h1;subst h2;obtain⟨e1,e2⟩:SEq _ _ _ _:=i7 _ aC;subst e1;obtain⟨⟨cs,t,z,g1,gz,g2,g3⟩,g4⟩:=h;refine⟨⟨cs,t,z,g1,gz,g2,λi hi=>?_⟩,g4⟩;obtain⟨g5,g6⟩:=g3 i hi;obtain⟨e3,e4⟩:=Oa (e2 i hi);refine⟨by omega,λj c hc=>?_⟩;obtain⟨x,hx,hxc⟩:=e4 j c hc;obtain⟨u,hu,hr⟩:=g6 j x hx;exact⟨u,hu,Aay hxc hr⟩
 ·replace i7:=Rc i7;obtain⟨hb,i7⟩:=i7;obtain⟨hb,h3⟩:=and_true hb;obtain⟨h1,h2⟩:=and_true hb;have h2:=aG h2;have h1:=iO h1;have h3:=iO h3;subst h1;subst h2;subst h3;have hm:MEq _ _ _ _:=i7 _ aC;obtain⟨⟨es,cl,g1,g2⟩,g4⟩:=h;exact⟨⟨es,cl,g1,Ag1 hm g2⟩,g4⟩
 ·cases ho
 ·cases ho
 ·cases ho
 ·cases ho
 ·have:=i7 _ aC;subst this;unfold Cv at ho;grind
end
section
variable {P:Program} {Y:TypeId->Ty} {Gl:World->Prop} {X:Cx} {nt:Nat} {ds:List Deferred} {e:Env} {a:Act} {w:World} {G:Gh} {O:Nat->Prop} {Q:Exit->Act->World->Prop} {rd:Option Nat} {fu:Nat} {yd:Yd} {rho:List (Nat×Nat)}
theorem Xj {t k:Nat}:∀{l:List (Nat×Nat)},Bz t k l=true↔(t,k)∈l
 | []=>by simp[Bz]
 |(a,b)::r=>by
  simp only[Bz,bW,aE,eL,aD,Xj (l:=r)];grind[Nat.eq_of_beq_eq_true,Nat.beq_refl]
theorem Xk {t k:Nat}:∀{m n:Env},Bz t k (Bf m)=false->Env.get (m++n) t k=n.get t k
 | [],_,_=>rfl
 |(a,b,x)::m,n,h=>by
  simp only[Bf,Bz,dW,Bool.and_eq_false_iff]at h;rw[bZ,Bb (λhh=>by
   grind[Nat.beq_refl])]
  exact Xk h.2
theorem Ag8 {t k:Nat}:∀{m n:Env},Bz t k (Bf m)=true->Env.get (m++n) t k=m.get t k
 | [],_,h=>by cases h
 |(a,b,x)::m,n,h=>by
  rw[bZ,Am,Am];split
  ·rfl
  ·rename_i hh;simp only[Bf,Bz,bW,aE]at h;exact Ag8 (h.resolve_left λh=>hh ⟨(aG h.1).symm,(aG h.2).symm⟩)
theorem Ag9 {t k:Nat} {l:List (Nat×Nat)} (h:Bz t k l=false):∀{m:Env},Env.get (rest l m) t k=m.get t k
 | []=>rfl
 |(a,b,x)::m=>by
  unfold rest;cases hh:Bz a b l with
  |true=>
   simp only[bA];rw[Bb (λh'=>by grind)];exact Ag9 h
  |false=>
   simp only[cC];rw[Am,Am];split
   ·rfl
   ·exact Ag9 h
theorem Fo (post c9:Env) (t k:Nat):Env.get (Af post c9) t k=if Bz t k (Bf post)=true then post.get t k else c9.get t k:=by
 grind[Af,Ag8,Xk,Ag9]
theorem Aga {l:List (Nat×Nat)} {p:Nat×Nat×T}:∀{m:Env},p∈rest l m->p∈m
 | [],h=>by cases h
 |(a,b,x)::m,h=>by
  unfold rest at h;cases hh:Bz a b l with
  |true=>rw[hh]at h;exact aU _ (Aga h)
  |false=>
   rw[hh]at h;cases h with
   |head=>grind
   |tail _ h=>exact aU _ (Aga h)
theorem Agb:∀{m:Env},(∀t k x,(t,k,x)∈m->(t=0/\k=BIG/\La x=true)∨(t=2/\inL k rho=true/\Cv x=true)∨∃i,t=i+3/\inL i rho=true/\Bg rho x=true/\x.one=true)->Ce rho m=true
 | [],_=>rfl
 |(t,k,x)::m,h=>by
  have ih:=Agb (m:=m) λt k x hx=>h t k x (aU _ hx);rcases h t k x aC with ⟨rfl,rfl,h1⟩|⟨rfl,h1,h2⟩|⟨i,rfl,h1,h2,h3⟩
  ·simp[Ce,h1,ih]
  ·simp[Ce,h1,h2,ih]
  grind[Ce]
def Alq {post c9:Env} (h1:Ce rho post=true) (h2:Ce rho c9=true):Ce rho (Af post c9)=true:=
 Agb λt k x hx=>by
  grind[Af,tameE_mem,Aga]
theorem Mi:∀{m:Env} {t k:Nat} {x:T},(t,k,x)∈m->(∀y,(t,k,y)∈m->y≠.any)->m.get t k≠.any
 |(a,b,z)::m,t,k,x,h,hn=>by
  rw[Am];split
  ·grind
  ·rename_i hh;cases h with
   |head=>omega
   |tail _ h=>exact Mi h λy hy=>hn y (aU _ hy)
def Ab4 {x:T} (h:Cv x=true):x≠.any:=λhh=>by rw[hh]at h;cases h
def Ab5 {x:T} (h:x.one=true):x≠.any:=λhh=>by rw[hh]at h;cases h
def Ab6 {x y:T} (h:∀p∈leT x y,p) (hy:y≠.any):x≠.any:=by
 grind[leT,List.mem_cons_self]
theorem Agc {x:T} (h:∀p∈leT live x,p) (hx:Cv x=true):x=live:=by
 unfold Cv at hx;split at hx
 ·rfl
 ·have:live=_:=h _ aC;cases this
 ·have:live=_:=h _ aC;cases this
 ·cases hx
def Kk (G:Gh) (w:World) (rho:List (Nat×Nat)) (c9:Env) (b:Nat):Prop:=b<w.heap.size/\¬G.H b/\∀F,c9.get 2 F≠.any->G.bk (rn rho F)≠b
def J2 (X:Cx) (G:Gh) (w:World) (N:Nat->Prop):Oth:=λp H vi w'=>∃H',(∀b,H b↔H' b∨N b)/\(∀b,N b->¬H' b/\b<w.heap.size)/\X.J p H' vi w'/\(∀b,N b->w'.heap[b]?=w.heap[b]?)/\(∀b,X.fz b->w'.heap[b]?=w.heap[b]?/\H' b)/\(∀b,b<w.heap.size->(H' b↔G.H b))/\(∀b,H' b->b<w'.heap.size)/\Same w w'
def Ab7 {N:Nat->Prop}:(J2 X G w N).Stable:=by
 refine⟨?_,?_⟩
 ·rintro p H vi w1 w2 ⟨H',h1,h2,h3,h4,h5,h6,qx,h7⟩ hH hk hs;refine⟨H',h1,h2,X.st.1 _ _ _ _ _ h3 (λb hb=>hH b ((h1 b).2 (.inl hb))) hk hs,λb hb=>by grind,λb hb=>⟨by grind,(h5 b hb).2⟩,h6,λb hb=>aX (qx b hb) hs.size,h7.trans hs⟩
 ·rintro p H vi jy w1 ⟨H',h1,h2,h3,h4,h5,h6,qx,h7⟩ i7 kf;exact⟨H',h1,h2,X.st.2 _ _ _ _ _ h3 i7 (λb hb=>kf b ((h1 b).2 (.inl hb))),h4,h5,h6,qx,h7⟩
def Agd {N:Nat->Prop} (U:Sur P Gl X yd):Pf P (J2 X G w N) yd:=by
 rintro p H vis w1 vs hm hs ⟨H',h1,h2,h3,h4,h5,h6,qx,h7⟩ hlt ae hpu hr;obtain⟨fn,tmps,assign,body,d7,ao⟩:=U.ok p H' vis w1 vs hm hs h3 qx ae hpu hr;refine⟨fn,tmps,assign,body,d7,ao.mono λen w2 ⟨g1,g2,g3,g4,g5⟩=>⟨g1,?_,λb hb hn=>g3 b hb λhh=>hn ((h1 b).2 (.inl hh)),g4,g5⟩⟩;have pm:∀b,¬X.fz b:=U.fz.resolve_left (by omega);refine⟨Tt H' w1 w2,λb=>?_,λb hb=>?_,g2,λb hb=>?_,λb hb=>absurd hb (pm b),λb hb=>?_,λb hb=>?_,h7.trans g5⟩
 ·grind[Tt]
 ·obtain⟨q1,q2⟩:=h2 b hb;exact⟨λhh=>hh.elim q1 λhh=>by grind,q2⟩
 ·grind
 ·rw[<-h6 b hb];exact⟨λh=>h.resolve_right (by have:=h7.size;omega),.inl⟩
 ·rcases hb with hb|hb
  ·exact aX (qx b hb) g5.size
  omega
end
section
variable {P:Program} {Y:TypeId->Ty} {Gl:World->Prop} {X:Cx} {nt:Nat} {ds:List Deferred} {e:Env} {a:Act} {w:World} {G:Gh} {O:Nat->Prop} {Q:Exit->Act->World->Prop} {rd:Option Nat} {fu:Nat} {yd:Yd} {rho:List (Nat×Nat)}
theorem Pj {e0:Env}:∀{es:Env},Gb e0 es=true->∀{t k x},(t,k,x)∈es->∀id∈Ma t x,e0.get 2 id≠.any
 | [],_,_,_,_,h=>(by cases h)
 |(a,b,y)::es,hp,t,k,x,h=>by
  simp only[Gb,aE]at hp;cases h with
  |head=>
   have o6:∀(l:List Nat),Jr e0 l=true->∀id∈l,e0.get 2 id≠.any:=by
    intro l
    induction l with
    |nil=>grind
    |cons i l ih=>
     grind[Jr,Iy]
   grind
  |tail _ h=>exact Pj hp.2 h
theorem Alr (R:Rel Y X nt ds e a w G) {H:Nat->Prop} {c9:Env} (hH:∀F,c9.get 2 F≠.any->¬H (G.bk (rn rho F))) (hr:Gc rho=true) (ht:Ce rho c9=true) (v8:Gb c9 c9=true) (i7:∀t k x,(t,k,x)∈Aq rho c9->∀p∈leT (e.get t k) x,p):
  (∀F,c9.get 2 F≠.any->inL F rho=true/\e.get 2 (rn rho F)≠.any/\Cv (c9.get 2 F)=true/\∀p∈leT (e.get 2 (rn rho F)) (c9.get 2 F),p)/\
  Mem Y (λ_=>False) c9 w (Jf rho G H):=by
 have cy:∀F,c9.get 2 F≠.any->inL F rho=true/\e.get 2 (rn rho F)≠.any/\Cv (c9.get 2 F)=true/\∀p∈leT (e.get 2 (rn rho F)) (c9.get 2 F),p:=by
  intro F hF;have hm:=(get_mem (rfl:c9.get 2 F=c9.get 2 F)).resolve_left hF;rcases tameE_mem ht hm with ⟨h,_⟩|⟨_,h1,h2⟩|⟨i,h,_⟩
  ·omega
  ·have h3:=i7 _ _ _ (Xe (rho:=rho) hm);have h3:∀p∈leT (e.get 2 (rn rho F)) (Ba rho (c9.get 2 F)),p:=h3;rw[Xh h2]at h3;exact⟨h1,Ab6 h3 (Ab4 h2),h2,h3⟩
  ·omega
 refine⟨cy,⟨λF k hk=>?_,λF hF=>?_,λF F' hF hF' hh=>?_⟩⟩
 ·have hm:=(get_mem (rfl:c9.get (F+3) k=c9.get (F+3) k)).resolve_left hk;rcases tameE_mem ht hm with ⟨h,_⟩|⟨h,_⟩|⟨i,h,h1,h2,h3⟩
  ·omega
  ·omega
  ·have hi:i=F:=by omega
   subst hi;have h4:∀p∈leT (e.get (rn rho i+3) k) (Ba rho (c9.get (i+3) k)),p:=i7 _ _ _ (Xe (rho:=rho) hm);have h5:(Ba rho (c9.get (i+3) k)).one=true:=by grind[Ab3]
   have h6:=Ab6 h4 (Ab5 h5);obtain⟨g1,g2,u,g3,g4⟩:=R.mem.cells (rn rho i) k h6;have hu:=Pj v8 hm;refine⟨?_,h3,u,g3,⟨Ag7 h2 (Ab0 h4 g4.rel),Alo h2,Gy λid v7=>hu id (by simp[Ma,v7]),by
    have:=Aln h2;cases hx:c9.get (i+3) k with
    |may b x=>grind[Bg]
    |_=>rw[hx]at this;intro k' t8;grind⟩⟩
   grind[Ma,Agc]
 ·obtain⟨h1,h2,h3,h4⟩:=cy F hF;obtain⟨g1,g2,g3⟩:=R.mem.box (rn rho F) h2;exact⟨hH F hF,g2,Alp h4 h3 g3⟩
 ·obtain⟨h1,h2,_⟩:=cy F hF;obtain⟨vu,fm,_⟩:=cy F' hF';exact Tw hr h1 vu (R.mem.inj _ _ h2 fm hh)
def Ab8 (R:Rel Y X nt ds e a w G) {c9:Env} (hr:Gc rho=true) (ht:Ce rho c9=true) (v8:Gb c9 c9=true) (i7:∀t k x,(t,k,x)∈Aq rho c9->∀p∈leT (e.get t k) x,p):
  (∀F,c9.get 2 F≠.any->inL F rho=true/\e.get 2 (rn rho F)≠.any/\Cv (c9.get 2 F)=true/\∀p∈leT (e.get 2 (rn rho F)) (c9.get 2 F),p)/\
  Mem Y (λ_=>False) c9 w (Jf rho G λb=>b<w.heap.size/\∀F,c9.get 2 F≠.any->G.bk (rn rho F)≠b):=
 by grind[Alr]
def le_tr {x:T} {p:Nat} (h:∀q∈leT x (.tr p),q):x=.tr p:=by
 unfold leT at h;grind[List.mem_cons_self]
def big_eq {c9:Env} (ht:Ce rho c9=true) (i7:∀t k x,(t,k,x)∈Aq rho c9->∀p∈leT (e.get t k) x,p) (hb:Wj c9 (e.get 0 BIG)=true):
  (c9.get 0 BIG=.any/\trN (e.get 0 BIG)=0)∨c9.get 0 BIG=e.get 0 BIG:=by
 by_cases h:c9.get 0 BIG=.any
 ·refine .inl ⟨h,?_⟩;unfold Wj at hb;split at hb
  ·rename_i p hp;exfalso;have hk:=Xj.1 hb;have:∀{m:Env},(0,BIG)∈Bf m->∃x,(0,BIG,x)∈m:=by
    intro m
    induction m with
    |nil=>intro h;cases h
    |cons q m ih=>
     intro h;obtain⟨a,b,x⟩:=q;cases h with
     |head=>grind
     |tail _ h=>obtain⟨y,hy⟩:=ih h;grind
   obtain⟨x,hx⟩:=this hk;refine Mi hx (λy hy=>?_) h;rcases tameE_mem ht hy with ⟨_,_,h1⟩|⟨h1,_⟩|⟨i,h1,_⟩
   ·intro hh;rw[hh]at h1;cases h1
   ·omega
   ·omega
  ·rename_i dy;cases hx:e.get 0 BIG with
   |tr p=>grind
   |_=>rfl
 ·have hm:=(get_mem (rfl:c9.get 0 BIG=c9.get 0 BIG)).resolve_left h;rcases tameE_mem ht hm with ⟨_,_,h1⟩|⟨h1,_⟩|⟨i,h1,_⟩
  ·have h2:∀p∈leT (e.get 0 BIG) (c9.get 0 BIG),p:=i7 _ _ _ (Xe (rho:=rho) hm);unfold La at h1;split at h1
   ·rename_i p hp;rw[hp]at h2 ⊢;exact .inr (le_tr h2).symm
   ·cases h1
  ·omega
  ·omega
end
section
variable {P:Program} {Y:TypeId->Ty} {Gl:World->Prop} {X:Cx} {nt:Nat} {ds:List Deferred} {e:Env} {a:Act} {w:World} {G:Gh} {O:Nat->Prop} {Q:Exit->Act->World->Prop} {rd:Option Nat} {fu:Nat} {yd:Yd} {rho:List (Nat×Nat)}
theorem Age:∀{nj xs:List T},Fm rho xs=true->(∀p∈Cj nj (Ea rho xs),p)->∀x∈nj,∀b y,x≠.may b y
 | [],_,_,_,x,hx=>(by cases hx)
 |z::nj,[],_,h,_,_=>by grind[Ea,Cj,List.mem_cons_self]
 |z::nj,y::xs,ht,h,x,hx=>by
  simp only[Fm,aE]at ht;simp only[Ea]at h;unfold Cj at h;cases hx with
  |head=>
   intro b u hh;subst hh;have h1:∀p∈leT (.may b u) (Ba rho y),p:=λp hp=>h p (aJ _ hp);have h2:=Xi ht.1;have h3:Ba rho y≠.any:=by
    have:=ht.1;cases y<;>first|(simp only[Ba];intro hh;cases hh;done)|simp[Bg]at this
   cases hz:Ba rho y with
   |any=>exact h3 hz
   |may b' u'=>grind
   |tup xs=>
    have:=ht.1;cases y<;>trivial
   |arro _ _ _ _ _=>
    have:=ht.1;cases y<;>trivial
   |_=>rw[hz]at h1;simp only[leT,aZ,forall_eq]at h1;cases h1
  |tail _ hx=>exact Age ht.2 (λp hp=>h p (aM _ hp)) x hx
theorem Als (U:Sur P Gl X yd) (R:Rel Y X nt ds e a w G) {c9 post:Env} (hr:Gc rho=true) (ht:Ce rho c9=true) (qj:Ce rho post=true) (v8:Gb c9 c9=true) (n5:Qs c9 post=true)
  (lk:Gb (Af post c9) (Af post c9)=true) (i7:∀t k x,(t,k,x)∈Aq rho c9->∀p∈leT (e.get t k) x,p) (bj:Wj c9 (e.get 0 BIG)=true) {w':World} {G2:Gh}
  (l6:Same w w') (n8:KeepV G.vis w w') (fd:∀F k,c9.get 2 F=live->c9.get (F+3) k=.any->w'.cell? ⟨G.bk (rn rho F),k,none⟩=w.cell? ⟨G.bk (rn rho F),k,none⟩)
  (y9:∀F,G2.bk F=G.bk (rn rho F)) (Z N:Nat->Prop) (hZt:∀k b,G.tk k=some b->¬Z b) (hZd:∀D,D∈G.dm->¬Z D) (hZb:∀id,e.get 2 id≠.any->¬Z (G.bk id)) (hZx:∀b,Z b->X.base<=b) (hN:∀b,Kk G w rho c9 b->¬Z b->N b) (jg:∀b,G.vis b<=G2.vis b) (d8:∀b,b<w.heap.size->¬Z b->G2.vis b=G.vis b) (ae:∀b,w'.heap.size<=b->G2.vis b=0) (hJ:J2 X G w N (trN ((Af post c9).get 0 BIG)) G2.H G2.vis w') (v6:Mem Y (λ_=>False) (Af post c9) w' G2):
  ∃G',G'.vis=G2.vis/\G'.bk=G.bk/\(∀b,G'.H b->G2.H b)/\G'.tk=G.tk/\(∀id,e.get 2 id=.any->Env.get (Aq rho (Af post c9)++e) 2 id=.any)/\(∀F,c9.get 2 F≠.any->Env.get (Aq rho (Af post c9)++e) 2 (rn rho F)≠.any)/\Rel Y X nt ds (Aq rho (Af post c9)++e) a w' G':=by
 obtain⟨cy,_⟩:=Ab8 R hr ht v8 i7;have ja:=Alq qj ht;obtain⟨H',j1,j2,j3,j4,j5,j6,j7,j8⟩:=hJ
 -- names
 have hkind:∀{m:Env},Qs c9 m=true->∀{F x},(2,F,x)∈m->Ib x (c9.get 2 F)=true:=by
  intro m
  induction m with
  |nil=>grind
  |cons q m ih=>
   intro h F x hx;obtain⟨t,k,y⟩:=q
   match t,h,hx with
   |0,h,hx=>cases hx with|tail _ hx=>exact ih h hx
   |1,h,hx=>cases hx with|tail _ hx=>exact ih h hx
   |2,h,hx=>
    simp only[Qs,aE]at h;cases hx with
    |head=>exact h.1
    |tail _ hx=>exact ih h.2 hx
   |t+3,h,hx=>cases hx with|tail _ hx=>exact ih h hx
 have n7:∀{m:Env} {t k:Nat},(t,k)∈Bf m->∃x,(t,k,x)∈m:=by
  intro m t k
  induction m with
  |nil=>intro h;cases h
  |cons q m ih=>
   intro h;obtain⟨a,b,x⟩:=q;cases h with
   |head=>grind
   |tail _ h=>obtain⟨y,hy⟩:=ih h;grind
 have hpk:∀F,(Af post c9).get 2 F=c9.get 2 F∨Ib ((Af post c9).get 2 F) (c9.get 2 F)=true:=by
  intro F;rw[Fo];split
  ·rename_i hk;obtain⟨x,hx⟩:=n7 (Xj.1 hk);have s7:post.get 2 F≠.any:=Mi hx λy hy=>by
    rcases tameE_mem qj hy with ⟨h1,_⟩|⟨_,_,h1⟩|⟨i,h1,_⟩
    ·omega
    ·exact Ab4 h1
    ·omega
   exact .inr (hkind n5 ((get_mem (rfl:post.get 2 F=post.get 2 F)).resolve_left s7))
  ·grind
 have hov:∀F,(Af post c9).get 2 F≠.any↔c9.get 2 F≠.any:=by grind[Ib]
 have hlv:∀F,(Af post c9).get 2 F=live↔c9.get 2 F=live:=by grind[Ib,live]
 have sr:∀F,(Af post c9).get 2 F≠.any->inL F rho=true:=λF h=>(cy F ((hov F).1 h)).1
 -- entries of the new environment
 have ly:∀F,(Af post c9).get 2 F≠.any->Env.get (Aq rho (Af post c9)++e) 2 (rn rho F)=(Af post c9).get 2 F:=by
  intro F h;have hm:=(get_mem (rfl:(Af post c9).get 2 F=(Af post c9).get 2 F)).resolve_left h;have:=Mh (e:=e) hr ja (t:=2) (k:=F) (λ_=>sr F h) (λi hi=>by omega) h;rcases tameE_mem ja hm with ⟨h1,_⟩|⟨_,_,h1⟩|⟨i,h1,_⟩
  ·omega
  ·rw[show Env.get (Aq rho (Af post c9)++e) 2 (rn rho F)=Rd rho 2 ((Af post c9).get 2 F) from this];exact Xh h1
  ·omega
 have pn:∀id,(∀F,(Af post c9).get 2 F≠.any->rn rho F≠id)->Env.get (Aq rho (Af post c9)++e) 2 id=e.get 2 id:=by
  intro id h;refine Li λt' k' x hx hh=>?_;rcases tameE_mem ja hx with ⟨rfl,_⟩|⟨rfl,h1,h2⟩|⟨i,rfl,_⟩
  ·simp[Cg]at hh
  ·simp only[Cg,aD,gX]at hh;refine h k' (Mi hx λy hy=>?_) hh;rcases tameE_mem ja hy with ⟨h3,_⟩|⟨_,_,h3⟩|⟨i,h3,_⟩
   ·omega
   ·exact Ab4 h3
   ·omega
  ·grind[Cg]
 have ii:∀F k,inL F rho=true->(Af post c9).get (F+3) k≠.any->Env.get (Aq rho (Af post c9)++e) (rn rho F+3) k=Ba rho ((Af post c9).get (F+3) k):=by
  intro F k hF h;exact Mh (e:=e) hr ja (t:=F+3) (k:=k) (λh=>by omega) (λi hi=>by grind) h
 have dw:∀id k,(∀F,inL F rho=true->(Af post c9).get (F+3) k≠.any->rn rho F≠id)->Env.get (Aq rho (Af post c9)++e) (id+3) k=e.get (id+3) k:=by
  intro id k h;refine Li λt' k' x hx hh=>?_;rcases tameE_mem ja hx with ⟨rfl,_⟩|⟨rfl,h1,h2⟩|⟨i,rfl,h1,_⟩
  ·grind[Cg]
  ·grind[Cg]
  ·simp only[Cg,aD]at hh;obtain⟨h3,rfl⟩:=hh;refine h i h1 (Mi hx λy hy=>?_) (by omega);rcases tameE_mem ja hy with ⟨h4,_⟩|⟨h4,_⟩|⟨i',h4,_,_,h5⟩
   ·omega
   ·omega
   ·exact Ab5 h5
 have po:∀t,t≠BIG->Env.get (Aq rho (Af post c9)++e) 0 t=e.get 0 t:=λt ht'=>Li λt' k' x hx hh=>by
  rcases tameE_mem ja hx with ⟨rfl,rfl,_⟩|⟨rfl,_⟩|⟨i,rfl,_⟩
  ·grind[Cg]
  ·grind[Cg]
  grind[Cg]
 have du:∀k,Env.get (Aq rho (Af post c9)++e) 1 k=e.get 1 k:=λk=>Li λt' k' x hx hh=>by
  rcases tameE_mem ja hx with ⟨rfl,_⟩|⟨rfl,_⟩|⟨i,rfl,_⟩<;>simp only[Cg,aD]at hh<;>omega
 have hbigE:(Env.get (Aq rho (Af post c9)++e) 0 BIG=(Af post c9).get 0 BIG/\La ((Af post c9).get 0 BIG)=true)∨(Env.get (Aq rho (Af post c9)++e) 0 BIG=e.get 0 BIG/\trN ((Af post c9).get 0 BIG)=trN (e.get 0 BIG)):=by
  by_cases h:(Af post c9).get 0 BIG=.any
  ·refine .inr ⟨Li λt' k' x hx hh=>?_,?_⟩
   ·rcases tameE_mem ja hx with ⟨rfl,rfl,h1⟩|⟨rfl,_⟩|⟨i,rfl,_⟩
    ·refine Mi hx (λy hy=>?_) h;rcases tameE_mem ja hy with ⟨_,_,h2⟩|⟨h2,_⟩|⟨i,h2,_⟩
     ·intro hh;rw[hh]at h2;cases h2
     ·omega
     ·omega
    ·grind[Cg]
    grind[Cg]
   ·rw[h];have bd:c9.get 0 BIG=.any:=by
     rw[Fo]at h;split at h
     ·rename_i hk;exfalso;have hk:=Xj.1 hk;obtain⟨x,hx⟩:=n7 hk;refine Mi hx (λy hy=>?_) h;rcases tameE_mem qj hy with ⟨_,_,h2⟩|⟨h2,_⟩|⟨i,h2,_⟩
      ·intro hh;rw[hh]at h2;cases h2
      ·omega
      ·omega
     ·exact h
    rcases big_eq ht i7 bj with ⟨_,h1⟩|h1
    ·rw[h1];rfl
    grind
  ·have hm:=(get_mem (rfl:(Af post c9).get 0 BIG=(Af post c9).get 0 BIG)).resolve_left h;refine .inl ⟨Mh (e:=e) hr ja (t:=0) (k:=BIG) (λh=>by omega) (λi hi=>by omega) h,?_⟩;grind[tameE_mem]
 have hu:∀id,Env.get (Aq rho (Af post c9)++e) 2 id≠.any↔e.get 2 id≠.any:=by grind
 have hpany:∀F k,(Af post c9).get (F+3) k=.any->c9.get (F+3) k=.any:=by
  intro F k dy;rw[Fo]at dy;split at dy
  ·rename_i cw;exfalso;obtain⟨x,hx⟩:=n7 (Xj.1 cw);refine Mi hx (λy hy=>?_) dy;rcases tameE_mem qj hy with ⟨h3,_⟩|⟨h3,_⟩|⟨i,h3,_,_,h5⟩
   ·omega
   ·omega
   ·exact Ab5 h5
  ·exact dy
 -- blocks that nobody va touched
 have pp:∀b,Kk G w rho c9 b->¬Z b->w'.heap[b]?=w.heap[b]?:=λb h hz=>j4 b (hN b h hz);obtain⟨R',_⟩:=R.move' (w':=w') (G':=⟨G2.vis,G.bk,G.tk,H',G.dm⟩) (e':=Aq rho (Af post c9)++e)
  ⟨jg,n8,λb hb=>(j5 b hb).1⟩ l6 j6 j7 rfl rfl rfl
  Z hZt hZd (λb h1 h2 h3 hz=>⟨pp b ⟨h1,h2,λF hF=>h3 _ (cy F hF).2.1⟩ hz,d8 b h1 hz⟩) po (hbigE.imp (λh=>by grind) λh=>h.1) du hu
  (λlift id d6=>by
   by_cases h:∃F,(Af post c9).get 2 F≠.any/\rn rho F=id
   ·obtain⟨F,h1,rfl⟩:=h;obtain⟨b1,b2,b3⟩:=v6.box F h1;have hF:=sr F h1;refine⟨?_,λhf hl k hk=>?_,λk hk=>?_⟩
    ·rw[ly F h1,<-y9];have qk:Cv ((Af post c9).get 2 F)=true:=by
      rcases tameE_mem ja ((get_mem (rfl:(Af post c9).get 2 F=(Af post c9).get 2 F)).resolve_left h1) with ⟨h3,_⟩|⟨_,_,h3⟩|⟨i,h3,_⟩
      ·omega
      ·exact h3
      ·omega
     generalize (Af post c9).get 2 F=ob at b3 qk;unfold Bk at b3 ⊢;split at b3<;>trivial
    ·rw[ly F h1]at hl;have dy:(Af post c9).get (F+3) k=.any:=by
      by_cases hh:(Af post c9).get (F+3) k=.any
      ·exact hh
      ·exfalso;rw[ii F k hF hh]at hk;have hm:=(get_mem (rfl:(Af post c9).get (F+3) k=(Af post c9).get (F+3) k)).resolve_left hh;rcases tameE_mem ja hm with ⟨h3,_⟩|⟨h3,_⟩|⟨i,h3,_,h4,h5⟩
       ·omega
       ·omega
       ·rw[<-Ab3 h4]at h5;rw[hk]at h5;cases h5
     have hpk':c9.get (F+3) k=.any:=hpany F k dy;have vw:e.get (rn rho F+3) k=.any:=by grind[Tw]
     obtain⟨_,q2,q3,q4⟩:=cy F ((hov F).1 h1);have kr:=(hlv F).1 hl;rw[kr]at q4;have w9:e.get 2 (rn rho F)=live:=by grind[leT,live,List.mem_cons_self]
     rw[fd F k kr hpk'];exact R.far _ k hf w9 vw
    ·by_cases hh:(Af post c9).get (F+3) k=.any
     ·rw[dw (rn rho F) k (λF' hF' hF2 he=>hF2 (by grind[Tw]))]at hk ⊢;obtain⟨g1,g2,u,g3,g4⟩:=R.mem.cells (rn rho F) k hk;grind[Agc]
     ·rw[ii F k hF hh];obtain⟨g1,g2,u,g3,g4⟩:=v6.cells F k hh;have hm:=(get_mem (rfl:(Af post c9).get (F+3) k=(Af post c9).get (F+3) k)).resolve_left hh;rcases tameE_mem ja hm with ⟨h3,_⟩|⟨h3,_⟩|⟨i,h3,_,h4,h5⟩
      ·omega
      ·omega
      ·have hi:i=F:=by omega
       subst hi;rw[y9]at g3;refine⟨by grind,by grind[Ab3],u,g3,⟨Re (G:=⟨G2.vis,G.bk,G.tk,H',G.dm⟩) (G2:=G2) rfl y9 h4 g4.rel,(Pi h4).2,?_,?_⟩⟩
       ·refine Gy λi5 v7=>?_;grind[Ob,Pj,Ma]
       ·have:=(Pi (G:=G) (w:=w) (Y:=Y) (e:=e) h4).1;cases hx:Ba rho ((Af post c9).get (i+3) k) with
        |may b x=>grind[Xi]
        |_=>rw[hx]at this;intro k' t8;grind
   ·have hoid:=pn id λF h1 h2=>h ⟨F,h1,h2⟩;obtain⟨b1,b2,b3⟩:=R.mem.box id d6;have hk:Kk G w rho c9 (G.bk id):=⟨b2,b1,λF hF hh=>h ⟨F,(hov F).2 hF,R.mem.inj _ _ (cy F hF).2.1 d6 hh⟩⟩
    have hs:=pp _ hk (hZb id d6);have hco:∀k,Env.get (Aq rho (Af post c9)++e) (id+3) k=e.get (id+3) k:=λk=>dw id k λF hF hF2 hh=>by
     have hm:=(get_mem (rfl:(Af post c9).get (F+3) k=(Af post c9).get (F+3) k)).resolve_left hF2;grind[Pj,Ma]
    refine⟨?_,λhf hl k t8=>?_,λk t8=>?_⟩
    ·rw[hoid];generalize e.get 2 id=ob at b3;exact b3.stay jg n8 hs (d8 _ b2 (hZb id d6)) λj bb hb=>⟨hb,pp _ ⟨(R.tks _ bb hb).2.1,(R.tks _ bb hb).2.2.1,λF hF=>(R.tks _ bb hb).2.2.2.2 _ (cy F hF).2.1⟩ (hZt _ bb hb),d8 _ (R.tks _ bb hb).2.1 (hZt _ bb hb)⟩
    ·rw[hoid]at hl;rw[hco]at t8;rw[bF hs];exact R.far id k hf hl t8
    ·rw[hco]at t8 ⊢;obtain⟨g1,g2,u,g3,g4⟩:=R.mem.cells id k t8;grind[World.cell?_of_block])
  (λid k hk=>by
   by_cases h:∃F,inL F rho=true/\(Af post c9).get (F+3) k≠.any/\rn rho F=id
   ·obtain⟨F,h1,h2,rfl⟩:=h;have hm:=(get_mem (rfl:(Af post c9).get (F+3) k=(Af post c9).get (F+3) k)).resolve_left h2;grind[Pj,Ma]
   ·rw[dw id k λF h1 h2 h3=>h ⟨F,h1,h2,h3⟩]at hk;rw[(R.mem.cells id k hk).1];exact Bc)
  ae (λb hb=>d8 b (aX hb R.base) (λhz=>by grind)) (by
   grind)
 grind
end
section
variable {P:Program} {Y:TypeId->Ty} {Gl:World->Prop} {X:Cx} {nt:Nat} {ds:List Deferred} {e:Env} {a:Act} {w:World} {G:Gh} {O:Nat->Prop} {Q:Exit->Act->World->Prop} {rd:Option Nat} {fu:Nat} {yd:Yd} {rho:List (Nat×Nat)}
theorem Xl {vis:Nat->Nat} {g g':Tag} {n:Nat} {f:Nat->List C} {v:Value} (h:Rep vis w (.s g n f) v):Rep vis w (.s g' n f) v:=by
 cases h with
 |nil=>exact .nil _ _
 |e _ _ a=>exact .e _ _ a
 |s _ _ _ b off cap sz u a1 a2 a3 a4 a5 a6=>exact .s _ _ _ b off cap sz u a1 a2 a3 a4 a5 a6
theorem Ab9 {k:Nat} {m:Env} (ht:Ce rho m=true):Env.get (Aq rho m++e) 1 k=e.get 1 k:=Li λt' k' x hx hh=>by
 rcases tameE_mem ht hx with ⟨rfl,_⟩|⟨rfl,_⟩|⟨i,rfl,_⟩<;>simp only[Cg,aD]at hh<;>omega
theorem Alt {k:Nat} {x:T}:∀{m:Env},Ce rho m=true->(1,k,x) ∉ Aq rho m
 | [],_,h=>nomatch h
 |(t,j,y)::m,ht,h=>by
  have hm:Ce rho m=true:=Agb λt k x hx=>tameE_mem ht (.tail _ hx);rw[Ab1]at h;rcases eL.1 h with h|h
  ·have h2:1=(Cg rho t j).1:=(Prod.mk.inj h).1;rcases tameE_mem ht (aC (a:=(t,j,y)) (l:=m)) with ⟨rfl,_⟩|⟨rfl,_⟩|⟨i,rfl,_⟩<;>simp only[Cg]at h2<;>omega
  ·exact Alt hm h
def Rel.kill (R:Rel Y X nt ds e a w G) (k:Nat):
  Rel Y X nt ds ((1,k,Bx)::e) a w { G with tk:=λt=>if t=Tk.o k then none else G.tk t }:=by
 obtain⟨G',hG⟩:∃G':Gh,({ G with tk:=λt=>if t=Tk.o k then none else G.tk t }:Gh)=G':=⟨_,rfl⟩
 rw[hG];have g1:∀t j,t≠1->Env.get ((1,k,Bx)::e) t j=e.get t j:=λt j h=>Bb (λhh=>h hh.1.symm);have g2:∀j,Env.get ((1,k,Bx)::e) 1 j=if k=j then Bx else e.get 1 j:=λj=>by
  grind[Am]
 have gt:∀t b,G'.tk t=some b->t≠Tk.o k/\G.tk t=some b:=λt b h=>by
  subst hG;grind
 have hv:G'.vis=G.vis:=by grind
 have hb:G'.bk=G.bk:=by grind
 have hH:G'.H=G.H:=by grind
 have hd:G'.dm=G.dm:=by grind
 have lift:∀{x:T} {v:Value},VOK G w X.fz Y e x v->VOK G' w X.fz Y ((1,k,Bx)::e) x v:=λ{x v} h=>
  VOK.mono ⟨λb=>by grind,.refl _ _,λ_ _=>rfl⟩ (λ_ _=>by rw[hb]) (λid h=>by trivial) (λj hj=>by
   rw[g2];split
   ·exact⟨λhh=>(by cases hh),λel hh=>(by cases hh)⟩
   grind) (λj b hj w6 kr=>by
   obtain⟨el,kr⟩:=kr;rw[g2]at kr;split at kr
   ·cases kr
   ·rename_i s7;refine⟨?_,rfl,by rw[hv]⟩;subst hG;grind) h
 refine⟨⟨λid j hj=>?_,λid d6=>?_,λid i5 i1 i2 hh=>?_⟩,R.size,by rw[hd];exact R.defers,λD hD=>by rw[hH];rw[hd]at hD;exact R.marks D hD,λt=>by rw[g1 0 t (by decide)];exact lift (R.slots t),λt b ht=>?_,λt t' b h1 h2=>R.tinj t t' b (gt t b h1).2 (gt t' b h2).2,λt b ht=>?_,
  by rw[hv];exact R.fresh,by rw[hv];exact R.old,R.base,λid d6=>by rw[hb];rw[g1 2 id (by decide)]at d6;exact R.ownb id d6,by rw[hH];exact R.hlt,by rw[hH];exact R.fzh,by rw[g1 0 BIG (by decide),hH,hv];exact R.jj,λid j hf h1 h2=>by rw[hb];rw[g1 2 id (by decide)]at h1;rw[g1 (id+3) j (by omega)]at h2;exact R.far id j hf h1 h2⟩
 ·rw[g1 (id+3) j (by omega)]at hj ⊢;rw[g1 2 id (by decide),hb];obtain⟨q1,q2,u,q3,q4⟩:=R.mem.cells id j hj;grind
 ·rw[g1 2 id (by decide)]at d6 ⊢;obtain⟨q1,q2,q3⟩:=R.mem.box id d6;rw[hb,hH];refine⟨q1,q2,q3.stay (λb=>by grind) (.refl _ _) rfl (by rw[hv]) λj bb hj=>⟨?_,rfl,by rw[hv]⟩⟩;subst hG;trivial
 ·rw[g1 2 _ (by decide)]at i1 i2;rw[hb]at hh;exact R.mem.inj id i5 i1 i2 hh
 ·obtain⟨h1,h2⟩:=gt t b ht;obtain⟨q1,q2,q3,q4,q5⟩:=R.tks t b h2;grind
 ·obtain⟨h1,h2⟩:=gt t b ht;exact (R.tlive t b h2).mono (λj hj=>by
   rw[g2];split
   ·exact λhh=>by cases hh
   ·exact hj) λid d6=>⟨by trivial,by rw[hb]⟩
def Rel.recell (R:Rel Y X nt ds e a w G) {id c:Nat} {x:T} {u:Value} (hc:e.get (id+3) c≠.any) (h1:x.one=true) (hx:x≠.any) (hu:w.cell? ⟨G.bk id,c,none⟩=some u) (hv:VOK G w X.fz Y e x u):Rel Y X nt ds ((id+3,c,x)::e) a w G:=by
 have g1:∀t j,t<3->Env.get ((id+3,c,x)::e) t j=e.get t j:=λt j h=>Bb (λhh=>by omega);have g2:∀i j,Env.get ((id+3,c,x)::e) (i+3) j=if id=i/\c=j then x else e.get (i+3) j:=λi j=>by
  grind[Am]
 have lift:∀{x':T} {v:Value},VOK G w X.fz Y e x' v->VOK G w X.fz Y ((id+3,c,x)::e) x' v:=λ{x' v} h=>h.env (λi=>g1 2 i (by decide)) (λi=>g1 1 i (by decide));refine⟨⟨λi j hj=>?_,λi hi=>?_,λi i' h1 h2=>?_⟩,R.size,R.defers,R.marks,λt=>by rw[g1 0 t (by decide)];exact lift (R.slots t),λt b ht=>?_,R.tinj,λt b ht=>?_,R.fresh,R.old,R.base,λi hi=>by rw[g1 2 i (by decide)]at hi;exact R.ownb i hi,R.hlt,R.fzh,by rw[g1 0 BIG (by decide)];exact R.jj,λi j hf h1 h2=>?_⟩
 ·rw[g2]at hj ⊢;rw[g1 2 i (by decide)]
  by_cases h:id=i/\c=j
  ·rw[bG h];obtain⟨rfl,rfl⟩:=h;exact⟨(R.mem.cells id c hc).1,h1,u,hu,lift hv⟩
  ·rw[bI h]at hj ⊢;obtain⟨q1,q2,u,q3,q4⟩:=R.mem.cells i j hj;grind
 ·rw[g1 2 i (by decide)]at hi ⊢;exact R.mem.box i hi
 ·rw[g1 2 _ (by decide)]at h1 h2;exact R.mem.inj i i' h1 h2
 ·obtain⟨q1,q2,q3,q4,q5⟩:=R.tks t b ht;trivial
 ·exact (R.tlive t b ht).mono (λj hj=>by trivial) λi hi=>⟨by trivial,rfl⟩
 ·rw[g1 2 i (by decide)]at h1;rw[g2]at h2;split at h2
  ·trivial
  ·exact R.far i j hf h1 h2
theorem Avj (U:Sur P Gl X yd) (R:Rel Y X nt ds e a w G) {o:Oper} {args:Array Operand} {us vs:Array Value}
  {g:FuncId} {fst f8 ys xs:List T} (ho:CallAs P a o g us args vs) (hf:VOK G w X.fz Y e (.fn g fst f8) (.func (.func g) us vs)) {bs:List Prop} (hys0:(∀p∈bs,p)->VOKs G w X.fz Y e ys (args.toList.map a.eval)) {c9 post:Env} {d9:Orc} {x0:T} {el F c:Nat} {d:Done} {r1 r2:List (Nat×Nat)}
  (hd:(Af2 (Does P Y Gl) yd o.dst rho bs g (fst++ys++f8) xs c9 post el F c x0 d9).run e.get r1=some (d,r2)) {K:Act->World->Prop}
  (hK:∀vc hyp val wr o',d=.go vc hyp val wr o'->∀v w' G',(∀p∈hyp,p)->Rel Y X nt ds (wr++e) a w' G'->VOK G' w' X.fz Y (wr++e) val v->K (a.put o.dst v) w')
  (r9:∀p∈(match d with| .go vc _ _ _ _=>vc| .pan vc _ _ _=>vc),p):o.wpIn (Fr rd) fu P a w K Q:=by
 unfold Af2 at hd;replace hd:=Al hd;obtain⟨hb,hd⟩:=hd;obtain⟨hb,hFr⟩:=and_true hb;obtain⟨hb,lk⟩:=and_true hb;obtain⟨hb,v8⟩:=and_true hb;obtain⟨hb,n5⟩:=and_true hb;obtain⟨hb,ee⟩:=and_true hb;obtain⟨hb,qj⟩:=and_true hb;obtain⟨hr,ht⟩:=and_true hb;obtain⟨ps,r3,h1,h2⟩:=Ah hd;simp only[M.run]at h2;replace h2:=Al h2;obtain⟨bj,h2⟩:=h2;simp only[M.run]at h2;split at h2
 case h_2=>trivial
 rename_i k n f d0 n' f' n0 f0 hx w7 hpo hpr;simp only[M.run]at h2;split at h2
 case h_2=>trivial
 rename_i bz hy;replace h2:=Al h2;obtain⟨w9,h2⟩:=h2;obtain rfl:=aG w9;simp only[M.run]at h2;split at h2
 case h_2=>trivial
 rename_i hz;simp only[M.run,aA,aD]at h2;obtain⟨rfl,_⟩:=h2;have jf:=hys0 λp hp=>r9 p (aJ _ (aJ _ (aJ _ hp)));have f7:∀p∈Cj (fst++ys++f8) (Ea rho xs),p:=λp hp=>r9 p (aJ _ (aJ _ (aM _ hp)));have de:∀p∈ps,p:=λp hp=>r9 p (aJ _ (aM _ hp));have di:Does P Y Gl yd g xs c9 (.new (.tok bz) [(F,c,x0)]) post:=r9 _ (aM _ aC);have hX:Aax P Y Gl yd g xs c9 bz F c post:=di.2;have i7:=Ab2 h1 de
 -- the slice
 have eu:=R.mem.cells (rn rho F) c (by grind);obtain⟨fp,_,u,hu,hv⟩:=eu;rw[hx]at hv;obtain⟨own1,own2⟩:Own G w Y k bz n f u:=hv.own bz hy;have hmF:=(get_mem (rfl:c9.get (F+3) c=c9.get (F+3) c)).resolve_left (by grind);have hse:SEq n f n0 f0:=by
  have h9:=i7 _ _ _ (Xe (rho:=rho) hmF);have h9:∀p∈leT (e.get (rn rho F+3) c) (Ba rho (c9.get (F+3) c)),p:=h9;rw[hx,hpr]at h9;exact h9 _ (by simp[Ba,leT,leD,leC])
 obtain⟨rfl,hse2⟩:=hse;have i9:∀i,i<n->(f0 i).length=(Y bz).size:=λi hi=>by
  grind[Oa]
 obtain⟨cy,_⟩:=Ab8 R hr ht v8 i7;obtain⟨z,qv,hz2⟩:∃z:Option Nat,(∀H':Nat->Prop,(∀b,z=some b->¬H' b)->XC (Y bz).size (Jf rho G H') w c9 bz n f0 u z)/\∀b,z=some b->G.tk (.o k)=some b:=by
  rcases own2 with h|⟨_,h⟩|⟨b,jl,q1,q2,q3,q4⟩
  ·exact⟨none,λ_ _=>⟨i9,.inl h⟩,λ_ h=>nomatch h⟩
  ·exact⟨none,λ_ _=>⟨i9,.inr h⟩,λ_ h=>nomatch h⟩
  ·obtain⟨t1,t2,t3,t4,t5⟩:=R.tks _ b q1;exact⟨some b,λH' hH=>⟨i9,t2,hH b rfl,t4,λF' hF' hh=>t5 _ (cy F' hF').2.1 hh,q2,⟨jl,q3⟩,q4⟩,λb' h=>by grind⟩
 obtain⟨Hc,hHc⟩:∃Hc:Nat->Prop,Hc=λb=>b<w.heap.size/\(∀F,c9.get 2 F≠.any->G.bk (rn rho F)≠b)/\z≠some b:=⟨_,rfl⟩
 obtain⟨_,v6⟩:=Alr (H:=Hc) R (λF hF hh=>by grind) hr ht v8 i7;have hnm:=Age ee f7;have ae:=hf.rel;simp only[Aa]at ae;obtain⟨lu,vt,ak,h3,h4⟩:=ae;simp only[iI,gX]at ak;obtain⟨rfl,rfl⟩:=ak;obtain⟨h5,h6⟩:=jf.rel λx hx=>hnm x (aJ _ (aM _ hx));have kq:Ac G w X.fz (fst++ys++f8) (us++args.map a.eval++vs).toList:=by
  have:=(h3.app h5).app h4;simpa using this
 have nw:Ac (Jf rho G Hc) w (λ_=>False) xs (us++args.map a.eval++vs).toList:=Pg ee (Il f7 kq);have hN:∀b,Hc b↔G.H b∨(Kk G w rho c9 b/\z≠some b):=by
  intro b;rw[hHc];constructor
  ·rintro⟨q1,q2,q3⟩
   by_cases h:G.H b
   ·exact .inl h
   ·exact .inr ⟨⟨q1,h,q2⟩,q3⟩
  ·rintro (h|⟨⟨q1,q2,q3⟩,q4⟩)
   ·exact⟨R.hlt b h,λF hF hh=>(R.mem.box _ (cy F hF).2.1).1 (by grind),λhh=>(R.tks _ b (hz2 b hh)).2.2.1 h⟩
   trivial
 have gi:trN (c9.get 0 BIG)=trN (e.get 0 BIG):=by
  rcases big_eq ht i7 bj with ⟨q1,q2⟩|q1
  ·rw[q1,q2];rfl
  ·rw[q1]
 have m6:=hX (J2 X G w λb=>Kk G w rho c9 b/\z≠some b) (Jf rho G Hc) w _ u z Ab7 (λp H vi w' ⟨H',_,_,q,_⟩=>U.gl _ _ _ _ q) (Agd U) R.fresh (λb hb=>by have hb:Hc b:=hb;grind)
  ⟨G.H,hN,λb hb=>⟨hb.1.2.1,hb.1.1⟩,by rw[gi];exact R.jj,λ_ _=>rfl,λb hb=>⟨rfl,R.fzh b hb⟩,λ_ _=>gU,R.hlt,.refl _⟩ v6 nw ⟨hu,n,f0,hpr,qv Hc (λb h hh=>by grind)⟩
 refine Tu ho.nd (ho.ex w di.1) m6 λen w' ⟨qen,q1,q2,q3,q4,G2,u',z',g1,gle,g2,g3,g4,g5,g6,g7,⟨x1,n1,f1,x2,x3⟩,g9⟩=>?_;subst qen;refine⟨λv ak=>?_,λch dx=>(by cases dx),λhh=>(by cases hh)⟩;simp only[cB]at ak;subst ak;have hkl:e.get 1 k≠.any:=by grind
 have R0:=R.kill k;obtain⟨G0,hG0⟩:∃G0:Gh,({ G with tk:=λt=>if t=Tk.o k then none else G.tk t }:Gh)=G0:=⟨_,rfl⟩
 rw[hG0]at R0;have v0:G0.vis=G.vis:=by grind
 have b0:G0.bk=G.bk:=by grind
 have H0:G0.H=G.H:=by grind
 have D0:G0.dm=G.dm:=by grind
 have t0:∀t b,G0.tk t=some b->t≠Tk.o k/\G.tk t=some b:=λt b h=>by
  subst hG0;grind
 have he0:∀t j,t≠1->Env.get ((1,k,Bx)::e) t j=e.get t j:=λt j h=>Bb (λhh=>h hh.1.symm);have hle0:∀t j x,(t,j,x)∈Aq rho c9->∀p∈leT (Env.get ((1,k,Bx)::e) t j) x,p:=λt j x hx=>by
  grind[Alt]
 have hK0:Kk G0 w rho c9=Kk G w rho c9:=by grind[Kk]
 obtain⟨G',tp,hGb,hGH,hGt,tq,s4,R'⟩:=Als U R0 hr ht qj v8 n5 lk hle0 (by trivial) q1 (by rw[v0];exact q2) (by rw[b0];exact q4) (λF=>by rw[g1,b0];rfl) (λb=>z=some b) (λb=>Kk G w rho c9 b/\z≠some b)
  (λt b h hz=>by obtain⟨h7,h8⟩:=t0 t b h;exact h7 (R.tinj t _ b h8 (hz2 b hz))) (λD hD hz=>by
   rw[D0]at hD;obtain⟨_,_,_,⟨cs,t,q4⟩,_⟩:=R.tks _ D (hz2 D hz);rw[(R.marks D hD).2.1]at q4;cases q4) (λid d6 hz=>by rw[b0]at hz;rw[he0 2 id (by decide)]at d6;exact (R.tks _ _ (hz2 _ hz)).2.2.2.2 id d6 rfl) (λb hz=>(R.tks _ b (hz2 b hz)).1) (λb h hz=>by rw[hK0]at h;trivial) (by rw[v0];exact gle) (λb h hz=>by rw[v0];exact g2 b h hz) g3 (by unfold J2 at g6 ⊢;grind) g7
 have lr:=Alq qj ht;obtain⟨rfl,rfl⟩:n1=n'/\f1=f':=by
  grind
 have pq:Env.get (Aq rho (Af post c9)++(1,k,Bx)::e) (rn rho F+3) c=.d (.c (.s .n n1 f1)):=by
  have:=Mh (e:=(1,k,Bx)::e) hr lr (t:=F+3) (k:=c) (λh=>by omega) (λi hi=>by grind) (by grind);rw[hpo]at this;exact this
 obtain⟨cl1,cl2,u2,vv,tu⟩:=R'.mem.cells (rn rho F) c (by grind);rw[pq]at tu;have hbk':G'.bk=G.bk:=hGb.trans b0;have iu:u2=u':=by
  rw[g1]at x1;have x1:w'.cell? ⟨G.bk (rn rho F),c,none⟩=some u':=x1;rw[hbk',x1]at vv;exact (bS vv).symm
 subst iu;have hkd:k≠d0+FAR:=λhh=>by grind
 have hFD:FAR<=d0+FAR:=dZ FAR d0;generalize d0+FAR=D at hz hkd hFD hK r9 ⊢;have hd1:Env.get (Aq rho (Af post c9)++(1,k,Bx)::e) 1 (D)=.any:=by grind[Ab9,Bb]
 have xr:∀i,i<n1->(f1 i).length=(Y bz).size:=by
  cases z' with
  |none=>exact x3.1
  |some b=>exact x3.1
 obtain⟨R'',_⟩:=Mf R' (w':=w') (vis':=G'.vis) (tb:=z') (el:=bz) (d:=D) (kd:=none) none hd1 (.refl _) (λ_ _ _=>rfl) (λb h=>nomatch h) (λ_=>aI _) (.refl _ _) (λ_ _=>rfl)
  (λb hb=>by
   subst hb;obtain⟨_,y1,y2,y3,_,y5,y6,y7⟩:=x3;have cq:=g9 b rfl;refine⟨?_,y1,λhh=>y2 (hGH b hh),y3,λid d6 hh=>?_,λt _ ht=>?_⟩
   ·rcases cq with h|h
    ·exact bJ R.base h
    ·exact (R.tks _ b (hz2 b h)).1
   ·have v7:e.get 2 id≠.any:=λh=>d6 (tq id (by trivial));rw[hbk']at hh;rcases cq with h|h
    ·have:=(R.mem.box id v7).2.1;omega
    ·exact (R.tks _ b (hz2 b h)).2.2.2.2 id v7 hh
   ·rw[hGt]at ht;obtain⟨h7,h8⟩:=t0 t b ht;rcases cq with h|h
    ·have:=(R.tks _ b h8).2.1;omega
    ·exact h7 (R.tinj t _ b h8 (hz2 b h)))
  (λ_ _ _ _=>⟨rfl,rfl⟩) R'.fresh (λ_ _=>rfl) (λ_ _=>rfl)
 have hc'':Env.get ((1,D,As bz)::Fi none++(Aq rho (Af post c9)++(1,k,Bx)::e)) (rn rho F+3) c=.d (.c (.s .n n1 f1)):=by trivial
 have i6:Rep G'.vis w' (.s .n n1 f1) u2:=tu.reld;have l7:Own (tkG G' G'.vis (D) z' none) w' Y (D) bz n1 f1 u2:=by
  refine⟨xr,?_⟩;cases z' with
  |none=>
   rcases x3.2 with h|h
   ·exact .inl h
   grind
  |some b=>
   obtain⟨_,y1,y2,y3,_,y5,⟨jl,y6⟩,y7⟩:=x3;grind
 have R3:=R''.recell (id:=rn rho F) (c:=c) (x:=.d (.c (.s (.t (D)) n1 f1))) (u:=u2) (by grind) rfl (by simp) vv (Mg (kd:=none) (Xl i6) l7);have wo:∀{A B B':Env} {t j:Nat},Env.get B t j=Env.get B' t j->Env.get (A++B) t j=Env.get (A++B') t j:=by
  intro A B B' t j h
  induction A with
  |nil=>exact h
  |cons q A ih=>grind[Am]
 refine hK _ _ _ _ _ rfl (.tuple #[]) w' _ (λ_ h=>nomatch h) (R3.congr λt j=>?_) ⟨?_,trivial,λid d6=>?_,λk hk=>?_⟩
 ·show Env.get ((rn rho F+3,c,_)::(1,D,As bz)::(1,k,Bx)::(Aq rho (Af post c9)++e)) t j=Env.get ((rn rho F+3,c,_)::(1,D,As bz)::(Aq rho (Af post c9)++(1,k,Bx)::e)) t j
  rw[Am,Am,Am (e:=(1,D,As bz)::_),Am (e:=Aq rho (Af post c9)++(1,k,Bx)::e)];congr 1;congr 1
  by_cases h:t=1
  ·subst h;rw[Am,Ab9 lr,Ab9 lr,Am]
  grind[Bb]
 ·simp only[Aa];exact⟨#[],rfl,rfl,λj x v h=>by simp at h⟩
 ·trivial
 trivial
end
section
variable {P:Program} {Y:TypeId->Ty} {Gl:World->Prop} {X:Cx} {nt:Nat} {ds:List Deferred} {e:Env} {a:Act} {w:World} {G:Gh} {O:Nat->Prop} {Q:Exit->Act->World->Prop} {rd:Option Nat} {fu:Nat} {yd:Yd} {rho:List (Nat×Nat)}
theorem Agf:∀{rho:List (Nat×Nat)} {r r':List (Nat×Nat)} {u:Unit},(Wi rho).run e.get r=some (u,r')->∀F,inL F rho=true->e.get 2 (rn rho F)=.any/\rn rho F<FAR
 | [],_,_,_,_,F,h=>by trivial
 |(A,b)::rho,r,r',u,h,F,hF=>by
  unfold Wi at h;obtain⟨hb,h⟩:=Al h;simp only[M.run]at h;split at h
  ·rename_i wh;cases hA:A.beq F with
   |true=>
    have:rn ((A,b)::rho) F=b:=by simp[rn,hA]
    rw[this];exact⟨wh,Bh hb⟩
   |false=>
    have:rn ((A,b)::rho) F=rn rho F:=by simp[rn,hA]
    rw[this];refine Agf h F ?_;grind[inL]
  trivial
theorem Aba {E:Env}:∀{l:List Nat},Jr E l=true->∀id∈l,E.get 2 id≠.any
 | [],_,_,h=>(by cases h)
 |i::r,h,id,d6=>by
  simp only[Jr,aE]at h;cases d6 with
  |head=>grind[Iy]
  |tail _ d6=>exact Aba h.2 id d6
theorem Alu:∀{m:Env},no0 m=true->∀{t k x},(t,k,x)∈m->t≠0
 | [],_,_,_,_,h=>(by cases h)
 |(t0,k0,x0)::m,hm,t,k,x,h=>by
  simp only[no0,aE]at hm;cases h with
  |head=>have:=Bh hm.1;omega
  |tail _ h=>exact Alu hm.2 h
theorem Rel.adoptN (R:Rel Y X nt ds e a w G) {m:Env} (hr:Gc rho=true) (ht:Ce rho m=true) (h0:no0 m=true) (v8:Gb m m=true) (ae:∀F,inL F rho=true->e.get 2 (rn rho F)=.any/\rn rho F<FAR)
  {base:Nat} (hb:X.base<=base) {bk:Nat->Nat} {Gm:Gh} (hGv:Gm.vis=G.vis) (hGb:Gm.bk=bk) (qk:∀id,m.get 2 id≠.any->base<=bk id/\bk id<w.heap.size/\Bk Gm w (m.get 2 id) (bk id))
  (ry:∀id i5,m.get 2 id≠.any->m.get 2 i5≠.any->bk id=bk i5->id=i5)
  (eu:∀id k,m.get (id+3) k≠.any->m.get 2 id=live/\∃u,w.cell? ⟨bk id,k,none⟩=some u/\Aa Gm w (λ_=>False) (m.get (id+3) k) u)
  (x9:∀id,e.get 2 id≠.any->G.bk id<base) (cm:∀k b,G.tk k=some b->b<base) (hH:∀b,G.H b->b<base):
  ∃G',G'.vis=G.vis/\(∀F,inL F rho=true->G'.bk (rn rho F)=bk F)/\(∀id,Env.get (Aq rho m++e) 2 id≠.any->(∃F,inL F rho=true/\m.get 2 F≠.any/\id=rn rho F)∨e.get 2 id≠.any/\G'.bk id=G.bk id)/\G'.H=G.H/\G'.tk=G.tk/\Rel Y X nt ds (Aq rho m++e) a w G'/\∀x v,VOK G w X.fz Y e x v->VOK G' w X.fz Y (Aq rho m++e) x v:=by
 classical
 obtain⟨G',hG⟩:∃G',({ G with bk:=λid=>if h:∃F,inL F rho=true/\rn rho F=id then bk h.choose else G.bk id }:Gh)=G':=⟨_,rfl⟩
 have d8:G'.vis=G.vis:=by grind
 have ig:G'.tk=G.tk:=by grind
 have hH':G'.H=G.H:=by grind
 have hbn:∀F,inL F rho=true->G'.bk (rn rho F)=bk F:=λF hF=>by
  subst hG;have ub:∃F',inL F' rho=true/\rn rho F'=rn rho F:=⟨F,hF,rfl⟩
  grind[Tw]
 have la:∀id,(∀F,inL F rho=true->rn rho F≠id)->G'.bk id=G.bk id:=λid h=>by
  subst hG;grind
 have sd:∀id,e.get 2 id≠.any->∀F,inL F rho=true->rn rho F≠id:=λid d6 F hF hh=>d6 (by grind);have pr:∀{F:Nat},m.get 2 F≠.any->inL F rho=true/\Cv (m.get 2 F)=true:=λ{F} h=>by
  rcases tameE_mem ht ((get_mem (rfl:m.get 2 F=m.get 2 F)).resolve_left h) with ⟨h3,_⟩|⟨_,h3,h4⟩|⟨i,h3,_⟩
  ·omega
  ·trivial
  ·omega
 have hminc:∀{F k:Nat},m.get (F+3) k≠.any->inL F rho=true/\Bg rho (m.get (F+3) k)=true/\(m.get (F+3) k).one=true/\∀id,id∈Aj (m.get (F+3) k)->m.get 2 id≠.any:=λ{F k} h=>by
  have hm:=(get_mem (rfl:m.get (F+3) k=m.get (F+3) k)).resolve_left h;rcases tameE_mem ht hm with ⟨h3,_⟩|⟨h3,_⟩|⟨i,h3,h4,h5,h6⟩
  ·omega
  ·omega
  grind[Pj,Ma]
 have ly:∀F,m.get 2 F≠.any->Env.get (Aq rho m++e) 2 (rn rho F)=m.get 2 F:=λF h=>by
  have:=Mh (e:=e) hr ht (t:=2) (k:=F) (λ_=>(pr h).1) (λi hi=>by omega) h;rw[show Env.get (Aq rho m++e) 2 (rn rho F)=Rd rho 2 (m.get 2 F) from this];exact Xh (pr h).2
 have pn:∀id,(∀F,m.get 2 F≠.any->rn rho F≠id)->Env.get (Aq rho m++e) 2 id=e.get 2 id:=λid h=>Li λt' k' x hx hh=>by
  rcases tameE_mem ht hx with ⟨rfl,_⟩|⟨rfl,h1,h2⟩|⟨i,rfl,_⟩
  ·simp[Cg]at hh
  ·simp only[Cg,aD,gX]at hh;refine h k' (Mi hx λy hy=>?_) hh;rcases tameE_mem ht hy with ⟨h3,_⟩|⟨_,_,h3⟩|⟨i,h3,_⟩
   ·omega
   ·exact Ab4 h3
   ·omega
  grind[Cg]
 have ii:∀F k,m.get (F+3) k≠.any->Env.get (Aq rho m++e) (rn rho F+3) k=Ba rho (m.get (F+3) k):=λF k h=>
  Mh (e:=e) hr ht (t:=F+3) (k:=k) (λh=>by omega) (λi hi=>by grind) h
 have dw:∀id k,(∀F,inL F rho=true->m.get (F+3) k≠.any->rn rho F≠id)->Env.get (Aq rho m++e) (id+3) k=e.get (id+3) k:=λid k h=>Li λt' k' x hx hh=>by
  rcases tameE_mem ht hx with ⟨rfl,_⟩|⟨rfl,h1,h2⟩|⟨i,rfl,h1,_⟩
  ·grind[Cg]
  ·grind[Cg]
  ·simp only[Cg,aD]at hh;obtain⟨h3,rfl⟩:=hh;refine h i h1 (Mi hx λy hy=>?_) (by omega);rcases tameE_mem ht hy with ⟨h4,_⟩|⟨h4,_⟩|⟨i',h4,_,_,h5⟩
   ·omega
   ·omega
   ·exact Ab5 h5
 have po:∀t,Env.get (Aq rho m++e) 0 t=e.get 0 t:=λt=>Li λt' k' x hx hh=>by
  have:=Alu h0 hx;rcases tameE_mem ht hx with ⟨rfl,_⟩|⟨rfl,_⟩|⟨i,rfl,_⟩
  ·trivial
  ·grind[Cg]
  grind[Cg]
 have du:∀k,Env.get (Aq rho m++e) 1 k=e.get 1 k:=λk=>Li λt' k' x hx hh=>by
  rcases tameE_mem ht hx with ⟨rfl,_⟩|⟨rfl,_⟩|⟨i,rfl,_⟩<;>simp only[Cg,aD]at hh<;>omega
 have hkeepO:∀id,e.get 2 id≠.any->Env.get (Aq rho m++e) 2 id=e.get 2 id:=λid d6=>pn id λF hF hh=>sd id d6 F (pr hF).1 hh
 -- every object there is either new or was there
 have hcase:∀id,Env.get (Aq rho m++e) 2 id≠.any->(∃F,m.get 2 F≠.any/\rn rho F=id)∨e.get 2 id≠.any:=λid d6=>by
  grind
 obtain⟨R',lift⟩:=R.move (w':=w) (G':=G') (e':=Aq rho m++e) ⟨λb=>by grind,.refl _ _,λ_ _=>rfl⟩ (.refl _) hH' (by grind) (λ_ _=>rfl) (λ_ _=>rfl) po
  (λid h=>⟨la id (sd id h),by grind⟩) (λk h=>by grind) (λk c _ hc _=>⟨by grind,rfl,by rw[d8]⟩)
  (λlift id d6=>by
   by_cases h:∃F,m.get 2 F≠.any/\rn rho F=id
   ·obtain⟨F,hF,rfl⟩:=h;obtain⟨sr,tv⟩:=pr hF;obtain⟨b1,b2,b3⟩:=qk F hF;obtain⟨f1,f2⟩:=ae F sr;have hbF:=hbn F sr;refine .inr ⟨λhh=>?_,by omega,⟨λ_=>by omega,λbh=>absurd f2 (fV.2 bh)⟩,λi5 v7 hh=>?_,λk hh=>?_,?_,λbh=>absurd f2 (fV.2 bh),λk hk=>?_⟩
    ·grind
    ·grind
    ·rw[ig,hbF]at hh;grind
    ·rw[ly F hF,hbF];generalize m.get 2 F=ob at b3 tv;unfold Bk at b3 ⊢;rw[hGv,<-d8]at b3;split at b3<;>trivial
    ·by_cases hm:m.get (F+3) k≠.any
     ·obtain⟨g1,u,g2,g3⟩:=eu F k hm;obtain⟨c1,c2,c3,c4⟩:=hminc hm;rw[ii F k hm];refine⟨by grind,by grind[Ab3],u,by grind,⟨?_,(Pi c2).2,?_,?_⟩⟩
      ·refine Re (O':=λ_=>False) (G:=G') (G2:={ Gm with vis:=G'.vis,bk:=λF=>G'.bk (rn rho F) }) rfl (λF=>rfl) c2 ?_;refine Aa.mono (O:=λ_=>False) (G:=Gm) ⟨λb=>by grind,.refl _ _,λ_ hf=>hf.elim⟩ (Gy λid d6=>?_) g3;grind
      ·refine Gy λi5 v7=>?_;grind[Ob]
      ·have:=(Pi (G:=G) (w:=w) (Y:=Y) (e:=e) c2).1;cases hx:Ba rho (m.get (F+3) k) with
       |may b x=>grind[Xi]
       |_=>rw[hx]at this;intro k' t8;grind
     ·have hm':m.get (F+3) k=.any:=iA.1 hm;rw[dw (rn rho F) k λF' hF' hh he=>hh (by grind[Tw])]at hk;exact absurd (R.mem.cells _ k hk).1 (by rw[f1];exact λh=>Bc h.symm)
   grind)
  (λid k hk=>by
   by_cases h:∃F,inL F rho=true/\m.get (F+3) k≠.any/\rn rho F=id
   ·obtain⟨F,h1,h2,rfl⟩:=h;have hl:=(eu F k h2).1;have:m.get 2 F≠.any:=by rw[hl];exact Bc
    grind
   ·rw[dw id k λF h1 h2 h3=>h ⟨F,h1,h2,h3⟩]at hk;have hl:e.get 2 id≠.any:=by rw[(R.mem.cells id k hk).1];exact Bc
    grind)
  (λk c hc=>by
   rw[ig]at hc;obtain⟨q1,q2,q3,q4,q5⟩:=R.tks k c hc;exact⟨q1,q2,q3,q4,q5,(R.tlive k c hc).mono (λk hk=>by grind) λid d6=>⟨by grind,la id (sd id d6)⟩⟩)
  (λk k' c h h'=>by rw[ig]at h h';exact R.tinj k k' c h h') (λc hc=>by rw[d8];exact R.fresh c hc) (λc _=>by rw[d8]) (λc _=>by rw[d8])
 grind
theorem Avk (S:Set P Y Gl) (hX:∀p H vi w,X.J p H vi w->Gl w) (R:Rel Y X nt ds e a w G) {o:Oper} {args:Array Operand} {us vs:Array Value}
  {g:FuncId} {fst f8 ys xs:List T} (ho:CallAs P a o g us args vs) (hf:VOK G w X.fz Y e (.fn g fst f8) (.func (.func g) us vs)) (jf:VOKs G w X.fz Y e ys (args.toList.map a.eval)) {gv:Gv} {r r':List (Nat×Nat)}
  (hc:(Fh (fst++ys++f8)).run e.get r=some ((xs,gv),r')) (de:∀p∈gv.1,p) {o9:Res} (ck:Computes P Gl g xs o9) {bs:List Prop} {d9:Orc} {d:Done} {r1 r2:List (Nat×Nat)}
  (hd:(Aa0 rho bs (Computes P Gl g xs o9) gv d9 o9).run e.get r1=some (d,r2)) {K:Act->World->Prop}
  (hK:∀vc hyp val wr o',d=.go vc hyp val wr o'->∀v w' G',(∀p∈hyp,p)->Rel Y X nt ds (wr++e) a w' G'->VOK G' w' X.fz Y (wr++e) val v->K (a.put o.dst v) w'):o.wpIn (Fr rd) fu P a w K Q:=by
 obtain⟨ps,W⟩:=gv;obtain⟨G',av,R',d8,hW,d7,m6⟩:=Ag5 S hX R ho hf jf hc de ck;refine Tu ho.nd d7 m6 λen w' ⟨p8,ef⟩=>?_;unfold Aa0 at hd;split at hd
 case h_2=>trivial
 rename_i x m _;obtain⟨hb,hd⟩:=Al hd;obtain⟨hb,hix⟩:=and_true hb;obtain⟨hb,v8⟩:=and_true hb;obtain⟨hb,ee⟩:=and_true hb;obtain⟨hb,h0⟩:=and_true hb;obtain⟨hr,ht⟩:=and_true hb;obtain⟨u,r3,h1,h2⟩:=Ah hd;simp only[M.run,aA,aD]at h2;obtain⟨rfl,_⟩:=h2;obtain⟨v,vis',rfl,bq,cj,bk,n1,n2,n3,n4,_⟩:=ef;refine⟨λv' ak=>?_,λch dx=>(by cases dx),λhh=>(by cases hh)⟩;simp only[cB]at ak;subst ak;obtain⟨R2,dz⟩:=R'.after p8 bq cj;have hWe:∀id,Env.get (W++e) 2 id≠.any->e.get 2 id≠.any:=λid h hh=>by
  rcases get_frz (t:=2) (k:=id) hW with ⟨x,_,hm,_⟩|h'
  ·obtain⟨_,_,hx⟩:=hW _ _ _ hm;rcases hx with ⟨_,_,_,hx|⟨_,_,_,_,hx,_⟩,_⟩|⟨_,_,_,_,hx,_⟩<;>rw[hh]at hx<;>cases hx
  grind
 have ae:=Agf h1;obtain⟨G3,q1,q2,q3,q4,q5,R3,ot⟩:=R2.adoptN (rho:=rho) (m:=m) hr ht h0 v8 (λF hF=>⟨iA.1 λh=>hWe _ h (ae F hF).1,(ae F hF).2⟩) (base:=w.heap.size) R.base (bk:=bk) (Gm:={ Gh0 vis' with bk:=bk }) rfl rfl n1 n2 n3
  (λid d6=>(R'.mem.box id d6).2.1) (λk b hk=>(R'.tks k b hk).2.1) (λb hb=>R'.hlt b hb)
 have wo:(Aq rho m++W)++e=Aq rho m++(W++e):=List.append_assoc _ _ _;refine hK _ _ _ _ _ rfl _ w' G3 (λ_ h=>(by cases h)) (by grind) ?_;rw[wo];refine⟨?_,(Pi ee).2,?_,?_⟩
 ·refine Re (O':=λ_=>False) (G:=G3) (G2:={ Gh0 vis' with vis:=G3.vis,bk:=λF=>G3.bk (rn rho F) }) rfl (λF=>rfl) ee ?_;refine Aa.mono (O:=λ_=>False) (G:={ Gh0 vis' with bk:=bk }) ⟨λb=>by dsimp only;rw[q1];exact aI _,.refl _ _,λ_ hf=>hf.elim⟩ (Gy λid d6=>?_) n4;grind[Ob]
 ·refine Gy λi5 v7=>?_;obtain⟨F',p1,p2,rfl⟩:=(Ob ee).2 i5 v7;have hu:m.get 2 F'≠.any:=Aba hix F' p2;have lm:=Mh (e:=W++e) hr ht (t:=2) (k:=F') (λ_=>p1) (λi hi=>by omega) hu;have qk:Cv (m.get 2 F')=true:=by
   rcases tameE_mem ht ((get_mem (rfl:m.get 2 F'=m.get 2 F')).resolve_left hu) with ⟨h3,_⟩|⟨_,_,h4⟩|⟨i,h3,_⟩
   ·omega
   ·exact h4
   ·omega
  rw[show Env.get (Aq rho m++(W++e)) 2 (rn rho F')=Rd rho 2 (m.get 2 F') from lm]
  show Ba rho (m.get 2 F')≠.any
  grind[Xh]
 ·have:=(Pi (G:=G) (w:=w) (Y:=Y) (e:=e) ee).1;cases hx:Ba rho x with
  |may b y=>grind[Xi]
  |_=>rw[hx]at this;intro k' t8;grind
theorem Avl (S:Set P Y Gl) (hX:∀p H vi w,X.J p H vi w->Gl w) (R:Rel Y X nt ds e a w G) {o:Oper} {args:Array Operand} {us vs:Array Value}
  {g:FuncId} {fst f8 ys xs:List T} (ho:CallAs P a o g us args vs) (hf:VOK G w X.fz Y e (.fn g fst f8) (.func (.func g) us vs)) (jf:VOKs G w X.fz Y e ys (args.toList.map a.eval)) {gv:Gv} {r r':List (Nat×Nat)}
  (hc:(Fh (fst++ys++f8)).run e.get r=some ((xs,gv),r')) (de:∀p∈gv.1,p) {x:T} {m:Env} {el F c sz:Nat} (ck:Computes P Gl g xs (.new x ((1,0,.elt el F c sz)::m))) {bs:List Prop} {d9:Orc} {d:Done} {r1 r2:List (Nat×Nat)}
  (hd:(Aa1 Y o.dst rho bs (Computes P Gl g xs (.new x ((1,0,.elt el F c sz)::m))) gv d9 x el F c sz m).run e.get r1=some (d,r2)) {K:Act->World->Prop}
  (hK:∀vc hyp val wr o',d=.go vc hyp val wr o'->∀v w' G',(∀p∈hyp,p)->Rel Y X nt ds (wr++e) a w' G'->VOK G' w' X.fz Y (wr++e) val v->K (a.put o.dst v) w'):o.wpIn (Fr rd) fu P a w K Q:=by
 obtain⟨ps,W⟩:=gv;obtain⟨G',av,R',d8,hW,d7,m6⟩:=Ag5 S hX R ho hf jf hc de ck;refine Tu ho.nd d7 m6 λen w' ⟨p8,ef⟩=>?_;unfold Aa1 at hd;obtain⟨hb,hd⟩:=Al hd;obtain⟨hb,j9⟩:=and_true hb;obtain⟨hb,hFr⟩:=and_true hb;obtain⟨hb,hix⟩:=and_true hb;obtain⟨hb,v8⟩:=and_true hb;obtain⟨hb,ee⟩:=and_true hb;obtain⟨hb,h0⟩:=and_true hb;obtain⟨hr,ht⟩:=and_true hb;have j9:=aG j9;subst j9;obtain⟨u,r3,h1,h2⟩:=Ah hd;split at h2
 case h_2=>trivial
 rename_i d0 nn ff w7 hmc;simp only[M.run]at h2;split at h2
 case h_2=>trivial
 rename_i hz;simp only[M.run,aA,aD]at h2;obtain⟨rfl,_⟩:=h2;obtain⟨v,vis',rfl,bq,cj,bk,n1,n2,n3,n4,nX⟩:=ef;obtain⟨u9,z9,⟨x1,n9,f9,x2,x3⟩,x4⟩:∃u z,XAt (Y el).size { Gh0 vis' with bk:=bk } w' ((1,0,.elt el F c (Y el).size)::m) el F c u z/\∀b,z=some b->w.heap.size<=b:=nX;obtain⟨rfl,rfl⟩:n9=nn/\f9=ff:=by
  have x2:m.get (F+3) c=.d (.c (.s .n n9 f9)):=x2;grind
 refine⟨λv' ak=>?_,λch dx=>(by cases dx),λhh=>(by cases hh)⟩;simp only[cB]at ak;subst ak;obtain⟨R2,dz⟩:=R'.after p8 bq cj;have hWe:∀id,Env.get (W++e) 2 id≠.any->e.get 2 id≠.any:=λid h hh=>by
  rcases get_frz (t:=2) (k:=id) hW with ⟨x,_,hm,_⟩|h'
  ·obtain⟨_,_,hx⟩:=hW _ _ _ hm;rcases hx with ⟨_,_,_,hx|⟨_,_,_,_,hx,_⟩,_⟩|⟨_,_,_,_,hx,_⟩<;>rw[hh]at hx<;>cases hx
  grind
 have ae:=Agf h1;obtain⟨G3,q1,q2,q3,q4,q5,R3,ot⟩:=R2.adoptN (rho:=rho) (m:=m) hr ht h0 v8 (λF hF=>⟨iA.1 λh=>hWe _ h (ae F hF).1,(ae F hF).2⟩) (base:=w.heap.size) R.base (bk:=bk) (Gm:={ Gh0 vis' with bk:=bk }) rfl rfl n1 n2 n3
  (λid d6=>(R'.mem.box id d6).2.1) (λk b hk=>(R'.tks k b hk).2.1) (λb hb=>R'.hlt b hb)
 have wo:(Aq rho m++W)++e=Aq rho m++(W++e):=List.append_assoc _ _ _
 -- the answer's value
 have kz:VOK G3 w' X.fz Y (Aq rho m++(W++e)) (Ba rho x) v:=by
  refine⟨?_,(Pi ee).2,?_,?_⟩
  ·refine Re (O':=λ_=>False) (G:=G3) (G2:={ Gh0 vis' with vis:=G3.vis,bk:=λF=>G3.bk (rn rho F) }) rfl (λF=>rfl) ee ?_;refine Aa.mono (O:=λ_=>False) (G:={ Gh0 vis' with bk:=bk }) ⟨λb=>by dsimp only;rw[q1];exact aI _,.refl _ _,λ_ hf=>hf.elim⟩ (Gy λid d6=>?_) n4;grind[Ob]
  ·refine Gy λi5 v7=>?_;obtain⟨F',p1,p2,rfl⟩:=(Ob ee).2 i5 v7;have hu:m.get 2 F'≠.any:=Aba hix F' p2;have lm:=Mh (e:=W++e) hr ht (t:=2) (k:=F') (λ_=>p1) (λi hi=>by omega) hu;have qk:Cv (m.get 2 F')=true:=by
    rcases tameE_mem ht ((get_mem (rfl:m.get 2 F'=m.get 2 F')).resolve_left hu) with ⟨h3,_⟩|⟨_,_,h4⟩|⟨i,h3,_⟩
    ·omega
    ·exact h4
    ·omega
   rw[show Env.get (Aq rho m++(W++e)) 2 (rn rho F')=Rd rho 2 (m.get 2 F') from lm]
   show Ba rho (m.get 2 F')≠.any
   grind[Xh]
  ·have:=(Pi (G:=G) (w:=w) (Y:=Y) (e:=e) ee).1;cases hx:Ba rho x with
   |may b y=>grind[Xi]
   |_=>rw[hx]at this;intro k' t8;grind
 -- the slice,as a token's
 have hFD:FAR<=d0+FAR:=dZ FAR d0;generalize d0+FAR=D at hz hFD hK ⊢;have uc:∀k,Env.get (W++e) 1 k=e.get 1 k:=λk=>Nu hW (by decide);have hd1:Env.get (Aq rho m++(W++e)) 1 D=.any:=by grind[Ab9]
 have pq:Env.get (Aq rho m++(W++e)) (rn rho F+3) c=.d (.c (.s .n n9 f9)):=by
  have:=Mh (e:=W++e) hr ht (t:=F+3) (k:=c) (λh=>by omega) (λi hi=>by grind) (by grind);rw[hmc]at this;exact this
 obtain⟨_,_,u2,vv,tu⟩:=R3.mem.cells (rn rho F) c (by grind);rw[pq]at tu;have iu:u2=u9:=by grind
 subst iu;have xr:∀i,i<n9->(f9 i).length=(Y el).size:=by
  cases z9 with
  |none=>exact x3.1
  |some b=>exact x3.1
 obtain⟨R4,lift4⟩:=Mf R3 (w':=w') (vis':=G3.vis) (tb:=z9) (el:=el) (d:=D) (kd:=none) none hd1 (.refl _) (λ_ _ _=>rfl) (λb h=>nomatch h) (λ_=>aI _) (.refl _ _) (λ_ _=>rfl)
  (λb hb=>by
   subst hb;obtain⟨_,y1,y2,y3,y4,y5,y6,y7⟩:=x3;have cq:=x4 b rfl;refine⟨bJ R.base cq,y1,λhh=>?_,y3,λid d6 hh=>?_,λt _ htt=>?_⟩
   ·rw[q4]at hh;have:b<w.heap.size:=R'.hlt b hh;omega
   ·rcases q3 id d6 with ⟨F',f1,f2,rfl⟩|⟨h1,h2⟩
    ·rw[q2 F' f1]at hh;exact y4 F' f2 hh
    ·have hh2:G'.bk id=b:=h2.symm.trans hh;have:=(R'.mem.box id h1).2.1;omega
   ·rw[q5]at htt;have:b<w.heap.size:=(R'.tks t b htt).2.1;omega)
  (λ_ _ _ _=>⟨rfl,rfl⟩) R3.fresh (λ_ _=>rfl) (λ_ _=>rfl)
 have hc'':Env.get ((1,D,As el)::Fi none++(Aq rho m++(W++e))) (rn rho F+3) c=.d (.c (.s .n n9 f9)):=by trivial
 have i6:Rep G3.vis w' (.s .n n9 f9) u2:=tu.reld;have l7:Own (tkG G3 G3.vis D z9 none) w' Y D el n9 f9 u2:=by
  refine⟨xr,?_⟩;cases z9 with
  |none=>
   rcases x3.2 with h|h
   ·exact .inl h
   grind
  |some b=>
   obtain⟨_,y1,y2,y3,_,y5,⟨jl,y6⟩,y7⟩:=x3;exact .inr (.inr ⟨b,jl,bG rfl,y5,y6,by rw[q1];exact y7⟩)
 have R5:=R4.recell (id:=rn rho F) (c:=c) (x:=.d (.c (.s (.t D) n9 f9))) (u:=u2) (by grind) rfl (by simp) vv (Mg (kd:=none) (Xl i6) l7);have hv5:=(lift4 _ _ kz).env (e':=(rn rho F+3,c,.d (.c (.s (.t D) n9 f9)))::((1,D,As el)::Fi none++(Aq rho m++(W++e)))) (λid=>Bb (λhh=>by omega)) (λk=>Bb (λhh=>by omega));grind[Fi]
end
section
variable {P:Program} {Y:TypeId->Ty} {Gl:World->Prop} {X:Cx} {nt:Nat} {ds:List Deferred} {e:Env} {a:Act} {w:World} {G:Gh} {O:Nat->Prop} {Q:Exit->Act->World->Prop} {rd:Option Nat} {fu:Nat} {yd:Yd} {rho:List (Nat×Nat)}
theorem Avm (U:Sur P Gl X yd) (R:Rel Y X nt ds e a w G) {o:Oper} {args:Array Operand} {us vs:Array Value}
  {g:FuncId} {fst f8 ys xs:List T} (ho:CallAs P a o g us args vs) (hf:VOK G w X.fz Y e (.fn g fst f8) (.func (.func g) us vs)) (jf:VOKs G w X.fz Y e ys (args.toList.map a.eval)) {c9 post:Env} {bs:List Prop} {d9:Orc} {o9:Res} {d:Done} {r1 r2:List (Nat×Nat)}
  (hd:(Tc (Does P Y Gl) yd rho bs g (fst++ys++f8) xs c9 post d9 o9).run e.get r1=some (d,r2)) {K:Act->World->Prop}
  (hK:∀vc hyp val wr o',d=.go vc hyp val wr o'->(∀p∈vc,p)->∀v w' G',(∀p∈hyp,p)->Rel Y X nt ds (wr++e) a w' G'->VOK G' w' X.fz Y (wr++e) val v->K (a.put o.dst v) w')
  (hP:∀vc v wr o',d=.pan vc v wr o'->(∀p∈vc,p)->∀w' G',Rel Y X nt ds (wr++e) a w' G'->Q (.panic [{ v,recovered:=false }]) a w')
  (r9:∀p∈(match d with| .go vc _ _ _ _=>vc| .pan vc _ _ _=>vc),p):o.wpIn (Fr rd) fu P a w K Q:=by
 unfold Tc at hd;replace hd:=Al hd;obtain⟨hb,hd⟩:=hd;obtain⟨hb,lk⟩:=and_true hb;obtain⟨hb,v8⟩:=and_true hb;obtain⟨hb,n5⟩:=and_true hb;obtain⟨hb,ee⟩:=and_true hb;obtain⟨hb,qj⟩:=and_true hb;obtain⟨hr,ht⟩:=and_true hb;obtain⟨ps,r3,h1,h2⟩:=Ah hd;simp only[M.run]at h2;replace h2:=Al h2;obtain⟨bj,h2⟩:=h2
 -- all that is ud
 have ud:(∀p∈Cj (fst++ys++f8) (Ea rho xs),p)/\(∀p∈ps,p)/\Does P Y Gl yd g xs c9 o9 post/\Jy o9=true:=by
  have key:(∀p∈bs++Cj (fst++ys++f8) (Ea rho xs)++ps++[Does P Y Gl yd g xs c9 o9 post],p)->(∀p∈Cj (fst++ys++f8) (Ea rho xs),p)/\(∀p∈ps,p)/\Does P Y Gl yd g xs c9 o9 post:=λh=>
   ⟨λp hp=>h p (aJ _ (aJ _ (aM _ hp))),λp hp=>h p (aJ _ (aM _ hp)),h _ (aM _ aC)⟩
  split at h2
  ·simp only[M.run,aA,aD]at h2;obtain⟨rfl,_⟩:=h2;exact have k:=key r9;⟨k.1,k.2.1,k.2.2,rfl⟩
  ·simp only[M.run,aA,aD]at h2;obtain⟨rfl,_⟩:=h2;exact have k:=key r9;⟨k.1,k.2.1,k.2.2,rfl⟩
  ·trivial
  ·obtain⟨_,h2⟩:=Al h2;simp only[M.run,aA,aD]at h2;obtain⟨rfl,_⟩:=h2;exact have k:=key r9;⟨k.1,k.2.1,k.2.2,rfl⟩
  ·trivial
  ·simp only[M.run,aA,aD]at h2;obtain⟨rfl,_⟩:=h2;exact have k:=key r9;⟨k.1,k.2.1,k.2.2,rfl⟩
 obtain⟨f7,de,di,hns⟩:=ud;have i7:=Ab2 h1 de;obtain⟨cy,v6⟩:=Ab8 R hr ht v8 i7;have hnm:=Age ee f7;have ae:=hf.rel;simp only[Aa]at ae;obtain⟨lu,vt,hv,h3,h4⟩:=ae;simp only[iI,gX]at hv;obtain⟨rfl,rfl⟩:=hv;obtain⟨h5,h6⟩:=jf.rel λx hx=>hnm x (aJ _ (aM _ hx));have kq:Ac G w X.fz (fst++ys++f8) (us++args.map a.eval++vs).toList:=by
  have:=(h3.app h5).app h4;simpa using this
 have nw:Ac (Jf rho G λb=>b<w.heap.size/\∀F,c9.get 2 F≠.any->G.bk (rn rho F)≠b) w (λ_=>False) xs (us++args.map a.eval++vs).toList:=Pg ee (Il f7 kq);have hN:∀b,(b<w.heap.size/\∀F,c9.get 2 F≠.any->G.bk (rn rho F)≠b)↔G.H b∨Kk G w rho c9 b:=by
  intro b;constructor
  ·rintro⟨q1,q2⟩
   by_cases h:G.H b
   ·exact .inl h
   ·exact .inr ⟨q1,h,q2⟩
  ·rintro (h|⟨q1,q2,q3⟩)
   ·exact⟨R.hlt b h,λF hF hh=>(R.mem.box _ (cy F hF).2.1).1 (by grind)⟩
   trivial
 have gi:trN (c9.get 0 BIG)=trN (e.get 0 BIG):=by
  rcases big_eq ht i7 bj with ⟨q1,q2⟩|q1
  ·rw[q1,q2];rfl
  ·rw[q1]
 have m6:=di.run hns (J2 X G w (Kk G w rho c9)) (Jf rho G λb=>b<w.heap.size/\∀F,c9.get 2 F≠.any->G.bk (rn rho F)≠b) w _ Ab7 (λp H vi w' ⟨H',_,_,q,_⟩=>U.gl _ _ _ _ q) (Agd U) R.fresh (λb hb=>hb.1)
  ⟨G.H,hN,λb hb=>⟨hb.2.1,hb.1⟩,by rw[gi];exact R.jj,λ_ _=>rfl,λb hb=>⟨rfl,R.fzh b hb⟩,λ_ _=>gU,R.hlt,.refl _⟩ v6 nw
 have cg:=ho.ex w di.1;refine Tu ho.nd cg m6 λen w' ⟨q1,q2,q3,q4,G2,g1,g2,g3,g4,g5,g6,g7,g8⟩=>?_;obtain⟨G',tp,hGb,hGH,hGt,tq,s4,R'⟩:=Als U R hr ht qj v8 n5 lk i7 bj q1 q2 q4 (λF=>by rw[g1];rfl) (λ_=>False) (Kk G w rho c9) (λ_ _ _ h=>h) (λ_ _ h=>h) (λ_ _ h=>h) (λ_ h=>h.elim) (λ_ h _=>h) (λb=>by
  rcases bL b w.heap.size with h|h
  ·rw[g2 b h];exact aI _
  ·rw[R.fresh b h];omega) (λb h _=>g2 b h) g3 g6 g7
 split at h2
 ·rename_i x _;simp only[M.run,aA,aD]at h2;obtain⟨rfl,_⟩:=h2;obtain⟨v,rfl,kl⟩:=g8;refine⟨λv' ak=>?_,λch dx=>(by cases dx),λhh=>(by cases hh)⟩;simp only[cB]at ak;subst ak;refine hK _ _ _ _ _ rfl r9 v w' G' (λ_ h=>(by cases h)) R' ?_;rw[<-tp]at kl;exact Tv (x:=.d x) kl (λ_ _ _ hh=>by cases hh) (λ_ _ _ _ hh=>by cases hh)
 ·rename_i x _;simp only[M.run,aA,aD]at h2;obtain⟨rfl,_⟩:=h2;obtain⟨v,rfl,kl⟩:=g8;refine⟨λv' ak=>?_,λch dx=>(by cases dx),λhh=>(by cases hh)⟩;simp only[cB]at ak;subst ak;refine hK _ _ _ _ _ rfl r9 v w' G' (λ_ h=>(by cases h)) R' ?_;rw[<-tp]at kl;exact Tv (x:=.tup x) kl (λ_ _ _ hh=>by cases hh) (λ_ _ _ _ hh=>by cases hh)
 ·trivial
 ·rename_i h x _;obtain⟨cu,h2⟩:=Al h2;obtain⟨htam,o6⟩:=and_true cu;simp only[M.run,aA,aD]at h2;obtain⟨rfl,_⟩:=h2;obtain⟨b,u,rfl,b4,b5,b6⟩:=g8;refine⟨λv' ak=>?_,λch dx=>(by cases dx),λhh=>(by cases hh)⟩;simp only[cB]at ak;subst ak;refine hK _ _ _ _ _ rfl r9 _ w' G' (λ_ h=>(by cases h)) R' ⟨?_,trivial,λid d6=>?_,λ_ h=>(by cases h)⟩
  ·simp only[Aa,Ac];exact⟨#[],#[_],rfl,rfl,_,[],rfl,⟨b,u,rfl,by grind,b5,Re (G2:=G2) tp.symm (λF=>by rw[g1,hGb];rfl) htam b6⟩,rfl⟩
  grind[Aj,Bo,Ob,Aba]
 ·trivial
 grind[M.run]
def Avn (hY:YOK P Y) {name:String} {x f:T} {u:Value} (h:Aek Y name x=some f) (hx:VOK G w O Y e x u):
  ∃t g y v,f=.fn g [y] []/\u=.iface t v/\(∀w:World,(method (P.types.size+Made.depth) t v name).run P w=.ok (g,v) w)/\Aa G w O y v/\Aj y=[]:=by
 have ue:∀{t g},(bif (Y t).known then Ly (Y t).meth name else none)=some g->∀(v:Value) (w:World),(method (P.types.size+Made.depth) t v name).run P w=.ok (g,v) w:=by
  intro t g hg;cases hk:(Y t).known with
  |true=>
   rw[hk]at hg;obtain⟨_,_,_,_,_,_,_,_,_,_,_,_,_,_,hm⟩:=hY t hk;grind
  |false=>grind
 unfold Aek at h;split at h
 ·rename_i t ag cs;split at h
  ·rename_i g y hg hy;obtain rfl:=(bS h).symm;have pk:Rep G.vis w (.i t ag cs) u:=hx.reld;cases pk with
   |i _ _ _ v hs hl hr=>
    have hyd:∃d,y=.d d:=by
     unfold asD at hy;grind
    obtain⟨d,rfl⟩:=hyd;have h1:=(Afw (O:=O) (Y:=Y) (e:=e) hy hs ⟨hl,hr⟩).1;exact⟨t,g,_,v,rfl,rfl,ue hg v,by trivial,rfl⟩
  ·cases h
 ·rename_i t v;split at h
  ·rename_i g y hg hy;obtain rfl:=(bS h).symm;have hp:=Cl hx;obtain⟨d,rfl,h1,_⟩:=Afv (G:=G) (w:=w) (O:=O) (Y:=Y) (e:=e) hy;exact⟨t,g,_,v,rfl,hp,ue hg v,by trivial,rfl⟩
  ·cases h
 ·cases h
theorem Alv (S:Set P Y Gl) (U:Sur P Gl X yd) (R:Rel Y X nt ds e a w G) {o:Oper} {d9:Orc} {d:Done} {r r':List (Nat×Nat)} {g:FuncId} {fst f8:List T} {us vs:Array Value} {args:Array Operand} (ho:CallAs P a o g us args vs)
  (hf:VOK G w X.fz Y e (.fn g fst f8) (.func (.func g) us vs)) (h:(Wk (Computes P Gl) (Does P Y Gl) Y yd o.dst (.fn g fst f8) args.toList d9).run e.get r=some (d,r'))
  (r9:∀p∈(match d with| .go vc _ _ _ _=>vc| .pan vc _ _ _=>vc),p) {K:Act->World->Prop}
  (hK:∀vc hyp val wr o',d=.go vc hyp val wr o'->∀v w' G',(∀p∈hyp,p)->Rel Y X nt ds (wr++e) a w' G'->VOK G' w' X.fz Y (wr++e) val v->K (a.put o.dst v) w')
  (hP:∀vc v wr o',d=.pan vc v wr o'->∀w' G',Rel Y X nt ds (wr++e) a w' G'->Q (.panic [{ v,recovered:=false }]) a w'):o.wpIn (Fr rd) fu P a w K Q:=by
 unfold Wk at h;dsimp only at h;obtain⟨⟨ys,bs⟩,r2,h3,h4⟩:=Ah h;have wcase:∀{rho:List (Nat×Nat)} {xs:List T} {c9 post:Env} {x:Res} {o':Orc} {d:Done} {r2 r':List (Nat×Nat)},(Tc (Does P Y Gl) yd rho bs g (fst++ys++f8) xs c9 post o' x).run e.get r2=some (d,r')->
   (∀p∈(match d with| .go vc _ _ _ _=>vc| .pan vc _ _ _=>vc),p)->
   (∀vc hyp val wr o',d=.go vc hyp val wr o'->∀v w' G',(∀p∈hyp,p)->Rel Y X nt ds (wr++e) a w' G'->VOK G' w' X.fz Y (wr++e) val v->K (a.put o.dst v) w')->
   (∀vc v wr o',d=.pan vc v wr o'->∀w' G',Rel Y X nt ds (wr++e) a w' G'->Q (.panic [{ v,recovered:=false }]) a w')->o.wpIn (Fr rd) fu P a w K Q:=by
  intro rho xs c9 post x o' d r2 r' h4 r9 hK hP;have hbs:∀p∈bs,p:=by
   have h7:=h4;unfold Tc at h7;replace h7:=(Al h7).2;obtain⟨ps,_,_,h8⟩:=Ah h7;simp only[M.run]at h8;replace h8:=(Al h8).2;split at h8
   ·simp only[M.run,aA,aD]at h8;obtain⟨rfl,_⟩:=h8;exact λp hp=>r9 p (aJ _ (aJ _ (aJ _ hp)))
   ·simp only[M.run,aA,aD]at h8;obtain⟨rfl,_⟩:=h8;exact λp hp=>r9 p (aJ _ (aJ _ (aJ _ hp)))
   ·trivial
   ·obtain⟨_,h8⟩:=Al h8;simp only[M.run,aA,aD]at h8;obtain⟨rfl,_⟩:=h8;exact λp hp=>r9 p (aJ _ (aJ _ (aJ _ hp)))
   ·trivial
   ·simp only[M.run,aA,aD]at h8;obtain⟨rfl,_⟩:=h8;exact λp hp=>r9 p (aJ _ (aJ _ (aJ _ hp)))
  exact Avm U R ho hf (Ig R h3 hbs) h4 (λvc hyp val wr o' hd _=>hK vc hyp val wr o' hd) (λvc v wr o' hd _=>hP vc v wr o' hd) r9
 split at h4
 ·rename_i x o';obtain⟨⟨xs,gv⟩,r3,h5,h6⟩:=Ah h4;have all:(∀p∈bs,p)/\(∀p∈gv.1,p)/\Computes P Gl g xs x:=by
   have key:(∀p∈bs++gv.1++[Computes P Gl g xs x],p)->(∀p∈bs,p)/\(∀p∈gv.1,p)/\Computes P Gl g xs x:=λh=>⟨λp hp=>h p (aJ _ (aJ _ hp)),λp hp=>h p (aJ _ (aM _ hp)),h _ (aM _ aC)⟩
   have h7:=h6;unfold Zz at h7;split at h7
   ·obtain⟨out,_,_,h8⟩:=Ah h7;grind[M.run]
   ·obtain⟨_,h7⟩:=Al h7;obtain⟨out,_,_,h8⟩:=Ah h7;grind[M.run]
   ·grind[M.run]
   ·grind[M.run]
   ·grind[M.run]
   ·grind[M.run]
   ·trivial
   ·trivial
   ·grind[M.run]
  exact Avg S U.gl R ho hf (Ig R h3 all.1) h5 all.2.1 all.2.2 h6 hK hP
 ·exact Avj U R ho hf (λhbs=>Ig R h3 hbs) h4 hK r9
 ·grind
 ·unfold Ajq at h4;obtain⟨d0,r3,h5,h6⟩:=Ah h4;cases d0 with
  |go vc hyp val wr o1=>
   obtain⟨qs,r4,h7,h8⟩:=Ah h6;simp only[M.run,aA,aD]at h8;obtain⟨rfl,_⟩:=h8;have hq:=Alm h7 λp hp=>r9 p (aJ _ hp);refine wcase h5 (λp hp=>r9 p (aM _ hp)) (λ_ _ _ _ _ hd v w' G' hh R' hv=>?_) (λ_ _ _ _ hd=>by cases hd);cases hd;have vg:∀t k,e.get t k=Env.get (wr++e) t k:=λt k=>(hq t k).symm;exact hK _ _ _ _ _ rfl v w' G' hh (R'.congr vg) (hv.congr vg)
  |pan _ _ _ _=>trivial
 ·rename_i rho x el F c sz m o';obtain⟨⟨xs,gv⟩,r3,h5,h6⟩:=Ah h4;have all:(∀p∈bs,p)/\(∀p∈gv.1,p)/\Computes P Gl g xs (.new x ((1,0,.elt el F c sz)::m)):=by
   have key:(∀p∈bs++gv.1++[Computes P Gl g xs (.new x ((1,0,.elt el F c sz)::m))],p)->(∀p∈bs,p)/\(∀p∈gv.1,p)/\Computes P Gl g xs (.new x ((1,0,.elt el F c sz)::m)):=λh=>⟨λp hp=>h p (aJ _ (aJ _ hp)),λp hp=>h p (aJ _ (aM _ hp)),h _ (aM _ aC)⟩
   have h7:=h6;unfold Aa1 at h7;obtain⟨_,h7⟩:=Al h7;obtain⟨_,_,_,h8⟩:=Ah h7;split at h8
   case h_2=>trivial
   simp only[M.run]at h8;split at h8
   case h_2=>trivial
   simp only[M.run,aA,aD]at h8;obtain⟨rfl,_⟩:=h8;exact key r9
  exact Avl S U.gl R ho hf (Ig R h3 all.1) h5 all.2.1 all.2.2 h6 hK
 ·rename_i rho x o' _;obtain⟨⟨xs,gv⟩,r3,h5,h6⟩:=Ah h4;have all:(∀p∈bs,p)/\(∀p∈gv.1,p)/\Computes P Gl g xs x:=by
   have key:(∀p∈bs++gv.1++[Computes P Gl g xs x],p)->(∀p∈bs,p)/\(∀p∈gv.1,p)/\Computes P Gl g xs x:=λh=>⟨λp hp=>h p (aJ _ (aJ _ hp)),λp hp=>h p (aJ _ (aM _ hp)),h _ (aM _ aC)⟩
   have h7:=h6;unfold Aa0 at h7;split at h7
   ·obtain⟨_,h7⟩:=Al h7;obtain⟨_,_,_,h8⟩:=Ah h7;grind[M.run]
   ·trivial
  exact Avk S U.gl R ho hf (Ig R h3 all.1) h5 all.2.1 all.2.2 h6 hK
 trivial
theorem Rf (S:Set P Y Gl) (U:Sur P Gl X yd) (R:Rel Y X nt ds e a w G) {o:Oper} {d9:Orc} {d:Done} {r r':List (Nat×Nat)} (h:(eff (Computes P Gl) (Does P Y Gl) Y yd o d9).run e.get r=some (d,r'))
  (r9:∀p∈(match d with| .go vc _ _ _ _=>vc| .pan vc _ _ _=>vc),p) {K:Act->World->Prop}
  (hK:∀vc hyp val wr o',d=.go vc hyp val wr o'->∀v w' G',(∀p∈hyp,p)->Rel Y X nt ds (wr++e) a w' G'->VOK G' w' X.fz Y (wr++e) val v->K (a.put o.dst v) w')
  (hP:∀vc v wr o',d=.pan vc v wr o'->∀w' G',Rel Y X nt ds (wr++e) a w' G'->Q (.panic [{ v,recovered:=false }]) a w'):o.wpIn (Fr rd) fu P a w K Q:=by
 unfold eff at h;split at h
 ·rename_i fo args ek ca;obtain⟨fv,r1,h1,h2⟩:=Ah h;have hfv:=Ju R h1;unfold Wk at h2;split at h2
  ·rename_i g fst f8;have da:=hfv.rel;simp only[Aa]at da;obtain⟨us,vs,hv,_⟩:=da;rw[hv]at hfv;exact Alv S U R (.value ca hv) hfv (by trivial) r9 hK hP
  ·rename_i l;obtain⟨⟨ys,bs⟩,r2,h3,h4⟩:=Ah h2;obtain⟨⟨xs,ps,W⟩,r3,h5,h6⟩:=Ah h4;simp only[M.run]at h6;split at h6
   ·rename_i n hn;replace h6:=Al h6;obtain⟨hb,h6⟩:=h6;obtain⟨ar,w6⟩:=and_true hb;simp only[M.run,aA,aD]at h6;obtain⟨rfl,_⟩:=h6;have r9:∀p∈bs++ps++[l=yd.l,n<yd.m,n<=yd.s]++Cj xs (yd.ys n),p:=r9;exact Avh U R ca hfv (Ig R h3 λp hp=>r9 p (aJ _ (aJ _ (aJ _ hp)))) h5 (λp hp=>r9 p (aJ _ (aJ _ (aM _ hp)))) ar hn (r9 _ (aJ _ (aM _ (.head _)))) (r9 _ (aJ _ (aM _ (.tail _ (.head _))))) (r9 _ (aJ _ (aM _ (.tail _ (.tail _ (.head _)))))) (λp hp=>r9 p (aM _ hp)) w6
     (λv w' G' R' hv=>hK _ _ _ _ _ rfl v w' G' (λ_ h=>(by cases h)) R' hv)
   trivial
  trivial
 ·rename_i fo name args ek ca;obtain⟨fv,r1,h1,h2⟩:=Ah h;have hfv:=Afn R h1;split at h2
  ·rename_i f mr;obtain⟨t,g,y,v,rfl,hv,hm,hy⟩:=Avn S.y mr hfv;refine Alv S U R (.invoke ca hv hm) ?_ h2 r9 hK hP;refine .plain ?_ (by grind[Aj,Bo]) rfl trivial;grind[Aa,Ac]
  trivial
 ·rename_i p ca;obtain⟨x,r1,h1,h2⟩:=Ah h;have hx:=Afn R h1;split at h2
  ·rename_i t v;simp only[M.run,aA,aD]at h2;obtain⟨rfl,_⟩:=h2;have hv:=Cl hx;refine⟨λ_ _=>trivial,?_⟩;rw[dK _ _ _ (λc hc=>by grind)];have:(execOp a.eval o).run P w=.halt (.panic (.iface t v)) w:=by simp[execOp,ca,hv,Instr.panic,goPanic]
   rw[this];exact hP _ _ _ _ rfl w G R
  trivial
 ·rename_i hno1 hno2;have plain:∀{d9:Orc},((sem Y o.dst o.op).bind λp=>M.ret (Done.go (p.1++p.2.vc) p.2.hyp p.2.val p.2.wr d9)).run e.get r=some (d,r')->o.wpIn (Fr rd) fu P a w K Q:=by
   intro d9 h;obtain⟨⟨bs,out⟩,r1,h1,h2⟩:=Ah h;simp only[M.run,aA,aD]at h2;obtain⟨rfl,_⟩:=h2;have r9:∀p∈bs++out.vc,p:=r9;have ip:∀c,o.op≠.defer c:=by
    intro c hc;rw[hc]at h1;unfold sem at h1;simp only[]at h1;obtain⟨p,_,_,h3⟩:=Ah h1;obtain⟨q,_,h4,_⟩:=Ah h3;unfold Zr at h4;exact (Jc h4).elim
   exact (Aux S.y R h1 (λp hp=>r9 p (aJ _ hp)) (λp hp=>r9 p (aM _ hp))).wp ip λv w' G' h1 h2 h3=>hK _ _ _ _ _ rfl v w' G' h1 h2 h3
  split at h
  ·rename_i t o';cases hd:Nl (t % FAR) o.dst with
   |true=>
    rw[hd]at h;simp only[bA]at h;obtain⟨⟨bs,out⟩,r1,h1,h2⟩:=Ah h;simp only[M.run,aA,aD]at h2;obtain⟨rfl,_⟩:=h2;have r9:∀p∈bs++out.vc,p:=r9;obtain⟨k1,k2⟩:=Av8 S.y R h1 (λp hp=>r9 p (aJ _ hp)) (λp hp=>r9 p (aM _ hp));exact k1.wp k2 λv w' G' h1 h2 h3=>hK _ _ _ _ _ rfl v w' G' h1 h2 h3
   |false=>
    rw[hd]at h;simp only[cC]at h;exact plain h
  ·exact plain h
end
section
variable {P:Program} {Y:TypeId->Ty} {Gl:World->Prop} {X:Cx} {nt:Nat} {ds:List Deferred} {e:Env} {a:Act} {w:World} {G:Gh} {O:Nat->Prop} {Q:Exit->Act->World->Prop} {rd:Option Nat} {fu:Nat} {yd:Yd}
def Lj (e:Env) (G:Gh) (b:Nat):Prop:=(∃id,e.get 2 id≠.any/\G.bk id=b)∨∃k,G.tk k=some b
def Rel.re (R:Rel Y X nt ds e a w G) {X':Cx} {ds':List Deferred} {a':Act} {e':Env} {G':Gh} {w':World} (m7:Ext X.fz G G' w w') (hfz:X'.fz=X.fz) (y9:G'.bk=G.bk) (cm:G'.tk=G.tk) (nu:X'.base=X.base) (qn:X'.c0=X.c0) (hb0:X'.bk0=X.bk0)
  (hk:∀b,Lj e G b->w'.heap[b]?=w.heap[b]?/\G'.vis b=G.vis b/\¬G'.H b) (j9:w.heap.size<=w'.heap.size) (he:∀t k,t≠0->e'.get t k=e.get t k)
  (am:a'.tmps.size=nt) (me:a'.defers=G'.dm.l.map Ld++ds') (hmk:∀D,D∈G'.dm->¬G'.H D/\w'.heap[D]?=some (.deferred (some []))/\X'.base<=D)
  (hslots:(∀x v,VOK G w X.fz Y e x v->VOK G' w' X.fz Y e' x v)->∀t,VOK G' w' X.fz Y e' (e'.get 0 t) (De X'.sh a' t))
  (p9:∀b,w'.heap.size<=b->G'.vis b=0) (x9:∀b,b<X'.base->G'.vis b=X'.vis b) (hlt:∀b,G'.H b->b<w'.heap.size) (uz:∀b,X'.fz b->G'.H b)
  (hjj:X'.J (trN (e'.get 0 BIG)) G'.H G'.vis w'):Rel Y X' nt ds' e' a' w' G':=by
 have lift:∀x v,VOK G w X.fz Y e x v->VOK G' w' X.fz Y e' x v:=λx v h=>
  VOK.mono m7 (λid _=>by rw[y9]) (λid h=>by grind) (λk h=>by grind)
   (λk b _ hb _=>⟨by grind,(hk b (.inr ⟨k,hb⟩)).1,(hk b (.inr ⟨k,hb⟩)).2.1⟩) h
 have fp:∀id,e.get 2 id=live->e.get 2 id≠.any:=λid h=>by rw[h];exact Bc
 refine⟨⟨λid k t8=>?_,λid h=>?_,λid i5 h1 h2 hh=>?_⟩,am,me,hmk,λt=>by grind,λk b hb=>?_,λk k' b h1 h2=>?_,λk b hb=>?_,p9,x9,by rw[nu];exact bJ R.base j9,
  λid h=>?_,hlt,uz,hjj,λid k hf h1 h2=>?_⟩
 ·rw[he _ k (by omega)]at t8 ⊢;rw[he 2 id (by decide),y9,hfz];obtain⟨h1,h2,u,h3,h4⟩:=R.mem.cells id k t8;exact⟨h1,h2,u,by rw[bF (hk _ (.inl ⟨id,fp id h1,rfl⟩)).1];exact h3,lift _ _ h4⟩
 ·rw[he 2 id (by decide)]at h ⊢;rw[y9];obtain⟨h1,h2,h3⟩:=R.mem.box id h;obtain⟨k1,k2,k3⟩:=hk _ (.inl ⟨id,h,rfl⟩);refine⟨k3,aX h2 j9,?_⟩;exact h3.stay m7.vis m7.keep k1 k2 λj bb hb=>⟨by grind,(hk bb (.inr ⟨_,hb⟩)).1,(hk bb (.inr ⟨_,hb⟩)).2.1⟩
 ·rw[he 2 _ (by decide)]at h1 h2;rw[y9]at hh;exact R.mem.inj id i5 h1 h2 hh
 ·rw[cm]at hb;obtain⟨h1,h2,h3,h4,h5⟩:=R.tks k b hb;obtain⟨k1,k2,k3⟩:=hk b (.inr ⟨k,hb⟩);grind
 ·rw[cm]at h1 h2;exact R.tinj k k' b h1 h2
 ·rw[cm]at hb;exact (R.tlive k b hb).mono (λk hk=>by grind) λid d6=>⟨by grind,by rw[y9]⟩
 ·rw[he 2 _ (by decide)]at h;rw[y9];have:=R.ownb id h;grind[Own1]
 ·rw[he 2 _ (by decide)]at h1;rw[he _ k (by omega)]at h2;rw[y9,qn,bF (hk _ (.inl ⟨id,fp id h1,rfl⟩)).1];exact R.far id k hf h1 h2
def Rel.stay (R:Rel Y X nt ds e a w G) {w':World} (hs:Same w w') (hv:KeepV G.vis w w') (hk:∀b,Lj e G b∨G.H b∨b∈G.dm->w'.heap[b]?=w.heap[b]?):Rel Y X nt ds e a w' G:=by
 have j9:=hs.size;have m7:Ext X.fz G G w w':=⟨λ_=>aI _,hv,λb hb=>hk b (.inr (.inl (R.fzh b hb)))⟩
 refine R.re m7 rfl rfl rfl rfl rfl rfl (λb hb=>⟨hk b (.inl hb),rfl,λhh=>?_⟩) j9 (λ_ _ _=>rfl) R.size R.defers (λD hD=>?_) (λlift t=>lift _ _ (R.slots t)) (λb hb=>R.fresh b (bJ j9 hb)) R.old
  (λb hb=>aX (R.hlt b hb) j9) R.fzh (X.st.1 _ _ _ _ _ R.jj (λb hb=>hk b (.inr (.inl hb))) hv hs)
 ·rcases hb with ⟨id,h1,h2⟩|⟨k,h⟩
  ·exact (R.mem.box id h1).1 (by grind)
  ·exact (R.tks k b h).2.2.1 hh
 ·obtain⟨h1,h2,h3⟩:=R.marks D hD;grind
theorem Xm {i:Nat}:∀{l:List Nat},Ia i l=true↔i∈l
 | []=>by simp[Ia]
 |j::r=>by
  simp only[Ia,bW,eL,Xm (l:=r)];grind[Nat.eq_of_beq_eq_true,Nat.beq_refl]
theorem nbeq {a b:Nat}:a.beq b=true↔a=b:=by grind[Nat.eq_of_beq_eq_true,Nat.beq_refl]
theorem Tx (id:Nat):∀(e:Env) (t k:Nat),(Dd id e).get t k=if (t=2/\k=id)∨t=id+3∨(t≠1/\t≠2/\id∈Aj (e.get t k)) then .any else e.get t k
 | [],t,k=>by
  show T.any=if _ then T.any else T.any
  grind
 |(t',k',x)::r,t,k=>by
  by_cases h:t'=t/\k'=k
  ·grind[Am,Dd,nbeq,Xm]
  ·have e1:Env.get ((t',k',x)::r) t k=Env.get r t k:=by grind[Am]
   have e2:Env.get (Dd id ((t',k',x)::r)) t k=Env.get (Dd id r) t k:=by grind[Dd,Am]
   rw[e1,e2];exact Tx id r t k
theorem Alw {id:Nat}:∀{e:Env},Wl id e=true->∀t k,FAR+3<=t->id ∉ Aj (e.get t k)
 | [],_,t,k,_=>by show id ∉ Aj T.any;simp[Aj]
 |(t',k',x)::r,h,t,k,ht=>by
  simp only[Wl]at h;obtain⟨h1,h2⟩:=and_true h;rw[Am];split
  ·rename_i hh;obtain⟨rfl,rfl⟩:=hh;rcases bW _ _▸h1 with h3|h3
   ·have:=Bh h3;omega
   grind[Xm]
  ·exact Alw h2 t k ht
theorem Ey.forget {p q:Nat->Prop} {id:Nat} (h:∀i,i≠id->p i->q i):∀{x:T},id ∉ Aj x->Ey (λx=>∀i,i∈Aj x->p i) x->Ey (λx=>∀i,i∈Aj x->q i) x
 | .may b x,hn,hx=>λhb=>Ey.forget h (x:=x) (by trivial) (hx hb)
 | .d _,hn,hx| .tup _,hn,hx| .addr _ _,hn,hx| .fn _ _ _,hn,hx| .any,hn,hx| .tok _,hn,hx| .arr _ _,hn,hx| .elt _ _ _ _,hn,hx| .mp _,hn,hx| .it _,hn,hx| .nx _ _,hn,hx| .yl _,hn,hx| .ag _,hn,hx| .tpl _,hn,hx| .pt _,hn,hx
 | .own _ _ _,hn,hx| .tkd _ _ _ _,hn,hx| .arrc _ _ _ _,hn,hx| .mapc _ _ _ _ _,hn,hx| .itc _ _,hn,hx| .mitc _ _ _ _ _ _,hn,hx| .tr _,hn,hx| .arro _ _ _ _ _,hn,hx=>λi hi=>h i (λhh=>hn (hh▸hi)) (hx i hi)
theorem Rel.forget (R:Rel Y X nt ds e a w G) {id:Nat} (d6:e.get 2 id≠.any) (hf:id<FAR) (hff:Wl id e=true):
  ∃G',G'.vis=G.vis/\G'.H=G.H/\G'.dm=G.dm/\Rel Y X nt ds (Dd id e) a w G'/\(∀i,(Dd id e).get 2 i≠.any->G'.bk i≠G.bk id)/\(∀k,G'.tk k≠some (G.bk id))/\
   ∀x v,VOK G w X.fz Y e x v->id ∉ Aj x->VOK G' w X.fz Y (Dd id e) x v:=by
 obtain⟨G',hG⟩:∃G',({ G with tk:=λk=>match k with| .s b j=>if b=G.bk id then none else G.tk (.s b j)| .o k=>G.tk (.o k) }:Gh)=G':=⟨_,rfl⟩
 have d8:G'.vis=G.vis:=by grind
 have y9:G'.bk=G.bk:=by grind
 have hH:G'.H=G.H:=by grind
 have ec:G'.dm=G.dm:=by grind
 have ja:∀k,G'.tk (.o k)=G.tk (.o k):=λk=>by subst hG;rfl
 have hts:∀b j,b≠G.bk id->G'.tk (.s b j)=G.tk (.s b j):=λb j h=>by subst hG;simp[h]
 have htn:∀j,G'.tk (.s (G.bk id) j)=none:=λj=>by subst hG;simp
 have i7:∀k b,G'.tk k=some b->G.tk k=some b:=λk b h=>by
  cases k with
  |o k=>grind
  |s b' j=>
   grind
 have g1:∀k,(Dd id e).get 1 k=e.get 1 k:=λk=>by grind[Tx]
 have g2:∀k,(Dd id e).get 2 k=if k=id then .any else e.get 2 k:=λk=>by
  grind[Tx]
 have g0:∀t k,t≠1->t≠2->(Dd id e).get t k≠.any->(Dd id e).get t k=e.get t k/\id ∉ Aj (e.get t k)/\t≠id+3:=λt k h1 h2 h=>by
  grind[Tx]
 have lift:∀x v,VOK G w X.fz Y e x v->id ∉ Aj x->VOK G' w X.fz Y (Dd id e) x v:=λx v r hn=>by
  have m7:Ext X.fz G G' w w:=⟨λb=>by grind,.refl _ _,λ_ _=>rfl⟩
  refine⟨r.rel.mono m7 (r.ids.imp λx hx i _=>by rw[y9]),r.own.mono (r.tok.imp λx hx k t8 el w9=>by grind) (r.tok.imp λx hx k t8 b fj w9=>⟨by grind,rfl,by rw[d8]⟩),
   r.ids.forget (id:=id) (λi hi hp=>by grind) hn,r.tok.imp λx hx k t8=>by grind⟩
 have fm:∀i,(Dd id e).get 2 i≠.any->i≠id/\e.get 2 i≠.any/\(Dd id e).get 2 i=e.get 2 i:=λi h=>by
  grind
 have hbn:∀i,(Dd id e).get 2 i≠.any->G'.bk i≠G.bk id:=λi h hh=>by
  obtain⟨q1,q2,_⟩:=fm i h;rw[y9]at hh;exact q1 (R.mem.inj i id q2 d6 hh)
 refine⟨G',d8,hH,ec,?_,hbn,λk hk=>(R.tks k _ (i7 k _ hk)).2.2.2.2 id d6 rfl,lift⟩;refine⟨⟨λi k hk=>?_,λi hi=>?_,λi i' h1 h2 hh=>?_⟩,R.size,by rw[ec];exact R.defers,λD hD=>by rw[ec]at hD;rw[hH];exact R.marks D hD,λt=>?_,λk b hb=>?_,λk k' b h1 h2=>R.tinj k k' b (i7 _ _ h1) (i7 _ _ h2),λk b hb=>?_,
  λb hb=>by rw[d8];exact R.fresh b hb,λb hb=>by rw[d8];exact R.old b hb,R.base,λi hi=>?_,λb hb=>by rw[hH]at hb;exact R.hlt b hb,λb hb=>by rw[hH];exact R.fzh b hb,?_,λi k uw h1 h2=>?_⟩
 ·obtain⟨q1,q2,q3⟩:=g0 (i+3) k (by omega) (by omega) hk;rw[q1]at hk ⊢;obtain⟨c1,c2,u,c3,c4⟩:=R.mem.cells i k hk;grind
 ·obtain⟨q1,q2,q3⟩:=fm i hi;obtain⟨c1,c2,c3⟩:=R.mem.box i q2;rw[q3,y9,hH];refine⟨c1,c2,c3.stay (λb=>by grind) (.refl _ _) rfl (by rw[d8]) λj bb hb=>⟨?_,rfl,by rw[d8]⟩⟩;grind
 ·obtain⟨q1,q2,_⟩:=fm i h1;obtain⟨q3,q4,_⟩:=fm i' h2;rw[y9]at hh;exact R.mem.inj i i' q2 q4 hh
 ·by_cases h:(Dd id e).get 0 t=.any
  ·rw[h];exact VOK.any _
  ·obtain⟨q1,q2,_⟩:=g0 0 t (by omega) (by omega) h;rw[q1];exact lift _ _ (R.slots t) q2
 ·obtain⟨c1,c2,c3,c4,c5⟩:=R.tks k b (i7 _ _ hb);grind
 ·cases k with
  |o k=>
   have:=R.tlive _ b (i7 _ _ hb)
   show (Dd id e).get 1 k≠.any
   rw[g1];exact this
  |s b' j=>
   have s7:b'≠G.bk id:=λhh=>by grind
   obtain⟨i,c1,c2⟩:=R.tlive _ b (i7 _ _ hb);refine⟨i,?_,by grind⟩;grind
 ·have:=R.ownb i (fm i hi).2.1;grind
 ·rw[d8,hH];have:trN ((Dd id e).get 0 BIG)=trN (e.get 0 BIG):=by
   rw[Tx];split
   ·rename_i hc;rcases hc with hc|hc|hc
    ·omega
    ·omega
    ·obtain⟨_,_,hm⟩:=hc;cases hx:e.get 0 BIG with
     |tr p=>grind[Aj]
     |_=>rfl
   ·rfl
  rw[this];exact R.jj
 ·have hi:(Dd id e).get 2 i≠.any:=by rw[h1];exact Bc
  obtain⟨q1,q2,q3⟩:=fm i hi;rw[q3]at h1;rw[y9];refine R.far i k uw h1 ?_;grind[Tx,Alw]
end
section
variable {P:Program} {Y:TypeId->Ty} {Gl:World->Prop} {X:Cx} {nt:Nat} {ds:List Deferred} {e:Env} {a:Act} {w:World} {G:Gh} {O:Nat->Prop} {Q:Exit->Act->World->Prop} {rd:Option Nat} {fu:Nat} {yd:Yd}
theorem Xn:∀{ps:List Prop} {q:Prop},Nh ps q->(∀p∈ps,p)/\q
 | [],_,h=>⟨λ_ h=>(by cases h),h⟩
 |p::ps,q,h=>by
  obtain⟨h1,h2⟩:=Xn (ps:=ps) h.2;exact⟨λp' hp=>by cases hp with|head=>exact h.1|tail _ hp=>exact h1 p' hp,h2⟩
theorem Agg:∀{ps:List Prop} {q:Prop},Zj ps q->(∀p∈ps,p)->q
 | [],_,h,_=>h
 |_::_,_,h,hp=>Agg (h (hp _ aC)) λp' h'=>hp p' (aU _ h')
theorem Gd:∀{ps:List Prop},Mb ps->∀p∈ps,p
 | [],_,_,h=>(by cases h)
 | [p],h,_,hp=>by cases hp with|head=>exact h|tail _ hp=>cases hp
 |p::q::ps,h,p',hp=>by
  cases hp with
  |head=>exact h.1
  |tail _ hp=>exact Gd h.2 p' hp
def Avo (R:Rel Y X nt ds e a w G) {ops:Array Oper} {j d:Nat} {dp g:Bool} (hf:d<FAR) (hd:(ops.toList[j]?).bind (·.dst)=some d) (h:Af3 (e.get 0 d) dp=some g):
  (yielded ops a.tmps j==some dp)=g:=by
 have qp:(ops[j]?).bind (·.dst)=some d:=by grind
 have hs:=R.slots d;unfold De at hs;rw[bG hf]at hs;have key:∀b,a.tmps.getD d undef=.bool b->yielded ops a.tmps j=some b:=by
  intro b hb;unfold yielded;rw[qp];simp only[Option.bind_some];cases ht:a.tmps[d]? with
  |none=>grind[undef]
  |some v=>simp[aW,ht]at hb;grind
 have hu:a.tmps.getD d undef=undef->yielded ops a.tmps j=none:=by
  intro hb;unfold yielded;rw[qp];simp only[Option.bind_some];cases ht:a.tmps[d]? with
  |none=>rfl
  |some v=>simp[aW,ht]at hb;subst hb;rfl
 unfold Af3 at h;split at h
 ·rename_i g' b hx;simp only[aA]at h;rw[hx]at hs;have hr:=hs.rel;simp only[Aa]at hr;cases g' with
  |true=>
   have h1:a.tmps.getD d undef=.bool b:=Le (hr.1 rfl);rw[key b h1,<-h];cases b<;>cases dp<;>rfl
  |false=>
   grind
 ·rename_i b hx;simp only[aA]at h;rw[hx]at hs;rw[key b (Cl hs),<-h];cases b<;>cases dp<;>rfl
 ·cases h
def Alx {d:Nat} (h:Nm nt (some d)=true):d<nt/\d<FAR:=by
 obtain⟨h1,h2⟩:=and_true h;exact⟨Bh h1,Bh h2⟩
def Rel.putD (R:Rel Y X nt ds e a w G) {dst:Option Tmp} (hd:Nm nt dst=true) {x:T} {v:Value} (hx:VOK G w X.fz Y e x v):Rel Y X nt ds (Vc.put dst x []++e) (a.put dst v) w G:=by
 cases dst with
 |none=>exact R
 |some d=>exact R.put (Alx hd).1 (Alx hd).2 hx
def Oc (dst:Option Tmp) (x:T) (wr:Env):Vc.put dst x wr++e=Vc.put dst x []++(wr++e):=by cases dst<;>rfl
def Agh {g:Bool} {ps:List Prop} (h:∀p∈Qt (some g) ps,p) (hg:g=true):∀p∈ps,p:=λp hp=>h (g=true->p) (dL.2 ⟨p,hp,rfl⟩) hg
theorem Agi (S:Set P Y Gl) (U:Sur P Gl X yd) (R:Rel Y X nt ds e a w G) {ops:Array Oper} {i:Nat} {o:Oper} (hi:ops[i]?=some o) {d9:Orc} {x:Option Bool×Done} {rk:List (Nat×Nat)}
  (h:(Td (Computes P Gl) (Does P Y Gl) Y yd ops o d9).run e.get []=some (x,rk)):
  (∀vc hyp wr o',Eg nt o.dst x=.go vc hyp wr o'->(∀p∈vc,p)->∀(K:Act->World->Prop),(∀a' w',(∀p∈hyp,p)->Cq Y X nt ds (wr++e) a' w'->K a' w')->wpOpIn (Fr rd) fu P ops Q i K a w)/\
  (∀vc v wr o',Eg nt o.dst x=.pan vc v wr o'->(∀p∈vc,p)->(∀a' w',Cq Y X nt ds (wr++e) a' w'->Q (.panic [{ v,recovered:=false }]) a' w')->∀(K:Act->World->Prop),wpOpIn (Fr rd) fu P ops Q i K a w):=by
 obtain⟨g,d⟩:=x;unfold wpOpIn;simp only[hi];cases hgd:o.guard with
 |none=>
  unfold Td at h;rw[hgd]at h;obtain⟨d',r1,h1,h2⟩:=Ah h;simp only[M.run,aA,aD]at h2;obtain⟨⟨rfl,rfl⟩,_⟩:=h2;have hw:Region.wanted o (yielded ops a.tmps)=true:=by grind[Region.wanted]
  simp only[hw,eV];cases d' with
  |go vc hyp val wr o1=>
   refine⟨λnb ku wr' o' hd r9 K hK=>?_,λnb v wr' o' hd=>?_⟩
   ·simp only[Eg,Qv,fE]at hd;cases w7:Nm nt o.dst with
    |false=>grind
    |true=>
     rw[w7]at hd;simp only[bA,Qt,Qu,Fin'.go.injEq]at hd;obtain⟨rfl,rfl,rfl,rfl⟩:=hd;refine Rf S U R h1 r9 (λvc2 si sj wr2 o2 he v w' G' hh R' hv=>?_) (λ_ _ _ _ he=>by cases he);simp only[Done.go.injEq]at he;obtain⟨rfl,rfl,rfl,rfl,rfl⟩:=he;refine hK _ _ hh ⟨G',?_⟩;rw[Oc];exact R'.putD w7 hv
   grind[Eg]
  |pan vc v wr o1=>
   refine⟨λnb ku wr' o' hd=>(by cases hd),λnb v' wr' o' hd r9 hP K=>?_⟩;simp only[Eg,Fin'.pan.injEq]at hd;obtain⟨rfl,rfl,rfl,rfl⟩:=hd;refine Rf S U R h1 r9 (λ_ _ _ _ _ he=>by cases he) (λvc2 v2 wr2 o2 he w' G' R'=>?_);grind
 |some jw=>
  obtain⟨j,dp⟩:=jw;unfold Td at h;rw[hgd]at h;dsimp only at h;split at h
  ·rename_i dd hdd;replace h:=Al h;obtain⟨ge,h⟩:=h;simp only[M.run]at h;split at h
   ·rename_i gb hgb;have hw:Region.wanted o (yielded ops a.tmps)=gb:=by
     simp only[Region.wanted,hgd];exact Avo R (Bh ge) hdd hgb
    split at h
    ·rename_i t o';cases ht:Nl t o.dst with
     |true=>
      rw[ht]at h;simp only[bA]at h;obtain⟨d',r1,h1,h2⟩:=Ah h;simp only[M.run,aA,aD]at h2;obtain⟨⟨rfl,rfl⟩,_⟩:=h2;cases d' with
      |go vc hyp val wr o1=>
       refine⟨λnb ku wr' o' hd r9 K hK=>?_,λnb v wr' o' hd=>?_⟩
       ·simp only[Aa2,Eg,Qv,fE]at hd;cases w7:Nm nt o.dst with
        |false=>grind
        |true=>
         rw[w7]at hd;simp only[bA,Qt,Qu,Fin'.go.injEq]at hd;obtain⟨rfl,rfl,rfl,rfl⟩:=hd;have hg:gb=true:=r9 _ aC;simp only[hw,hg,eV];refine Rf S U R h1 (λp hp=>r9 p (aU _ hp)) (λvc2 si sj wr2 o2 he v w' G' hh R' hv=>?_) (λ_ _ _ _ he=>by cases he);simp only[Done.go.injEq]at he;obtain⟨rfl,rfl,rfl,rfl,rfl⟩:=he;refine hK _ _ hh ⟨G',?_⟩;rw[Oc];exact R'.putD w7 hv
       grind[Aa2,Eg]
      |pan vc v wr o1=>
       refine⟨λnb ku wr' o' hd=>(by cases hd),λnb v' wr' o' hd r9 hP K=>?_⟩;simp only[Aa2,Eg,Fin'.pan.injEq]at hd;obtain⟨rfl,rfl,rfl,rfl⟩:=hd;have hg:gb=true:=r9 _ aC;simp only[hw,hg,eV];refine Rf S U R h1 (λp hp=>r9 p (aU _ hp)) (λ_ _ _ _ _ he=>by cases he) (λvc2 v2 wr2 o2 he w' G' R'=>?_);grind
     |false=>
      rw[ht]at h;simp only[cC]at h;obtain⟨d',r1,h1,h2⟩:=Ah h;simp only[M.run,aA,aD]at h2;obtain⟨⟨rfl,rfl⟩,_⟩:=h2;cases d' with
      |pan vc v wr o1=>exact⟨λ_ _ _ _ hd=>(by cases hd),λ_ _ _ _ hd=>(by cases hd)⟩
      |go vc hyp val wr o1=>
       refine⟨λnb ku wr' o' hd r9 K hK=>?_,λ_ _ _ _ hd=>?_⟩
       ·simp only[Eg]at hd;cases w7:Nm nt o.dst with
        |false=>grind
        |true=>
         rw[w7,iF]at hd;cases wr with
         |cons p l=>cases hd
         |nil=>
          simp only[Qv,bA,Qu,Fin'.go.injEq]at hd;obtain⟨rfl,rfl,rfl,rfl⟩:=hd;cases gb with
          |true=>
           simp only[hw,eV];refine Rf S U R h1 (Agh r9 rfl) (λvc2 si sj wr2 o2 he v w' G' hh R' hv=>?_) (λ_ _ _ _ he=>by cases he);simp only[Done.go.injEq]at he;obtain⟨rfl,rfl,rfl,rfl,rfl⟩:=he;refine hK _ _ (λp hp=>by obtain⟨q,hq,rfl⟩:=dL.1 hp;grind) ⟨G',?_⟩;rw[Oc];exact R'.putD w7 (VOK.may (g:=true) (λ_=>hv) (λh=>absurd h (by decide)))
          |false=>
           simp only[hw,dH,iH];refine⟨λ_ _=>trivial,hK _ _ (λp hp=>by obtain⟨q,hq,rfl⟩:=dL.1 hp;grind) ⟨G,?_⟩⟩;rw[Oc];exact R.putD w7 (VOK.may (g:=false) (λh=>absurd h (by decide)) (λ_=>rfl))
       grind[Eg]
    ·rename_i t o';cases ht:Nl t o.dst with
     |true=>
      rw[ht]at h;simp only[bA,M.run,aA,aD]at h;obtain⟨⟨rfl,rfl⟩,_⟩:=h;refine⟨λnb ku wr' o' hd r9 K hK=>?_,λnb v wr' o' hd=>?_⟩
      ·simp only[Eg,Qv,fE]at hd;cases w7:Nm nt o.dst with
       |false=>grind
       |true=>
        rw[w7]at hd;simp only[bA,Qt,Qu,Fin'.go.injEq]at hd;obtain⟨rfl,rfl,rfl,rfl⟩:=hd;have hg:gb=false:=r9 _ aC;simp only[hw,hg,dH,iH];refine⟨λ_ _=>trivial,hK _ _ (λp hp=>nomatch hp) ⟨G,?_⟩⟩;rw[Oc];exact R.putD w7 (VOK.may (g:=false) (λh=>absurd h (by decide)) (λ_=>rfl))
      grind[Eg]
     |false=>
      rw[ht]at h;simp only[cC]at h;obtain⟨d',r1,h1,h2⟩:=Ah h;simp only[M.run,aA,aD]at h2;obtain⟨⟨rfl,rfl⟩,_⟩:=h2;cases d' with
      |pan vc v wr o1=>exact⟨λ_ _ _ _ hd=>(by cases hd),λ_ _ _ _ hd=>(by cases hd)⟩
      |go vc hyp val wr o1=>
       refine⟨λnb ku wr' o' hd r9 K hK=>?_,λ_ _ _ _ hd=>?_⟩
       ·simp only[Eg]at hd;cases w7:Nm nt o.dst with
        |false=>grind
        |true=>
         rw[w7,iF]at hd;cases wr with
         |cons p l=>cases hd
         |nil=>
          simp only[Qv,bA,Qu,Fin'.go.injEq]at hd;obtain⟨rfl,rfl,rfl,rfl⟩:=hd;cases gb with
          |true=>
           simp only[hw,eV];refine Rf S U R h1 (Agh r9 rfl) (λvc2 si sj wr2 o2 he v w' G' hh R' hv=>?_) (λ_ _ _ _ he=>by cases he);simp only[Done.go.injEq]at he;obtain⟨rfl,rfl,rfl,rfl,rfl⟩:=he;refine hK _ _ (λp hp=>by obtain⟨q,hq,rfl⟩:=dL.1 hp;grind) ⟨G',?_⟩;rw[Oc];exact R'.putD w7 (VOK.may (g:=true) (λ_=>hv) (λh=>absurd h (by decide)))
          |false=>
           simp only[hw,dH,iH];refine⟨λ_ _=>trivial,hK _ _ (λp hp=>by obtain⟨q,hq,rfl⟩:=dL.1 hp;grind) ⟨G,?_⟩⟩;rw[Oc];exact R.putD w7 (VOK.may (g:=false) (λh=>absurd h (by decide)) (λ_=>rfl))
       grind[Eg]
    ·obtain⟨d',r1,h1,h2⟩:=Ah h;simp only[M.run,aA,aD]at h2;obtain⟨⟨rfl,rfl⟩,_⟩:=h2;cases d' with
     |pan vc v wr o1=>exact⟨λ_ _ _ _ hd=>(by cases hd),λ_ _ _ _ hd=>(by cases hd)⟩
     |go vc hyp val wr o1=>
      refine⟨λnb ku wr' o' hd r9 K hK=>?_,λ_ _ _ _ hd=>?_⟩
      ·simp only[Eg]at hd;cases w7:Nm nt o.dst with
       |false=>grind
       |true=>
        rw[w7,iF]at hd;cases wr with
        |cons p l=>cases hd
        |nil=>
         simp only[Qv,bA,Qu,Fin'.go.injEq]at hd;obtain⟨rfl,rfl,rfl,rfl⟩:=hd;cases gb with
         |true=>
          simp only[hw,eV];refine Rf S U R h1 (Agh r9 rfl) (λvc2 si sj wr2 o2 he v w' G' hh R' hv=>?_) (λ_ _ _ _ he=>by cases he);simp only[Done.go.injEq]at he;obtain⟨rfl,rfl,rfl,rfl,rfl⟩:=he;refine hK _ _ (λp hp=>by obtain⟨q,hq,rfl⟩:=dL.1 hp;grind) ⟨G',?_⟩;rw[Oc];exact R'.putD w7 (VOK.may (g:=true) (λ_=>hv) (λh=>absurd h (by decide)))
         |false=>
          simp only[hw,dH,iH];refine⟨λ_ _=>trivial,hK _ _ (λp hp=>by obtain⟨q,hq,rfl⟩:=dL.1 hp;grind) ⟨G,?_⟩⟩;rw[Oc];exact R.putD w7 (VOK.may (g:=false) (λh=>absurd h (by decide)) (λ_=>rfl))
      grind[Eg]
   trivial
  trivial
theorem Avp (b:Bool) (y:Option Bool×Done):(∃vc hyp z wr o,y=(none,.go vc hyp (.d (.c (.v (.bool z)))) wr o)/\valD b y=(none,.go ((z=b)::vc) hyp (.d (.c (.v (.bool b)))) wr o))∨valD b y=y:=by
 unfold valD;grind
def Abb (S:Set P Y Gl) (U:Sur P Gl X yd) (R:Rel Y X nt ds e a w G) {ops:Array Oper} {i:Nat} {o:Oper} (hi:ops[i]?=some o) {d9:Orc} {x:Option Bool×Done} {rk:List (Nat×Nat)}
  (h:(Oz (Computes P Gl) (Does P Y Gl) Y yd ops o d9).run e.get []=some (x,rk)):
  (∀vc hyp wr o',Eg nt o.dst x=.go vc hyp wr o'->(∀p∈vc,p)->∀(K:Act->World->Prop),(∀a' w',(∀p∈hyp,p)->Cq Y X nt ds (wr++e) a' w'->K a' w')->wpOpIn (Fr rd) fu P ops Q i K a w)/\
  (∀vc v wr o',Eg nt o.dst x=.pan vc v wr o'->(∀p∈vc,p)->(∀a' w',Cq Y X nt ds (wr++e) a' w'->Q (.panic [{ v,recovered:=false }]) a' w')->∀(K:Act->World->Prop),wpOpIn (Fr rd) fu P ops Q i K a w):=by
 unfold Oz at h;split at h
 ·rename_i t b o';cases ht:Nl t o.dst with
  |false=>
   rw[ht]at h;exact Agi S U R hi h
  |true=>
   rw[ht]at h;simp only[bA]at h;obtain⟨y,r1,h1,h2⟩:=Ah h;simp only[M.run,aA,aD]at h2;obtain⟨rfl,_⟩:=h2;have S0:=Agi (Q:=Q) (rd:=rd) (fu:=fu) S U R hi h1;grind[Avp,Eg,Qt,List.mem_cons_self]
 ·exact Agi S U R hi h
def Avq {o:Oper} {d9:Orc} {it:Nat} {f:List Int->Orc} {oz:Orc} (h:Af4 o d9=some (it,f,oz)):o.op=.next (.tmp it) false/\o.guard=none:=by
 unfold Af4 at h;grind
theorem Avr (R:Rel Y X nt ds e a w G) {ops:Array Oper} {i:Nat} {o:Oper} (hi:ops[i]?=some o) {it:Nat} {f:List Int->Orc} {oz:Orc} (ca:o.op=.next (.tmp it) false) (hg:o.guard=none)
  {k:Orc->Env->Prop} (h:Af5 nt o.dst it f oz e k) (K:Act->World->Prop) (hK:∀d9 e a w,k d9 e->Cq Y X nt ds e a w->K a w):wpOpIn (Fr rd) fu P ops Q i K a w:=by
 unfold Af5 at h;split at h
 case h_2=>exact h.elim
 rename_i d id w7 pd;split at h
 case h_2=>exact h.elim
 rename_i kn ag dom val hh cur i8;cases hb:(Nat.blt d nt&&Nat.blt d FAR) with
 |false=>rw[hb]at h;exact h.elim
 |true=>
 rw[hb]at h;obtain⟨h1,h2⟩:=h;obtain⟨hd1,hd2⟩:=and_true hb;have hev':a.eval (.tmp it)=.pointer (some ⟨G.bk id,0,none⟩):=by
  replace pd:(bif Nat.blt it FAR then e.get 0 it else .any)=.it id:=pd;cases hf:Nat.blt it FAR with
  |false=>grind
  |true=>
   rw[hf]at pd;simp only[bA]at pd;have hs:=R.slots it;unfold De at hs;rw[bG (Bh hf),pd]at hs;have:=hs.rel;trivial
 have d6:e.get 2 id≠.any:=by grind
 have z6:=(R.mem.box id d6).2.2;have hlt:=(R.mem.box id d6).2.1;rw[i8]at z6;obtain⟨q0,mb,es,cl,seen,c0,q1,q2,q3,q4,⟨q5,q6⟩,q7,q8,q9,_⟩:=z6;have q5':=q5;obtain⟨al,bo,cx,hst1,hst2⟩:=q5';have me:∀c,o.op≠.defer c:=λc hc=>by grind
 unfold wpOpIn;rw[hi];dsimp only;rw[bG (by simp[Region.wanted,hg])];refine⟨λ_ _=>trivial,?_⟩;rcases run_next_at (P:=P) w o.type (G.bk id) mb cl c0 seen es cl q1 q4 hst1 q2 with ⟨h0,d7⟩|⟨en,he,w1,z7,d7⟩
 ·have hr:(execOp a.eval o).run P w=.ok (.value (.tuple #[.bool false])) w:=by simp[execOp,ca,hev',d7]
  rw[dK _ _ _ me,hr];refine hK oz _ _ _ (h2 ⟨q8,λx=>⟨q7 x,λhx=>?_⟩⟩) ⟨G,?_⟩
  ·obtain⟨j,e',hj,hk⟩:=bo x hx;have hem:e'∈es.toList:=cG (by rw[bD];exact hj);refine (q9 e' hem x hk).1 ?_;cases hc:seen.contains e'.born with
   |true=>rfl
   |false=>
    have hl:e'∈(leftOf es seen).toList:=by grind[leftOf]
    grind
  ·rw[w7];exact R.put (Bh hd1) (Bh hd2) (.plain (by simp only[Aa];exact⟨_,rfl,rfl,λj x u hj hu=>by
    match j with
    |0=>simp at hj hu;subst hj;subst hu;exact Rep.v _ rfl
    |j+1=>simp at hj⟩) rfl rfl trivial)
 ·have sf:en∈es.toList/\seen.contains en.born=false:=by grind[leftOf]
  obtain⟨hem,hens⟩:=sf;obtain⟨ei,hei,hei2⟩:=bM.1 hem;have wq:es[ei]?=some en:=by grind
  obtain⟨key,vw,hdk⟩:=al ei en wq;have ax:key ∉ hh:=λhx=>by
   grind
  have R1:Rel Y X nt ds e a w1 G:=by
   rcases z7 with rfl|rfl
   ·exact R
   ·exact R.drewR.1
  have hheap:w1.heap=w.heap:=by rcases z7 with rfl|rfl<;>rfl
  have hr:(execOp a.eval o).run P w=.ok (.value (.tuple #[.bool true,en.key,en.val])) { w1 with heap:=w1.heap.setIfInBounds (G.bk id) (.mapIter (some mb) cl (seen.push en.born) cl) }:=by
   simp only[execOp,ca,hev',cF,d7]
   rfl
  rw[dK _ _ _ me,hr];obtain⟨R2,_⟩:=Xb R1 d6 q0 (ob:=.mapIter (some mb) cl seen c0) (ob':=.mapIter (some mb) cl (seen.push en.born) cl) (by grind) (by simp) (λ_ _ _ hh=>(by cases hh)) (st:=.mitc kn ag dom val (hh++[key]) (some key)) (by simp) (by simp[live]) (by rw[i8];simp[live])
   (λn8=>by
    refine⟨q0,mb,es,cl,seen.push en.born,cl,?_,aI _,q3,n8.map mb q3 es cl (by grind),⟨q5,λj e' k hj hk=>⟨(q6 j e' k hj hk).1,?_⟩⟩,λx hx=>?_,?_,λe' sf k' t8=>?_,λk hk=>?_⟩
    ·grind
    ·have hc:=(q6 j e' k hj hk).2;have hc1:Aw G.vis w1 (val k) (Gx ag e'.val):=by
      rcases z7 with rfl|rfl
      ·exact hc
      ·exact Aw.mono' (λ_=>aI _) (show KeepV G.vis w w.drew from ⟨λ_ _ _=>rfl,λ_ _ _ _ h=>h,λ_ cs t z h=>⟨cs,t,z,h,aI _⟩⟩) hc
     exact hc1.mono' (λ_=>aI _) n8
    ·grind
    ·grind
    ·rw[cP,aZ]
     have mh:(seen.push en.born).contains e'.born=(seen.contains e'.born||e'.born==en.born):=by grind
     rw[mh,bW,q9 e' sf k' t8,dI];refine or_congr gU ⟨λhb=>?_,λcw=>?_⟩
     ·grind[born_inj]
     ·obtain⟨j,hj,ss⟩:=bM.1 sf;have hj3:es[j]?=some e':=by grind
      grind
    grind)
  refine hK (f key) _ _ _ (h1 key ⟨q7,q8,hdk,ax⟩) ⟨G,?_⟩;rw[w7];refine R2.put (Bh hd1) (Bh hd2) (.plain ?_ rfl rfl trivial);simp only[Aa];have n8:KeepV G.vis w1 { w1 with heap:=w1.heap.setIfInBounds (G.bk id) (.mapIter (some mb) cl (seen.push en.born) cl) }:=by
   have s7:∀b,0<G.vis b->(w1.heap.setIfInBounds (G.bk id) (Obj.mapIter (some mb) cl (seen.push en.born) cl))[b]?=w1.heap[b]?:=λb hb=>by
    grind
   exact⟨λb i hi=>bF (s7 b (by omega)),λb hb es c he=>by grind,λb cs t z h=>⟨cs,t,z,(show (w1.heap.setIfInBounds (G.bk id) (Obj.mapIter (some mb) cl (seen.push en.born) cl))[b]?=_ by
    grind),aI _⟩⟩
  have hc1:Aw G.vis w1 (val key) (Gx ag en.val):=by
   have hc:=(q6 ei en key wq vw).2;rcases z7 with rfl|rfl
   ·exact hc
   ·exact Aw.mono' (λ_=>aI _) (show KeepV G.vis w w.drew from ⟨λ_ _ _=>rfl,λ_ _ _ _ h=>h,λ_ cs t z h=>⟨cs,t,z,h,aI _⟩⟩) hc
  refine⟨_,rfl,rfl,λj x u hj hu=>?_⟩
  match j with
  |0=>simp at hj hu;subst hj;subst hu;exact Rep.v _ rfl
  |1=>simp at hj hu;subst hj;subst hu;exact Al3 vw
  |2=>simp at hj hu;subst hj;subst hu;exact Al4 (q6 ei en key wq vw).1 (hc1.mono' (λ_=>aI _) n8)
  |j+3=>simp at hj
def Avs {b:Bool} {p:Prop} (h:ifB b p):b=true/\p:=by
 cases b with
 |true=>trivial
 |false=>exact h.elim
def Avt {o:Oper} {d9 o':Orc} {p q:Operand} {t:TypeId} (h:apOf o d9=some (p,q,t,o')):o.op=.call { callee:=.builtin .append,args:=#[p,q],argTypes:=#[t,t] }/\o.guard=none:=by
 unfold apOf at h;grind[Nat.eq_of_beq_eq_true,Lh]
def Avu (R:Rel Y X nt ds e a w G) {q:Operand} {m:Nat} {g:Nat->List C} (h:(evX e q).elems?=some (m,g)):VOK G w X.fz Y e (evX e q) (a.eval q):=by
 cases q with
 |tmp t=>
  simp only[evX]at h ⊢;cases hb:Nat.blt t FAR with
  |false=>rw[hb]at h;cases h
  |true=>
   have:=R.slots t;unfold De at this;rw[bG (Bh hb)]at this;exact this
 |const v=>
  simp only[evX,T.elems?,C.elems?]at h ⊢;split at h
  ·trivial
  ·rename_i hh;cases hh;exact VOK.v _ rfl
  ·cases h
 |func f=>cases h
 |global g=>cases h
theorem ap_ok (hY:YOK P Y) (R:Rel Y X nt ds e a w G) {ops:Array Oper} {i:Nat} {o:Oper} (hi:ops[i]?=some o) {p q:Operand} {t:TypeId} (ca:o.op=.call { callee:=.builtin .append,args:=#[p,q],argTypes:=#[t,t] }) (hg:o.guard=none)
  {k:Env->Prop} (h:apP Y nt o.dst p q t e k) (K:Act->World->Prop) (hK:∀e a w,k e->Cq Y X nt ds e a w->K a w):wpOpIn (Fr rd) fu P ops Q i K a w:=by
 unfold apP at h;split at h
 case h_2=>exact h.elim
 rename_i d el id n m g w7 hk iy hqx;split at h
 case h_2=>exact h.elim
 rename_i sz n' f i8;obtain⟨hb,h⟩:=Avs h;obtain⟨hb,b9⟩:=and_true hb;obtain⟨hb,b8⟩:=and_true hb;obtain⟨hb,b7⟩:=and_true hb;obtain⟨hb,b6⟩:=and_true hb;obtain⟨hb,b5⟩:=and_true hb;obtain⟨hb,b4⟩:=and_true hb;obtain⟨hb,b3⟩:=and_true hb;obtain⟨b1,b2⟩:=and_true hb;obtain⟨c0,c1,c2,c3,t8⟩:=h;subst c0;have b4:=aG b4;have b6:=aG b6;have b7:=aG b7;subst b4;have hdA:(Dd id e).get 2 d=.any:=by
  cases hx:(Dd id e).get 2 d with
  |any=>rfl
  |_=>rw[hx]at b9;cases b9
 have d6:e.get 2 id≠.any:=by grind
 have cf:VOK G w X.fz Y e (.arr id n) (a.eval p):=by
  cases p with
  |tmp t'=>
   simp only[evX]at iy;cases hf:Nat.blt t' FAR with
   |false=>grind
   |true=>
    rw[hf]at iy;have hs:=R.slots t';unfold De at hs;rw[bG (Bh hf),show e.get 0 t'=.arr id n from iy]at hs;exact hs
  |const v=>cases iy
  |func f=>cases iy
  |global g=>cases iy
 obtain⟨s1,_⟩:=Afo R i8 cf;obtain⟨xs,x1,x2,x3⟩:=s1;obtain⟨j0,n1,n2,n3⟩:=Aam hqx (Avu R hqx) b7 Nat.one_pos;rcases n3 with ⟨_,n3⟩|⟨sb,soff,scap,n3,n4⟩
 ·omega
 obtain⟨⟨cs,ct,z,q1,hz,q2,q3⟩,q4,_,q6⟩:=Qz R i8;have bn:=q6 rfl;obtain⟨G1,v1,v2,v3,R1,f1,f2,jm⟩:=R.forget d6 (Bh b3) b8;obtain⟨dd,i0,z0,h1,h2,h3,h4,h5,h6,h7,h8⟩:=hY t (by simp[Ty.known,hk]);rw[hk]at h7;simp only[KOK]at h7;subst h7;obtain⟨dd,ie,ze,g1,g2,g3,g4,g5,g6,g7,g8⟩:=hY el b5;have pj:ze.cells.size=1:=by grind
 have ub:∀{v w'},(Builtin.append_ #[t,t] o.type #[a.eval p,a.eval q]).run P w=.ok v w'->(execOp a.eval o).run P w=.ok (.value v) w':=λ{v w'} hr=>by
  simp[execOp,ca,resolve,invoke,builtin,hr]
 have me:∀c,o.op≠.defer c:=λc hc=>by grind
 have fq:=x1.cat n1;have ni:n+m<=maxLen:=by unfold maxLen;omega
 have hzl:(xs++j0).length=n+m:=by rw[cU,x1.1,n1.1];omega
 suffices xi:∃v w',(execOp a.eval o).run P w=.ok (.value v) w'/\∃G',Rel Y X nt ds ((2,d,.arrc false 1 (n+m) (An n f g))::Dd id e) a w' G'/\VOK G' w' X.fz Y ((2,d,.arrc false 1 (n+m) (An n f g))::Dd id e) (.arr d (n+m)) v by
  obtain⟨v,w',hr,G',R',hv⟩:=xi;unfold wpOpIn;rw[hi];dsimp only;rw[bG (by simp[Region.wanted,hg])];refine⟨λ_ _=>trivial,?_⟩;rw[dK _ _ _ me,hr];refine hK _ _ _ t8 ⟨G',?_⟩;rw[w7];exact R'.put (Bh b1) (Bh b2) hv
 have o8:∀(s:T),s≠.any->Env.get ((2,d,s)::Dd id e) 2 d≠.any:=λs hs=>by grind[Am]
 have fresh:∀(cap:Nat) (cur:Array Value),(∀(j:Nat) (u:Value),(xs++j0)[j]?=some u->cur[j]?=some u)->cur.size=cap->n+m<=cap->cap<=maxLen->
   (Builtin.append_ #[t,t] o.type #[a.eval p,a.eval q]).run P w=.ok (.slice (some ⟨w.heap.size,0,none⟩) (n+m) cap) (w.drew.alloc (.cells cur el))->
   ∃v w',(execOp a.eval o).run P w=.ok (.value v) w'/\∃G',Rel Y X nt ds ((2,d,.arrc false 1 (n+m) (An n f g))::Dd id e) a w' G'/\VOK G' w' X.fz Y ((2,d,.arrc false 1 (n+m) (An n f g))::Dd id e) (.arr d (n+m)) v:=by
  intro cap cur w8 aw hnc fy d7;obtain⟨R2,_⟩:=R1.drewR;obtain⟨G',w1,w2,R',lift,w3⟩:=Jd R2 hdA (Bh b2) (.cells cur el) (st:=.arrc false 1 (n+m) (An n f g)) (ce:=[]) (by simp) (λt k h=>rfl)
   (λG' cd=>by
    refine⟨⟨cur,el,_,bN w.drew _,.inl rfl,by omega,λi hi=>⟨fq.2.1 i hi,λj c hj=>?_⟩⟩,Nat.one_pos,λhh=>(by cases hh),λ_=>by rw[cd,v1];exact R.fresh _ (aI _)⟩;obtain⟨u,h3,h4⟩:=fq.2.2 i j c hi hj;refine⟨u,w8 _ _ h3,?_⟩;rw[cd,v1];exact h4.mono' (λ_=>aI _) (Aak R _))
   (λG' lift k hk=>by
    rw[cH]at hk;exact absurd (R1.mem.cells d k hk).1 (by rw[hdA];exact λh=>Bc h.symm))
  refine⟨_,_,ub d7,G',R',VOK.ids_used (id:=d) ?_ trivial rfl rfl (o8 _ (by simp))⟩;simp only[Aa];exact .inr ⟨cap,by rw[w2];rfl,hnc,fy,cur,el,_,by rw[w2];exact bN w.drew _,by omega⟩
 have rz:∀(cap:Nat),cap>=n+m->(xs.toArray++j0.toArray++Builtin.zeroCells ze.cells (cap - (n+m))).size=cap:=λcap hc=>by
  grind[size_zeroCells]
 have hgt:∀(zz:Array Value) (j:Nat) (u:Value),(xs++j0)[j]?=some u->(xs.toArray++j0.toArray++zz)[j]?=some u:=λzz j u hj=>by
  grind
 rcases x3 with ⟨⟨xb,x3⟩,x4⟩|⟨b,off,cap,x3,x5⟩
 ·-- nothing yet
  have hx0:xs=[]:=bX (by rw[x1.1,x4,gB]);subst x4;rcases xb with _|ba
  ·have d7:=gA (P:=P) w t o.type el ie ze h1 g2 g5 ⟨sb,soff,none⟩ m scap j0 (by grind) n4 (by omega) (by omega) (by grind);refine fresh (grownCap w m 0 el) (j0.toArray++Builtin.zeroCells ze.cells (grownCap w m 0 el - m)) (λj u hj=>?_) ?_ (by grind[grownCap_ge]) (cY w m 0 el (by omega)) (by grind)
   ·grind
   grind[grownCap_ge]
  ·have d7:=gR (P:=P) w t o.type el ie ze h1 g2 g5 ba 0 0 xs (by grind) (λj v hj=>by grind) ⟨sb,soff,none⟩ m scap j0 (by grind) n4 (by omega) (by omega) (by rw[g4];exact gW (by omega) c2);exact fresh (grownCap w (0+m) 0 el) _ (hgt _) (rz _ (eJ w (0+m) 0 el)) (eJ w (0+m) 0 el) (cY w (0+m) 0 el ni) (by grind)
 ·rcases bL cap (n+m) with ac|ac
  ·have d7:=gR (P:=P) w t o.type el ie ze h1 g2 g5 ⟨b,off,none⟩ n cap xs (by rw[g3,b6];exact x1.1) (λj v hj=>x5 j v hj) ⟨sb,soff,none⟩ m scap j0 (by rw[g3,b6];exact n1.1) n4 ac (by omega) (by rw[g4];exact gW ac c2);exact fresh (grownCap w (n+m) cap el) _ (hgt _) (rz _ (eJ w (n+m) cap el)) (eJ w (n+m) cap el) (cY w (n+m) cap el ni) (by grind)
  ·-- in the block that is there
   have da:=cf.rel;simp only[Aa]at da;rcases da with ⟨_,hn0⟩|⟨cap',r1,r2,r3,az,t',z',r4,r5⟩
   ·grind
   rw[x3]at r1;simp only[hU,aA,Addr.mk.injEq,gX,and_true]at r1;obtain⟨⟨rfl,rfl,_⟩,rfl⟩:=r1;rw[q1]at r4;obtain⟨rfl,rfl,rfl⟩:=Obj.cells.inj (bS r4);have hnl:j0.length=m:=by rw[n1.1,fX]
   have gn:xs.length=n:=by grind
   have bw:n+0+j0.length<=cs.size:=by omega
   have hf:=run_firstCells_some (P:=P) w ie.size m ⟨sb,soff,none⟩ m scap j0 (by grind) n4;have m8:=Aae P (G.bk id) n ct z j0 0 cs w q1 hz bw n2;have mr:=λi=>Aaf (k:=n) bw i;have jp:=Afk (k:=n) bw;generalize au:(cs.toList.take (n+0)++j0++cs.toList.drop (n+0+j0.length)).toArray=row at m8 mr jp;have ws:n*ie.size=n:=by grind
   have d7:(Builtin.append_ #[t,t] o.type #[a.eval p,a.eval q]).run P w=.ok (.slice (some ⟨G.bk id,0,none⟩) (n+m) cap) (w.setRow (G.bk id) row):=by
    rw[x3,n3];simp[Builtin.append_,aO h1,sizeOf,typeInfo,g2,Builtin.lenOf,ac,hf,ws,Addr.add_lit,m8]
   obtain⟨ar,w6,cu⟩:=R.mem.box id d6;have y8:∀b,b≠G.bk id->(w.setRow (G.bk id) row).heap[b]?=w.heap[b]?:=λb h=>eW w _ b _ h;have s4:KeepV G.vis w (w.setRow (G.bk id) row):=by
    refine⟨λb i hi=>Wx _ _ _ _ λhh=>?_,λb hi es c he=>?_,Tm (cs0:=row) (t0:=ct) (z0:=z) y8 λcs t z h=>?_⟩
    ·grind
    ·grind
    ·grind[setRow_heap]
   have R2:=R1.stay (w':=w.setRow (G.bk id) row) ⟨rfl,rfl,rfl,by simp⟩ (by grind) (λb hb=>y8 b λhh=>by
    subst hh;rcases hb with (⟨i,c1,c2⟩|⟨kk,c1⟩)|hb|hb
    ·grind
    ·grind
    ·grind
    ·rw[v3]at hb;have:=(R.marks _ hb).2.1;grind)
   obtain⟨G3,w1,w2,R3,_⟩:=R2.adopt (d:=d) (b:=G.bk id) hdA (Bh b2) ((R.ownb id d6).1 (Bh b3)) (by simpa using w6) (by grind) f1 f2 (st:=.arrc false 1 (n+m) (An n f g)) (by simp) (λG' cd=>by
    refine⟨⟨row,ct,z,eH w _ _ _ _ _ q1,by grind[Ns],by omega,λi hi=>⟨fq.2.1 i hi,λj c hj=>?_⟩⟩,Nat.one_pos,λhh=>(by cases hh),λ_=>by grind⟩;obtain⟨u,h3,h4⟩:=fq.2.2 i j c hi hj;refine⟨u,?_,by rw[cd,v1];exact h4.mono' (λ_=>aI _) s4⟩;rw[mr]
    by_cases hlt:i*1+j<n
    ·rw[bI (by omega)];rw[List.getElem?_append_left (by omega)]at h3;have:=x5 _ _ h3;grind[Ih,World.cell?]
    grind)
   refine⟨_,_,ub d7,G3,R3,VOK.ids_used (id:=d) ?_ trivial rfl rfl (o8 _ (by simp))⟩;simp only[Aa];exact .inr ⟨cap,by rw[w2],ac,r3,row,ct,z,by grind[setRow_heap],by omega⟩
def Avv (S:Set P Y Gl) (U:Sur P Gl X yd) {ops:Array Oper} {k:Orc->Env->Prop} {kp:Value->Orc->Env->Prop}
  (hk:∀d9 e a w,k d9 e->Cq Y X nt ds e a w->Q .normal a w) (hp:∀v d9 e a w,kp v d9 e->Cq Y X nt ds e a w->Q (.panic [{ v,recovered:=false }]) a w):
  ∀(l:List Oper) (i:Nat) (d9:Orc) (e:Env) (a:Act) (w:World),(∀j,l[j]?=ops[i+j]?)->Te (Computes P Gl) (Does P Y Gl) Y nt yd ops l k kp d9 e->Cq Y X nt ds e a w->wpOpsIn (Fr rd) fu P ops Q (List.range' i l.length) a w:=by
 intro l
 induction l with
 |nil=>intro i d9 e a w _ h R;exact hk d9 e a w h R
 |cons o l ih=>
  intro i d9 e a w hl h R;obtain⟨G,R⟩:=R;have hi:ops[i]?=some o:=by simpa using (hl 0).symm
  have ua:∀j,l[j]?=ops[i+1+j]?:=λj=>by
   have:=hl (j+1);grind
  simp only[Te]at h;rw[cQ,List.range'_succ,wpOpsIn_cons];split at h
  ·rename_i it f oz heo;obtain⟨ca,hg⟩:=Avq heo;grind[Avr]
  split at h
  ·rename_i p q t o' hao;obtain⟨ca,hg⟩:=Avt hao;exact ap_ok S.y R hi ca hg h _ λe a w t8 R'=>ih (i+1) o' e a w ua t8 R'
  split at h
  ·rename_i x rk d7;obtain⟨s1,s2⟩:=Abb (Q:=Q) (rd:=rd) (fu:=fu) S U R hi d7;unfold Ajt at h;grind[Xn,Agg]
  trivial
end
end Go.Vc
