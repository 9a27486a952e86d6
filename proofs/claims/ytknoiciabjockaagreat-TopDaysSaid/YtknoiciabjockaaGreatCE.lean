/- A part of the proofs over the layers: the program and the specification; no condition. -/
import Derived.Test.YtknoiciabjockaaGreatCD
import Derived.RangeFuncBox
set_option linter.all false
set_option linter.unusedSimpArgs false
set_option linter.unusedVariables false
namespace Go.Vc
open Go Go.RowKit
mutual
theorem Aa.weak {G:Gh} {w:World} {O O':Nat->Prop} (h:∀ b,O b->O' b):∀ {x:T} {v:Value},Aa G w O x v->Aa G w O' x v
 | .d x,v,r=>by simp only [Aa] at r ⊢;exact r.weak h
 | .tup xs,v,r=>by simp only [Aa] at r ⊢;obtain ⟨vs,hv,hr⟩:=r;exact ⟨vs,hv,hr.1,fun j x v hj hv=>(hr.2 j x v hj hv).weak h⟩
 | .fn f a b,v,r=>by
  simp only [Aa] at r ⊢
  obtain ⟨us,vs,hv,h1,h2⟩:=r
  exact ⟨us,vs,hv,Ab.weak h h1,Ab.weak h h2⟩
 | .may b x,v,r=>by simp only [Aa] at r ⊢;exact ⟨fun hb=>Aa.weak h (r.1 hb),r.2⟩
 | .nx b xs,v,r=>by
  simp only [Aa] at r ⊢
  exact ⟨fun hb=>by obtain ⟨vs,hv,hr⟩:=r.1 hb;exact ⟨vs,hv,hr.1,fun j x v hj hv=>(hr.2 j x v hj hv).weak h⟩,r.2⟩
 | .ag xs,v,r=>by simp only [Aa] at r ⊢;obtain ⟨vs,hv,hr⟩:=r;exact ⟨vs,hv,Ab.weak h hr⟩
 | .tpl xs,v,r=>by simp only [Aa] at r ⊢;obtain ⟨vs,hv,hr⟩:=r;exact ⟨vs,hv,Ab.weak h hr⟩
 | .addr _ _,v,r| .any,v,r| .arr _ _,v,r| .elt _ _ _ _,v,r| .mp _,v,r| .it _,v,r| .yl _,v,r| .tr _,v,r=>by simp only [Aa] at r ⊢<;>exact r
 | .tok _,v,r| .tkd _ _ _ _,v,r| .own _ _ _,v,r| .arrc _ _ _ _,v,r| .mapc _ _ _ _ _,v,r| .itc _ _,v,r=>by simp only [Aa] at r
theorem Ab.weak {G:Gh} {w:World} {O O':Nat->Prop} (h:∀ b,O b->O' b):∀ {xs:List T} {vs:List Value},Ab G w O xs vs->Ab G w O' xs vs
 | [],vs,r=>by simp only [Ab] at r ⊢;exact r
 |x::xs,vs,r=>by
  simp only [Ab] at r ⊢
  obtain ⟨v,us,hv,h1,h2⟩:=r
  exact ⟨v,us,hv,Aa.weak h h1,Ab.weak h h2⟩
end
theorem Mem.keep {Y:TypeId->Ty} {m:Env} {w w':World} {G:Gh} (ho:∀ id,m.get 2 id≠.any->Cq (m.get 2 id)=true) (h1:∀ k,m.get 1 k=.any) (hb:∀ id,m.get 2 id≠.any->w'.heap[G.bk id]?=w.heap[G.bk id]?) (hk:KeepV G.vis w w') (hs:Same w w') (M:Mem Y (fun _=>False) m w G):Mem Y (fun _=>False) m w' G:=by
 have hext:Ext (fun _=>False) G G w w':=⟨fun _=>Nat.le_refl _,hk,fun _ h=>h.elim⟩
 refine ⟨fun id k hid=>?_,fun id hid=>?_,M.inj⟩
 ·obtain ⟨q1,q2,u,q3,q4⟩:=M.cells id k hid
  refine ⟨q1,q2,u,?_,VOK.mono hext (fun _ _=>rfl) (fun _ h=>h) (fun k h=>absurd (h1 k) h) (fun k b h=>absurd (h1 k) h) q4⟩
  rw [World.cell?_of_block (hb id (by rw [q1];exact Bh))]
  exact q3
 ·obtain ⟨q1,q2,q3⟩:=M.box id hid
  refine ⟨q1,Nat.lt_of_lt_of_le q2 hs.size,?_⟩
  have hh:=hb id hid
  unfold Bv at q3 ⊢
  split at q3
  ·rw [hh];exact q3
  ·rw [hh]
   obtain ⟨⟨cs,t,z,h3,hz,h4,h5⟩,h6⟩:=q3
   refine ⟨⟨cs,t,z,h3,hz,h4,fun i hi=>?_⟩,h6⟩
   obtain ⟨h7,h8⟩:=h5 i hi
   exact ⟨h7,fun j c hc=>by obtain ⟨u,h9,h10⟩:=h8 j c hc;exact ⟨u,h9,h10.mono hext⟩⟩
  ·rw [hh]
   obtain ⟨⟨es,cl,h3,h4,h5⟩,h6⟩:=q3
   exact ⟨⟨es,cl,h3,h4,fun i en k he hk=>⟨(h5 i en k he hk).1,(h5 i en k he hk).2.mono hext⟩⟩,h6⟩
  ·rw [hh];exact q3
  ·have:=ho id hid
   simp_all [Cq]
  ·have:=ho id hid
   simp_all [Cq]
  ·exact q3.elim
end Go.Vc
namespace Go.Vc.Zn
open Go Go.Proofs Go.Vc Go.RowKit
theorem Atf {P:Program} {t tx:TypeId} {vx:Value} {w:World} (d:Nat) (h:∃ ms,P.underlying t=some (.interface ms)):(Op.equalIn (d+1) t (.iface tx vx) .nilIface).run P w=.ok false w:=by
 obtain ⟨ms,h⟩:=h
 simp [Op.equalIn,run_underlying h]
theorem Kg {P:Program} {t tx:TypeId} {vx:Value} {w:World} (h:∃ ms,P.underlying t=some (.interface ms)):(binOp .eql t (.iface tx vx) .nilIface).run P w=.ok (.bool false) w:=by
 have:(Op.equal t (.iface tx vx) .nilIface).run P w=.ok false w:=Atf 9999 h
 simp only [binOp]
 simp [this]
theorem Atg {P:Program} {t:TypeId} {w:World} (d:Nat) (h:∃ ms,P.underlying t=some (.interface ms)):(Op.equalIn (d+1) t .nilIface .nilIface).run P w=.ok true w:=by
 obtain ⟨ms,h⟩:=h
 simp [Op.equalIn,run_underlying h]
theorem Ub {P:Program} {t:TypeId} {w:World} (h:∃ ms,P.underlying t=some (.interface ms)):(binOp .eql t .nilIface .nilIface).run P w=.ok (.bool true) w:=by
 have:(Op.equal t .nilIface .nilIface).run P w=.ok true w:=Atg 9999 h
 simp only [binOp]
 simp [this]
theorem Kh {P:Program} {t xt:TypeId} {v:Value} {w:World} {y:Ty} (hY:Nn P t y) (hk:∃ fs,y.kind=.struct fs):(Instr.typeAssert (.iface t v) xt t true).run P w=.ok (.tuple #[v,.bool true]) w:=by
 obtain ⟨d,i,z,h1,_,_,_,_,_,h7,_⟩:=hY
 obtain ⟨fs,hk⟩:=hk
 rw [hk] at h7
 obtain ⟨fields,rfl,_⟩:=h7
 simp [Instr.typeAssert,run_underlying h1]
theorem Uc {P:Program} {Y:TypeId->Ty} {t t' xt:TypeId} {v:Value} {w:World} (hY:YOK P Y) (hk:∃ fs,(Y t).kind=.struct fs) (hne:t'≠t):∃ z,(Instr.typeAssert (.iface t' v) xt t true).run P w=.ok (.tuple #[z,.bool false]) w:=by
 obtain ⟨fs,hk⟩:=hk
 have hkn:(Y t).known=true:=Abc hk
 obtain ⟨z,hz,_⟩:=We hY hkn w
 obtain ⟨d,i,z',h1,_,_,_,_,_,h7,_⟩:=hY t hkn
 rw [hk] at h7
 obtain ⟨fields,rfl,_⟩:=h7
 refine ⟨z,?_⟩
 simp [Instr.typeAssert,run_underlying h1,hne,hz]
theorem und20:∃ ms,Tryz.prog.underlying 20=some (.interface ms):=by
 obtain ⟨d,i,z,h1,_,_,_,_,_,h7,_⟩:=yok 20 (by kernel_rfl)
 obtain ⟨ms,rfl⟩:∃ ms,d=.interface ms:=h7
 exact ⟨ms,h1⟩
theorem k133:(Y 212).kind=.struct [(0,3)]:=by kernel_rfl
theorem k135:(Y 214).kind=.struct [(0,9)]:=by kernel_rfl
theorem z133:(Y 212).zero.toArray=#[.int .i64 0]:=by kernel_rfl
theorem z135:(Y 214).zero.toArray=#[.string (ByteArray.mk #[])]:=by kernel_rfl
theorem z26:(Y 30).zero.toArray=#[.int .i64 0]:=by kernel_rfl
theorem s133:(Y 212).size=1:=by kernel_rfl
theorem s135:(Y 214).size=1:=by kernel_rfl
theorem s26:(Y 30).size=1:=by kernel_rfl
theorem kn133:(Y 212).known=true:=by kernel_rfl
theorem kn135:(Y 214).known=true:=by kernel_rfl
theorem kn26:(Y 30).known=true:=by kernel_rfl
theorem ev_const {a:Act} {v:Value}:a.eval (.const v)=v:=rfl
theorem sl1 (p v:Value):SL { tmps:=#[p]++(Array.replicate 13 undef).setIfInBounds 4 v,defers:=[] } 14 (upd (fun t=>#[p].getD t undef) 5 v) []:=by
 have:=(SL.start #[p] 14 (Nat.le_of_ble_eq_true rfl)).put (d:=5) (by decide) v
 simpa [Act.put] using this
def stO (t:TypeId) (p q:Operand):Oper:={ dst:=none,op:=Op.store t p q,type:=0,pos:= "",after:=#[],guard:=none }
theorem catch_idle (p:Value) (w:World):
  CallsD Tryz.prog 105 #[p] .returning w fun e u' w'=>e=.returned (.tuple #[])/\u'=.returning/\w'=w:=by
 refine callsD_of_wpS Tryz.func105 rfl fun c₀ cs hu=>?_
 apply wpS_seq
 apply wpS_region
 simp [wpOpsS,go_sem,recoverD,hu,Tryz.ntmps105,Exit.thenS]
 have S:=sl1 p .nilIface
 refine wpS_of_wp (wp_block (wp_seq (wp_region_list ?_)))
 generalize ({ tmps:=#[p]++(Array.replicate 13 undef).setIfInBounds 4 Value.nilIface,defers:=[] }:Act)=a at S ⊢
 refine Aj S (d:=7) (v:=.bool true) (w':=w) rfl (by decide) rfl ?_ fun a1 S1=>?_
 ·simp [execOp,S.eval,upd,Ub und20,ev_const,eqGuard]
 refine wp_cond_true (by simp [S1.eval,upd]) (wp_region_list ?_)
 refine Aj S1 (d:=1) (v:=.nilIface) (w':=w) rfl (by decide) rfl ?_ fun a2 S2=>?_
 ·simp [execOp,S1.eval,upd]
 cases c₀
 simp_all [wpList,bodyPostS,results,Tryz.results105,Exit.inBlock,S2.defers]
theorem catch_row (b1:Nat) (x:Int) (older:List PanicEntry) (w:World) (h1:w.heap[b1]?=some (.cells #[.int .i64 0] 30 (0,0))):
  CallsD Tryz.prog 105 #[.pointer (some ⟨b1,0,none⟩)] (.panicking ({ v:=.iface 212 (.agg #[.int .i64 x]),recovered:=false }::older)) w fun e u' w'=>
   e=.returned (.tuple #[])/\u'=.panicking ({ v:=.iface 212 (.agg #[.int .i64 x]),recovered:=true }::older)/\Same w w'/\w'.heap[b1]?=some (.cells #[.int .i64 5] 30 (0,0))/\
   ∀ b,b<w.heap.size->b≠b1->w'.heap[b]?=w.heap[b]?:=by
 have l1:b1<w.heap.size:=(Array.getElem?_eq_some_iff.1 h1).1
 refine callsD_of_wpS Tryz.func105 rfl fun c₀ cs hu=>?_
 apply wpS_seq
 apply wpS_region
 simp [wpOpsS,go_sem,recoverD,hu,Tryz.ntmps105,Exit.thenS]
 have S:=sl1 (.pointer (some ⟨b1,0,none⟩)) (.iface 212 (.agg #[.int .i64 x]))
 refine wpS_of_wp (wp_block (wp_seq (wp_region_list ?_)))
 generalize ({ tmps:=#[Value.pointer (some ⟨b1,0,none⟩)]++(Array.replicate 13 undef).setIfInBounds 4 (Value.iface 212 (.agg #[.int .i64 x])),defers:=[] }:Act)=a at S ⊢
 refine Aj S (d:=7) (v:=.bool false) (w':=w) rfl (by decide) rfl ?_ fun a1 S1=>?_
 ·simp [execOp,S.eval,upd,Kg und20,ev_const,eqGuard]
 refine wp_cond_false (by simp [S1.eval,upd]) (wp_seq (wp_region_list ?_))
 refine Aj S1 (d:=8) (v:=.tuple #[.agg #[.int .i64 x],.bool true]) (w':=w) rfl (by decide) rfl ?_ fun a2 S2=>?_
 ·simp [execOp,S1.eval,upd,Kh (yok 212 kn133) ⟨_,k133⟩]
 refine Aj S2 (d:=9) (v:=.bool true) (w':=w) rfl (by decide) rfl ?_ fun a3 S3=>?_
 ·simp [execOp,S2.eval,upd,Instr.extract]
 refine Aj S3 (d:=10) (v:=.agg #[.int .i64 x]) (w':=w) rfl (by decide) rfl ?_ fun a7 S7=>?_
 ·simp [execOp,S3.eval,upd,Instr.extract]
 refine wp_cond_true (by simp [S7.eval,upd]) (wp_seq (wp_region_list ?_))
 have hal:=fun (o:Oper) (ho:o.op=Op.alloc 212)=>Fj (P:=Tryz.prog) (a:=a7) (w:=w) (o:=o) yok (t:=212) ho kn133
 rw [z133] at hal
 refine Aj S7 (d:=2) rfl (by decide) rfl (hal _ rfl) fun a8 S8=>?_
 obtain ⟨w1,hw1⟩:∃ w1,w.alloc (.cells #[.int .i64 0] 212 (0,0))=w1:=⟨_,rfl⟩
 have hw1':w.alloc (.cells #[.int .i64 0] 212)=w1:=hw1
 rw [hw1']
 have g1:Same w w1:=by rw [<-hw1];exact Eo _ _
 have g2:∀ b,b<w.heap.size->w1.heap[b]?=w.heap[b]?:=fun b hb=>by rw [<-hw1];exact Cm _ _ hb
 have g3:w1.heap[w.heap.size]?=some (.cells #[.int .i64 0] 212 (0,0)):=by rw [<-hw1];exact World.alloc_heap_new w _
 have H:=fun (o:Oper) (ho:o.op=Op.store 212 (.tmp 2) (.tmp 10))=>Cz (P:=Tryz.prog) (a:=a8) (w:=w1) (v:=.agg #[.int .i64 x]) (b:=w.heap.size) (o:=o)
  yok (t:=212) ho kn133 (by simp [S8.eval,upd]) (by simp [S8.eval,upd]) (by rw [s133];rfl) (by rw [s133];rfl) (by simp [Value.cells,Value.oneCell']) g3
 obtain ⟨_,r2,r3,r4⟩:=H (stO 212 (.tmp 2) (.tmp 10)) rfl
 refine Cy S8 rfl rfl (H _ rfl).1 fun a9 S9=>?_
 clear H
 generalize w1.setRow w.heap.size (Value.agg #[.int .i64 x]).cells=w2 at r2 r3 r4 ⊢
 refine wp_region_list ?_
 have g5:w2.heap[b1]?=some (.cells #[.int .i64 0] 30 (0,0)):=by rw [r4 _ (by omega),g2 _ l1];exact h1
 have H:=fun (o:Oper) (ho:o.op=Op.store 30 (.tmp 0) (.const (.int .i64 5)))=>Cz (P:=Tryz.prog) (a:=a9) (w:=w2) (v:=.int .i64 5) (b:=b1) (o:=o)
  yok (t:=30) ho kn26 (by simp [S9.eval,upd]) rfl (by rw [s26];rfl) (by rw [s26];rfl) (by simp [Value.cells,Value.oneCell']) g5
 obtain ⟨_,t2,t3,t4⟩:=H (stO 30 (.tmp 0) (.const (.int .i64 5))) rfl
 refine Cy S9 rfl rfl (H _ rfl).1 fun a10 S10=>?_
 clear H
 generalize w2.setRow b1 (Value.int .i64 5).cells=w4 at t2 t3 t4 ⊢
 have e3:∀ b,b<w.heap.size->b≠b1->w4.heap[b]?=w.heap[b]?:=fun b hb h1=>by rw [t4 _ h1,r4 _ (by omega),g2 _ hb]
 have e4:Same w w4:=(g1.trans r3).trans t3
 exact ⟨S10.defers,_,rfl,.tuple #[],by simp [results,Tryz.results105],rfl,rfl,e4,t2,e3⟩
theorem catch_text (b1:Nat) (x:ByteArray) (older:List PanicEntry) (w:World) (h1:w.heap[b1]?=some (.cells #[.int .i64 0] 30 (0,0))):
  CallsD Tryz.prog 105 #[.pointer (some ⟨b1,0,none⟩)] (.panicking ({ v:=.iface 214 (.agg #[.string x]),recovered:=false }::older)) w fun e u' w'=>
   e=.returned (.tuple #[])/\u'=.panicking ({ v:=.iface 214 (.agg #[.string x]),recovered:=true }::older)/\Same w w'/\w'.heap[b1]?=some (.cells #[.int .i64 4] 30 (0,0))/\
   ∀ b,b<w.heap.size->b≠b1->w'.heap[b]?=w.heap[b]?:=by
 have l1:b1<w.heap.size:=(Array.getElem?_eq_some_iff.1 h1).1
 refine callsD_of_wpS Tryz.func105 rfl fun c₀ cs hu=>?_
 apply wpS_seq
 apply wpS_region
 simp [wpOpsS,go_sem,recoverD,hu,Tryz.ntmps105,Exit.thenS]
 have S:=sl1 (.pointer (some ⟨b1,0,none⟩)) (.iface 214 (.agg #[.string x]))
 refine wpS_of_wp (wp_block (wp_seq (wp_region_list ?_)))
 generalize ({ tmps:=#[Value.pointer (some ⟨b1,0,none⟩)]++(Array.replicate 13 undef).setIfInBounds 4 (Value.iface 214 (.agg #[.string x])),defers:=[] }:Act)=a at S ⊢
 refine Aj S (d:=7) (v:=.bool false) (w':=w) rfl (by decide) rfl ?_ fun a1 S1=>?_
 ·simp [execOp,S.eval,upd,Kg und20,ev_const,eqGuard]
 refine wp_cond_false (by simp [S1.eval,upd]) (wp_seq (wp_region_list ?_))
 obtain ⟨z,hz⟩:=Uc (Y:=Y) (t:=212) (t':=214) (xt:=20) (v:=.agg #[.string x]) (w:=w) yok ⟨_,k133⟩ (by decide)
 refine Aj S1 (d:=8) (v:=.tuple #[z,.bool false]) (w':=w) rfl (by decide) rfl ?_ fun a2 S2=>?_
 ·simp [execOp,S1.eval,upd,hz]
 refine Aj S2 (d:=9) (v:=.bool false) (w':=w) rfl (by decide) rfl ?_ fun a3 S3=>?_
 ·simp [execOp,S2.eval,upd,Instr.extract]
 refine Aj S3 (d:=10) (v:=z) (w':=w) rfl (by decide) rfl ?_ fun a4 S4=>?_
 ·simp [execOp,S3.eval,upd,Instr.extract]
 refine wp_cond_false (by simp [S4.eval,upd]) (wp_seq (wp_region_list ?_))
 refine Aj S4 (d:=11) (v:=.tuple #[.agg #[.string x],.bool true]) (w':=w) rfl (by decide) rfl ?_ fun a5 S5=>?_
 ·simp [execOp,S4.eval,upd,Kh (yok 214 kn135) ⟨_,k135⟩]
 refine Aj S5 (d:=12) (v:=.bool true) (w':=w) rfl (by decide) rfl ?_ fun a6 S6=>?_
 ·simp [execOp,S5.eval,upd,Instr.extract]
 refine Aj S6 (d:=13) (v:=.agg #[.string x]) (w':=w) rfl (by decide) rfl ?_ fun a7 S7=>?_
 ·simp [execOp,S6.eval,upd,Instr.extract]
 refine wp_cond_true (by simp [S7.eval,upd]) (wp_seq (wp_region_list ?_))
 have hal:=fun (o:Oper) (ho:o.op=Op.alloc 214)=>Fj (P:=Tryz.prog) (a:=a7) (w:=w) (o:=o) yok (t:=214) ho kn135
 rw [z135] at hal
 refine Aj S7 (d:=3) rfl (by decide) rfl (hal _ rfl) fun a8 S8=>?_
 obtain ⟨w1,hw1⟩:∃ w1,w.alloc (.cells #[.string (ByteArray.mk #[])] 214 (0,0))=w1:=⟨_,rfl⟩
 have hw1':w.alloc (.cells #[.string (ByteArray.mk #[])] 214)=w1:=hw1
 rw [hw1']
 have g1:Same w w1:=by rw [<-hw1];exact Eo _ _
 have g2:∀ b,b<w.heap.size->w1.heap[b]?=w.heap[b]?:=fun b hb=>by rw [<-hw1];exact Cm _ _ hb
 have g3:w1.heap[w.heap.size]?=some (.cells #[.string (ByteArray.mk #[])] 214 (0,0)):=by rw [<-hw1];exact World.alloc_heap_new w _
 have H:=fun (o:Oper) (ho:o.op=Op.store 214 (.tmp 3) (.tmp 13))=>Cz (P:=Tryz.prog) (a:=a8) (w:=w1) (v:=.agg #[.string x]) (b:=w.heap.size) (o:=o)
  yok (t:=214) ho kn135 (by simp [S8.eval,upd]) (by simp [S8.eval,upd]) (by rw [s135];rfl) (by rw [s135];rfl) (by simp [Value.cells,Value.oneCell']) g3
 obtain ⟨_,r2,r3,r4⟩:=H (stO 214 (.tmp 3) (.tmp 13)) rfl
 refine Cy S8 rfl rfl (H _ rfl).1 fun a9 S9=>?_
 clear H
 generalize w1.setRow w.heap.size (Value.agg #[.string x]).cells=w2 at r2 r3 r4 ⊢
 refine wp_region_list ?_
 have g5:w2.heap[b1]?=some (.cells #[.int .i64 0] 30 (0,0)):=by rw [r4 _ (by omega),g2 _ l1];exact h1
 have H:=fun (o:Oper) (ho:o.op=Op.store 30 (.tmp 0) (.const (.int .i64 4)))=>Cz (P:=Tryz.prog) (a:=a9) (w:=w2) (v:=.int .i64 4) (b:=b1) (o:=o)
  yok (t:=30) ho kn26 (by simp [S9.eval,upd]) rfl (by rw [s26];rfl) (by rw [s26];rfl) (by simp [Value.cells,Value.oneCell']) g5
 obtain ⟨_,t2,t3,t4⟩:=H (stO 30 (.tmp 0) (.const (.int .i64 4))) rfl
 refine Cy S9 rfl rfl (H _ rfl).1 fun a10 S10=>?_
 clear H
 generalize w2.setRow b1 (Value.int .i64 4).cells=w4 at t2 t3 t4 ⊢
 have e3:∀ b,b<w.heap.size->b≠b1->w4.heap[b]?=w.heap[b]?:=fun b hb h1=>by rw [t4 _ h1,r4 _ (by omega),g2 _ hb]
 have e4:Same w w4:=(g1.trans r3).trans t3
 exact ⟨S10.defers,_,rfl,.tuple #[],by simp [results,Tryz.results105],rfl,rfl,e4,t2,e3⟩
def attV:Ending->Value
 | .panicked [{ v:=.iface 212 _,.. }]=>.int .i64 5
 | .panicked [{ v:=.iface 214 _,.. }]=>.int .i64 4
 |_=>.int .i64 0
def attW (w:World):World:=w.alloc (.cells #[.int .i64 0] 30 (0,0))
structure AttOK (w w':World) (en:Ending):Prop where
 one:w'.heap[w.heap.size]?=some (.cells #[.int .i64 0] 30 (0,0))
 en:en=.returned (.tuple #[])∨(∃ x,en=.panicked [{ v:=.iface 212 (.agg #[.int .i64 x]),recovered:=false }])∨∃ s,en=.panicked [{ v:=.iface 214 (.agg #[.string s]),recovered:=false }]
theorem att_results {a:Act} {w:World} {b1:Nat} {x:Value} (h1:a.tmps.getD 2 undef=.pointer (some ⟨b1,0,none⟩))
  (g1:w.heap[b1]?=some (.cells #[x] 30 (0,0))):(results Tryz.f38 a.tmps).run Tryz.prog w=.ok x w:=by
 have l1:=Jr yok (t:=30) (by kernel_rfl) (w:=w) (b:=b1) (off:=0) (u:=x) (by simp [World.cell?,g1])
 have he:Tryz.f38.results.mapM (Aq a.tmps)=List.toArray <$> Tryz.f38.results.toList.mapM (Aq a.tmps):=Array.mapM_eq_mapM_toList ..
 have he2:results Tryz.f38 a.tmps=(Tryz.f38.results.mapM (Aq a.tmps) >>= fun vs=>pure (if h:vs.size=1 then vs[0] else .tuple vs)):=rfl
 have hrun:([ResultVar.cell 2 30].mapM (Aq a.tmps)).run Tryz.prog w=.ok [x] w:=by
  have r1:(Aq a.tmps (.cell 2 30)).run Tryz.prog w=.ok x w:=by simp [Aq,h1,asAddr,l1]
  rw [Gz,r1,Result.andThen_ok]
  simp
 rw [he2,he,Tryz.results38]
 simp only [Sem.run_bind,Sem.run_map,hrun,Result.andThen_ok,Sem.run_pure]
 rfl
theorem attempt_calls (g:FuncId) (hg:Gy Tryz.prog g) (us vs:Array Value) (w:World) (R:Ending->World->Prop) (hcall:Calls Tryz.prog g (us++vs) (attW w) R) (hR:∀ en w',R en w'->AttOK w w' en):
  Calls Tryz.prog 38 #[.func (.func g) us vs] w fun en w''=>∃ en0 w',R en0 w'/\Same w' w''/\(∀ b,b<w'.heap.size->b≠w.heap.size->w''.heap[b]?=w'.heap[b]?)/\(∃ x,w''.heap[w.heap.size]?=some (.cells #[x] 30 (0,0)))/\en=.returned (attV en0):=by
 go_enter_defers Tryz.func38,Tryz.ntmps38
 have S:SL { tmps:=#[Value.func (Fn.func g) us vs,undef,undef,undef,undef,undef],defers:=[] } 6 (fun t=>#[Value.func (Fn.func g) us vs].getD t undef) []:=by
  exact SL.start #[Value.func (Fn.func g) us vs] 6 (Nat.le_of_ble_eq_true rfl)
 generalize ({ tmps:=#[Value.func (Fn.func g) us vs,undef,undef,undef,undef,undef],defers:=[] }:Act)=a at S ⊢
 refine wp_seq (wp_region_list ?_)
 have hal:=fun (o:Oper) (ho:o.op=Op.alloc 30)=>Fj (P:=Tryz.prog) (a:=a) (w:=w) (o:=o) yok (t:=30) ho kn26
 rw [z26] at hal
 refine Aj S (d:=2) rfl (by decide) rfl (hal _ rfl) fun a2 S2=>?_
 show Code.wp Tryz.prog _ _ a2 (attW w)
 generalize hw1:attW w=w1 at hcall ⊢
 refine wp_seq (wp_region_list ?_)
 refine Aj S2 (d:=3) (v:=.func (.func 105) #[] #[.pointer (some ⟨w.heap.size,0,none⟩)]) (w':=w1) rfl (by decide) rfl ?_ fun a3 S3=>?_
 ·simp [execOp,S2.eval,upd,Instr.makeFunc]
 refine Sy S3 (d:={ target:=.fn (.func 105) #[.pointer (some ⟨w.heap.size,0,none⟩)],args:=#[] }) rfl rfl ?_ fun a4 S4=>?_
 ·simp [execOp,resolve,S3.eval,upd,Deferred.ofValue]
 refine wp_seq (wp_region_list ?_)
 refine Aj S4 (d:=4) (v:=.func (.func g) us vs) (w':=w1) rfl (by decide) rfl ?_ fun a5 S5=>?_
 ·simp [execOp,S4.eval,upd]
 have hinv:∀ (p:Value) (w:World),(invoke (.fn (.func 105) #[p]) #[]).run Tryz.prog w=.ok (.enter 105 #[p]) w:=fun p w=>by
  have h2:(Tryz.f105.name== "runtime.NumGoroutine")=false:=by kernel_rfl
  have h3:Tryz.f105.body.isNone=false:=by kernel_rfl
  have h2':Tryz.f105.name≠ "runtime.NumGoroutine":=by simpa using h2
  have h3':Tryz.f105.body≠none:=by intro hh;rw [hh] at h3;cases h3
  simp [invoke,callFunc,Tryz.func105,h2',h3']
 refine Sz S5 (d:=5) (g:=g) (vs:=us++vs) (R:=R) rfl (by decide) rfl ?_ hcall (fun v w2 hr a6 S6=>?_) (fun ch w2 hr=>?_) (fun w2 hr=>?_)
 ·have:=fun (o:Oper) (ho:o.op=Op.call { callee:=Callee.value (Operand.tmp 4),args:=#[],argTypes:=#[] })=>Nv (P:=Tryz.prog) (a:=a5) (w:=w1) (o:=o) ho (by simp [S5.eval,upd]) hg (us:=us) (cvs:=vs)
  simpa using this _ rfl
 ·obtain ⟨c1,c3⟩:=hR _ _ hr
  have l1:w.heap.size<w2.heap.size:=(Array.getElem?_eq_some_iff.1 c1).1
  refine wp_seq (wp_region_list ?_)
  have H:=fun (o:Oper) (ho:o.op=Op.store 30 (.tmp 2) (.const (.int .i64 0)))=>Cz (P:=Tryz.prog) (a:=a6) (w:=w2) (v:=.int .i64 0) (b:=w.heap.size) (o:=o)
   yok (t:=30) ho kn26 (by simp [S6.eval,upd]) rfl (by rw [s26];rfl) (by rw [s26];rfl) (by simp [Value.cells,Value.oneCell']) c1
  obtain ⟨_,t2,t3,t4⟩:=H (stO 30 (.tmp 2) (.const (.int .i64 0))) rfl
  refine Cy S6 rfl rfl (H _ rfl).1 fun a9 S9=>?_
  clear H
  generalize w2.setRow w.heap.size (Value.int .i64 0).cells=w4 at t2 t3 t4 ⊢
  refine wp_ret ?_
  show Leaves Tryz.prog Tryz.f38 a9.tmps _ a9.defers .returning w4
  rw [S9.defers]
  refine leaves_cons (by simp) (hinv _ w4) ((catch_idle _ w4).mono ?_)
  rintro e u' w5 ⟨rfl,rfl,rfl⟩
  have r1:=att_results (a:=a9) (w:=w5) (b1:=w.heap.size) (by rw [S9.get 2 (by decide)];simp [upd]) t2
  refine ⟨_,r1,_,_,hr,t3,fun b hb h1=>t4 _ h1,⟨_,t2⟩,?_⟩
  rcases c3 with h|⟨_,h⟩|⟨_,h⟩<;>cases h
  rfl
 ·obtain ⟨c1,c3⟩:=hR _ _ hr
  have l1:w.heap.size<w2.heap.size:=(Array.getElem?_eq_some_iff.1 c1).1
  show Leaves Tryz.prog Tryz.f38 a5.tmps _ a5.defers (.panicking ch) w2
  rw [S5.defers]
  refine leaves_cons (by simp) (hinv _ w2) ?_
  have e1:a5.tmps.getD 2 undef=.pointer (some ⟨w.heap.size,0,none⟩):=by rw [S5.get 2 (by decide)];simp [upd]
  rcases c3 with h|⟨x,h⟩|⟨s,h⟩
  ·cases h
  ·obtain rfl:ch=[{ v:=.iface 212 (.agg #[.int .i64 x]),recovered:=false }]:=Ending.panicked.inj h
   refine (catch_row _ x [] w2 c1).mono ?_
   rintro e u' w5 ⟨rfl,rfl,g1,g2,g4⟩
   have r1:=att_results (a:=a5) (w:=w5) e1 g2
   exact ⟨_,r1,_,_,hr,g1,g4,⟨_,g2⟩,rfl⟩
  ·obtain rfl:ch=[{ v:=.iface 214 (.agg #[.string s]),recovered:=false }]:=Ending.panicked.inj h
   refine (catch_text _ s [] w2 c1).mono ?_
   rintro e u' w5 ⟨rfl,rfl,g1,g2,g4⟩
   have r1:=att_results (a:=a5) (w:=w5) e1 g2
   exact ⟨_,r1,_,_,hr,g1,g4,⟨_,g2⟩,rfl⟩
 ·obtain ⟨_,c3⟩:=hR _ _ hr
  rcases c3 with h|⟨_,h⟩|⟨_,h⟩<;>cases h
variable {Gl:World->Prop}
inductive AttR:Res->Int->Prop
 |ok:AttR (.ret (.tup [])) 0
 |row (x:Int):AttR (.pan (.iface 212 (.agg #[.int .i64 x]))) 5
 |text (s:ByteArray):AttR (.pan (.iface 214 (.agg #[.string s]))) 4
theorem attW_size (w:World):(attW w).heap.size=w.heap.size+1:=by simp [attW,World.size_alloc]
theorem attW_lt (w:World) {b:Nat} (h:b<w.heap.size):(attW w).heap[b]?=w.heap[b]?:=by
 unfold attW
 exact Cm _ _ h
theorem attW_same (w:World):Same w (attW w):=Eo _ _
theorem attW_one (w:World):(attW w).heap[w.heap.size]?=some (.cells #[.int .i64 0] 30 (0,0)):=World.alloc_heap_new w _
theorem attW_keep {vis:Nat->Nat} {w:World} (h:∀ b,w.heap.size<=b->vis b=0):KeepV vis w (attW w):=
 ⟨fun b i hi=>World.cell?_of_block (attW_lt w (by
  rcases Nat.lt_or_ge b w.heap.size with hb|hb
  ·exact hb
  ·rw [h b hb] at hi;omega)),fun b hb es c he=>by rw [attW_lt w (Array.getElem?_eq_some_iff.1 he).1];exact he,Mb fun b h=>attW_lt w h⟩
theorem att_ret {base:Nat} {vis:Nat->Nat} {w:World} (e:Int):Fz base vis w (I e) (.int .i64 e):=Rep.v _ rfl
theorem attempt74 (S:Set Tryz.prog Y Gl) {g:FuncId} {fst caps:List T} {r:Res} {ev:Int} (h:CO Gl g (fst++caps) r) (ha:AttR r ev):CO Gl 38 [.fn g fst caps] (.ret (I ev)):=by
 refine ⟨⟨_,Tryz.func38,Ahm,by kernel_rfl⟩,fun vis w vs hvis hgl hargs=>?_⟩
 simp only [Ab,Aa] at hargs
 obtain ⟨v,vs1,hvs,⟨us,cvs,rfl,hu,hc⟩,rfl⟩:=hargs
 obtain rfl:vs=#[.func (.func g) us cvs]:=by rw [<-Array.toArray_toList (xs:=vs),hvs]
 have hb:Below w.heap.size w (attW w):=⟨(attW_same w).os,(attW_same w).tape,(attW_same w).output,(attW_same w).size,fun k hk=>attW_lt w hk⟩
 have hext:Ext (Lo w.heap.size) (Gh0 vis) (Gh0 vis) w (attW w):=⟨fun _=>Nat.le_refl _,attW_keep hvis,fun b hb=>attW_lt w hb⟩
 have hrel:Ab (Gh0 vis) (attW w) (Lo (attW w).heap.size) (fst++caps) (us++cvs).toList:=by
  rw [Array.toList_append]
  exact Ab.weak (fun b hb=>by have:=attW_size w;unfold Lo at hb ⊢;omega) ((Ab.mono hext (fun _ _=>rfl) hu).app (Ab.mono hext (fun _ _=>rfl) hc))
 have hcall:=h.2 vis (attW w) (us++cvs) (fun b hb=>hvis b (by rw [attW_size] at hb;omega)) (S.gl _ _ hgl hb) hrel
 refine (attempt_calls g h.1 us cvs w _ hcall fun en w' ⟨hbe,han⟩=>⟨?_,?_⟩).mono ?_
 ·rw [hbe.block _ (by rw [attW_size];omega)];exact attW_one w
 ·cases ha with
  |ok=>
   obtain ⟨v,vis',rfl,_,_,vs,rfl,hr⟩:=han
   obtain rfl:vs=#[]:=by
    have:=hr.1
    exact Array.eq_empty_of_size_eq_zero (by simpa using this.symm)
   exact .inl rfl
  |row x=>exact .inr (.inl ⟨x,han⟩)
  |text s=>exact .inr (.inr ⟨s,han⟩)
 ·rintro en w2 ⟨en0,w',⟨hbe,han⟩,hs,hh,_,rfl⟩
  have hsz:w.heap.size<=w2.heap.size:=by
   have h1:=hbe.size
   have h2:=hs.size
   rw [attW_size] at h1;omega
  refine ⟨⟨hs.os.trans (hbe.os.trans hb.os),hs.tape.trans (hbe.tape.trans hb.tape),hs.output.trans (hbe.output.trans hb.output),hsz,fun k hk=>?_⟩,_,vis,rfl,fun _ _=>rfl,fun b hb=>hvis b (by omega),?_⟩
  ·have h1:=hbe.size
   rw [attW_size] at h1
   rw [hh k (by omega) (by omega),hbe.block k (by rw [attW_size];omega),attW_lt w hk]
  ·cases ha with
   |ok=>
    obtain ⟨v,vis',rfl,_⟩:=han
    exact att_ret 0
   |row x=>
    have han:en0=_:=han
    subst han
    exact att_ret 5
   |text s=>
    have han:en0=_:=han
    subst han
    exact att_ret 4
theorem attempt74_does {g:FuncId} {fst caps:List T} {r:Res} {ev:Int} {pre post:Env} {yd:Yd} (hpre:En pre=true) (hpost:Hj pre post=true) (h:Does Tryz.prog Y Gl yd g (fst++caps) pre r post) (ha:AttR r ev):Does Tryz.prog Y Gl yd 38 [.fn g fst caps] pre (.ret (I ev)) post:=by
 obtain ⟨p0,p1,p2⟩:=La hpre
 obtain ⟨o1,o2,o3⟩:=Mk hpost
 refine ⟨⟨_,Tryz.func38,Ahm,by kernel_rfl⟩,fun J G w vs hst hgl hyl hfr hH hJ hmem hargs=>?_⟩
 simp only [Ab,Aa] at hargs
 obtain ⟨v,vs1,hvs,⟨us,cvs,rfl,hu,hc⟩,rfl⟩:=hargs
 obtain rfl:vs=#[.func (.func g) us cvs]:=by rw [<-Array.toArray_toList (xs:=vs),hvs]
 have hkv:=attW_keep (w:=w) hfr
 have hext:Ext (fun _=>False) G G w (attW w):=⟨fun _=>Nat.le_refl _,hkv,fun b hb=>hb.elim⟩
 have hrel:Ab G (attW w) (fun _=>False) (fst++caps) (us++cvs).toList:=by
  rw [Array.toList_append]
  exact (Ab.mono hext (fun _ _=>rfl) hu).app (Ab.mono hext (fun _ _=>rfl) hc)
 have hbk:∀ id,pre.get 2 id≠.any->G.bk id<w.heap.size:=fun id hid=>(hmem.box id hid).2.1
 have hJ1:=hst.1 _ _ _ _ _ hJ (fun b hb=>attW_lt w (hH b hb)) hkv (attW_same w)
 have hmem1:Mem Y (fun _=>False) pre (attW w) G:=Mem.keep (Hn hpre) p1 (fun id hid=>attW_lt w (hbk id hid)) hkv (attW_same w) hmem
 have hsz:=attW_size w
 have hused:∀ id,Env.get (Ah post pre) 2 id≠.any->pre.get 2 id≠.any:=fun id hid=>by
  rw [Ee] at hid
  split at hid
  ·rename_i hk
   have:=o2 id hk
   intro hh
   rw [hh] at this
   unfold Ev at this
   split at this<;>first|(rename_i hx;cases hx;done)|cases this
  ·exact hid
 have htok:∀ k,Env.get (Ah post pre) 1 k=.any:=fun k=>by
  rw [Ee,o1 k,if_neg (by decide)];exact p1 k
 have hobj:∀ id,Env.get (Ah post pre) 2 id≠.any->Cq (Env.get (Ah post pre) 2 id)=true:=fun id hid=>by
  rw [Ee] at hid ⊢
  split
  ·rename_i hk
   have:=o2 id hk
   unfold Ev at this
   split at this<;>first|(rename_i hx _;rw [hx];rfl)|(rename_i hx;rw [hx];rfl)|(cases this)
  ·rename_i hk
   rw [if_neg hk] at hid
   exact Hn hpre id hid
 have hcall:=h.2 J G (attW w) (us++cvs) hst hgl hyl (fun b hb=>hfr b (by omega)) (fun b hb=>by have:=hH b hb;omega) hJ1 hmem1 hrel
 refine (attempt_calls g h.1 us cvs w _ hcall fun en w' ⟨h1,h2,h3,h4,h5⟩=>⟨?_,?_⟩).mono ?_
 ·rw [h3 _ (by omega) (fun hh=>by have:=hH _ hh;omega) (fun id hid hh=>by have:=hbk id hid;omega)];exact attW_one w
 ·obtain ⟨G',_,_,_,_,_,_,_,hr⟩:=h5
  cases ha with
  |ok=>
   obtain ⟨v,rfl,vs,rfl,hr⟩:=hr
   obtain rfl:vs=#[]:=by
    have:=hr.1
    exact Array.eq_empty_of_size_eq_zero (by simpa using this.symm)
   exact .inl rfl
  |row x=>exact .inr (.inl ⟨x,hr⟩)
  |text s=>exact .inr (.inr ⟨s,hr⟩)
 ·rintro en w2 ⟨en0,w',⟨h1,h2,h3,h4,h5⟩,hs,hh,⟨x2,hx2⟩,rfl⟩
  have s1:=h1.size
  have s2:=hs.size
  obtain ⟨G',g1,g2,g3,g4,g5,g6,g7,hr⟩:=h5
  have hkeep2:∀ vis:Nat->Nat,(∀ b,w'.heap.size<=b->vis b=0)->vis w.heap.size=0->KeepV vis w' w2:=fun vis v1 v2=>by
   have hv:∀ b,0<vis b->w2.heap[b]?=w'.heap[b]?:=fun b hb=>hh b (by
    rcases Nat.lt_or_ge b w'.heap.size with h|h
    ·exact h
    ·rw [v1 b h] at hb;omega) (fun h=>by rw [h,v2] at hb;omega)
   refine ⟨fun b i hi=>World.cell?_of_block (hv b (by omega)),fun b hb es c he=>by rw [hv b hb];exact he,fun b cs t z hcs=>?_⟩
   by_cases hb:b=w.heap.size
   ·have h9:=h3 w.heap.size (by omega) (fun hh=>by have:=hH _ hh;omega) (fun id hid hh=>by have:=hbk id hid;omega)
    rw [hb,h9,attW_one w] at hcs
    obtain ⟨rfl,rfl,rfl⟩:=Obj.cells.inj (Option.some.inj hcs)
    rw [hb]
    exact ⟨_,_,_,hx2,Nat.le_refl _⟩
   ·exact ⟨cs,t,z,(hh b (Array.getElem?_eq_some_iff.1 hcs).1 hb).trans hcs,Nat.le_refl _⟩
  have hH':∀ b,G'.H b->w2.heap[b]?=w'.heap[b]?:=fun b hb=>by
   refine hh b (g5 b hb) (fun he=>?_)
   have:=hH b ((g4 b (by omega)).1 hb);omega
  have v1:G'.vis w.heap.size=0:=by rw [g2 _ (by omega)];exact hfr _ (by omega)
  refine ⟨((attW_same w).trans h1).trans hs,(hkv.trans h2).trans (hkeep2 G.vis (fun b hb=>hfr b (by omega)) (hfr _ (by omega))),fun b hb hn hno=>?_,fun id k hl hk=>?_,G',g1,fun b hb=>g2 b (by omega),fun b hb=>g3 b (by omega),
   fun b hb=>g4 b (by omega),fun b hb=>by have:=g5 b hb;omega,hst.1 _ _ _ _ _ g6 hH' (hkeep2 G'.vis g3 v1) hs,Mem.keep hobj htok (fun id hid=>?_) (hkeep2 G'.vis g3 v1) hs g7,?_⟩
  ·rw [hh b (by omega) (by omega),h3 b (by omega) hn hno,attW_lt w hb]
  ·have hid:pre.get 2 id≠.any:=by rw [hl];exact Bh
   have hlt:=hbk id hid
   rw [World.cell?_of_block (show w2.heap[G.bk id]?=w'.heap[G.bk id]? from hh _ (by omega) (by omega)),h4 id k hl hk,World.cell?_of_block (show (attW w).heap[G.bk id]?=w.heap[G.bk id]? from attW_lt w hlt)]
  ·have hlt:=hbk id (hused id hid)
   rw [g1]
   exact hh _ (by omega) (by omega)
  ·cases ha with
   |ok=>
    obtain ⟨v,rfl,_⟩:=hr
    exact ⟨_,rfl,att_ret 0⟩
   |row x=>
    have hr:en0=_:=hr
    subst hr
    exact ⟨_,rfl,att_ret 5⟩
   |text s=>
    have hr:en0=_:=hr
    subst hr
    exact ⟨_,rfl,att_ret 4⟩
end Go.Vc.Zn
namespace Go.Vc.Zn.Pa
open Go Go.Proofs Go.Vc Go.RowKit
theorem und20:∃ ms,Tryz.prog.underlying 20=some (.interface ms):=by
 obtain ⟨d,i,z,h1,_,_,_,_,_,h7,_⟩:=yok 20 (by kernel_rfl)
 obtain ⟨ms,rfl⟩:∃ ms,d=.interface ms:=h7
 exact ⟨ms,h1⟩
theorem k133:(Y 504).kind=.struct [(0,3)]:=by kernel_rfl
theorem k135:(Y 543).kind=.struct [(0,9)]:=by kernel_rfl
theorem z133:(Y 504).zero.toArray=#[.int .i64 0]:=by kernel_rfl
theorem z135:(Y 543).zero.toArray=#[.string (ByteArray.mk #[])]:=by kernel_rfl
theorem z26:(Y 30).zero.toArray=#[.int .i64 0]:=by kernel_rfl
theorem s133:(Y 504).size=1:=by kernel_rfl
theorem s135:(Y 543).size=1:=by kernel_rfl
theorem s26:(Y 30).size=1:=by kernel_rfl
theorem kn133:(Y 504).known=true:=by kernel_rfl
theorem kn135:(Y 543).known=true:=by kernel_rfl
theorem kn26:(Y 30).known=true:=by kernel_rfl
theorem ev_const {a:Act} {v:Value}:a.eval (.const v)=v:=rfl
theorem sl1 (p v:Value):SL { tmps:=#[p]++(Array.replicate 13 undef).setIfInBounds 4 v,defers:=[] } 14 (upd (fun t=>#[p].getD t undef) 5 v) []:=by
 have:=(SL.start #[p] 14 (Nat.le_of_ble_eq_true rfl)).put (d:=5) (by decide) v
 simpa [Act.put] using this
def stO (t:TypeId) (p q:Operand):Oper:={ dst:=none,op:=Op.store t p q,type:=0,pos:= "",after:=#[],guard:=none }
theorem catch_idle (p:Value) (w:World):
  CallsD Tryz.prog 397 #[p] .returning w fun e u' w'=>e=.returned (.tuple #[])/\u'=.returning/\w'=w:=by
 refine callsD_of_wpS Tryz.func397 rfl fun c₀ cs hu=>?_
 apply wpS_seq
 apply wpS_region
 simp [wpOpsS,go_sem,recoverD,hu,Tryz.ntmps397,Exit.thenS]
 have S:=sl1 p .nilIface
 refine wpS_of_wp (wp_block (wp_seq (wp_region_list ?_)))
 generalize ({ tmps:=#[p]++(Array.replicate 13 undef).setIfInBounds 4 Value.nilIface,defers:=[] }:Act)=a at S ⊢
 refine Aj S (d:=7) (v:=.bool true) (w':=w) rfl (by decide) rfl ?_ fun a1 S1=>?_
 ·simp [execOp,S.eval,upd,Ub und20,ev_const,eqGuard]
 refine wp_cond_true (by simp [S1.eval,upd]) (wp_region_list ?_)
 refine Aj S1 (d:=1) (v:=.nilIface) (w':=w) rfl (by decide) rfl ?_ fun a2 S2=>?_
 ·simp [execOp,S1.eval,upd]
 cases c₀
 simp_all [wpList,bodyPostS,results,Tryz.results397,Exit.inBlock,S2.defers]
theorem catch_row (b1:Nat) (x:Int) (older:List PanicEntry) (w:World) (h1:w.heap[b1]?=some (.cells #[.int .i64 0] 30 (0,0))):
  CallsD Tryz.prog 397 #[.pointer (some ⟨b1,0,none⟩)] (.panicking ({ v:=.iface 504 (.agg #[.int .i64 x]),recovered:=false }::older)) w fun e u' w'=>
   e=.returned (.tuple #[])/\u'=.panicking ({ v:=.iface 504 (.agg #[.int .i64 x]),recovered:=true }::older)/\Same w w'/\w'.heap[b1]?=some (.cells #[.int .i64 5] 30 (0,0))/\
   ∀ b,b<w.heap.size->b≠b1->w'.heap[b]?=w.heap[b]?:=by
 have l1:b1<w.heap.size:=(Array.getElem?_eq_some_iff.1 h1).1
 refine callsD_of_wpS Tryz.func397 rfl fun c₀ cs hu=>?_
 apply wpS_seq
 apply wpS_region
 simp [wpOpsS,go_sem,recoverD,hu,Tryz.ntmps397,Exit.thenS]
 have S:=sl1 (.pointer (some ⟨b1,0,none⟩)) (.iface 504 (.agg #[.int .i64 x]))
 refine wpS_of_wp (wp_block (wp_seq (wp_region_list ?_)))
 generalize ({ tmps:=#[Value.pointer (some ⟨b1,0,none⟩)]++(Array.replicate 13 undef).setIfInBounds 4 (Value.iface 504 (.agg #[.int .i64 x])),defers:=[] }:Act)=a at S ⊢
 refine Aj S (d:=7) (v:=.bool false) (w':=w) rfl (by decide) rfl ?_ fun a1 S1=>?_
 ·simp [execOp,S.eval,upd,Kg und20,ev_const,eqGuard]
 refine wp_cond_false (by simp [S1.eval,upd]) (wp_seq (wp_region_list ?_))
 refine Aj S1 (d:=8) (v:=.tuple #[.agg #[.int .i64 x],.bool true]) (w':=w) rfl (by decide) rfl ?_ fun a2 S2=>?_
 ·simp [execOp,S1.eval,upd,Kh (yok 504 kn133) ⟨_,k133⟩]
 refine Aj S2 (d:=9) (v:=.bool true) (w':=w) rfl (by decide) rfl ?_ fun a3 S3=>?_
 ·simp [execOp,S2.eval,upd,Instr.extract]
 refine Aj S3 (d:=10) (v:=.agg #[.int .i64 x]) (w':=w) rfl (by decide) rfl ?_ fun a7 S7=>?_
 ·simp [execOp,S3.eval,upd,Instr.extract]
 refine wp_cond_true (by simp [S7.eval,upd]) (wp_seq (wp_region_list ?_))
 have hal:=fun (o:Oper) (ho:o.op=Op.alloc 504)=>Fj (P:=Tryz.prog) (a:=a7) (w:=w) (o:=o) yok (t:=504) ho kn133
 rw [z133] at hal
 refine Aj S7 (d:=2) rfl (by decide) rfl (hal _ rfl) fun a8 S8=>?_
 obtain ⟨w1,hw1⟩:∃ w1,w.alloc (.cells #[.int .i64 0] 504 (0,0))=w1:=⟨_,rfl⟩
 have hw1':w.alloc (.cells #[.int .i64 0] 504)=w1:=hw1
 rw [hw1']
 have g1:Same w w1:=by rw [<-hw1];exact Eo _ _
 have g2:∀ b,b<w.heap.size->w1.heap[b]?=w.heap[b]?:=fun b hb=>by rw [<-hw1];exact Cm _ _ hb
 have g3:w1.heap[w.heap.size]?=some (.cells #[.int .i64 0] 504 (0,0)):=by rw [<-hw1];exact World.alloc_heap_new w _
 have H:=fun (o:Oper) (ho:o.op=Op.store 504 (.tmp 2) (.tmp 10))=>Cz (P:=Tryz.prog) (a:=a8) (w:=w1) (v:=.agg #[.int .i64 x]) (b:=w.heap.size) (o:=o)
  yok (t:=504) ho kn133 (by simp [S8.eval,upd]) (by simp [S8.eval,upd]) (by rw [s133];rfl) (by rw [s133];rfl) (by simp [Value.cells,Value.oneCell']) g3
 obtain ⟨_,r2,r3,r4⟩:=H (stO 504 (.tmp 2) (.tmp 10)) rfl
 refine Cy S8 rfl rfl (H _ rfl).1 fun a9 S9=>?_
 clear H
 generalize w1.setRow w.heap.size (Value.agg #[.int .i64 x]).cells=w2 at r2 r3 r4 ⊢
 refine wp_region_list ?_
 have g5:w2.heap[b1]?=some (.cells #[.int .i64 0] 30 (0,0)):=by rw [r4 _ (by omega),g2 _ l1];exact h1
 have H:=fun (o:Oper) (ho:o.op=Op.store 30 (.tmp 0) (.const (.int .i64 5)))=>Cz (P:=Tryz.prog) (a:=a9) (w:=w2) (v:=.int .i64 5) (b:=b1) (o:=o)
  yok (t:=30) ho kn26 (by simp [S9.eval,upd]) rfl (by rw [s26];rfl) (by rw [s26];rfl) (by simp [Value.cells,Value.oneCell']) g5
 obtain ⟨_,t2,t3,t4⟩:=H (stO 30 (.tmp 0) (.const (.int .i64 5))) rfl
 refine Cy S9 rfl rfl (H _ rfl).1 fun a10 S10=>?_
 clear H
 generalize w2.setRow b1 (Value.int .i64 5).cells=w4 at t2 t3 t4 ⊢
 have e3:∀ b,b<w.heap.size->b≠b1->w4.heap[b]?=w.heap[b]?:=fun b hb h1=>by rw [t4 _ h1,r4 _ (by omega),g2 _ hb]
 have e4:Same w w4:=(g1.trans r3).trans t3
 exact ⟨S10.defers,_,rfl,.tuple #[],by simp [results,Tryz.results397],rfl,rfl,e4,t2,e3⟩
theorem catch_text (b1:Nat) (x:ByteArray) (older:List PanicEntry) (w:World) (h1:w.heap[b1]?=some (.cells #[.int .i64 0] 30 (0,0))):
  CallsD Tryz.prog 397 #[.pointer (some ⟨b1,0,none⟩)] (.panicking ({ v:=.iface 543 (.agg #[.string x]),recovered:=false }::older)) w fun e u' w'=>
   e=.returned (.tuple #[])/\u'=.panicking ({ v:=.iface 543 (.agg #[.string x]),recovered:=true }::older)/\Same w w'/\w'.heap[b1]?=some (.cells #[.int .i64 4] 30 (0,0))/\
   ∀ b,b<w.heap.size->b≠b1->w'.heap[b]?=w.heap[b]?:=by
 have l1:b1<w.heap.size:=(Array.getElem?_eq_some_iff.1 h1).1
 refine callsD_of_wpS Tryz.func397 rfl fun c₀ cs hu=>?_
 apply wpS_seq
 apply wpS_region
 simp [wpOpsS,go_sem,recoverD,hu,Tryz.ntmps397,Exit.thenS]
 have S:=sl1 (.pointer (some ⟨b1,0,none⟩)) (.iface 543 (.agg #[.string x]))
 refine wpS_of_wp (wp_block (wp_seq (wp_region_list ?_)))
 generalize ({ tmps:=#[Value.pointer (some ⟨b1,0,none⟩)]++(Array.replicate 13 undef).setIfInBounds 4 (Value.iface 543 (.agg #[.string x])),defers:=[] }:Act)=a at S ⊢
 refine Aj S (d:=7) (v:=.bool false) (w':=w) rfl (by decide) rfl ?_ fun a1 S1=>?_
 ·simp [execOp,S.eval,upd,Kg und20,ev_const,eqGuard]
 refine wp_cond_false (by simp [S1.eval,upd]) (wp_seq (wp_region_list ?_))
 obtain ⟨z,hz⟩:=Uc (Y:=Y) (t:=504) (t':=543) (xt:=20) (v:=.agg #[.string x]) (w:=w) yok ⟨_,k133⟩ (by decide)
 refine Aj S1 (d:=8) (v:=.tuple #[z,.bool false]) (w':=w) rfl (by decide) rfl ?_ fun a2 S2=>?_
 ·simp [execOp,S1.eval,upd,hz]
 refine Aj S2 (d:=9) (v:=.bool false) (w':=w) rfl (by decide) rfl ?_ fun a3 S3=>?_
 ·simp [execOp,S2.eval,upd,Instr.extract]
 refine Aj S3 (d:=10) (v:=z) (w':=w) rfl (by decide) rfl ?_ fun a4 S4=>?_
 ·simp [execOp,S3.eval,upd,Instr.extract]
 refine wp_cond_false (by simp [S4.eval,upd]) (wp_seq (wp_region_list ?_))
 refine Aj S4 (d:=11) (v:=.tuple #[.agg #[.string x],.bool true]) (w':=w) rfl (by decide) rfl ?_ fun a5 S5=>?_
 ·simp [execOp,S4.eval,upd,Kh (yok 543 kn135) ⟨_,k135⟩]
 refine Aj S5 (d:=12) (v:=.bool true) (w':=w) rfl (by decide) rfl ?_ fun a6 S6=>?_
 ·simp [execOp,S5.eval,upd,Instr.extract]
 refine Aj S6 (d:=13) (v:=.agg #[.string x]) (w':=w) rfl (by decide) rfl ?_ fun a7 S7=>?_
 ·simp [execOp,S6.eval,upd,Instr.extract]
 refine wp_cond_true (by simp [S7.eval,upd]) (wp_seq (wp_region_list ?_))
 have hal:=fun (o:Oper) (ho:o.op=Op.alloc 543)=>Fj (P:=Tryz.prog) (a:=a7) (w:=w) (o:=o) yok (t:=543) ho kn135
 rw [z135] at hal
 refine Aj S7 (d:=3) rfl (by decide) rfl (hal _ rfl) fun a8 S8=>?_
 obtain ⟨w1,hw1⟩:∃ w1,w.alloc (.cells #[.string (ByteArray.mk #[])] 543 (0,0))=w1:=⟨_,rfl⟩
 have hw1':w.alloc (.cells #[.string (ByteArray.mk #[])] 543)=w1:=hw1
 rw [hw1']
 have g1:Same w w1:=by rw [<-hw1];exact Eo _ _
 have g2:∀ b,b<w.heap.size->w1.heap[b]?=w.heap[b]?:=fun b hb=>by rw [<-hw1];exact Cm _ _ hb
 have g3:w1.heap[w.heap.size]?=some (.cells #[.string (ByteArray.mk #[])] 543 (0,0)):=by rw [<-hw1];exact World.alloc_heap_new w _
 have H:=fun (o:Oper) (ho:o.op=Op.store 543 (.tmp 3) (.tmp 13))=>Cz (P:=Tryz.prog) (a:=a8) (w:=w1) (v:=.agg #[.string x]) (b:=w.heap.size) (o:=o)
  yok (t:=543) ho kn135 (by simp [S8.eval,upd]) (by simp [S8.eval,upd]) (by rw [s135];rfl) (by rw [s135];rfl) (by simp [Value.cells,Value.oneCell']) g3
 obtain ⟨_,r2,r3,r4⟩:=H (stO 543 (.tmp 3) (.tmp 13)) rfl
 refine Cy S8 rfl rfl (H _ rfl).1 fun a9 S9=>?_
 clear H
 generalize w1.setRow w.heap.size (Value.agg #[.string x]).cells=w2 at r2 r3 r4 ⊢
 refine wp_region_list ?_
 have g5:w2.heap[b1]?=some (.cells #[.int .i64 0] 30 (0,0)):=by rw [r4 _ (by omega),g2 _ l1];exact h1
 have H:=fun (o:Oper) (ho:o.op=Op.store 30 (.tmp 0) (.const (.int .i64 4)))=>Cz (P:=Tryz.prog) (a:=a9) (w:=w2) (v:=.int .i64 4) (b:=b1) (o:=o)
  yok (t:=30) ho kn26 (by simp [S9.eval,upd]) rfl (by rw [s26];rfl) (by rw [s26];rfl) (by simp [Value.cells,Value.oneCell']) g5
 obtain ⟨_,t2,t3,t4⟩:=H (stO 30 (.tmp 0) (.const (.int .i64 4))) rfl
 refine Cy S9 rfl rfl (H _ rfl).1 fun a10 S10=>?_
 clear H
 generalize w2.setRow b1 (Value.int .i64 4).cells=w4 at t2 t3 t4 ⊢
 have e3:∀ b,b<w.heap.size->b≠b1->w4.heap[b]?=w.heap[b]?:=fun b hb h1=>by rw [t4 _ h1,r4 _ (by omega),g2 _ hb]
 have e4:Same w w4:=(g1.trans r3).trans t3
 exact ⟨S10.defers,_,rfl,.tuple #[],by simp [results,Tryz.results397],rfl,rfl,e4,t2,e3⟩
def attV:Ending->Value
 | .panicked [{ v:=.iface 504 _,.. }]=>.int .i64 5
 | .panicked [{ v:=.iface 543 _,.. }]=>.int .i64 4
 |_=>.int .i64 0
def attW (w:World):World:=w.alloc (.cells #[.int .i64 0] 30 (0,0))
structure AttOK (w w':World) (en:Ending):Prop where
 one:w'.heap[w.heap.size]?=some (.cells #[.int .i64 0] 30 (0,0))
 en:en=.returned (.tuple #[])∨(∃ x,en=.panicked [{ v:=.iface 504 (.agg #[.int .i64 x]),recovered:=false }])∨∃ s,en=.panicked [{ v:=.iface 543 (.agg #[.string s]),recovered:=false }]
theorem att_results {a:Act} {w:World} {b1:Nat} {x:Value} (h1:a.tmps.getD 2 undef=.pointer (some ⟨b1,0,none⟩))
  (g1:w.heap[b1]?=some (.cells #[x] 30 (0,0))):(results Tryz.f367 a.tmps).run Tryz.prog w=.ok x w:=by
 have l1:=Jr yok (t:=30) (by kernel_rfl) (w:=w) (b:=b1) (off:=0) (u:=x) (by simp [World.cell?,g1])
 have he:Tryz.f367.results.mapM (Aq a.tmps)=List.toArray <$> Tryz.f367.results.toList.mapM (Aq a.tmps):=Array.mapM_eq_mapM_toList ..
 have he2:results Tryz.f367 a.tmps=(Tryz.f367.results.mapM (Aq a.tmps) >>= fun vs=>pure (if h:vs.size=1 then vs[0] else .tuple vs)):=rfl
 have hrun:([ResultVar.cell 2 30].mapM (Aq a.tmps)).run Tryz.prog w=.ok [x] w:=by
  have r1:(Aq a.tmps (.cell 2 30)).run Tryz.prog w=.ok x w:=by simp [Aq,h1,asAddr,l1]
  rw [Gz,r1,Result.andThen_ok]
  simp
 rw [he2,he,Tryz.results367]
 simp only [Sem.run_bind,Sem.run_map,hrun,Result.andThen_ok,Sem.run_pure]
 rfl
theorem attempt_calls (g:FuncId) (hg:Gy Tryz.prog g) (us vs:Array Value) (w:World) (R:Ending->World->Prop) (hcall:Calls Tryz.prog g (us++vs) (attW w) R) (hR:∀ en w',R en w'->AttOK w w' en):
  Calls Tryz.prog 367 #[.func (.func g) us vs] w fun en w''=>∃ en0 w',R en0 w'/\Same w' w''/\(∀ b,b<w'.heap.size->b≠w.heap.size->w''.heap[b]?=w'.heap[b]?)/\(∃ x,w''.heap[w.heap.size]?=some (.cells #[x] 30 (0,0)))/\en=.returned (attV en0):=by
 go_enter_defers Tryz.func367,Tryz.ntmps367
 have S:SL { tmps:=#[Value.func (Fn.func g) us vs,undef,undef,undef,undef,undef],defers:=[] } 6 (fun t=>#[Value.func (Fn.func g) us vs].getD t undef) []:=by
  exact SL.start #[Value.func (Fn.func g) us vs] 6 (Nat.le_of_ble_eq_true rfl)
 generalize ({ tmps:=#[Value.func (Fn.func g) us vs,undef,undef,undef,undef,undef],defers:=[] }:Act)=a at S ⊢
 refine wp_seq (wp_region_list ?_)
 have hal:=fun (o:Oper) (ho:o.op=Op.alloc 30)=>Fj (P:=Tryz.prog) (a:=a) (w:=w) (o:=o) yok (t:=30) ho kn26
 rw [z26] at hal
 refine Aj S (d:=2) rfl (by decide) rfl (hal _ rfl) fun a2 S2=>?_
 show Code.wp Tryz.prog _ _ a2 (attW w)
 generalize hw1:attW w=w1 at hcall ⊢
 refine wp_seq (wp_region_list ?_)
 refine Aj S2 (d:=3) (v:=.func (.func 397) #[] #[.pointer (some ⟨w.heap.size,0,none⟩)]) (w':=w1) rfl (by decide) rfl ?_ fun a3 S3=>?_
 ·simp [execOp,S2.eval,upd,Instr.makeFunc]
 refine Sy S3 (d:={ target:=.fn (.func 397) #[.pointer (some ⟨w.heap.size,0,none⟩)],args:=#[] }) rfl rfl ?_ fun a4 S4=>?_
 ·simp [execOp,resolve,S3.eval,upd,Deferred.ofValue]
 refine wp_seq (wp_region_list ?_)
 refine Aj S4 (d:=4) (v:=.func (.func g) us vs) (w':=w1) rfl (by decide) rfl ?_ fun a5 S5=>?_
 ·simp [execOp,S4.eval,upd]
 have hinv:∀ (p:Value) (w:World),(invoke (.fn (.func 397) #[p]) #[]).run Tryz.prog w=.ok (.enter 397 #[p]) w:=fun p w=>by
  have h2:(Tryz.f397.name== "runtime.NumGoroutine")=false:=by kernel_rfl
  have h3:Tryz.f397.body.isNone=false:=by kernel_rfl
  have h2':Tryz.f397.name≠ "runtime.NumGoroutine":=by simpa using h2
  have h3':Tryz.f397.body≠none:=by intro hh;rw [hh] at h3;cases h3
  simp [invoke,callFunc,Tryz.func397,h2',h3']
 refine Sz S5 (d:=5) (g:=g) (vs:=us++vs) (R:=R) rfl (by decide) rfl ?_ hcall (fun v w2 hr a6 S6=>?_) (fun ch w2 hr=>?_) (fun w2 hr=>?_)
 ·have:=fun (o:Oper) (ho:o.op=Op.call { callee:=Callee.value (Operand.tmp 4),args:=#[],argTypes:=#[] })=>Nv (P:=Tryz.prog) (a:=a5) (w:=w1) (o:=o) ho (by simp [S5.eval,upd]) hg (us:=us) (cvs:=vs)
  simpa using this _ rfl
 ·obtain ⟨c1,c3⟩:=hR _ _ hr
  have l1:w.heap.size<w2.heap.size:=(Array.getElem?_eq_some_iff.1 c1).1
  refine wp_seq (wp_region_list ?_)
  have H:=fun (o:Oper) (ho:o.op=Op.store 30 (.tmp 2) (.const (.int .i64 0)))=>Cz (P:=Tryz.prog) (a:=a6) (w:=w2) (v:=.int .i64 0) (b:=w.heap.size) (o:=o)
   yok (t:=30) ho kn26 (by simp [S6.eval,upd]) rfl (by rw [s26];rfl) (by rw [s26];rfl) (by simp [Value.cells,Value.oneCell']) c1
  obtain ⟨_,t2,t3,t4⟩:=H (stO 30 (.tmp 2) (.const (.int .i64 0))) rfl
  refine Cy S6 rfl rfl (H _ rfl).1 fun a9 S9=>?_
  clear H
  generalize w2.setRow w.heap.size (Value.int .i64 0).cells=w4 at t2 t3 t4 ⊢
  refine wp_ret ?_
  show Leaves Tryz.prog Tryz.f367 a9.tmps _ a9.defers .returning w4
  rw [S9.defers]
  refine leaves_cons (by simp) (hinv _ w4) ((catch_idle _ w4).mono ?_)
  rintro e u' w5 ⟨rfl,rfl,rfl⟩
  have r1:=att_results (a:=a9) (w:=w5) (b1:=w.heap.size) (by rw [S9.get 2 (by decide)];simp [upd]) t2
  refine ⟨_,r1,_,_,hr,t3,fun b hb h1=>t4 _ h1,⟨_,t2⟩,?_⟩
  rcases c3 with h|⟨_,h⟩|⟨_,h⟩<;>cases h
  rfl
 ·obtain ⟨c1,c3⟩:=hR _ _ hr
  have l1:w.heap.size<w2.heap.size:=(Array.getElem?_eq_some_iff.1 c1).1
  show Leaves Tryz.prog Tryz.f367 a5.tmps _ a5.defers (.panicking ch) w2
  rw [S5.defers]
  refine leaves_cons (by simp) (hinv _ w2) ?_
  have e1:a5.tmps.getD 2 undef=.pointer (some ⟨w.heap.size,0,none⟩):=by rw [S5.get 2 (by decide)];simp [upd]
  rcases c3 with h|⟨x,h⟩|⟨s,h⟩
  ·cases h
  ·obtain rfl:ch=[{ v:=.iface 504 (.agg #[.int .i64 x]),recovered:=false }]:=Ending.panicked.inj h
   refine (catch_row _ x [] w2 c1).mono ?_
   rintro e u' w5 ⟨rfl,rfl,g1,g2,g4⟩
   have r1:=att_results (a:=a5) (w:=w5) e1 g2
   exact ⟨_,r1,_,_,hr,g1,g4,⟨_,g2⟩,rfl⟩
  ·obtain rfl:ch=[{ v:=.iface 543 (.agg #[.string s]),recovered:=false }]:=Ending.panicked.inj h
   refine (catch_text _ s [] w2 c1).mono ?_
   rintro e u' w5 ⟨rfl,rfl,g1,g2,g4⟩
   have r1:=att_results (a:=a5) (w:=w5) e1 g2
   exact ⟨_,r1,_,_,hr,g1,g4,⟨_,g2⟩,rfl⟩
 ·obtain ⟨_,c3⟩:=hR _ _ hr
  rcases c3 with h|⟨_,h⟩|⟨_,h⟩<;>cases h
variable {Gl:World->Prop}
inductive AttR:Res->Int->Prop
 |ok:AttR (.ret (.tup [])) 0
 |row (x:Int):AttR (.pan (.iface 504 (.agg #[.int .i64 x]))) 5
 |text (s:ByteArray):AttR (.pan (.iface 543 (.agg #[.string s]))) 4
theorem attW_size (w:World):(attW w).heap.size=w.heap.size+1:=by simp [attW,World.size_alloc]
theorem attW_lt (w:World) {b:Nat} (h:b<w.heap.size):(attW w).heap[b]?=w.heap[b]?:=by
 unfold attW
 exact Cm _ _ h
theorem attW_same (w:World):Same w (attW w):=Eo _ _
theorem attW_one (w:World):(attW w).heap[w.heap.size]?=some (.cells #[.int .i64 0] 30 (0,0)):=World.alloc_heap_new w _
theorem attW_keep {vis:Nat->Nat} {w:World} (h:∀ b,w.heap.size<=b->vis b=0):KeepV vis w (attW w):=
 ⟨fun b i hi=>World.cell?_of_block (attW_lt w (by
  rcases Nat.lt_or_ge b w.heap.size with hb|hb
  ·exact hb
  ·rw [h b hb] at hi;omega)),fun b hb es c he=>by rw [attW_lt w (Array.getElem?_eq_some_iff.1 he).1];exact he,Mb fun b h=>attW_lt w h⟩
theorem att_ret {base:Nat} {vis:Nat->Nat} {w:World} (e:Int):Fz base vis w (I e) (.int .i64 e):=Rep.v _ rfl
theorem attempt74 (S:Set Tryz.prog Y Gl) {g:FuncId} {fst caps:List T} {r:Res} {ev:Int} (h:CO Gl g (fst++caps) r) (ha:AttR r ev):CO Gl 367 [.fn g fst caps] (.ret (I ev)):=by
 refine ⟨⟨_,Tryz.func367,Ahp,by kernel_rfl⟩,fun vis w vs hvis hgl hargs=>?_⟩
 simp only [Ab,Aa] at hargs
 obtain ⟨v,vs1,hvs,⟨us,cvs,rfl,hu,hc⟩,rfl⟩:=hargs
 obtain rfl:vs=#[.func (.func g) us cvs]:=by rw [<-Array.toArray_toList (xs:=vs),hvs]
 have hb:Below w.heap.size w (attW w):=⟨(attW_same w).os,(attW_same w).tape,(attW_same w).output,(attW_same w).size,fun k hk=>attW_lt w hk⟩
 have hext:Ext (Lo w.heap.size) (Gh0 vis) (Gh0 vis) w (attW w):=⟨fun _=>Nat.le_refl _,attW_keep hvis,fun b hb=>attW_lt w hb⟩
 have hrel:Ab (Gh0 vis) (attW w) (Lo (attW w).heap.size) (fst++caps) (us++cvs).toList:=by
  rw [Array.toList_append]
  exact Ab.weak (fun b hb=>by have:=attW_size w;unfold Lo at hb ⊢;omega) ((Ab.mono hext (fun _ _=>rfl) hu).app (Ab.mono hext (fun _ _=>rfl) hc))
 have hcall:=h.2 vis (attW w) (us++cvs) (fun b hb=>hvis b (by rw [attW_size] at hb;omega)) (S.gl _ _ hgl hb) hrel
 refine (attempt_calls g h.1 us cvs w _ hcall fun en w' ⟨hbe,han⟩=>⟨?_,?_⟩).mono ?_
 ·rw [hbe.block _ (by rw [attW_size];omega)];exact attW_one w
 ·cases ha with
  |ok=>
   obtain ⟨v,vis',rfl,_,_,vs,rfl,hr⟩:=han
   obtain rfl:vs=#[]:=by
    have:=hr.1
    exact Array.eq_empty_of_size_eq_zero (by simpa using this.symm)
   exact .inl rfl
  |row x=>exact .inr (.inl ⟨x,han⟩)
  |text s=>exact .inr (.inr ⟨s,han⟩)
 ·rintro en w2 ⟨en0,w',⟨hbe,han⟩,hs,hh,_,rfl⟩
  have hsz:w.heap.size<=w2.heap.size:=by
   have h1:=hbe.size
   have h2:=hs.size
   rw [attW_size] at h1;omega
  refine ⟨⟨hs.os.trans (hbe.os.trans hb.os),hs.tape.trans (hbe.tape.trans hb.tape),hs.output.trans (hbe.output.trans hb.output),hsz,fun k hk=>?_⟩,_,vis,rfl,fun _ _=>rfl,fun b hb=>hvis b (by omega),?_⟩
  ·have h1:=hbe.size
   rw [attW_size] at h1
   rw [hh k (by omega) (by omega),hbe.block k (by rw [attW_size];omega),attW_lt w hk]
  ·cases ha with
   |ok=>
    obtain ⟨v,vis',rfl,_⟩:=han
    exact att_ret 0
   |row x=>
    have han:en0=_:=han
    subst han
    exact att_ret 5
   |text s=>
    have han:en0=_:=han
    subst han
    exact att_ret 4
theorem attempt74_does {g:FuncId} {fst caps:List T} {r:Res} {ev:Int} {pre post:Env} {yd:Yd} (hpre:En pre=true) (hpost:Hj pre post=true) (h:Does Tryz.prog Y Gl yd g (fst++caps) pre r post) (ha:AttR r ev):Does Tryz.prog Y Gl yd 367 [.fn g fst caps] pre (.ret (I ev)) post:=by
 obtain ⟨p0,p1,p2⟩:=La hpre
 obtain ⟨o1,o2,o3⟩:=Mk hpost
 refine ⟨⟨_,Tryz.func367,Ahp,by kernel_rfl⟩,fun J G w vs hst hgl hyl hfr hH hJ hmem hargs=>?_⟩
 simp only [Ab,Aa] at hargs
 obtain ⟨v,vs1,hvs,⟨us,cvs,rfl,hu,hc⟩,rfl⟩:=hargs
 obtain rfl:vs=#[.func (.func g) us cvs]:=by rw [<-Array.toArray_toList (xs:=vs),hvs]
 have hkv:=attW_keep (w:=w) hfr
 have hext:Ext (fun _=>False) G G w (attW w):=⟨fun _=>Nat.le_refl _,hkv,fun b hb=>hb.elim⟩
 have hrel:Ab G (attW w) (fun _=>False) (fst++caps) (us++cvs).toList:=by
  rw [Array.toList_append]
  exact (Ab.mono hext (fun _ _=>rfl) hu).app (Ab.mono hext (fun _ _=>rfl) hc)
 have hbk:∀ id,pre.get 2 id≠.any->G.bk id<w.heap.size:=fun id hid=>(hmem.box id hid).2.1
 have hJ1:=hst.1 _ _ _ _ _ hJ (fun b hb=>attW_lt w (hH b hb)) hkv (attW_same w)
 have hmem1:Mem Y (fun _=>False) pre (attW w) G:=Mem.keep (Hn hpre) p1 (fun id hid=>attW_lt w (hbk id hid)) hkv (attW_same w) hmem
 have hsz:=attW_size w
 have hused:∀ id,Env.get (Ah post pre) 2 id≠.any->pre.get 2 id≠.any:=fun id hid=>by
  rw [Ee] at hid
  split at hid
  ·rename_i hk
   have:=o2 id hk
   intro hh
   rw [hh] at this
   unfold Ev at this
   split at this<;>first|(rename_i hx;cases hx;done)|cases this
  ·exact hid
 have htok:∀ k,Env.get (Ah post pre) 1 k=.any:=fun k=>by
  rw [Ee,o1 k,if_neg (by decide)];exact p1 k
 have hobj:∀ id,Env.get (Ah post pre) 2 id≠.any->Cq (Env.get (Ah post pre) 2 id)=true:=fun id hid=>by
  rw [Ee] at hid ⊢
  split
  ·rename_i hk
   have:=o2 id hk
   unfold Ev at this
   split at this<;>first|(rename_i hx _;rw [hx];rfl)|(rename_i hx;rw [hx];rfl)|(cases this)
  ·rename_i hk
   rw [if_neg hk] at hid
   exact Hn hpre id hid
 have hcall:=h.2 J G (attW w) (us++cvs) hst hgl hyl (fun b hb=>hfr b (by omega)) (fun b hb=>by have:=hH b hb;omega) hJ1 hmem1 hrel
 refine (attempt_calls g h.1 us cvs w _ hcall fun en w' ⟨h1,h2,h3,h4,h5⟩=>⟨?_,?_⟩).mono ?_
 ·rw [h3 _ (by omega) (fun hh=>by have:=hH _ hh;omega) (fun id hid hh=>by have:=hbk id hid;omega)];exact attW_one w
 ·obtain ⟨G',_,_,_,_,_,_,_,hr⟩:=h5
  cases ha with
  |ok=>
   obtain ⟨v,rfl,vs,rfl,hr⟩:=hr
   obtain rfl:vs=#[]:=by
    have:=hr.1
    exact Array.eq_empty_of_size_eq_zero (by simpa using this.symm)
   exact .inl rfl
  |row x=>exact .inr (.inl ⟨x,hr⟩)
  |text s=>exact .inr (.inr ⟨s,hr⟩)
 ·rintro en w2 ⟨en0,w',⟨h1,h2,h3,h4,h5⟩,hs,hh,⟨x2,hx2⟩,rfl⟩
  have s1:=h1.size
  have s2:=hs.size
  obtain ⟨G',g1,g2,g3,g4,g5,g6,g7,hr⟩:=h5
  have hkeep2:∀ vis:Nat->Nat,(∀ b,w'.heap.size<=b->vis b=0)->vis w.heap.size=0->KeepV vis w' w2:=fun vis v1 v2=>by
   have hv:∀ b,0<vis b->w2.heap[b]?=w'.heap[b]?:=fun b hb=>hh b (by
    rcases Nat.lt_or_ge b w'.heap.size with h|h
    ·exact h
    ·rw [v1 b h] at hb;omega) (fun h=>by rw [h,v2] at hb;omega)
   refine ⟨fun b i hi=>World.cell?_of_block (hv b (by omega)),fun b hb es c he=>by rw [hv b hb];exact he,fun b cs t z hcs=>?_⟩
   by_cases hb:b=w.heap.size
   ·have h9:=h3 w.heap.size (by omega) (fun hh=>by have:=hH _ hh;omega) (fun id hid hh=>by have:=hbk id hid;omega)
    rw [hb,h9,attW_one w] at hcs
    obtain ⟨rfl,rfl,rfl⟩:=Obj.cells.inj (Option.some.inj hcs)
    rw [hb]
    exact ⟨_,_,_,hx2,Nat.le_refl _⟩
   ·exact ⟨cs,t,z,(hh b (Array.getElem?_eq_some_iff.1 hcs).1 hb).trans hcs,Nat.le_refl _⟩
  have hH':∀ b,G'.H b->w2.heap[b]?=w'.heap[b]?:=fun b hb=>by
   refine hh b (g5 b hb) (fun he=>?_)
   have:=hH b ((g4 b (by omega)).1 hb);omega
  have v1:G'.vis w.heap.size=0:=by rw [g2 _ (by omega)];exact hfr _ (by omega)
  refine ⟨((attW_same w).trans h1).trans hs,(hkv.trans h2).trans (hkeep2 G.vis (fun b hb=>hfr b (by omega)) (hfr _ (by omega))),fun b hb hn hno=>?_,fun id k hl hk=>?_,G',g1,fun b hb=>g2 b (by omega),fun b hb=>g3 b (by omega),
   fun b hb=>g4 b (by omega),fun b hb=>by have:=g5 b hb;omega,hst.1 _ _ _ _ _ g6 hH' (hkeep2 G'.vis g3 v1) hs,Mem.keep hobj htok (fun id hid=>?_) (hkeep2 G'.vis g3 v1) hs g7,?_⟩
  ·rw [hh b (by omega) (by omega),h3 b (by omega) hn hno,attW_lt w hb]
  ·have hid:pre.get 2 id≠.any:=by rw [hl];exact Bh
   have hlt:=hbk id hid
   rw [World.cell?_of_block (show w2.heap[G.bk id]?=w'.heap[G.bk id]? from hh _ (by omega) (by omega)),h4 id k hl hk,World.cell?_of_block (show (attW w).heap[G.bk id]?=w.heap[G.bk id]? from attW_lt w hlt)]
  ·have hlt:=hbk id (hused id hid)
   rw [g1]
   exact hh _ (by omega) (by omega)
  ·cases ha with
   |ok=>
    obtain ⟨v,rfl,_⟩:=hr
    exact ⟨_,rfl,att_ret 0⟩
   |row x=>
    have hr:en0=_:=hr
    subst hr
    exact ⟨_,rfl,att_ret 5⟩
   |text s=>
    have hr:en0=_:=hr
    subst hr
    exact ⟨_,rfl,att_ret 4⟩
end Go.Vc.Zn.Pa
namespace Go.Vc.Zn.Py
open Go Go.Proofs Go.Vc Go.RowKit
def cnt (l:Line):Int:=l.p0*960+l.p1*48+l.p2*4+l.p3
theorem sumF {Gl} (S:SP Gl) (a b c d:Int) (h:(0<=a/\a<=1000000)/\(0<=b/\b<=1000000)/\(0<=c/\c<=1000000)/\(0<=d/\d<=1000000)):CO Gl 398 [.d (.c (.s .n 4 fun i=>[List.map C.dem [C.v (.int .i64 a)],List.map C.dem [C.v (.int .i64 b)],List.map C.dem [C.v (.int .i64 c)],List.map C.dem [C.v (.int .i64 d)]].getD i []))] (.ret (I (a+b+c+d))):=by
 have h1:=Asj S [a,b,c,d] (by show 4<=1000;omega) (fun k hk=>by
  have hk:k<=4:=hk
  match k,hk with
  |0,_=>show -1000000000<=(0:Int)/\(0:Int)<=1000000000;omega
  |1,_=>show -1000000000<=0+a/\0+a<=1000000000;omega
  |2,_=>show -1000000000<=0+a+b/\0+a+b<=1000000000;omega
  |3,_=>show -1000000000<=0+a+b+c/\0+a+b+c<=1000000000;omega
  |4,_=>show -1000000000<=0+a+b+c+d/\0+a+b+c+d<=1000000000;omega)
 have h2:Hc [a,b,c,d] [a,b,c,d].length=a+b+c+d:=by
  show 0+a+b+c+d=_
  rw [Int.zero_add]
 rw [h2] at h1
 exact h1.args ⟨rfl,fun i hi=>.inl (by match i,hi with|0,_=>rfl|1,_=>rfl|2,_=>rfl|3,_=>rfl)⟩
theorem Ajk {Gl} (S:SP Gl) (l:Line) (h:Ih l=true):CO Gl 369 [.d (.agg (Tx l))] (.ret (I (cnt l))):=by
 refine Ao S (let A0:=(I (Line.p0 l*(960:Int)+Line.p1 l*(48:Int)+Line.p2 l*(4:Int)+Line.p3 l));((.r (.ret (T.d (D.agg [Ci 960,Ci 48,Ci 4,Ci 1]))) (.r (.ret A0) .nil)),(CO Gl 177 [] (.ret (T.d (D.agg [Ci 960,Ci 48,Ci 4,Ci 1])))/\iR (l.6*(960:Int))/\iR (l.7*(48:Int))/\iR (l.8*(4:Int))/\CO Gl 398 [T.d (D.c (C.s Tag.n (4:Nat) fun i=>List.getD [List.map C.dem [C.v (Value.int IntKind.i64 (Line.p0 l*(960:Int)))],List.map C.dem [C.v (Value.int IntKind.i64 (Line.p1 l*(48:Int)))],List.map C.dem [C.v (Value.int IntKind.i64 (Line.p2 l*(4:Int)))],List.map C.dem [C.v (Value.int IntKind.i64 (Line.p3 l))]] i []))] (.ret A0)/\l.6*(960:Int)+l.7*(48:Int)+l.8*(4:Int)+l.9=cnt l))) Tryz.func369 (by kernel_rfl) (by kernel_rfl) ?_
 unfold Ih at h
 simp only [Bool.and_eq_true,Bo] at h
 exact ⟨Asi S,(Af _).2 (by omega),(Af _).2 (by omega),(Af _).2 (by omega),sumF S _ _ _ _ (by omega),rfl⟩
def Gg (b:PBook) (er:List Int):List Int:=Di b er b.lines.length
def Qp (b:PBook) (er:List Int) (i:Nat):Bool:=nth (Gg b er) i==cnt (nth b.lines i)
def paidAll (b:PBook) (er:List Int):Bool:=(List.range b.lines.length).all (Qp b er)
def My (b:PBook) (er:List Int):Nat:=Bm (Qp b er) (List.range b.lines.length)
theorem Ath {Gl} (S:SP Gl) (b:PBook) (er:List Int) (h:okPB b=true) (he:er.length=b.lines.length) (hx:∀ i,i<er.length->inR (nth er i) 0 20=true) (hp:paidAll b er=true):CO Gl 368 [.d (.rd (cAc b er))] (.ret (.tup [])):=by
 refine Ao S (let A0:=[D.c (C.l eI (Di b er (List.length (PBook.lines b)))),D.c (C.m (0:Nat) false (Dh b (List.length (PBook.lines b))) (Ii b er (List.length (PBook.lines b))))];let A1:=(PBook.lines b);((.r (.ret (.tup A0)) (.loop (List.length A1) (fun k=>[v 12 (I k),v 11 (I (List.length A1:Int)),v 10 (L eI (Gg b er)),v 0 (T.d (D.rd (cAc b er)))]) fun k0=>.br (.r (.ret (I (cnt (nth A1 k0)))) (.br .nil .nil)) .nil)),(CO Gl 175 [tAc b er] (.ret (.tup A0))/\(List.length (Di b er b.7.length)<=maxLen->(0=(↑(0:Nat):Int)/\(List.length (Di b er b.7.length):Int)=(b.7.length:Int)/\(sQ eI (Di b er b.7.length) (Gg b er))/\b.1=b.1/\b.2=b.2/\b.3=b.3/\b.4=b.4/\b.5=b.5/\b.6=b.6/\(sR eLine b.7)/\sR eI er)/\∀ (k0:Nat),k0<=List.length A1->(decide ((k0:Int)<(b.7.length:Int))=true->(0<=(k0:Int)/\(k0:Int)<(List.length (Gg b er):Int))/\(0<=(k0:Int)/\(k0:Int)<(b.7.length:Int))/\CO Gl 369 [T.d (D.agg (Tx (nth A1 k0)))] (.ret (I (cnt (nth A1 k0))))/\((nth (Gg b er) k0 != cnt (nth b.7 k0))=true->False)/\((nth (Gg b er) k0 != cnt (nth b.7 k0))=false->iR ((k0:Int)+1)/\k0<List.length A1/\(k0:Int)+1=(↑(k0+1):Int)/\(b.7.length:Int)=(b.7.length:Int)/\(sR eI (Gg b er))/\b.1=b.1/\b.2=b.2/\b.3=b.3/\b.4=b.4/\b.5=b.5/\b.6=b.6/\(sR eLine b.7)/\sR eI er))/\(decide ((k0:Int)<(b.7.length:Int))=false->True))))) Tryz.func368 (by kernel_rfl) (by kernel_rfl) ?_
 dsimp only
 have hr:∀ (n:Nat) (f:Nat->List C),SEq n f n f:=fun _ _=>.of ⟨rfl,fun _ _=>rfl⟩
 have hlb:=(okPB_facts h).2.2.1
 have hpl:(Gg b er).length=b.lines.length:=Yr b er _
 refine ⟨Aja S b er h he hx,fun _=>⟨⟨rfl,by rw [show (Di b er b.lines.length).length=b.lines.length from hpl],hr _ _,rfl,rfl,rfl,rfl,rfl,rfl,hr _ _,hr _ _⟩,fun k hk=>⟨fun hd=>?_,fun _=>trivial⟩⟩⟩
 have hlt:k<b.lines.length:=by have:=of_decide_eq_true hd;exact Int.ofNat_lt.1 this
 have hok:Qp b er k=true:=List.all_eq_true.1 hp k (List.mem_range.2 hlt)
 have hmon:Ih (nth b.lines k)=true:=by
  have:=(okPB_facts h).2.2.2.2.2.2.2 k hlt
  unfold Ch at this
  simp only [Bool.and_eq_true] at this
  exact this.2
 refine ⟨⟨by omega,by rw [hpl];exact Int.ofNat_lt.2 hlt⟩,⟨by omega,Int.ofNat_lt.2 hlt⟩,Ajk S _ hmon,fun hn=>?_,fun _=>⟨(Af _).2 (by omega),hlt,by omega,rfl,hr _ _,rfl,rfl,rfl,rfl,rfl,rfl,hr _ _,hr _ _⟩⟩
 have h1:=beq_iff_eq.1 hok
 rw [h1] at hn
 simp at hn
theorem Ati {Gl} (S:SP Gl) (b:PBook) (er:List Int) (h:okPB b=true) (he:er.length=b.lines.length) (hx:∀ i,i<er.length->inR (nth er i) 0 20=true) (hp:paidAll b er=false):CO Gl 368 [.d (.rd (cAc b er))] (.pan (.iface 504 (.agg #[.int .i64 (My b er)]))):=by
 refine Ao S (let A0:=[D.c (C.l eI (Di b er (List.length (PBook.lines b)))),D.c (C.m (0:Nat) false (Dh b (List.length (PBook.lines b))) (Ii b er (List.length (PBook.lines b))))];((.r (.ret (.tup A0)) (.loop (My b er) (fun k=>[v 12 (I k),v 11 (I (List.length (PBook.lines b):Int)),v 10 (L eI (Gg b er)),v 0 (T.d (D.rd (cAc b er)))]) fun k0=>.br (.r (.ret (I (cnt (nth (PBook.lines b) k0)))) (.br .nil .nil)) .nil)),(CO Gl 175 [tAc b er] (.ret (.tup A0))/\(List.length (Di b er b.7.length)<=maxLen->(0=(↑(0:Nat):Int)/\(List.length (Di b er b.7.length):Int)=(b.7.length:Int)/\(sQ eI (Di b er b.7.length) (Gg b er))/\b.1=b.1/\b.2=b.2/\b.3=b.3/\b.4=b.4/\b.5=b.5/\b.6=b.6/\(sR eLine b.7)/\sR eI er)/\∀ (k0:Nat),k0<=My b er->(decide ((k0:Int)<(b.7.length:Int))=true->(0<=(k0:Int)/\(k0:Int)<(List.length (Gg b er):Int))/\(0<=(k0:Int)/\(k0:Int)<(b.7.length:Int))/\CO Gl 369 [T.d (D.agg (Tx (nth (PBook.lines b) k0)))] (.ret (I (cnt (nth (PBook.lines b) k0))))/\((nth (Gg b er) k0 != cnt (nth b.7 k0))=true->Value.iface (504:Nat) (Value.agg (Array.mk [Value.int IntKind.i64 (k0:Int)]))=Value.iface (504:Nat) (Value.agg (Array.mk [Value.int IntKind.i64 (↑(My b er):Int)])))/\((nth (Gg b er) k0 != cnt (nth b.7 k0))=false->iR ((k0:Int)+1)/\k0<My b er/\(k0:Int)+1=(↑(k0+1):Int)/\(b.7.length:Int)=(b.7.length:Int)/\(sR eI (Gg b er))/\b.1=b.1/\b.2=b.2/\b.3=b.3/\b.4=b.4/\b.5=b.5/\b.6=b.6/\(sR eLine b.7)/\sR eI er))/\(decide ((k0:Int)<(b.7.length:Int))=false->False))))) Tryz.func368 (by kernel_rfl) (by kernel_rfl) ?_
 dsimp only
 have hr:∀ (n:Nat) (f:Nat->List C),SEq n f n f:=fun _ _=>.of ⟨rfl,fun _ _=>rfl⟩
 have hlb:=(okPB_facts h).2.2.1
 have hpl:(Gg b er).length=b.lines.length:=Yr b er _
 have hlen:(List.range b.lines.length).length=b.lines.length:=List.length_range
 refine ⟨Aja S b er h he hx,fun _=>⟨⟨rfl,by rw [show (Di b er b.lines.length).length=b.lines.length from hpl],hr _ _,rfl,rfl,rfl,rfl,rfl,rfl,hr _ _,hr _ _⟩,fun k hk=>⟨fun hd=>?_,fun hd=>?_⟩⟩⟩
 ·have hlt:k<b.lines.length:=by have:=of_decide_eq_true hd;exact Int.ofNat_lt.1 this
  have hmon:Ih (nth b.lines k)=true:=by
   have:=(okPB_facts h).2.2.2.2.2.2.2 k hlt
   unfold Ch at this
   simp only [Bool.and_eq_true] at this
   exact this.2
  refine ⟨⟨by omega,by rw [hpl];exact Int.ofNat_lt.2 hlt⟩,⟨by omega,Int.ofNat_lt.2 hlt⟩,Ajk S _ hmon,fun hn=>?_,fun hn=>⟨(Af _).2 (by omega),Id hk (by rw [hlen];exact hlt) ?_,by omega,rfl,hr _ _,rfl,rfl,rfl,rfl,rfl,rfl,hr _ _,hr _ _⟩⟩
  ·have hke:My b er=k:=by
    rcases Nat.lt_or_ge k (My b er) with h2|h2
    ·have h3:=Jy (p:=Qp b er) h2
     rw [Cr hlt] at h3
     have h3:=beq_iff_eq.1 h3
     rw [h3] at hn
     simp at hn
    ·omega
   rw [hke]
  ·rw [Cr hlt]
   unfold Qp
   simpa using hn
 ·have hge:b.lines.length<=k:=by have:=of_decide_eq_false hd;omega
  have h5:=Lh (p:=Qp b er) (l:=List.range b.lines.length) (by unfold My at hk;omega)
  unfold paidAll at hp
  rw [h5] at hp
  cases hp
theorem Atj {Gl} (S:SP Gl) (b:PBook) (er:List Int) (h:okPB b=true) (he:er.length=b.lines.length) (hx:∀ i,i<er.length->inR (nth er i) 0 20=true):CO Gl 367 [.fn 368 [] [.d (.rd (cAc b er))]] (.ret (I (bif paidAll b er then 0 else 5))):=by
 cases hp:paidAll b er with
 |true=>exact Pa.attempt74 S (fst:=[]) (Ath S b er h he hx hp) .ok
 |false=>exact Pa.attempt74 S (fst:=[]) (Ati S b er h he hx hp) (.row _)
theorem Ajl {Gl} (S:SP Gl) (b:PBook) (er:List Int) (h:okPB b=true) (he:er.length=b.lines.length) (hx:∀ i,i<er.length->inR (nth er i) 0 20=true):CO Gl 319 [tAc b er] (.ret (B (paidAll b er))):=by
 refine An S (.r (.ret (I (bif paidAll b er then (0:Int) else (5:Int)))) .nil) Tryz.func319 (by kernel_rfl) (CO Gl 367 [T.fn (368:FuncId) [] [T.d (D.rd (cAc b er))]] (.ret (I (bif paidAll b er then (0:Int) else (5:Int))))/\((bif paidAll b er then (0:Int) else (5:Int))==(0:Int))=paidAll b er) (by kernel_rfl) ?_
 exact ⟨Atj S b er h he hx,by cases paidAll b er<;>rfl⟩
end Go.Vc.Zn.Py
namespace Go.Vc.Zn
open Go Go.Proofs Go.Vc Go.RowKit
structure Col where
 vals:List Int
 order:Nat
 lo:Int
 hi:Int
structure okC (s:Col):Prop where
 b1:inR s.vals.length 1 14=true
 b2:inR s.order 1 3=true
 b3:inR s.lo (-99999) 99999=true
 b4:inR s.hi s.lo 99999=true
 b5:(s.vals.all fun n=>inR n (-9999) 9999)=true
 b6:decide ((s.order:Int)<(s.vals.length:Int))=true
def flo (a b:Int):Int:=bif decide (a<a.tdiv b*b) then a.tdiv b - 1 else a.tdiv b
structure Fix where
 row:Nat
 lo:Int
 hi:Int
instance:Inhabited Fix:=⟨⟨0,0,0⟩⟩
theorem okC.all {s:Col} (h:okC s):(1<=s.order/\s.order<=3)/\s.order<s.vals.length/\s.vals.length<=14/\bnd 9999 s.vals/\-99999<=s.lo/\s.lo<=s.hi/\s.hi<=99999:=by
 have h1:=Bo.1 h.b1
 have h2:=Bo.1 h.b2
 have h3:=Bo.1 h.b3
 have h4:=Bo.1 h.b4
 have h6:=of_decide_eq_true h.b6
 refine ⟨by omega,by omega,by omega,fun i hi=>?_,by omega,by omega,by omega⟩
 have:=List.all_eq_true.1 h.b5 _ (Er hi)
 exact Bo.1 this
end Go.Vc.Zn
namespace Go.Vc.Zn.Co
open Go Go.Proofs Go.Vc Go.RowKit
theorem und20:∃ ms,Tryz.prog.underlying 20=some (.interface ms):=by
 obtain ⟨d,i,z,h1,_,_,_,_,_,h7,_⟩:=yok 20 (by kernel_rfl)
 obtain ⟨ms,rfl⟩:∃ ms,d=.interface ms:=h7
 exact ⟨ms,h1⟩
theorem k133:(Y 358).kind=.struct [(0,3)]:=by kernel_rfl
theorem k135:(Y 360).kind=.struct [(0,9)]:=by kernel_rfl
theorem z133:(Y 358).zero.toArray=#[.int .i64 0]:=by kernel_rfl
theorem z135:(Y 360).zero.toArray=#[.string (ByteArray.mk #[])]:=by kernel_rfl
theorem z26:(Y 30).zero.toArray=#[.int .i64 0]:=by kernel_rfl
theorem s133:(Y 358).size=1:=by kernel_rfl
theorem s135:(Y 360).size=1:=by kernel_rfl
theorem s26:(Y 30).size=1:=by kernel_rfl
theorem kn133:(Y 358).known=true:=by kernel_rfl
theorem kn135:(Y 360).known=true:=by kernel_rfl
theorem kn26:(Y 30).known=true:=by kernel_rfl
theorem ev_const {a:Act} {v:Value}:a.eval (.const v)=v:=rfl
theorem sl1 (p v:Value):SL { tmps:=#[p]++(Array.replicate 13 undef).setIfInBounds 4 v,defers:=[] } 14 (upd (fun t=>#[p].getD t undef) 5 v) []:=by
 have:=(SL.start #[p] 14 (Nat.le_of_ble_eq_true rfl)).put (d:=5) (by decide) v
 simpa [Act.put] using this
def stO (t:TypeId) (p q:Operand):Oper:={ dst:=none,op:=Op.store t p q,type:=0,pos:= "",after:=#[],guard:=none }
theorem catch_idle (p:Value) (w:World):
  CallsD Tryz.prog 197 #[p] .returning w fun e u' w'=>e=.returned (.tuple #[])/\u'=.returning/\w'=w:=by
 refine callsD_of_wpS Tryz.func197 rfl fun c₀ cs hu=>?_
 apply wpS_seq
 apply wpS_region
 simp [wpOpsS,go_sem,recoverD,hu,Tryz.ntmps197,Exit.thenS]
 have S:=sl1 p .nilIface
 refine wpS_of_wp (wp_block (wp_seq (wp_region_list ?_)))
 generalize ({ tmps:=#[p]++(Array.replicate 13 undef).setIfInBounds 4 Value.nilIface,defers:=[] }:Act)=a at S ⊢
 refine Aj S (d:=7) (v:=.bool true) (w':=w) rfl (by decide) rfl ?_ fun a1 S1=>?_
 ·simp [execOp,S.eval,upd,Ub und20,ev_const,eqGuard]
 refine wp_cond_true (by simp [S1.eval,upd]) (wp_region_list ?_)
 refine Aj S1 (d:=1) (v:=.nilIface) (w':=w) rfl (by decide) rfl ?_ fun a2 S2=>?_
 ·simp [execOp,S1.eval,upd]
 cases c₀
 simp_all [wpList,bodyPostS,results,Tryz.results197,Exit.inBlock,S2.defers]
theorem catch_row (b1:Nat) (x:Int) (older:List PanicEntry) (w:World) (h1:w.heap[b1]?=some (.cells #[.int .i64 0] 30 (0,0))):
  CallsD Tryz.prog 197 #[.pointer (some ⟨b1,0,none⟩)] (.panicking ({ v:=.iface 358 (.agg #[.int .i64 x]),recovered:=false }::older)) w fun e u' w'=>
   e=.returned (.tuple #[])/\u'=.panicking ({ v:=.iface 358 (.agg #[.int .i64 x]),recovered:=true }::older)/\Same w w'/\w'.heap[b1]?=some (.cells #[.int .i64 7] 30 (0,0))/\
   ∀ b,b<w.heap.size->b≠b1->w'.heap[b]?=w.heap[b]?:=by
 have l1:b1<w.heap.size:=(Array.getElem?_eq_some_iff.1 h1).1
 refine callsD_of_wpS Tryz.func197 rfl fun c₀ cs hu=>?_
 apply wpS_seq
 apply wpS_region
 simp [wpOpsS,go_sem,recoverD,hu,Tryz.ntmps197,Exit.thenS]
 have S:=sl1 (.pointer (some ⟨b1,0,none⟩)) (.iface 358 (.agg #[.int .i64 x]))
 refine wpS_of_wp (wp_block (wp_seq (wp_region_list ?_)))
 generalize ({ tmps:=#[Value.pointer (some ⟨b1,0,none⟩)]++(Array.replicate 13 undef).setIfInBounds 4 (Value.iface 358 (.agg #[.int .i64 x])),defers:=[] }:Act)=a at S ⊢
 refine Aj S (d:=7) (v:=.bool false) (w':=w) rfl (by decide) rfl ?_ fun a1 S1=>?_
 ·simp [execOp,S.eval,upd,Kg und20,ev_const,eqGuard]
 refine wp_cond_false (by simp [S1.eval,upd]) (wp_seq (wp_region_list ?_))
 refine Aj S1 (d:=8) (v:=.tuple #[.agg #[.int .i64 x],.bool true]) (w':=w) rfl (by decide) rfl ?_ fun a2 S2=>?_
 ·simp [execOp,S1.eval,upd,Kh (yok 358 kn133) ⟨_,k133⟩]
 refine Aj S2 (d:=9) (v:=.bool true) (w':=w) rfl (by decide) rfl ?_ fun a3 S3=>?_
 ·simp [execOp,S2.eval,upd,Instr.extract]
 refine Aj S3 (d:=10) (v:=.agg #[.int .i64 x]) (w':=w) rfl (by decide) rfl ?_ fun a7 S7=>?_
 ·simp [execOp,S3.eval,upd,Instr.extract]
 refine wp_cond_true (by simp [S7.eval,upd]) (wp_seq (wp_region_list ?_))
 have hal:=fun (o:Oper) (ho:o.op=Op.alloc 358)=>Fj (P:=Tryz.prog) (a:=a7) (w:=w) (o:=o) yok (t:=358) ho kn133
 rw [z133] at hal
 refine Aj S7 (d:=2) rfl (by decide) rfl (hal _ rfl) fun a8 S8=>?_
 obtain ⟨w1,hw1⟩:∃ w1,w.alloc (.cells #[.int .i64 0] 358 (0,0))=w1:=⟨_,rfl⟩
 have hw1':w.alloc (.cells #[.int .i64 0] 358)=w1:=hw1
 rw [hw1']
 have g1:Same w w1:=by rw [<-hw1];exact Eo _ _
 have g2:∀ b,b<w.heap.size->w1.heap[b]?=w.heap[b]?:=fun b hb=>by rw [<-hw1];exact Cm _ _ hb
 have g3:w1.heap[w.heap.size]?=some (.cells #[.int .i64 0] 358 (0,0)):=by rw [<-hw1];exact World.alloc_heap_new w _
 have H:=fun (o:Oper) (ho:o.op=Op.store 358 (.tmp 2) (.tmp 10))=>Cz (P:=Tryz.prog) (a:=a8) (w:=w1) (v:=.agg #[.int .i64 x]) (b:=w.heap.size) (o:=o)
  yok (t:=358) ho kn133 (by simp [S8.eval,upd]) (by simp [S8.eval,upd]) (by rw [s133];rfl) (by rw [s133];rfl) (by simp [Value.cells,Value.oneCell']) g3
 obtain ⟨_,r2,r3,r4⟩:=H (stO 358 (.tmp 2) (.tmp 10)) rfl
 refine Cy S8 rfl rfl (H _ rfl).1 fun a9 S9=>?_
 clear H
 generalize w1.setRow w.heap.size (Value.agg #[.int .i64 x]).cells=w2 at r2 r3 r4 ⊢
 refine wp_region_list ?_
 have g5:w2.heap[b1]?=some (.cells #[.int .i64 0] 30 (0,0)):=by rw [r4 _ (by omega),g2 _ l1];exact h1
 have H:=fun (o:Oper) (ho:o.op=Op.store 30 (.tmp 0) (.const (.int .i64 7)))=>Cz (P:=Tryz.prog) (a:=a9) (w:=w2) (v:=.int .i64 7) (b:=b1) (o:=o)
  yok (t:=30) ho kn26 (by simp [S9.eval,upd]) rfl (by rw [s26];rfl) (by rw [s26];rfl) (by simp [Value.cells,Value.oneCell']) g5
 obtain ⟨_,t2,t3,t4⟩:=H (stO 30 (.tmp 0) (.const (.int .i64 7))) rfl
 refine Cy S9 rfl rfl (H _ rfl).1 fun a10 S10=>?_
 clear H
 generalize w2.setRow b1 (Value.int .i64 7).cells=w4 at t2 t3 t4 ⊢
 have e3:∀ b,b<w.heap.size->b≠b1->w4.heap[b]?=w.heap[b]?:=fun b hb h1=>by rw [t4 _ h1,r4 _ (by omega),g2 _ hb]
 have e4:Same w w4:=(g1.trans r3).trans t3
 exact ⟨S10.defers,_,rfl,.tuple #[],by simp [results,Tryz.results197],rfl,rfl,e4,t2,e3⟩
theorem catch_text (b1:Nat) (x:ByteArray) (older:List PanicEntry) (w:World) (h1:w.heap[b1]?=some (.cells #[.int .i64 0] 30 (0,0))):
  CallsD Tryz.prog 197 #[.pointer (some ⟨b1,0,none⟩)] (.panicking ({ v:=.iface 360 (.agg #[.string x]),recovered:=false }::older)) w fun e u' w'=>
   e=.returned (.tuple #[])/\u'=.panicking ({ v:=.iface 360 (.agg #[.string x]),recovered:=true }::older)/\Same w w'/\w'.heap[b1]?=some (.cells #[.int .i64 4] 30 (0,0))/\
   ∀ b,b<w.heap.size->b≠b1->w'.heap[b]?=w.heap[b]?:=by
 have l1:b1<w.heap.size:=(Array.getElem?_eq_some_iff.1 h1).1
 refine callsD_of_wpS Tryz.func197 rfl fun c₀ cs hu=>?_
 apply wpS_seq
 apply wpS_region
 simp [wpOpsS,go_sem,recoverD,hu,Tryz.ntmps197,Exit.thenS]
 have S:=sl1 (.pointer (some ⟨b1,0,none⟩)) (.iface 360 (.agg #[.string x]))
 refine wpS_of_wp (wp_block (wp_seq (wp_region_list ?_)))
 generalize ({ tmps:=#[Value.pointer (some ⟨b1,0,none⟩)]++(Array.replicate 13 undef).setIfInBounds 4 (Value.iface 360 (.agg #[.string x])),defers:=[] }:Act)=a at S ⊢
 refine Aj S (d:=7) (v:=.bool false) (w':=w) rfl (by decide) rfl ?_ fun a1 S1=>?_
 ·simp [execOp,S.eval,upd,Kg und20,ev_const,eqGuard]
 refine wp_cond_false (by simp [S1.eval,upd]) (wp_seq (wp_region_list ?_))
 obtain ⟨z,hz⟩:=Uc (Y:=Y) (t:=358) (t':=360) (xt:=20) (v:=.agg #[.string x]) (w:=w) yok ⟨_,k133⟩ (by decide)
 refine Aj S1 (d:=8) (v:=.tuple #[z,.bool false]) (w':=w) rfl (by decide) rfl ?_ fun a2 S2=>?_
 ·simp [execOp,S1.eval,upd,hz]
 refine Aj S2 (d:=9) (v:=.bool false) (w':=w) rfl (by decide) rfl ?_ fun a3 S3=>?_
 ·simp [execOp,S2.eval,upd,Instr.extract]
 refine Aj S3 (d:=10) (v:=z) (w':=w) rfl (by decide) rfl ?_ fun a4 S4=>?_
 ·simp [execOp,S3.eval,upd,Instr.extract]
 refine wp_cond_false (by simp [S4.eval,upd]) (wp_seq (wp_region_list ?_))
 refine Aj S4 (d:=11) (v:=.tuple #[.agg #[.string x],.bool true]) (w':=w) rfl (by decide) rfl ?_ fun a5 S5=>?_
 ·simp [execOp,S4.eval,upd,Kh (yok 360 kn135) ⟨_,k135⟩]
 refine Aj S5 (d:=12) (v:=.bool true) (w':=w) rfl (by decide) rfl ?_ fun a6 S6=>?_
 ·simp [execOp,S5.eval,upd,Instr.extract]
 refine Aj S6 (d:=13) (v:=.agg #[.string x]) (w':=w) rfl (by decide) rfl ?_ fun a7 S7=>?_
 ·simp [execOp,S6.eval,upd,Instr.extract]
 refine wp_cond_true (by simp [S7.eval,upd]) (wp_seq (wp_region_list ?_))
 have hal:=fun (o:Oper) (ho:o.op=Op.alloc 360)=>Fj (P:=Tryz.prog) (a:=a7) (w:=w) (o:=o) yok (t:=360) ho kn135
 rw [z135] at hal
 refine Aj S7 (d:=3) rfl (by decide) rfl (hal _ rfl) fun a8 S8=>?_
 obtain ⟨w1,hw1⟩:∃ w1,w.alloc (.cells #[.string (ByteArray.mk #[])] 360 (0,0))=w1:=⟨_,rfl⟩
 have hw1':w.alloc (.cells #[.string (ByteArray.mk #[])] 360)=w1:=hw1
 rw [hw1']
 have g1:Same w w1:=by rw [<-hw1];exact Eo _ _
 have g2:∀ b,b<w.heap.size->w1.heap[b]?=w.heap[b]?:=fun b hb=>by rw [<-hw1];exact Cm _ _ hb
 have g3:w1.heap[w.heap.size]?=some (.cells #[.string (ByteArray.mk #[])] 360 (0,0)):=by rw [<-hw1];exact World.alloc_heap_new w _
 have H:=fun (o:Oper) (ho:o.op=Op.store 360 (.tmp 3) (.tmp 13))=>Cz (P:=Tryz.prog) (a:=a8) (w:=w1) (v:=.agg #[.string x]) (b:=w.heap.size) (o:=o)
  yok (t:=360) ho kn135 (by simp [S8.eval,upd]) (by simp [S8.eval,upd]) (by rw [s135];rfl) (by rw [s135];rfl) (by simp [Value.cells,Value.oneCell']) g3
 obtain ⟨_,r2,r3,r4⟩:=H (stO 360 (.tmp 3) (.tmp 13)) rfl
 refine Cy S8 rfl rfl (H _ rfl).1 fun a9 S9=>?_
 clear H
 generalize w1.setRow w.heap.size (Value.agg #[.string x]).cells=w2 at r2 r3 r4 ⊢
 refine wp_region_list ?_
 have g5:w2.heap[b1]?=some (.cells #[.int .i64 0] 30 (0,0)):=by rw [r4 _ (by omega),g2 _ l1];exact h1
 have H:=fun (o:Oper) (ho:o.op=Op.store 30 (.tmp 0) (.const (.int .i64 4)))=>Cz (P:=Tryz.prog) (a:=a9) (w:=w2) (v:=.int .i64 4) (b:=b1) (o:=o)
  yok (t:=30) ho kn26 (by simp [S9.eval,upd]) rfl (by rw [s26];rfl) (by rw [s26];rfl) (by simp [Value.cells,Value.oneCell']) g5
 obtain ⟨_,t2,t3,t4⟩:=H (stO 30 (.tmp 0) (.const (.int .i64 4))) rfl
 refine Cy S9 rfl rfl (H _ rfl).1 fun a10 S10=>?_
 clear H
 generalize w2.setRow b1 (Value.int .i64 4).cells=w4 at t2 t3 t4 ⊢
 have e3:∀ b,b<w.heap.size->b≠b1->w4.heap[b]?=w.heap[b]?:=fun b hb h1=>by rw [t4 _ h1,r4 _ (by omega),g2 _ hb]
 have e4:Same w w4:=(g1.trans r3).trans t3
 exact ⟨S10.defers,_,rfl,.tuple #[],by simp [results,Tryz.results197],rfl,rfl,e4,t2,e3⟩
def attV:Ending->Value
 | .panicked [{ v:=.iface 358 _,.. }]=>.int .i64 7
 | .panicked [{ v:=.iface 360 _,.. }]=>.int .i64 4
 |_=>.int .i64 0
def attW (w:World):World:=w.alloc (.cells #[.int .i64 0] 30 (0,0))
structure AttOK (w w':World) (en:Ending):Prop where
 one:w'.heap[w.heap.size]?=some (.cells #[.int .i64 0] 30 (0,0))
 en:en=.returned (.tuple #[])∨(∃ x,en=.panicked [{ v:=.iface 358 (.agg #[.int .i64 x]),recovered:=false }])∨∃ s,en=.panicked [{ v:=.iface 360 (.agg #[.string s]),recovered:=false }]
theorem att_results {a:Act} {w:World} {b1:Nat} {x:Value} (h1:a.tmps.getD 2 undef=.pointer (some ⟨b1,0,none⟩))
  (g1:w.heap[b1]?=some (.cells #[x] 30 (0,0))):(results Tryz.f112 a.tmps).run Tryz.prog w=.ok x w:=by
 have l1:=Jr yok (t:=30) (by kernel_rfl) (w:=w) (b:=b1) (off:=0) (u:=x) (by simp [World.cell?,g1])
 have he:Tryz.f112.results.mapM (Aq a.tmps)=List.toArray <$> Tryz.f112.results.toList.mapM (Aq a.tmps):=Array.mapM_eq_mapM_toList ..
 have he2:results Tryz.f112 a.tmps=(Tryz.f112.results.mapM (Aq a.tmps) >>= fun vs=>pure (if h:vs.size=1 then vs[0] else .tuple vs)):=rfl
 have hrun:([ResultVar.cell 2 30].mapM (Aq a.tmps)).run Tryz.prog w=.ok [x] w:=by
  have r1:(Aq a.tmps (.cell 2 30)).run Tryz.prog w=.ok x w:=by simp [Aq,h1,asAddr,l1]
  rw [Gz,r1,Result.andThen_ok]
  simp
 rw [he2,he,Tryz.results112]
 simp only [Sem.run_bind,Sem.run_map,hrun,Result.andThen_ok,Sem.run_pure]
 rfl
theorem attempt_calls (g:FuncId) (hg:Gy Tryz.prog g) (us vs:Array Value) (w:World) (R:Ending->World->Prop) (hcall:Calls Tryz.prog g (us++vs) (attW w) R) (hR:∀ en w',R en w'->AttOK w w' en):
  Calls Tryz.prog 112 #[.func (.func g) us vs] w fun en w''=>∃ en0 w',R en0 w'/\Same w' w''/\(∀ b,b<w'.heap.size->b≠w.heap.size->w''.heap[b]?=w'.heap[b]?)/\(∃ x,w''.heap[w.heap.size]?=some (.cells #[x] 30 (0,0)))/\en=.returned (attV en0):=by
 go_enter_defers Tryz.func112,Tryz.ntmps112
 have S:SL { tmps:=#[Value.func (Fn.func g) us vs,undef,undef,undef,undef,undef],defers:=[] } 6 (fun t=>#[Value.func (Fn.func g) us vs].getD t undef) []:=by
  exact SL.start #[Value.func (Fn.func g) us vs] 6 (Nat.le_of_ble_eq_true rfl)
 generalize ({ tmps:=#[Value.func (Fn.func g) us vs,undef,undef,undef,undef,undef],defers:=[] }:Act)=a at S ⊢
 refine wp_seq (wp_region_list ?_)
 have hal:=fun (o:Oper) (ho:o.op=Op.alloc 30)=>Fj (P:=Tryz.prog) (a:=a) (w:=w) (o:=o) yok (t:=30) ho kn26
 rw [z26] at hal
 refine Aj S (d:=2) rfl (by decide) rfl (hal _ rfl) fun a2 S2=>?_
 show Code.wp Tryz.prog _ _ a2 (attW w)
 generalize hw1:attW w=w1 at hcall ⊢
 refine wp_seq (wp_region_list ?_)
 refine Aj S2 (d:=3) (v:=.func (.func 197) #[] #[.pointer (some ⟨w.heap.size,0,none⟩)]) (w':=w1) rfl (by decide) rfl ?_ fun a3 S3=>?_
 ·simp [execOp,S2.eval,upd,Instr.makeFunc]
 refine Sy S3 (d:={ target:=.fn (.func 197) #[.pointer (some ⟨w.heap.size,0,none⟩)],args:=#[] }) rfl rfl ?_ fun a4 S4=>?_
 ·simp [execOp,resolve,S3.eval,upd,Deferred.ofValue]
 refine wp_seq (wp_region_list ?_)
 refine Aj S4 (d:=4) (v:=.func (.func g) us vs) (w':=w1) rfl (by decide) rfl ?_ fun a5 S5=>?_
 ·simp [execOp,S4.eval,upd]
 have hinv:∀ (p:Value) (w:World),(invoke (.fn (.func 197) #[p]) #[]).run Tryz.prog w=.ok (.enter 197 #[p]) w:=fun p w=>by
  have h2:(Tryz.f197.name== "runtime.NumGoroutine")=false:=by kernel_rfl
  have h3:Tryz.f197.body.isNone=false:=by kernel_rfl
  have h2':Tryz.f197.name≠ "runtime.NumGoroutine":=by simpa using h2
  have h3':Tryz.f197.body≠none:=by intro hh;rw [hh] at h3;cases h3
  simp [invoke,callFunc,Tryz.func197,h2',h3']
 refine Sz S5 (d:=5) (g:=g) (vs:=us++vs) (R:=R) rfl (by decide) rfl ?_ hcall (fun v w2 hr a6 S6=>?_) (fun ch w2 hr=>?_) (fun w2 hr=>?_)
 ·have:=fun (o:Oper) (ho:o.op=Op.call { callee:=Callee.value (Operand.tmp 4),args:=#[],argTypes:=#[] })=>Nv (P:=Tryz.prog) (a:=a5) (w:=w1) (o:=o) ho (by simp [S5.eval,upd]) hg (us:=us) (cvs:=vs)
  simpa using this _ rfl
 ·obtain ⟨c1,c3⟩:=hR _ _ hr
  have l1:w.heap.size<w2.heap.size:=(Array.getElem?_eq_some_iff.1 c1).1
  refine wp_seq (wp_region_list ?_)
  have H:=fun (o:Oper) (ho:o.op=Op.store 30 (.tmp 2) (.const (.int .i64 0)))=>Cz (P:=Tryz.prog) (a:=a6) (w:=w2) (v:=.int .i64 0) (b:=w.heap.size) (o:=o)
   yok (t:=30) ho kn26 (by simp [S6.eval,upd]) rfl (by rw [s26];rfl) (by rw [s26];rfl) (by simp [Value.cells,Value.oneCell']) c1
  obtain ⟨_,t2,t3,t4⟩:=H (stO 30 (.tmp 2) (.const (.int .i64 0))) rfl
  refine Cy S6 rfl rfl (H _ rfl).1 fun a9 S9=>?_
  clear H
  generalize w2.setRow w.heap.size (Value.int .i64 0).cells=w4 at t2 t3 t4 ⊢
  refine wp_ret ?_
  show Leaves Tryz.prog Tryz.f112 a9.tmps _ a9.defers .returning w4
  rw [S9.defers]
  refine leaves_cons (by simp) (hinv _ w4) ((catch_idle _ w4).mono ?_)
  rintro e u' w5 ⟨rfl,rfl,rfl⟩
  have r1:=att_results (a:=a9) (w:=w5) (b1:=w.heap.size) (by rw [S9.get 2 (by decide)];simp [upd]) t2
  refine ⟨_,r1,_,_,hr,t3,fun b hb h1=>t4 _ h1,⟨_,t2⟩,?_⟩
  rcases c3 with h|⟨_,h⟩|⟨_,h⟩<;>cases h
  rfl
 ·obtain ⟨c1,c3⟩:=hR _ _ hr
  have l1:w.heap.size<w2.heap.size:=(Array.getElem?_eq_some_iff.1 c1).1
  show Leaves Tryz.prog Tryz.f112 a5.tmps _ a5.defers (.panicking ch) w2
  rw [S5.defers]
  refine leaves_cons (by simp) (hinv _ w2) ?_
  have e1:a5.tmps.getD 2 undef=.pointer (some ⟨w.heap.size,0,none⟩):=by rw [S5.get 2 (by decide)];simp [upd]
  rcases c3 with h|⟨x,h⟩|⟨s,h⟩
  ·cases h
  ·obtain rfl:ch=[{ v:=.iface 358 (.agg #[.int .i64 x]),recovered:=false }]:=Ending.panicked.inj h
   refine (catch_row _ x [] w2 c1).mono ?_
   rintro e u' w5 ⟨rfl,rfl,g1,g2,g4⟩
   have r1:=att_results (a:=a5) (w:=w5) e1 g2
   exact ⟨_,r1,_,_,hr,g1,g4,⟨_,g2⟩,rfl⟩
  ·obtain rfl:ch=[{ v:=.iface 360 (.agg #[.string s]),recovered:=false }]:=Ending.panicked.inj h
   refine (catch_text _ s [] w2 c1).mono ?_
   rintro e u' w5 ⟨rfl,rfl,g1,g2,g4⟩
   have r1:=att_results (a:=a5) (w:=w5) e1 g2
   exact ⟨_,r1,_,_,hr,g1,g4,⟨_,g2⟩,rfl⟩
 ·obtain ⟨_,c3⟩:=hR _ _ hr
  rcases c3 with h|⟨_,h⟩|⟨_,h⟩<;>cases h
variable {Gl:World->Prop}
inductive AttR:Res->Int->Prop
 |ok:AttR (.ret (.tup [])) 0
 |row (x:Int):AttR (.pan (.iface 358 (.agg #[.int .i64 x]))) 7
 |text (s:ByteArray):AttR (.pan (.iface 360 (.agg #[.string s]))) 4
theorem attW_size (w:World):(attW w).heap.size=w.heap.size+1:=by simp [attW,World.size_alloc]
theorem attW_lt (w:World) {b:Nat} (h:b<w.heap.size):(attW w).heap[b]?=w.heap[b]?:=by
 unfold attW
 exact Cm _ _ h
theorem attW_same (w:World):Same w (attW w):=Eo _ _
theorem attW_one (w:World):(attW w).heap[w.heap.size]?=some (.cells #[.int .i64 0] 30 (0,0)):=World.alloc_heap_new w _
theorem attW_keep {vis:Nat->Nat} {w:World} (h:∀ b,w.heap.size<=b->vis b=0):KeepV vis w (attW w):=
 ⟨fun b i hi=>World.cell?_of_block (attW_lt w (by
  rcases Nat.lt_or_ge b w.heap.size with hb|hb
  ·exact hb
  ·rw [h b hb] at hi;omega)),fun b hb es c he=>by rw [attW_lt w (Array.getElem?_eq_some_iff.1 he).1];exact he,Mb fun b h=>attW_lt w h⟩
theorem att_ret {base:Nat} {vis:Nat->Nat} {w:World} (e:Int):Fz base vis w (I e) (.int .i64 e):=Rep.v _ rfl
theorem attempt74 (S:Set Tryz.prog Y Gl) {g:FuncId} {fst caps:List T} {r:Res} {ev:Int} (h:CO Gl g (fst++caps) r) (ha:AttR r ev):CO Gl 112 [.fn g fst caps] (.ret (I ev)):=by
 refine ⟨⟨_,Tryz.func112,Aho,by kernel_rfl⟩,fun vis w vs hvis hgl hargs=>?_⟩
 simp only [Ab,Aa] at hargs
 obtain ⟨v,vs1,hvs,⟨us,cvs,rfl,hu,hc⟩,rfl⟩:=hargs
 obtain rfl:vs=#[.func (.func g) us cvs]:=by rw [<-Array.toArray_toList (xs:=vs),hvs]
 have hb:Below w.heap.size w (attW w):=⟨(attW_same w).os,(attW_same w).tape,(attW_same w).output,(attW_same w).size,fun k hk=>attW_lt w hk⟩
 have hext:Ext (Lo w.heap.size) (Gh0 vis) (Gh0 vis) w (attW w):=⟨fun _=>Nat.le_refl _,attW_keep hvis,fun b hb=>attW_lt w hb⟩
 have hrel:Ab (Gh0 vis) (attW w) (Lo (attW w).heap.size) (fst++caps) (us++cvs).toList:=by
  rw [Array.toList_append]
  exact Ab.weak (fun b hb=>by have:=attW_size w;unfold Lo at hb ⊢;omega) ((Ab.mono hext (fun _ _=>rfl) hu).app (Ab.mono hext (fun _ _=>rfl) hc))
 have hcall:=h.2 vis (attW w) (us++cvs) (fun b hb=>hvis b (by rw [attW_size] at hb;omega)) (S.gl _ _ hgl hb) hrel
 refine (attempt_calls g h.1 us cvs w _ hcall fun en w' ⟨hbe,han⟩=>⟨?_,?_⟩).mono ?_
 ·rw [hbe.block _ (by rw [attW_size];omega)];exact attW_one w
 ·cases ha with
  |ok=>
   obtain ⟨v,vis',rfl,_,_,vs,rfl,hr⟩:=han
   obtain rfl:vs=#[]:=by
    have:=hr.1
    exact Array.eq_empty_of_size_eq_zero (by simpa using this.symm)
   exact .inl rfl
  |row x=>exact .inr (.inl ⟨x,han⟩)
  |text s=>exact .inr (.inr ⟨s,han⟩)
 ·rintro en w2 ⟨en0,w',⟨hbe,han⟩,hs,hh,_,rfl⟩
  have hsz:w.heap.size<=w2.heap.size:=by
   have h1:=hbe.size
   have h2:=hs.size
   rw [attW_size] at h1;omega
  refine ⟨⟨hs.os.trans (hbe.os.trans hb.os),hs.tape.trans (hbe.tape.trans hb.tape),hs.output.trans (hbe.output.trans hb.output),hsz,fun k hk=>?_⟩,_,vis,rfl,fun _ _=>rfl,fun b hb=>hvis b (by omega),?_⟩
  ·have h1:=hbe.size
   rw [attW_size] at h1
   rw [hh k (by omega) (by omega),hbe.block k (by rw [attW_size];omega),attW_lt w hk]
  ·cases ha with
   |ok=>
    obtain ⟨v,vis',rfl,_⟩:=han
    exact att_ret 0
   |row x=>
    have han:en0=_:=han
    subst han
    exact att_ret 7
   |text s=>
    have han:en0=_:=han
    subst han
    exact att_ret 4
theorem attempt74_does {g:FuncId} {fst caps:List T} {r:Res} {ev:Int} {pre post:Env} {yd:Yd} (hpre:En pre=true) (hpost:Hj pre post=true) (h:Does Tryz.prog Y Gl yd g (fst++caps) pre r post) (ha:AttR r ev):Does Tryz.prog Y Gl yd 112 [.fn g fst caps] pre (.ret (I ev)) post:=by
 obtain ⟨p0,p1,p2⟩:=La hpre
 obtain ⟨o1,o2,o3⟩:=Mk hpost
 refine ⟨⟨_,Tryz.func112,Aho,by kernel_rfl⟩,fun J G w vs hst hgl hyl hfr hH hJ hmem hargs=>?_⟩
 simp only [Ab,Aa] at hargs
 obtain ⟨v,vs1,hvs,⟨us,cvs,rfl,hu,hc⟩,rfl⟩:=hargs
 obtain rfl:vs=#[.func (.func g) us cvs]:=by rw [<-Array.toArray_toList (xs:=vs),hvs]
 have hkv:=attW_keep (w:=w) hfr
 have hext:Ext (fun _=>False) G G w (attW w):=⟨fun _=>Nat.le_refl _,hkv,fun b hb=>hb.elim⟩
 have hrel:Ab G (attW w) (fun _=>False) (fst++caps) (us++cvs).toList:=by
  rw [Array.toList_append]
  exact (Ab.mono hext (fun _ _=>rfl) hu).app (Ab.mono hext (fun _ _=>rfl) hc)
 have hbk:∀ id,pre.get 2 id≠.any->G.bk id<w.heap.size:=fun id hid=>(hmem.box id hid).2.1
 have hJ1:=hst.1 _ _ _ _ _ hJ (fun b hb=>attW_lt w (hH b hb)) hkv (attW_same w)
 have hmem1:Mem Y (fun _=>False) pre (attW w) G:=Mem.keep (Hn hpre) p1 (fun id hid=>attW_lt w (hbk id hid)) hkv (attW_same w) hmem
 have hsz:=attW_size w
 have hused:∀ id,Env.get (Ah post pre) 2 id≠.any->pre.get 2 id≠.any:=fun id hid=>by
  rw [Ee] at hid
  split at hid
  ·rename_i hk
   have:=o2 id hk
   intro hh
   rw [hh] at this
   unfold Ev at this
   split at this<;>first|(rename_i hx;cases hx;done)|cases this
  ·exact hid
 have htok:∀ k,Env.get (Ah post pre) 1 k=.any:=fun k=>by
  rw [Ee,o1 k,if_neg (by decide)];exact p1 k
 have hobj:∀ id,Env.get (Ah post pre) 2 id≠.any->Cq (Env.get (Ah post pre) 2 id)=true:=fun id hid=>by
  rw [Ee] at hid ⊢
  split
  ·rename_i hk
   have:=o2 id hk
   unfold Ev at this
   split at this<;>first|(rename_i hx _;rw [hx];rfl)|(rename_i hx;rw [hx];rfl)|(cases this)
  ·rename_i hk
   rw [if_neg hk] at hid
   exact Hn hpre id hid
 have hcall:=h.2 J G (attW w) (us++cvs) hst hgl hyl (fun b hb=>hfr b (by omega)) (fun b hb=>by have:=hH b hb;omega) hJ1 hmem1 hrel
 refine (attempt_calls g h.1 us cvs w _ hcall fun en w' ⟨h1,h2,h3,h4,h5⟩=>⟨?_,?_⟩).mono ?_
 ·rw [h3 _ (by omega) (fun hh=>by have:=hH _ hh;omega) (fun id hid hh=>by have:=hbk id hid;omega)];exact attW_one w
 ·obtain ⟨G',_,_,_,_,_,_,_,hr⟩:=h5
  cases ha with
  |ok=>
   obtain ⟨v,rfl,vs,rfl,hr⟩:=hr
   obtain rfl:vs=#[]:=by
    have:=hr.1
    exact Array.eq_empty_of_size_eq_zero (by simpa using this.symm)
   exact .inl rfl
  |row x=>exact .inr (.inl ⟨x,hr⟩)
  |text s=>exact .inr (.inr ⟨s,hr⟩)
 ·rintro en w2 ⟨en0,w',⟨h1,h2,h3,h4,h5⟩,hs,hh,⟨x2,hx2⟩,rfl⟩
  have s1:=h1.size
  have s2:=hs.size
  obtain ⟨G',g1,g2,g3,g4,g5,g6,g7,hr⟩:=h5
  have hkeep2:∀ vis:Nat->Nat,(∀ b,w'.heap.size<=b->vis b=0)->vis w.heap.size=0->KeepV vis w' w2:=fun vis v1 v2=>by
   have hv:∀ b,0<vis b->w2.heap[b]?=w'.heap[b]?:=fun b hb=>hh b (by
    rcases Nat.lt_or_ge b w'.heap.size with h|h
    ·exact h
    ·rw [v1 b h] at hb;omega) (fun h=>by rw [h,v2] at hb;omega)
   refine ⟨fun b i hi=>World.cell?_of_block (hv b (by omega)),fun b hb es c he=>by rw [hv b hb];exact he,fun b cs t z hcs=>?_⟩
   by_cases hb:b=w.heap.size
   ·have h9:=h3 w.heap.size (by omega) (fun hh=>by have:=hH _ hh;omega) (fun id hid hh=>by have:=hbk id hid;omega)
    rw [hb,h9,attW_one w] at hcs
    obtain ⟨rfl,rfl,rfl⟩:=Obj.cells.inj (Option.some.inj hcs)
    rw [hb]
    exact ⟨_,_,_,hx2,Nat.le_refl _⟩
   ·exact ⟨cs,t,z,(hh b (Array.getElem?_eq_some_iff.1 hcs).1 hb).trans hcs,Nat.le_refl _⟩
  have hH':∀ b,G'.H b->w2.heap[b]?=w'.heap[b]?:=fun b hb=>by
   refine hh b (g5 b hb) (fun he=>?_)
   have:=hH b ((g4 b (by omega)).1 hb);omega
  have v1:G'.vis w.heap.size=0:=by rw [g2 _ (by omega)];exact hfr _ (by omega)
  refine ⟨((attW_same w).trans h1).trans hs,(hkv.trans h2).trans (hkeep2 G.vis (fun b hb=>hfr b (by omega)) (hfr _ (by omega))),fun b hb hn hno=>?_,fun id k hl hk=>?_,G',g1,fun b hb=>g2 b (by omega),fun b hb=>g3 b (by omega),
   fun b hb=>g4 b (by omega),fun b hb=>by have:=g5 b hb;omega,hst.1 _ _ _ _ _ g6 hH' (hkeep2 G'.vis g3 v1) hs,Mem.keep hobj htok (fun id hid=>?_) (hkeep2 G'.vis g3 v1) hs g7,?_⟩
  ·rw [hh b (by omega) (by omega),h3 b (by omega) hn hno,attW_lt w hb]
  ·have hid:pre.get 2 id≠.any:=by rw [hl];exact Bh
   have hlt:=hbk id hid
   rw [World.cell?_of_block (show w2.heap[G.bk id]?=w'.heap[G.bk id]? from hh _ (by omega) (by omega)),h4 id k hl hk,World.cell?_of_block (show (attW w).heap[G.bk id]?=w.heap[G.bk id]? from attW_lt w hlt)]
  ·have hlt:=hbk id (hused id hid)
   rw [g1]
   exact hh _ (by omega) (by omega)
  ·cases ha with
   |ok=>
    obtain ⟨v,rfl,_⟩:=hr
    exact ⟨_,rfl,att_ret 0⟩
   |row x=>
    have hr:en0=_:=hr
    subst hr
    exact ⟨_,rfl,att_ret 7⟩
   |text s=>
    have hr:en0=_:=hr
    subst hr
    exact ⟨_,rfl,att_ret 4⟩
end Go.Vc.Zn.Co
namespace Go.Vc.Zn
open Go Go.Proofs Go.Vc Go.RowKit
structure Chg where
 row:Nat
 val:Int
 by':Int
instance:Inhabited Chg:=⟨⟨0,0,0⟩⟩
set_option maxRecDepth 100000
structure RS where
 unit:Int
 rule:Int
 errs:List Int
 rows:List Int
def cRS (s:RS):List C:=[Ci s.unit,Ci s.rule,.l eI s.errs,.l eI s.rows]
def tRS (s:RS):T:=.d (.agg (cRS s))
def cRT (s:RS) (g:Int):List C:=cRS s++[Ci g]
def exR:RS:=⟨10,3,[4,1,0],[13,26,44]⟩
def cRu (u:Int):T:=.d (.agg [Ci u])
def Adq (u:Int):T:=.ag [.d (.c (.v .nilFunc)),.fn 295 [cRu u] [],.fn 296 [cRu u] [],.fn 297 [cRu u] [],.fn 298 [cRu u] []]
def fig (n:Int):Int:=flo (2*n+10) 20
def exL (r:Nat):Span:=⟨nth exR.rows r - 1,nth exR.rows r+1⟩
theorem Adr {Gl} (S:SP Gl) (x lo hi:Int):CO Gl 290 [I x,I lo,I hi] (.ret (B (inR x lo hi))):=by
 refine An S (.nil) Tryz.func290 (by kernel_rfl) ((eqB (decide (lo<=x)) true=true->eqB (decide (lo<=x)) true=true)/\(eqB (decide (lo<=x)) true=true->eqB (decide (lo<=x)) true=true)/\(decide (lo<=x)=true->eqB (decide (lo<=x)) true=true)/\(bif decide (lo<=x) then decide (x<=hi) else false)=inR x lo hi) (by kernel_rfl) ?_
 simp only [stdS,imp_self,implies_true,and_true,inR]
theorem Atk {Gl} (S:SP Gl)  :CO Gl 349 [I 3] (.ret (B true)):=by
 refine An S (.sure 6 (.sure 7 .nil)) Tryz.func349 (by kernel_rfl) (true=true/\true=true/\true=true) (by kernel_rfl) ?_
 exact ⟨rfl,rfl,rfl⟩
theorem Atl {Gl} (S:SP Gl) (n:Int):CO Gl 350 [I n] (.ret (B (!inR n (-100000) 100000))):=by
 refine An S (.r (.ret (B (inR n (-100000:Int) (100000:Int)))) .nil) Tryz.func350 (by kernel_rfl) (CO Gl 290 [I n,I (-100000:Int),I 100000] (.ret (B (inR n (-100000:Int) (100000:Int))))/\(!inR n (-100000:Int) (100000:Int))=!inR n (-100000:Int) (100000:Int)) (by kernel_rfl) ?_
 simp only [stdS,imp_self,implies_true,and_true]
 exact ⟨Adr S n _ _,trivial⟩
theorem Atm {Gl} (S:SP Gl)  :CO Gl 33 [] (.ret (tRS exR)):=by
 refine An S (.nil) Tryz.func33 (by kernel_rfl) ((10:Int)=10/\(3:Int)=3/\(SEq (3:Nat) (fun i=>List.getD [List.map C.dem [C.v (Value.int IntKind.i64 (4:Int))],List.map C.dem [C.v (Value.int IntKind.i64 (1:Int))],List.map C.dem [C.v (Value.int IntKind.i64 (0:Int))]] i []) (List.length [(4:Int),(1:Int),(0:Int)]) fun i=>eI (nth [(4:Int),(1:Int),(0:Int)] i))/\SEq (3:Nat) (fun i=>List.getD [List.map C.dem [C.v (Value.int IntKind.i64 (13:Int))],List.map C.dem [C.v (Value.int IntKind.i64 (26:Int))],List.map C.dem [C.v (Value.int IntKind.i64 (44:Int))]] i []) (List.length [(13:Int),(26:Int),(44:Int)]) fun i=>eI (nth [(13:Int),(26:Int),(44:Int)] i)) (by kernel_rfl) ?_
 refine ⟨rfl,rfl,.of ⟨rfl,fun i hi=>?_⟩,.of ⟨rfl,fun i hi=>?_⟩⟩<;>(match i,hi with|0,_=>rfl|1,_=>rfl|2,_=>rfl)
theorem Atn {Gl} (S:SP Gl)  :CO Gl 289 [tRS exR] (.ret (B true)):=by
 refine Ao S (let A0:=(nth [(4:Int),(1:Int),(0:Int)] (Int.toNat ((0:Int)+1)));let A1:=(nth [(4:Int),(1:Int),(0:Int)] (Int.toNat (0:Int)));let A2:=(nth [(4:Int),(1:Int),(0:Int)] (Int.toNat ((0:Int)+1+(1:Int))));let A3:=(B (inR (↑(3:Nat):Int) (1:Int) (5:Int)));let A4:=(B !List.all (RS.rows exR) fun x=>!!inR x (-100000:Int) (100000:Int));let A5:=(↑(3:Nat):Int);((.r (.ret (B (inR (10:Int) (1:Int) (1000:Int)))) (.sure 11 (.sure 12 (.sure 13 (.r (.ret (B true)) (.sure 14 (.sure 17 (.sure 18 (.sure 19 (.sure 20 (.r (.ret A3) (.sure 21 (.sure 24 (.sure 25 (.sure 26 (.sure 27 (.r (.ret A3) (.sure 28 (.ff (.un (4:Nat) (.tt (.r (.ret (B (inR A1 (0:Int) (8:Int)))) (.ff (.tt (.r (.ret (B (inR A0 (0:Int) A1))) (.ff (.tt (.r (.ret (B (inR A2 (0:Int) A0))) (.ff (.ff (.r (.ret A4) .nil))))))))))))))))))))))))))))))),(CO Gl 290 [I 10,I 1,I 1000] (.ret (B (inR (10:Int) (1:Int) (1000:Int))))/\true=true/\true=true/\true=true/\CO Gl 349 [I 3] (.ret (B true))/\true=true/\true=true/\true=true/\true=true/\((3:Nat)<=maxLen->true=true/\CO Gl 290 [I A5,I 1,I 5] (.ret A3)/\true=true/\true=true/\true=true/\true=true/\((3:Nat)<=maxLen->true=true/\CO Gl 290 [I A5,I 1,I 5] (.ret A3)/\true=true/\false=false/\((3:Nat)<=maxLen->true=true/\((0:Int)<=0/\0<A5)/\CO Gl 290 [I A1,I 0,I 8] (.ret (B (inR A1 (0:Int) (8:Int))))/\false=false/\iR ((0:Int)+1)/\true=true/\((0:Int)<=0+(1:Int)/\(0:Int)+1<A5)/\CO Gl 290 [I A0,I 0,I A1] (.ret (B (inR A0 (0:Int) A1)))/\false=false/\iR ((0:Int)+1+(1:Int))/\true=true/\((0:Int)<=0+(1:Int)+1/\(0:Int)+1+1<A5)/\CO Gl 290 [I A2,I 0,I A0] (.ret (B (inR A2 (0:Int) A0)))/\false=false/\iR ((0:Int)+1+(1:Int)+1)/\false=false/\CO Gl 102 [L eI (RS.rows exR),T.fn (350:FuncId) [] []] (.ret A4)/\true=true)))))) Tryz.func289 (by kernel_rfl) (by kernel_rfl) ?_
 have h:=Ti S exR.rows 350 (fun n=>!inR n (-100000) 100000) (fun i _=>Atl S _)
 have hx:(exR.rows.all fun x=>!!inR x (-100000) 100000)=true:=by decide
 simp only [stdS,imp_self,implies_true,and_true,Af,Bi]
 repeat' first|exact Adr S _ _ _|exact Atk S|exact h|decide|(intro _;decide)|with_reducible apply And.intro|with_reducible intro _
theorem Ato {Gl} (S:SP Gl)  :CO Gl 183 [tRS exR,I 1] (.ret (.tup [.agg (cRT exR 1),.c (Ci 0)])):=by
 refine Ao S (let A0:=((↑(3:Nat):Int)-1);((.r (.ret (B true)) (.sure 10 (.sure 11 (.sure 12 (.sure 13 (.sure 14 (.sure 15 (.r (.ret (B (inR (1:Int) (0:Int) A0))) (.sure 16 (.ff .nil)))))))))),(CO Gl 289 [tRS exR] (.ret (B true))/\true=true/\true=true/\true=true/\true=true/\((3:Nat)<=maxLen->true=true/\iR A0/\true=true/\CO Gl 290 [I 1,I 0,I A0] (.ret (B (inR (1:Int) (0:Int) A0)))/\true=true/\false=false/\(10:Int)=10/\(3:Int)=3/\(SEq (3:Nat) (fun i=>eI (nth [(4:Int),(1:Int),(0:Int)] i)) (List.length [(4:Int),(1:Int),(0:Int)]) fun i=>eI (nth [(4:Int),(1:Int),(0:Int)] i))/\(SEq (3:Nat) (fun i=>eI (nth [(13:Int),(26:Int),(44:Int)] i)) (List.length [(13:Int),(26:Int),(44:Int)]) fun i=>eI (nth [(13:Int),(26:Int),(44:Int)] i))/\(1:Int)=1/\(0:Int)=0)))) Tryz.func183 (by kernel_rfl) (by kernel_rfl) ?_
 simp only [stdS,imp_self,implies_true,and_true,Af,Bi]
 exact ⟨Atn S,fun _=>⟨by decide,Adr S _ _ _,.of ⟨rfl,fun _ _=>rfl⟩,.of ⟨rfl,fun _ _=>rfl⟩,trivial⟩⟩
theorem Atp {Gl} (S:SP Gl) (u n:Int) (hu:1<=u/\u<=1000) (hn:-1000000<=n/\n<=1000000):CO Gl 295 [cRu u,I n] (.ret (I (flo n u))):=by
 refine An S (.br .nil .nil) Tryz.func295 (by kernel_rfl) ((u≠(0:Int)/\iR (Int.tdiv n u))/\iR (Int.tdiv n u*u)/\(decide (n<Int.tdiv n u*u)=true->iR (Int.tdiv n u-(1:Int))/\Int.tdiv n u-(1:Int)=flo n u)/\(decide (n<Int.tdiv n u*u)=false->Int.tdiv n u=flo n u)) (by kernel_rfl) ?_
 have h1:=Int.natAbs_tdiv_le_natAbs n u
 have h2:=Int.tmod_add_tdiv_mul n u
 have h3:=Int.natAbs_tmod n u
 have h4:n.natAbs % u.natAbs<=n.natAbs:=Nat.mod_le _ _
 unfold flo
 simp only [Af]
 exact ⟨by omega,by omega,fun h=>⟨by omega,by rw [h];rfl⟩,fun h=>by rw [h];rfl⟩
theorem Atq {Gl} (S:SP Gl) (u n:Int) (hu:1<=u/\u<=100) (hn:-100000<=n/\n<=100000):CO Gl 297 [cRu u,I n] (.ret (I (flo (2*n+u) (2*u)))):=by
 refine An S (.r (.ret (I (flo ((2:Int)*n+u) ((2:Int)*u)))) .nil) Tryz.func297 (by kernel_rfl) (iR ((2:Int)*u)/\iR ((2:Int)*n)/\iR ((2:Int)*n+u)/\CO Gl 295 [cRu ((2:Int)*u),I ((2:Int)*n+u)] (.ret (I (flo ((2:Int)*n+u) ((2:Int)*u))))/\flo ((2:Int)*n+u) ((2:Int)*u)=flo ((2:Int)*n+u) ((2:Int)*u)) (by kernel_rfl) ?_
 simp only [Af]
 exact ⟨by omega,by omega,by omega,Atp S _ _ (by omega) (by omega),trivial⟩
theorem Atr {Gl} (S:SP Gl) (u:Int):CO Gl 186 [cRu u] (.ret (Adq u)):=by
 refine An S (.nil) Tryz.func186 (by kernel_rfl) (Value.nilFunc=Value.nilFunc/\(295:Nat)=(295:Nat)/\u=u/\(296:Nat)=(296:Nat)/\u=u/\(297:Nat)=(297:Nat)/\u=u/\(298:Nat)=(298:Nat)/\u=u) (by kernel_rfl) ?_
 exact ⟨rfl,rfl,rfl,rfl,rfl,rfl,rfl,rfl,rfl⟩
theorem Ajm {Gl} (S:SP Gl) (n:Int) (hn:-100000<=n/\n<=100000):CO Gl 96 [.d (.agg (cRT exR 1)),I n] (.ret (I (fig n))):=by
 refine Ao S (let A0:=(I (flo ((2:Int)*n+(10:Int)) ((2:Int)*(10:Int))));((.r (.ret (Adq (10:Int))) (.r (.ret A0) .nil)),(CO Gl 186 [cRu (10:Int)] (.ret (Adq (10:Int)))/\((0:Int)<=3/\3<(↑(5:Nat):Int))/\CO Gl 297 [cRu (10:Int),I n] (.ret A0)/\flo ((2:Int)*n+(10:Int)) ((2:Int)*(10:Int))=fig n))) Tryz.func96 (by kernel_rfl) (by kernel_rfl) ?_
 dsimp only
 exact ⟨Atr S 10,by decide,Atq S 10 n (by omega) hn,rfl⟩
theorem Ats {Gl} (S:SP Gl) (r:Nat) (hr:r<3):CO Gl 352 [.d (.agg (cRT exR 1)),I r] (.ret (.d (.agg (Ad (exL r))))):=by
 refine Ao S (let A0:=(Int.toNat (1:Int));((.nil),(((0:Int)<=1/\1<(↑(3:Nat):Int))/\(0<=(r:Int)/\(r:Int)<(↑(3:Nat):Int))/\iR (nth [(13:Int),(26:Int),(44:Int)] r-nth [(4:Int),(1:Int),(0:Int)] A0)/\(0<=(r:Int)/\(r:Int)<(↑(3:Nat):Int))/\iR (nth [(13:Int),(26:Int),(44:Int)] r+nth [(4:Int),(1:Int),(0:Int)] A0)/\nth [(13:Int),(26:Int),(44:Int)] r-nth [(4:Int),(1:Int),(0:Int)] A0=nth [(13:Int),(26:Int),(44:Int)] r-(1:Int)/\nth [(13:Int),(26:Int),(44:Int)] r+nth [(4:Int),(1:Int),(0:Int)] A0=nth [(13:Int),(26:Int),(44:Int)] r+(1:Int)))) Tryz.func352 (by kernel_rfl) (by kernel_rfl) ?_
 simp only [Af]
 match r,hr with
 |0,_=>decide
 |1,_=>decide
 |2,_=>decide
theorem Att {Gl} (S:SP Gl) (r:Int):CO Gl 291 [.d (.agg (cRT exR 1)),I r] (.ret (.fn 351 [] [.d (.c (.p (cRT exR 1))),.d (.c (.p [Ci r]))])):=by
 refine Apx S (t:=4) (id:=2) (id2:=3) .nil Tryz.func291 (by kernel_rfl) Tryz.results291 (by decide) (by decide) (by decide) (by decide) (T.fn 351 [] [.addr 2 0,.addr 3 0]=T.fn 351 [] [.addr 2 0,.addr 3 0]/\live=live/\live=live/\Gb (Dp 2 0 (cRT exR 1)) 2 0 (cRT exR 1)/\Gb (Dp 3 0 [Ci r]) 3 0 [Ci r]) (by kernel_rfl) ?_
 exact ⟨rfl,rfl,rfl,⟨rfl,rfl,rfl,rfl,rfl,trivial⟩,⟨rfl,trivial⟩⟩
def elk (k p:Nat):Int:=nth exR.rows k - 1+(p:Int)
def nxD (D:Int->Bool) (k:Nat):Nat->Int->Bool
 |0,_=>false
 |p+1,x=>nxD D k p x||D (x - elk k p)
def cmb (b:Bool) (y z:Span):Span:=bif b then ⟨min y.lo z.lo,max y.hi z.hi⟩ else y
def shf (f:Int) (y:Span):Span:=⟨y.lo+f,y.hi+f⟩
def nxV (D:Int->Bool) (V:Int->Span) (k:Nat):Nat->Int->Span
 |0,_=>⟨0,0⟩
 |p+1,x=>bif D (x - elk k p) then cmb (nxD D k p x) (shf (fig (elk k p)) (V (x - elk k p))) (nxV D V k p x) else nxV D V k p x
def sDk:Nat->Int->Bool
 |0,x=>x==0
 |k+1,x=>nxD (sDk k) k 3 x
def sVk:Nat->Int->Span
 |0,_=>⟨0,0⟩
 |k+1,x=>nxV (sDk k) (sVk k) k 3 x
def hasK (h:List (List Int)) (x:Int):Bool:=h.any fun y=>eqK y [x]
def hD (k p:Nat) (h:List (List Int)) (x:Int):Bool:=nxD (sDk k) k p x||hasK h (x - elk k p)
def hV (k p:Nat) (h:List (List Int)) (x:Int):Span:=bif hasK h (x - elk k p) then cmb (nxD (sDk k) k p x) (shf (fig (elk k p)) (sVk k (x - elk k p))) (nxV (sDk k) (sVk k) k p x) else nxV (sDk k) (sVk k) k p x
def kD (D:Int->Bool):List Int->Bool
 | [x]=>D x
 |_=>false
def mS (k:Nat):C:=.m 0 true (kD (sDk k)) fun key=>Ad (sVk k (nth key 0))
def Je:List (List Int):=(List.range 300).map fun (i:Nat)=>[(i:Int)]
def sumE (k:Nat) (o:Nat):Env:=v (o+2) (ad 2)::v (o+5) (ad 5)::v (o+6) (I k)::v (o+7) (ad 7)::[]
def sumB (k:Nat) (d:List Int->Bool) (vl:List Int->List C):Env:=(2,27,.mapc false 0 true d vl)::(bx 2 (cRT exR 1)++bx 5 [mS k]++[(2,7,live),(10,0,.mp 27)])
theorem Ud {D:Int->Bool} {key:List Int}:kD D key=true↔∃ x,key=[x]/\D x=true:=by
 unfold kD
 split
 ·rename_i x
  exact ⟨fun h=>⟨x,rfl,h⟩,fun ⟨y,hy,h⟩=>by cases hy;exact h⟩
 ·rename_i hne
  exact ⟨fun h=>(by cases h),fun ⟨x,hx,_⟩=>(hne x hx).elim⟩
theorem Ajn {D D':Int->Bool} {V V':Int->Span} (h:∀ x,D x=D' x/\(D x=true->V x=V' x)):MEq (kD D) (fun key=>Ad (V (nth key 0))) (kD D') (fun key=>Ad (V' (nth key 0))):=by
 intro key
 refine ⟨?_,fun hk=>?_⟩
 ·unfold kD
  split
  ·exact (h _).1
  ·rfl
 ·obtain ⟨x,rfl,hx⟩:=Ud.1 hk
  exact .inl (congrArg Ad ((h x).2 hx))
theorem Yt (x a:Int):eqK [x] [a]=(x==a):=by
 show (x==a&&true)=_
 rw [Bool.and_true]
theorem Ajo {D D':Int->Bool} {V V':Int->Span} {a:Int} {y:Span} {cs:List C} (hc:cs=Ad y) (h1:∀ x,D' x=(x==a||D x)) (h2:V' a=y) (h3:∀ x,x≠a->D x=true->V' x=V x):
  MEq (Ca (kD D) [a]) (Dl (fun key=>Ad (V (nth key 0))) [a] cs) (kD D') (fun key=>Ad (V' (nth key 0))):=by
 subst hc
 intro key
 have hu:Ca (kD D) [a] key=kD D' key:=by
  unfold Ca kD
  split
  ·rename_i x
   rw [Yt,h1]
  ·rename_i hne
   have:eqK key [a]=false:=by
    match key,hne with
    | [],_=>rfl
    | [x],hne=>exact (hne x rfl).elim
    |x::z::r,_=>show (x==a&&eqL (z::r) [])=false;unfold eqL;exact Bool.and_false _
   rw [this];rfl
 refine ⟨hu,fun hk=>?_⟩
 rw [hu] at hk
 obtain ⟨x,rfl,hx⟩:=Ud.1 hk
 refine .inl ?_
 show (bif eqK [x] [a] then Ad y else Ad (V x))=Ad (V' x)
 rw [Yt]
 by_cases hxa:x=a
 ·subst hxa
  rw [beq_self_eq_true,cond_true,h2]
 ·have hb:(x==a)=false:=beq_eq_false_iff_ne.2 hxa
  rw [hb,cond_false]
  rw [h1,hb,Bool.false_or] at hx
  rw [h3 x hxa hx]
theorem Adt (h:List (List Int)) (z x:Int):hasK (h++[[z]]) x=(hasK h x||z==x):=by
 unfold hasK
 rw [List.any_append,List.any_cons,List.any_nil,Bool.or_false,Yt]
theorem Adu:∀ {a b:List Int},eqL a b=true↔a=b
 | [],[]=>by simp [eqL]
 | [],_::_=>by simp [eqL]
 |_::_,[]=>by simp [eqL]
 |x::a,y::b=>by
  unfold eqL
  rw [Bool.and_eq_true,beq_iff_eq,Adu]
  simp
theorem Adv {h:List (List Int)} {x:Int}:hasK h x=true↔[x]∈h:=by
 unfold hasK
 rw [List.any_eq_true]
 exact ⟨fun ⟨y,hy,he⟩=>by rw [<-Adu.1 he];exact hy,fun hx=>⟨[x],hx,Adu.2 rfl⟩⟩
theorem Ajp {D:Int->Bool} {V:Int->Span} {k:Nat} {x:Int}:∀ {p:Nat},nxD D k p x=false->nxV D V k p x=⟨0,0⟩
 |0,_=>rfl
 |p+1,h=>by
  unfold nxD at h
  rw [Bool.or_eq_false_iff] at h
  unfold nxV
  rw [h.2,cond_false,Ajp h.1]
theorem Ue {k p:Nat} (hk:k<3) (hp:p<3):(0<=elk k p/\elk k p<=60)/\0<=fig (elk k p)/\fig (elk k p)<=20:=by
 have:∀ k:Fin 3,∀ p:Fin 3,(0<=elk k.1 p.1/\elk k.1 p.1<=60)/\0<=fig (elk k.1 p.1)/\fig (elk k.1 p.1)<=20:=by decide
 exact this ⟨k,hk⟩ ⟨p,hp⟩
theorem Ajq {D:Int->Bool} {k:Nat} {B:Int} (hk:k<3) (h:∀ x,D x=true->0<=x/\x<=B) {x:Int}:∀ {p:Nat},p<=3->nxD D k p x=true->0<=x/\x<=B+60
 |0,_,hx=>by cases hx
 |p+1,hp,hx=>by
  unfold nxD at hx
  rw [Bool.or_eq_true] at hx
  rcases hx with hx|hx
  ·exact Ajq hk h (by omega) hx
  ·have h1:=h _ hx
   have h2:=(Ue hk (show p<3 by omega)).1
   omega
theorem Uf:∀ {k:Nat},k<=3->∀ {x:Int},sDk k x=true->0<=x/\x<=60*(k:Int)
 |0,_,x,h=>by
  have:x=0:=by simpa [sDk] using h
  omega
 |k+1,hk,x,h=>by
  have:=Ajq (B:=60*(k:Int)) (k:=k) (by omega) (fun x hx=>Uf (show k<=3 by omega) hx) (Nat.le_refl 3) h
  omega
def spB (M:Int) (y:Span):Prop:=(-M<=y.lo/\y.lo<=M)/\-M<=y.hi/\y.hi<=M
theorem Ajr {D:Int->Bool} {V:Int->Span} {k:Nat} {M:Int} (hk:k<3) (hM:0<=M) (h:∀ x,spB M (V x)) (x:Int):∀ {p:Nat},p<=3->spB (M+20) (nxV D V k p x)
 |0,_=>by refine ⟨⟨?_,?_⟩,?_,?_⟩<;>show _<=_<;>simp [nxV]<;>omega
 |p+1,hp=>by
  have ih:=Ajr (D:=D) hk hM h x (p:=p) (by omega)
  have h1:=h (x - elk k p)
  have h2:=(Ue hk (show p<3 by omega)).2
  unfold nxV
  cases D (x - elk k p) with
  |false=>exact ih
  |true=>
   rw [cond_true]
   unfold cmb shf
   unfold spB at ih h1 ⊢
   cases nxD D k p x<;>simp only [cond_true,cond_false]<;>omega
theorem Adw:∀ {k:Nat},k<=3->∀ x:Int,spB (20*(k:Int)) (sVk k x)
 |0,_,x=>⟨⟨Int.le_refl _,Int.le_refl _⟩,Int.le_refl _,Int.le_refl _⟩
 |k+1,hk,x=>by
  have:=Ajr (D:=sDk k) (V:=sVk k) (k:=k) (by omega) (by omega) (fun x=>Adw (show k<=3 by omega) x) x (Nat.le_refl 3)
  unfold sVk
  unfold spB at this ⊢
  omega
theorem Atu {v0:List Int->List C}:MEq (Ca (fun _=>false) [(0:Int)]) (Dl v0 [(0:Int)] (Ad ⟨0,0⟩)) (kD (sDk 0)) (fun key=>Ad (sVk 0 (nth key 0))):=by
 intro key
 have hu:Ca (fun _=>false) [(0:Int)] key=kD (sDk 0) key:=by
  unfold Ca
  rw [Bool.or_false]
  match key with
  | []=>rfl
  | [x]=>rw [Yt];rfl
  |x::z::r=>show (x==0&&eqL (z::r) [])=false;unfold eqL;exact Bool.and_false _
 refine ⟨hu,fun hk=>.inl ?_⟩
 rw [hu] at hk
 obtain ⟨x,rfl,hx⟩:=Ud.1 hk
 have h0:x=0:=by simpa [sDk] using hx
 subst h0
 rfl
theorem meq_none {V:Int->Span} {v0:List Int->List C}:MEq (fun _=>false) v0 (kD fun _=>false) (fun key=>Ad (V (nth key 0))):=by
 intro key
 refine ⟨?_,fun h=>(by cases h)⟩
 unfold kD
 split<;>rfl
theorem newK {D:Int->Bool} {h:List (List Int)} {key:List Int} (hn:Us (kD D) h key):∃ z,key=[z]/\D z=true/\hasK h z=false:=by
 obtain ⟨h1,h2,h3,h4⟩:=hn
 obtain ⟨z,rfl,hz⟩:=Ud.1 h3
 refine ⟨z,rfl,hz,?_⟩
 rw [Bool.eq_false_iff]
 exact fun hh=>h4 (Adv.1 hh)
theorem Ajs {D:Int->Bool} {h:List (List Int)} (he:Rc (kD D) h) (x:Int):hasK h x=D x:=by
 rw [Bool.eq_iff_iff,Adv,he.2]
 rfl
theorem Ajt {h:List (List Int)} {z:Int} (hnd:h.Nodup) (hs:∀ x,x∈h->x∈Je) (hz:hasK h z=false) (hr:0<=z/\z<300):Rw Je h (h++[[z]]):=by
 refine ⟨by simp,?_,fun x hx=>?_⟩
 ·rw [List.nodup_append]
  refine ⟨hnd,by simp,fun a ha b hb=>?_⟩
  rw [List.mem_singleton] at hb
  subst hb
  intro hab
  subst hab
  rw [Adv.2 ha] at hz
  cases hz
 ·rw [List.mem_append,List.mem_singleton] at hx
  rcases hx with hx|hx
  ·exact hs x hx
  ·subst hx
   unfold Je
   rw [List.mem_map]
   exact ⟨z.toNat,List.mem_range.2 (by omega),by rw [show ((z.toNat:Nat):Int)=z by omega]⟩
theorem Atv {Gl} (S:SP Gl) (k l:Nat) (hk:k<3):Does Tryz.prog Y Gl (⟨l,3,3,fun p=>[I (elk k p)]⟩:Yd) 351 [.yl l,.d (.c (.p (cRT exR 1))),.d (.c (.p [Ci k]))] [(0,BIG,.tr 0)] (.ret (.tup [])) [(0,BIG,.tr 3)]:=by
 refine Qf S (.r (.ret (T.d (D.agg (Ad (exL k))))) (.loop (3:Nat) (fun p=>v 5 (I (elk k p))::v 4 (ad 4)::v 0 (T.yl l)::((0:Nat),BIG,T.tr p)::bx 4 (Ad (exL k))) fun k0=>.br (.br .nil .nil) .nil)) Tryz.func351 (by kernel_rfl) (CO Gl 352 [T.d (D.agg (cRT exR (1:Int))),I k] (.ret (T.d (D.agg (Ad (exL k)))))/\(nth [(13:Int),(26:Int),(44:Int)] k-(1:Int)=elk k (0:Nat)/\l=l/\(0:Nat)=(0:Nat)/\nth [(13:Int),(26:Int),(44:Int)] k-(1:Int)=nth [(13:Int),(26:Int),(44:Int)] k-(1:Int)/\nth [(13:Int),(26:Int),(44:Int)] k+(1:Int)=nth [(13:Int),(26:Int),(44:Int)] k+(1:Int))/\∀ (k0:Nat),k0<=(3:Nat)->(decide (elk k k0<=nth [(13:Int),(26:Int),(44:Int)] k+(1:Int))=true->l=l/\k0<(3:Nat)/\k0<=(3:Nat)/\elk k k0=elk k k0/\((!k0 != (3:Nat))=true->True/\k0+(1:Nat)=(3:Nat))/\((!k0 != (3:Nat))=false->iR (elk k k0+(1:Int))/\k0<(3:Nat)/\elk k k0+(1:Int)=elk k (k0+1)/\l=l/\k0+(1:Nat)=k0+(1:Nat)/\nth [(13:Int),(26:Int),(44:Int)] k-(1:Int)=nth [(13:Int),(26:Int),(44:Int)] k-(1:Int)/\nth [(13:Int),(26:Int),(44:Int)] k+(1:Int)=nth [(13:Int),(26:Int),(44:Int)] k+(1:Int)))/\(decide (elk k k0<=nth [(13:Int),(26:Int),(44:Int)] k+(1:Int))=false->True/\k0=(3:Nat))) (by kernel_rfl) ?_
 have he:∀ p,elk k (p+1)=elk k p+1:=fun p=>by unfold elk;omega
 have hh:nth [(13:Int),26,44] k+1=elk k 2:=by unfold elk;show _=nth [(13:Int),26,44] k - 1+2;omega
 have h0:nth [(13:Int),26,44] k - 1=elk k 0:=by unfold elk;show _=nth [(13:Int),26,44] k - 1+0;omega
 have hlt:∀ p:Nat,elk k p=elk k 0+p:=fun p=>by unfold elk;omega
 have hb:=(Ue hk (p:=0) (by omega)).1
 have h2:=hlt 2
 simp only [stdS,imp_self,implies_true,and_true,Af,hh,h0]
 refine ⟨Ats S k hk,fun p hp=>⟨fun hd=>?_,fun hd=>?_⟩⟩
 ·have h1:=of_decide_eq_true hd
  have h3:=hlt p
  exact ⟨by omega,by omega,fun hn=>by simp at hn;omega,fun _=>⟨by omega,by omega,(he p).symm,trivial⟩⟩
 ·have h1:=of_decide_eq_false hd
  have h3:=hlt p
  omega
theorem Atw {Gl} (S:SP Gl)  :CO Gl 184 [.d (.agg (cRT exR 1)),I 0] (.ret (.d (.c (mS 3)))):=by
 refine Ao S (let A0:=fun (k0:Nat)=>(fun key=>Ad (sVk k0 (nth key 0)));let A1:=(sR eI [(13:Int),(26:Int),(44:Int)]);let A2:=(sR eI [(4:Int),(1:Int),(0:Int)]);let A3:=fun (k0:Nat)=>(MEq (kD (sDk k0)) (A0 k0) (kD (sDk k0)) fun key=>Ad (sVk k0 (nth key 0)));let A4:=(Value.int IntKind.i64 (0:Int));let A5:=(fun x=>vsC [Value.int IntKind.i64 (0:Int),Value.int IntKind.i64 (0:Int)]);let A6:=fun (k0:Nat)=>(kD (sDk k0));let A7:=fun (k0:Nat)=>(T.fn (351:FuncId) [] [T.d (D.c (C.p (cRT exR (1:Int)))),T.d (D.c (C.p [Ci k0]))]);((.arrA (17:Nat) (.loop (3:Nat) (fun k=>v 6 (I k)::v 2 (ad 2)::v 5 (ad 5)::(bx 2 (cRT exR (1:Int))++bx 5 [mS k])) fun k0=>.br (.r (.ret (A7 k0)) (.rf (3:Nat) (3:Nat) (fun p=>[I (elk k0 p)]) (fun p=>sumE k0 (0:Nat)++sumB k0 (kD (nxD (sDk k0) k0 p)) fun key=>Ad (nxV (sDk k0) (sVk k0) k0 p (nth key 0))) (fun k1=>.r (.ret (I (fig (elk k0 k1)))) (.lg Je (36:Nat) (fun h=>v 8 (I (elk k0 k1))::v 9 (I (fig (elk k0 k1)))::v 36 (T.it (36:Nat))::((2:Nat),(36:Nat),T.mitc (0:Nat) true (A6 k0) (A0 k0) h none)::(sumE k0 (0:Nat)++sumE k0 (100000:Nat)++sumB k0 (kD (hD k0 k1 h)) fun key=>Ad (hV k0 k1 h (nth key 0)))) fun h2=>.each (fun key=>.tt (.br .nil .nil)) (.ff .nil))) (.arrA (76:Nat) .nil))) .nil)),((0=(↑(0:Nat):Int)/\(10:Int)=10/\(3:Int)=3/\(SEq (3:Nat) (fun i=>eI (nth [(4:Int),(1:Int),(0:Int)] i)) (List.length [(4:Int),(1:Int),(0:Int)]) fun i=>eI (nth [(4:Int),(1:Int),(0:Int)] i))/\(SEq (3:Nat) (fun i=>eI (nth [(13:Int),(26:Int),(44:Int)] i)) (List.length [(13:Int),(26:Int),(44:Int)]) fun i=>eI (nth [(13:Int),(26:Int),(44:Int)] i))/\(1:Int)=1/\MEq (Ca (fun x=>false) [(0:Int)]) (Dl A5 [(0:Int)] (List.map C.dem [C.v A4,C.v A4])) (kD (sDk (0:Nat))) fun key=>Ad (sVk (0:Nat) (nth key 0)))/\∀ (k0:Nat),k0<=(3:Nat)->List.length [(13:Int),(26:Int),(44:Int)]<=maxLen->(decide ((k0:Int)<(↑(List.length [(13:Int),(26:Int),(44:Int)]):Int))=true->CO Gl 291 [T.d (D.agg (cRT exR (1:Int))),I k0] (.ret (A7 k0))/\Yd.m yd0=(0:Nat)/\Pi (Does Tryz.prog Y Gl) (351:Nat) [] [T.d (D.c (C.p [C.v (Value.int IntKind.i64 (10:Int)),C.v (Value.int IntKind.i64 (3:Int)),C.l eI [(4:Int),(1:Int),(0:Int)],C.l eI [(13:Int),(26:Int),(44:Int)],C.v (Value.int IntKind.i64 (1:Int))])),T.d (D.c (C.p [C.v (Value.int IntKind.i64 (k0:Int))]))] (fun l=>Yd.mk l (3:Nat) (3:Nat) fun p=>[I (elk k0 p)]) (3:Nat) (3:Nat)/\((k0:Int)=(k0:Int)/\(MEq (fun x=>false) A5 (kD (nxD (sDk k0) k0 (0:Nat))) fun key=>Ad (nxV (sDk k0) (sVk k0) k0 (0:Nat) (nth key 0)))/\(10:Int)=10/\(3:Int)=3/\A2/\A1/\(1:Int)=1/\MEq (A6 k0) (A0 k0) (A6 k0) fun key=>Ad (sVk k0 (nth key 0)))/\(∀ (k1:Nat),k1<(3:Nat)->k1<=(3:Nat)->CO Gl 96 [T.d (D.agg (cRT exR (1:Int))),I (elk k0 k1)] (.ret (I (fig (elk k0 k1))))/\(elk k0 k1=elk k0 k1/\fig (elk k0 k1)=fig (elk k0 k1)/\(A3 k0)/\([]:List (List Int))=[]/\(k0:Int)=(k0:Int)/\(k0:Int)=(k0:Int)/\(MEq (kD (nxD (sDk k0) k0 k1)) (fun key=>Ad (nxV (sDk k0) (sVk k0) k0 k1 (nth key 0))) (kD (hD k0 k1 [])) fun key=>Ad (hV k0 k1 [] (nth key 0)))/\(10:Int)=10/\(3:Int)=3/\A2/\A1/\(1:Int)=1/\MEq (A6 k0) (A0 k0) (A6 k0) fun key=>Ad (sVk k0 (nth key 0)))/\∀ (h2:List (List Int)),List.Nodup h2->(∀ (x:List Int),x∈h2->x∈Je)->(∀ (key:List Int),Us (A6 k0) h2 key->true=true/\iR ((sVk k0 (nth key 0)).1+fig (elk k0 k1))/\iR ((sVk k0 (nth key 0)).2+fig (elk k0 k1))/\iR (nth key 0+elk k0 k1)/\(kD (hD k0 k1 h2) [nth key 0+elk k0 k1]=false->[C.v (Value.int IntKind.i64 (hV k0 k1 h2 (nth [nth key 0+elk k0 k1] (0:Nat))).1),C.v (Value.int IntKind.i64 (hV k0 k1 h2 (nth [nth key 0+elk k0 k1] (0:Nat))).2)]=[C.v A4,C.v A4])/\(kD (hD k0 k1 h2) [nth key 0+elk k0 k1]=true->iR (nth key 0+elk k0 k1)/\Rw Je h2 (h2++[key])/\elk k0 k1=elk k0 k1/\fig (elk k0 k1)=fig (elk k0 k1)/\(A3 k0)/\h2++[key]=h2++[key]/\(k0:Int)=(k0:Int)/\(k0:Int)=(k0:Int)/\(MEq (Ca (kD (hD k0 k1 h2)) [nth key 0+elk k0 k1]) (Dl (fun key=>Ad (hV k0 k1 h2 (nth key 0))) [nth key 0+elk k0 k1] (List.map C.dem [C.v (Value.int IntKind.i64 (min ((sVk k0 (nth key 0)).1+fig (elk k0 k1)) (hV k0 k1 h2 (nth [nth key 0+elk k0 k1] (0:Nat))).1)),C.v (Value.int IntKind.i64 (max ((sVk k0 (nth key 0)).2+fig (elk k0 k1)) (hV k0 k1 h2 (nth [nth key 0+elk k0 k1] (0:Nat))).2))])) (kD (hD k0 k1 (h2++[key]))) fun key_1=>Ad (hV k0 k1 (h2++[key]) (nth key_1 (0:Nat))))/\(10:Int)=10/\(3:Int)=3/\A2/\A1/\(1:Int)=1/\MEq (A6 k0) (A0 k0) (A6 k0) fun key=>Ad (sVk k0 (nth key 0)))/\(kD (hD k0 k1 h2) [nth key 0+elk k0 k1]=false->iR (nth key 0+elk k0 k1)/\Rw Je h2 (h2++[key])/\elk k0 k1=elk k0 k1/\fig (elk k0 k1)=fig (elk k0 k1)/\(A3 k0)/\h2++[key]=h2++[key]/\(k0:Int)=(k0:Int)/\(k0:Int)=(k0:Int)/\(MEq (Ca (kD (hD k0 k1 h2)) [nth key 0+elk k0 k1]) (Dl (fun key=>Ad (hV k0 k1 h2 (nth key 0))) [nth key 0+elk k0 k1] (List.map C.dem [C.v (Value.int IntKind.i64 ((sVk k0 (nth key 0)).1+fig (elk k0 k1))),C.v (Value.int IntKind.i64 ((sVk k0 (nth key 0)).2+fig (elk k0 k1)))])) (kD (hD k0 k1 (h2++[key]))) fun key_1=>Ad (hV k0 k1 (h2++[key]) (nth key_1 (0:Nat))))/\(10:Int)=10/\(3:Int)=3/\A2/\A1/\(1:Int)=1/\MEq (A6 k0) (A0 k0) (A6 k0) fun key=>Ad (sVk k0 (nth key 0))))/\(Rc (A6 k0) h2->false=false/\k1<(3:Nat)/\(k0:Int)=(k0:Int)/\(MEq (kD (hD k0 k1 h2)) (fun key=>Ad (hV k0 k1 h2 (nth key 0))) (kD (nxD (sDk k0) k0 (k1+1))) fun key=>Ad (nxV (sDk k0) (sVk k0) k0 (k1+1) (nth key 0)))/\(10:Int)=10/\(3:Int)=3/\A2/\A1/\(1:Int)=1/\MEq (A6 k0) (A0 k0) (A6 k0) fun key=>Ad (sVk k0 (nth key 0))))/\((3:Nat)<=(3:Nat)->iR ((k0:Int)+1)/\k0<(3:Nat)/\(k0:Int)+1=(↑(k0+1):Int)/\(10:Int)=10/\(3:Int)=3/\A2/\A1/\(1:Int)=1/\MEq (kD (nxD (sDk k0) k0 (3:Nat))) (fun key=>Ad (nxV (sDk k0) (sVk k0) k0 (3:Nat) (nth key 0))) (kD (sDk (k0+1))) fun key=>Ad (sVk (k0+1) (nth key 0))))/\(decide ((k0:Int)<(↑(List.length [(13:Int),(26:Int),(44:Int)]):Int))=false->MEq (A6 k0) (A0 k0) (kD (sDk (3:Nat))) fun key=>Ad (sVk (3:Nat) (nth key 0)))))) Tryz.func184 (by kernel_rfl) (by kernel_rfl) ?_
 simp only [stdS,imp_self,implies_true,and_true,Af,Bi]
 have hme:∀ j,MEq (kD (sDk j)) (fun key=>Ad (sVk j (nth key 0))) (kD (sDk j)) (fun key=>Ad (sVk j (nth key 0))):=fun j key=>⟨rfl,fun _=>.inl rfl⟩
 refine ⟨⟨.of ⟨rfl,fun _ _=>rfl⟩,.of ⟨rfl,fun _ _=>rfl⟩,Atu⟩,fun k hk hm=>⟨fun hd=>?_,fun hd=>?_⟩⟩
 ·have hlt:k<3:=by have h1:(k:Int)<3:=of_decide_eq_true hd;omega
  refine ⟨Att S k,fun l=>Atv S k l hlt,⟨?_,hme k⟩,fun p hp hp2=>⟨Ajm S _ ?_,⟨hme k,?_,hme k⟩,fun h hnd hsub=>⟨fun key hnew=>?_,fun hen=>⟨hp,?_,hme k⟩⟩⟩,fun _=>⟨by omega,hlt,by omega,?_⟩⟩
  ·exact fun key=>⟨(meq_none (V:=nxV (sDk k) (sVk k) k 0) (v0:=fun _=>[]) key).1,fun h=>(by cases h)⟩
  ·have:=(Ue hlt hp).1
   omega
  ·exact Ajn fun x=>⟨by unfold hD hasK;simp,fun _=>by unfold hV hasK;simp⟩
  ·obtain ⟨z,rfl,hz,hnz⟩:=newK hnew
   have hz1:=Uf (by omega) hz
   have hv1:=Adw (show k<=3 by omega) z
   unfold spB at hv1
   have he:=Ue hlt hp
   have hm1:=Ajt hnd hsub hnz (by omega)
   have e0:nth [z] 0=z:=rfl
   have e1:nth [z+elk k p] 0=z+elk k p:=rfl
   have e2:hV k p h (z+elk k p)=nxV (sDk k) (sVk k) k p (z+elk k p):=by unfold hV;rw [show z+elk k p - elk k p=z by omega,hnz];rfl
   have e3:kD (hD k p h) [z+elk k p]=nxD (sDk k) k p (z+elk k p):=by show hD k p h (z+elk k p)=_;unfold hD;rw [show z+elk k p - elk k p=z by omega,hnz,Bool.or_false]
   have e4:∀ x,hD k p (h++[[z]]) x=(x==z+elk k p||hD k p h x):=fun x=>by
    unfold hD
    rw [Adt]
    have:(z==x - elk k p)=(x==z+elk k p):=by rw [Bool.eq_iff_iff,beq_iff_eq,beq_iff_eq];omega
    rw [this]
    cases nxD (sDk k) k p x<;>cases hasK h (x - elk k p)<;>cases x==z+elk k p<;>rfl
   have e5:hV k p (h++[[z]]) (z+elk k p)=cmb (nxD (sDk k) k p (z+elk k p)) (shf (fig (elk k p)) (sVk k z)) (nxV (sDk k) (sVk k) k p (z+elk k p)):=by
    unfold hV
    rw [show z+elk k p - elk k p=z by omega,Adt,beq_self_eq_true,Bool.or_true];rfl
   have e6:∀ x,x≠z+elk k p->hD k p h x=true->hV k p (h++[[z]]) x=hV k p h x:=fun x hx _=>by
    unfold hV
    rw [Adt,show (z==x - elk k p)=false from beq_eq_false_iff_ne.2 (by omega),Bool.or_false]
   simp only [e0,e1,e2,e3]
   refine ⟨by omega,by omega,by omega,fun hf=>by rw [Ajp hf],fun ht=>⟨by omega,hm1,hme k,Ajo (y:=hV k p (h++[[z]]) (z+elk k p)) ?_ e4 rfl e6,hme k⟩,fun hf=>⟨by omega,hm1,hme k,Ajo (y:=hV k p (h++[[z]]) (z+elk k p)) ?_ e4 rfl e6,hme k⟩⟩
   ·rw [e5,ht];rfl
   ·rw [e5,hf];rfl
  ·exact Ajn fun x=>⟨by unfold hD;rw [Ajs hen];rfl,fun _=>by unfold hV;rw [Ajs hen];rfl⟩
  ·exact fun key=>⟨rfl,fun _=>.inl rfl⟩
 ·have:k=3:=by have h1:¬ (k:Int)<3:=of_decide_eq_false hd;omega
  subst this
  exact fun key=>⟨rfl,fun _=>.inl rfl⟩
theorem Adx {lt:Int->Int->Bool} (l:List Int):∀ k,k<l.length->∃ i,i<=k/\bestTo lt l k=nth l i
 |0,_=>⟨0,Nat.le_refl _,rfl⟩
 |k+1,h=>by
  obtain ⟨i,hi,he⟩:=Adx (lt:=lt) l k (by omega)
  have hs:bestTo lt l (k+1)=bif lt (nth l (k+1)) (bestTo lt l k) then nth l (k+1) else bestTo lt l k:=rfl
  rw [hs]
  cases lt (nth l (k+1)) (bestTo lt l k) with
  |true=>exact ⟨k+1,Nat.le_refl _,rfl⟩
  |false=>exact ⟨i,by omega,he⟩
theorem Aju (l:List Int):∀ k,k<l.length->∀ i,i<=k->bestTo (fun x y:Int=>decide (x<y)) l k<=nth l i
 |0,_,i,hi=>by rw [show i=0 by omega];exact Int.le_refl _
 |k+1,h,i,hi=>by
  have ih:=Aju l k (by omega)
  have hs:bestTo (fun x y:Int=>decide (x<y)) l (k+1)=bif decide (nth l (k+1)<bestTo (fun x y:Int=>decide (x<y)) l k) then nth l (k+1) else bestTo (fun x y:Int=>decide (x<y)) l k:=rfl
  rw [hs]
  by_cases hb:nth l (k+1)<bestTo (fun x y:Int=>decide (x<y)) l k
  ·rw [decide_eq_true hb,cond_true]
   rcases Nat.lt_or_ge k i with h1|h1
   ·rw [show i=k+1 by omega];exact Int.le_refl _
   ·have:=ih i h1;omega
  ·rw [decide_eq_false hb,cond_false]
   rcases Nat.lt_or_ge k i with h1|h1
   ·rw [show i=k+1 by omega];omega
   ·exact ih i h1
theorem Ajv (l:List Int):∀ k,k<l.length->∀ i,i<=k->nth l i<=bestTo (fun x y:Int=>decide (y<x)) l k
 |0,_,i,hi=>by rw [show i=0 by omega];exact Int.le_refl _
 |k+1,h,i,hi=>by
  have ih:=Ajv l k (by omega)
  have hs:bestTo (fun x y:Int=>decide (y<x)) l (k+1)=bif decide (bestTo (fun x y:Int=>decide (y<x)) l k<nth l (k+1)) then nth l (k+1) else bestTo (fun x y:Int=>decide (y<x)) l k:=rfl
  rw [hs]
  by_cases hb:bestTo (fun x y:Int=>decide (y<x)) l k<nth l (k+1)
  ·rw [decide_eq_true hb,cond_true]
   rcases Nat.lt_or_ge k i with h1|h1
   ·rw [show i=k+1 by omega];exact Int.le_refl _
   ·have:=ih i h1;omega
  ·rw [decide_eq_false hb,cond_false]
   rcases Nat.lt_or_ge k i with h1|h1
   ·rw [show i=k+1 by omega];omega
   ·exact ih i h1
theorem Atx {l:List Int} {m:Int} (h0:0<l.length) (h1:m∈l) (h2:∀ x∈l,m<=x):Cd (fun x y:Int=>decide (x<y)) l=m:=by
 obtain ⟨i,hi,he⟩:=Adx (lt:=fun x y:Int=>decide (x<y)) l (l.length - 1) (by omega)
 have h3:=h2 _ (Er (l:=l) (k:=i) (by omega))
 obtain ⟨j,hj,rfl⟩:=List.mem_iff_getElem.1 h1
 have h4:=Aju l (l.length - 1) (by omega) j (by omega)
 rw [Ex hj] at h4
 unfold Cd
 omega
theorem Aty {l:List Int} {m:Int} (h0:0<l.length) (h1:m∈l) (h2:∀ x∈l,x<=m):Cd (fun x y:Int=>decide (y<x)) l=m:=by
 obtain ⟨i,hi,he⟩:=Adx (lt:=fun x y:Int=>decide (y<x)) l (l.length - 1) (by omega)
 have h3:=h2 _ (Er (l:=l) (k:=i) (by omega))
 obtain ⟨j,hj,rfl⟩:=List.mem_iff_getElem.1 h1
 have h4:=Ajv l (l.length - 1) (by omega) j (by omega)
 rw [Ex hj] at h4
 unfold Cd
 omega
def loX (x:Int):Int:=(sVk 3 x).lo - fig x
def hiX (x:Int):Int:=(sVk 3 x).hi - fig x
def lTo (h:List (List Int)):List Int:=h.flatMap fun k=>[loX (nth k 0),hiX (nth k 0)]
theorem Ajw (x:Int) (h:sDk 3 x=true):-1<=loX x/\loX x<=hiX x/\hiX x<=1:=by
 have h1:=Uf (Nat.le_refl 3) h
 have:∀ x:Fin 181,sDk 3 (x.1:Int)=true->-1<=loX (x.1:Int)/\loX (x.1:Int)<=hiX (x.1:Int)/\hiX (x.1:Int)<=1:=by decide +kernel
 have h2:=this ⟨x.toNat,by omega⟩
 rw [show ((x.toNat:Nat):Int)=x by omega] at h2
 exact h2 h
theorem x_lo:∃ x:Int,sDk 3 x=true/\loX x=-1:=by
 have:∃ x:Fin 181,sDk 3 (x.1:Int)=true/\loX (x.1:Int)=-1:=by decide +kernel
 exact ⟨_,this.choose_spec⟩
theorem x_hi:∃ x:Int,sDk 3 x=true/\hiX x=1:=by
 have:∃ x:Fin 181,sDk 3 (x.1:Int)=true/\hiX (x.1:Int)=1:=by decide +kernel
 exact ⟨_,this.choose_spec⟩
theorem Atz {h:List (List Int)} (he:Rc (kD (sDk 3)) h):0<(lTo h).length/\Cd (fun x y:Int=>decide (x<y)) (lTo h)=-1/\Cd (fun x y:Int=>decide (y<x)) (lTo h)=1:=by
 have hm:∀ y,y∈lTo h->-1<=y/\y<=1:=fun y hy=>by
  unfold lTo at hy
  obtain ⟨k,hk,hy⟩:=List.mem_flatMap.1 hy
  obtain ⟨x,rfl,hx⟩:=Ud.1 ((he.2 k).1 hk)
  have:=Ajw x hx
  have e0:nth [x] 0=x:=rfl
  rw [e0] at hy
  simp only [List.mem_cons,List.not_mem_nil,or_false] at hy
  omega
 obtain ⟨a,ha,hal⟩:=x_lo
 obtain ⟨b,hb,hbh⟩:=x_hi
 have h1:(-1:Int)∈lTo h:=by
  unfold lTo
  exact List.mem_flatMap.2 ⟨[a],(he.2 _).2 ha,by rw [<-hal];exact List.mem_cons_self⟩
 have h2:(1:Int)∈lTo h:=by
  unfold lTo
  exact List.mem_flatMap.2 ⟨[b],(he.2 _).2 hb,by rw [<-hbh];exact List.mem_cons_of_mem _ List.mem_cons_self⟩
 have h0:0<(lTo h).length:=List.length_pos_of_mem h1
 exact ⟨h0,Atx h0 h1 fun x hx=>(hm x hx).1,Aty h0 h2 fun x hx=>(hm x hx).2⟩
theorem Au0 (h:List (List Int)) (k:List Int):lTo (h++[k])=lTo h++[loX (nth k 0),hiX (nth k 0)]:=by
 unfold lTo
 rw [List.flatMap_append,List.flatMap_singleton]
theorem Au1 (h:List (List Int)):(lTo h).length=2*h.length:=by
 induction h with
 |nil=>rfl
 |cons k h ih=>unfold lTo at ih ⊢;rw [List.flatMap_cons,List.length_append,ih];simp;omega
theorem Au2 {Gl} (S:SP Gl) (a b:Int):CO Gl 293 [I a,I b] (.ret (B (decide (a<b)))):=by
 refine An S (.nil) Tryz.func293 (by kernel_rfl) (decide (a<b)=decide (a<b)) (by kernel_rfl) ?_
 exact rfl
theorem Au3 {Gl} (S:SP Gl) (a b:Int):CO Gl 294 [I a,I b] (.ret (B (decide (b<a)))):=by
 refine An S (.nil) Tryz.func294 (by kernel_rfl) (decide (b<a)=decide (b<a)) (by kernel_rfl) ?_
 exact rfl
theorem Au4 {Gl} (S:SP Gl) (l:List Int) (h:0<l.length):CO Gl 292 [L eI l,.fn 293 [] []] (.ret (I (Cd (fun x y:Int=>decide (x<y)) l))):=by
 refine Ao S (let A0:=(fun x y=>decide (x<y));let A1:=(l.length:Int);let A2:=(List.drop (1:Nat) l);((.loop (List.length l-(1:Nat)) (fun k=>[v 14 (I k),v 13 (I (A1-1)),v 12 (L eI A2),v 1 (T.fn (293:FuncId) [] []),v 5 (I (bestTo A0 l k))]) fun k0=>.br (.r (.ret (B (decide (nth (List.drop (1:Nat) l) k0<bestTo (fun x y=>decide (x<y)) l k0)))) (.br .nil .nil)) .nil),(((0:Int)<=0/\0<A1)/\((0:Int)<=1/\1<=A1/\A1<=A1)/\(Int.toNat (A1-1)<=maxLen->(0=(↑(0:Nat):Int)/\(↑(Int.toNat (A1-1)):Int)=A1-1/\(SEq (Int.toNat (A1-1)) (fun i=>eI (nth l (Int.toNat (1:Int)+i))) (List.length A2) fun i=>eI (nth A2 i))/\(293:Nat)=(293:Nat)/\nth l (Int.toNat (0:Int))=bestTo A0 l (0:Nat))/\∀ (k0:Nat),k0<=List.length l-(1:Nat)->(decide ((k0:Int)<(l.length:Int)-1)=true->(0<=(k0:Int)/\(k0:Int)<(↑(List.length A2):Int))/\CO Gl 293 [I (nth A2 k0),I (bestTo A0 l k0)] (.ret (B (decide (nth (List.drop (1:Nat) l) k0<bestTo (fun x y=>decide (x<y)) l k0))))/\(decide (nth (List.drop (1:Nat) l) k0<bestTo (fun x y=>decide (x<y)) l k0)=true->iR ((k0:Int)+1)/\k0<List.length l-(1:Nat)/\(k0:Int)+1=(↑(k0+1):Int)/\A1-1=A1-1/\(sR eI A2)/\(293:Nat)=(293:Nat)/\nth A2 k0=bestTo A0 l (k0+1))/\(decide (nth (List.drop (1:Nat) l) k0<bestTo (fun x y=>decide (x<y)) l k0)=false->iR ((k0:Int)+1)/\k0<List.length l-(1:Nat)/\(k0:Int)+1=(↑(k0+1):Int)/\A1-1=A1-1/\(sR eI A2)/\(293:Nat)=(293:Nat)/\bestTo A0 l k0=bestTo A0 l (k0+1)))/\(decide ((k0:Int)<(l.length:Int)-1)=false->bestTo A0 l k0=Cd A0 l))))) Tryz.func292 (by kernel_rfl) (by kernel_rfl) ?_
 simp only [stdS,imp_self,implies_true,and_true,decide_eq_true_eq,decide_eq_false_iff_not,Bi,Af]
 have hd:(l.drop 1).length=l.length - 1:=List.length_drop
 have hn:∀ k,nth (l.drop 1) k=nth l (k+1):=fun k=>by rw [Qh,Nat.add_comm]
 have hst:∀ k,bestTo (fun x y:Int=>decide (x<y)) l (k+1)=bif (fun x y:Int=>decide (x<y)) (nth l (k+1)) (bestTo (fun x y:Int=>decide (x<y)) l k) then nth l (k+1) else bestTo (fun x y:Int=>decide (x<y)) l k:=fun k=>rfl
 refine ⟨by omega,by omega,fun hm=>⟨⟨by omega,.of ⟨by omega,fun i _=>congrArg eI (Qh (l:=l) (i:=i) (k:=1)).symm⟩,rfl⟩,fun k hk=>⟨fun hl=>⟨by omega,Au2 S _ _,fun hb=>⟨by omega,by omega,by omega,?_⟩,fun hb=>⟨by omega,by omega,by omega,?_⟩⟩,fun hl=>?_⟩⟩⟩
 ·rw [hn] at hb ⊢
  rw [hst]
  show _=bif decide (nth l (k+1)<bestTo (fun x y:Int=>decide (x<y)) l k) then _ else _
  rw [decide_eq_true hb]
  rfl
 ·rw [hn] at hb
  rw [hst]
  show _=bif decide (nth l (k+1)<bestTo (fun x y:Int=>decide (x<y)) l k) then _ else _
  rw [decide_eq_false hb]
  rfl
 ·have:k=l.length - 1:=by omega
  subst this
  rfl
theorem Au5 {Gl} (S:SP Gl) (l:List Int) (h:0<l.length):CO Gl 292 [L eI l,.fn 294 [] []] (.ret (I (Cd (fun x y:Int=>decide (y<x)) l))):=by
 refine Ao S (let A0:=(fun x y=>decide (y<x));let A1:=(l.length:Int);let A2:=(List.drop (1:Nat) l);((.loop (List.length l-(1:Nat)) (fun k=>[v 14 (I k),v 13 (I (A1-1)),v 12 (L eI A2),v 1 (T.fn (294:FuncId) [] []),v 5 (I (bestTo A0 l k))]) fun k0=>.br (.r (.ret (B (decide (bestTo (fun x y=>decide (y<x)) l k0<nth (List.drop (1:Nat) l) k0)))) (.br .nil .nil)) .nil),(((0:Int)<=0/\0<A1)/\((0:Int)<=1/\1<=A1/\A1<=A1)/\(Int.toNat (A1-1)<=maxLen->(0=(↑(0:Nat):Int)/\(↑(Int.toNat (A1-1)):Int)=A1-1/\(SEq (Int.toNat (A1-1)) (fun i=>eI (nth l (Int.toNat (1:Int)+i))) (List.length A2) fun i=>eI (nth A2 i))/\(294:Nat)=(294:Nat)/\nth l (Int.toNat (0:Int))=bestTo A0 l (0:Nat))/\∀ (k0:Nat),k0<=List.length l-(1:Nat)->(decide ((k0:Int)<(l.length:Int)-1)=true->(0<=(k0:Int)/\(k0:Int)<(↑(List.length A2):Int))/\CO Gl 294 [I (nth A2 k0),I (bestTo A0 l k0)] (.ret (B (decide (bestTo (fun x y=>decide (y<x)) l k0<nth (List.drop (1:Nat) l) k0))))/\(decide (bestTo (fun x y=>decide (y<x)) l k0<nth (List.drop (1:Nat) l) k0)=true->iR ((k0:Int)+1)/\k0<List.length l-(1:Nat)/\(k0:Int)+1=(↑(k0+1):Int)/\A1-1=A1-1/\(sR eI A2)/\(294:Nat)=(294:Nat)/\nth A2 k0=bestTo A0 l (k0+1))/\(decide (bestTo (fun x y=>decide (y<x)) l k0<nth (List.drop (1:Nat) l) k0)=false->iR ((k0:Int)+1)/\k0<List.length l-(1:Nat)/\(k0:Int)+1=(↑(k0+1):Int)/\A1-1=A1-1/\(sR eI A2)/\(294:Nat)=(294:Nat)/\bestTo A0 l k0=bestTo A0 l (k0+1)))/\(decide ((k0:Int)<(l.length:Int)-1)=false->bestTo A0 l k0=Cd A0 l))))) Tryz.func292 (by kernel_rfl) (by kernel_rfl) ?_
 simp only [stdS,imp_self,implies_true,and_true,decide_eq_true_eq,decide_eq_false_iff_not,Bi,Af]
 have hd:(l.drop 1).length=l.length - 1:=List.length_drop
 have hn:∀ k,nth (l.drop 1) k=nth l (k+1):=fun k=>by rw [Qh,Nat.add_comm]
 have hst:∀ k,bestTo (fun x y:Int=>decide (y<x)) l (k+1)=bif (fun x y:Int=>decide (y<x)) (nth l (k+1)) (bestTo (fun x y:Int=>decide (y<x)) l k) then nth l (k+1) else bestTo (fun x y:Int=>decide (y<x)) l k:=fun k=>rfl
 refine ⟨by omega,by omega,fun hm=>⟨⟨by omega,.of ⟨by omega,fun i _=>congrArg eI (Qh (l:=l) (i:=i) (k:=1)).symm⟩,rfl⟩,fun k hk=>⟨fun hl=>⟨by omega,Au3 S _ _,fun hb=>⟨by omega,by omega,by omega,?_⟩,fun hb=>⟨by omega,by omega,by omega,?_⟩⟩,fun hl=>?_⟩⟩⟩
 ·rw [hn] at hb ⊢
  rw [hst]
  show _=bif decide (bestTo (fun x y:Int=>decide (y<x)) l k<nth l (k+1)) then _ else _
  rw [decide_eq_true hb]
  rfl
 ·rw [hn] at hb
  rw [hst]
  show _=bif decide (bestTo (fun x y:Int=>decide (y<x)) l k<nth l (k+1)) then _ else _
  rw [decide_eq_false hb]
  rfl
 ·have:k=l.length - 1:=by omega
  subst this
  rfl
theorem Au6 {Gl} (S:SP Gl) (l:List Int) (h:0<l.length):CO Gl 185 [L eI l] (.ret (.d (.agg [Ci (Cd (fun x y:Int=>decide (x<y)) l),Ci (Cd (fun x y:Int=>decide (y<x)) l)]))):=by
 refine Ao S (let A0:=(fun x y=>decide (x<y));let A1:=(fun x y=>decide (y<x));((.r (.ret (I (Cd A0 l))) (.r (.ret (I (Cd A1 l))) .nil)),(CO Gl 292 [L eI l,T.fn (293:FuncId) [] []] (.ret (I (Cd A0 l)))/\CO Gl 292 [L eI l,T.fn (294:FuncId) [] []] (.ret (I (Cd A1 l)))/\Cd A0 l=Cd A0 l/\Cd A1 l=Cd A1 l))) Tryz.func185 (by kernel_rfl) (by kernel_rfl) ?_
 dsimp only
 exact ⟨Au4 S l h,Au5 S l h,rfl,rfl⟩
theorem Au7 {Gl} (S:SP Gl) (x:Int) (hx:sDk 3 x=true):CO Gl 95 [.d (.agg (cRT exR 1)),I x,.d (.agg (Ad (sVk 3 x)))] (.ret (.tup [.c (Ci (loX x)),.c (Ci (hiX x))])):=by
 refine An S (.r (.ret (I (fig x))) (.r (.ret (I (fig x))) .nil)) Tryz.func95 (by kernel_rfl) (CO Gl 96 [T.d (D.agg (cRT exR (1:Int))),I x] (.ret (I (fig x)))/\iR ((sVk (3:Nat) x).1-fig x)/\CO Gl 96 [T.d (D.agg (cRT exR (1:Int))),I x] (.ret (I (fig x)))/\iR ((sVk (3:Nat) x).2-fig x)/\(sVk (3:Nat) x).1-fig x=loX x/\(sVk (3:Nat) x).2-fig x=hiX x) (by kernel_rfl) ?_
 have h1:=Uf (Nat.le_refl 3) hx
 have h2:=Adw (Nat.le_refl 3) x
 have h3:=Ajw x hx
 unfold spB at h2
 unfold loX hiX at h3
 have hf:=Ajm S x (by omega)
 simp only [Af]
 exact ⟨hf,by omega,hf,by omega,rfl,rfl⟩
theorem Au8 {Gl} (S:SP Gl)  :CO Gl 94 [tRS exR,I 1,.fn 95 [] []] (.ret (.tup [.agg [Ci (-1),Ci 1],.c (Ci 0)])):=by
 refine Ao S (let A0:=(MEq (kD (sDk (3:Nat))) (fun key=>Ad (sVk (3:Nat) (nth key 0))) (kD (sDk (3:Nat))) fun key=>Ad (sVk (3:Nat) (nth key 0)));let A1:=(cRT exR (1:Int));((.r (.ret (.tup [D.agg A1,D.c (Ci 0)])) (.ff (.r (.ret (T.d (D.c (mS (3:Nat))))) (.lg Je (27:Nat) (fun h=>v 2 (T.fn (95:FuncId) [] [])::v 6 (ad 6)::v 8 (ad 8)::v 27 (T.it (27:Nat))::tk 100 3::v 10 (Lt 100 eI (lTo h))::((2:Nat),(27:Nat),T.mitc (0:Nat) true (kD (sDk (3:Nat))) (fun key=>Ad (sVk (3:Nat) (nth key 0))) h none)::(bx 8 A1++bx 6 [Ci 0,Ci 0])) fun h0=>.each (fun key=>.tt (.r (.ret (.tup [D.c (Ci (loX (nth key 0))),D.c (Ci (hiX (nth key 0)))])) .nil)) (.ff (.r (.ret (T.d (D.agg [Ci (Cd (fun x y=>decide (x<y)) (lTo h0)),Ci (Cd (fun x y=>decide (y<x)) (lTo h0))]))) .nil)))))),(CO Gl 183 [tRS exR,I 1] (.ret (.tup [D.agg A1,D.c (Ci 0)]))/\false=false/\CO Gl 184 [T.d (D.agg A1),I 0] (.ret (T.d (D.c (mS (3:Nat)))))/\((95:Nat)=(95:Nat)/\(0:Nat)=(0:Nat)/\A0/\([]:List (List Int))=[]/\(10:Int)=10/\(3:Int)=3/\(SEq (3:Nat) (fun i=>eI (nth [(4:Int),(1:Int),(0:Int)] i)) (List.length [(4:Int),(1:Int),(0:Int)]) fun i=>eI (nth [(4:Int),(1:Int),(0:Int)] i))/\(SEq (3:Nat) (fun i=>eI (nth [(13:Int),(26:Int),(44:Int)] i)) (List.length [(13:Int),(26:Int),(44:Int)]) fun i=>eI (nth [(13:Int),(26:Int),(44:Int)] i))/\(1:Int)=1/\(0:Int)=0/\(0:Int)=0)/\∀ (h0:List (List Int)),List.Nodup h0->(∀ (x:List Int),x∈h0->x∈Je)->(∀ (key:List Int),Us (kD (sDk (3:Nat))) h0 key->true=true/\CO Gl 95 [T.d (D.agg A1),I (nth key 0),T.d (D.agg (Ad (sVk (3:Nat) (nth key 0))))] (.ret (.tup [D.c (Ci (loX (nth key 0))),D.c (Ci (hiX (nth key 0)))]))/\(List.length (lTo h0)+2)*8<=140737488355328/\List.length (lTo h0)+2<=140737488355328/\Rw Je h0 (h0++[key])/\(95:Nat)=(95:Nat)/\(SEq (List.length (lTo h0)+2) (Ar (List.length (lTo h0)) (fun i=>eI (nth (lTo h0) i)) fun i=>List.getD [List.map C.dem [C.v (Value.int IntKind.i64 (loX (nth key 0)))],List.map C.dem [C.v (Value.int IntKind.i64 (hiX (nth key 0)))]] i []) (List.length (lTo (h0++[key]))) fun i=>eI (nth (lTo (h0++[key])) i))/\A0/\h0++[key]=h0++[key]/\(10:Int)=10/\(3:Int)=3/\(sR eI [(4:Int),(1:Int),(0:Int)])/\(sR eI [(13:Int),(26:Int),(44:Int)])/\(1:Int)=1/\(0:Int)=0/\(0:Int)=0)/\(Rc (kD (sDk (3:Nat))) h0->false=false/\CO Gl 185 [L eI (lTo h0)] (.ret (T.d (D.agg [Ci (Cd (fun x y=>decide (x<y)) (lTo h0)),Ci (Cd (fun x y=>decide (y<x)) (lTo h0))])))/\Cd (fun x y=>decide (x<y)) (lTo h0)=(-1:Int)/\Cd (fun x y=>decide (y<x)) (lTo h0)=(1:Int)/\(0:Int)=0)))) Tryz.func94 (by kernel_rfl) (by kernel_rfl) ?_
 have hme:MEq (kD (sDk 3)) (fun key=>Ad (sVk 3 (nth key 0))) (kD (sDk 3)) (fun key=>Ad (sVk 3 (nth key 0))):=fun key=>⟨rfl,fun _=>.inl rfl⟩
 simp only [stdS,imp_self,implies_true,and_true,Af,Bi]
 refine ⟨Ato S,Atw S,⟨hme,.of ⟨rfl,fun _ _=>rfl⟩,.of ⟨rfl,fun _ _=>rfl⟩,trivial⟩,fun h hnd hsub=>⟨fun key hnew=>?_,fun hen=>?_⟩⟩
 ·obtain ⟨z,rfl,hz,hnz⟩:=newK hnew
  have hz1:=Uf (Nat.le_refl 3) hz
  have hm1:=Ajt hnd hsub hnz (by omega)
  have hl:=Au1 h
  have hh:h.length<=300:=by
   have:=Ah0 hnd hsub
   unfold Je at this
   rwa [List.length_map,List.length_range] at this
  exact ⟨Au7 S z hz,by omega,by omega,hm1,Ad2 (f:=eI) (Au0 h [z]) rfl,hme,trivial⟩
 ·obtain ⟨h0,h1,h2⟩:=Atz hen
  exact ⟨Au6 S _ h0,h1,h2,trivial⟩
theorem Au9 {Gl} (S:SP Gl)  :CO Gl 32 [tRS exR,I 1] (.ret (.tup [.agg [Ci (-1),Ci 1],.c (Ci 0)])):=by
 refine An S (.r (.ret (.tup [D.agg [Ci (-1:Int),Ci 1],D.c (Ci 0)])) .nil) Tryz.func32 (by kernel_rfl) (CO Gl 94 [tRS exR,I 1,T.fn (95:FuncId) [] []] (.ret (.tup [D.agg [Ci (-1:Int),Ci 1],D.c (Ci 0)]))/\(-1:Int)=(-1:Int)/\(1:Int)=1/\(0:Int)=0) (by kernel_rfl) ?_
 exact ⟨Au8 S,rfl,rfl,rfl⟩
set_option maxRecDepth 100000
def Ug (l:List Int) (i:Nat):List C:=(l.map fun x=>List.map C.dem [C.v (Value.int IntKind.i64 x)]).getD i []
theorem litE (l:List Int):Vf l.length (Ug l) l.length (fun i=>eI (nth l i)):=⟨rfl,fun i hi=>by
 show Ug l i=eI (nth l i)
 unfold Ug
 rw [List.getD_eq_getElem?_getD,List.getElem?_map,Ex hi,List.getElem?_eq_getElem hi]
 rfl⟩
theorem Og (l:List Int):SEq l.length (Ug l) l.length (fun i=>eI (nth l i)):=.of (litE l)
theorem litC (g:Tag) (l:List Int):Hh (List.map C.dem [C.s g l.length (Ug l)]) (Au l):=⟨.inr (.inr ⟨_,_,_,_,_,_,rfl,rfl,litE l⟩),trivial⟩
def exA:Sheet:=⟨[[123,45,-60,7],[132,45,60,7]],[1,1]⟩
theorem Aua:exA.ok=true:=by decide +kernel
theorem Ajx:0<(Ae exA).length/\Tm (Ae exA)=[123,45,60,7]:=by decide +kernel
theorem Aub {Gl} (S:SP Gl):CO Gl 17 [Dr exA] (.ret (.tup [.c (.l eI [123,45,60,7]),.c (Ci 0)])):=by
 have h1:=Ate S exA Aua Ajx.1
 rw [Ajx.2] at h1
 exact h1
theorem kSame {Gl} (S:SP Gl) (f:Nat->List C) (h:SEq 4 f [(123:Int),45,60,7].length fun i=>eI (nth [(123:Int),45,60,7] i)):CO Gl 20 [L eI [123,45,60,7],.d (.c (.s .n 4 f))] (.ret (B true)):=by
 have h1:=Aqj S [123,45,60,7] [123,45,60,7]
 rw [show sameL (·==·) [(123:Int),45,60,7] [123,45,60,7]=true from by decide] at h1
 exact h1.args ⟨(Ahq _ _).2 trivial,h⟩
theorem Auc {Gl} (S:SP Gl)  :CO Gl 31 [] (.ret (Dr exA)):=by
 refine Ao S (let A0:=[[(123:Int),(45:Int),(-60:Int),(7:Int)],[(132:Int),(45:Int),(60:Int),(7:Int)]];((.nil),((SEq (2:Nat) (fun i=>List.getD [List.map C.dem [C.s (Tag.t (1:Nat)) (4:Nat) fun i=>List.getD [List.map C.dem [C.v (Value.int IntKind.i64 (123:Int))],List.map C.dem [C.v (Value.int IntKind.i64 (45:Int))],List.map C.dem [C.v (Value.int IntKind.i64 (-60:Int))],List.map C.dem [C.v (Value.int IntKind.i64 (7:Int))]] i []],List.map C.dem [C.s (Tag.t (2:Nat)) (4:Nat) fun i=>List.getD [List.map C.dem [C.v (Value.int IntKind.i64 (132:Int))],List.map C.dem [C.v (Value.int IntKind.i64 (45:Int))],List.map C.dem [C.v (Value.int IntKind.i64 (60:Int))],List.map C.dem [C.v (Value.int IntKind.i64 (7:Int))]] i []]] i []) (List.length A0) fun i=>Au (nth A0 i))/\SEq (2:Nat) (fun i=>List.getD [List.map C.dem [C.v (Value.int IntKind.i64 (1:Int))],List.map C.dem [C.v (Value.int IntKind.i64 (1:Int))]] i []) (List.length [(1:Int),(1:Int)]) fun i=>eI (nth [(1:Int),(1:Int)] i)))) Tryz.func31 (by kernel_rfl) (by kernel_rfl) ?_
 dsimp only
 refine ⟨⟨rfl,fun i hi=>?_⟩,Og [1,1]⟩
 match i,hi with
 |0,_=>exact .inr (litC (.t 1) [123,45,-60,7])
 |1,_=>exact .inr (litC (.t 2) [132,45,60,7])
theorem Uh {Gl} (S:SP Gl)  :CO Gl 7 [] (.ret (B true)):=by
 refine Ao S (let A0:=[D.c (C.l eI [(123:Int),(45:Int),(60:Int),(7:Int)]),D.c (Ci 0)];((.r (.ret (Dr exA)) (.r (.ret (.tup A0)) (.r (.ret (tRS exR)) (.r (.ret (.tup [D.agg [Ci (-1:Int),Ci 1],D.c (Ci 0)])) (.sure 18 (.sure 19 (.sure 20 (.r (.ret (B true)) (.sure 23 (.sure 24 (.sure 27 (.sure 28 (.sure 29 .nil))))))))))))),(CO Gl 31 [] (.ret (Dr exA))/\CO Gl 17 [Dr exA] (.ret (.tup A0))/\CO Gl 33 [] (.ret (tRS exR))/\CO Gl 32 [tRS exR,I 1] (.ret (.tup [D.agg [Ci (-1:Int),Ci 1],D.c (Ci 0)]))/\true=true/\true=true/\true=true/\CO Gl 20 [L eI [(123:Int),(45:Int),(60:Int),(7:Int)],T.d (D.c (C.s Tag.n (4:Nat) fun i=>List.getD [List.map C.dem [C.v (Value.int IntKind.i64 (123:Int))],List.map C.dem [C.v (Value.int IntKind.i64 (45:Int))],List.map C.dem [C.v (Value.int IntKind.i64 (60:Int))],List.map C.dem [C.v (Value.int IntKind.i64 (7:Int))]] i []))] (.ret (B true))/\true=true/\true=true/\true=true/\true=true/\true=true/\true=true))) Tryz.func7 (by kernel_rfl) (by kernel_rfl) ?_
 simp only [stdS,imp_self,implies_true,and_true]
 exact ⟨Auc S,Aub S,Atm S,Au9 S,kSame S _ (Og [123,45,60,7]),trivial⟩
def stV:List Span:=[⟨0,0⟩,⟨10,10⟩,⟨40,40⟩,⟨90,91⟩,⟨160,160⟩,⟨250,250⟩,⟨360,360⟩]
theorem mul_rng {x y:Int} (h1:0<=x/\x<=361) (h2:0<=y/\y<=6):0<=x*y/\x*y<=2166:=
 ⟨Int.mul_nonneg h1.1 h2.1,Int.le_trans (Int.mul_le_mul h1.2 h2.2 h2.1 (by decide)) (by decide)⟩
def figS (p q a b r:Int):Int:=flo (2*(a*(q - r)+b*(r - p))+(q - p)) (2*(q - p))
def endS (r:Nat) (w:Nat):Int:=match w with
 |0=>(nth stV r).lo
 |_=>(nth stV r).hi
def offS (p q r:Nat):Int:=max (figS p q (endS p 1) (endS q 1) r - endS r 0) (endS r 1 - figS p q (endS p 0) (endS q 0) r)
def stTo (p q:Nat):Nat->Bool
 |0=>true
 |k+1=>bif decide (10<offS p q (p+1+k)) then false else stTo p q k
def stB (p q:Nat):Bool:=stTo p q (q - p - 1)
theorem Ui {i n:Nat} (h:n<=i):Nat.blt i n=false:=by
 cases hb:Nat.blt i n with
 |false=>rfl
 |true=>have:=Bg hb;omega
structure Cp where
 par:Int
 seen:List Int
instance:Inhabited Cp:=⟨⟨0,[]⟩⟩
def eCp (c:Cp):List C:=[Ci c.par,.l eI c.seen]
def cTr (pl:Int) (cs:List Cp):List C:=[Ci pl,.l eCp cs]
abbrev tTr (pl:Int) (cs:List Cp):T:=.d (.agg (cTr pl cs))
def okFig (n:Int):Bool:=!(n != -1&&!inR n 0 9)
def Lm (pl:Int) (cs:List Cp) (i:Nat):Bool:=inR (nth cs i).par 0 (max 0 ((i:Int) - 1))&&(((nth cs i).seen.length:Int)==pl&&(nth cs i).seen.all okFig)
def Dx (pl:Int) (cs:List Cp):Bool:=inR pl 1 3&&(inR cs.length 1 8&&(List.range cs.length).all (Lm pl cs))
theorem Yu {Gl} (S:SP Gl) (x lo hi:Int):CO Gl 208 [I x,I lo,I hi] (.ret (B (inR x lo hi))):=by
 refine An S (.nil) Tryz.func208 (by kernel_rfl) ((eqB (decide (lo<=x)) true=true->eqB (decide (lo<=x)) true=true)/\(eqB (decide (lo<=x)) true=true->eqB (decide (lo<=x)) true=true)/\(decide (lo<=x)=true->eqB (decide (lo<=x)) true=true)/\(bif decide (lo<=x) then decide (x<=hi) else false)=inR x lo hi) (by kernel_rfl) ?_
 simp only [stdS,imp_self,implies_true,and_true,inR]
theorem Aud {Gl} (S:SP Gl) (x:Int):CO Gl 210 [I x] (.ret (B (inR x 0 9))):=by
 refine An S (.r (.ret (B (inR x (0:Int) (9:Int)))) .nil) Tryz.func210 (by kernel_rfl) (CO Gl 208 [I x,I 0,I 9] (.ret (B (inR x (0:Int) (9:Int))))/\inR x (0:Int) (9:Int)=inR x (0:Int) (9:Int)) (by kernel_rfl) ?_
 exact ⟨Yu S _ _ _,rfl⟩
theorem Aue {Gl} (S:SP Gl) (x:Int):CO Gl 209 [I x] (.ret (B (x != -1&&!inR x 0 9))):=by
 refine Ao S (let A0:=(x != (-1:Int));((.r (.ret (B (inR x (0:Int) (9:Int)))) .nil),((eqB A0 true=true->eqB A0 true=true)/\(eqB A0 true=true->CO Gl 210 [I x] (.ret (B (inR x (0:Int) (9:Int)))))/\(eqB A0 true=true->eqB A0 true=true)/\(A0=true->eqB A0 true=true)/\(bif x != (-1:Int) then !inR x (0:Int) (9:Int) else false)=(x != (-1:Int)&&!inR x (0:Int) (9:Int))))) Tryz.func209 (by kernel_rfl) (by kernel_rfl) ?_
 simp only [stdS,imp_self,implies_true,and_true]
 exact ⟨fun _=>Aud S x,trivial⟩
theorem Ajy (pl:Int) (cs:List Cp) (k:Nat):Lm pl cs k=!((!inR (nth cs k).par 0 (max 0 ((k:Int) - 1))||((nth cs k).seen.length:Int) != pl)||!(nth cs k).seen.all fun x=>!(x != -1&&!inR x 0 9)):=by
 show (inR (nth cs k).par 0 (max 0 ((k:Int) - 1))&&(((nth cs k).seen.length:Int)==pl&&(nth cs k).seen.all fun x=>!(x != -1&&!inR x 0 9)))=_
 unfold bne
 generalize inR (nth cs k).par 0 (max 0 ((k:Int) - 1))=a
 generalize (((nth cs k).seen.length:Int)==pl)=b
 generalize (nth cs k).seen.all _=c
 cases a<;>cases b<;>cases c<;>rfl
theorem Auf {Gl} (S:SP Gl) (pl:Int) (cs:List Cp):CO Gl 121 [tTr pl cs] (.ret (B (Dx pl cs))):=by
 refine Ao S (let A0:=fun (k0:Nat)=>(bif !inR (nth cs k0).1 (0:Int) (max (0:Int) ((k0:Int)-1)) then true else (↑(List.length (nth cs k0).2):Int) != pl);let A1:=fun (k0:Nat)=>(!inR (nth cs k0).1 (0:Int) (max (0:Int) ((k0:Int)-1)));let A2:=(eqB (!inR pl (1:Int) (3:Int)) false=true->eqB (!inR pl (1:Int) (3:Int)) false=true);let A3:=fun (k0:Nat)=>(bif bif !inR (nth cs k0).1 (0:Int) (max (0:Int) ((k0:Int)-1)) then true else (↑(List.length (nth cs k0).2):Int) != pl then true else !List.all (nth cs k0).2 fun x=>!(x != (-1:Int)&&!inR x (0:Int) (9:Int)));let A4:=fun (k0:Nat)=>(eqB (A1 k0) false=true->eqB (A1 k0) false=true);let A5:=(cs.length:Int);let A6:=(bif !inR pl (1:Int) (3:Int) then true else !inR A5 (1:Int) (8:Int));let A7:=(!inR pl (1:Int) (3:Int));let A8:=fun (k0:Nat)=>(B !List.all (Cp.seen (nth cs k0)) fun x=>!(x != (-1:Int)&&!inR x (0:Int) (9:Int)));((.r (.ret (B (inR pl (1:Int) (3:Int)))) (.r (.ret (B (inR A5 (1:Int) (8:Int)))) (.br .nil (.loop (Bm (Lm pl cs) (List.range cs.length)) (fun k=>v 19 (I k)::v 18 (I cs.length)::v 17 (L eCp cs)::v 1 (ad 1)::bx 1 (cTr pl cs)) fun k0=>.br (.r (.ret (B (inR (nth cs k0).1 (0:Int) (max (0:Int) ((k0:Int)-1))))) (.r (.ret (A8 k0)) (.br .nil .nil))) .nil)))),(CO Gl 208 [I pl,I 1,I 3] (.ret (B (inR pl (1:Int) (3:Int))))/\A2/\A2/\((eqB A7 false=true->cs.length<=maxLen)->A2/\(eqB A7 false=true->CO Gl 208 [I cs.length,I 1,I 8] (.ret (B (inR A5 (1:Int) (8:Int)))))/\A2/\(A7=false->eqB A7 false=true)/\(A6=true->false=Dx pl cs)/\(A6=false->cs.length<=maxLen->(0=(↑(0:Nat):Int)/\A5=A5/\(sR eCp cs)/\pl=pl/\sR eCp cs)/\∀ (k0:Nat),k0<=Bm (Lm pl cs) (List.range cs.length)->(decide ((k0:Int)<(cs.length:Int))=true->(0<=(k0:Int)/\(k0:Int)<A5)/\iR ((k0:Int)-1)/\CO Gl 208 [I (nth cs k0).1,I 0,I (max (0:Int) ((k0:Int)-1))] (.ret (B (inR (nth cs k0).1 (0:Int) (max (0:Int) ((k0:Int)-1)))))/\(A4 k0)/\(A4 k0)/\((eqB (A1 k0) false=true->List.length (nth cs k0).2<=maxLen)->(A4 k0)/\(A4 k0)/\(A4 k0)/\((A1 k0)=false->eqB (A1 k0) false=true)/\(eqB (A0 k0) false=true->eqB (A0 k0) false=true)/\(eqB (A0 k0) false=true->eqB (A0 k0) false=true)/\(eqB (A0 k0) false=true->CO Gl 102 [L eI (Cp.seen (nth cs k0)),T.fn (209:FuncId) [] []] (.ret (A8 k0)))/\((A0 k0)=false->eqB (A0 k0) false=true)/\((A3 k0)=true->false=Dx pl cs)/\((A3 k0)=false->iR ((k0:Int)+1)/\k0<Bm (Lm pl cs) (List.range cs.length)/\(k0:Int)+1=(↑(k0+1):Int)/\A5=A5/\(sR eCp cs)/\pl=pl/\sR eCp cs)))/\(decide ((k0:Int)<(cs.length:Int))=false->true=Dx pl cs)))))) Tryz.func121 (by kernel_rfl) (by kernel_rfl) ?_
 simp only [stdS,imp_self,implies_true,and_true,Af,Bi]
 have hw:(List.range cs.length).length=cs.length:=List.length_range
 refine ⟨Yu S _ _ _,fun hm=>⟨fun _=>Yu S _ _ _,fun h=>?_,fun h hm2 k hk=>⟨fun hd=>?_,fun hd=>?_⟩⟩⟩
 ·unfold Dx
  cases h1:inR pl 1 3<;>cases h2:inR cs.length 1 8<;>rw [h1,h2] at h<;>first|rfl|cases h
 ·have hlt:=of_decide_eq_true hd
  refine ⟨by omega,by omega,Yu S _ _ _,fun hm3=>⟨fun _=>Ti S _ 209 _ fun j _=>Aue S _,fun hb=>?_,fun hb=>⟨by omega,?_,by omega,trivial⟩⟩⟩
  ·have hx:Lm pl cs k=false:=by rw [Ajy,hb];rfl
   have:=Qi (p:=Lm pl cs) (l:=List.range cs.length) (k:=k) (by omega) (by rw [Cr (by omega)];exact hx)
   unfold Dx
   rw [this,Bool.and_false,Bool.and_false]
  ·exact Id hk (by omega) (by rw [Cr (by omega),Ajy,hb];rfl)
 ·have hlt:¬ k<cs.length:=by have:=of_decide_eq_false hd;omega
  have:=Lh (p:=Lm pl cs) (l:=List.range cs.length) (by omega)
  unfold Dx
  rw [this]
  cases h1:inR pl 1 3<;>cases h2:inR cs.length 1 8<;>rw [h1,h2] at h<;>first|rfl|cases h
abbrev DS:=List Int->Bool
def Hu:List Cp:=[⟨0,[4,7]⟩,⟨0,[-1,-1]⟩,⟨1,[4,1]⟩,⟨1,[4,1]⟩,⟨0,[-1,7]⟩,⟨4,[8,7]⟩]
theorem cp2 (p a b:Int):Hh (List.map C.dem (List.map C.dem [C.v (.int .i64 p),C.s Tag.n 2 fun i=>[List.map C.dem [C.v (.int .i64 a)],List.map C.dem [C.v (.int .i64 b)]].getD i []])) (eCp ⟨p,[a,b]⟩):=
 ⟨.inl rfl,.inr (.inr ⟨.n,2,_,.n,2,_,rfl,rfl,rfl,fun i hi=>by match i,hi with|0,_=>rfl|1,_=>rfl⟩),trivial⟩
theorem Aug {Gl} (S:SP Gl)  :CO Gl 51 [] (.ret (tTr 2 Hu)):=by
 refine Ao S (let A0:=(List.map C.dem [C.v (Value.int IntKind.i64 (1:Int)),C.s Tag.n (2:Nat) fun i=>List.getD [List.map C.dem [C.v (Value.int IntKind.i64 (4:Int))],List.map C.dem [C.v (Value.int IntKind.i64 (1:Int))]] i []]);let A1:=[C.v (Value.int IntKind.i64 (-1:Int))];let A2:=[C.v (Value.int IntKind.i64 (7:Int))];let A3:=(Value.int IntKind.i64 (0:Int));((.nil),((2:Int)=2/\SEq (6:Nat) (fun i=>List.getD [List.map C.dem (List.map C.dem [C.v A3,C.s Tag.n (2:Nat) fun i=>List.getD [List.map C.dem [C.v (Value.int IntKind.i64 (4:Int))],List.map C.dem A2] i []]),List.map C.dem (List.map C.dem [C.v A3,C.s Tag.n (2:Nat) fun i=>List.getD [List.map C.dem A1,List.map C.dem A1] i []]),List.map C.dem A0,List.map C.dem A0,List.map C.dem (List.map C.dem [C.v A3,C.s Tag.n (2:Nat) fun i=>List.getD [List.map C.dem A1,List.map C.dem A2] i []]),List.map C.dem (List.map C.dem [C.v (Value.int IntKind.i64 (4:Int)),C.s Tag.n (2:Nat) fun i=>List.getD [List.map C.dem [C.v (Value.int IntKind.i64 (8:Int))],List.map C.dem A2] i []])] i []) Hu.length fun i=>eCp (nth Hu i)))) Tryz.func51 (by kernel_rfl) (by kernel_rfl) ?_
 dsimp only
 exact ⟨rfl,rfl,fun i hi=>.inr (by
  match i,hi with|0,_=>exact cp2 _ _ _|1,_=>exact cp2 _ _ _|2,_=>exact cp2 _ _ _|3,_=>exact cp2 _ _ _|4,_=>exact cp2 _ _ _|5,_=>exact cp2 _ _ _)⟩
end Go.Vc.Zn
namespace Go.Vc.Zn.Gv
open Go Go.Proofs Go.Vc Go.RowKit
def Yv (s:Span):T:=.d (.agg (Ad s))
structure Comp where
 room:Int
 post:Span
 sheet:Span
 look:Span
structure Book where
 comps:List Comp
 dues:List Int
 sheets:List Int
structure Task where
 one:Int
 other:Int
 third:Int
structure Truth where
 post:List Int
 sheet:List Int
 look:List Int
instance:Inhabited Comp:=⟨⟨0,default,default,default⟩⟩
instance:Inhabited Task:=⟨⟨0,0,0⟩⟩
instance:Inhabited Book:=⟨⟨[],[],[]⟩⟩
instance:Inhabited Truth:=⟨⟨[],[],[]⟩⟩
def eComp (c:Comp):List C:=[Ci c.room,Ci c.post.lo,Ci c.post.hi,Ci c.sheet.lo,Ci c.sheet.hi,Ci c.look.lo,Ci c.look.hi]
def eTask (t:Task):List C:=[Ci t.one,Ci t.other,Ci t.third]
def cBook (b:Book):List C:=[.l eComp b.comps,.l eI b.dues,.l eI b.sheets]
def Ady (t:Truth):List C:=[.l eI t.post,.l eI t.sheet,.l eI t.look]
def Yw (c:Comp):T:=.d (.agg (eComp c))
def Uj (t:Task):T:=.d (.agg (eTask t))
def tBook (b:Book):T:=.d (.agg (cBook b))
def Ij (t:Truth):T:=.d (.agg (Ady t))
def _root_.Go.Vc.Zn.Span.isIn (s:Span) (lo hi:Int):Bool:=inR s.lo lo hi&&inR s.hi s.lo hi
def Comp.fine (c:Comp):Bool:=inR c.room 0 2&&(c.post.isIn 0 5&&(c.sheet.isIn 1 5&&c.look.isIn 1 3))
def hand (t:Task) (c:Int):Bool:=t.one==c||t.other==c
def Book.isComp (b:Book) (n:Int):Bool:=inR n 0 ((b.comps.length:Int) - 1)
def Book.isTable (b:Book) (n:Int):Bool:=inR n 0 ((b.dues.length:Int) - 1)
theorem Qq {Gl} (S:SP Gl) (x lo hi:Int):CO Gl 257 [I x,I lo,I hi] (.ret (B (inR x lo hi))):=by
 refine An S (.nil) Tryz.func257 (by kernel_rfl) ((eqB (decide (lo<=x)) true=true->eqB (decide (lo<=x)) true=true)/\(eqB (decide (lo<=x)) true=true->eqB (decide (lo<=x)) true=true)/\(decide (lo<=x)=true->eqB (decide (lo<=x)) true=true)/\(bif decide (lo<=x) then decide (x<=hi) else false)=inR x lo hi) (by kernel_rfl) ?_
 simp only [stdS,imp_self,implies_true,and_true,inR]
theorem Auh {Gl} (S:SP Gl) (s:Span) (lo hi:Int):CO Gl 258 [Yv s,I lo,I hi] (.ret (B (s.isIn lo hi))):=by
 refine Ao S (let A0:=(eqB (inR s.1 lo hi) true=true->eqB (inR s.1 lo hi) true=true);((.r (.ret (B (inR s.1 lo hi))) (.r (.ret (B (inR s.2 s.1 hi))) .nil)),(CO Gl 257 [I s.1,I lo,I hi] (.ret (B (inR s.1 lo hi)))/\A0/\A0/\A0/\A0/\A0/\(eqB (inR s.1 lo hi) true=true->CO Gl 257 [I s.2,I s.1,I hi] (.ret (B (inR s.2 s.1 hi))))/\(inR s.1 lo hi=true->eqB (inR s.1 lo hi) true=true)/\(bif inR s.1 lo hi then inR s.2 s.1 hi else false)=Span.isIn s lo hi))) Tryz.func258 (by kernel_rfl) (by kernel_rfl) ?_
 simp only [stdS,imp_self,implies_true,and_true,Qq S,Span.isIn]
theorem Aui {Gl} (S:SP Gl) (c:Comp):CO Gl 256 [Yw c] (.ret (B (!c.fine))):=by
 refine Ao S (let A0:=(bif bif !inR c.1 (0:Int) (2:Int) then true else !Span.isIn (Span.mk c.2.1 c.2.2) (0:Int) (5:Int) then true else !Span.isIn (Span.mk c.3.1 c.3.2) (1:Int) (5:Int));let A1:=(bif !inR c.1 (0:Int) (2:Int) then true else !Span.isIn (Span.mk c.2.1 c.2.2) (0:Int) (5:Int));let A2:=(!inR c.1 (0:Int) (2:Int));let A3:=(eqB A2 false=true->eqB A2 false=true);let A4:=(eqB A1 false=true->eqB A1 false=true);let A5:=(eqB A0 false=true->eqB A0 false=true);let A6:=(Span.mk c.2.1 c.2.2);let A7:=(Span.mk c.3.1 c.3.2);let A8:=(Span.mk c.4.1 c.4.2);((.r (.ret (B (inR c.1 (0:Int) (2:Int)))) (.r (.ret (B (Span.isIn A6 (0:Int) (5:Int)))) (.r (.ret (B (Span.isIn A7 (1:Int) (5:Int)))) (.r (.ret (B (Span.isIn A8 (1:Int) (3:Int)))) .nil)))),(CO Gl 257 [I c.1,I 0,I 2] (.ret (B (inR c.1 (0:Int) (2:Int))))/\A3/\A3/\(eqB A2 false=true->CO Gl 258 [Yv A6,I 0,I 5] (.ret (B (Span.isIn A6 (0:Int) (5:Int)))))/\A3/\(A2=false->eqB A2 false=true)/\A4/\A4/\(eqB A1 false=true->CO Gl 258 [Yv A7,I 1,I 5] (.ret (B (Span.isIn A7 (1:Int) (5:Int)))))/\A4/\(A1=false->eqB A1 false=true)/\A5/\A5/\(eqB A0 false=true->CO Gl 258 [Yv A8,I 1,I 3] (.ret (B (Span.isIn A8 (1:Int) (3:Int)))))/\A5/\(A0=false->eqB A0 false=true)/\(bif bif bif !inR c.1 (0:Int) (2:Int) then true else !Span.isIn A6 (0:Int) (5:Int) then true else !Span.isIn A7 (1:Int) (5:Int) then true else !Span.isIn A8 (1:Int) (3:Int))=!Comp.fine c))) Tryz.func256 (by kernel_rfl) (by kernel_rfl) ?_
 simp only [stdS,imp_self,implies_true,and_true,Qq S,Auh S,Comp.fine,Bool.not_and,Bool.or_assoc]
theorem Auj {Gl} (S:SP Gl) (b:Book) (n:Int):CO Gl 323 [tBook b,I n] (.ret (B (b.isComp n))):=by
 refine An S (.r (.ret (B (inR n (0:Int) ((b.1.length:Int)-1)))) .nil) Tryz.func323 (by kernel_rfl) (b.1.length<=maxLen->iR ((b.1.length:Int)-1)/\CO Gl 257 [I n,I 0,I ((b.1.length:Int)-1)] (.ret (B (inR n (0:Int) ((b.1.length:Int)-1))))/\inR n (0:Int) ((b.1.length:Int)-1)=Book.isComp b n) (by kernel_rfl) ?_
 intro h
 rw [Bi] at h
 exact ⟨(Af _).2 (by omega),Qq S _ _ _,rfl⟩
def Book.ok (b:Book):Bool:=
 inR b.comps.length 1 4&&(inR b.dues.length 1 2&&(inR b.sheets.length 1 3&&(b.comps.all Comp.fine&&(b.dues.all (fun n=>inR n 0 99)&&b.sheets.all b.isTable))))
def Book.fault (b:Book) (t:Task):Int:=
 bif !(b.isComp t.one&&b.isComp t.other&&b.isComp t.third) then 1
 else bif t.one==t.other||t.one==t.third||t.other==t.third then 2
 else bif decide (t.other<t.one) then 3
 else bif (nth b.comps t.one.toNat).room==(nth b.comps t.other.toNat).room then 4 else 0
def Book.why (b:Book) (plan:List Task):Nat:=Bm (fun t=>b.fault t==0) plan
def Book.isWhy (b:Book) (plan:List Task):Bool:=!plan.all (fun t=>b.fault t==0)
def Book.why1 (b:Book) (plan:List Task):Int:=bif b.isWhy plan then b.why plan else 0
def Book.why2 (b:Book) (plan:List Task):Int:=bif b.isWhy plan then b.fault (nth plan (b.why plan)) else 0
def Book.good (b:Book) (plan:List Task):Bool:=plan.length==b.sheets.length&&!b.isWhy plan
def Auk (b:Book) (t:Truth) (i:Nat):Bool:=
  inR (nth t.post i) (nth b.comps i).post.lo (nth b.comps i).post.hi&&(inR (nth t.sheet i) (nth b.comps i).sheet.lo (nth b.comps i).sheet.hi&&inR (nth t.look i) (nth b.comps i).look.lo (nth b.comps i).look.hi)
def Truth.ok (b:Book) (t:Truth):Bool:=
 t.post.length==b.comps.length&&(t.sheet.length==b.comps.length&&(t.look.length==b.comps.length&&(List.range b.comps.length).all (Auk b t)))
def _root_.Go.Vc.Zn.Span.end (s:Span) (g:Bool):Int:=bif g then s.hi else s.lo
def Book.endP (b:Book) (g:Bool):List Int:=b.comps.map (fun c=>c.post.end g)
def Book.endS (b:Book) (g:Bool):List Int:=b.comps.map (fun c=>c.sheet.end g)
def Book.endL (b:Book) (g:Bool):List Int:=b.comps.map (fun c=>c.look.end g)
def Book.ends (b:Book) (g:Bool):Truth:=⟨b.endP g,b.endS g,b.endL g⟩
def nil3:List C:=[.v (.slice none 0 0),.v (.slice none 0 0),.v (.slice none 0 0)]
def counts (t:Task) (i:Nat) (sheet c:Int) (lost:Bool):Bool:=hand t c&&(decide ((i:Int)<=sheet)||lost)
def Ik (plan:List Task) (sheet c:Int) (lost:Bool):Nat->Nat
 |0=>0
 |k+1=>Ik plan sheet c lost k+bif counts (nth plan k) k sheet c lost then 1 else 0
def many (plan:List Task) (sheet c:Int) (lost:Bool):Nat:=Ik plan sheet c lost plan.length+bif lost then 1 else 0
def home (plan:List Task) (t:Truth) (sheet c:Int) (lost:Bool):Int:=2*nth t.post c.toNat+many plan sheet c lost*nth t.sheet c.toNat
theorem Yx {plan:List Task} {sheet c:Int} {lost:Bool}:∀ k,Ik plan sheet c lost k<=k
 |0=>Nat.le_refl _
 |k+1=>by
  have:=Yx (plan:=plan) (sheet:=sheet) (c:=c) (lost:=lost) k
  unfold Ik
  cases counts (nth plan k) k sheet c lost<;>simp<;>omega
def Uk (t:Truth):Prop:=(∀ i,0<=nth t.post i/\nth t.post i<=1000)/\(∀ i,0<=nth t.sheet i/\nth t.sheet i<=1000)/\∀ i,0<=nth t.look i/\nth t.look i<=1000
def sameL {α:Type} [Inhabited α] (eq:α->α->Bool) (a b:List α):Bool:=a.length==b.length&&(List.range a.length).all fun i=>eq (nth a i) (nth b i)
def Il (a b:List Int):List Span:=(List.range a.length).map fun i=>⟨nth a i,nth b i⟩
theorem same_loop {α:Type} [Inhabited α] (eq:α->α->Bool) (a b:List α):a.length<=9223372036854775807->b.length<=9223372036854775807->
  (((a.length:Int) != (b.length:Int))=true->false=sameL eq a b)/\
  (((a.length:Int) != (b.length:Int))=false->∀ k:Nat,k<=Bm (fun i=>eq (nth a i) (nth b i)) (List.range a.length)->a.length<=9223372036854775807->
   ((k:Int)<(a.length:Int)->(0<=(k:Int)/\(k:Int)<(a.length:Int))/\(0<=(k:Int)/\(k:Int)<(b.length:Int))/\
    ((!eq (nth a k) (nth b k))=true->false=sameL eq a b)/\
    ((!eq (nth a k) (nth b k))=false->(-9223372036854775808<=(k:Int)+1/\(k:Int)+1<=9223372036854775807)/\k<Bm (fun i=>eq (nth a i) (nth b i)) (List.range a.length)/\(k:Int)+1=((k+1:Nat):Int)/\True))/\
   (¬ (k:Int)<(a.length:Int)->true=sameL eq a b)):=by
 intro h1 h2
 refine ⟨fun h=>?_,fun h k hk _=>⟨fun hl=>⟨⟨by omega,hl⟩,?_,fun hne=>?_,fun he=>?_⟩,fun hl=>?_⟩⟩
 ·simp only [bne_iff_ne,ne_eq,Int.natCast_inj] at h
  unfold sameL
  simp [h]
 ·simp only [bne_eq_false_iff_eq,Int.natCast_inj] at h
  omega
 ·have hlt:k<(List.range a.length).length:=by rw [List.length_range];omega
  have:(fun i=>eq (nth a i) (nth b i)) (nth (List.range a.length) k)=false:=by
   rw [Cr (by omega)]
   simpa using hne
  unfold sameL
  rw [Qi hlt this]
  simp
 ·have hlt:k<(List.range a.length).length:=by rw [List.length_range];omega
  refine ⟨by omega,Id hk hlt ?_,by omega,trivial⟩
  rw [Cr (by omega)]
  simpa using he
 ·simp only [bne_eq_false_iff_eq,Int.natCast_inj] at h
  have:=Lh (p:=fun i=>eq (nth a i) (nth b i)) (l:=List.range a.length) (by rw [List.length_range];omega)
  unfold sameL
  rw [this,h]
  simp
def ltL:List Int->List Int->Bool
 | [],[]=>false
 | [],_::_=>true
 |_::_,[]=>false
 |x::a,y::b=>bif x==y then ltL a b else decide (x<y)
def sameTo (a b:List Int):Nat:=Bm (fun i=>nth a i==nth b i) (List.range (min a.length b.length))
def Yy (plan:List Task) (t:Truth) (lost c:Int) (free:List Int) (i:Nat):Int:=
 max (max (home plan t i (nth plan i).one (i==lost&&(nth plan i).one==c)) (home plan t i (nth plan i).other (i==lost&&(nth plan i).other==c))+nth t.post (nth plan i).third.toNat) (nth free (nth plan i).third.toNat)+nth t.look (nth plan i).third.toNat
def Es (plan:List Task) (t:Truth) (lost c:Int):Nat->List Int
 |0=>List.replicate t.post.length 0
 |i+1=>(Es plan t lost c i).set (nth plan i).third.toNat (Yy plan t lost c (Es plan t lost c i) i)
def Ajz (plan:List Task) (t:Truth) (lost c:Int) (i:Nat):Int:=Yy plan t lost c (Es plan t lost c i) i+nth t.post (nth plan i).third.toNat
def days (plan:List Task) (t:Truth) (lost c:Int):List Int:=(List.range plan.length).map (Ajz plan t lost c)
def Truth.fits (t:Truth) (n:Nat):Prop:=t.post.length=n/\t.sheet.length=n/\t.look.length=n
def Ak0 (plan:List Task) (n:Nat):Prop:=∀ i,i<plan.length->(0<=(nth plan i).one/\(nth plan i).one<n)/\(0<=(nth plan i).other/\(nth plan i).other<n)/\(0<=(nth plan i).third/\(nth plan i).third<n)
theorem Aul {α:Type} [Inhabited α] {l:List α} {i:Nat} (h:l.length<=i):nth l i=default:=by
 unfold nth
 rw [List.getD_eq_getElem?_getD,List.getElem?_eq_none h]
 rfl
theorem Ak1 {b:Book} (h:b.ok=true):(1<=b.comps.length/\b.comps.length<=4)/\(1<=b.dues.length/\b.dues.length<=2)/\(1<=b.sheets.length/\b.sheets.length<=3)/\
  (∀ i,i<b.comps.length->(nth b.comps i).fine=true)/\(∀ i,i<b.dues.length->0<=nth b.dues i/\nth b.dues i<=99)/\(∀ i,i<b.sheets.length->0<=nth b.sheets i/\nth b.sheets i<b.dues.length):=by
 unfold Book.ok at h
 simp only [Bool.and_eq_true,Bo,List.all_eq_true] at h
 obtain ⟨h1,h2,h3,h4,h5,h6⟩:=h
 refine ⟨by omega,by omega,by omega,fun i hi=>h4 _ (Er hi),fun i hi=>h5 _ (Er hi),fun i hi=>?_⟩
 have:=h6 _ (Er hi)
 unfold Book.isTable at this
 rw [Bo] at this
 omega
theorem Adz {c:Comp} (h:c.fine=true):(0<=c.room/\c.room<=2)/\(0<=c.post.lo/\c.post.lo<=c.post.hi/\c.post.hi<=5)/\(1<=c.sheet.lo/\c.sheet.lo<=c.sheet.hi/\c.sheet.hi<=5)/\(1<=c.look.lo/\c.look.lo<=c.look.hi/\c.look.hi<=3):=by
 unfold Comp.fine Span.isIn at h
 simp only [Bool.and_eq_true,Bo] at h
 omega
theorem Ae0 {s:Span} {g:Bool} {lo hi:Int} (h:lo<=s.lo/\s.lo<=s.hi/\s.hi<=hi):lo<=s.end g/\s.end g<=hi:=by
 unfold Span.end
 cases g<;>simp only [cond_true,cond_false]<;>omega
theorem Ae1 {l:List Int} {f:Comp->Int} {b:Book} (hl:l=b.comps.map f) (hf:∀ i,i<b.comps.length->0<=f (nth b.comps i)/\f (nth b.comps i)<=5) (i:Nat):0<=nth l i/\nth l i<=1000:=by
 subst hl
 rcases Nat.lt_or_ge i b.comps.length with h|h
 ·rw [Ep h]
  have:=hf i h
  omega
 ·rw [Aul (by simpa using h)]
  exact ⟨by decide,by decide⟩
theorem Aum {b:Book} (hb:b.ok=true) (g:Bool):Uk (b.ends g):=by
 obtain ⟨_,_,_,h,_⟩:=Ak1 hb
 refine ⟨Ae1 rfl fun i hi=>?_,Ae1 rfl fun i hi=>?_,Ae1 rfl fun i hi=>?_⟩
 ·obtain ⟨_,h1,h2,h3⟩:=Adz (h i hi)
  exact Ae0 h1
 ·obtain ⟨_,h1,h2,h3⟩:=Adz (h i hi)
  have:=Ae0 (g:=g) h2
  omega
 ·obtain ⟨_,h1,h2,h3⟩:=Adz (h i hi)
  have:=Ae0 (g:=g) h3
  omega
theorem Aun (b:Book) (g:Bool):(b.ends g).fits b.comps.length:=⟨by simp [Book.ends,Book.endP],by simp [Book.ends,Book.endS],by simp [Book.ends,Book.endL]⟩
theorem Ak2 {b:Book} {t:Task} (h:b.fault t=0):(b.isComp t.one=true/\b.isComp t.other=true/\b.isComp t.third=true)/\(t.one≠t.other/\t.one≠t.third/\t.other≠t.third)/\t.one<=t.other/\
  (nth b.comps t.one.toNat).room≠(nth b.comps t.other.toNat).room:=by
 unfold Book.fault at h
 cases h1:(!(b.isComp t.one&&b.isComp t.other&&b.isComp t.third)) with
 |true=>rw [h1] at h;cases h
 |false=>
  rw [h1,cond_false] at h
  cases h2:(t.one==t.other||t.one==t.third||t.other==t.third) with
  |true=>rw [h2] at h;cases h
  |false=>
   rw [h2,cond_false] at h
   cases h3:decide (t.other<t.one) with
   |true=>rw [h3] at h;cases h
   |false=>
    rw [h3,cond_false] at h
    cases h4:(nth b.comps t.one.toNat).room==(nth b.comps t.other.toNat).room with
    |true=>rw [h4] at h;cases h
    |false=>
     simp only [Bool.not_eq_eq_eq_not,Bool.not_false,Bool.and_eq_true] at h1
     simp only [Bool.or_eq_false_iff,beq_eq_false_iff_ne] at h2
     have h3:=of_decide_eq_false h3
     exact ⟨⟨h1.1.1,h1.1.2,h1.2⟩,⟨h2.1.1,h2.1.2,h2.2⟩,by omega,beq_eq_false_iff_ne.1 h4⟩
theorem Ak3 {b:Book} {plan:List Task} (h:b.good plan=true):plan.length=b.sheets.length/\∀ i,i<plan.length->b.fault (nth plan i)=0:=by
 unfold Book.good Book.isWhy at h
 simp only [Bool.and_eq_true,beq_iff_eq,Bool.not_not,List.all_eq_true] at h
 exact ⟨h.1,fun i hi=>h.2 _ (Er hi)⟩
theorem Auo {b:Book} {plan:List Task} (h:b.good plan=true):Ak0 plan b.comps.length:=by
 intro i hi
 obtain ⟨⟨h1,h2,h3⟩,_⟩:=Ak2 ((Ak3 h).2 i hi)
 simp only [Book.isComp,Bo] at h1 h2 h3
 omega
theorem Qr (plan:List Task) (t:Truth) (lost c:Int):(days plan t lost c).length=plan.length:=by simp [days]
theorem Ae2 (a b:List Int):(Il a b).length=a.length:=by simp [Il]
theorem Ul {α:Type} [Inhabited α] (l:List α) (i:Nat) (x:α) (j:Nat):nth (l.set i x) j=if i=j/\i<l.length then x else nth l j:=by
 unfold nth
 rw [List.getD_eq_getElem?_getD,List.getD_eq_getElem?_getD,List.getElem?_set]
 by_cases h:i=j
 ·subst h
  by_cases h2:i<l.length
  ·simp [h2]
  ·simp [h2]
 ·simp [h]
theorem Ak4 (plan:List Task) (t:Truth) (lost c:Int):∀ k,(Es plan t lost c k).length=t.post.length
 |0=>by simp [Es]
 |k+1=>by simp [Es,Ak4 plan t lost c k]
theorem Yz {plan:List Task} {t:Truth} (hs:Uk t) (hp:plan.length<=1000) (s c:Int) (l:Bool):0<=home plan t s c l/\home plan t s c l<=1003000:=by
 have h1:=hs.1 c.toNat
 have h2:=hs.2.1 c.toNat
 have hm:many plan s c l<=1001:=by
  have:=Yx (plan:=plan) (sheet:=s) (c:=c) (lost:=l) plan.length
  unfold many
  cases l<;>simp<;>omega
 have h3:(0:Int)<=(many plan s c l:Int)*nth t.sheet c.toNat:=Int.mul_nonneg (by omega) h2.1
 have h4:(many plan s c l:Int)*nth t.sheet c.toNat<=1001*1000:=Int.mul_le_mul (by omega) h2.2 h2.1 (by omega)
 unfold home
 omega
theorem Ak5 {plan:List Task} {t:Truth} (hs:Uk t) (hp:plan.length<=1000) (lost c:Int):∀ k j,0<=nth (Es plan t lost c k) j/\nth (Es plan t lost c k) j<=1005000+1000*k
 |0,j=>by
  unfold Es nth
  rw [List.getD_eq_getElem?_getD,List.getElem?_replicate]
  split<;>simp [default]
 |k+1,j=>by
  have ih:=Ak5 hs hp lost c k
  unfold Es
  rw [Ul]
  split
  ·have a1:=Yz hs hp k (nth plan k).one (k==lost&&(nth plan k).one==c)
   have a2:=Yz hs hp k (nth plan k).other (k==lost&&(nth plan k).other==c)
   have a3:=hs.1 (nth plan k).third.toNat
   have a4:=hs.2.2 (nth plan k).third.toNat
   have a5:=ih (nth plan k).third.toNat
   unfold Yy
   omega
  ·have:=ih j;omega
theorem SEq_upd {l r:List Int} {i:Nat} {x:Int} {cs:List C} (h:r=l.set i x) (hc:cs=eI x) (hi:i<l.length):SEq l.length (Dq (fun j=>eI (nth l j)) i cs) r.length (fun j=>eI (nth r j)):=by
 subst h
 subst hc
 refine .of ⟨(List.length_set ..).symm,fun j hj=>?_⟩
 show Dq (fun j=>eI (nth l j)) i (eI x) j=eI (nth (l.set i x) j)
 rw [Abm,Ul]
 by_cases hb:j=i
 ·subst hb;rw [if_pos rfl,if_pos ⟨rfl,hi⟩]
 ·rw [if_neg hb,if_neg (fun hh=>hb hh.1.symm)]
def backs (b:Book) (plan:List Task):List Span:=Il (days plan (b.ends false) (-1) (-1)) (days plan (b.ends true) (-1) (-1))
def Za (b:Book) (l:List Span) (n:Nat):Nat->Span
 |0=>⟨0,0⟩
 |i+1=>bif nth b.sheets i==(n:Int) then ⟨max (Za b l n i).lo (nth l i).lo,max (Za b l n i).hi (nth l i).hi⟩ else Za b l n i
def wordOf (s:Span) (due:Int):Int:=bif decide (s.hi<=due) then 3 else bif decide (due<s.lo) then 1 else 2
def Aup (b:Book) (plan:List Task) (n:Nat):Int:=wordOf (Za b (backs b plan) n (backs b plan).length) (nth b.dues n)
def Auq (b:Book) (plan:List Task) (n i:Nat):Bool:=nth b.sheets i==(n:Int)&&decide (nth b.dues n<(nth (backs b plan) i).hi)
def Aur (b:Book) (plan:List Task) (n:Nat):Bool:=(Aup b plan n==3)||(List.range (backs b plan).length).all fun i=>!Auq b plan n i
def Aus (b:Book) (plan:List Task):Bool:=!(List.range b.dues.length).all (Aur b plan)
def Ak6 (n i:Int):Task:=⟨(i.tdiv n).tdiv n,(i.tdiv n).tmod n,i.tmod n⟩
def Ae3 (b:Book):Nat->List Task
 |0=>[]
 |i+1=>bif b.fault (Ak6 b.comps.length i)==0 then Ae3 b i++[Ak6 b.comps.length i] else Ae3 b i
def Book.tasks (b:Book):List Task:=Ae3 b (b.comps.length*b.comps.length*b.comps.length)
def Ak7 (l:List Span):Nat->Int
 |0=>0
 |i+1=>max (Ak7 l i) (nth l i).hi
def Ak8 (b:Book) (plan:List Task):Int:=Ak7 (backs b plan) (backs b plan).length
def Ak9 (out:List (List Task)) (l:List Task):Nat->List (List Task)
 |0=>[]
 |k+1=>Ak9 out l k++l.map (fun t=>nth out k++[t])
def Ae4 (l:List Task):Nat->List (List Task)
 |0=>[[]]
 |i+1=>Ak9 (Ae4 l i) l (Ae4 l i).length
def Book.plans (b:Book):List (List Task):=Ae4 b.tasks b.sheets.length
def Ae5 (b:Book) (l:List (List Task)):Nat->List (List Task)
 |0=>[]
 |k+1=>bif Aus b (nth l k) then Ae5 b l k else Ae5 b l k++[nth l k]
def Book.all (b:Book):List (List Task):=Ae5 b b.plans b.plans.length
def bestTo (b:Book) (l:List (List Task)):Nat->List Task
 |0=>nth l 0
 |k+1=>bif decide (Ak8 b (nth l k)<Ak8 b (bestTo b l k)) then nth l k else bestTo b l k
def Ln (l:List Int):Nat->Int
 |0=>0
 |k+1=>max (Ln l k) (nth l k)
structure Work where
 book:Book
 plan:List Task
def Qs (w:Work):List C:=[.l eComp w.book.comps,.l eI w.book.dues,.l eI w.book.sheets,.l eTask w.plan]
def Mz (w:Work):T:=.d (.agg (Qs w))
def Jf (s c:Int):T:=.d (.agg [Ci s,Ci c])
def He (gs gc sheet c:Int):Bool:=gs==sheet&&(gc==c&&true)
theorem Aut {Gl} (S:SP Gl) (l:List Int):CO Gl 254 [L eI l] (.ret (I (Ln l l.length))):=by
 refine An S (.loop l.length (fun k=>[v 8 (I k),v 7 (I l.length),v 6 (L eI l),v 3 (I (Ln l k))]) fun k0=>.br .nil .nil) Tryz.func254 (by kernel_rfl) (l.length<=maxLen->(0=(↑(0:Nat):Int)/\(l.length:Int)=(l.length:Int)/\(sR eI l)/\(0:Int)=Ln l (0:Nat))/\∀ (k0:Nat),k0<=l.length->(decide ((k0:Int)<(l.length:Int))=true->(0<=(k0:Int)/\(k0:Int)<(l.length:Int))/\iR ((k0:Int)+1)/\k0<l.length/\(k0:Int)+1=(↑(k0+1):Int)/\(l.length:Int)=(l.length:Int)/\(sR eI l)/\max (Ln l k0) (nth l k0)=Ln l (k0+1))/\(decide ((k0:Int)<(l.length:Int))=false->Ln l k0=Ln l l.length)) (by kernel_rfl) ?_
 simp only [stdS,imp_self,implies_true,and_true,decide_eq_true_eq,decide_eq_false_iff_not,Bi,Af]
 refine fun _=>⟨rfl,fun k hk=>⟨fun hl=>⟨by omega,by omega,by omega,by omega,rfl⟩,fun hl=>?_⟩⟩
 have hke:k=l.length:=by omega
 rw [hke]
theorem Auu {Gl} (S:SP Gl)  :CO Gl 79 [] (.ret (Jf (-1) (-1))):=by
 refine An S (.nil) Tryz.func79 (by kernel_rfl) ((-1:Int)=(-1:Int)/\(-1:Int)=(-1:Int)) (by kernel_rfl) ?_
 exact ⟨rfl,rfl⟩
theorem Auv {Gl} (S:SP Gl) (b:Book) (h:b.comps.length<=1000):CO Gl 163 [tBook b] (.ret (Ij (b.ends false))):=by
 refine Ao S (let A0:=(Book.endP b false);let A1:=(Book.endS b false);let A2:=(Book.endL b false);let A3:=(b.1.length:Int);((.loop (List.length (Book.comps b)) (fun k=>v 9 (I k)::v 8 (I (List.length (Book.comps b):Int))::v 7 (L eComp (Book.comps b))::v 3 (ad 3)::v 2 (ad 2)::tk 100 3::tk 101 3::tk 102 3::(bx 2 nil3++bx 3 [C.lt (100:Nat) eI (List.take k A0),C.lt (101:Nat) eI (List.take k A1),C.lt (102:Nat) eI (List.take k A2)])) fun k0=>.br .nil .nil),(b.1.length<=maxLen->(0=(↑(0:Nat):Int)/\A3=A3/\(sR eComp b.1)/\Value.slice none 0 0=Value.slice none 0 0/\Value.slice none 0 0=Value.slice none 0 0/\Value.slice none 0 0=Value.slice none 0 0/\(0:Nat)=(0:Nat)/\(0:Nat)=(0:Nat)/\(0:Nat)=(0:Nat))/\∀ (k0:Nat),k0<=List.length (Book.comps b)->(decide ((k0:Int)<(b.1.length:Int))=true->(0<=(k0:Int)/\(k0:Int)<A3)/\(List.length (List.take k0 A0)+1)*8<=140737488355328/\List.length (List.take k0 A0)+1<=140737488355328/\(List.length (List.take k0 A1)+1)*8<=140737488355328/\List.length (List.take k0 A1)+1<=140737488355328/\(List.length (List.take k0 A2)+1)*8<=140737488355328/\List.length (List.take k0 A2)+1<=140737488355328/\iR ((k0:Int)+1)/\k0<List.length (Book.comps b)/\(k0:Int)+1=(↑(k0+1):Int)/\A3=A3/\(sR eComp b.1)/\Value.slice none 0 0=Value.slice none 0 0/\Value.slice none 0 0=Value.slice none 0 0/\Value.slice none 0 0=Value.slice none 0 0/\(SEq (List.length (List.take k0 A0)+1) (Ar (List.length (List.take k0 A0)) (fun i=>eI (nth (List.take k0 A0) i)) fun i=>List.getD [List.map C.dem [C.v (Value.int IntKind.i64 (nth b.1 k0).2.1)]] i []) (List.length (List.take (k0+1) A0)) fun i=>eI (nth (List.take (k0+1) A0) i))/\(SEq (List.length (List.take k0 A1)+1) (Ar (List.length (List.take k0 A1)) (fun i=>eI (nth (List.take k0 A1) i)) fun i=>List.getD [List.map C.dem [C.v (Value.int IntKind.i64 (nth b.1 k0).3.1)]] i []) (List.length (List.take (k0+1) A1)) fun i=>eI (nth (List.take (k0+1) A1) i))/\SEq (List.length (List.take k0 A2)+1) (Ar (List.length (List.take k0 A2)) (fun i=>eI (nth (List.take k0 A2) i)) fun i=>List.getD [List.map C.dem [C.v (Value.int IntKind.i64 (nth b.1 k0).4.1)]] i []) (List.length (List.take (k0+1) A2)) fun i=>eI (nth (List.take (k0+1) A2) i))/\(decide ((k0:Int)<(b.1.length:Int))=false->(sQ eI (List.take k0 A0) A0)/\(sQ eI (List.take k0 A1) A1)/\sQ eI (List.take k0 A2) A2)))) Tryz.func163 (by kernel_rfl) (by kernel_rfl) ?_
 simp only [stdS,imp_self,implies_true,and_true,decide_eq_true_eq,decide_eq_false_iff_not,Bi,Af]
 have lp:(b.endP false).length=b.comps.length:=by simp [Book.endP]
 have ls:(b.endS false).length=b.comps.length:=by simp [Book.endS]
 have ll:(b.endL false).length=b.comps.length:=by simp [Book.endL]
 refine fun _ k hk=>⟨fun hl=>?_,fun hl=>?_⟩
 ·have hlt:k<b.comps.length:=by omega
  have bp:((b.endP false).take k).length<=1000:=by rw [List.length_take];omega
  have bs:((b.endS false).take k).length<=1000:=by rw [List.length_take];omega
  have bl:((b.endL false).take k).length<=1000:=by rw [List.length_take];omega
  have np:nth (b.endP false) k=(nth b.comps k).post.end false:=Ep hlt
  have ns:nth (b.endS false) k=(nth b.comps k).sheet.end false:=Ep hlt
  have nl:nth (b.endL false) k=(nth b.comps k).look.end false:=Ep hlt
  refine ⟨by omega,by omega,by omega,by omega,by omega,by omega,by omega,by omega,hlt,by omega,?_,?_,?_⟩
  ·exact Jb (by omega) (by rw [np];rfl)
  ·exact Jb (by omega) (by rw [ns];rfl)
  ·exact Jb (by omega) (by rw [nl];rfl)
 ·have hke:k=b.comps.length:=by omega
  exact ⟨Bn (by rw [List.take_of_length_le (by omega)]),Bn (by rw [List.take_of_length_le (by omega)]),Bn (by rw [List.take_of_length_le (by omega)])⟩
theorem Auw {Gl} (S:SP Gl) (b:Book) (h:b.comps.length<=1000):CO Gl 164 [tBook b] (.ret (Ij (b.ends true))):=by
 refine Ao S (let A0:=(Book.endP b true);let A1:=(Book.endS b true);let A2:=(Book.endL b true);let A3:=(b.1.length:Int);((.loop (List.length (Book.comps b)) (fun k=>v 9 (I k)::v 8 (I (List.length (Book.comps b):Int))::v 7 (L eComp (Book.comps b))::v 3 (ad 3)::v 2 (ad 2)::tk 100 3::tk 101 3::tk 102 3::(bx 2 nil3++bx 3 [C.lt (100:Nat) eI (List.take k A0),C.lt (101:Nat) eI (List.take k A1),C.lt (102:Nat) eI (List.take k A2)])) fun k0=>.br .nil .nil),(b.1.length<=maxLen->(0=(↑(0:Nat):Int)/\A3=A3/\(sR eComp b.1)/\Value.slice none 0 0=Value.slice none 0 0/\Value.slice none 0 0=Value.slice none 0 0/\Value.slice none 0 0=Value.slice none 0 0/\(0:Nat)=(0:Nat)/\(0:Nat)=(0:Nat)/\(0:Nat)=(0:Nat))/\∀ (k0:Nat),k0<=List.length (Book.comps b)->(decide ((k0:Int)<(b.1.length:Int))=true->(0<=(k0:Int)/\(k0:Int)<A3)/\(List.length (List.take k0 A0)+1)*8<=140737488355328/\List.length (List.take k0 A0)+1<=140737488355328/\(List.length (List.take k0 A1)+1)*8<=140737488355328/\List.length (List.take k0 A1)+1<=140737488355328/\(List.length (List.take k0 A2)+1)*8<=140737488355328/\List.length (List.take k0 A2)+1<=140737488355328/\iR ((k0:Int)+1)/\k0<List.length (Book.comps b)/\(k0:Int)+1=(↑(k0+1):Int)/\A3=A3/\(sR eComp b.1)/\Value.slice none 0 0=Value.slice none 0 0/\Value.slice none 0 0=Value.slice none 0 0/\Value.slice none 0 0=Value.slice none 0 0/\(SEq (List.length (List.take k0 A0)+1) (Ar (List.length (List.take k0 A0)) (fun i=>eI (nth (List.take k0 A0) i)) fun i=>List.getD [List.map C.dem [C.v (Value.int IntKind.i64 (nth b.1 k0).2.2)]] i []) (List.length (List.take (k0+1) A0)) fun i=>eI (nth (List.take (k0+1) A0) i))/\(SEq (List.length (List.take k0 A1)+1) (Ar (List.length (List.take k0 A1)) (fun i=>eI (nth (List.take k0 A1) i)) fun i=>List.getD [List.map C.dem [C.v (Value.int IntKind.i64 (nth b.1 k0).3.2)]] i []) (List.length (List.take (k0+1) A1)) fun i=>eI (nth (List.take (k0+1) A1) i))/\SEq (List.length (List.take k0 A2)+1) (Ar (List.length (List.take k0 A2)) (fun i=>eI (nth (List.take k0 A2) i)) fun i=>List.getD [List.map C.dem [C.v (Value.int IntKind.i64 (nth b.1 k0).4.2)]] i []) (List.length (List.take (k0+1) A2)) fun i=>eI (nth (List.take (k0+1) A2) i))/\(decide ((k0:Int)<(b.1.length:Int))=false->(sQ eI (List.take k0 A0) A0)/\(sQ eI (List.take k0 A1) A1)/\sQ eI (List.take k0 A2) A2)))) Tryz.func164 (by kernel_rfl) (by kernel_rfl) ?_
 simp only [stdS,imp_self,implies_true,and_true,decide_eq_true_eq,decide_eq_false_iff_not,Bi,Af]
 have lp:(b.endP true).length=b.comps.length:=by simp [Book.endP]
 have ls:(b.endS true).length=b.comps.length:=by simp [Book.endS]
 have ll:(b.endL true).length=b.comps.length:=by simp [Book.endL]
 refine fun _ k hk=>⟨fun hl=>?_,fun hl=>?_⟩
 ·have hlt:k<b.comps.length:=by omega
  have bp:((b.endP true).take k).length<=1000:=by rw [List.length_take];omega
  have bs:((b.endS true).take k).length<=1000:=by rw [List.length_take];omega
  have bl:((b.endL true).take k).length<=1000:=by rw [List.length_take];omega
  have np:nth (b.endP true) k=(nth b.comps k).post.end true:=Ep hlt
  have ns:nth (b.endS true) k=(nth b.comps k).sheet.end true:=Ep hlt
  have nl:nth (b.endL true) k=(nth b.comps k).look.end true:=Ep hlt
  refine ⟨by omega,by omega,by omega,by omega,by omega,by omega,by omega,by omega,hlt,by omega,?_,?_,?_⟩
  ·exact Jb (by omega) (by rw [np];rfl)
  ·exact Jb (by omega) (by rw [ns];rfl)
  ·exact Jb (by omega) (by rw [nl];rfl)
 ·have hke:k=b.comps.length:=by omega
  exact ⟨Bn (by rw [List.take_of_length_le (by omega)]),Bn (by rw [List.take_of_length_le (by omega)]),Bn (by rw [List.take_of_length_le (by omega)])⟩
theorem Aka {Gl} (S:SP Gl) (w:Work) (t:Truth) (sheet c gs gc:Int) (hs:Uk t) (hp:w.plan.length<=1000) (hc1:0<=c/\c<t.post.length) (hc2:0<=c/\c<t.sheet.length):CO Gl 255 [Mz w,Ij t,I sheet,I c,Jf gs gc] (.ret (I (home w.plan t sheet c (He gs gc sheet c)))):=by
 refine Ao S (let A0:=fun (k0:Nat)=>(bif (nth w.2 k0).1==c then true else (nth w.2 k0).2==c);let A1:=fun (k0:Nat)=>(↑(Ik w.2 sheet c (He gs gc sheet c) k0):Int);let A2:=fun (k0:Nat)=>(eqB (A0 k0) true&&eqB (decide ((k0:Int)<=sheet)) false);let A3:=fun (k0:Nat)=>(bif bif (nth w.2 k0).1==c then true else (nth w.2 k0).2==c then bif decide ((k0:Int)<=sheet) then true else bif false then !eqL [gs,gc] [sheet,c] else eqL [gs,gc] [sheet,c] else false);let A4:=fun (k0:Nat)=>(eqB ((nth w.2 k0).1==c) false=true->eqB ((nth w.2 k0).1==c) false=true);let A5:=fun (k0:Nat)=>(eqB (A0 k0) true=true->eqB (A0 k0) true=true);let A6:=(Int.toNat c);let A7:=(He gs gc sheet c);let A8:=(w.2.length:Int);let A9:=(bif false then !eqL [gs,gc] [sheet,c] else eqL [gs,gc] [sheet,c]);let A10:=(Work.plan w);let A11:=fun (k0:Nat)=>((A2 k0)=true->(A2 k0)=true);((.loop (List.length A10) (fun k=>v 17 (I k)::v 16 (I (List.length A10:Int))::v 15 (L eTask A10)::v 11 (I (↑(Ik A10 sheet c A7 k):Int))::v 2 (I sheet)::v 3 (I c)::v 6 (ad 6)::v 9 (ad 9)::(bx 6 (Ady t)++bx 9 [Ci gs,Ci gc])) fun k0=>.br (.br .nil .nil) (.br .nil .nil)),(w.2.length<=maxLen->(0=(↑(0:Nat):Int)/\A8=A8/\(sR eTask w.2)/\0=(↑(Ik w.2 sheet c A7 (0:Nat)):Int)/\sheet=sheet/\c=c/\(sR eI t.1)/\(sR eI t.2)/\(sR eI t.3)/\gs=gs/\gc=gc)/\∀ (k0:Nat),k0<=List.length A10->(decide ((k0:Int)<(w.2.length:Int))=true->(0<=(k0:Int)/\(k0:Int)<A8)/\(A4 k0)/\(A4 k0)/\(A4 k0)/\(((nth w.2 k0).1==c)=false->eqB ((nth w.2 k0).1==c) false=true)/\(A5 k0)/\(A5 k0)/\(A5 k0)/\(A11 k0)/\(A11 k0)/\(A11 k0)/\(A11 k0)/\(A5 k0)/\(eqB (A0 k0) true=true->decide ((k0:Int)<=sheet)=false->(A2 k0)=true)/\((A0 k0)=true->eqB (A0 k0) true=true)/\((A3 k0)=true->iR ((A1 k0)+1)/\iR ((k0:Int)+1)/\k0<List.length A10/\(k0:Int)+1=(↑(k0+1):Int)/\A8=A8/\(sR eTask w.2)/\(A1 k0)+1=(↑(Ik w.2 sheet c A7 (k0+1)):Int)/\sheet=sheet/\c=c/\(sR eI t.1)/\(sR eI t.2)/\(sR eI t.3)/\gs=gs/\gc=gc)/\((A3 k0)=false->iR ((k0:Int)+1)/\k0<List.length A10/\(k0:Int)+1=(↑(k0+1):Int)/\A8=A8/\(sR eTask w.2)/\(A1 k0)=(↑(Ik w.2 sheet c A7 (k0+1)):Int)/\sheet=sheet/\c=c/\(sR eI t.1)/\(sR eI t.2)/\(sR eI t.3)/\gs=gs/\gc=gc))/\(decide ((k0:Int)<(w.2.length:Int))=false->(A9=true->iR ((A1 k0)+1)/\((0:Int)<=c/\c<(t.1.length:Int))/\iR ((2:Int)*nth t.1 A6)/\((0:Int)<=c/\c<(t.2.length:Int))/\iR (((A1 k0)+1)*nth t.2 A6)/\iR ((2:Int)*nth t.1 A6+((A1 k0)+1)*nth t.2 A6)/\(2:Int)*nth t.1 A6+((A1 k0)+1)*nth t.2 A6=home w.2 t sheet c A7)/\(A9=false->((0:Int)<=c/\c<(t.1.length:Int))/\iR ((2:Int)*nth t.1 A6)/\((0:Int)<=c/\c<(t.2.length:Int))/\iR ((A1 k0)*nth t.2 A6)/\iR ((2:Int)*nth t.1 A6+(A1 k0)*nth t.2 A6)/\(2:Int)*nth t.1 A6+(A1 k0)*nth t.2 A6=home w.2 t sheet c A7))))) Tryz.func255 (by kernel_rfl) (by kernel_rfl) ?_
 simp only [stdS,imp_self,implies_true,and_true,decide_eq_true_eq,decide_eq_false_iff_not,Bi,Af]
 obtain ⟨s1,s2,s3⟩:=hs
 have bp:=s1 c.toNat
 have bs:=s2 c.toNat
 generalize hG:He gs gc sheet c=lost
 have hG':(bif false then !eqL [gs,gc] [sheet,c] else eqL [gs,gc] [sheet,c])=lost:=hG
 rw [hG']
 refine fun _=>⟨⟨rfl,trivial⟩,fun k hk=>⟨fun hl=>?_,fun hl=>?_⟩⟩
 ·have hle:=Yx (plan:=w.plan) (sheet:=sheet) (c:=c) (lost:=lost) k
  refine ⟨⟨by omega,hl⟩,fun h1 h2=>by rw [h1,decide_eq_false h2];rfl,fun h=>?_,fun h=>?_⟩
  ·have hc:counts (nth w.plan k) k sheet c lost=true:=h
   refine ⟨by omega,by omega,by omega,by omega,?_,trivial⟩
   rw [Ik,hc];rfl
  ·have hc:counts (nth w.plan k) k sheet c lost=false:=h
   refine ⟨by omega,by omega,by omega,?_,trivial⟩
   rw [Ik,hc];rfl
 ·have hke:k=w.plan.length:=by omega
  subst hke
  have hle:=Yx (plan:=w.plan) (sheet:=sheet) (c:=c) (lost:=lost) w.plan.length
  generalize hq:Ik w.plan sheet c lost w.plan.length=q at hle
  have e1:home w.plan t sheet c lost=2*nth t.post c.toNat+((q+bif lost then 1 else 0:Nat):Int)*nth t.sheet c.toNat:=by unfold home many;rw [hq]
  rw [e1]
  generalize nth t.post c.toNat=p at *
  generalize nth t.sheet c.toNat=s at *
  have m1:0<=((q:Int)+1)*s:=Int.mul_nonneg (by omega) bs.1
  have m2:((q:Int)+1)*s<=1001*1000:=Int.mul_le_mul (by omega) bs.2 bs.1 (by omega)
  have m3:0<=(q:Int)*s:=Int.mul_nonneg (by omega) bs.1
  have m4:(q:Int)*s<=1001*1000:=Int.mul_le_mul (by omega) bs.2 bs.1 (by omega)
  refine ⟨fun h=>⟨by omega,hc1,by omega,hc2,by omega,by omega,?_⟩,fun h=>⟨hc1,by omega,hc2,by omega,by omega,?_⟩⟩
  ·rw [h];simp
  ·rw [h];simp
def upIdx {α:Type} [Inhabited α] (p:α->Bool) (l:List α):Nat:=Bm (fun x=>!p x) l
def idxI {α:Type} [Inhabited α] (p:α->Bool) (l:List α):Int:=bif l.all (fun x=>!p x) then -1 else upIdx p l
theorem idxI_spec {α:Type} [Inhabited α] (p:α->Bool) (l:List α):decide (0<=idxI p l)=!l.all (fun x=>!p x):=by
 unfold idxI
 cases l.all (fun x=>!p x) with
 |true=>rfl
 |false=>
  simp only [cond_false]
  exact decide_eq_true (Int.natCast_nonneg _)
theorem idx_loop {α:Type} [Inhabited α] (p:α->Bool) (l:List α) (C:Nat->Prop) (hC:∀ k,k<l.length->C k):l.length<=9223372036854775807->∀ k:Nat,k<=upIdx p l->
  ((k:Int)<(l.length:Int)->(0<=(k:Int)/\(k:Int)<(l.length:Int))/\C k/\(p (nth l k)=true->(k:Int)=idxI p l)/\
   (p (nth l k)=false->(-9223372036854775808<=(k:Int)+1/\(k:Int)+1<=9223372036854775807)/\k<upIdx p l/\(k:Int)+1=((k+1:Nat):Int)/\True))/\
  (¬ (k:Int)<(l.length:Int)->-1=idxI p l):=by
 intro hm k hk
 refine ⟨fun hl=>⟨by omega,hC k (by omega),fun h=>?_,fun h=>⟨by omega,Id hk (by omega) (by rw [h];rfl),by omega,trivial⟩⟩,fun hl=>?_⟩
 ·have ha:l.all (fun x=>!p x)=false:=Qi (p:=fun x=>!p x) (k:=k) (by omega) (by rw [h];rfl)
  have he:upIdx p l=k:=by
   rcases Nat.lt_or_ge k (upIdx p l) with h2|h2
   ·have:=Jy (p:=fun x=>!p x) h2
    rw [h] at this
    cases this
   ·omega
  unfold idxI
  rw [ha,he]
  rfl
 ·have ha:l.all (fun x=>!p x)=true:=Lh (by unfold upIdx at hk;omega)
  unfold idxI
  rw [ha]
  rfl
theorem Aux {Gl} (S:SP Gl) (l:List Comp) (f:FuncId) (p:Comp->Bool) (hf:∀ i,i<l.length->CO Gl f [Yw (nth l i)] (.ret (B (p (nth l i))))):CO Gl 324 [L eComp l,.fn f [] []] (.ret (I (idxI p l))):=by
 refine An S (.loop (upIdx p l) (fun k=>[v 8 (I k),v 7 (I l.length),v 0 (L eComp l),v 1 (T.fn f [] [])]) fun k0=>.br (.r (.ret (B (p (nth l k0)))) (.br .nil .nil)) .nil) Tryz.func324 (by kernel_rfl) (l.length<=maxLen->(0=(↑(0:Nat):Int)/\(l.length:Int)=(l.length:Int)/\(sR eComp l)/\f=f)/\∀ (k0:Nat),k0<=upIdx p l->(decide ((k0:Int)<(l.length:Int))=true->(0<=(k0:Int)/\(k0:Int)<(l.length:Int))/\CO Gl f [Yw (nth l k0)] (.ret (B (p (nth l k0))))/\(p (nth l k0)=true->(k0:Int)=idxI p l)/\(p (nth l k0)=false->iR ((k0:Int)+1)/\k0<upIdx p l/\(k0:Int)+1=(↑(k0+1):Int)/\(l.length:Int)=(l.length:Int)/\(sR eComp l)/\f=f))/\(decide ((k0:Int)<(l.length:Int))=false->(-1:Int)=idxI p l)) (by kernel_rfl) ?_
 simp only [stdS,imp_self,implies_true,and_true,decide_eq_true_eq,decide_eq_false_iff_not,Bi,Af]
 exact idx_loop p l _ hf
theorem Auy {Gl} (S:SP Gl) (l:List Int) (f:FuncId) (p:Int->Bool) (hf:∀ i,i<l.length->CO Gl f [I (nth l i)] (.ret (B (p (nth l i))))):CO Gl 189 [L eI l,.fn f [] []] (.ret (I (idxI p l))):=by
 refine An S (.loop (upIdx p l) (fun k=>[v 8 (I k),v 7 (I l.length),v 0 (L eI l),v 1 (T.fn f [] [])]) fun k0=>.br (.r (.ret (B (p (nth l k0)))) (.br .nil .nil)) .nil) Tryz.func189 (by kernel_rfl) (l.length<=maxLen->(0=(↑(0:Nat):Int)/\(l.length:Int)=(l.length:Int)/\(sR eI l)/\f=f)/\∀ (k0:Nat),k0<=upIdx p l->(decide ((k0:Int)<(l.length:Int))=true->(0<=(k0:Int)/\(k0:Int)<(l.length:Int))/\CO Gl f [I (nth l k0)] (.ret (B (p (nth l k0))))/\(p (nth l k0)=true->(k0:Int)=idxI p l)/\(p (nth l k0)=false->iR ((k0:Int)+1)/\k0<upIdx p l/\(k0:Int)+1=(↑(k0+1):Int)/\(l.length:Int)=(l.length:Int)/\(sR eI l)/\f=f))/\(decide ((k0:Int)<(l.length:Int))=false->(-1:Int)=idxI p l)) (by kernel_rfl) ?_
 simp only [stdS,imp_self,implies_true,and_true,decide_eq_true_eq,decide_eq_false_iff_not,Bi,Af]
 exact idx_loop p l _ hf
theorem Auz {Gl} (S:SP Gl) (l:List Int) (f:FuncId) (d:Book) (p:Int->Bool) (hf:∀ i,i<l.length->CO Gl f [I (nth l i),.d (.rd (cBook d))] (.ret (B (p (nth l i))))):CO Gl 189 [L eI l,.fn f [] [.d (.rd (cBook d))]] (.ret (I (idxI p l))):=by
 refine An S (.loop (upIdx p l) (fun k=>[v 8 (I k),v 7 (I l.length),v 0 (L eI l),v 1 (T.fn f [] [T.d (D.rd (cBook d))])]) fun k0=>.br (.r (.ret (B (p (nth l k0)))) (.br .nil .nil)) .nil) Tryz.func189 (by kernel_rfl) (l.length<=maxLen->(0=(↑(0:Nat):Int)/\(l.length:Int)=(l.length:Int)/\(sR eI l)/\f=f/\(sR eComp d.1)/\(sR eI d.2)/\sR eI d.3)/\∀ (k0:Nat),k0<=upIdx p l->(decide ((k0:Int)<(l.length:Int))=true->(0<=(k0:Int)/\(k0:Int)<(l.length:Int))/\CO Gl f [I (nth l k0),T.d (D.rd (cBook d))] (.ret (B (p (nth l k0))))/\(p (nth l k0)=true->(k0:Int)=idxI p l)/\(p (nth l k0)=false->iR ((k0:Int)+1)/\k0<upIdx p l/\(k0:Int)+1=(↑(k0+1):Int)/\(l.length:Int)=(l.length:Int)/\(sR eI l)/\f=f/\(sR eComp d.1)/\(sR eI d.2)/\sR eI d.3))/\(decide ((k0:Int)<(l.length:Int))=false->(-1:Int)=idxI p l)) (by kernel_rfl) ?_
 simp only [stdS,imp_self,implies_true,and_true,decide_eq_true_eq,decide_eq_false_iff_not,Bi,Af]
 exact idx_loop p l _ hf
theorem Av0 {Gl} (S:SP Gl) (l:List Comp) (f:FuncId) (p:Comp->Bool) (hf:∀ i,i<l.length->CO Gl f [Yw (nth l i)] (.ret (B (p (nth l i))))):CO Gl 261 [L eComp l,.fn f [] []] (.ret (B (!l.all (fun x=>!p x)))):=by
 refine An S (.r (.ret (I (idxI p l))) .nil) Tryz.func261 (by kernel_rfl) (CO Gl 324 [L eComp l,T.fn f [] []] (.ret (I (idxI p l)))/\decide ((0:Int)<=idxI p l)=!List.all l fun x=>!p x) (by kernel_rfl) ?_
 exact ⟨Aux S l f p hf,idxI_spec p l⟩
theorem Av1 {Gl} (S:SP Gl) (l:List Int) (f:FuncId) (p:Int->Bool) (hf:∀ i,i<l.length->CO Gl f [I (nth l i)] (.ret (B (p (nth l i))))):CO Gl 102 [L eI l,.fn f [] []] (.ret (B (!l.all (fun x=>!p x)))):=by
 refine An S (.r (.ret (I (idxI p l))) .nil) Tryz.func102 (by kernel_rfl) (CO Gl 189 [L eI l,T.fn f [] []] (.ret (I (idxI p l)))/\decide ((0:Int)<=idxI p l)=!List.all l fun x=>!p x) (by kernel_rfl) ?_
 exact ⟨Auy S l f p hf,idxI_spec p l⟩
theorem Av2 {Gl} (S:SP Gl) (l:List Int) (f:FuncId) (d:Book) (p:Int->Bool) (hf:∀ i,i<l.length->CO Gl f [I (nth l i),.d (.rd (cBook d))] (.ret (B (p (nth l i))))):CO Gl 102 [L eI l,.fn f [] [.d (.rd (cBook d))]] (.ret (B (!l.all (fun x=>!p x)))):=by
 refine An S (.r (.ret (I (idxI p l))) .nil) Tryz.func102 (by kernel_rfl) (CO Gl 189 [L eI l,T.fn f [] [T.d (D.rd (cBook d))]] (.ret (I (idxI p l)))/\decide ((0:Int)<=idxI p l)=!List.all l fun x=>!p x) (by kernel_rfl) ?_
 exact ⟨Auz S l f d p hf,idxI_spec p l⟩
theorem Av3 {Gl} (S:SP Gl) (n:Int):CO Gl 259 [I n] (.ret (B (!inR n 0 99))):=by
 refine An S (.r (.ret (B (inR n (0:Int) (99:Int)))) .nil) Tryz.func259 (by kernel_rfl) (CO Gl 257 [I n,I 0,I 99] (.ret (B (inR n (0:Int) (99:Int))))/\(!inR n (0:Int) (99:Int))=!inR n (0:Int) (99:Int)) (by kernel_rfl) ?_
 exact ⟨Qq S n 0 99,rfl⟩
theorem Av4 {Gl} (S:SP Gl) (b:Book) (n:Int):CO Gl 260 [I n,.d (.rd (cBook b))] (.ret (B (!b.isTable n))):=by
 refine An S (.r (.ret (B (inR n (0:Int) ((b.2.length:Int)-1)))) .nil) Tryz.func260 (by kernel_rfl) (b.2.length<=maxLen->iR ((b.2.length:Int)-1)/\CO Gl 257 [I n,I 0,I ((b.2.length:Int)-1)] (.ret (B (inR n (0:Int) ((b.2.length:Int)-1))))/\(!inR n (0:Int) ((b.2.length:Int)-1))=!Book.isTable b n) (by kernel_rfl) ?_
 intro h
 rw [Bi] at h
 exact ⟨(Af _).2 (by omega),Qq S _ _ _,rfl⟩
def Book.isBook (b:Book):Bool:=
 !(b.comps.length==0)&&(b.comps.all Comp.fine&&(inR b.dues.length 1 2&&(inR b.sheets.length 1 3&&(b.dues.all (fun n=>inR n 0 99)&&b.sheets.all b.isTable))))
theorem Av5 (b:Book):(b.isBook&&decide ((b.comps.length:Int)<=4))=b.ok:=by
 unfold Book.isBook Book.ok
 have:inR b.comps.length 1 4=(!(b.comps.length==0)&&decide ((b.comps.length:Int)<=4)):=by
  rw [Bool.eq_iff_iff]
  simp only [Bo,Bool.and_eq_true,Bool.not_eq_eq_eq_not,Bool.not_true,beq_eq_false_iff_ne,decide_eq_true_eq]
  omega
 rw [this]
 cases !(b.comps.length==0)<;>cases b.comps.all Comp.fine<;>cases inR b.dues.length 1 2<;>cases inR b.sheets.length 1 3<;>cases b.dues.all (fun n=>inR n 0 99)<;>cases b.sheets.all b.isTable<;>cases decide ((b.comps.length:Int)<=4)<;>rfl
theorem Av6 {Gl} (S:SP Gl) (b:Book):CO Gl 165 [tBook b] (.ret (B b.isBook)):=by
 refine Ao S (let A0:=(bif bif inR (b.2.length:Int) (1:Int) (2:Int) then inR (b.3.length:Int) (1:Int) (3:Int) else false then !!List.all b.2 fun x=>!!inR x (0:Int) (99:Int) else false);let A1:=(bif inR (b.2.length:Int) (1:Int) (2:Int) then inR (b.3.length:Int) (1:Int) (3:Int) else false);let A2:=(inR (b.2.length:Int) (1:Int) (2:Int));let A3:=(eqB ((b.1.length:Int)==0) false=true->eqB ((b.1.length:Int)==0) false=true);let A4:=(eqB A1 true=true->eqB A1 true=true);let A5:=(eqB A0 true=true->eqB A0 true=true);let A6:=(bif (b.1.length:Int)==0 then true else !List.all b.1 fun x=>!!Comp.fine x);let A7:=(eqB A2 true=true->eqB A2 true=true);let A8:=(B !List.all (Book.dues b) fun x=>!!inR x (0:Int) (99:Int));let A9:=(B !List.all (Book.sheets b) fun x=>!!Book.isTable b x);let A10:=(B !List.all (Book.comps b) fun x=>!!Comp.fine x);((.r (.ret A10) (.br .nil (.r (.ret (B A2)) (.r (.ret (B (inR (b.3.length:Int) (1:Int) (3:Int)))) (.r (.ret A8) (.r (.ret A9) .nil)))))),(b.1.length<=maxLen->A3/\A3/\A3/\(eqB ((b.1.length:Int)==0) false=true->CO Gl 261 [L eComp (Book.comps b),T.fn (256:FuncId) [] []] (.ret A10))/\(((b.1.length:Int)==0)=false->eqB ((b.1.length:Int)==0) false=true)/\(A6=true->false=Book.isBook b)/\(A6=false->b.2.length<=maxLen->CO Gl 257 [I b.2.length,I 1,I 2] (.ret (B A2))/\A7/\A7/\((eqB A2 true=true->b.3.length<=maxLen)->A7/\(eqB A2 true=true->CO Gl 257 [I b.3.length,I 1,I 3] (.ret (B (inR (b.3.length:Int) (1:Int) (3:Int)))))/\(inR (b.2.length:Int) (1:Int) (2:Int)=true->eqB A2 true=true)/\A4/\A4/\A4/\(eqB A1 true=true->CO Gl 102 [L eI (Book.dues b),T.fn (259:FuncId) [] []] (.ret A8))/\A4/\(A1=true->eqB A1 true=true)/\A5/\A5/\A5/\(eqB A0 true=true->CO Gl 102 [L eI (Book.sheets b),T.fn (260:FuncId) [] [T.d (D.rd (cBook b))]] (.ret A9))/\A5/\(A0=true->eqB A0 true=true)/\(bif bif bif inR (b.2.length:Int) (1:Int) (2:Int) then inR (b.3.length:Int) (1:Int) (3:Int) else false then !!List.all b.2 fun x=>!!inR x (0:Int) (99:Int) else false then !!List.all b.3 fun x=>!!Book.isTable b x else false)=Book.isBook b))))) Tryz.func165 (by kernel_rfl) (by kernel_rfl) ?_
 have h1:=Av0 S b.comps 256 (fun c=>!c.fine) (fun i _=>Aui S _)
 have h2:=Av1 S b.dues 259 (fun n=>!inR n 0 99) (fun i _=>Av3 S _)
 have h3:=Av2 S b.sheets 260 b (fun n=>!b.isTable n) (fun i _=>Av4 S b _)
 simp only [stdS,imp_self,implies_true,and_true,Qq S,h1,h2,h3,decide_eq_true_eq,decide_eq_false_iff_not,Bi,Af]
 simp only [Bool.not_not]
 have hc:((b.comps.length:Int)==0)=(b.comps.length==0):=by
  rw [Bool.eq_iff_iff]
  simp only [beq_iff_eq]
  omega
 rw [hc]
 unfold Book.isBook
 refine fun _=>⟨fun h=>?_,fun h _ _=>?_⟩
 ·revert h
  cases (b.comps.length==0)<;>cases b.comps.all Comp.fine<;>simp
 ·revert h
  cases (b.comps.length==0)<;>cases b.comps.all Comp.fine<;>simp
theorem Akb {Gl} (S:SP Gl) (b:Book):CO Gl 80 [tBook b] (.ret (B b.ok)):=by
 refine Ao S (let A0:=(eqB (Book.isBook b) true=true->eqB (Book.isBook b) true=true);((.r (.ret (B (Book.isBook b))) .nil),(CO Gl 165 [tBook b] (.ret (B (Book.isBook b)))/\A0/\A0/\((eqB (Book.isBook b) true=true->b.1.length<=maxLen)->A0/\(Book.isBook b=true->eqB (Book.isBook b) true=true)/\(bif Book.isBook b then decide ((b.1.length:Int)<=4) else false)=Book.ok b)))) Tryz.func80 (by kernel_rfl) (by kernel_rfl) ?_
 simp only [stdS,imp_self,implies_true,and_true,Av6 S,decide_eq_true_eq,decide_eq_false_iff_not,Bi,Af]
 intro _
 exact Av5 b
theorem check67 {Gl} (S:SP Gl) (b:Book):CO Gl 139 [tBook b] (.ret (I (bif b.ok then 0 else 2))):=by
 refine An S (.r (.ret (B (Book.ok b))) (.br .nil .nil)) Tryz.func139 (by kernel_rfl) (CO Gl 80 [tBook b] (.ret (B (Book.ok b)))/\((!Book.ok b)=true->(2:Int)=bif Book.ok b then (0:Int) else (2:Int))/\((!Book.ok b)=false->(0:Int)=bif Book.ok b then (0:Int) else (2:Int))) (by kernel_rfl) ?_
 simp only [stdS,imp_self,implies_true,and_true,Akb S,decide_eq_true_eq,decide_eq_false_iff_not,Bi,Af]
 cases b.ok<;>simp
def Jg (plan:List Task) (k:Nat) (x:List Int):Bool:=(List.range k).any fun i=>[(nth plan i).third]==x
def Qt (plan:List Task) (t:Truth) (lost c:Int) (k:Nat) (x:List Int):List C:=[Ci (nth (Es plan t lost c k) (x.headD 0).toNat)]
theorem Akc {Gl} (S:SP Gl) (a b:Int) (ha:0<=a) (hb:0<=b):CO Gl 254 [.d (.c (.s .n 2 fun i=>[[Ci a],[Ci b]].getD i []))] (.ret (I (max a b))):=by
 have h:=Aut S [a,b]
 have e:Ln [a,b] [a,b].length=max a b:=by
  show max (max 0 a) b=max a b
  omega
 rw [e] at h
 refine Computes.args h (show SEq 2 (fun i=>[[Ci a],[Ci b]].getD i []) 2 (fun i=>eI (nth [a,b] i)) from .of ⟨rfl,fun i hi=>?_⟩)
 match i,hi with
 |0,_=>rfl
 |1,_=>rfl
theorem Akd (gs gc s c:Int):He gs gc s c=(s==gs&&c==gc):=by
 unfold He
 rw [Bool.and_true,BEq.comm (a:=gs),BEq.comm (a:=gc)]
theorem Ake (plan:List Task) (k:Nat) (x:List Int):Jg plan (k+1) x=(Jg plan k x||[(nth plan k).third]==x):=by
 unfold Jg
 rw [List.range_succ,List.any_append]
 simp
theorem Av7 {plan:List Task}:∀ {k:Nat} {x:List Int},Jg plan k x=true->∃ i,i<k/\x=[(nth plan i).third]:=by
 intro k x h
 unfold Jg at h
 obtain ⟨i,hi,he⟩:=List.any_eq_true.1 h
 exact ⟨i,List.mem_range.1 hi,(by simpa using he:[(nth plan i).third]=x).symm⟩
theorem Akf {plan:List Task} {t:Truth} {lost c x:Int} (hx:0<=x):∀ {k:Nat},(∀ i,i<k->0<=(nth plan i).third)->Jg plan k [x]=false->nth (Es plan t lost c k) x.toNat=0
 |0,_,_=>by
  unfold Es nth
  rw [List.getD_eq_getElem?_getD,List.getElem?_replicate]
  split<;>simp [default]
 |k+1,h,hu=>by
  rw [Ake,Bool.or_eq_false_iff] at hu
  have h3:=h k (by omega)
  have hne:(nth plan k).third≠x:=by simpa using hu.2
  unfold Es
  rw [Ul,if_neg (by omega)]
  exact Akf hx (fun i hi=>h i (by omega)) hu.1
theorem Av8 {Gl} (S:SP Gl) (w:Work) (t:Truth) (gs gc:Int) (hs:Uk t) (hp:w.plan.length<=1000) (n:Nat) (hn:n<=1000) (hf:t.fits n) (ht:Ak0 w.plan n):CO Gl 162 [Mz w,Ij t,Jf gs gc] (.ret (L eI (days w.plan t gs gc))):=by
 refine Ao S (let A0:=fun (k0:Nat)=>(max (home w.2 t (k0:Int) (nth w.2 k0).1 (He gs gc (k0:Int) (nth w.2 k0).1)) (home w.2 t (k0:Int) (nth w.2 k0).2 (He gs gc (k0:Int) (nth w.2 k0).2))+nth t.1 (Int.toNat (nth w.2 k0).3));let A1:=fun (k0:Nat)=>(nth (Es w.2 t gs gc k0) (Int.toNat (List.headD [(nth w.2 k0).3] (0:Int))));let A2:=fun (k0:Nat)=>(nth w.2 k0);let A3:=fun (k0:Nat)=>(I (max (home w.2 t (k0:Int) (A2 k0).1 (He gs gc (k0:Int) (A2 k0).1)) (home w.2 t (k0:Int) (A2 k0).2 (He gs gc (k0:Int) (A2 k0).2))));let A4:=fun (k0:Nat)=>(List.take k0 (days w.2 t gs gc));let A5:=(Work.plan w);let A6:=fun (k0:Nat)=>(max (A0 k0) (A1 k0)+nth t.3 (Int.toNat (A2 k0).3)+nth t.1 (Int.toNat (A2 k0).3));let A7:=(w.2.length:Int);let A8:=fun (k0:Nat)=>(I (home A5 t (k0:Int) (A2 k0).1 (He gs gc (k0:Int) (A2 k0).1)));let A9:=fun (k0:Nat)=>(I (home A5 t (k0:Int) (A2 k0).2 (He gs gc (k0:Int) (A2 k0).2)));((.loop (List.length A5) (fun k=>v 17 (I k)::v 16 (I (List.length A5:Int))::v 15 (L eTask A5)::tk 100 3::v 8 (Lt 100 eI (List.take k (days A5 t gs gc)))::v 7 (T.mp (13:Nat))::((2:Nat),(13:Nat),T.mapc false (0:Nat) false (Jg A5 k) (Qt A5 t gs gc k))::v 5 (ad 5)::v 4 (ad 4)::v 3 (ad 3)::(bx 5 [Ci gs,Ci gc]++bx 4 (Ady t)++bx 3 (Qs w))) fun k0=>.br (.r (.ret (A8 k0)) (.r (.ret (A9 k0)) (.r (.ret (A3 k0)) (.r (.ret (I (max (A0 k0) (A1 k0)))) .nil)))) .nil),(w.2.length<=maxLen->(0=(↑(0:Nat):Int)/\A7=A7/\(sR eTask w.2)/\(0:Nat)=(0:Nat)/\MEq (fun x=>false) (fun x=>vsC [Value.int IntKind.i64 (0:Int)]) (Jg w.2 (0:Nat)) (Qt w.2 t gs gc (0:Nat))/\gs=gs/\gc=gc/\(sR eI t.1)/\(sR eI t.2)/\(sR eI t.3)/\(sR eComp w.1.1)/\(sR eI w.1.2)/\(sR eI w.1.3)/\sR eTask w.2)/\∀ (k0:Nat),k0<=List.length A5->(decide ((k0:Int)<(w.2.length:Int))=true->(0<=(k0:Int)/\(k0:Int)<A7)/\CO Gl 255 [Mz w,Ij t,I k0,I (A2 k0).1,Jf gs gc] (.ret (A8 k0))/\CO Gl 255 [Mz w,Ij t,I k0,I (A2 k0).2,Jf gs gc] (.ret (A9 k0))/\CO Gl 254 [T.d (D.c (C.s Tag.n (2:Nat) fun i=>List.getD [[Ci (home w.2 t (k0:Int) (A2 k0).1 (He gs gc (k0:Int) (A2 k0).1))],[Ci (home w.2 t (k0:Int) (A2 k0).2 (He gs gc (k0:Int) (A2 k0).2))]] i []))] (.ret (A3 k0))/\((0:Int)<=(A2 k0).3/\(A2 k0).3<(t.1.length:Int))/\iR (A0 k0)/\(Jg w.2 k0 [(A2 k0).3]=false->[C.v (Value.int IntKind.i64 (A1 k0))]=[C.v (Value.int IntKind.i64 (0:Int))])/\CO Gl 254 [T.d (D.c (C.s Tag.n (2:Nat) fun i=>List.getD [[Ci (A0 k0)],[Ci (A1 k0)]] i []))] (.ret (I (max (A0 k0) (A1 k0))))/\((0:Int)<=(A2 k0).3/\(A2 k0).3<(t.3.length:Int))/\iR (max (A0 k0) (A1 k0)+nth t.3 (Int.toNat (A2 k0).3))/\((0:Int)<=(A2 k0).3/\(A2 k0).3<(t.1.length:Int))/\iR (A6 k0)/\(List.length (A4 k0)+1)*8<=140737488355328/\List.length (A4 k0)+1<=140737488355328/\iR ((k0:Int)+1)/\k0<List.length A5/\(k0:Int)+1=(↑(k0+1):Int)/\A7=A7/\(sR eTask w.2)/\(SEq (List.length (A4 k0)+1) (Ar (List.length (A4 k0)) (fun i=>eI (nth (A4 k0) i)) fun i=>List.getD [List.map C.dem [C.v (Value.int IntKind.i64 (A6 k0))]] i []) (List.length (List.take (k0+1) (days w.2 t gs gc))) fun i=>eI (nth (List.take (k0+1) (days w.2 t gs gc)) i))/\MEq (Ca (Jg w.2 k0) [(A2 k0).3]) (Dl (Qt w.2 t gs gc k0) [(A2 k0).3] (List.map C.dem [C.v (Value.int IntKind.i64 (max (A0 k0) (A1 k0)+nth t.3 (Int.toNat (A2 k0).3)))])) (Jg w.2 (k0+1)) (Qt w.2 t gs gc (k0+1))/\gs=gs/\gc=gc/\(sR eI t.1)/\(sR eI t.2)/\(sR eI t.3)/\(sR eComp w.1.1)/\(sR eI w.1.2)/\(sR eI w.1.3)/\sR eTask w.2)/\(decide ((k0:Int)<(w.2.length:Int))=false->sQ eI (A4 k0) (days w.2 t gs gc))))) Tryz.func162 (by kernel_rfl) (by kernel_rfl) ?_
 simp only [stdS,imp_self,implies_true,and_true,decide_eq_true_eq,decide_eq_false_iff_not,Bi,Af,Akd]
 obtain ⟨f1,f2,f3⟩:=hf
 have hdl:=Qr w.plan t gs gc
 refine fun _=>⟨⟨fun key=>⟨rfl,fun h=>(by cases h)⟩,trivial⟩,fun k hk=>⟨fun hlt=>?_,fun hge=>?_⟩⟩
 ·have hk':k<w.plan.length:=by omega
  obtain ⟨⟨t1,t2⟩,⟨t3,t4⟩,t5,t6⟩:=ht k hk'
  have a1:=Yz hs hp k (nth w.plan k).one (k==gs&&(nth w.plan k).one==gc)
  have a2:=Yz hs hp k (nth w.plan k).other (k==gs&&(nth w.plan k).other==gc)
  have a3:=hs.1 (nth w.plan k).third.toNat
  have a4:=hs.2.2 (nth w.plan k).third.toNat
  have a5:=Ak5 hs hp gs gc k (nth w.plan k).third.toNat
  have hfl:=Ak4 w.plan t gs gc k
  have htk:((days w.plan t gs gc).take k).length=k:=by rw [List.length_take];omega
  have hd:nth (days w.plan t gs gc) k=Ajz w.plan t gs gc k:=by
   unfold days
   rw [Ep (by rw [List.length_range];omega),Cr (by omega)]
  have c1:=Aka S w t k (nth w.plan k).one gs gc hs hp (by omega) (by omega)
  have c2:=Aka S w t k (nth w.plan k).other gs gc hs hp (by omega) (by omega)
  rw [Akd] at c1 c2
  simp only [List.headD_cons]
  refine ⟨by omega,c1,c2,Akc S _ _ a1.1 a2.1,by omega,by omega,fun hu=>?_,Akc S _ _ (by omega) a5.1,?_⟩
  ·rw [Akf t5 (fun i hi=>(ht i (by omega)).2.2.1) hu]
  repeat (refine And.intro (by omega) ?_)
  refine ⟨Jb (by omega) (by rw [hd];rfl),?_,trivial⟩
  intro key
  refine ⟨?_,fun h=>.inl ?_⟩
  ·rw [Ake]
   unfold Ca
   rw [Bool.or_comm]
   congr 1
   rw [Bool.eq_iff_iff,Nt]
   exact ⟨fun h=>by rw [h];simp,fun h=>(beq_iff_eq.1 h).symm⟩
  ·unfold Dl
   cases he:eqK key [(nth w.plan k).third] with
   |true=>
    have:=Nt.1 he
    subst this
    have hfs:Es w.plan t gs gc (k+1)=(Es w.plan t gs gc k).set (nth w.plan k).third.toNat (Yy w.plan t gs gc (Es w.plan t gs gc k) k):=rfl
    unfold Qt
    rw [List.headD_cons,hfs,Ul,if_pos ⟨rfl,by omega⟩]
    rfl
   |false=>
    unfold Ca at h
    rw [he,Bool.false_or] at h
    obtain ⟨i,hi,rfl⟩:=Av7 h
    have h5:=(ht i (by omega)).2.2.1
    have hne:(nth w.plan i).third≠(nth w.plan k).third:=fun hh=>by
     have:=Nt.2 (congrArg (fun x=>[x]) hh)
     rw [this] at he;cases he
    unfold Qt
    rw [Es,Ul,if_neg (fun hh=>by have:=hh.1;simp only [List.headD_cons] at this;omega)]
    rfl
 ·exact Bn (by rw [List.take_of_length_le (by omega)])
theorem Av9 {Gl} (S:SP Gl) (w:Work) (gs gc:Int) (hb:w.book.ok=true) (hg:w.book.good w.plan=true):CO Gl 78 [Mz w,Jf gs gc] (.ret (L Ad (Il (days w.plan (w.book.ends false) gs gc) (days w.plan (w.book.ends true) gs gc)))):=by
 refine Ao S (let A0:=(Il (days w.2 (Book.ends w.1 false) gs gc) (days w.2 (Book.ends w.1 true) gs gc));let A1:=(days (Work.plan w) (Book.ends (Work.book w) false) gs gc);let A2:=(days w.2 (Book.ends w.1 false) gs gc);let A3:=(days (Work.plan w) (Book.ends (Work.book w) true) gs gc);let A4:=(days w.2 (Book.ends w.1 true) gs gc);let A5:=(↑(List.length A2):Int);let A6:=(Work.book w);((.r (.ret (Ij (Book.ends A6 false))) (.r (.ret (L eI A1)) (.r (.ret (Ij (Book.ends A6 true))) (.r (.ret (L eI A3)) (.loop (List.length A1) (fun k=>[v 23 (I k),v 22 (I (↑(List.length A1):Int)),v 5 (L eI A1),v 6 (L eI A3),tk 100 28,v 7 (Lt 100 Ad (List.take k (Il A1 A3)))]) fun k0=>.br .nil .nil))))),(CO Gl 163 [tBook A6] (.ret (Ij (Book.ends A6 false)))/\CO Gl 162 [Mz w,Ij (Book.ends A6 false),Jf gs gc] (.ret (L eI A1))/\CO Gl 164 [tBook A6] (.ret (Ij (Book.ends A6 true)))/\CO Gl 162 [Mz w,Ij (Book.ends A6 true),Jf gs gc] (.ret (L eI A3))/\(List.length A2<=maxLen->(0=(↑(0:Nat):Int)/\A5=A5/\(sR eI A2)/\(sR eI A4)/\(0:Nat)=(0:Nat))/\∀ (k0:Nat),k0<=List.length A1->(decide ((k0:Int)<(↑(List.length (days w.2 (Book.ends w.1 false) gs gc)):Int))=true->(0<=(k0:Int)/\(k0:Int)<A5)/\(0<=(k0:Int)/\(k0:Int)<(↑(List.length A4):Int))/\(List.length (List.take k0 A0)+1)*16<=140737488355328/\List.length (List.take k0 A0)+1<=140737488355328/\iR ((k0:Int)+1)/\k0<List.length A1/\(k0:Int)+1=(↑(k0+1):Int)/\A5=A5/\(sR eI A2)/\(sR eI A4)/\SEq (List.length (List.take k0 A0)+1) (Ar (List.length (List.take k0 A0)) (fun i=>Ad (nth (List.take k0 A0) i)) fun i=>List.getD [List.map C.dem (List.map C.dem [C.v (Value.int IntKind.i64 (nth A2 k0)),C.v (Value.int IntKind.i64 (nth A4 k0))])] i []) (List.length (List.take (k0+1) A0)) fun i=>Ad (nth (List.take (k0+1) A0) i))/\(decide ((k0:Int)<(↑(List.length (days w.2 (Book.ends w.1 false) gs gc)):Int))=false->sQ Ad (List.take k0 A0) A0))))) Tryz.func78 (by kernel_rfl) (by kernel_rfl) ?_
 obtain ⟨o1,o2,o3,_⟩:=Ak1 hb
 obtain ⟨g1,g2⟩:=Ak3 hg
 simp only [stdS,imp_self,implies_true,and_true,decide_eq_true_eq,decide_eq_false_iff_not,Bi,Af]
 have wd:=fun g=>Av8 S w (w.book.ends g) gs gc (Aum hb g) (by omega) w.book.comps.length (by omega) (Aun w.book g) (Auo hg)
 have w0:=wd false
 have w1:=wd true
 have l0:=Qr w.plan (w.book.ends false) gs gc
 have l1:=Qr w.plan (w.book.ends true) gs gc
 clear wd
 generalize days w.plan (w.book.ends false) gs gc=a at *
 generalize days w.plan (w.book.ends true) gs gc=c at *
 refine ⟨Auv S w.book (by omega),w0,Auw S w.book (by omega),w1,fun _ k hk=>⟨fun hlt=>?_,fun hge=>?_⟩⟩
 ·have hsp:=Ae2 a c
  have hn:nth (Il a c) k=⟨nth a k,nth c k⟩:=by
   unfold Il
   rw [Ep (by rw [List.length_range];omega),Cr (by omega)]
  have:((Il a c).take k).length<=1000:=by rw [List.length_take];omega
  exact ⟨by omega,by omega,by omega,by omega,by omega,by omega,by omega,Jb (by omega) (by rw [hn];rfl)⟩
 ·have hsp:=Ae2 a c
  exact Bn (by rw [List.take_of_length_le (by omega)])
def flatC (a:Comp):List Int:=[a.room,a.post.lo,a.post.hi,a.sheet.lo,a.sheet.hi,a.look.lo,a.look.hi]
theorem und20:∃ ms,Tryz.prog.underlying 20=some (.interface ms):=by
 obtain ⟨d,i,z,h1,_,_,_,_,_,h7,_⟩:=yok 20 (by kernel_rfl)
 obtain ⟨ms,rfl⟩:∃ ms,d=.interface ms:=h7
 exact ⟨ms,h1⟩
theorem k176:(Y 176).kind=.struct [(0,3),(1,174)]:=by kernel_rfl
theorem k418:(Y 418).kind=.struct [(0,9)]:=by kernel_rfl
theorem a176:(Y 176).agg=some true:=by kernel_rfl
theorem z176:(Y 176).zero.toArray=#[.int .i64 0,.int .i64 0]:=by kernel_rfl
theorem z418:(Y 418).zero.toArray=#[.string (ByteArray.mk #[])]:=by kernel_rfl
theorem z30:(Y 30).zero.toArray=#[.int .i64 0]:=by kernel_rfl
theorem Na:(Y 176).size=2:=by kernel_rfl
theorem s418:(Y 418).size=1:=by kernel_rfl
theorem s30:(Y 30).size=1:=by kernel_rfl
theorem Qu:(Y 176).known=true:=by kernel_rfl
theorem Ae6:(Y 418).known=true:=by kernel_rfl
theorem Zb:(Y 30).known=true:=by kernel_rfl
theorem ev_const {a:Act} {v:Value}:a.eval (.const v)=v:=rfl
theorem sl2 (p q v:Value):SL { tmps:=#[p,q]++(Array.replicate 14 undef).setIfInBounds 4 v,defers:=[] } 16 (upd (fun t=>#[p,q].getD t undef) 6 v) []:=by
 have:=(SL.start #[p,q] 16 (Nat.le_of_ble_eq_true rfl)).put (d:=6) (by decide) v
 simpa [Act.put] using this
theorem catch_idle (p q:Value) (w:World):
  CallsD Tryz.prog 249 #[p,q] .returning w fun e u' w'=>e=.returned (.tuple #[])/\u'=.returning/\w'=w:=by
 refine callsD_of_wpS Tryz.func249 rfl fun c₀ cs hu=>?_
 apply wpS_seq
 apply wpS_region
 simp [wpOpsS,go_sem,recoverD,hu,Tryz.ntmps249,Exit.thenS]
 have S:=sl2 p q .nilIface
 refine wpS_of_wp (wp_block (wp_seq (wp_region_list ?_)))
 generalize ({ tmps:=#[p,q]++(Array.replicate 14 undef).setIfInBounds 4 Value.nilIface,defers:=[] }:Act)=a at S ⊢
 refine Aj S (d:=8) (v:=.bool true) (w':=w) rfl (by decide) rfl ?_ fun a1 S1=>?_
 ·simp [execOp,S.eval,upd,Ub und20,ev_const,eqGuard]
 refine wp_cond_true (by simp [S1.eval,upd]) (wp_region_list ?_)
 refine Aj S1 (d:=2) (v:=.nilIface) (w':=w) rfl (by decide) rfl ?_ fun a2 S2=>?_
 ·simp [execOp,S1.eval,upd]
 cases c₀
 simp_all [wpList,bodyPostS,results,Tryz.results249,Exit.inBlock,S2.defers]
theorem Ava (b1 b2:Nat) (x y:Int) (older:List PanicEntry) (w:World) (h1:w.heap[b1]?=some (.cells #[.int .i64 0,.int .i64 0] 176 (0,0))) (h2:w.heap[b2]?=some (.cells #[.int .i64 0] 30 (0,0))) (hne:b1≠b2):
  CallsD Tryz.prog 249 #[.pointer (some ⟨b1,0,none⟩),.pointer (some ⟨b2,0,none⟩)] (.panicking ({ v:=.iface 176 (.agg #[.int .i64 x,.int .i64 y]),recovered:=false }::older)) w fun e u' w'=>
   e=.returned (.tuple #[])/\u'=.panicking ({ v:=.iface 176 (.agg #[.int .i64 x,.int .i64 y]),recovered:=true }::older)/\Same w w'/\w'.heap[b1]?=some (.cells #[.int .i64 x,.int .i64 y] 176 (0,0))/\w'.heap[b2]?=some (.cells #[.int .i64 7] 30 (0,0))/\
   ∀ b,b<w.heap.size->b≠b1->b≠b2->w'.heap[b]?=w.heap[b]?:=by
 have l1:b1<w.heap.size:=(Array.getElem?_eq_some_iff.1 h1).1
 have l2:b2<w.heap.size:=(Array.getElem?_eq_some_iff.1 h2).1
 refine callsD_of_wpS Tryz.func249 rfl fun c₀ cs hu=>?_
 apply wpS_seq
 apply wpS_region
 simp [wpOpsS,go_sem,recoverD,hu,Tryz.ntmps249,Exit.thenS]
 have S:=sl2 (.pointer (some ⟨b1,0,none⟩)) (.pointer (some ⟨b2,0,none⟩)) (.iface 176 (.agg #[.int .i64 x,.int .i64 y]))
 refine wpS_of_wp (wp_block (wp_seq (wp_region_list ?_)))
 generalize ({ tmps:=#[Value.pointer (some ⟨b1,0,none⟩),Value.pointer (some ⟨b2,0,none⟩)]++(Array.replicate 14 undef).setIfInBounds 4 (Value.iface 176 (.agg #[.int .i64 x,.int .i64 y])),defers:=[] }:Act)=a at S ⊢
 refine Aj S (d:=8) (v:=.bool false) (w':=w) rfl (by decide) rfl ?_ fun a1 S1=>?_
 ·simp [execOp,S.eval,upd,Kg und20,ev_const,eqGuard]
 refine wp_cond_false (by simp [S1.eval,upd]) (wp_seq (wp_region_list ?_))
 refine Aj S1 (d:=9) (v:=.tuple #[.agg #[.int .i64 x,.int .i64 y],.bool true]) (w':=w) rfl (by decide) rfl ?_ fun a2 S2=>?_
 ·simp [execOp,S1.eval,upd,Kh (yok 176 Qu) ⟨_,k176⟩]
 refine Aj S2 (d:=10) (v:=.bool true) (w':=w) rfl (by decide) rfl ?_ fun a3 S3=>?_
 ·simp [execOp,S2.eval,upd,Instr.extract]
 refine Aj S3 (d:=11) (v:=.agg #[.int .i64 x,.int .i64 y]) (w':=w) rfl (by decide) rfl ?_ fun a4 S4=>?_
 ·simp [execOp,S3.eval,upd,Instr.extract]
 refine wp_cond_true (by simp [S4.eval,upd]) (wp_seq (wp_region_list ?_))
 have hal:=Fj (a:=a4) (w:=w) (o:={ dst:=some 3,op:=Op.alloc 176,type:=0,pos:= "give.go:102",after:=#[],guard:=none }) yok (t:=176) rfl Qu
 rw [z176] at hal
 refine Aj S4 (d:=3) rfl (by decide) rfl hal fun a5 S5=>?_
 obtain ⟨w1,hw1⟩:∃ w1,w.alloc (.cells #[.int .i64 0,.int .i64 0] 176 (0,0))=w1:=⟨_,rfl⟩
 have hw1':w.alloc (.cells #[.int .i64 0,.int .i64 0] 176)=w1:=hw1
 rw [hw1']
 have g1:Same w w1:=by rw [<-hw1];exact Eo _ _
 have g2:∀ b,b<w.heap.size->w1.heap[b]?=w.heap[b]?:=fun b hb=>by rw [<-hw1];exact Cm _ _ hb
 have g3:w1.heap[w.heap.size]?=some (.cells #[.int .i64 0,.int .i64 0] 176 (0,0)):=by rw [<-hw1];exact World.alloc_heap_new w _
 obtain ⟨r1,r2,r3,r4⟩:=Cz (a:=a5) (w:=w1) (v:=.agg #[.int .i64 x,.int .i64 y]) (b:=w.heap.size) (o:={ dst:=none,op:=Op.store 176 (Operand.tmp 3) (Operand.tmp 11),type:=0,pos:= "give.go:102",after:=#[{ on:=0,ground:=Ground.data },{ on:=0,ground:=Ground.phase }],guard:=none })
  yok (t:=176) rfl Qu (by simp [S5.eval,upd]) (by simp [S5.eval,upd]) (by rw [Na];rfl) (by rw [Na];rfl) (by simp [Value.cells,Value.oneCell']) g3
 refine Cy S5 rfl rfl r1 fun a6 S6=>?_
 generalize w1.setRow w.heap.size (Value.agg #[.int .i64 x,.int .i64 y]).cells=w2 at r2 r3 r4 ⊢
 refine wp_region_list ?_
 refine Aj S6 (d:=12) (v:=.agg #[.int .i64 x,.int .i64 y]) (w':=w2) rfl (by decide) rfl ?_ fun a7 S7=>?_
 ·exact Api yok (b:=w.heap.size) (cur:=#[.int .i64 x,.int .i64 y]) (t:=176) rfl a176 (by simp [S6.eval,upd]) (by rw [Na];rfl) r2
 have g4:w2.heap[b1]?=some (.cells #[.int .i64 0,.int .i64 0] 176 (0,0)):=by rw [r4 _ (by omega),g2 _ l1];exact h1
 obtain ⟨q1,q2,q3,q4⟩:=Cz (a:=a7) (w:=w2) (v:=.agg #[.int .i64 x,.int .i64 y]) (b:=b1) (o:={ dst:=none,op:=Op.store 176 (Operand.tmp 0) (Operand.tmp 12),type:=0,pos:= "give.go:105",after:=#[{ on:=0,ground:=Ground.data },{ on:=0,ground:=Ground.phase }],guard:=none })
  yok (t:=176) rfl Qu (by simp [S7.eval,upd]) (by simp [S7.eval,upd]) (by rw [Na];rfl) (by rw [Na];rfl) (by simp [Value.cells,Value.oneCell']) g4
 refine Cy S7 rfl rfl q1 fun a8 S8=>?_
 generalize w2.setRow b1 (Value.agg #[.int .i64 x,.int .i64 y]).cells=w3 at q2 q3 q4 ⊢
 have g5:w3.heap[b2]?=some (.cells #[.int .i64 0] 30 (0,0)):=by rw [q4 _ (fun h=>hne h.symm),r4 _ (by omega),g2 _ l2];exact h2
 obtain ⟨t1,t2,t3,t4⟩:=Cz (a:=a8) (w:=w3) (v:=.int .i64 7) (b:=b2) (o:={ dst:=none,op:=Op.store 30 (Operand.tmp 1) (Operand.const (Value.int IntKind.i64 7)),type:=0,pos:= "give.go:105",after:=#[{ on:=1,ground:=Ground.chain },{ on:=0,ground:=Ground.phase },{ on:=1,ground:=Ground.phase }],guard:=none })
  yok (t:=30) rfl Zb (by simp [S8.eval,upd]) rfl (by rw [s30];rfl) (by rw [s30];rfl) (by simp [Value.cells,Value.oneCell']) g5
 refine Cy S8 rfl rfl t1 fun a9 S9=>?_
 generalize w3.setRow b2 (Value.int .i64 7).cells=w4 at t2 t3 t4 ⊢
 have e1:w4.heap[b1]?=some (.cells #[.int .i64 x,.int .i64 y] 176 (0,0)):=by rw [t4 _ hne];exact q2
 have e3:∀ b,b<w.heap.size->b≠b1->b≠b2->w4.heap[b]?=w.heap[b]?:=fun b hb h1 h2=>by rw [t4 _ h2,q4 _ h1,r4 _ (by omega),g2 _ hb]
 have e4:Same w w4:=((g1.trans r3).trans q3).trans t3
 exact ⟨S9.defers,_,rfl,.tuple #[],by simp [results,Tryz.results249],rfl,rfl,e4,e1,t2,e3⟩
theorem catch_text (b1 b2:Nat) (x:ByteArray) (older:List PanicEntry) (w:World) (h1:w.heap[b1]?=some (.cells #[.int .i64 0,.int .i64 0] 176 (0,0))) (h2:w.heap[b2]?=some (.cells #[.int .i64 0] 30 (0,0))) (hne:b1≠b2):
  CallsD Tryz.prog 249 #[.pointer (some ⟨b1,0,none⟩),.pointer (some ⟨b2,0,none⟩)] (.panicking ({ v:=.iface 418 (.agg #[.string x]),recovered:=false }::older)) w fun e u' w'=>
   e=.returned (.tuple #[])/\u'=.panicking ({ v:=.iface 418 (.agg #[.string x]),recovered:=true }::older)/\Same w w'/\w'.heap[b1]?=some (.cells #[.int .i64 0,.int .i64 0] 176 (0,0))/\w'.heap[b2]?=some (.cells #[.int .i64 4] 30 (0,0))/\
   ∀ b,b<w.heap.size->b≠b1->b≠b2->w'.heap[b]?=w.heap[b]?:=by
 have l1:b1<w.heap.size:=(Array.getElem?_eq_some_iff.1 h1).1
 have l2:b2<w.heap.size:=(Array.getElem?_eq_some_iff.1 h2).1
 refine callsD_of_wpS Tryz.func249 rfl fun c₀ cs hu=>?_
 apply wpS_seq
 apply wpS_region
 simp [wpOpsS,go_sem,recoverD,hu,Tryz.ntmps249,Exit.thenS]
 have S:=sl2 (.pointer (some ⟨b1,0,none⟩)) (.pointer (some ⟨b2,0,none⟩)) (.iface 418 (.agg #[.string x]))
 refine wpS_of_wp (wp_block (wp_seq (wp_region_list ?_)))
 generalize ({ tmps:=#[Value.pointer (some ⟨b1,0,none⟩),Value.pointer (some ⟨b2,0,none⟩)]++(Array.replicate 14 undef).setIfInBounds 4 (Value.iface 418 (.agg #[.string x])),defers:=[] }:Act)=a at S ⊢
 refine Aj S (d:=8) (v:=.bool false) (w':=w) rfl (by decide) rfl ?_ fun a1 S1=>?_
 ·simp [execOp,S.eval,upd,Kg und20,ev_const,eqGuard]
 refine wp_cond_false (by simp [S1.eval,upd]) (wp_seq (wp_region_list ?_))
 obtain ⟨z,hz⟩:=Uc (Y:=Y) (t:=176) (t':=418) (xt:=20) (v:=.agg #[.string x]) (w:=w) yok ⟨_,k176⟩ (by decide)
 refine Aj S1 (d:=9) (v:=.tuple #[z,.bool false]) (w':=w) rfl (by decide) rfl ?_ fun a2 S2=>?_
 ·simp [execOp,S1.eval,upd,hz]
 refine Aj S2 (d:=10) (v:=.bool false) (w':=w) rfl (by decide) rfl ?_ fun a3 S3=>?_
 ·simp [execOp,S2.eval,upd,Instr.extract]
 refine Aj S3 (d:=11) (v:=z) (w':=w) rfl (by decide) rfl ?_ fun a4 S4=>?_
 ·simp [execOp,S3.eval,upd,Instr.extract]
 refine wp_cond_false (by simp [S4.eval,upd]) (wp_seq (wp_region_list ?_))
 refine Aj S4 (d:=13) (v:=.tuple #[.agg #[.string x],.bool true]) (w':=w) rfl (by decide) rfl ?_ fun a5 S5=>?_
 ·simp [execOp,S4.eval,upd,Kh (yok 418 Ae6) ⟨_,k418⟩]
 refine Aj S5 (d:=14) (v:=.bool true) (w':=w) rfl (by decide) rfl ?_ fun a6 S6=>?_
 ·simp [execOp,S5.eval,upd,Instr.extract]
 refine Aj S6 (d:=15) (v:=.agg #[.string x]) (w':=w) rfl (by decide) rfl ?_ fun a7 S7=>?_
 ·simp [execOp,S6.eval,upd,Instr.extract]
 refine wp_cond_true (by simp [S7.eval,upd]) (wp_seq (wp_region_list ?_))
 have hal:=Fj (a:=a7) (w:=w) (o:={ dst:=some 4,op:=Op.alloc 418,type:=0,pos:= "give.go:102",after:=#[],guard:=none }) yok (t:=418) rfl Ae6
 rw [z418] at hal
 refine Aj S7 (d:=4) rfl (by decide) rfl hal fun a8 S8=>?_
 obtain ⟨w1,hw1⟩:∃ w1,w.alloc (.cells #[.string (ByteArray.mk #[])] 418 (0,0))=w1:=⟨_,rfl⟩
 have hw1':w.alloc (.cells #[.string (ByteArray.mk #[])] 418)=w1:=hw1
 rw [hw1']
 have g1:Same w w1:=by rw [<-hw1];exact Eo _ _
 have g2:∀ b,b<w.heap.size->w1.heap[b]?=w.heap[b]?:=fun b hb=>by rw [<-hw1];exact Cm _ _ hb
 have g3:w1.heap[w.heap.size]?=some (.cells #[.string (ByteArray.mk #[])] 418 (0,0)):=by rw [<-hw1];exact World.alloc_heap_new w _
 obtain ⟨r1,r2,r3,r4⟩:=Cz (a:=a8) (w:=w1) (v:=.agg #[.string x]) (b:=w.heap.size) (o:={ dst:=none,op:=Op.store 418 (Operand.tmp 4) (Operand.tmp 15),type:=0,pos:= "give.go:102",after:=#[{ on:=0,ground:=Ground.data },{ on:=0,ground:=Ground.phase }],guard:=none })
  yok (t:=418) rfl Ae6 (by simp [S8.eval,upd]) (by simp [S8.eval,upd]) (by rw [s418];rfl) (by rw [s418];rfl) (by simp [Value.cells,Value.oneCell']) g3
 refine Cy S8 rfl rfl r1 fun a9 S9=>?_
 generalize w1.setRow w.heap.size (Value.agg #[.string x]).cells=w2 at r2 r3 r4 ⊢
 refine wp_region_list ?_
 have g5:w2.heap[b2]?=some (.cells #[.int .i64 0] 30 (0,0)):=by rw [r4 _ (by omega),g2 _ l2];exact h2
 obtain ⟨t1,t2,t3,t4⟩:=Cz (a:=a9) (w:=w2) (v:=.int .i64 4) (b:=b2) (o:={ dst:=none,op:=Op.store 30 (Operand.tmp 1) (Operand.const (Value.int IntKind.i64 4)),type:=0,pos:= "give.go:159",after:=#[{ on:=0,ground:=Ground.phase }],guard:=none })
  yok (t:=30) rfl Zb (by simp [S9.eval,upd]) rfl (by rw [s30];rfl) (by rw [s30];rfl) (by simp [Value.cells,Value.oneCell']) g5
 refine Cy S9 rfl rfl t1 fun a10 S10=>?_
 generalize w2.setRow b2 (Value.int .i64 4).cells=w4 at t2 t3 t4 ⊢
 have e1:w4.heap[b1]?=some (.cells #[.int .i64 0,.int .i64 0] 176 (0,0)):=by rw [t4 _ hne,r4 _ (by omega),g2 _ l1];exact h1
 have e3:∀ b,b<w.heap.size->b≠b1->b≠b2->w4.heap[b]?=w.heap[b]?:=fun b hb h1 h2=>by rw [t4 _ h2,r4 _ (by omega),g2 _ hb]
 have e4:Same w w4:=(g1.trans r3).trans t3
 exact ⟨S10.defers,_,rfl,.tuple #[],by simp [results,Tryz.results249],rfl,rfl,e4,e1,t2,e3⟩
theorem Avb:Tryz.prog.built 176 []=some #[.int .i64 0,.int .i64 0]:=by kernel_rfl
def attV:Ending->Value
 | .panicked [{ v:=.iface 176 x,.. }]=>.tuple #[x,.int .i64 7]
 | .panicked [{ v:=.iface 418 _,.. }]=>.tuple #[.agg #[.int .i64 0,.int .i64 0],.int .i64 4]
 |_=>.tuple #[.agg #[.int .i64 0,.int .i64 0],.int .i64 0]
def attW (w:World):World:=(w.alloc (.cells #[.int .i64 0,.int .i64 0] 176 (0,0))).alloc (.cells #[.int .i64 0] 30 (0,0))
structure AttOK (w w':World) (en:Ending):Prop where
 one:w'.heap[w.heap.size]?=some (.cells #[.int .i64 0,.int .i64 0] 176 (0,0))
 two:w'.heap[w.heap.size+1]?=some (.cells #[.int .i64 0] 30 (0,0))
 en:en=.returned (.tuple #[])∨(∃ x y,en=.panicked [{ v:=.iface 176 (.agg #[.int .i64 x,.int .i64 y]),recovered:=false }])∨∃ s,en=.panicked [{ v:=.iface 418 (.agg #[.string s]),recovered:=false }]
theorem att_results {a:Act} {w:World} {b1 b2:Nat} {cs:Array Value} {x:Value} (h1:a.tmps.getD 2 undef=.pointer (some ⟨b1,0,none⟩)) (h2:a.tmps.getD 3 undef=.pointer (some ⟨b2,0,none⟩)) (hc:cs.size=2)
  (g1:w.heap[b1]?=some (.cells cs 176 (0,0))) (g2:w.heap[b2]?=some (.cells #[x] 30 (0,0))):(results Tryz.f159 a.tmps).run Tryz.prog w=.ok (.tuple #[.agg cs,x]) w:=by
 have l1:=Jq yok a176 (w:=w) (b:=b1) (off:=0) (us:=cs.toList) (by rw [Na];simpa using hc) fun j u hj=>by
  simp only [World.cell?,g1,Nat.zero_add]
  simpa using hj
 have l2:=Jr yok (t:=30) (by kernel_rfl) (w:=w) (b:=b2) (off:=0) (u:=x) (by simp [World.cell?,g2])
 have he:Tryz.f159.results.mapM (Aq a.tmps)=List.toArray <$> Tryz.f159.results.toList.mapM (Aq a.tmps):=Array.mapM_eq_mapM_toList ..
 have he2:results Tryz.f159 a.tmps=(Tryz.f159.results.mapM (Aq a.tmps) >>= fun vs=>pure (if h:vs.size=1 then vs[0] else .tuple vs)):=rfl
 have hrun:([ResultVar.cell 2 176,ResultVar.cell 3 30].mapM (Aq a.tmps)).run Tryz.prog w=.ok [.agg cs,x] w:=by
  have r1:(Aq a.tmps (.cell 2 176)).run Tryz.prog w=.ok (.agg cs) w:=by simp [Aq,h1,asAddr,l1]
  have r2:(Aq a.tmps (.cell 3 30)).run Tryz.prog w=.ok x w:=by simp [Aq,h2,asAddr,l2]
  rw [Gz,r1,Result.andThen_ok,Gz,r2,Result.andThen_ok]
  simp
 rw [he2,he,Tryz.results159]
 simp only [Sem.run_bind,Sem.run_map,hrun,Result.andThen_ok,Sem.run_pure]
 rfl
theorem attempt_calls (g:FuncId) (hg:Gy Tryz.prog g) (us vs:Array Value) (w:World) (R:Ending->World->Prop) (hcall:Calls Tryz.prog g (us++vs) (attW w) R) (hR:∀ en w',R en w'->AttOK w w' en):
  Calls Tryz.prog 159 #[.func (.func g) us vs] w fun en w''=>∃ en0 w',R en0 w'/\Same w' w''/\(∀ b,b<w'.heap.size->b≠w.heap.size->b≠w.heap.size+1->w''.heap[b]?=w'.heap[b]?)/\en=.returned (attV en0):=by
 go_enter_defers Tryz.func159,Tryz.ntmps159
 have S:SL { tmps:=#[Value.func (Fn.func g) us vs,undef,undef,undef,undef,undef,undef,undef],defers:=[] } 8 (fun t=>#[Value.func (Fn.func g) us vs].getD t undef) []:=by
  exact SL.start #[Value.func (Fn.func g) us vs] 8 (Nat.le_of_ble_eq_true rfl)
 generalize ({ tmps:=#[Value.func (Fn.func g) us vs,undef,undef,undef,undef,undef,undef,undef],defers:=[] }:Act)=a at S ⊢
 refine wp_seq (wp_region_list ?_)
 have hal:=Fj (a:=a) (w:=w) (o:={ dst:=some 2,op:=Op.alloc 176,type:=0,pos:= "give.go:100",after:=#[],guard:=none }) yok (t:=176) rfl Qu
 rw [z176] at hal
 refine Aj S (d:=2) rfl (by decide) rfl hal fun a1 S1=>?_
 have hal:=Fj (a:=a1) (w:=w.alloc (.cells #[.int .i64 0,.int .i64 0] 176 (0,0))) (o:={ dst:=some 3,op:=Op.alloc 30,type:=0,pos:= "give.go:100",after:=#[],guard:=none }) yok (t:=30) rfl Zb
 rw [z30,World.size_alloc] at hal
 refine Aj S1 (d:=3) rfl (by decide) rfl hal fun a2 S2=>?_
 show Code.wp Tryz.prog _ _ a2 (attW w)
 generalize hw1:attW w=w1 at hcall ⊢
 refine wp_seq (wp_region_list ?_)
 refine Aj S2 (d:=4) (v:=.func (.func 249) #[] #[.pointer (some ⟨w.heap.size,0,none⟩),.pointer (some ⟨w.heap.size+1,0,none⟩)]) (w':=w1) rfl (by decide) rfl ?_ fun a3 S3=>?_
 ·simp [execOp,S2.eval,upd,Instr.makeFunc]
 refine Sy S3 (d:={ target:=.fn (.func 249) #[.pointer (some ⟨w.heap.size,0,none⟩),.pointer (some ⟨w.heap.size+1,0,none⟩)],args:=#[] }) rfl rfl ?_ fun a4 S4=>?_
 ·simp [execOp,resolve,S3.eval,upd,Deferred.ofValue]
 refine wp_seq (wp_region_list ?_)
 refine Aj S4 (d:=5) (v:=.func (.func g) us vs) (w':=w1) rfl (by decide) rfl ?_ fun a5 S5=>?_
 ·simp [execOp,S4.eval,upd]
 have hinv:∀ (p q:Value) (w:World),(invoke (.fn (.func 249) #[p,q]) #[]).run Tryz.prog w=.ok (.enter 249 #[p,q]) w:=fun p q w=>by
  have h2:(Tryz.f249.name== "runtime.NumGoroutine")=false:=by kernel_rfl
  have h3:Tryz.f249.body.isNone=false:=by kernel_rfl
  have h2':Tryz.f249.name≠ "runtime.NumGoroutine":=by simpa using h2
  have h3':Tryz.f249.body≠none:=by intro hh;rw [hh] at h3;cases h3
  simp [invoke,callFunc,Tryz.func249,h2',h3']
 refine Sz S5 (d:=6) (g:=g) (vs:=us++vs) (R:=R) rfl (by decide) rfl ?_ hcall (fun v w2 hr a6 S6=>?_) (fun ch w2 hr=>?_) (fun w2 hr=>?_)
 ·have:=Nv (P:=Tryz.prog) (a:=a5) (w:=w1) (o:={ dst:=some 6,op:=Op.call { callee:=Callee.value (Operand.tmp 5),args:=#[],argTypes:=#[] },type:=0,pos:= "give.go:112",after:=#[{ on:=0,ground:=Ground.data }],guard:=none }) rfl (by simp [S5.eval,upd]) hg (us:=us) (cvs:=vs)
  simpa using this
 ·obtain ⟨c1,c2,c3⟩:=hR _ _ hr
  have l1:w.heap.size<w2.heap.size:=(Array.getElem?_eq_some_iff.1 c1).1
  have l2:w.heap.size+1<w2.heap.size:=(Array.getElem?_eq_some_iff.1 c2).1
  refine wp_seq (wp_region_list ?_)
  refine Aj S6 (d:=7) (v:=.agg #[.int .i64 0,.int .i64 0]) (w':=w2) rfl (by decide) rfl ?_ fun a7 S7=>?_
  ·simp [execOp,run_build (P:=Tryz.prog) w2 176 #[] _ Avb]
  obtain ⟨q1,q2,q3,q4⟩:=Cz (a:=a7) (w:=w2) (v:=.agg #[.int .i64 0,.int .i64 0]) (b:=w.heap.size) (o:={ dst:=none,op:=Op.store 176 (Operand.tmp 2) (Operand.tmp 7),type:=0,pos:= "give.go:113",after:=#[{ on:=0,ground:=Ground.data },{ on:=0,ground:=Ground.phase }],guard:=none })
   yok (t:=176) rfl Qu (by simp [S7.eval,upd]) (by simp [S7.eval,upd]) (by rw [Na];rfl) (by rw [Na];rfl) (by simp [Value.cells,Value.oneCell']) c1
  refine Cy S7 rfl rfl q1 fun a8 S8=>?_
  generalize w2.setRow w.heap.size (Value.agg #[.int .i64 0,.int .i64 0]).cells=w3 at q2 q3 q4 ⊢
  have g5:w3.heap[w.heap.size+1]?=some (.cells #[.int .i64 0] 30 (0,0)):=by rw [q4 _ (by omega)];exact c2
  obtain ⟨t1,t2,t3,t4⟩:=Cz (a:=a8) (w:=w3) (v:=.int .i64 0) (b:=w.heap.size+1) (o:={ dst:=none,op:=Op.store 30 (Operand.tmp 3) (Operand.const (Value.int IntKind.i64 0)),type:=0,pos:= "give.go:113",after:=#[{ on:=1,ground:=Ground.chain },{ on:=0,ground:=Ground.phase },{ on:=1,ground:=Ground.phase }],guard:=none })
   yok (t:=30) rfl Zb (by simp [S8.eval,upd]) rfl (by rw [s30];rfl) (by rw [s30];rfl) (by simp [Value.cells,Value.oneCell']) g5
  refine Cy S8 rfl rfl t1 fun a9 S9=>?_
  generalize w3.setRow (w.heap.size+1) (Value.int .i64 0).cells=w4 at t2 t3 t4 ⊢
  refine wp_ret ?_
  show Leaves Tryz.prog Tryz.f159 a9.tmps _ a9.defers .returning w4
  rw [S9.defers]
  refine leaves_cons (by simp) (hinv _ _ w4) ((catch_idle _ _ w4).mono ?_)
  rintro e u' w5 ⟨rfl,rfl,rfl⟩
  have r1:=att_results (a:=a9) (w:=w5) (b1:=w.heap.size) (b2:=w.heap.size+1) (by rw [S9.get 2 (by decide)];simp [upd]) (by rw [S9.get 3 (by decide)];simp [upd]) rfl (by rw [t4 _ (by omega)];exact q2) t2
  refine ⟨_,r1,_,_,hr,q3.trans t3,fun b hb h1 h2=>by rw [t4 _ h2,q4 _ h1],?_⟩
  rcases c3 with h|⟨_,_,h⟩|⟨_,h⟩<;>cases h
  rfl
 ·obtain ⟨c1,c2,c3⟩:=hR _ _ hr
  have l1:w.heap.size<w2.heap.size:=(Array.getElem?_eq_some_iff.1 c1).1
  have l2:w.heap.size+1<w2.heap.size:=(Array.getElem?_eq_some_iff.1 c2).1
  show Leaves Tryz.prog Tryz.f159 a5.tmps _ a5.defers (.panicking ch) w2
  rw [S5.defers]
  refine leaves_cons (by simp) (hinv _ _ w2) ?_
  have e1:a5.tmps.getD 2 undef=.pointer (some ⟨w.heap.size,0,none⟩):=by rw [S5.get 2 (by decide)];simp [upd]
  have e2:a5.tmps.getD 3 undef=.pointer (some ⟨w.heap.size+1,0,none⟩):=by rw [S5.get 3 (by decide)];simp [upd]
  rcases c3 with h|⟨x,y,h⟩|⟨s,h⟩
  ·cases h
  ·obtain rfl:ch=[{ v:=.iface 176 (.agg #[.int .i64 x,.int .i64 y]),recovered:=false }]:=Ending.panicked.inj h
   refine (Ava _ _ x y [] w2 c1 c2 (by omega)).mono ?_
   rintro e u' w5 ⟨rfl,rfl,g1,g2,g3,g4⟩
   have r1:=att_results (a:=a5) (w:=w5) e1 e2 rfl g2 g3
   exact ⟨_,r1,_,_,hr,g1,g4,rfl⟩
  ·obtain rfl:ch=[{ v:=.iface 418 (.agg #[.string s]),recovered:=false }]:=Ending.panicked.inj h
   refine (catch_text _ _ s [] w2 c1 c2 (by omega)).mono ?_
   rintro e u' w5 ⟨rfl,rfl,g1,g2,g3,g4⟩
   have r1:=att_results (a:=a5) (w:=w5) e1 e2 rfl g2 g3
   exact ⟨_,r1,_,_,hr,g1,g4,rfl⟩
 ·obtain ⟨_,_,c3⟩:=hR _ _ hr
  rcases c3 with h|⟨_,_,h⟩|⟨_,h⟩<;>cases h
variable {Gl:World->Prop}
inductive AttR:Res->List D->Prop
 |ok:AttR (.ret (.tup [])) [.agg [Ci 0,Ci 0],.c (Ci 0)]
 |foul (x y:Int):AttR (.pan (.iface 176 (.agg #[.int .i64 x,.int .i64 y]))) [.agg [Ci x,Ci y],.c (Ci 7)]
 |text (s:ByteArray):AttR (.pan (.iface 418 (.agg #[.string s]))) [.agg [Ci 0,Ci 0],.c (Ci 4)]
theorem attW_size (w:World):(attW w).heap.size=w.heap.size+2:=by simp [attW,World.size_alloc]
theorem attW_lt (w:World) {b:Nat} (h:b<w.heap.size):(attW w).heap[b]?=w.heap[b]?:=by
 unfold attW
 rw [Cm _ _ (by rw [World.size_alloc];omega),Cm _ _ h]
theorem attW_same (w:World):Same w (attW w):=(Eo _ _).trans (Eo _ _)
theorem attW_one (w:World):(attW w).heap[w.heap.size]?=some (.cells #[.int .i64 0,.int .i64 0] 176 (0,0)):=by
 unfold attW
 rw [Cm _ _ (by rw [World.size_alloc];omega)]
 exact World.alloc_heap_new w _
theorem Avc (w:World):(attW w).heap[w.heap.size+1]?=some (.cells #[.int .i64 0] 30 (0,0)):=by
 unfold attW
 have:=World.alloc_heap_new (w.alloc (.cells #[.int .i64 0,.int .i64 0] 176 (0,0))) (.cells #[.int .i64 0] 30 (0,0))
 rw [World.size_alloc] at this
 exact this
theorem attW_keep {vis:Nat->Nat} {w:World} (h:∀ b,w.heap.size<=b->vis b=0):KeepV vis w (attW w):=
 ⟨fun b i hi=>World.cell?_of_block (attW_lt w (by
  rcases Nat.lt_or_ge b w.heap.size with hb|hb
  ·exact hb
  ·rw [h b hb] at hi;omega)),fun b hb es c he=>by rw [attW_lt w (Array.getElem?_eq_some_iff.1 he).1];exact he,Mb fun b h=>attW_lt w h⟩
theorem att_ret {base:Nat} {vis:Nat->Nat} {w:World} (x y e:Int):Fz base vis w (.tup [.agg [Ci x,Ci y],.c (Ci e)]) (.tuple #[.agg #[.int .i64 x,.int .i64 y],.int .i64 e]):=by
 refine ⟨_,rfl,rfl,fun j d v hd hv=>?_⟩
 match j,hd,hv with
 |0,hd,hv=>
  simp at hd hv;subst hd;subst hv
  refine ⟨_,rfl,rfl,fun j c u hc hu=>?_⟩
  match j,hc,hu with
  |0,hc,hu=>simp at hc hu;subst hc;subst hu;exact .v _ rfl
  |1,hc,hu=>simp at hc hu;subst hc;subst hu;exact .v _ rfl
  |j+2,hc,hu=>simp at hc
 |1,hd,hv=>simp at hd hv;subst hd;subst hv;exact Rep.v _ rfl
 |j+2,hd,hv=>simp at hd
theorem Akg (S:Set Tryz.prog Y Gl) {g:FuncId} {fst caps:List T} {r:Res} {ds:List D} (h:CO Gl g (fst++caps) r) (ha:AttR r ds):CO Gl 159 [.fn g fst caps] (.ret (.tup ds)):=by
 refine ⟨⟨_,Tryz.func159,Aq4,by kernel_rfl⟩,fun vis w vs hvis hgl hargs=>?_⟩
 simp only [Ab,Aa] at hargs
 obtain ⟨v,vs1,hvs,⟨us,cvs,rfl,hu,hc⟩,rfl⟩:=hargs
 obtain rfl:vs=#[.func (.func g) us cvs]:=by rw [<-Array.toArray_toList (xs:=vs),hvs]
 have hb:Below w.heap.size w (attW w):=⟨(attW_same w).os,(attW_same w).tape,(attW_same w).output,(attW_same w).size,fun k hk=>attW_lt w hk⟩
 have hext:Ext (Lo w.heap.size) (Gh0 vis) (Gh0 vis) w (attW w):=⟨fun _=>Nat.le_refl _,attW_keep hvis,fun b hb=>attW_lt w hb⟩
 have hrel:Ab (Gh0 vis) (attW w) (Lo (attW w).heap.size) (fst++caps) (us++cvs).toList:=by
  rw [Array.toList_append]
  exact Ab.weak (fun b hb=>by have:=attW_size w;unfold Lo at hb ⊢;omega) ((Ab.mono hext (fun _ _=>rfl) hu).app (Ab.mono hext (fun _ _=>rfl) hc))
 have hcall:=h.2 vis (attW w) (us++cvs) (fun b hb=>hvis b (by rw [attW_size] at hb;omega)) (S.gl _ _ hgl hb) hrel
 refine (attempt_calls g h.1 us cvs w _ hcall fun en w' ⟨hbe,han⟩=>⟨?_,?_,?_⟩).mono ?_
 ·rw [hbe.block _ (by rw [attW_size];omega)];exact attW_one w
 ·rw [hbe.block _ (by rw [attW_size];omega)];exact Avc w
 ·cases ha with
  |ok=>
   obtain ⟨v,vis',rfl,_,_,vs,rfl,hr⟩:=han
   obtain rfl:vs=#[]:=by
    have:=hr.1
    exact Array.eq_empty_of_size_eq_zero (by simpa using this.symm)
   exact .inl rfl
  |foul x y=>exact .inr (.inl ⟨x,y,han⟩)
  |text s=>exact .inr (.inr ⟨s,han⟩)
 ·rintro en w2 ⟨en0,w',⟨hbe,han⟩,hs,hh,rfl⟩
  have hsz:w.heap.size<=w2.heap.size:=by
   have h1:=hbe.size
   have h2:=hs.size
   rw [attW_size] at h1;omega
  refine ⟨⟨hs.os.trans (hbe.os.trans hb.os),hs.tape.trans (hbe.tape.trans hb.tape),hs.output.trans (hbe.output.trans hb.output),hsz,fun k hk=>?_⟩,_,vis,rfl,fun _ _=>rfl,fun b hb=>hvis b (by omega),?_⟩
  ·have h1:=hbe.size
   rw [attW_size] at h1
   rw [hh k (by omega) (by omega) (by omega),hbe.block k (by rw [attW_size];omega),attW_lt w hk]
  ·cases ha with
   |ok=>
    obtain ⟨v,vis',rfl,_⟩:=han
    exact att_ret 0 0 0
   |foul x y=>
    have han:en0=_:=han
    subst han
    exact att_ret x y 7
   |text s=>
    have han:en0=_:=han
    subst han
    exact att_ret 0 0 4
def Qv (b:Book) (x:Task):List C:=[.l eComp b.comps,.l eI b.dues,.l eI b.sheets,Ci x.one,Ci x.other,Ci x.third]
theorem Akh {Gl} (S:SP Gl) (b:Book) (x:Task):CO Gl 250 [.d (.agg (Qv b x))] (.ret (B (!(b.isComp x.one&&b.isComp x.other&&b.isComp x.third)))):=by
 refine Ao S (let A0:=(bif !Book.isComp b x.1 then true else !Book.isComp b x.2);let A1:=(eqB (!Book.isComp b x.1) false=true->eqB (!Book.isComp b x.1) false=true);let A2:=(eqB A0 false=true->eqB A0 false=true);((.r (.ret (B (Book.isComp b x.1))) (.r (.ret (B (Book.isComp b x.2))) (.r (.ret (B (Book.isComp b x.3))) .nil))),(CO Gl 323 [tBook b,I x.1] (.ret (B (Book.isComp b x.1)))/\A1/\A1/\A1/\A1/\A1/\(eqB (!Book.isComp b x.1) false=true->CO Gl 323 [tBook b,I x.2] (.ret (B (Book.isComp b x.2))))/\A1/\((!Book.isComp b x.1)=false->eqB (!Book.isComp b x.1) false=true)/\A2/\A2/\A2/\A2/\A2/\(eqB A0 false=true->CO Gl 323 [tBook b,I x.3] (.ret (B (Book.isComp b x.3))))/\A2/\(A0=false->eqB A0 false=true)/\(bif bif !Book.isComp b x.1 then true else !Book.isComp b x.2 then true else !Book.isComp b x.3)=!(Book.isComp b x.1&&Book.isComp b x.2&&Book.isComp b x.3)))) Tryz.func250 (by kernel_rfl) (by kernel_rfl) ?_
 simp only [stdS,imp_self,implies_true,and_true,Auj S b]
 cases h1:b.isComp x.one<;>cases h2:b.isComp x.other<;>cases h3:b.isComp x.third<;>simp
theorem Aki {Gl} (S:SP Gl) (b:Book) (x:Task):CO Gl 251 [.d (.agg (Qv b x))] (.ret (B (x.one==x.other||x.one==x.third||x.other==x.third))):=by
 refine Ao S (let A0:=(eqB (bif x.1==x.2 then true else x.1==x.3) false=true->eqB (bif x.1==x.2 then true else x.1==x.3) false=true);let A1:=(eqB (x.1==x.2) false=true->eqB (x.1==x.2) false=true);((.nil),(A1/\A1/\A1/\A1/\A1/\A1/\((x.1==x.2)=false->eqB (x.1==x.2) false=true)/\A0/\A0/\A0/\A0/\A0/\A0/\((bif x.1==x.2 then true else x.1==x.3)=false->eqB (bif x.1==x.2 then true else x.1==x.3) false=true)/\(bif bif x.1==x.2 then true else x.1==x.3 then true else x.2==x.3)=(x.1==x.2||x.1==x.3||x.2==x.3)))) Tryz.func251 (by kernel_rfl) (by kernel_rfl) ?_
 simp only [stdS,imp_self,implies_true,and_true]
theorem Akj {Gl} (S:SP Gl) (b:Book) (x:Task):CO Gl 252 [.d (.agg (Qv b x))] (.ret (B (decide (x.other<x.one)))):=by
 refine An S (.nil) Tryz.func252 (by kernel_rfl) (decide (x.2<x.1)=decide (x.2<x.1)) (by kernel_rfl) ?_
 rfl
theorem Akk {Gl} (S:SP Gl) (b:Book) (x:Task) (h1:b.isComp x.one=true) (h2:b.isComp x.other=true):CO Gl 253 [.d (.agg (Qv b x))] (.ret (B ((nth b.comps x.one.toNat).room==(nth b.comps x.other.toNat).room))):=by
 refine An S (.nil) Tryz.func253 (by kernel_rfl) (((0:Int)<=x.1/\x.1<(b.1.length:Int))/\((0:Int)<=x.2/\x.2<(b.1.length:Int))/\((nth b.1 (Int.toNat x.1)).1==(nth b.1 (Int.toNat x.2)).1)=((nth b.1 (Int.toNat x.1)).1==(nth b.1 (Int.toNat x.2)).1)) (by kernel_rfl) ?_
 simp only [Book.isComp,Bo] at h1 h2
 exact ⟨by omega,by omega,rfl⟩
theorem Akl {Gl} (S:SP Gl) (b:Book) (s:Int) (x:Task) (hf:b.fault x=0):CO Gl 161 [tBook b,I s,Uj x] (.ret (.tup [])):=by
 refine Ao S (let A0:=(Task.mk x.1 x.2 x.3);let A1:=(B (Comp.room (nth (Book.comps b) (Int.toNat (Task.one A0)))==Comp.room (nth (Book.comps b) (Int.toNat (Task.other A0)))));let A2:=(B !(Book.isComp b (Task.one A0)&&Book.isComp b (Task.other A0)&&Book.isComp b (Task.third A0)));let A3:=(B (Task.one A0==Task.other A0||Task.one A0==Task.third A0||Task.other A0==Task.third A0));let A4:=[T.d (D.agg (Qv b A0))];let A5:=(!(Book.isComp b x.1&&Book.isComp b x.2&&Book.isComp b x.3));let A6:=((nth b.1 (Int.toNat x.1)).1==(nth b.1 (Int.toNat x.2)).1);((.un (5:Nat) (.tt (.r (.ret A2) (.br .nil (.tt (.r (.ret A3) (.br .nil (.tt (.r (.ret (B (decide (Task.other (Task.mk x.1 x.2 x.3)<Task.one (Task.mk x.1 x.2 x.3))))) (.br .nil (.tt (.r (.ret A1) (.br .nil (.ff .nil)))))))))))))),(true=true/\CO Gl 250 A4 (.ret A2)/\(A5=true->False)/\(A5=false->iR ((1:Int)+1)/\true=true/\CO Gl 251 A4 (.ret A3)/\((x.1==x.2||x.1==x.3||x.2==x.3)=true->False)/\((x.1==x.2||x.1==x.3||x.2==x.3)=false->iR ((1:Int)+1+(1:Int))/\true=true/\CO Gl 252 A4 (.ret (B (decide (Task.other (Task.mk x.1 x.2 x.3)<Task.one (Task.mk x.1 x.2 x.3)))))/\(decide (x.2<x.1)=true->False)/\(decide (x.2<x.1)=false->iR ((1:Int)+1+(1:Int)+1)/\true=true/\CO Gl 253 A4 (.ret A1)/\(A6=true->False)/\(A6=false->iR ((1:Int)+1+(1:Int)+1+(1:Int))/\false=false/\True))))))) Tryz.func161 (by kernel_rfl) (by kernel_rfl) ?_
 dsimp only
 have c1:=Akh S b x
 have c2:=Aki S b x
 have c3:=Akj S b x
 have c4:=Akk S b x
 obtain ⟨⟨a1,a2,a3⟩,⟨n1,n2,n3⟩,le,rm⟩:=Ak2 hf
 refine ⟨rfl,c1,fun h=>?_,fun _=>⟨(Af _).2 (by decide),rfl,c2,fun h=>?_,fun _=>⟨(Af _).2 (by decide),rfl,c3,fun h=>?_,fun _=>⟨(Af _).2 (by decide),rfl,c4 a1 a2,fun h=>?_,fun _=>⟨(Af _).2 (by decide),rfl,trivial⟩⟩⟩⟩⟩
 ·rw [a1,a2,a3] at h;cases h
 ·simp only [Bool.or_eq_true,beq_iff_eq] at h
  rcases h with (h|h)|h
  ·exact n1 h
  ·exact n2 h
  ·exact n3 h
 ·have:=of_decide_eq_true h;omega
 ·exact rm (eq_of_beq h)
theorem Avd {Gl} (S:SP Gl) (b:Book) (s:Int) (x:Task) (hf:b.fault x≠0):CO Gl 161 [tBook b,I s,Uj x] (.pan (.iface 176 (.agg #[.int .i64 s,.int .i64 (b.fault x)]))):=by
 refine Ao S (let A0:=(Task.mk x.1 x.2 x.3);let A1:=(Value.agg (Array.mk [Value.int IntKind.i64 s,Value.int IntKind.i64 (Book.fault b x)]));let A2:=(B (Comp.room (nth (Book.comps b) (Int.toNat (Task.one A0)))==Comp.room (nth (Book.comps b) (Int.toNat (Task.other A0)))));let A3:=(B !(Book.isComp b (Task.one A0)&&Book.isComp b (Task.other A0)&&Book.isComp b (Task.third A0)));let A4:=(B (Task.one A0==Task.other A0||Task.one A0==Task.third A0||Task.other A0==Task.third A0));let A5:=[T.d (D.agg (Qv b A0))];let A6:=(!(Book.isComp b x.1&&Book.isComp b x.2&&Book.isComp b x.3));let A7:=((nth b.1 (Int.toNat x.1)).1==(nth b.1 (Int.toNat x.2)).1);((.un (5:Nat) (.tt (.r (.ret A3) (.br .nil (.tt (.r (.ret A4) (.br .nil (.tt (.r (.ret (B (decide (Task.other (Task.mk x.1 x.2 x.3)<Task.one (Task.mk x.1 x.2 x.3))))) (.br .nil (.tt (.r (.ret A2) (.br .nil (.ff .nil)))))))))))))),(true=true/\CO Gl 250 A5 (.ret A3)/\(A6=true->Value.iface (176:Nat) (Value.agg (Array.mk [Value.int IntKind.i64 s,Value.int IntKind.i64 (1:Int)]))=Value.iface (176:Nat) A1)/\(A6=false->iR ((1:Int)+1)/\true=true/\CO Gl 251 A5 (.ret A4)/\((x.1==x.2||x.1==x.3||x.2==x.3)=true->Value.iface (176:Nat) (Value.agg (Array.mk [Value.int IntKind.i64 s,Value.int IntKind.i64 ((1:Int)+1)]))=Value.iface (176:Nat) A1)/\((x.1==x.2||x.1==x.3||x.2==x.3)=false->iR ((1:Int)+1+(1:Int))/\true=true/\CO Gl 252 A5 (.ret (B (decide (Task.other (Task.mk x.1 x.2 x.3)<Task.one (Task.mk x.1 x.2 x.3)))))/\(decide (x.2<x.1)=true->Value.iface (176:Nat) (Value.agg (Array.mk [Value.int IntKind.i64 s,Value.int IntKind.i64 ((1:Int)+1+(1:Int))]))=Value.iface (176:Nat) A1)/\(decide (x.2<x.1)=false->iR ((1:Int)+1+(1:Int)+1)/\true=true/\CO Gl 253 A5 (.ret A2)/\(A7=true->Value.iface (176:Nat) (Value.agg (Array.mk [Value.int IntKind.i64 s,Value.int IntKind.i64 ((1:Int)+1+(1:Int)+1)]))=Value.iface (176:Nat) A1)/\(A7=false->iR ((1:Int)+1+(1:Int)+1+(1:Int))/\false=false/\False))))))) Tryz.func161 (by kernel_rfl) (by kernel_rfl) ?_
 dsimp only
 have c1:=Akh S b x
 have c2:=Aki S b x
 have c3:=Akj S b x
 have c4:=Akk S b x
 have e:∀ y,b.fault x=y->Value.iface 176 (.agg #[.int .i64 s,.int .i64 y])=Value.iface 176 (.agg #[.int .i64 s,.int .i64 (b.fault x)]):=fun y h=>by rw [h]
 have hb:b.fault x=(bif !(b.isComp x.one&&b.isComp x.other&&b.isComp x.third) then 1
  else bif x.one==x.other||x.one==x.third||x.other==x.third then 2
  else bif decide (x.other<x.one) then 3
  else bif (nth b.comps x.one.toNat).room==(nth b.comps x.other.toNat).room then 4 else 0):=rfl
 refine ⟨rfl,c1,fun h=>e _ ?_,fun h1=>⟨(Af _).2 (by decide),rfl,c2,fun h=>e _ ?_,fun h2=>⟨(Af _).2 (by decide),rfl,c3,fun h=>e _ ?_,fun h3=>⟨(Af _).2 (by decide),rfl,c4 ?_ ?_,fun h=>e _ ?_,fun h4=>?_⟩⟩⟩⟩
 ·rw [hb,h];rfl
 ·rw [hb,h1,h];rfl
 ·rw [hb,h1,h2,h];rfl
 ·simp only [Bool.not_eq_eq_eq_not,Bool.not_false,Bool.and_eq_true] at h1;exact h1.1.1
 ·simp only [Bool.not_eq_eq_eq_not,Bool.not_false,Bool.and_eq_true] at h1;exact h1.1.2
 ·rw [hb,h1,h2,h3,h];rfl
 ·rw [hb,h1,h2,h3,h4] at hf
  exact absurd rfl hf
theorem Ave {b:Book} {plan:List Task} (h:b.isWhy plan=false):∀ i,i<plan.length->b.fault (nth plan i)=0:=fun i hi=>by
 unfold Book.isWhy at h
 simp only [Bool.not_eq_eq_eq_not,Bool.not_false,List.all_eq_true,beq_iff_eq] at h
 exact h _ (Er hi)
theorem Avf {b:Book} {plan:List Task} (h:b.isWhy plan=true):b.why plan<plan.length/\b.fault (nth plan (b.why plan))≠0/\b.why1 plan=b.why plan/\b.why2 plan=b.fault (nth plan (b.why plan)):=by
 have hlt:b.why plan<plan.length:=by
  rcases Nat.lt_or_ge (b.why plan) plan.length with hl|hl
  ·exact hl
  ·have:=Lh (p:=fun t=>b.fault t==0) (l:=plan) hl
   unfold Book.isWhy at h
   rw [this] at h
   cases h
 refine ⟨hlt,fun h0=>?_,?_,?_⟩
 ·have:=Yg (p:=fun t=>b.fault t==0) hlt
  rw [beq_eq_false_iff_ne] at this
  exact this h0
 ·unfold Book.why1;rw [h];rfl
 ·unfold Book.why2;rw [h];rfl
theorem Avg {b:Book} {plan:List Task} {i:Nat} (h:i<b.why plan):b.fault (nth plan i)=0:=by
 have:=Jy (p:=fun t=>b.fault t==0) h
 exact eq_of_beq this
theorem Avh {Gl} (S:SP Gl) (b:Book) (plan:List Task) (hf:b.isWhy plan=false):CO Gl 160 [.d (.rd [.l eTask plan]),.d (.rd (cBook b))] (.ret (.tup [])):=by
 refine Ao S (let A0:=(plan.length:Int);((.loop plan.length (fun k=>[v 6 (I k),v 5 (I plan.length),v 4 (L eTask plan),v 1 (T.d (D.rd (cBook b)))]) fun k0=>.br (.r (.ret (.tup [])) .nil) .nil),(plan.length<=maxLen->(0=(↑(0:Nat):Int)/\A0=A0/\(sR eTask plan)/\(sR eComp b.1)/\(sR eI b.2)/\sR eI b.3)/\∀ (k0:Nat),k0<=plan.length->(decide ((k0:Int)<(plan.length:Int))=true->(0<=(k0:Int)/\(k0:Int)<A0)/\CO Gl 161 [tBook b,I k0,Uj (Task.mk (nth plan k0).1 (nth plan k0).2 (nth plan k0).3)] (.ret (.tup []))/\iR ((k0:Int)+1)/\k0<plan.length/\(k0:Int)+1=(↑(k0+1):Int)/\A0=A0/\(sR eTask plan)/\(sR eComp b.1)/\(sR eI b.2)/\sR eI b.3)/\(decide ((k0:Int)<(plan.length:Int))=false->True)))) Tryz.func160 (by kernel_rfl) (by kernel_rfl) ?_
 simp only [stdS,imp_self,implies_true,and_true,decide_eq_true_eq,decide_eq_false_iff_not,Bi,Af]
 refine fun _ k hk=>⟨fun hl=>⟨by omega,Akl S b k _ (Ave hf k (by omega)),by omega,by omega,by omega,trivial⟩,trivial⟩
theorem Avi {Gl} (S:SP Gl) (b:Book) (plan:List Task) (hf:b.isWhy plan=true):CO Gl 160 [.d (.rd [.l eTask plan]),.d (.rd (cBook b))] (.pan (.iface 176 (.agg #[.int .i64 (b.why1 plan),.int .i64 (b.why2 plan)]))):=by
 refine Ao S (let A0:=fun (k0:Nat)=>(Task.mk (nth plan k0).1 (nth plan k0).2 (nth plan k0).3);let A1:=fun (k0:Nat)=>(Res.pan (Value.iface (176:TypeId) (Value.agg #[Value.int IntKind.i64 (k0:Int),Value.int IntKind.i64 (Book.fault b (A0 k0))])));let A2:=(plan.length:Int);((.loop (Book.why b plan) (fun k=>[v 6 (I k),v 5 (I plan.length),v 4 (L eTask plan),v 1 (T.d (D.rd (cBook b)))]) fun k0=>.ite (decide (k0<Book.why b plan)) (.br (.r (.ret (.tup [])) .nil) .nil) (.br (.r (A1 k0) .nil) .nil)),(plan.length<=maxLen->(0=(↑(0:Nat):Int)/\A2=A2/\(sR eTask plan)/\(sR eComp b.1)/\(sR eI b.2)/\sR eI b.3)/\∀ (k0:Nat),k0<=Book.why b plan->(decide (k0<Book.why b plan)=true->(decide ((k0:Int)<(plan.length:Int))=true->(0<=(k0:Int)/\(k0:Int)<A2)/\CO Gl 161 [tBook b,I k0,Uj (A0 k0)] (.ret (.tup []))/\iR ((k0:Int)+1)/\k0<Book.why b plan/\(k0:Int)+1=(↑(k0+1):Int)/\A2=A2/\(sR eTask plan)/\(sR eComp b.1)/\(sR eI b.2)/\sR eI b.3)/\(decide ((k0:Int)<(plan.length:Int))=false->False))/\(decide (k0<Book.why b plan)=false->(decide ((k0:Int)<(plan.length:Int))=true->(0<=(k0:Int)/\(k0:Int)<A2)/\CO Gl 161 [tBook b,I k0,Uj (A0 k0)] (A1 k0)/\Value.iface (176:Nat) (Value.agg (Array.mk [Value.int IntKind.i64 (k0:Int),Value.int IntKind.i64 (Book.fault b (A0 k0))]))=Value.iface (176:Nat) (Value.agg (Array.mk [Value.int IntKind.i64 (Book.why1 b plan),Value.int IntKind.i64 (Book.why2 b plan)])))/\(decide ((k0:Int)<(plan.length:Int))=false->False))))) Tryz.func160 (by kernel_rfl) (by kernel_rfl) ?_
 simp only [stdS,imp_self,implies_true,and_true,decide_eq_true_eq,decide_eq_false_iff_not,Bi,Af]
 obtain ⟨w1,w2,w3,w4⟩:=Avf hf
 refine fun _ k hk=>⟨fun hw=>⟨fun hl=>⟨by omega,Akl S b k _ (Avg hw),by omega,by omega,by omega,trivial⟩,fun hl=>by omega⟩,fun hw=>⟨fun hl=>?_,fun hl=>by omega⟩⟩
 have hke:k=b.why plan:=by omega
 subst hke
 refine ⟨by omega,Avd S b _ _ w2,?_⟩
 rw [w3,w4]
def Et (b:Book) (plan:List Task):Int:=bif b.ok&&plan.length==b.sheets.length then (bif b.isWhy plan then 7 else 0) else 2
def Qw (b:Book) (plan:List Task):Work:=bif b.ok&&plan.length==b.sheets.length then ⟨b,plan⟩ else ⟨⟨[],[],[]⟩,[]⟩
def Lp (b:Book) (plan:List Task):Int:=bif b.ok&&plan.length==b.sheets.length then b.why1 plan else 0
def Lq (b:Book) (plan:List Task):Int:=bif b.ok&&plan.length==b.sheets.length then b.why2 plan else 0
theorem Avj {Gl} (S:SP Gl) (b:Book) (plan:List Task):CO Gl 159 [.fn 160 [] [.d (.rd [.l eTask plan]),.d (.rd (cBook b))]] (.ret (.tup [.agg [Ci (b.why1 plan),Ci (b.why2 plan)],.c (Ci (bif b.isWhy plan then 7 else 0))])):=by
 cases h:b.isWhy plan with
 |false=>
  have:=Akg S (fst:=[]) (Avh S b plan h) .ok
  have e1:b.why1 plan=0:=by unfold Book.why1;rw [h];rfl
  have e2:b.why2 plan=0:=by unfold Book.why2;rw [h];rfl
  rw [e1,e2];exact this
 |true=>exact Akg S (fst:=[]) (Avi S b plan h) (.foul _ _)
theorem Akm {Gl} (S:SP Gl) (b:Book) (plan:List Task):CO Gl 77 [tBook b,L eTask plan] (.ret (.tup [.agg (Qs (Qw b plan)),.agg [Ci (Lp b plan),Ci (Lq b plan)],.c (Ci (Et b plan))])):=by
 refine Ao S (let A0:=(eqB (!Book.ok b) false=true->eqB (!Book.ok b) false=true);let A1:=[D.agg [Ci (Book.why1 b plan),Ci (Book.why2 b plan)],D.c (Ci (bif Book.isWhy b plan then (7:Int) else (0:Int)))];let A2:=(Qw b plan);let A3:=(bif !Book.ok b then true else (plan.length:Int) != (b.3.length:Int));((.r (.ret (B (Book.ok b))) (.br .nil (.r (.ret (.tup A1)) .nil))),(CO Gl 80 [tBook b] (.ret (B (Book.ok b)))/\A0/\((eqB (!Book.ok b) false=true->plan.length<=maxLen)->A0/\A0/\((eqB (!Book.ok b) false=true->b.3.length<=maxLen)->A0/\A0/\((!Book.ok b)=false->eqB (!Book.ok b) false=true)/\(A3=true->List.length A2.1.1=(0:Nat)/\List.length A2.1.2=(0:Nat)/\List.length A2.1.3=(0:Nat)/\List.length A2.2=(0:Nat)/\(0:Int)=Lp b plan/\(0:Int)=Lq b plan/\(2:Int)=Et b plan)/\(A3=false->CO Gl 159 [T.fn (160:FuncId) [] [T.d (D.rd [C.l eTask plan]),T.d (D.rd (cBook b))]] (.ret (.tup A1))/\(sQ eComp b.1 (A2.1.1))/\(sQ eI b.2 (A2.1.2))/\(sQ eI b.3 (A2.1.3))/\(sQ eTask plan (A2.2))/\Book.why1 b plan=Lp b plan/\Book.why2 b plan=Lq b plan/\(bif Book.isWhy b plan then (7:Int) else (0:Int))=Et b plan)))))) Tryz.func77 (by kernel_rfl) (by kernel_rfl) ?_
 simp only [stdS,imp_self,implies_true,and_true,Akb S b,decide_eq_true_eq,decide_eq_false_iff_not,Bi,Af]
 have key:(b.ok&&plan.length==b.sheets.length)=!(!b.ok||((plan.length:Int) != (b.sheets.length:Int))):=by
  have:((plan.length:Int) != (b.sheets.length:Int))=!(plan.length==b.sheets.length):=by
   simp only [bne]
   congr 1
   rw [Bool.eq_iff_iff]
   simp only [beq_iff_eq]
   omega
  rw [this]
  cases b.ok<;>cases (plan.length==b.sheets.length)<;>rfl
 unfold Qw Lp Lq Et
 refine fun _ _=>⟨fun h=>?_,fun h=>?_⟩
 ·rw [key,h];exact ⟨rfl,rfl,rfl,rfl,rfl,rfl,rfl⟩
 ·rw [key,h];exact ⟨Avj S b plan,Bn rfl,Bn rfl,Bn rfl,Bn rfl,rfl,rfl,rfl⟩
theorem Avk {b:Book} {plan:List Task} (hb:b.ok=true) (hg:b.good plan=true):Et b plan=0/\Qw b plan=⟨b,plan⟩/\Lp b plan=0/\Lq b plan=0:=by
 unfold Book.good at hg
 simp only [Bool.and_eq_true,Bool.not_eq_eq_eq_not,Bool.not_true] at hg
 unfold Et Qw Lp Lq
 have e1:b.why1 plan=0:=by unfold Book.why1;rw [hg.2];rfl
 have e2:b.why2 plan=0:=by unfold Book.why2;rw [hg.2];rfl
 rw [hb,hg.1,hg.2,e1,e2]
 exact ⟨rfl,rfl,rfl,rfl⟩
theorem open_iff {b:Book} {plan:List Task}:Et b plan=0↔b.ok=true/\b.good plan=true:=by
 unfold Et Book.good
 cases b.ok<;>cases (plan.length==b.sheets.length)<;>cases b.isWhy plan<;>simp
theorem Avl {Gl} (S:SP Gl) (b:Book) (plan:List Task) (hb:b.ok=true) (hg:b.good plan=true):CO Gl 77 [tBook b,L eTask plan] (.ret (.tup [.agg (Qs ⟨b,plan⟩),.agg [Ci 0,Ci 0],.c (Ci 0)])):=by
 have h:=Akm S b plan
 obtain ⟨e1,e2,e3,e4⟩:=Avk hb hg
 rw [e1,e2,e3,e4] at h
 exact h
def whyErr (b:Book) (plan:List Task):Int:=bif Et b plan==0 then 5 else bif Et b plan==7 then 0 else Et b plan
def whyS (b:Book) (plan:List Task):Int:=bif Et b plan==7 then Lp b plan else 0
def whyF (b:Book) (plan:List Task):Int:=bif Et b plan==7 then Lq b plan else 0
theorem why23 {Gl} (S:SP Gl) (b:Book) (plan:List Task):CO Gl 240 [tBook b,L eTask plan] (.ret (.tup [.c (Ci (whyS b plan)),.c (Ci (whyF b plan)),.c (Ci (whyErr b plan))])):=by
 refine Ao S (let A0:=[D.agg (Qs (Qw b plan)),D.agg [Ci (Lp b plan),Ci (Lq b plan)],D.c (Ci (Et b plan))];((.r (.ret (.tup A0)) (.br .nil (.br .nil .nil))),(CO Gl 77 [tBook b,L eTask plan] (.ret (.tup A0))/\((Et b plan==(0:Int))=true->(0:Int)=whyS b plan/\(0:Int)=whyF b plan/\(5:Int)=whyErr b plan)/\((Et b plan==(0:Int))=false->((Et b plan==(7:Int))=true->Lp b plan=whyS b plan/\Lq b plan=whyF b plan/\(0:Int)=whyErr b plan)/\((Et b plan==(7:Int))=false->(0:Int)=whyS b plan/\(0:Int)=whyF b plan/\Et b plan=whyErr b plan))))) Tryz.func240 (by kernel_rfl) (by kernel_rfl) ?_
 dsimp only
 refine ⟨Akm S b plan,fun h=>?_,fun h=>⟨fun h2=>?_,fun h2=>?_⟩⟩
 ·unfold whyS whyF whyErr
  rw [h,eq_of_beq h]
  exact ⟨rfl,rfl,rfl⟩
 ·unfold whyS whyF whyErr
  rw [h,h2]
  exact ⟨rfl,rfl,rfl⟩
 ·unfold whyS whyF whyErr
  rw [h,h2]
  exact ⟨rfl,rfl,rfl⟩
theorem backs_nth {b:Book} {plan:List Task} {i:Nat} (h:i<plan.length):nth (backs b plan) i=⟨nth (days plan (b.ends false) (-1) (-1)) i,nth (days plan (b.ends true) (-1) (-1)) i⟩:=by
 unfold backs Il
 rw [Ep (by rw [List.length_range,Qr];omega),Cr (by rw [Qr];omega)]
theorem backs_len (b:Book) (plan:List Task):(backs b plan).length=plan.length:=by rw [backs,Ae2,Qr]
theorem back28 {Gl} (S:SP Gl) (b:Book) (plan:List Task) (hb:b.ok=true) (hg:b.good plan=true):CO Gl 24 [tBook b,L eTask plan] (.ret (.tup [.c (.l Ad (backs b plan)),.c (Ci 0)])):=by
 refine Ao S (let A0:=(L Ad (Il (days (Work.plan (Work.mk b plan)) (Book.ends (Work.book (Work.mk b plan)) false) (-1:Int) (-1:Int)) (days (Work.plan (Work.mk b plan)) (Book.ends (Work.book (Work.mk b plan)) true) (-1:Int) (-1:Int))));let A1:=[D.agg (Qs (Work.mk b plan)),D.agg [Ci 0,Ci 0],D.c (Ci 0)];((.r (.ret (.tup A1)) (.ff (.r (.ret (Jf (-1:Int) (-1:Int))) (.r (.ret A0) .nil)))),(CO Gl 77 [tBook b,L eTask plan] (.ret (.tup A1))/\false=false/\CO Gl 79 [] (.ret (Jf (-1:Int) (-1:Int)))/\CO Gl 78 [Mz (Work.mk b plan),Jf (-1:Int) (-1:Int)] (.ret A0)/\(sQ Ad (Il (days plan (Book.ends b false) (-1:Int) (-1:Int)) (days plan (Book.ends b true) (-1:Int) (-1:Int))) (backs b plan))/\(0:Int)=0))) Tryz.func24 (by kernel_rfl) (by kernel_rfl) ?_
 dsimp only
 exact ⟨Avl S b plan hb hg,rfl,Auu S,Av9 S ⟨b,plan⟩ (-1) (-1) hb hg,Bn rfl,rfl⟩
end Go.Vc.Zn.Gv
namespace Go.Vc.Zn.Rm
open Go Go.Proofs Go.Vc Go.RowKit
theorem Avm {Gl} (S:SP Gl) (p:Plan):CO Gl 138 [Tv p] (.ret (I (bif Em p then 0 else 2))):=by
 refine An S (.r (.ret (B (Em p))) (.br .nil .nil)) Tryz.func138 (by kernel_rfl) (CO Gl 34 [Tv p] (.ret (B (Em p)))/\((!Em p)=true->(2:Int)=bif Em p then (0:Int) else (2:Int))/\((!Em p)=false->(0:Int)=bif Em p then (0:Int) else (2:Int))) (by kernel_rfl) ?_
 refine ⟨Asb S p,fun h=>?_,fun h=>?_⟩<;>cases h2:Em p<;>rw [h2] at h<;>first|rfl|cases h
theorem Avn {Gl} (S:SP Gl) (pl:Int) (cs:List Cp):CO Gl 140 [tTr pl cs] (.ret (I (bif Dx pl cs then 0 else 2))):=by
 refine An S (.r (.ret (B (Dx pl cs))) (.br .nil .nil)) Tryz.func140 (by kernel_rfl) (CO Gl 121 [tTr pl cs] (.ret (B (Dx pl cs)))/\((!Dx pl cs)=true->(2:Int)=bif Dx pl cs then (0:Int) else (2:Int))/\((!Dx pl cs)=false->(0:Int)=bif Dx pl cs then (0:Int) else (2:Int))) (by kernel_rfl) ?_
 refine ⟨Auf S pl cs,fun h=>?_,fun h=>?_⟩<;>cases h2:Dx pl cs<;>rw [h2] at h<;>first|rfl|cases h
theorem Jh {Gl} (S:SP Gl) (x lo hi:Int):CO Gl 143 [I x,I lo,I hi] (.ret (B (inR x lo hi))):=by
 refine An S (.nil) Tryz.func143 (by kernel_rfl) ((eqB (decide (lo<=x)) true=true->eqB (decide (lo<=x)) true=true)/\(eqB (decide (lo<=x)) true=true->eqB (decide (lo<=x)) true=true)/\(decide (lo<=x)=true->eqB (decide (lo<=x)) true=true)/\(bif decide (lo<=x) then decide (x<=hi) else false)=inR x lo hi) (by kernel_rfl) ?_
 simp only [stdS,imp_self,implies_true,and_true,inR]
theorem Akn {Gl} (S:SP Gl) (a b:Int):CO Gl 136 [I a,I b] (.ret (.d (.agg (Ad ⟨a,b⟩)))):=by
 refine An S (.nil) Tryz.func136 (by kernel_rfl) (a=a/\b=b) (by kernel_rfl) ?_
 exact ⟨rfl,rfl⟩
theorem Avo {Gl} (S:SP Gl) (a b:Int):CO Gl 137 [I a,I b] (.ret (.d (.agg (Ad ⟨a,b⟩)))):=by
 refine An S (.nil) Tryz.func137 (by kernel_rfl) (a=a/\b=b) (by kernel_rfl) ?_
 exact ⟨rfl,rfl⟩
def exPB:Py.PBook:=⟨2,4,30,5,12,2,[⟨0,3,⟨1,2⟩,1,0,0,2,0,0⟩,⟨1,2,⟨0,1⟩,0,3,0,1,3,0⟩,⟨0,2,⟨0,0⟩,2,1,0,1,9,0⟩]⟩
theorem Avp {Gl} (S:SP Gl)  :CO Gl 63 [] (.ret (.d (.agg (Py.cPB exPB)))):=by
 refine Ao S (let A0:=(Value.int IntKind.i64 (0:Int));let A1:=[Py.Line.mk (0:Int) (3:Int) (Span.mk (1:Int) (2:Int)) (1:Int) (0:Int) (0:Int) (2:Int) (0:Int) (0:Int),Py.Line.mk (1:Int) (2:Int) (Span.mk (0:Int) (1:Int)) (0:Int) (3:Int) (0:Int) (1:Int) (3:Int) (0:Int),Py.Line.mk (0:Int) (2:Int) (Span.mk (0:Int) (0:Int)) (2:Int) (1:Int) (0:Int) (1:Int) (9:Int) (0:Int)];let A2:=(Value.int IntKind.i64 (1:Int));let A3:=(Value.int IntKind.i64 (2:Int));let A4:=(Value.int IntKind.i64 (3:Int));let A5:=(T.d (D.agg (Ad (Span.mk (1:Int) (2:Int)))));let A6:=(T.d (D.agg (Ad (Span.mk (0:Int) (1:Int)))));((.r (.ret A5) (.r (.ret A6) .nil)),(CO Gl 136 [I 1,I 2] (.ret A5)/\CO Gl 136 [I 0,I 1] (.ret A6)/\(2:Int)=2/\(4:Int)=4/\(30:Int)=30/\(5:Int)=5/\(12:Int)=12/\(2:Int)=2/\SEq (3:Nat) (fun i=>List.getD [List.map C.dem (List.map C.dem [C.v A0,C.v A4,C.v A2,C.v A3,C.v A2,C.v A0,C.v A0,C.v A3,C.v A0,C.v A0]),List.map C.dem (List.map C.dem [C.v A2,C.v A3,C.v A0,C.v A2,C.v A0,C.v A4,C.v A0,C.v A2,C.v A4,C.v A0]),List.map C.dem (List.map C.dem [C.v A0,C.v A3,C.v A0,C.v A0,C.v A3,C.v A2,C.v A0,C.v A2,C.v (Value.int IntKind.i64 (9:Int)),C.v A0])] i []) (List.length A1) fun i=>Py.eLine (nth A1 i)))) Tryz.func63 (by kernel_rfl) (by kernel_rfl) ?_
 dsimp only
 refine ⟨Akn S _ _,Akn S _ _,rfl,rfl,rfl,rfl,rfl,rfl,.of ⟨rfl,fun i hi=>?_⟩⟩
 match i,hi with|0,_=>rfl|1,_=>rfl|2,_=>rfl
def Dt:Gv.Book:=⟨[⟨0,⟨1,2⟩,⟨2,3⟩,⟨1,1⟩⟩,⟨1,⟨0,1⟩,⟨1,2⟩,⟨1,2⟩⟩,⟨0,⟨0,0⟩,⟨3,3⟩,⟨1,1⟩⟩],[12,9],[0,1]⟩
def Zc:Plan:=⟨[⟨120,122⟩,⟨4,6⟩],4,1⟩
def cSu (p:Plan) (b:Gv.Book) (e pl:Int) (cs:List Cp) (y:Py.PBook):List C:=[.l Ad p.starts,Ci p.rows,Ci p.guard,.l Gv.eComp b.comps,.l eI b.dues,.l eI b.sheets,Ci e,Ci pl,.l eCp cs,Ci y.hands,Ci y.unit,Ci y.sheet,Ci y.error,Ci y.morn,Ci y.post,.l Py.eLine y.lines]
def Qx:Py.PBook:={ exPB with hands:=3 }
theorem Avq {Gl} (S:SP Gl) (l:List Span) (h1:1<=l.length) (h2:l.length<=1000):CO Gl 144 [L Ad l] (.ret (.d (.c (.l Ad l)))):=by
 refine An S (.ff .nil) Tryz.func144 (by kernel_rfl) ((0:Nat)<l.length/\false=false/\((0:Nat)+l.length)*16<=140737488355328/\(0:Nat)+l.length<=(140737488355328:Nat)/\SEq ((0:Nat)+l.length) (Ar 0 (fun x=>[]) fun i=>Ad (nth l i)) l.length fun i=>Ad (nth l i)) (by kernel_rfl) ?_
 refine ⟨by omega,rfl,by omega,by omega,.of ⟨by omega,fun i hi=>?_⟩⟩
 unfold Ar
 rw [Ui (Nat.zero_le _),cond_false,Nat.sub_zero]
theorem Avr {Gl} (S:SP Gl) (l:List Gv.Comp) (h1:1<=l.length) (h2:l.length<=1000):CO Gl 145 [L Gv.eComp l] (.ret (.d (.c (.l Gv.eComp l)))):=by
 refine An S (.ff .nil) Tryz.func145 (by kernel_rfl) ((0:Nat)<l.length/\false=false/\((0:Nat)+l.length)*56<=140737488355328/\(0:Nat)+l.length<=(140737488355328:Nat)/\SEq ((0:Nat)+l.length) (Ar 0 (fun x=>[]) fun i=>Gv.eComp (nth l i)) l.length fun i=>Gv.eComp (nth l i)) (by kernel_rfl) ?_
 refine ⟨by omega,rfl,by omega,by omega,.of ⟨by omega,fun i hi=>?_⟩⟩
 unfold Ar
 rw [Ui (Nat.zero_le _),cond_false,Nat.sub_zero]
theorem Avs {Gl} (S:SP Gl) (l:List Py.Line) (h1:1<=l.length) (h2:l.length<=1000):CO Gl 147 [L Py.eLine l] (.ret (.d (.c (.l Py.eLine l)))):=by
 refine An S (.ff .nil) Tryz.func147 (by kernel_rfl) ((0:Nat)<l.length/\false=false/\((0:Nat)+l.length)*80<=140737488355328/\(0:Nat)+l.length<=(140737488355328:Nat)/\SEq ((0:Nat)+l.length) (Ar 0 (fun x=>[]) fun i=>Py.eLine (nth l i)) l.length fun i=>Py.eLine (nth l i)) (by kernel_rfl) ?_
 refine ⟨by omega,rfl,by omega,by omega,.of ⟨by omega,fun i hi=>?_⟩⟩
 unfold Ar
 rw [Ui (Nat.zero_le _),cond_false,Nat.sub_zero]
end Go.Vc.Zn.Rm
namespace Go.Vc.Zn.Py
open Go Go.Proofs Go.Vc Go.RowKit
def Ce (l:Line):List Int:=(List.range (l.errs.hi - l.errs.lo+1).toNat).map fun i:Nat=>l.errs.lo+i
def trR:List Line->List Int->List (List Int)
 | [],now=>[now]
 |l::r,now=>(Ce l).flatMap fun e=>trR r (now++[e])
def truthsL (b:PBook):List (List Int):=trR b.lines []
def Ki (b:PBook) (l p:Nat):Env:=[(0,BIG,.tr p),(2,FAR,live),(FAR+3,0,.yl l),(2,FAR+1,live),(FAR+4,0,.fn 288 [] [.d (.c (.p (cPB b))),.addr FAR 0,.addr (FAR+1) 0])]
def Nb (b:PBook) (P:List (List Int)) (l m s:Nat):Yd:=⟨l,m,s,fun q=>[tAc b (nth P q)]⟩
def Br (b:PBook) (now:List Int):Line:=nth b.lines now.length
def sub (b:PBook) (now:List Int) (e:Int):List (List Int):=trR (b.lines.drop (now.length+1)) (now++[e])
def Bp (b:PBook) (now:List Int) (k:Nat):Nat:=(((Ce (Br b now)).take k).flatMap (sub b now)).length
def Ff (b:PBook) (now:List Int):List (List Int):=trR (b.lines.drop now.length) now
def Um (b:PBook) (now:List Int) (p s:Nat):Nat:=Bm (fun k=>decide (p+Bp b now (k+1)<=s)) (List.range (Ce (Br b now)).length)
theorem Ako {b:PBook} {now:List Int} (h:now.length<b.lines.length):Ff b now=(Ce (Br b now)).flatMap (sub b now):=by
 unfold Ff
 rw [List.drop_eq_getElem_cons h]
 show (Ce _).flatMap _=_
 have:b.lines[now.length]=Br b now:=by unfold Br nth;rw [List.getD_eq_getElem?_getD,List.getElem?_eq_getElem h];rfl
 rw [this]
 rfl
theorem Avt {b:PBook} {now:List Int} (h:now.length<b.lines.length):(Ff b now).length=Bp b now (Ce (Br b now)).length:=by
 rw [Ako h];unfold Bp;rw [List.take_length]
theorem Akp {b:PBook} {now:List Int} {k:Nat} (h:k<(Ce (Br b now)).length):Bp b now (k+1)=Bp b now k+(sub b now (nth (Ce (Br b now)) k)).length:=by
 unfold Bp
 rw [Lf h,List.flatMap_append,List.length_append,List.flatMap_singleton]
theorem Akq {b:PBook} {now:List Int}:∀ {j k:Nat},k<=j->j<=(Ce (Br b now)).length->Bp b now k<=Bp b now j
 |0,k,h,_=>by rw [Nat.le_zero.1 h];exact Nat.le_refl _
 |j+1,k,h,hj=>by
  rcases Nat.lt_or_ge k (j+1) with h1|h1
  ·have:=Akq (b:=b) (now:=now) (j:=j) (k:=k) (by omega) (by omega)
   rw [Akp (by omega)];omega
  ·rw [show k=j+1 by omega];exact Nat.le_refl _
theorem Avu {l:Line} (h:l.errs.lo<=l.errs.hi):((Ce l).length:Int)=l.errs.hi - l.errs.lo+1:=by
 unfold Ce
 rw [List.length_map,List.length_range]
 omega
theorem Akr {l:Line} {k:Nat} (h:k<(Ce l).length):nth (Ce l) k=l.errs.lo+k:=by
 unfold Ce at h ⊢
 rw [List.length_map,List.length_range] at h
 rw [Ep (by rw [List.length_range];exact h),Cr h]
theorem Avv {Gl} (S:SP Gl) (b:PBook) (now:List Int) (P:List (List Int)) (l m s p:Nat) (hn:now.length=b.lines.length) (hm:p<m) (hs:p<=s) (hP:nth P p=now):Does Tryz.prog Y Gl (Nb b P l m s) 288 [L eI now,.d (.c (.p (cPB b))),.addr FAR 0,.addr (FAR+1) 0] (Ki b l p) (.ret (B (p != s))) [(0,BIG,.tr (p+1))]:=by
 refine Ef S (let A0:=[C.v (Value.int IntKind.i64 b.1),C.v (Value.int IntKind.i64 b.2),C.v (Value.int IntKind.i64 b.3),C.v (Value.int IntKind.i64 b.4),C.v (Value.int IntKind.i64 b.5),C.v (Value.int IntKind.i64 b.6),C.l eLine b.7];((.val 13 true (.tt .nil)),(now.length<=maxLen->b.7.length<=maxLen->((now.length:Int)==(b.7.length:Int))=true/\true=true/\l=l/\p<m/\p<=s/\b.1=b.1/\b.2=b.2/\b.3=b.3/\b.4=b.4/\b.5=b.5/\b.6=b.6/\(sR eLine b.7)/\(sQ eI now (nth P p))/\(p != s)=(p != s)/\p+(1:Nat)=p+(1:Nat)/\l=l/\(288:Nat)=(288:Nat)/\A0=A0))) Tryz.func288 (by kernel_rfl) (by kernel_rfl) ?_
 simp only [stdS,imp_self,implies_true,and_true]
 exact fun _ _=>⟨beq_iff_eq.2 (by omega),hm,hs,by rw [hP];exact Bn rfl,trivial⟩
theorem Avw {Gl} (S:SP Gl) (b:PBook) (now:List Int) (P:List (List Int)) (l m s p:Nat) (hlt:now.length<b.lines.length) (hok:okPB b=true) (hs:p<=s) (ih:∀ (k n:Nat) (f:Nat->List C),k<(Ce (Br b now)).length->p+Bp b now k<=s->SEq n f (now.length+1) (fun i=>eI (nth (now++[nth (Ce (Br b now)) k]) i))->Does Tryz.prog Y Gl (Nb b P l m s) 288 [.d (.c (.s .n n f)),.d (.c (.p (cPB b))),.addr FAR 0,.addr (FAR+1) 0] (Ki b l (p+Bp b now k)) (.ret (B (decide (p+Bp b now (k+1)<=s)))) [(0,BIG,.tr (min (p+Bp b now (k+1)) (s+1)))]):Does Tryz.prog Y Gl (Nb b P l m s) 288 [L eI now,.d (.c (.p (cPB b))),.addr FAR 0,.addr (FAR+1) 0] (Ki b l p) (.ret (B (decide (p+(Ff b now).length<=s)))) [(0,BIG,.tr (min (p+(Ff b now).length) (s+1)))]:=by
 refine Ef S (let A0:=[C.v (Value.int IntKind.i64 b.1),C.v (Value.int IntKind.i64 b.2),C.v (Value.int IntKind.i64 b.3),C.v (Value.int IntKind.i64 b.4),C.v (Value.int IntKind.i64 b.5),C.v (Value.int IntKind.i64 b.6),C.l eLine b.7];let A1:=fun (k0:Nat)=>(Ar (Int.toNat ((now.length:Int)-0)) (fun i=>eI (nth now (Int.toNat (0:Int)+i))) fun i=>List.getD [List.map C.dem [C.v (Value.int IntKind.i64 ((Br b now).3.1+(k0:Int)))]] i []);let A2:=(now.length:Int);let A3:=fun (k0:Nat)=>[T.d (D.c (C.s Tag.n (Int.toNat (A2-0)+1) (A1 k0))),T.d (D.c (C.p (cPB b))),T.addr FAR (0:Nat),T.addr (FAR+1) (0:Nat)];let A4:=(Br b now);((.val 13 false (.ff (.loop (Um b now p s) (fun k=>v 7 (I (Span.lo (Line.errs A4)+(k:Int)))::v 6 (ad 6)::v 0 (L eI now)::v 1 (T.d (D.c (C.p (cPB b))))::v 2 (T.addr FAR (0:Nat))::v 3 (T.addr (FAR+1) (0:Nat))::(bx 6 (Ad (Line.errs A4))++Ki b l (p+Bp b now k))) fun k0=>.br (.w [(nat_lit 100000,nat_lit 100000),(nat_lit 100001,nat_lit 100001)] (A3 k0) (Ki b l (p+Bp b now k0)) (.ret (B (decide (p+Bp b now (k0+1)<=s)))) [((0:Nat),BIG,T.tr (min (p+Bp b now (k0+1)) (s+1)))] (.br .nil .nil)) .nil))),(now.length<=maxLen->b.7.length<=maxLen->(A2==(b.7.length:Int))=false/\false=false/\(now.length<=maxLen->(0<=A2/\A2<(b.7.length:Int))/\((nth b.7 now.length).3.1=A4.3.1+(↑(0:Nat):Int)/\(sR eI now)/\A0=A0/\(nth b.7 now.length).3.1=A4.3.1/\(nth b.7 now.length).3.2=A4.3.2/\p=p+Bp b now (0:Nat)/\l=l/\(288:Nat)=(288:Nat)/\A0=A0)/\∀ (k0:Nat),k0<=Um b now p s->(decide ((Br b now).3.1+(k0:Int)<=(Br b now).3.2)=true->now.length<=maxLen->now.length<=maxLen->(0:Int)<=0/\0<=A2/\A2=A2/\A2<=A2/\(Int.toNat (A2-0)+1)*8<=140737488355328/\Int.toNat (A2-0)+1<=140737488355328/\SEq (Int.toNat (A2-0)+1) (A1 k0) (Int.toNat (A2-0)+1) (A1 k0)/\A0=A0/\p+Bp b now k0=p+Bp b now k0/\l=l/\(288:Nat)=(288:Nat)/\A0=A0/\Does Tryz.prog Y Gl (Nb b P l m s) (288:FuncId) (A3 k0) (Ki b l (p+Bp b now k0)) (.ret (B (decide (p+Bp b now (k0+1)<=s)))) [((0:Nat),BIG,T.tr (min (p+Bp b now (k0+1)) (s+1)))]/\((!decide (p+Bp b now (k0+1)<=s))=true->false=decide (p+List.length (Ff b now)<=s)/\min (p+Bp b now (k0+1)) (s+1)=min (p+List.length (Ff b now)) (s+1)/\l=l/\(288:Nat)=(288:Nat)/\A0=A0)/\((!decide (p+Bp b now (k0+1)<=s))=false->iR (A4.3.1+(k0:Int)+1)/\k0<Um b now p s/\A4.3.1+(k0:Int)+1=A4.3.1+(↑(k0+1):Int)/\(sR eI now)/\A0=A0/\A4.3.1=A4.3.1/\A4.3.2=A4.3.2/\min (p+Bp b now (k0+1)) (s+1)=p+Bp b now (k0+1)/\l=l/\(288:Nat)=(288:Nat)/\A0=A0))/\(decide ((Br b now).3.1+(k0:Int)<=(Br b now).3.2)=false->true=decide (p+List.length (Ff b now)<=s)/\p+Bp b now k0=min (p+List.length (Ff b now)) (s+1)/\l=l/\(288:Nat)=(288:Nat)/\A0=A0))))) Tryz.func288 (by kernel_rfl) (by kernel_rfl) ?_
 simp only [stdS,imp_self,implies_true,and_true,decide_eq_true_eq,decide_eq_false_iff_not,Bool.not_eq_true',Bool.not_eq_false',Af,Bi]
 have hf:=okPB_facts hok
 obtain ⟨e1,e2,_⟩:=Tz (show Ch b.hands (Br b now)=true from hf.2.2.2.2.2.2.2 now.length hlt)
 have hlb:=hf.2.2.1
 have hel:=Avu (l:=Br b now) e2.1
 have hc0:Bp b now 0=0:=rfl
 have hst:Um b now p s<=(Ce (Br b now)).length:=by have:=Lg (p:=fun k=>decide (p+Bp b now (k+1)<=s)) (l:=List.range (Ce (Br b now)).length);rw [List.length_range] at this;exact this
 have hstop:∀ k,k<=Um b now p s->p+Bp b now k<=s:=fun k hk=>by
  match k,hk with
  |0,_=>rw [hc0];exact hs
  |k+1,hk=>
   have h:=Jy (p:=fun k=>decide (p+Bp b now (k+1)<=s)) (l:=List.range (Ce (Br b now)).length) (i:=k) hk
   rw [Cr (by omega)] at h
   exact of_decide_eq_true h
 have hall:=Avt hlt
 refine fun _ _=>⟨beq_eq_false_iff_ne.2 (by omega),fun _=>⟨⟨by omega,by omega⟩,⟨?_,?_⟩,fun k hk=>⟨fun h1=>?_,fun h1=>?_⟩⟩⟩
 ·show (Br b now).errs.lo=_
  omega
 ·exact ⟨rfl,rfl,by omega,trivial⟩
 ·have hke:k<(Ce (Br b now)).length:=by omega
  have hm:=Akq (b:=b) (now:=now) (show k+1<=(Ce (Br b now)).length by omega) (Nat.le_refl _)
  have hz:((now.length:Int) - 0).toNat=now.length:=by omega
  have e0:(fun i=>eI (nth now (Int.toNat 0+i)))=fun i=>eI (nth now i):=funext fun i=>by rw [show Int.toNat 0+i=i by simp]
  have hq:SEq (now.length+1) (Ar now.length (fun i=>eI (nth now i)) fun i=>[List.map C.dem [C.v (Value.int IntKind.i64 ((Br b now).errs.lo+k))]].getD i []) (now.length+1) (fun i=>eI (nth (now++[nth (Ce (Br b now)) k]) i)):=by
   have:=Oc (f:=eI) (l:=now) (r:=now++[nth (Ce (Br b now)) k]) (x:=nth (Ce (Br b now)) k) rfl rfl
   rw [List.length_append,List.length_singleton,Akr hke] at this
   rw [Akr hke]
   exact this
  rw [hz,e0]
  refine fun _ _=>⟨by omega,by omega,by omega,by omega,by omega,ih k _ _ hke (hstop k hk) hq,fun h2=>⟨(decide_eq_false (by omega)).symm,by omega,trivial⟩,fun h2=>⟨by omega,Id hk (by rw [List.length_range];exact hke) (by rw [Cr hke];exact decide_eq_true h2),by omega,by omega,trivial⟩⟩
 ·have hke:k=(Ce (Br b now)).length:=by omega
  have h2:=hstop k hk
  rw [hall,<-hke]
  exact ⟨(decide_eq_true h2).symm,by omega,trivial⟩
theorem Aks {Gl} (S:SP Gl) (b:PBook) (P:List (List Int)) (l m s:Nat) (hok:okPB b=true):∀ (r:Nat) (now:List Int) (p:Nat),now.length+r=b.lines.length->p<=s->(∀ i,i<(Ff b now).length->p+i<m/\nth P (p+i)=nth (Ff b now) i)->
  Does Tryz.prog Y Gl (Nb b P l m s) 288 [L eI now,.d (.c (.p (cPB b))),.addr FAR 0,.addr (FAR+1) 0] (Ki b l p) (.ret (B (decide (p+(Ff b now).length<=s)))) [(0,BIG,.tr (min (p+(Ff b now).length) (s+1)))]
 |0,now,p,hn,hs,hP=>by
  have ha:Ff b now=[now]:=by unfold Ff;rw [List.drop_eq_nil_of_le (by omega)];rfl
  rw [ha] at hP ⊢
  obtain ⟨h1,h2⟩:=hP 0 (Nat.zero_lt_one)
  have:=Avv S b now P l m s p (by omega) h1 hs h2
  have e1:(p != s)=decide (p+1<=s):=by
   rcases Nat.lt_or_ge p s with h|h
   ·rw [decide_eq_true (by omega)];exact bne_iff_ne.2 (by omega)
   ·rw [decide_eq_false (by omega),show p=s by omega];simp
  rw [e1] at this
  have e2:min (p+[now].length) (s+1)=p+1:=by show min (p+1) (s+1)=_;omega
  rw [e2]
  exact this
 |r+1,now,p,hn,hs,hP=>by
  refine Avw S b now P l m s p (by omega) hok hs fun k n f hk hst hseq=>?_
  have hlt:now.length<b.lines.length:=by omega
  have ih:=Aks S b P l m s hok r (now++[nth (Ce (Br b now)) k]) (p+Bp b now k) (by rw [List.length_append,List.length_singleton];omega) hst
  have e1:Ff b (now++[nth (Ce (Br b now)) k])=sub b now (nth (Ce (Br b now)) k):=by unfold Ff sub;rw [List.length_append,List.length_singleton]
  rw [e1] at ih
  have e2:=Akp hk
  rw [show p+Bp b now (k+1)=p+Bp b now k+(sub b now (nth (Ce (Br b now)) k)).length by omega]
  refine (ih fun i hi=>?_).args (show SEq n f (now++[nth (Ce (Br b now)) k]).length (fun i=>eI (nth (now++[nth (Ce (Br b now)) k]) i))/\cPB b=cPB b from ⟨by rw [List.length_append,List.length_singleton];exact hseq,rfl⟩)
  have hb:=Aj6 (f:=sub b now) hk
  have hn1:=Adi (f:=sub b now) (i:=i) hk hi
  rw [Ako hlt] at hP
  have h3:=hP (Bp b now k+i) (by unfold Bp;omega)
  rw [Nat.add_assoc]
  exact ⟨h3.1,h3.2.trans hn1⟩
theorem Akt {Gl} (S:SP Gl) (b:PBook):CO Gl 182 [.d (.agg (cPB b))] (.ret (.fn 287 [] [.d (.c (.p (cPB b)))])):=by
 refine Acr S (t:=2) (id:=1) .nil Tryz.func182 (by kernel_rfl) Tryz.results182 (by decide) (by decide) (T.fn 287 [] [.addr 1 0]=T.fn 287 [] [.addr 1 0]/\live=live/\Gb (Dp 1 0 (cPB b)) 1 0 (cPB b)) (by kernel_rfl) ?_
 exact ⟨rfl,rfl,rfl,rfl,rfl,rfl,rfl,rfl,rfl,trivial⟩
theorem next0 {Gl} (S:SP Gl) (b:PBook) (P:List (List Int)) (l m s:Nat) (hok:okPB b=true) (hP:∀ i,i<(truthsL b).length->i<m/\nth P i=nth (truthsL b) i):
  Does Tryz.prog Y Gl (Nb b P l m s) 288 [.d (.c (.v (.slice none 0 0))),.d (.c (.p (cPB b))),.addr FAR 0,.addr (FAR+1) 0] (Ki b l 0) (.ret (B (decide ((truthsL b).length<=s)))) [(0,BIG,.tr (min (truthsL b).length (s+1)))]:=by
 have h:=Aks S b P l m s hok b.lines.length [] 0 (by simp) (Nat.zero_le _) (fun i hi=>by rw [Nat.zero_add];exact hP i hi)
 rw [Nat.zero_add] at h
 exact h.args (show (0:Nat)=0/\cPB b=cPB b from ⟨rfl,rfl⟩)
theorem Aku {Gl} (S:SP Gl) (b:PBook) (l m s:Nat) (hok:okPB b=true) (hm:m=(truthsL b).length):Does Tryz.prog Y Gl (Nb b (truthsL b) l m s) 287 [.yl l,.d (.c (.p (cPB b)))] [(0,BIG,.tr 0)] (.ret (.tup [])) [(0,BIG,.tr (min m (s+1)))]:=by
 refine Ef S (let A0:=[C.v (Value.int IntKind.i64 b.1),C.v (Value.int IntKind.i64 b.2),C.v (Value.int IntKind.i64 b.3),C.v (Value.int IntKind.i64 b.4),C.v (Value.int IntKind.i64 b.5),C.v (Value.int IntKind.i64 b.6),C.l eLine b.7];let A1:=[T.d (D.c (C.v (Value.slice none 0 0))),T.d (D.c (C.p (cPB b))),T.addr FAR (0:Nat),T.addr (FAR+1) (0:Nat)];let A2:=((0:Nat),BIG,T.tr (min (List.length (truthsL b)) (s+1)));((.w [(nat_lit 100000,nat_lit 2),(nat_lit 100001,nat_lit 3)] A1 (Ki b l (0:Nat)) (.ret (B (decide (List.length (truthsL b)<=s)))) [A2] .nil),(Value.slice none 0 0=Value.slice none 0 0/\A0=A0/\(0:Nat)=(0:Nat)/\l=l/\(288:Nat)=(288:Nat)/\A0=A0/\Does Tryz.prog Y Gl (Nb b (truthsL b) l m s) (288:FuncId) A1 (Ki b l (0:Nat)) (.ret (B (decide (List.length (truthsL b)<=s)))) [A2]/\True/\min (List.length (truthsL b)) (s+1)=min m (s+1)))) Tryz.func287 (by kernel_rfl) (by kernel_rfl) ?_
 simp only [stdS,imp_self,implies_true,and_true]
 exact ⟨next0 S b (truthsL b) l m s hok (fun i hi=>⟨by omega,rfl⟩),by rw [hm]⟩
theorem Avx {l:Line} {e:Int} (h:e∈Ce l):l.errs.lo<=e/\e<=l.errs.hi:=by
 unfold Ce at h
 obtain ⟨i,h1,rfl⟩:=List.mem_map.1 h
 have:=List.mem_range.1 h1
 omega
theorem Akv:∀ {ls:List Line} {now er:List Int},er∈trR ls now->er.length=now.length+ls.length/\(∀ i,i<now.length->nth er i=nth now i)/\∀ i,i<ls.length->(nth ls i).errs.lo<=nth er (now.length+i)/\nth er (now.length+i)<=(nth ls i).errs.hi
 | [],now,er,h=>by
  have:=List.mem_singleton.1 h
  subst this
  exact ⟨rfl,fun _ _=>rfl,fun i hi=>absurd hi (Nat.not_lt_zero i)⟩
 |l::ls,now,er,h=>by
  obtain ⟨e,h1,h2⟩:=List.mem_flatMap.1 h
  obtain ⟨q1,q2,q3⟩:=Akv h2
  rw [List.length_append,List.length_singleton] at q1 q2 q3
  refine ⟨by rw [q1,List.length_cons];omega,fun i hi=>?_,fun i hi=>?_⟩
  ·rw [q2 i (by omega),Tf hi]
  ·cases i with
   |zero=>
    rw [Nat.add_zero,q2 now.length (by omega),Mm (Nat.le_refl _),Nat.sub_self]
    exact Avx h1
   |succ i=>
    have:=q3 i (by simpa using hi)
    rw [show now.length+(i+1)=now.length+1+i by omega]
    exact this
theorem Zd {b:PBook} (hok:okPB b=true) {p:Nat} (hp:p<(truthsL b).length):(nth (truthsL b) p).length=b.lines.length/\∀ i,i<(nth (truthsL b) p).length->inR (nth (nth (truthsL b) p) i) 0 20=true:=by
 obtain ⟨q1,_,q3⟩:=Akv (ls:=b.lines) (now:=[]) (Er hp)
 change (nth (truthsL b) p).length=_ at q1
 rw [List.length_nil,Nat.zero_add] at q1
 refine ⟨q1,fun i hi=>?_⟩
 have h1:_<=nth (nth (truthsL b) p) _/\nth (nth (truthsL b) p) _<=_:=q3 i (by omega)
 rw [List.length_nil,Nat.zero_add] at h1
 obtain ⟨e1,e2,_⟩:=Tz ((okPB_facts hok).2.2.2.2.2.2.2 i (by omega))
 exact Bo.2 ⟨by omega,by omega⟩
def noL:List Int:=[]
def firstS (b:PBook):Nat:=Bm (fun er=>!paidAll b er) (truthsL b)
theorem Avy {Gl} (S:SP Gl) (b:PBook) (hok:okPB b=true) (hs:firstS b<(truthsL b).length):CO Gl 237 [.d (.agg (cPB b))] (.ret (.tup [.c (.l eI (nth (truthsL b) (firstS b))),.c (Cb true)])):=by
 refine Ao S (let A0:=(truthsL b);let A1:=(T.fn (287:FuncId) [] [T.d (D.c (C.p (cPB b)))]);((.r (.ret A1) (.rf (List.length A0) (firstS b) (fun p=>[tAc b (nth A0 p)]) (fun p=>v 4 (ad 4)::v 5 (ad 5)::(bx 4 [C.v (Value.slice none 0 0)]++bx 5 [Cb false])) (fun k0=>.r (.ret (B (paidAll b (nth A0 k0)))) (.br .nil .nil)) .nil)),(CO Gl 182 [T.d (D.agg (cPB b))] (.ret A1)/\Yd.m yd0=(0:Nat)/\Pi (Does Tryz.prog Y Gl) (287:Nat) [] [T.d (D.c (C.p [C.v (Value.int IntKind.i64 b.1),C.v (Value.int IntKind.i64 b.2),C.v (Value.int IntKind.i64 b.3),C.v (Value.int IntKind.i64 b.4),C.v (Value.int IntKind.i64 b.5),C.v (Value.int IntKind.i64 b.6),C.l eLine b.7]))] (fun l=>Yd.mk l (List.length A0) (firstS b) fun p=>[tAc b (nth A0 p)]) (List.length A0) (firstS b)/\(Value.slice none 0 0=Value.slice none 0 0/\false=false)/\(∀ (k0:Nat),k0<List.length A0->k0<=firstS b->CO Gl 319 [tAc b (nth A0 k0)] (.ret (B (paidAll b (nth A0 k0))))/\(paidAll b (nth A0 k0)=true->k0=firstS b/\(sQ eI (nth A0 k0) (nth A0 (firstS b)))/\true=true)/\(paidAll b (nth A0 k0)=false->k0<firstS b/\Value.slice none 0 0=Value.slice none 0 0/\false=false))/\(List.length A0<=firstS b->List.length (nth A0 (firstS b))=(0:Nat)/\false=true)))) Tryz.func237 (by kernel_rfl) (by kernel_rfl) ?_
 simp only [stdS,imp_self,implies_true,and_true]
 have hl:=Lg (p:=fun er=>!paidAll b er) (l:=truthsL b)
 refine ⟨Akt S b,fun l=>Aku S b l _ _ hok rfl,fun k hk hks=>⟨Ajl S b _ hok (Zd hok hk).1 (Zd hok hk).2,fun h1=>?_,fun h1=>?_⟩,fun h1=>?_⟩
 ·have hke:k=firstS b:=by
   rcases Nat.lt_or_ge k (firstS b) with h2|h2
   ·have h3:=Jy (p:=fun er=>!paidAll b er) h2
    rw [h1] at h3
    cases h3
   ·omega
  exact ⟨hke,by rw [hke];exact Bn rfl,trivial⟩
 ·exact ⟨Id hks hk (by rw [h1];rfl),trivial⟩
 ·omega
theorem Avz {Gl} (S:SP Gl) (b:PBook) (hok:okPB b=true) (hs:firstS b=(truthsL b).length):CO Gl 237 [.d (.agg (cPB b))] (.ret (.tup [.c (.l eI noL),.c (Cb false)])):=by
 refine Ao S (let A0:=(truthsL b);let A1:=(T.fn (287:FuncId) [] [T.d (D.c (C.p (cPB b)))]);((.r (.ret A1) (.rf (List.length A0) (firstS b) (fun p=>[tAc b (nth A0 p)]) (fun p=>v 4 (ad 4)::v 5 (ad 5)::(bx 4 [C.v (Value.slice none 0 0)]++bx 5 [Cb false])) (fun k0=>.r (.ret (B (paidAll b (nth A0 k0)))) (.br .nil .nil)) .nil)),(CO Gl 182 [T.d (D.agg (cPB b))] (.ret A1)/\Yd.m yd0=(0:Nat)/\Pi (Does Tryz.prog Y Gl) (287:Nat) [] [T.d (D.c (C.p [C.v (Value.int IntKind.i64 b.1),C.v (Value.int IntKind.i64 b.2),C.v (Value.int IntKind.i64 b.3),C.v (Value.int IntKind.i64 b.4),C.v (Value.int IntKind.i64 b.5),C.v (Value.int IntKind.i64 b.6),C.l eLine b.7]))] (fun l=>Yd.mk l (List.length A0) (firstS b) fun p=>[tAc b (nth A0 p)]) (List.length A0) (firstS b)/\(Value.slice none 0 0=Value.slice none 0 0/\false=false)/\(∀ (k0:Nat),k0<List.length A0->k0<=firstS b->CO Gl 319 [tAc b (nth A0 k0)] (.ret (B (paidAll b (nth A0 k0))))/\(paidAll b (nth A0 k0)=true->k0=firstS b/\(sQ eI (nth A0 k0) noL)/\true=false)/\(paidAll b (nth A0 k0)=false->k0<firstS b/\Value.slice none 0 0=Value.slice none 0 0/\false=false))/\(List.length A0<=firstS b->(0:Nat)=(0:Nat)/\false=false)))) Tryz.func237 (by kernel_rfl) (by kernel_rfl) ?_
 simp only [stdS,imp_self,implies_true,and_true]
 have hl:=Lg (p:=fun er=>!paidAll b er) (l:=truthsL b)
 refine ⟨Akt S b,fun l=>Aku S b l _ _ hok rfl,fun k hk hks=>⟨Ajl S b _ hok (Zd hok hk).1 (Zd hok hk).2,fun h1=>?_,fun h1=>?_⟩,trivial⟩
 ·have hke:k=firstS b:=by
   rcases Nat.lt_or_ge k (firstS b) with h2|h2
   ·have h3:=Jy (p:=fun er=>!paidAll b er) h2
    rw [h1] at h3
    cases h3
   ·omega
  exact absurd hk (by omega)
 ·exact ⟨Id hks hk (by rw [h1];rfl),trivial⟩
theorem agrees142 {Gl} (S:SP Gl) (b:PBook) (hok:okPB b=true) (hs:firstS b<(truthsL b).length):CO Gl 142 [.d (.agg (cPB b))] (.ret (.tup [.c (.l eI (nth (truthsL b) (firstS b))),.c (Ci 0)])):=by
 refine Ao S (let A0:=(nth (truthsL b) (firstS b));((.r (.ret (B (okPB b))) (.br .nil (.r (.ret (.tup [D.c (C.l eI A0),D.c (Cb true)])) (.ff .nil)))),(CO Gl 88 [T.d (D.agg (cPB b))] (.ret (B (okPB b)))/\((!okPB b)=true->List.length A0=(0:Nat)/\(2:Int)=0)/\((!okPB b)=false->CO Gl 237 [T.d (D.agg (cPB b))] (.ret (.tup [D.c (C.l eI A0),D.c (Cb true)]))/\false=false/\(sR eI A0)/\(0:Int)=0)))) Tryz.func142 (by kernel_rfl) (by kernel_rfl) ?_
 simp only [stdS,imp_self,implies_true,and_true,hok]
 have h:=Adj S b
 rw [hok] at h
 exact ⟨h,fun h=>(by cases h),fun _=>⟨Avy S b hok hs,trivial⟩⟩
theorem agrees142n {Gl} (S:SP Gl) (b:PBook) (hok:okPB b=true) (hs:firstS b=(truthsL b).length):CO Gl 142 [.d (.agg (cPB b))] (.ret (.tup [.c (.l eI noL),.c (Ci 5)])):=by
 refine An S (.r (.ret (B (okPB b))) (.br .nil (.r (.ret (.tup [D.c (C.l eI noL),D.c (Cb false)])) (.tt .nil)))) Tryz.func142 (by kernel_rfl) (CO Gl 88 [T.d (D.agg (cPB b))] (.ret (B (okPB b)))/\((!okPB b)=true->(0:Nat)=(0:Nat)/\(2:Int)=5)/\((!okPB b)=false->CO Gl 237 [T.d (D.agg (cPB b))] (.ret (.tup [D.c (C.l eI noL),D.c (Cb false)]))/\true=true/\(0:Nat)=(0:Nat)/\(5:Int)=5)) (by kernel_rfl) ?_
 simp only [stdS,imp_self,implies_true,and_true,hok]
 have h:=Adj S b
 rw [hok] at h
 exact ⟨h,fun h=>(by cases h),fun _=>⟨Avz S b hok hs,trivial⟩⟩
end Go.Vc.Zn.Py
