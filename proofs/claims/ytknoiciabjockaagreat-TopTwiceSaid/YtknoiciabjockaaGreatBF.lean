/- A part of the proofs over the layers: the program and the specification; no condition. -/
import Derived.Test.YtknoiciabjockaaGreatBE
set_option linter.all false
set_option linter.unusedSimpArgs false
set_option linter.unusedVariables false
namespace Go.Vc.Zn.Pf
open Go Go.Proofs Go.Vc Go.RowKit
theorem und20:∃ ms,Tryz.prog.underlying 20=some (.interface ms):=by
 obtain ⟨d,i,z,h1,_,_,_,_,_,h7,_⟩:=yok 20 (by kernel_rfl)
 obtain ⟨ms,rfl⟩:∃ ms,d=.interface ms:=h7
 exact ⟨ms,h1⟩
theorem k133:(Y 447).kind=.struct [(0,3)]:=by kernel_rfl
theorem k135:(Y 449).kind=.struct [(0,9)]:=by kernel_rfl
theorem z133:(Y 447).zero.toArray=#[.int .i64 0]:=by kernel_rfl
theorem z135:(Y 449).zero.toArray=#[.string (ByteArray.mk #[])]:=by kernel_rfl
theorem z26:(Y 30).zero.toArray=#[.int .i64 0]:=by kernel_rfl
theorem s133:(Y 447).size=1:=by kernel_rfl
theorem s135:(Y 449).size=1:=by kernel_rfl
theorem s26:(Y 30).size=1:=by kernel_rfl
theorem kn133:(Y 447).known=true:=by kernel_rfl
theorem kn135:(Y 449).known=true:=by kernel_rfl
theorem kn26:(Y 30).known=true:=by kernel_rfl
theorem ev_const {a:Act} {v:Value}:a.eval (.const v)=v:=rfl
theorem sl1 (p v:Value):SL { tmps:=#[p]++(Array.replicate 13 undef).setIfInBounds 4 v,defers:=[] } 14 (upd (fun t=>#[p].getD t undef) 5 v) []:=by
 have:=(SL.start #[p] 14 (Nat.le_of_ble_eq_true rfl)).put (d:=5) (by decide) v
 simpa [Act.put] using this
def stO (t:TypeId) (p q:Operand):Oper:={ dst:=none,op:=Op.store t p q,type:=0,pos:= "",after:=#[],guard:=none }
theorem catch_idle (p:Value) (w:World):
  CallsD Tryz.prog 313 #[p] .returning w fun e u' w'=>e=.returned (.tuple #[])/\u'=.returning/\w'=w:=by
 refine callsD_of_wpS Tryz.func313 rfl fun c₀ cs hu=>?_
 apply wpS_seq
 apply wpS_region
 simp [wpOpsS,go_sem,recoverD,hu,Tryz.ntmps313,Exit.thenS]
 have S:=sl1 p .nilIface
 refine wpS_of_wp (wp_block (wp_seq (wp_region_list ?_)))
 generalize ({ tmps:=#[p]++(Array.replicate 13 undef).setIfInBounds 4 Value.nilIface,defers:=[] }:Act)=a at S ⊢
 refine rl_val S (d:=7) (v:=.bool true) (w':=w) rfl (by decide) rfl ?_ fun a1 S1=>?_
 ·simp [execOp,S.eval,upd,run_eql_nil_nil und20,ev_const,eqGuard]
 refine wp_cond_true (by simp [S1.eval,upd]) (wp_region_list ?_)
 refine rl_val S1 (d:=1) (v:=.nilIface) (w':=w) rfl (by decide) rfl ?_ fun a2 S2=>?_
 ·simp [execOp,S1.eval,upd]
 cases c₀
 simp_all [wpList,bodyPostS,results,Tryz.results313,Exit.inBlock,S2.defers]
theorem catch_row (b1:Nat) (x:Int) (older:List PanicEntry) (w:World) (h1:w.heap[b1]?=some (.cells #[.int .i64 0] 30 (0,0))):
  CallsD Tryz.prog 313 #[.pointer (some ⟨b1,0,none⟩)] (.panicking ({ v:=.iface 447 (.agg #[.int .i64 x]),recovered:=false }::older)) w fun e u' w'=>
   e=.returned (.tuple #[])/\u'=.panicking ({ v:=.iface 447 (.agg #[.int .i64 x]),recovered:=true }::older)/\Same w w'/\w'.heap[b1]?=some (.cells #[.int .i64 7] 30 (0,0))/\
   ∀ b,b<w.heap.size->b≠b1->w'.heap[b]?=w.heap[b]?:=by
 have l1:b1<w.heap.size:=(Array.getElem?_eq_some_iff.1 h1).1
 refine callsD_of_wpS Tryz.func313 rfl fun c₀ cs hu=>?_
 apply wpS_seq
 apply wpS_region
 simp [wpOpsS,go_sem,recoverD,hu,Tryz.ntmps313,Exit.thenS]
 have S:=sl1 (.pointer (some ⟨b1,0,none⟩)) (.iface 447 (.agg #[.int .i64 x]))
 refine wpS_of_wp (wp_block (wp_seq (wp_region_list ?_)))
 generalize ({ tmps:=#[Value.pointer (some ⟨b1,0,none⟩)]++(Array.replicate 13 undef).setIfInBounds 4 (Value.iface 447 (.agg #[.int .i64 x])),defers:=[] }:Act)=a at S ⊢
 refine rl_val S (d:=7) (v:=.bool false) (w':=w) rfl (by decide) rfl ?_ fun a1 S1=>?_
 ·simp [execOp,S.eval,upd,run_eql_iface_nil und20,ev_const,eqGuard]
 refine wp_cond_false (by simp [S1.eval,upd]) (wp_seq (wp_region_list ?_))
 refine rl_val S1 (d:=8) (v:=.tuple #[.agg #[.int .i64 x],.bool true]) (w':=w) rfl (by decide) rfl ?_ fun a2 S2=>?_
 ·simp [execOp,S1.eval,upd,run_assert_yes (yok 447 kn133) ⟨_,k133⟩]
 refine rl_val S2 (d:=9) (v:=.bool true) (w':=w) rfl (by decide) rfl ?_ fun a3 S3=>?_
 ·simp [execOp,S2.eval,upd,Instr.extract]
 refine rl_val S3 (d:=10) (v:=.agg #[.int .i64 x]) (w':=w) rfl (by decide) rfl ?_ fun a7 S7=>?_
 ·simp [execOp,S3.eval,upd,Instr.extract]
 refine wp_cond_true (by simp [S7.eval,upd]) (wp_seq (wp_region_list ?_))
 have hal:=fun (o:Oper) (ho:o.op=Op.alloc 447)=>raw_alloc (P:=Tryz.prog) (a:=a7) (w:=w) (o:=o) yok (t:=447) ho kn133
 rw [z133] at hal
 refine rl_val S7 (d:=2) rfl (by decide) rfl (hal _ rfl) fun a8 S8=>?_
 obtain ⟨w1,hw1⟩:∃ w1,w.alloc (.cells #[.int .i64 0] 447 (0,0))=w1:=⟨_,rfl⟩
 have hw1':w.alloc (.cells #[.int .i64 0] 447)=w1:=hw1
 rw [hw1']
 have g1:Same w w1:=by rw [<-hw1];exact same_alloc _ _
 have g2:∀ b,b<w.heap.size->w1.heap[b]?=w.heap[b]?:=fun b hb=>by rw [<-hw1];exact heap_alloc_lt _ _ hb
 have g3:w1.heap[w.heap.size]?=some (.cells #[.int .i64 0] 447 (0,0)):=by rw [<-hw1];exact World.alloc_heap_new w _
 have H:=fun (o:Oper) (ho:o.op=Op.store 447 (.tmp 2) (.tmp 10))=>raw_store (P:=Tryz.prog) (a:=a8) (w:=w1) (v:=.agg #[.int .i64 x]) (b:=w.heap.size) (o:=o)
  yok (t:=447) ho kn133 (by simp [S8.eval,upd]) (by simp [S8.eval,upd]) (by rw [s133];rfl) (by rw [s133];rfl) (by simp [Value.cells,Value.oneCell']) g3
 obtain ⟨_,r2,r3,r4⟩:=H (stO 447 (.tmp 2) (.tmp 10)) rfl
 refine rl_skip S8 rfl rfl (H _ rfl).1 fun a9 S9=>?_
 clear H
 generalize w1.setRow w.heap.size (Value.agg #[.int .i64 x]).cells=w2 at r2 r3 r4 ⊢
 refine wp_region_list ?_
 have g5:w2.heap[b1]?=some (.cells #[.int .i64 0] 30 (0,0)):=by rw [r4 _ (by omega),g2 _ l1];exact h1
 have H:=fun (o:Oper) (ho:o.op=Op.store 30 (.tmp 0) (.const (.int .i64 7)))=>raw_store (P:=Tryz.prog) (a:=a9) (w:=w2) (v:=.int .i64 7) (b:=b1) (o:=o)
  yok (t:=30) ho kn26 (by simp [S9.eval,upd]) rfl (by rw [s26];rfl) (by rw [s26];rfl) (by simp [Value.cells,Value.oneCell']) g5
 obtain ⟨_,t2,t3,t4⟩:=H (stO 30 (.tmp 0) (.const (.int .i64 7))) rfl
 refine rl_skip S9 rfl rfl (H _ rfl).1 fun a10 S10=>?_
 clear H
 generalize w2.setRow b1 (Value.int .i64 7).cells=w4 at t2 t3 t4 ⊢
 have e3:∀ b,b<w.heap.size->b≠b1->w4.heap[b]?=w.heap[b]?:=fun b hb h1=>by rw [t4 _ h1,r4 _ (by omega),g2 _ hb]
 have e4:Same w w4:=(g1.trans r3).trans t3
 exact ⟨S10.defers,_,rfl,.tuple #[],by simp [results,Tryz.results313],rfl,rfl,e4,t2,e3⟩
theorem catch_text (b1:Nat) (x:ByteArray) (older:List PanicEntry) (w:World) (h1:w.heap[b1]?=some (.cells #[.int .i64 0] 30 (0,0))):
  CallsD Tryz.prog 313 #[.pointer (some ⟨b1,0,none⟩)] (.panicking ({ v:=.iface 449 (.agg #[.string x]),recovered:=false }::older)) w fun e u' w'=>
   e=.returned (.tuple #[])/\u'=.panicking ({ v:=.iface 449 (.agg #[.string x]),recovered:=true }::older)/\Same w w'/\w'.heap[b1]?=some (.cells #[.int .i64 4] 30 (0,0))/\
   ∀ b,b<w.heap.size->b≠b1->w'.heap[b]?=w.heap[b]?:=by
 have l1:b1<w.heap.size:=(Array.getElem?_eq_some_iff.1 h1).1
 refine callsD_of_wpS Tryz.func313 rfl fun c₀ cs hu=>?_
 apply wpS_seq
 apply wpS_region
 simp [wpOpsS,go_sem,recoverD,hu,Tryz.ntmps313,Exit.thenS]
 have S:=sl1 (.pointer (some ⟨b1,0,none⟩)) (.iface 449 (.agg #[.string x]))
 refine wpS_of_wp (wp_block (wp_seq (wp_region_list ?_)))
 generalize ({ tmps:=#[Value.pointer (some ⟨b1,0,none⟩)]++(Array.replicate 13 undef).setIfInBounds 4 (Value.iface 449 (.agg #[.string x])),defers:=[] }:Act)=a at S ⊢
 refine rl_val S (d:=7) (v:=.bool false) (w':=w) rfl (by decide) rfl ?_ fun a1 S1=>?_
 ·simp [execOp,S.eval,upd,run_eql_iface_nil und20,ev_const,eqGuard]
 refine wp_cond_false (by simp [S1.eval,upd]) (wp_seq (wp_region_list ?_))
 obtain ⟨z,hz⟩:=run_assert_no (Y:=Y) (t:=447) (t':=449) (xt:=20) (v:=.agg #[.string x]) (w:=w) yok ⟨_,k133⟩ (by decide)
 refine rl_val S1 (d:=8) (v:=.tuple #[z,.bool false]) (w':=w) rfl (by decide) rfl ?_ fun a2 S2=>?_
 ·simp [execOp,S1.eval,upd,hz]
 refine rl_val S2 (d:=9) (v:=.bool false) (w':=w) rfl (by decide) rfl ?_ fun a3 S3=>?_
 ·simp [execOp,S2.eval,upd,Instr.extract]
 refine rl_val S3 (d:=10) (v:=z) (w':=w) rfl (by decide) rfl ?_ fun a4 S4=>?_
 ·simp [execOp,S3.eval,upd,Instr.extract]
 refine wp_cond_false (by simp [S4.eval,upd]) (wp_seq (wp_region_list ?_))
 refine rl_val S4 (d:=11) (v:=.tuple #[.agg #[.string x],.bool true]) (w':=w) rfl (by decide) rfl ?_ fun a5 S5=>?_
 ·simp [execOp,S4.eval,upd,run_assert_yes (yok 449 kn135) ⟨_,k135⟩]
 refine rl_val S5 (d:=12) (v:=.bool true) (w':=w) rfl (by decide) rfl ?_ fun a6 S6=>?_
 ·simp [execOp,S5.eval,upd,Instr.extract]
 refine rl_val S6 (d:=13) (v:=.agg #[.string x]) (w':=w) rfl (by decide) rfl ?_ fun a7 S7=>?_
 ·simp [execOp,S6.eval,upd,Instr.extract]
 refine wp_cond_true (by simp [S7.eval,upd]) (wp_seq (wp_region_list ?_))
 have hal:=fun (o:Oper) (ho:o.op=Op.alloc 449)=>raw_alloc (P:=Tryz.prog) (a:=a7) (w:=w) (o:=o) yok (t:=449) ho kn135
 rw [z135] at hal
 refine rl_val S7 (d:=3) rfl (by decide) rfl (hal _ rfl) fun a8 S8=>?_
 obtain ⟨w1,hw1⟩:∃ w1,w.alloc (.cells #[.string (ByteArray.mk #[])] 449 (0,0))=w1:=⟨_,rfl⟩
 have hw1':w.alloc (.cells #[.string (ByteArray.mk #[])] 449)=w1:=hw1
 rw [hw1']
 have g1:Same w w1:=by rw [<-hw1];exact same_alloc _ _
 have g2:∀ b,b<w.heap.size->w1.heap[b]?=w.heap[b]?:=fun b hb=>by rw [<-hw1];exact heap_alloc_lt _ _ hb
 have g3:w1.heap[w.heap.size]?=some (.cells #[.string (ByteArray.mk #[])] 449 (0,0)):=by rw [<-hw1];exact World.alloc_heap_new w _
 have H:=fun (o:Oper) (ho:o.op=Op.store 449 (.tmp 3) (.tmp 13))=>raw_store (P:=Tryz.prog) (a:=a8) (w:=w1) (v:=.agg #[.string x]) (b:=w.heap.size) (o:=o)
  yok (t:=449) ho kn135 (by simp [S8.eval,upd]) (by simp [S8.eval,upd]) (by rw [s135];rfl) (by rw [s135];rfl) (by simp [Value.cells,Value.oneCell']) g3
 obtain ⟨_,r2,r3,r4⟩:=H (stO 449 (.tmp 3) (.tmp 13)) rfl
 refine rl_skip S8 rfl rfl (H _ rfl).1 fun a9 S9=>?_
 clear H
 generalize w1.setRow w.heap.size (Value.agg #[.string x]).cells=w2 at r2 r3 r4 ⊢
 refine wp_region_list ?_
 have g5:w2.heap[b1]?=some (.cells #[.int .i64 0] 30 (0,0)):=by rw [r4 _ (by omega),g2 _ l1];exact h1
 have H:=fun (o:Oper) (ho:o.op=Op.store 30 (.tmp 0) (.const (.int .i64 4)))=>raw_store (P:=Tryz.prog) (a:=a9) (w:=w2) (v:=.int .i64 4) (b:=b1) (o:=o)
  yok (t:=30) ho kn26 (by simp [S9.eval,upd]) rfl (by rw [s26];rfl) (by rw [s26];rfl) (by simp [Value.cells,Value.oneCell']) g5
 obtain ⟨_,t2,t3,t4⟩:=H (stO 30 (.tmp 0) (.const (.int .i64 4))) rfl
 refine rl_skip S9 rfl rfl (H _ rfl).1 fun a10 S10=>?_
 clear H
 generalize w2.setRow b1 (Value.int .i64 4).cells=w4 at t2 t3 t4 ⊢
 have e3:∀ b,b<w.heap.size->b≠b1->w4.heap[b]?=w.heap[b]?:=fun b hb h1=>by rw [t4 _ h1,r4 _ (by omega),g2 _ hb]
 have e4:Same w w4:=(g1.trans r3).trans t3
 exact ⟨S10.defers,_,rfl,.tuple #[],by simp [results,Tryz.results313],rfl,rfl,e4,t2,e3⟩
def attV:Ending->Value
 | .panicked [{ v:=.iface 447 _,.. }]=>.int .i64 7
 | .panicked [{ v:=.iface 449 _,.. }]=>.int .i64 4
 |_=>.int .i64 0
def attW (w:World):World:=w.alloc (.cells #[.int .i64 0] 30 (0,0))
structure AttOK (w w':World) (en:Ending):Prop where
 one:w'.heap[w.heap.size]?=some (.cells #[.int .i64 0] 30 (0,0))
 en:en=.returned (.tuple #[])∨(∃ x,en=.panicked [{ v:=.iface 447 (.agg #[.int .i64 x]),recovered:=false }])∨∃ s,en=.panicked [{ v:=.iface 449 (.agg #[.string s]),recovered:=false }]
theorem att_results {a:Act} {w:World} {b1:Nat} {x:Value} (h1:a.tmps.getD 2 undef=.pointer (some ⟨b1,0,none⟩))
  (g1:w.heap[b1]?=some (.cells #[x] 30 (0,0))):(results Tryz.f224 a.tmps).run Tryz.prog w=.ok x w:=by
 have l1:=run_load1 yok (t:=30) (by kernel_rfl) (w:=w) (b:=b1) (off:=0) (u:=x) (by simp [World.cell?,g1])
 have he:Tryz.f224.results.mapM (resM a.tmps)=List.toArray <$> Tryz.f224.results.toList.mapM (resM a.tmps):=Array.mapM_eq_mapM_toList ..
 have he2:results Tryz.f224 a.tmps=(Tryz.f224.results.mapM (resM a.tmps) >>= fun vs=>pure (if h:vs.size=1 then vs[0] else .tuple vs)):=rfl
 have hrun:([ResultVar.cell 2 30].mapM (resM a.tmps)).run Tryz.prog w=.ok [x] w:=by
  have r1:(resM a.tmps (.cell 2 30)).run Tryz.prog w=.ok x w:=by simp [resM,h1,asAddr,l1]
  rw [run_mapM_cons,r1,Result.andThen_ok]
  simp
 rw [he2,he,Tryz.results224]
 simp only [Sem.run_bind,Sem.run_map,hrun,Result.andThen_ok,Sem.run_pure]
 rfl
theorem attempt_calls (g:FuncId) (hg:FnOK Tryz.prog g) (us vs:Array Value) (w:World) (R:Ending->World->Prop) (hcall:Calls Tryz.prog g (us++vs) (attW w) R) (hR:∀ en w',R en w'->AttOK w w' en):
  Calls Tryz.prog 224 #[.func (.func g) us vs] w fun en w''=>∃ en0 w',R en0 w'/\Same w' w''/\(∀ b,b<w'.heap.size->b≠w.heap.size->w''.heap[b]?=w'.heap[b]?)/\(∃ x,w''.heap[w.heap.size]?=some (.cells #[x] 30 (0,0)))/\en=.returned (attV en0):=by
 go_enter_defers Tryz.func224,Tryz.ntmps224
 have S:SL { tmps:=#[Value.func (Fn.func g) us vs,undef,undef,undef,undef,undef],defers:=[] } 6 (fun t=>#[Value.func (Fn.func g) us vs].getD t undef) []:=by
  exact SL.start #[Value.func (Fn.func g) us vs] 6 (Nat.le_of_ble_eq_true rfl)
 generalize ({ tmps:=#[Value.func (Fn.func g) us vs,undef,undef,undef,undef,undef],defers:=[] }:Act)=a at S ⊢
 refine wp_seq (wp_region_list ?_)
 have hal:=fun (o:Oper) (ho:o.op=Op.alloc 30)=>raw_alloc (P:=Tryz.prog) (a:=a) (w:=w) (o:=o) yok (t:=30) ho kn26
 rw [z26] at hal
 refine rl_val S (d:=2) rfl (by decide) rfl (hal _ rfl) fun a2 S2=>?_
 show Code.wp Tryz.prog _ _ a2 (attW w)
 generalize hw1:attW w=w1 at hcall ⊢
 refine wp_seq (wp_region_list ?_)
 refine rl_val S2 (d:=3) (v:=.func (.func 313) #[] #[.pointer (some ⟨w.heap.size,0,none⟩)]) (w':=w1) rfl (by decide) rfl ?_ fun a3 S3=>?_
 ·simp [execOp,S2.eval,upd,Instr.makeFunc]
 refine rl_defer S3 (d:={ target:=.fn (.func 313) #[.pointer (some ⟨w.heap.size,0,none⟩)],args:=#[] }) rfl rfl ?_ fun a4 S4=>?_
 ·simp [execOp,resolve,S3.eval,upd,Deferred.ofValue]
 refine wp_seq (wp_region_list ?_)
 refine rl_val S4 (d:=4) (v:=.func (.func g) us vs) (w':=w1) rfl (by decide) rfl ?_ fun a5 S5=>?_
 ·simp [execOp,S4.eval,upd]
 have hinv:∀ (p:Value) (w:World),(invoke (.fn (.func 313) #[p]) #[]).run Tryz.prog w=.ok (.enter 313 #[p]) w:=fun p w=>by
  have h2:(Tryz.f313.name== "runtime.NumGoroutine")=false:=by kernel_rfl
  have h3:Tryz.f313.body.isNone=false:=by kernel_rfl
  have h2':Tryz.f313.name≠ "runtime.NumGoroutine":=by simpa using h2
  have h3':Tryz.f313.body≠none:=by intro hh;rw [hh] at h3;cases h3
  simp [invoke,callFunc,Tryz.func313,h2',h3']
 refine rl_call S5 (d:=5) (g:=g) (vs:=us++vs) (R:=R) rfl (by decide) rfl ?_ hcall (fun v w2 hr a6 S6=>?_) (fun ch w2 hr=>?_) (fun w2 hr=>?_)
 ·have:=fun (o:Oper) (ho:o.op=Op.call { callee:=Callee.value (Operand.tmp 4),args:=#[],argTypes:=#[] })=>exec_call (P:=Tryz.prog) (a:=a5) (w:=w1) (o:=o) ho (by simp [S5.eval,upd]) hg (us:=us) (cvs:=vs)
  simpa using this _ rfl
 ·obtain ⟨c1,c3⟩:=hR _ _ hr
  have l1:w.heap.size<w2.heap.size:=(Array.getElem?_eq_some_iff.1 c1).1
  refine wp_seq (wp_region_list ?_)
  have H:=fun (o:Oper) (ho:o.op=Op.store 30 (.tmp 2) (.const (.int .i64 0)))=>raw_store (P:=Tryz.prog) (a:=a6) (w:=w2) (v:=.int .i64 0) (b:=w.heap.size) (o:=o)
   yok (t:=30) ho kn26 (by simp [S6.eval,upd]) rfl (by rw [s26];rfl) (by rw [s26];rfl) (by simp [Value.cells,Value.oneCell']) c1
  obtain ⟨_,t2,t3,t4⟩:=H (stO 30 (.tmp 2) (.const (.int .i64 0))) rfl
  refine rl_skip S6 rfl rfl (H _ rfl).1 fun a9 S9=>?_
  clear H
  generalize w2.setRow w.heap.size (Value.int .i64 0).cells=w4 at t2 t3 t4 ⊢
  refine wp_ret ?_
  show Leaves Tryz.prog Tryz.f224 a9.tmps _ a9.defers .returning w4
  rw [S9.defers]
  refine leaves_cons (by simp) (hinv _ w4) ((catch_idle _ w4).mono ?_)
  rintro e u' w5 ⟨rfl,rfl,rfl⟩
  have r1:=att_results (a:=a9) (w:=w5) (b1:=w.heap.size) (by rw [S9.get 2 (by decide)];simp [upd]) t2
  refine ⟨_,r1,_,_,hr,t3,fun b hb h1=>t4 _ h1,⟨_,t2⟩,?_⟩
  rcases c3 with h|⟨_,h⟩|⟨_,h⟩<;>cases h
  rfl
 ·obtain ⟨c1,c3⟩:=hR _ _ hr
  have l1:w.heap.size<w2.heap.size:=(Array.getElem?_eq_some_iff.1 c1).1
  show Leaves Tryz.prog Tryz.f224 a5.tmps _ a5.defers (.panicking ch) w2
  rw [S5.defers]
  refine leaves_cons (by simp) (hinv _ w2) ?_
  have e1:a5.tmps.getD 2 undef=.pointer (some ⟨w.heap.size,0,none⟩):=by rw [S5.get 2 (by decide)];simp [upd]
  rcases c3 with h|⟨x,h⟩|⟨s,h⟩
  ·cases h
  ·obtain rfl:ch=[{ v:=.iface 447 (.agg #[.int .i64 x]),recovered:=false }]:=Ending.panicked.inj h
   refine (catch_row _ x [] w2 c1).mono ?_
   rintro e u' w5 ⟨rfl,rfl,g1,g2,g4⟩
   have r1:=att_results (a:=a5) (w:=w5) e1 g2
   exact ⟨_,r1,_,_,hr,g1,g4,⟨_,g2⟩,rfl⟩
  ·obtain rfl:ch=[{ v:=.iface 449 (.agg #[.string s]),recovered:=false }]:=Ending.panicked.inj h
   refine (catch_text _ s [] w2 c1).mono ?_
   rintro e u' w5 ⟨rfl,rfl,g1,g2,g4⟩
   have r1:=att_results (a:=a5) (w:=w5) e1 g2
   exact ⟨_,r1,_,_,hr,g1,g4,⟨_,g2⟩,rfl⟩
 ·obtain ⟨_,c3⟩:=hR _ _ hr
  rcases c3 with h|⟨_,h⟩|⟨_,h⟩<;>cases h
variable {Gl:World->Prop}
inductive AttR:Res->Int->Prop
 |ok:AttR (.ret (.tup [])) 0
 |row (x:Int):AttR (.pan (.iface 447 (.agg #[.int .i64 x]))) 7
 |text (s:ByteArray):AttR (.pan (.iface 449 (.agg #[.string s]))) 4
theorem attW_size (w:World):(attW w).heap.size=w.heap.size+1:=by simp [attW,World.size_alloc]
theorem attW_lt (w:World) {b:Nat} (h:b<w.heap.size):(attW w).heap[b]?=w.heap[b]?:=by
 unfold attW
 exact heap_alloc_lt _ _ h
theorem attW_same (w:World):Same w (attW w):=same_alloc _ _
theorem attW_one (w:World):(attW w).heap[w.heap.size]?=some (.cells #[.int .i64 0] 30 (0,0)):=World.alloc_heap_new w _
theorem attW_keep {vis:Nat->Nat} {w:World} (h:∀ b,w.heap.size<=b->vis b=0):KeepV vis w (attW w):=
 ⟨fun b i hi=>World.cell?_of_block (attW_lt w (by
  rcases Nat.lt_or_ge b w.heap.size with hb|hb
  ·exact hb
  ·rw [h b hb] at hi;omega)),fun b hb es c he=>by rw [attW_lt w (Array.getElem?_eq_some_iff.1 he).1];exact he,rows_same fun b h=>attW_lt w h⟩
theorem att_ret {base:Nat} {vis:Nat->Nat} {w:World} (e:Int):RetOK base vis w (I e) (.int .i64 e):=Rep.v _ rfl
theorem attempt74_does {g:FuncId} {fst caps:List T} {r:Res} {ev:Int} {pre post:Env} {yd:Yd} (hpre:preOK pre=true) (hpost:postOK pre post=true) (h:Does Tryz.prog Y Gl yd g (fst++caps) pre r post) (ha:AttR r ev):Does Tryz.prog Y Gl yd 224 [.fn g fst caps] pre (.ret (I ev)) post:=by
 obtain ⟨p0,p1,p2⟩:=preOK_get hpre
 obtain ⟨o1,o2,o3⟩:=postOK_get hpost
 refine ⟨⟨_,Tryz.func224,name224,by kernel_rfl⟩,fun J G w vs hst hgl hyl hfr hH hJ hmem hargs=>?_⟩
 simp only [RelTs,RelT] at hargs
 obtain ⟨v,vs1,hvs,⟨us,cvs,rfl,hu,hc⟩,rfl⟩:=hargs
 obtain rfl:vs=#[.func (.func g) us cvs]:=by rw [<-Array.toArray_toList (xs:=vs),hvs]
 have hkv:=attW_keep (w:=w) hfr
 have hext:Ext (fun _=>False) G G w (attW w):=⟨fun _=>Nat.le_refl _,hkv,fun b hb=>hb.elim⟩
 have hrel:RelTs G (attW w) (fun _=>False) (fst++caps) (us++cvs).toList:=by
  rw [Array.toList_append]
  exact (RelTs.mono hext (fun _ _=>rfl) hu).app (RelTs.mono hext (fun _ _=>rfl) hc)
 have hbk:∀ id,pre.get 2 id≠.any->G.bk id<w.heap.size:=fun id hid=>(hmem.box id hid).2.1
 have hJ1:=hst.1 _ _ _ _ _ hJ (fun b hb=>attW_lt w (hH b hb)) hkv (attW_same w)
 have hmem1:Mem Y (fun _=>False) pre (attW w) G:=Mem.keep (preOK_obj hpre) p1 (fun id hid=>attW_lt w (hbk id hid)) hkv (attW_same w) hmem
 have hsz:=attW_size w
 have hused:∀ id,Env.get (over post pre) 2 id≠.any->pre.get 2 id≠.any:=fun id hid=>by
  rw [get_over] at hid
  split at hid
  ·rename_i hk
   have:=o2 id hk
   intro hh
   rw [hh] at this
   unfold kindOK at this
   split at this<;>first|(rename_i hx;cases hx;done)|cases this
  ·exact hid
 have htok:∀ k,Env.get (over post pre) 1 k=.any:=fun k=>by
  rw [get_over,o1 k,if_neg (by decide)];exact p1 k
 have hobj:∀ id,Env.get (over post pre) 2 id≠.any->isObj (Env.get (over post pre) 2 id)=true:=fun id hid=>by
  rw [get_over] at hid ⊢
  split
  ·rename_i hk
   have:=o2 id hk
   unfold kindOK at this
   split at this<;>first|(rename_i hx _;rw [hx];rfl)|(rename_i hx;rw [hx];rfl)|(cases this)
  ·rename_i hk
   rw [if_neg hk] at hid
   exact preOK_obj hpre id hid
 have hcall:=h.2 J G (attW w) (us++cvs) hst hgl hyl (fun b hb=>hfr b (by omega)) (fun b hb=>by have:=hH b hb;omega) hJ1 hmem1 hrel
 refine (attempt_calls g h.1 us cvs w _ hcall fun en w' ⟨h1,h2,h3,h4,h5⟩=>⟨?_,?_⟩).mono ?_
 ·rw [h3 _ (by omega) (fun hh=>by have:=hH _ hh;omega) (fun id hid hh=>by have:=hbk id hid;omega)];exact attW_one w
 ·obtain ⟨G',_,_,_,_,_,_,_,hr⟩:=h5
  cases ha with
  |ok=>
   obtain ⟨v,rfl,vs,rfl,hr⟩:=hr
   obtain rfl:vs=#[]:=by
    have:=hr.1
    exact Array.eq_empty_of_size_eq_zero (by simpa using this.symm)
   exact .inl rfl
  |row x=>exact .inr (.inl ⟨x,hr⟩)
  |text s=>exact .inr (.inr ⟨s,hr⟩)
 ·rintro en w2 ⟨en0,w',⟨h1,h2,h3,h4,h5⟩,hs,hh,⟨x2,hx2⟩,rfl⟩
  have s1:=h1.size
  have s2:=hs.size
  obtain ⟨G',g1,g2,g3,g4,g5,g6,g7,hr⟩:=h5
  have hkeep2:∀ vis:Nat->Nat,(∀ b,w'.heap.size<=b->vis b=0)->vis w.heap.size=0->KeepV vis w' w2:=fun vis v1 v2=>by
   have hv:∀ b,0<vis b->w2.heap[b]?=w'.heap[b]?:=fun b hb=>hh b (by
    rcases Nat.lt_or_ge b w'.heap.size with h|h
    ·exact h
    ·rw [v1 b h] at hb;omega) (fun h=>by rw [h,v2] at hb;omega)
   refine ⟨fun b i hi=>World.cell?_of_block (hv b (by omega)),fun b hb es c he=>by rw [hv b hb];exact he,fun b cs t z hcs=>?_⟩
   by_cases hb:b=w.heap.size
   ·have h9:=h3 w.heap.size (by omega) (fun hh=>by have:=hH _ hh;omega) (fun id hid hh=>by have:=hbk id hid;omega)
    rw [hb,h9,attW_one w] at hcs
    obtain ⟨rfl,rfl,rfl⟩:=Obj.cells.inj (Option.some.inj hcs)
    rw [hb]
    exact ⟨_,_,_,hx2,Nat.le_refl _⟩
   ·exact ⟨cs,t,z,(hh b (Array.getElem?_eq_some_iff.1 hcs).1 hb).trans hcs,Nat.le_refl _⟩
  have hH':∀ b,G'.H b->w2.heap[b]?=w'.heap[b]?:=fun b hb=>by
   refine hh b (g5 b hb) (fun he=>?_)
   have:=hH b ((g4 b (by omega)).1 hb);omega
  have v1:G'.vis w.heap.size=0:=by rw [g2 _ (by omega)];exact hfr _ (by omega)
  refine ⟨((attW_same w).trans h1).trans hs,(hkv.trans h2).trans (hkeep2 G.vis (fun b hb=>hfr b (by omega)) (hfr _ (by omega))),fun b hb hn hno=>?_,fun id k hl hk=>?_,G',g1,fun b hb=>g2 b (by omega),fun b hb=>g3 b (by omega),
   fun b hb=>g4 b (by omega),fun b hb=>by have:=g5 b hb;omega,hst.1 _ _ _ _ _ g6 hH' (hkeep2 G'.vis g3 v1) hs,Mem.keep hobj htok (fun id hid=>?_) (hkeep2 G'.vis g3 v1) hs g7,?_⟩
  ·rw [hh b (by omega) (by omega),h3 b (by omega) hn hno,attW_lt w hb]
  ·have hid:pre.get 2 id≠.any:=by rw [hl];exact live_ne
   have hlt:=hbk id hid
   rw [World.cell?_of_block (show w2.heap[G.bk id]?=w'.heap[G.bk id]? from hh _ (by omega) (by omega)),h4 id k hl hk,World.cell?_of_block (show (attW w).heap[G.bk id]?=w.heap[G.bk id]? from attW_lt w hlt)]
  ·have hlt:=hbk id (hused id hid)
   rw [g1]
   exact hh _ (by omega) (by omega)
  ·cases ha with
   |ok=>
    obtain ⟨v,rfl,_⟩:=hr
    exact ⟨_,rfl,att_ret 0⟩
   |row x=>
    have hr:en0=_:=hr
    subst hr
    exact ⟨_,rfl,att_ret 7⟩
   |text s=>
    have hr:en0=_:=hr
    subst hr
    exact ⟨_,rfl,att_ret 4⟩
end Go.Vc.Zn.Pf
namespace Go.Vc.Zn
open Go Go.Proofs Go.Vc Go.RowKit
def pgS (id s m:Nat):Env:=(2,id,live)::(id+3,0,I 4)::(id+3,4,.arr s 3)::(id+3,5,.mp m)::(2,s,.arrc false 1 3 fun i=>eI (nth st1 i))::(2,m,mP D3)::[]
def rdrs (k:Nat):Nat->List Int
 |0=>[]
 |p+1=>bif D3 [(k:Int),(p:Int)]&&(p:Int) != nth st1 k then rdrs k p++[(p:Int)] else rdrs k p
theorem readers314 {Gl} (S:SP Gl) (k:Nat) (hk:k<3):Does Tryz.prog Y Gl yd0 314 [.addr FAR 0,I k] (pgS FAR (FAR+1) (FAR+2)) (.ret (L eI (rdrs k 4))) []:=by
 refine fn_iw S (let A0:=fun (k k0:Nat)=>(eqB (D3 [(k:Int),(k0:Int)]) true=true->eqB (D3 [(k:Int),(k0:Int)]) true=true);let A1:=(SEq (3:Nat) (fun i=>eI (nth st1 i)) (3:Nat) fun i=>eI (nth st1 i));((.loop (4:Nat) (fun p=>v 12 (I p)::v 11 (I 4)::v 0 (T.addr FAR (0:Nat))::v 1 (I k)::v 5 (Lt 900 eI (rdrs k p))::tk 900 3::pgS FAR (FAR+1) (FAR+2)) fun k0=>.br (.br .nil .nil) .nil),((0=(↑(0:Nat):Int)/\(4:Int)=4/\(k:Int)=(k:Int)/\(0:Nat)=(0:Nat)/\(4:Int)=4/\(3:Nat)=(3:Nat)/\A1/\MEq D3 (fun k=>vsC [Value.bool (D3 k)]) D3 fun k=>vsC [Value.bool (D3 k)])/\∀ (k0:Nat),k0<=(4:Nat)->(decide ((k0:Int)<4)=true->(D3 [(k:Int),(k0:Int)]=false->[C.v (Value.bool (D3 [(k:Int),(k0:Int)]))]=[C.v (Value.bool false)])/\(A0 k k0)/\(A0 k k0)/\(A0 k k0)/\(A0 k k0)/\(A0 k k0)/\(eqB (D3 [(k:Int),(k0:Int)]) true=true->0<=(k:Int)/\(k:Int)<(↑(3:Nat):Int))/\(A0 k k0)/\(eqB (D3 [(k:Int),(k0:Int)]) true=true->k<(3:Nat))/\(A0 k k0)/\(A0 k k0)/\(D3 [(k:Int),(k0:Int)]=true->eqB (D3 [(k:Int),(k0:Int)]) true=true)/\((bif D3 [(k:Int),(k0:Int)] then (k0:Int) != nth st1 k else false)=true->(List.length (rdrs k k0)+1)*8<=140737488355328/\List.length (rdrs k k0)+1<=140737488355328/\iR ((k0:Int)+1)/\k0<(4:Nat)/\(k0:Int)+1=(↑(k0+1):Int)/\(4:Int)=4/\(k:Int)=(k:Int)/\(SEq (List.length (rdrs k k0)+1) (catF (List.length (rdrs k k0)) (fun i=>eI (nth (rdrs k k0) i)) fun i=>List.getD [List.map C.dem [C.v (Value.int IntKind.i64 (k0:Int))]] i []) (List.length (rdrs k (k0+1))) fun i=>eI (nth (rdrs k (k0+1)) i))/\(4:Int)=4/\(3:Nat)=(3:Nat)/\A1/\MEq D3 (fun k=>vsC [Value.bool (D3 k)]) D3 fun k=>vsC [Value.bool (D3 k)])/\((bif D3 [(k:Int),(k0:Int)] then (k0:Int) != nth st1 k else false)=false->iR ((k0:Int)+1)/\k0<(4:Nat)/\(k0:Int)+1=(↑(k0+1):Int)/\(4:Int)=4/\(k:Int)=(k:Int)/\(sQ eI (rdrs k k0) (rdrs k (k0+1)))/\(4:Int)=4/\(3:Nat)=(3:Nat)/\A1/\MEq D3 (fun k=>vsC [Value.bool (D3 k)]) D3 fun k=>vsC [Value.bool (D3 k)]))/\(decide ((k0:Int)<4)=false->(sQ eI (rdrs k k0) (rdrs k (4:Nat)))/\(4:Int)=4/\(3:Nat)=(3:Nat)/\A1/\MEq D3 (fun k=>vsC [Value.bool (D3 k)]) D3 fun k=>vsC [Value.bool (D3 k)])))) Tryz.func314 (by kernel_rfl) (by kernel_rfl) ?_
 dsimp only
 have hr:∀ (n:Nat) (f:Nat->List C),SEq n f n f:=fun _ _=>.of ⟨rfl,fun _ _=>rfl⟩
 have hm:∀ E:DS,MEq E (fun key=>vsC [Value.bool (E key)]) E fun key=>vsC [Value.bool (E key)]:=fun _ _=>⟨rfl,fun _=>.inl rfl⟩
 have hlen:∀ p,(rdrs k p).length<=p:=fun p=>by
  induction p with
  |zero=>exact Nat.le_refl _
  |succ p ih=>
   show (bif D3 [(k:Int),(p:Int)]&&(p:Int) != nth st1 k then rdrs k p++[(p:Int)] else rdrs k p).length<=_
   cases D3 [(k:Int),(p:Int)]&&(p:Int) != nth st1 k with
   |true=>simp only [cond_true,List.length_append,List.length_singleton];omega
   |false=>simp only [cond_false];omega
 have hst:∀ (p:Nat) (b:Bool),(bif D3 [(k:Int),(p:Int)] then (p:Int) != nth st1 k else false)=b->rdrs k (p+1)=bif b then rdrs k p++[(p:Int)] else rdrs k p:=fun p b h=>by
  subst h
  show (bif D3 [(k:Int),(p:Int)]&&(p:Int) != nth st1 k then _ else _)=_
  cases D3 [(k:Int),(p:Int)]<;>rfl
 refine ⟨⟨rfl,rfl,rfl,rfl,rfl,rfl,hr _ _,hm _⟩,fun p hp=>⟨fun hd=>?_,fun hd=>?_⟩⟩
 ·have hlt:p<4:=by have:=of_decide_eq_true hd;omega
  have h1:=hlen p
  refine ⟨fun h=>by rw [h],id,id,id,id,id,fun _=>by omega,id,fun _=>hk,id,id,fun h=>by rw [h];rfl,fun h=>?_,fun h=>?_⟩
  ·exact ⟨by omega,by omega,(rng_iff _).2 (by omega),hlt,by omega,rfl,rfl,SEq_push1 (hst p true h) rfl,rfl,rfl,hr _ _,hm _⟩
  ·exact ⟨(rng_iff _).2 (by omega),hlt,by omega,rfl,rfl,SEq_whole (hst p false h),rfl,rfl,hr _ _,hm _⟩
 ·have he:p=4:=by have:=of_decide_eq_false hd;omega
  subst he
  exact ⟨hr _ _,rfl,rfl,hr _ _,hm _⟩
theorem mustPass226 {Gl} (S:SP Gl) (k:Nat) (hk:k<3):Does Tryz.prog Y Gl yd0 226 [.addr FAR 0,I k] (pgS FAR (FAR+1) (FAR+2)) (.ret (.tup [])) []:=by
 refine fn_iw S (let A0:=(SEq (3:Nat) (fun i=>eI (nth st1 i)) (3:Nat) fun i=>eI (nth st1 i));((.w [(nat_lit 100000,nat_lit 100000),(nat_lit 100001,nat_lit 100001),(nat_lit 100002,nat_lit 100002)] [T.addr FAR (0:Nat),I k] (pgS FAR (FAR+1) (FAR+2)) (.ret (L eI (rdrs k (4:Nat)))) [] (.br .nil .nil)),((k:Int)=(k:Int)/\(4:Int)=4/\(3:Nat)=(3:Nat)/\A0/\(MEq D3 (fun k=>vsC [Value.bool (D3 k)]) D3 fun k=>vsC [Value.bool (D3 k)])/\Does Tryz.prog Y Gl yd0 (314:FuncId) [T.addr FAR (0:Nat),I k] (pgS FAR (FAR+1) (FAR+2)) (.ret (L eI (rdrs k (4:Nat)))) []/\(List.length (rdrs k (4:Nat))<=maxLen->(decide ((↑(List.length (rdrs k (4:Nat))):Int)<2)=true->False/\(4:Int)=4/\(3:Nat)=(3:Nat)/\A0/\MEq D3 (fun k=>vsC [Value.bool (D3 k)]) D3 fun k=>vsC [Value.bool (D3 k)])/\(decide ((↑(List.length (rdrs k (4:Nat))):Int)<2)=false->True/\(4:Int)=4/\(3:Nat)=(3:Nat)/\A0/\MEq D3 (fun k=>vsC [Value.bool (D3 k)]) D3 fun k=>vsC [Value.bool (D3 k)]))))) Tryz.func226 (by kernel_rfl) (by kernel_rfl) ?_
 dsimp only
 have hr:∀ (n:Nat) (f:Nat->List C),SEq n f n f:=fun _ _=>.of ⟨rfl,fun _ _=>rfl⟩
 have hm:∀ E:DS,MEq E (fun key=>vsC [Value.bool (E key)]) E fun key=>vsC [Value.bool (E key)]:=fun _ _=>⟨rfl,fun _=>.inl rfl⟩
 have h2:∀ k,k<3->2<=(rdrs k 4).length:=by decide
 have:=h2 k hk
 exact ⟨rfl,rfl,rfl,hr _ _,hm _,readers314 S k hk,fun _=>⟨fun h=>by have:=of_decide_eq_true h;omega,fun _=>⟨trivial,rfl,rfl,hr _ _,hm _⟩⟩⟩
theorem passesF225 {Gl} (S:SP Gl)  :Does Tryz.prog Y Gl yd0 225 [.addr FAR 0] ((2,FAR,live)::(FAR+3,0,.addr (FAR+1) 0)::(FAR+4,1,L ePLn exLn)::pgS (FAR+1) (FAR+2) (FAR+3)) (.ret (.tup [])) []:=by
 refine fn_iw S (let A0:=(SEq (3:Nat) (fun i=>eI (nth st1 i)) (3:Nat) fun i=>eI (nth st1 i));((.loop (3:Nat) (fun p=>v 8 (I p)::v 7 (I exLn.length)::v 0 (T.addr FAR (0:Nat))::((2:Nat),FAR,live)::(FAR+(3:Nat),(0:Nat),T.addr (FAR+1) (0:Nat))::(FAR+(4:Nat),(1:Nat),L ePLn exLn)::pgS (FAR+1) (FAR+2) (FAR+3)) fun k0=>.br (.w [(nat_lit 100000,nat_lit 100001),(nat_lit 100001,nat_lit 100002),(nat_lit 100002,nat_lit 100003)] [T.addr FAR (0:Nat),I k0] (pgS FAR (FAR+1) (FAR+2)) (.ret (.tup [])) [] .nil) .nil),(exLn.length<=maxLen->(0=(↑(0:Nat):Int)/\(exLn.length:Int)=(exLn.length:Int)/\(sR ePLn exLn)/\(4:Int)=4/\(3:Nat)=(3:Nat)/\A0/\MEq D3 (fun k=>vsC [Value.bool (D3 k)]) D3 fun k=>vsC [Value.bool (D3 k)])/\∀ (k0:Nat),k0<=(3:Nat)->(decide ((k0:Int)<(exLn.length:Int))=true->(k0:Int)=(k0:Int)/\(4:Int)=4/\(3:Nat)=(3:Nat)/\A0/\(MEq D3 (fun k=>vsC [Value.bool (D3 k)]) D3 fun k=>vsC [Value.bool (D3 k)])/\Does Tryz.prog Y Gl yd0 (226:FuncId) [T.addr FAR (0:Nat),I k0] (pgS FAR (FAR+1) (FAR+2)) (.ret (.tup [])) []/\iR ((k0:Int)+1)/\k0<(3:Nat)/\(k0:Int)+1=(↑(k0+1):Int)/\(exLn.length:Int)=(exLn.length:Int)/\(sR ePLn exLn)/\(4:Int)=4/\(3:Nat)=(3:Nat)/\A0/\MEq D3 (fun k=>vsC [Value.bool (D3 k)]) D3 fun k=>vsC [Value.bool (D3 k)])/\(decide ((k0:Int)<(exLn.length:Int))=false->True/\(sR ePLn exLn)/\(4:Int)=4/\(3:Nat)=(3:Nat)/\A0/\MEq D3 (fun k=>vsC [Value.bool (D3 k)]) D3 fun k=>vsC [Value.bool (D3 k)])))) Tryz.func225 (by kernel_rfl) (by kernel_rfl) ?_
 dsimp only
 have hr:∀ (n:Nat) (f:Nat->List C),SEq n f n f:=fun _ _=>.of ⟨rfl,fun _ _=>rfl⟩
 have hm:∀ E:DS,MEq E (fun key=>vsC [Value.bool (E key)]) E fun key=>vsC [Value.bool (E key)]:=fun _ _=>⟨rfl,fun _=>.inl rfl⟩
 have hl:exLn.length=3:=rfl
 refine fun _=>⟨⟨rfl,rfl,hr _ _,rfl,rfl,hr _ _,hm _⟩,fun p hp=>⟨fun hd=>?_,fun _=>⟨trivial,hr _ _,rfl,rfl,hr _ _,hm _⟩⟩⟩
 have hlt:p<3:=by have:=of_decide_eq_true hd;rw [hl] at this;omega
 exact ⟨rfl,rfl,rfl,hr _ _,hm _,mustPass226 S p hlt,(rng_iff _).2 (by omega),hlt,by omega,rfl,hr _ _,rfl,rfl,hr _ _,hm _⟩
theorem passAtt {Gl} (S:SP Gl):Does Tryz.prog Y Gl yd0 224 [.fn 225 [] [.addr FAR 0]] ((2,FAR,live)::(FAR+3,0,.addr (FAR+1) 0)::(FAR+4,1,L ePLn exLn)::pgS (FAR+1) (FAR+2) (FAR+3)) (.ret (I 0)) []:=
 Pf.attempt74_does (fst:=[]) rfl rfl (passesF225 S) .ok
theorem passes126 {Gl} (S:SP Gl)  :Does Tryz.prog Y Gl yd0 126 [.addr FAR 0] ((FAR+3,1,L ePLn exLn)::pgS FAR (FAR+1) (FAR+2)) (.ret (B true)) []:=by
 refine fn_iw S (let A0:=(((2:Nat),FAR,live)::(FAR+(3:Nat),(0:Nat),T.addr (FAR+1) (0:Nat))::(FAR+(4:Nat),(1:Nat),L ePLn exLn)::pgS (FAR+1) (FAR+2) (FAR+3));let A1:=(SEq (3:Nat) (fun i=>eI (nth st1 i)) (3:Nat) fun i=>eI (nth st1 i));((.w [(nat_lit 100000,nat_lit 1),(nat_lit 100001,nat_lit 100000),(nat_lit 100002,nat_lit 100001),(nat_lit 100003,nat_lit 100002)] [T.fn (225:FuncId) [] [T.addr FAR (0:Nat)]] A0 (.ret (I 0)) [] .nil),((225:Nat)=(225:Nat)/\(sR ePLn exLn)/\(4:Int)=4/\(3:Nat)=(3:Nat)/\A1/\(MEq D3 (fun k=>vsC [Value.bool (D3 k)]) D3 fun k=>vsC [Value.bool (D3 k)])/\Does Tryz.prog Y Gl yd0 (224:FuncId) [T.fn (225:FuncId) [] [T.addr FAR (0:Nat)]] A0 (.ret (I 0)) []/\true=true/\(sR ePLn exLn)/\(4:Int)=4/\(3:Nat)=(3:Nat)/\A1/\MEq D3 (fun k=>vsC [Value.bool (D3 k)]) D3 fun k=>vsC [Value.bool (D3 k)]))) Tryz.func126 (by kernel_rfl) (by kernel_rfl) ?_
 dsimp only
 have hr:∀ (n:Nat) (f:Nat->List C),SEq n f n f:=fun _ _=>.of ⟨rfl,fun _ _=>rfl⟩
 have hm:∀ E:DS,MEq E (fun key=>vsC [Value.bool (E key)]) E fun key=>vsC [Value.bool (E key)]:=fun _ _=>⟨rfl,fun _=>.inl rfl⟩
 exact ⟨rfl,hr _ _,rfl,rfl,hr _ _,hm _,passAtt S,rfl,hr _ _,rfl,rfl,hr _ _,hm _⟩
theorem pass52 {Gl} (S:SP Gl)  :CO Gl 52 [tPg] (.ret (.tup [.c (.v (.bool true)),.c (Ci 0)])):=by
 refine fn_iq S (let A0:=(Res.new (T.addr (12:Nat) (0:Nat)) (pgJ (12:Nat) (910:Nat) (911:Nat) (10:Nat) (912:Nat) (3:Nat)));let A1:=((FAR+(3:Nat),(1:Nat),L ePLn exLn)::pgS FAR (FAR+1) (FAR+2));((.r (.ret (B true)) (.ff (.n [(nat_lit 12,nat_lit 9012),(nat_lit 910,nat_lit 9910),(nat_lit 911,nat_lit 9911),(nat_lit 10,nat_lit 9010),(nat_lit 912,nat_lit 9912)] A0 (.w [(nat_lit 100000,nat_lit 9012),(nat_lit 100001,nat_lit 9911),(nat_lit 100002,nat_lit 9010)] [T.addr FAR (0:Nat)] A1 (.ret (B true)) [] .nil)))),(CO Gl 124 [tPg] (.ret (B true))/\false=false/\CO Gl 125 [tPg] A0/\(sR ePLn exLn)/\(4:Int)=4/\(3:Nat)=(3:Nat)/\(SEq (3:Nat) (fun i=>eI (nth st1 i)) (3:Nat) fun i=>eI (nth st1 i))/\(MEq D3 (fun k=>vsC [Value.bool (D3 k)]) D3 fun k=>vsC [Value.bool (D3 k)])/\Does Tryz.prog Y Gl yd0 (126:FuncId) [T.addr FAR (0:Nat)] A1 (.ret (B true)) []/\true=true/\(0:Int)=0))) Tryz.func52 (by kernel_rfl) (by kernel_rfl) ?_
 dsimp only
 have hr:∀ (n:Nat) (f:Nat->List C),SEq n f n f:=fun _ _=>.of ⟨rfl,fun _ _=>rfl⟩
 have hm:∀ E:DS,MEq E (fun key=>vsC [Value.bool (E key)]) E fun key=>vsC [Value.bool (E key)]:=fun _ _=>⟨rfl,fun _=>.inl rfl⟩
 exact ⟨isPage124 S,rfl,pageOf125 S,hr _ _,rfl,rfl,hr _ _,hm _,passes126 S,rfl,rfl⟩
theorem upR_len (n:Nat):(upR n).length=n:=by unfold upR;rw [List.length_map,List.length_range]
theorem upR_at {n i:Nat} (h:i<n):nth (upR n) i=(i:Int):=by unfold upR;rw [nth_map (by rw [List.length_range];exact h),nth_range h]
theorem allR_len {s:Sheet} (hs:s.ok=true):(allR s).length<=481890304:=by
 obtain ⟨l1,l2,l3,l4⟩:=ok_len hs
 have hrs:=(col_len (l4 0 (by omega))).2.2
 have h1:=colsR_len (s:=s) (fun r=>(listsOf_ok hs r).1) (rows s) [] s.errs
 have h2:28 ^ rows s<=28 ^ 6:=Nat.pow_le_pow_right (by decide) (by omega)
 unfold allR
 omega
theorem other101 {Gl} (S:SP Gl) (d:List Int) (r:Nat) (c:Int) (h:r<d.length):CO Gl 62 [L eI d,.d (.rd [Ci r]),.d (.rd [Ci c])] (.ret (B (nth d r != c))):=by
 refine fn_is S (.nil) Tryz.func62 (by kernel_rfl) ((0<=(r:Int)/\(r:Int)<(d.length:Int))/\(nth d r != c)=(nth d r != c)) (by kernel_rfl) ?_
 simp only [stdS,imp_self,implies_true,and_true]
 exact ⟨⟨by omega,Int.ofNat_lt.2 h⟩,trivial⟩
theorem word100other {Gl} (S:SP Gl) (s:Sheet) (r:Nat) (c:Int) (hs:s.ok=true) (hr:r<rows s):CO Gl 61 [.d (.agg (cBook s (allR s))),.fn 62 [] [.d (.rd [Ci r]),.d (.rd [Ci c])]] (.ret (I (wordOf (cntTo (allR s) r c (allR s).length) (allR s).length))):=by
 refine fn_iq S (let A0:=(List.length (allR s));let A1:=(List.length (allR s):Int);let A2:=(MEq (canT (allR s) A0) (fun key=>[Cb (canT (allR s) A0 key)]) (canT (allR s) A0) fun key=>[Cb (canT (allR s) A0 key)]);let A3:=fun (k0:Nat)=>(↑(cntTo (allR s) r c k0):Int);let A4:=(fun key=>[Cb (openB s (allR s) A0 key)]);let A5:=(sR eCol (allR s));let A6:=(↑(cntTo (allR s) r c A0):Int);let A7:=fun (k0:Nat)=>(nth (nth (allR s) k0) r != c);((.loop A0 (fun k=>v 11 (I k)::v 10 (I A1)::v 9 (T.d (D.c (C.l eCol (allR s))))::v 1 (T.fn (62:FuncId) [] [T.d (D.rd [Ci r]),T.d (D.rd [Ci c])])::v 2 (ad 2)::v 5 (I (↑(cntTo (allR s) r c k):Int))::bx 2 (cBook s (allR s))) fun k0=>.br (.r (.ret (B (A7 k0))) (.br .nil .nil)) (.br .nil (.br .nil .nil))),(List.length (allR s)<=maxLen->(0=(↑(0:Nat):Int)/\A1=A1/\A5/\(62:Nat)=(62:Nat)/\(r:Int)=(r:Int)/\c=c/\0=(↑(cntTo (allR s) r c (0:Nat)):Int)/\(sR eCol s.1)/\(sR eI s.2)/\A5/\A2/\MEq (openD s A0) A4 (openD s A0) fun key=>[Cb (openB s (allR s) A0 key)])/\∀ (k0:Nat),k0<=List.length (allR s)->(decide ((k0:Int)<(List.length (allR s):Int))=true->(0<=(k0:Int)/\(k0:Int)<A1)/\CO Gl 62 [L eI (nth (allR s) k0),T.d (D.rd [Ci r]),T.d (D.rd [Ci c])] (.ret (B (A7 k0)))/\((A7 k0)=true->iR ((A3 k0)+1)/\iR ((k0:Int)+1)/\k0<List.length (allR s)/\(k0:Int)+1=(↑(k0+1):Int)/\A1=A1/\A5/\(62:Nat)=(62:Nat)/\(r:Int)=(r:Int)/\c=c/\(A3 k0)+1=(↑(cntTo (allR s) r c (k0+1)):Int)/\(sR eCol s.1)/\(sR eI s.2)/\A5/\A2/\MEq (openD s A0) A4 (openD s A0) fun key=>[Cb (openB s (allR s) A0 key)])/\((A7 k0)=false->iR ((k0:Int)+1)/\k0<List.length (allR s)/\(k0:Int)+1=(↑(k0+1):Int)/\A1=A1/\A5/\(62:Nat)=(62:Nat)/\(r:Int)=(r:Int)/\c=c/\(A3 k0)=(↑(cntTo (allR s) r c (k0+1)):Int)/\(sR eCol s.1)/\(sR eI s.2)/\A5/\A2/\MEq (openD s A0) A4 (openD s A0) fun key=>[Cb (openB s (allR s) A0 key)]))/\(decide ((k0:Int)<(List.length (allR s):Int))=false->(((A3 k0)==0)=true->(1:Int)=wordOf A6 A1)/\(((A3 k0)==0)=false->List.length (allR s)<=maxLen->(((A3 k0)==A1)=true->(3:Int)=wordOf A6 A1)/\(((A3 k0)==A1)=false->(2:Int)=wordOf A6 A1)))))) Tryz.func61 (by kernel_rfl) (by kernel_rfl) ?_
 have hall:=allR_len hs
 simp only [stdS,imp_self,implies_true,and_true,MEq_self]
 refine fun hm=>⟨⟨rfl,trivial⟩,fun k hk=>⟨fun hd=>?_,fun hd=>?_⟩⟩
 ·have hlt:k<(allR s).length:=by have:=of_decide_eq_true hd;omega
  have h1:=(allR_num hs hlt).1
  have hcn:=cntTo_le (allR s) r c k
  have hst:cntTo (allR s) r c (k+1)=cntTo (allR s) r c k+bif nth (nth (allR s) k) r != c then 1 else 0:=rfl
  refine ⟨⟨by omega,by omega⟩,other101 S _ r c (by omega),fun hb=>⟨(rng_iff _).2 (by omega),(rng_iff _).2 (by omega),hlt,by omega,?_,trivial⟩,fun hb=>⟨(rng_iff _).2 (by omega),hlt,by omega,?_,trivial⟩⟩
  ·rw [hst,hb];rfl
  ·rw [hst,hb];rfl
 ·have hke:k=(allR s).length:=by have:=of_decide_eq_false hd;omega
  subst hke
  unfold wordOf
  exact ⟨fun h=>by rw [h];rfl,fun h _=>⟨fun h2=>by rw [h,h2];rfl,fun h2=>by rw [h,h2];rfl⟩⟩
theorem inT {Gl} (S:SP Gl) (x lo hi:Int) (h:inR x lo hi=true):CO Gl 60 [I x,I lo,I hi] (.ret (B true)):=by
 have h1:=in93 S x lo hi
 rw [h] at h1
 exact h1
theorem wrong48 {Gl} (S:SP Gl) (s:Sheet) (h:Nat) (hs:s.ok=true) (h0:0<(allR s).length) (hh:h<s.cols.length):CO Gl 19 [tSheet s,I h] (.ret (.tup [.c (.l eI (wrongsL s (allR s) h)),.c (Ci 0)])):=by
 refine fn_iq S (let A0:=(List.length (allR s));let A1:=(wrongsL s (allR s) h);let A2:=fun (k0:Nat)=>(wordOf (↑(cntTo (allR s) k0 (nth (nth s.1 h) k0) A0):Int) (List.length (allR s):Int));let A3:=(MEq (canT (allR s) A0) (fun key=>[Cb (canT (allR s) A0 key)]) (canT (allR s) A0) fun key=>[Cb (canT (allR s) A0 key)]);let A4:=(cBook s (allR s));((.r (.ret (B true)) (.sure 16 (.sure 17 (.sure 18 (.sure 19 (.sure 20 (.sure 21 (.r (.ret (B true)) (.r (.ret (.tup [D.agg A4,D.c (Ci 0)])) (.ff (.loop (rows s) (fun k=>v 36 (I k)::v 35 (I (↑(rows s):Int))::v 34 (L eI (nth (Sheet.cols s) h))::v 6 (ad 6)::tk 100 60::v 8 (Lt 100 eI (List.take k A1))::bx 6 A4) fun k0=>.br (.r (.ret (I (A2 k0))) .nil) .nil))))))))))),(CO Gl 55 [tSheet s] (.ret (B true))/\true=true/\true=true/\true=true/\true=true/\(s.1.length<=maxLen->true=true/\iR ((s.1.length:Int)-1)/\true=true/\CO Gl 60 [I h,I 0,I ((List.length (Sheet.cols s):Int)-1)] (.ret (B true))/\CO Gl 54 [tSheet s,B true] (.ret (.tup [D.agg A4,D.c (Ci 0)]))/\false=false/\(0<=(h:Int)/\(h:Int)<(s.1.length:Int))/\(List.length (nth s.1 h)<=maxLen->(0=(↑(0:Nat):Int)/\(List.length (nth s.1 h):Int)=(↑(rows s):Int)/\(sR eI (nth s.1 h))/\(0:Nat)=(0:Nat)/\(sR eCol s.1)/\(sR eI s.2)/\(sR eCol (allR s))/\A3/\MEq (openD s A0) (fun key=>[Cb (openB s (allR s) A0 key)]) (openD s A0) fun key=>[Cb (openB s (allR s) A0 key)])/\∀ (k0:Nat),k0<=rows s->(decide ((k0:Int)<(↑(rows s):Int))=true->(0<=(k0:Int)/\(k0:Int)<(List.length (nth s.1 h):Int))/\CO Gl 61 [T.d (D.agg A4),T.fn (62:FuncId) [] [T.d (D.rd [Ci k0]),T.d (D.rd [Ci (nth (nth s.1 h) k0)])]] (.ret (I (A2 k0)))/\(List.length (List.take k0 A1)+1)*8<=140737488355328/\List.length (List.take k0 A1)+1<=140737488355328/\iR ((k0:Int)+1)/\k0<rows s/\(k0:Int)+1=(↑(k0+1):Int)/\(↑(rows s):Int)=(↑(rows s):Int)/\(sR eI (nth s.1 h))/\(SEq (List.length (List.take k0 A1)+1) (catF (List.length (List.take k0 A1)) (fun i=>eI (nth (List.take k0 A1) i)) fun i=>List.getD [List.map C.dem [C.v (Value.int IntKind.i64 (A2 k0))]] i []) (List.length (List.take (k0+1) A1)) fun i=>eI (nth (List.take (k0+1) A1) i))/\(sR eCol s.1)/\(sR eI s.2)/\(sR eCol (allR s))/\A3/\MEq (openD s A0) (fun key=>[Cb (openB s (allR s) A0 key)]) (openD s A0) fun key=>[Cb (openB s (allR s) A0 key)])/\(decide ((k0:Int)<(↑(rows s):Int))=false->(sQ eI (List.take k0 A1) A1)/\(0:Int)=0)))))) Tryz.func19 (by kernel_rfl) (by kernel_rfl) ?_
 obtain ⟨l1,l2,l3,l4⟩:=ok_len hs
 have hrs:=(col_len (l4 0 (by omega))).2.2
 have hl0:(nth s.cols (Int.toNat 0)).length=rows s:=rfl
 have hch:(nth s.cols h).length=rows s:=(col_len (l4 h hh)).1
 have hn:(wrongsL s (allR s) h).length=rows s:=by unfold wrongsL;rw [List.length_map,List.length_range]
 simp only [stdS,imp_self,implies_true,and_true,MEq_self]
 refine ⟨isSheetT S s hs,fun hm=>⟨(rng_iff _).2 (by omega),inT S _ _ _ (inR_iff.2 ⟨by omega,by omega⟩),read82 S s hs h0,⟨by omega,Int.ofNat_lt.2 hh⟩,fun hm2=>⟨⟨by omega,trivial⟩,fun k hk=>⟨fun hd=>?_,fun hd=>?_⟩⟩⟩⟩
 ·have hlt:k<rows s:=by have:=of_decide_eq_true hd;omega
  have htk:((wrongsL s (allR s) h).take k).length=k:=by rw [List.length_take];omega
  have hx:nth (wrongsL s (allR s) h) k=wordOf (cntTo (allR s) k (nth (nth s.cols h) k) (allR s).length) (allR s).length:=by
   unfold wrongsL
   rw [nth_map (by rw [List.length_range];exact hlt),nth_range hlt]
   rfl
  exact ⟨⟨by omega,by omega⟩,word100other S s k _ hs hlt,by omega,by omega,(rng_iff _).2 (by omega),hlt,by omega,SEq_push (by omega) (by rw [hx];rfl),trivial⟩
 ·have hke:k=rows s:=by have:=of_decide_eq_false hd;omega
  subst hke
  exact ⟨SEq_whole (by rw [<-hn,List.take_length]),trivial⟩
theorem sameB {Gl} (S:SP Gl):CO Gl 20 [L eI [0,2,4,6],.d (.c (.s .n 4 fun i=>[List.map C.dem [C.v (.int .i64 0)],List.map C.dem [C.v (.int .i64 2)],List.map C.dem [C.v (.int .i64 4)],List.map C.dem [C.v (.int .i64 6)]].getD i []))] (.ret (B true)):=
 (same34 S [0,2,4,6] [0,2,4,6]).args ⟨.of ⟨rfl,fun _ _=>rfl⟩,.of ⟨rfl,fun i hi=>by match i,hi with|0,_=>rfl|1,_=>rfl|2,_=>rfl|3,_=>rfl⟩⟩
theorem ft2:ftTo exCp (Int.toNat 2)=2:=by kernel_rfl
theorem okEx:okTr 2 exCp=true:=by kernel_rfl
theorem known11 {Gl} (S:SP Gl)  :CO Gl 16 [] (.ret (B true)):=by
 refine fn_iq S (let A0:=[D.c (C.l eI [(0:Int),(2:Int),(4:Int),(6:Int)]),D.c (Ci 0)];let A1:=[D.c (Ci (ftTo exCp (Int.toNat (2:Int)))),D.c (Ci 0)];((.r (.ret (T.d (D.agg cST))) (.r (.ret (.tup A0)) (.r (.ret (tTr (2:Int) exCp)) (.r (.ret (.tup A1)) (.r (.ret tPg) (.r (.ret (.tup [D.c (C.v (Value.bool true)),D.c (Ci 0)])) (.sure 25 (.sure 26 (.sure 27 (.r (.ret (B true)) (.sure 30 (.sure 31 (.sure 34 (.sure 35 (.sure 38 (.sure 39 (.sure 42 .nil))))))))))))))))),(CO Gl 49 [] (.ret (T.d (D.agg cST)))/\CO Gl 48 [T.d (D.agg cST)] (.ret (.tup A0))/\CO Gl 51 [] (.ret (tTr (2:Int) exCp))/\CO Gl 50 [tTr (2:Int) exCp] (.ret (.tup A1))/\CO Gl 53 [] (.ret tPg)/\CO Gl 52 [tPg] (.ret (.tup [D.c (C.v (Value.bool true)),D.c (Ci 0)]))/\true=true/\true=true/\true=true/\CO Gl 20 [L eI [(0:Int),(2:Int),(4:Int),(6:Int)],T.d (D.c (C.s Tag.n (4:Nat) fun i=>List.getD [List.map C.dem [C.v (Value.int IntKind.i64 (0:Int))],List.map C.dem [C.v (Value.int IntKind.i64 (2:Int))],List.map C.dem [C.v (Value.int IntKind.i64 (4:Int))],List.map C.dem [C.v (Value.int IntKind.i64 (6:Int))]] i []))] (.ret (B true))/\true=true/\true=true/\true=true/\true=true/\true=true/\true=true/\true=true/\true=true))) Tryz.func16 (by kernel_rfl) (by kernel_rfl) ?_
 dsimp only
 have hft:=fewest50 S 2 exCp okEx
 rw [ft2] at hft ⊢
 exact ⟨sheetA49 S,fewest48 S,treeA51 S,hft,pageB53 S,pass52 S,rfl,rfl,rfl,sameB S,rfl,rfl,rfl,rfl,rfl,rfl,rfl,rfl⟩
theorem in46 {Gl} (S:SP Gl) (x lo hi:Int):CO Gl 46 [I x,I lo,I hi] (.ret (B (inR x lo hi))):=by
 refine fn_is S (.nil) Tryz.func46 (by kernel_rfl) ((eqB (decide (lo<=x)) true=true->eqB (decide (lo<=x)) true=true)/\(eqB (decide (lo<=x)) true=true->eqB (decide (lo<=x)) true=true)/\(decide (lo<=x)=true->eqB (decide (lo<=x)) true=true)/\(bif decide (lo<=x) then decide (x<=hi) else false)=inR x lo hi) (by kernel_rfl) ?_
 simp only [stdS,imp_self,implies_true,and_true,inR]
theorem start47 {Gl} (S:SP Gl) (s:Span):CO Gl 47 [.d (.agg (eSpan s))] (.ret (B (okStart s))):=by
 refine fn_iq S (let A0:=(eqB (inR s.1 (-99999:Int) (99999:Int)) true=true->eqB (inR s.1 (-99999:Int) (99999:Int)) true=true);let A1:=(inR s.1 (-99999:Int) (99999:Int));let A2:=(min (99999:Int) (s.1+(6:Int)));((.r (.ret (B A1)) (.r (.ret (B (inR s.2 s.1 A2))) .nil)),(CO Gl 46 [I s.1,I (-99999:Int),I 99999] (.ret (B A1))/\A0/\A0/\A0/\A0/\(eqB A1 true=true->iR (s.1+(6:Int)))/\A0/\A0/\A0/\A0/\(eqB A1 true=true->CO Gl 46 [I s.2,I s.1,I A2] (.ret (B (inR s.2 s.1 A2))))/\(inR s.1 (-99999:Int) (99999:Int)=true->eqB A1 true=true)/\(bif inR s.1 (-99999:Int) (99999:Int) then inR s.2 s.1 A2 else false)=okStart s))) Tryz.func47 (by kernel_rfl) (by kernel_rfl) ?_
 dsimp only
 have h0:=in46 S s.lo (-99999) 99999
 have h1:=in46 S s.hi s.lo (min 99999 (s.lo+6))
 have he:okStart s=(inR s.lo (-99999) 99999&&inR s.hi s.lo (min 99999 (s.lo+6))):=by
  unfold okStart
  rw [Bool.eq_iff_iff]
  simp only [Bool.and_eq_true,decide_eq_true_eq,inR_iff]
  omega
 rw [he]
 cases ha:inR s.lo (-99999) 99999 with
 |false=>rw [ha] at h0;simp [eqB];exact h0
 |true=>
  have:=inR_iff.1 ha
  rw [ha] at h0
  simp only [stdS,imp_self,implies_true,and_true,cond_true,eqB,rng_iff,Bool.true_and]
  exact ⟨h0,fun _=>by omega,fun _=>h1,trivial⟩
theorem plan13 {Gl} (S:SP Gl) (p:Plan):CO Gl 13 [tPlan p] (.ret (B (okPlan p))):=by
 refine fn_iq S (let A0:=(bif !inR (p.1.length:Int) (1:Int) (4:Int) then true else !inR p.2 (1:Int) (12:Int));let A1:=(!inR (p.1.length:Int) (1:Int) (4:Int));let A2:=(bif bif !inR (p.1.length:Int) (1:Int) (4:Int) then true else !inR p.2 (1:Int) (12:Int) then true else !inR p.3 (0:Int) (3:Int));let A3:=(eqB A1 false=true->eqB A1 false=true);let A4:=(eqB A0 false=true->eqB A0 false=true);((.r (.ret (B (inR (p.1.length:Int) (1:Int) (4:Int)))) (.r (.ret (B (inR p.2 (1:Int) (12:Int)))) (.r (.ret (B (inR p.3 (0:Int) (3:Int)))) (.br .nil (.loop (upto okStart (Plan.starts p)) (fun k=>v 3 (I k)::v 1 (ad 1)::bx 1 (cPlan p)) fun k0=>.br (.r (.ret (B (okStart (nth p.1 k0)))) (.br .nil .nil)) .nil))))),(p.1.length<=maxLen->CO Gl 46 [I p.1.length,I 1,I 4] (.ret (B (inR (p.1.length:Int) (1:Int) (4:Int))))/\A3/\A3/\(eqB A1 false=true->CO Gl 46 [I p.2,I 1,I 12] (.ret (B (inR p.2 (1:Int) (12:Int)))))/\A3/\(A1=false->eqB A1 false=true)/\A4/\A4/\(eqB A0 false=true->CO Gl 46 [I p.3,I 0,I 3] (.ret (B (inR p.3 (0:Int) (3:Int)))))/\A4/\(A0=false->eqB A0 false=true)/\(A2=true->false=okPlan p)/\(A2=false->(0=(↑(0:Nat):Int)/\(sR eSpan p.1)/\p.2=p.2/\p.3=p.3)/\∀ (k0:Nat),k0<=upto okStart (Plan.starts p)->p.1.length<=maxLen->(decide ((k0:Int)<(p.1.length:Int))=true->(0<=(k0:Int)/\(k0:Int)<(p.1.length:Int))/\CO Gl 47 [T.d (D.agg (eSpan (nth p.1 k0)))] (.ret (B (okStart (nth p.1 k0))))/\((!okStart (nth p.1 k0))=true->false=okPlan p)/\((!okStart (nth p.1 k0))=false->iR ((k0:Int)+1)/\k0<upto okStart (Plan.starts p)/\(k0:Int)+1=(↑(k0+1):Int)/\(sR eSpan p.1)/\p.2=p.2/\p.3=p.3))/\(decide ((k0:Int)<(p.1.length:Int))=false->true=okPlan p))))) Tryz.func13 (by kernel_rfl) (by kernel_rfl) ?_
 dsimp only
 intro hm
 have h0:=in46 S p.starts.length 1 4
 have h1:=in46 S p.rows 1 12
 have h2:=in46 S p.guard 0 3
 refine ⟨h0,fun h=>h,fun h=>h,fun _=>h1,fun h=>h,fun h=>by rw [h];rfl,fun h=>h,fun h=>h,fun _=>h2,fun h=>h,fun h=>by rw [h];rfl,fun h=>?_,fun h=>⟨⟨rfl,.of ⟨rfl,fun _ _=>rfl⟩,rfl,rfl⟩,fun k hk hm2=>⟨fun hd=>?_,fun hd=>?_⟩⟩⟩
 ·unfold okPlan
  cases ha:inR p.starts.length 1 4<;>cases hb:inR p.rows 1 12<;>cases hc:inR p.guard 0 3<;>rw [ha,hb,hc] at h<;>first|rfl|cases h
 ·have hlt:k<p.starts.length:=by have:=of_decide_eq_true hd;omega
  refine ⟨by omega,start47 S _,fun hb=>?_,fun hb=>⟨(rng_iff _).2 (by rw [maxLen_eq] at hm;omega),upto_lt hk hlt (by simpa using hb),by omega,.of ⟨rfl,fun _ _=>rfl⟩,rfl,rfl⟩⟩
  have:p.starts.all okStart=false:=by
   rw [List.all_eq_false]
   exact ⟨_,nth_mem hlt,by simpa using hb⟩
  unfold okPlan
  rw [this,Bool.and_false,Bool.and_false,Bool.and_false]
 ·have hge:p.starts.length<=k:=by have:=of_decide_eq_false hd;omega
  have h5:=upto_all (p:=okStart) (l:=p.starts) (by omega)
  unfold okPlan
  rw [h5]
  cases ha:inR p.starts.length 1 4<;>cases hb:inR p.rows 1 12<;>cases hc:inR p.guard 0 3<;>rw [ha,hb,hc] at h<;>first|rfl|cases h
theorem truth14 {Gl} (S:SP Gl) (p:Plan) (t:List Int):CO Gl 14 [tPlan p,L eI t] (.ret (B (okTruth p t))):=by
 refine fn_is S (.br .nil (.loop (upto (fitsAt p t) (List.range t.length)) (fun k=>v 5 (I k)::v 1 (L eI t)::v 2 (ad 2)::bx 2 (cPlan p)) fun k0=>.br (.r (.ret (B (inR (nth t k0) (nth p.1 k0).1 (nth p.1 k0).2))) (.br .nil .nil)) .nil)) Tryz.func14 (by kernel_rfl) (t.length<=maxLen->p.1.length<=maxLen->(((t.length:Int) != (p.1.length:Int))=true->false=okTruth p t)/\(((t.length:Int) != (p.1.length:Int))=false->(0=(↑(0:Nat):Int)/\(sR eI t)/\(sR eSpan p.1)/\p.2=p.2/\p.3=p.3)/\∀ (k0:Nat),k0<=upto (fitsAt p t) (List.range t.length)->t.length<=maxLen->(decide ((k0:Int)<(t.length:Int))=true->(0<=(k0:Int)/\(k0:Int)<(t.length:Int))/\(0<=(k0:Int)/\(k0:Int)<(p.1.length:Int))/\(0<=(k0:Int)/\(k0:Int)<(p.1.length:Int))/\CO Gl 46 [I (nth t k0),I (nth p.1 k0).1,I (nth p.1 k0).2] (.ret (B (inR (nth t k0) (nth p.1 k0).1 (nth p.1 k0).2)))/\((!inR (nth t k0) (nth p.1 k0).1 (nth p.1 k0).2)=true->false=okTruth p t)/\((!inR (nth t k0) (nth p.1 k0).1 (nth p.1 k0).2)=false->iR ((k0:Int)+1)/\k0<upto (fitsAt p t) (List.range t.length)/\(k0:Int)+1=(↑(k0+1):Int)/\(sR eI t)/\(sR eSpan p.1)/\p.2=p.2/\p.3=p.3))/\(decide ((k0:Int)<(t.length:Int))=false->true=okTruth p t))) (by kernel_rfl) ?_
 intro hm hm2
 rw [maxLen_eq] at hm hm2
 refine ⟨fun h=>?_,fun h=>⟨⟨rfl,.of ⟨rfl,fun _ _=>rfl⟩,.of ⟨rfl,fun _ _=>rfl⟩,rfl,rfl⟩,fun k hk _=>⟨fun hd=>?_,fun hd=>?_⟩⟩⟩
 ·unfold okTruth
  have:(t.length==p.starts.length)=false:=by rw [beq_eq_false_iff_ne];intro h2;rw [h2] at h;simp at h
  rw [this];rfl
 ·have hl:t.length=p.starts.length:=by simp at h;omega
  have hlt2:k<t.length:=by have:=of_decide_eq_true hd;omega
  have hlt:k<(List.range t.length).length:=by rw [List.length_range];exact hlt2
  refine ⟨by omega,by omega,by omega,in46 S _ _ _,fun hb=>?_,fun hb=>⟨(rng_iff _).2 (by omega),upto_lt hk hlt ?_,by omega,.of ⟨rfl,fun _ _=>rfl⟩,.of ⟨rfl,fun _ _=>rfl⟩,rfl,rfl⟩⟩
  ·have:fitsAt p t (nth (List.range t.length) k)=false:=by rw [nth_range (by omega)];unfold fitsAt;simpa using hb
   unfold okTruth
   rw [upto_some hlt this,Bool.and_false]
  ·rw [nth_range (by omega)];unfold fitsAt;simpa using hb
 ·have hl:t.length=p.starts.length:=by simp at h;omega
  have hge:t.length<=k:=by have:=of_decide_eq_false hd;omega
  have:=upto_all (p:=fitsAt p t) (l:=List.range t.length) (by rw [List.length_range];omega)
  unfold okTruth
  rw [this,hl];simp
theorem line15 {Gl} (S:SP Gl) (p:Plan) (r:Int) (h:okPlan p=true):CO Gl 15 [tPlan p,I r] (.ret (B (inR r 0 (p.rows - 1)))):=by
 refine fn_is S (.r (.ret (B (inR r (0:Int) (p.2-(1:Int))))) .nil) Tryz.func15 (by kernel_rfl) (iR (p.2-(1:Int))/\CO Gl 46 [I r,I 0,I (p.2-(1:Int))] (.ret (B (inR r (0:Int) (p.2-(1:Int)))))/\inR r (0:Int) (p.2-(1:Int))=inR r (0:Int) (p.2-(1:Int))) (by kernel_rfl) ?_
 have:=(plan_len h).2.1
 exact ⟨(rng_iff _).2 (by omega),in46 S _ _ _,rfl⟩
open Go Go.Vc
def turnA (u:Bool) (n:Int):Int:=bif u then n / 100*100+n % 10*10+n / 10 % 10 else n / 10 % 10*100+n / 100*10+n % 10
def turnN (u:Bool) (x:Int):Int:=bif decide (x<0) then -turnA u (ab x) else turnA u (ab x)
def othL (u:Bool) (own:List Int) (r:Nat):List Int:=own.set r (turnN u (nth own r))
def twoS (u:Bool) (own:List Int) (r:Nat):Sheet:=⟨[own,othL u own r],[0,1]⟩
theorem turn_is (u:Bool) (x:Int):isTurned x (turnN u x)=true:=by
 unfold isTurned turnN turnA sg fA fB fC
 by_cases h:x<0
 ·rw [if_pos h,if_pos h,decide_eq_true h,cond_true,Bool.or_eq_true,beq_iff_eq,beq_iff_eq]
  cases u with
  |true=>right;simp only [cond_true];omega
  |false=>left;simp only [cond_false];omega
 ·rw [if_neg h,if_neg h,decide_eq_false h,cond_false,Bool.or_eq_true,beq_iff_eq,beq_iff_eq]
  cases u with
  |true=>right;simp only [cond_true];omega
  |false=>left;simp only [cond_false];omega
theorem turnA_rng (u:Bool) {n:Int} (h0:0<=n) (h1:n<=999):0<=turnA u n/\turnA u n<=999:=by
 unfold turnA
 cases u with
 |true=>simp only [cond_true];omega
 |false=>simp only [cond_false];omega
theorem turn_num (u:Bool) {x:Int} (h:num x=true):num (turnN u x)=true:=by
 have h:=num_iff.1 h
 have h2:=turnA_rng u (n:=ab x) (by unfold ab;omega) (by unfold ab;omega)
 rw [num_iff]
 unfold turnN
 cases decide (x<0) with
 |true=>simp only [cond_true];omega
 |false=>simp only [cond_false];omega
theorem oth_len (u:Bool) (own:List Int) (r:Nat):(othL u own r).length=own.length:=List.length_set ..
theorem oth_nth (u:Bool) (own:List Int) (r i:Nat) (hr:r<own.length):nth (othL u own r) i=if i=r then turnN u (nth own r) else nth own i:=by
 unfold othL nth
 rw [List.getD_eq_getElem?_getD,List.getD_eq_getElem?_getD,List.getElem?_set]
 by_cases h:r=i
 ·subst h;rw [if_pos rfl,if_pos hr,if_pos rfl];rfl
 ·rw [if_neg h,if_neg (fun hh=>h hh.symm),List.getD_eq_getElem?_getD]
section
variable {u:Bool} {own:List Int} {r:Nat} (hc:isCol own=true) (hr:r<own.length)
include hc in
theorem col_nums:own.all num=true/\1<=own.length/\own.length<=6:=by
 unfold isCol at hc
 rw [Bool.and_eq_true,inR_iff] at hc
 exact ⟨hc.1,by omega,by omega⟩
include hc hr in
theorem oth_col:isCol (othL u own r)=true:=by
 obtain ⟨h1,h2,h3⟩:=col_nums hc
 unfold isCol
 rw [Bool.and_eq_true,inR_iff,oth_len]
 refine ⟨List.all_eq_true.2 fun x hx=>?_,by omega,by omega⟩
 obtain ⟨k,hk,rfl⟩:=mem_nth hx
 rw [oth_nth u own r k hr]
 rw [oth_len] at hk
 by_cases h:k=r
 ·rw [if_pos h];exact turn_num u (List.all_eq_true.1 h1 _ (nth_mem hr))
 ·rw [if_neg h];exact List.all_eq_true.1 h1 _ (nth_mem hk)
include hc hr in
theorem two_ok:(twoS u own r).ok=true:=by
 have h1:=oth_col (u:=u) hc hr
 have h2:=oth_len u own r
 show (inR ((2:Nat):Int) 1 3&&((2:Nat)==2&&((isCol own&&((own.length==own.length)&&inR 0 0 2))&&((isCol (othL u own r)&&(((othL u own r).length==own.length)&&inR 1 0 2))&&true))))=true
 rw [hc,h1,h2,beq_self_eq_true,beq_self_eq_true]
 rfl
end
theorem err_same (own:List Int):∀ k,errTo own own k=[]
 |0=>rfl
 |k+1=>by rw [errTo_same (beq_self_eq_true _)];exact err_same own k
theorem ok_same (own:List Int):errOK own own=true:=List.all_eq_true.2 fun i _=>by unfold okRow;rw [beq_self_eq_true];rfl
theorem err_none {c l:List Int}:∀ k,errTo c l k=[]->∀ i,i<k->nth l i=nth c i
 |0,_,i,hi=>absurd hi (Nat.not_lt_zero _)
 |k+1,h,i,hi=>by
  unfold errTo at h
  have h:=List.append_eq_nil_iff.1 h
  rcases Nat.lt_or_ge i k with hl|hl
  ·exact err_none k h.1 i hl
  ·obtain rfl:i=k:=by omega
   cases hb:nth l i==nth c i with
   |true=>exact beq_iff_eq.1 hb
   |false=>rw [hb] at h;cases h.2
section
variable {u:Bool} {own:List Int} {r:Nat} (hc:isCol own=true) (hr:r<own.length) (hne:turnN u (nth own r)≠nth own r)
include hr in
theorem oth_okRow (i:Nat):okRow own (othL u own r) i=true:=by
 unfold okRow
 rw [oth_nth u own r i hr]
 by_cases h:i=r
 ·subst h
  have hk:(rtOf own i).kind (turnN u (nth own i))=1:=by
   unfold Rt.kind
   rw [rt_n,turn_is]
   rfl
  rw [if_pos rfl,hk,Bool.or_eq_true]
  exact .inr rfl
 ·rw [if_neg h,beq_self_eq_true];rfl
include hr in
theorem oth_errOK:errOK own (othL u own r)=true:=List.all_eq_true.2 fun i _=>oth_okRow hr i
include hr hne in
theorem oth_errTo:∀ k,errTo own (othL u own r) k=bif Nat.blt r k then [⟨r,1⟩] else []
 |0=>rfl
 |k+1=>by
  have ih:=oth_errTo k
  unfold errTo
  rw [ih,oth_nth u own r k hr]
  by_cases h:k=r
  ·subst h
   have hk:(rtOf own k).kind (turnN u (nth own k))=1:=by
    unfold Rt.kind
    rw [rt_n,turn_is]
    rfl
   rw [if_pos rfl,beq_eq_false_iff_ne.2 hne,hk,blt_f (Nat.lt_irrefl k),blt_t (Nat.lt_succ_self k)]
   rfl
  ·rw [if_neg h,beq_self_eq_true]
   rcases Nat.lt_or_ge r k with hl|hl
   ·rw [blt_t hl,blt_t (by omega)];rfl
   ·rw [blt_f (by omega),blt_f (by omega)];rfl
include hr hne in
theorem oth_errL:errL own (othL u own r)=[⟨r,1⟩]:=by
 unfold errL
 rw [oth_errOK hr,cond_true,oth_errTo hr hne,blt_t hr]
 rfl
include hc hr hne in
theorem two_all (c:List Int):c∈allR (twoS u own r)↔c=own:=by
 rw [mem_allR (two_ok hc hr)]
 constructor
 ·rintro ⟨h1,_,h3⟩
  have h4:canHand (twoS u own r) c 0=true:=List.all_eq_true.1 h3 0 (List.mem_range.2 (show 0<2 by decide))
  unfold canHand at h4
  rw [Bool.and_eq_true,decide_eq_true_eq] at h4
  obtain ⟨h5,h6⟩:=h4
  have h6:((errL c own).length:Int)<=0:=h6
  have h5:errOK c own=true:=h5
  unfold errL at h6
  rw [h5,cond_true] at h6
  have h7:errTo c own c.length=[]:=List.eq_nil_of_length_eq_zero (by omega)
  have h1:c.length=own.length:=h1
  refine List.ext_getElem h1 fun i hi hi2=>?_
  have:=err_none c.length h7 i hi
  rw [nth_eq hi,nth_eq hi2] at this
  exact this.symm
 ·rintro rfl
  refine ⟨rfl,fun i hi=>?_,?_⟩
  ·rw [mem_listAt,mem_cands]
   exact .inl ⟨0,(by decide:0<2),.inl rfl⟩
  ·have a1:canHand (twoS u c r) c 0=true:=by
    show (errOK c c&&decide (((errL c c).length:Int)<=0))=true
    unfold errL
    rw [ok_same,cond_true,err_same]
    rfl
   have a2:canHand (twoS u c r) c 1=true:=by
    show (errOK c (othL u c r)&&decide (((errL c (othL u c r)).length:Int)<=1))=true
    rw [oth_errOK hr,oth_errL hr hne]
    rfl
   show (canHand (twoS u c r) c 0&&(canHand (twoS u c r) c 1&&true))=true
   rw [a1,a2]
   rfl
include hc hr hne in
theorem two_pos:0<(allR (twoS u own r)).length:=List.length_pos_of_mem ((two_all hc hr hne own).2 rfl)
theorem firstTo_mem {l:List (List Int)} {c:List Int} (h:∀ x,x∈l->x=c) (h0:0<l.length):∀ k,0<k->k<=l.length->firstTo l k=c
 |0,h1,_=>absurd h1 (Nat.lt_irrefl 0)
 |1,_,_=>by
  have h2:nth l 0=c:=h _ (nth_mem h0)
  show (bif ltL (nth l 0) (firstTo l 0) then nth l 0 else firstTo l 0)=c
  first
   |(rw [h2];rfl)
   |(cases ltL (nth l 0) (firstTo l 0)<;>exact h2)
 |k+2,_,hk=>by
  have ih:=firstTo_mem h h0 (k+1) (by omega) (by omega)
  show (bif ltL (nth l (k+1)) (firstTo l (k+1)) then nth l (k+1) else firstTo l (k+1))=c
  rw [ih,h _ (nth_mem (by omega:k+1<l.length))]
  cases ltL c c<;>rfl
include hc hr hne in
theorem two_first:firstL (allR (twoS u own r))=own:=firstTo_mem (fun x hx=>(two_all hc hr hne x).1 hx) (two_pos hc hr hne) _ (two_pos hc hr hne) (Nat.le_refl _)
theorem withL_self (x:Int):withL [x] x=[x]:=by
 unfold withL
 rw [listed_mem.2 List.mem_cons_self]
 rfl
theorem valTo_same {l:List (List Int)} {c:List Int} (h:∀ x,x∈l->x=c) (i:Nat):∀ k,0<k->k<=l.length->valTo l i k=[nth c i]
 |0,h1,_=>absurd h1 (Nat.lt_irrefl 0)
 |1,_,hk=>by
  show withL [] (nth (nth l 0) i)=_
  rw [h _ (nth_mem hk)]
  rfl
 |k+2,_,hk=>by
  show withL (valTo l i (k+1)) (nth (nth l (k+1)) i)=_
  rw [valTo_same h i (k+1) (by omega) (by omega),h _ (nth_mem (by omega:k+1<l.length)),withL_self]
include hc hr hne in
theorem two_val (i:Nat):valL (allR (twoS u own r)) i=[nth own i]:=valTo_same (fun x hx=>(two_all hc hr hne x).1 hx) i _ (two_pos hc hr hne) (Nat.le_refl _)
include hc hr hne in
theorem two_sureAt (i:Nat):sureAt (twoS u own r) (allR (twoS u own r)) i=true:=by
 unfold sureAt isOpen
 rw [two_val hc hr hne]
 have h1:listed [nth own i] (freeL (cands (twoS u own r) i))=false:=by
  rw [Bool.eq_false_iff]
  intro hh
  have h2:=List.mem_singleton.1 (listed_mem.1 hh)
  refine free_not (twoS u own r) i ?_
  rw [h2,mem_cands]
  exact ⟨0,(by decide:0<2),.inl rfl⟩
 rw [h1]
 rfl
include hc hr hne in
theorem two_sureTo:∀ k,sureTo (twoS u own r) (allR (twoS u own r)) k=(List.range k).map fun i:Nat=>(i:Int)
 |0=>rfl
 |k+1=>by
  show sureTo (twoS u own r) (allR (twoS u own r)) k++(bif sureAt (twoS u own r) (allR (twoS u own r)) k then [(k:Int)] else [])=_
  rw [two_sureTo k,two_sureAt hc hr hne,List.range_succ,List.map_append]
  rfl
include hc hr hne in
theorem two_sure:sureL (twoS u own r) (allR (twoS u own r))=(List.range own.length).map fun i:Nat=>(i:Int):=two_sureTo hc hr hne _
theorem cnt_same {l:List (List Int)} {c:List Int} (h:∀ x,x∈l->x=c) (i:Nat) (x:Int):∀ k,k<=l.length->cntTo l i x k=bif nth c i != x then k else 0
 |0,_=>by cases nth c i != x<;>rfl
 |k+1,hk=>by
  show cntTo l i x k+(bif nth (nth l k) i != x then 1 else 0)=_
  rw [cnt_same h i x k (by omega),h _ (nth_mem (by omega:k<l.length))]
  cases nth c i != x<;>rfl
include hc hr hne in
theorem two_wrong:wrongsL (twoS u own r) (allR (twoS u own r)) 1=(List.range own.length).map fun i:Nat=>if i=r then 3 else 1:=by
 have hp:=two_pos hc hr hne
 refine List.map_congr_left fun i _=>?_
 show wordOf (cntTo (allR (twoS u own r)) i (nth (othL u own r) i) (allR (twoS u own r)).length:Nat) _=_
 rw [cnt_same (fun x hx=>(two_all hc hr hne x).1 hx) i _ _ (Nat.le_refl _),oth_nth u own r i hr]
 by_cases h:i=r
 ·subst h
  rw [if_pos rfl,if_pos rfl,bne_iff_ne.2 (fun hh=>hne hh.symm),cond_true]
  unfold wordOf
  rw [beq_self_eq_true,beq_eq_false_iff_ne.2 (by omega)]
  rfl
 ·rw [if_neg h,if_neg h]
  have:(nth own i != nth own i)=false:=by simp
  rw [this]
  rfl
end
structure Hk (p:Plan) (t:List Int) (own:List Int) (r:Nat):Prop where
 k1:decide (6<(p.starts.length:Int))=false
 k2:decide (6<(t.length:Int))=false
 k3:okPlan p=true
 k4:okTruth p t=true
 k5:inR (r:Int) 0 (p.rows - 1)=true
 k6:decide (6<p.rows)=false
 k7:own=tabL t p.rows.toNat
 k8:((own.length:Int) != p.rows)=false
theorem Hk.all {p:Plan} {t own:List Int} {r:Nat} (h:Hk p t own r):1<=p.rows/\p.rows<=6/\(own.length:Int)=p.rows/\r<own.length:=by
 have h1:=plan_len h.k3
 have h2:=inR_iff.1 h.k5
 have h3:=of_decide_eq_false h.k6
 have h4:(own.length:Int)=p.rows:=by have:=h.k8;simpa using this
 exact ⟨by omega,by omega,h4,by omega⟩
structure Hd (u:Bool) (own:List Int) (r:Nat):Prop where
 hc:isCol own=true
 hr:r<own.length
 hne:turnN u (nth own r)≠nth own r
def wrgR (own:List Int) (r:Nat):List Int:=(List.range own.length).map fun i:Nat=>if i=r then 3 else 1
def argS (G H:Nat->List C):T:=.d (.agg [.s .n 2 G,.s .n 2 H])
section
variable {Gl} (S:SP Gl)
include S
theorem plan13T (p:Plan) (h:okPlan p=true):CO Gl 13 [tPlan p] (.ret (B true)):=by have:=plan13 S p;rw [h] at this;exact this
theorem truth14T (p:Plan) (t:List Int) (h:okTruth p t=true):CO Gl 14 [tPlan p,L eI t] (.ret (B true)):=by have:=truth14 S p t;rw [h] at this;exact this
theorem line15T (p:Plan) (r:Int) (h:okPlan p=true) (h2:inR r 0 (p.rows - 1)=true):CO Gl 15 [tPlan p,I r] (.ret (B true)):=by have:=line15 S p r h;rw [h2] at this;exact this
theorem tabO (p:Plan) (t own:List Int) (r:Nat) (h:Hk p t own r):CO Gl 9 [tPlan p,L eI t] (.ret (.tup [.c (.l eI own),.c (Ci 0)])):=by
 have:=table9 S p t h.k3 h.k4
 rw [<-h.k7] at this
 exact this
theorem firstO (u:Bool) (own:List Int) (r:Nat) (h:Hd u own r) (G H:Nat->List C) (hG:SEq 2 G 2 fun i=>eCol (nth [own,othL u own r] i)) (hH:SEq 2 H 2 fun i=>eI (nth [0,1] i)):CO Gl 17 [argS G H] (.ret (.tup [.c (.l eI own),.c (Ci 0)])):=by
 have:=first31 S (twoS u own r) (two_ok h.hc h.hr) (two_pos h.hc h.hr h.hne)
 rw [two_first h.hc h.hr h.hne] at this
 exact this.args ⟨hG,hH⟩
theorem sureO (u:Bool) (own:List Int) (r:Nat) (h:Hd u own r) (G H:Nat->List C) (hG:SEq 2 G 2 fun i=>eCol (nth [own,othL u own r] i)) (hH:SEq 2 H 2 fun i=>eI (nth [0,1] i)):CO Gl 18 [argS G H] (.ret (.tup [.c (.l eI (upR own.length)),.c (Ci 0)])):=by
 have:=sure38 S (twoS u own r) (two_ok h.hc h.hr) (two_pos h.hc h.hr h.hne)
 rw [two_sure h.hc h.hr h.hne] at this
 exact this.args ⟨hG,hH⟩
theorem wrongO (u:Bool) (own:List Int) (r:Nat) (h:Hd u own r) (G H:Nat->List C) (hG:SEq 2 G 2 fun i=>eCol (nth [own,othL u own r] i)) (hH:SEq 2 H 2 fun i=>eI (nth [0,1] i)):CO Gl 19 [argS G H,I 1] (.ret (.tup [.c (.l eI (wrgR own r)),.c (Ci 0)])):=by
 have:=wrong48 S (twoS u own r) 1 (two_ok h.hc h.hr) (two_pos h.hc h.hr h.hne) (show 1<2 by decide)
 rw [two_wrong h.hc h.hr h.hne] at this
 exact this.args ⟨hG,hH,rfl⟩
theorem errO (u:Bool) (own:List Int) (r:Nat) (h:Hd u own r) (F:Nat->List C) (hF:SEq own.length F (othL u own r).length fun i=>eI (nth (othL u own r) i)):CO Gl 10 [L eI own,.d (.c (.s .n own.length F))] (.ret (.tup [.c (.l eErr [⟨r,1⟩]),.c (Ci 0)])):=by
 have h1:=errors22 S own (othL u own r) h.hc (oth_col h.hc h.hr) (oth_len u own r) (oth_errOK h.hr)
 rw [oth_errL h.hr h.hne] at h1
 exact h1.args ⟨(SEq_refl _ _).2 trivial,hF⟩
theorem sameO (own:List Int):CO Gl 20 [L eI own,L eI own] (.ret (B true)):=by
 have:=same34 S own own
 rw [show sameL (·==·) own own=true from by
  unfold sameL
  rw [beq_self_eq_true,Bool.true_and,List.all_eq_true]
  intro i _
  exact beq_self_eq_true _] at this
 exact this
end
set_option maxRecDepth 100000
theorem sheetG (u:Bool) (own:List Int) (r:Nat) (F:Nat->List C) (hF:SEqE own.length F (othL u own r).length fun i=>eI (nth (othL u own r) i)):
  SEq 2 (fun i=>[List.map C.dem [C.l eI own],List.map C.dem [C.s Tag.n own.length F]].getD i []) 2 fun i=>eCol (nth [own,othL u own r] i):=
 ⟨rfl,fun i hi=>match i,hi with
  |0,_=>.inl rfl
  |1,_=>.inr ⟨.inr (.inr ⟨.n,own.length,F,.n,(othL u own r).length,fun i=>eI (nth (othL u own r) i),rfl,rfl,hF⟩),trivial⟩⟩
theorem sheetH:SEq 2 (fun i=>[List.map C.dem [C.v (Value.int IntKind.i64 0)],List.map C.dem [C.v (Value.int IntKind.i64 1)]].getD i []) 2 fun i=>eI (nth [0,1] i):=
 .of ⟨rfl,fun i hi=>by match i,hi with|0,_=>rfl|1,_=>rfl⟩
theorem othF {u:Bool} {own:List Int} {r:Nat} (hr:r<own.length) {x:Int} (hx:x=turnN u (nth own r)):SEqE own.length (updF (fun i=>eI (nth own i)) r (List.map C.dem [C.v (Value.int IntKind.i64 x)])) (othL u own r).length fun i=>eI (nth (othL u own r) i):=by
 subst hx
 refine ⟨(oth_len u own r).symm,fun i hi=>?_⟩
 show updF _ _ _ i=eI (nth (othL u own r) i)
 rw [updF_get,oth_nth u own r i hr]
 split<;>rfl
theorem num_ofT {n:Int} (h:(decide (n< -999)||decide (999<n))=false):num n=true:=by
 rw [Bool.or_eq_false_iff,decide_eq_false_iff_not,decide_eq_false_iff_not] at h
 exact num_iff.2 (by omega)
theorem wrg_at {own:List Int} {r k:Nat} (hk:k<own.length):nth (wrgR own r) k=if k=r then 3 else 1:=by
 unfold wrgR
 rw [nth_map (by rw [List.length_range];exact hk),nth_range hk]
theorem wrg_len (own:List Int) (r:Nat):(wrgR own r).length=own.length:=by unfold wrgR;rw [List.length_map,List.length_range]
theorem eql2 (a b:Int):eqL [a,b] [a,b]=true:=by simp [eqL]
theorem turn_f {x:Int} (h:0<=ab x):Int.tmod (Int.tdiv (max x (-x)) 10) 10*100+Int.tdiv (max x (-x)) 100*10+Int.tmod (max x (-x)) 10=turnA false (ab x):=by
 have e1:Int.tdiv (ab x) 10=ab x / 10:=Int.tdiv_eq_ediv_of_nonneg h
 have e2:Int.tmod (ab x / 10) 10=ab x / 10 % 10:=Int.tmod_eq_emod_of_nonneg (by omega)
 have e3:Int.tdiv (ab x) 100=ab x / 100:=Int.tdiv_eq_ediv_of_nonneg h
 have e4:Int.tmod (ab x) 10=ab x % 10:=Int.tmod_eq_emod_of_nonneg h
 show Int.tmod (Int.tdiv (ab x) 10) 10*100+Int.tdiv (ab x) 100*10+Int.tmod (ab x) 10=_
 rw [e1,e2,e3,e4]
 rfl
theorem turn_t {x:Int} (h:0<=ab x):Int.tdiv (max x (-x)) 100*100+Int.tmod (max x (-x)) 10*10+Int.tmod (Int.tdiv (max x (-x)) 10) 10=turnA true (ab x):=by
 have e1:Int.tdiv (ab x) 10=ab x / 10:=Int.tdiv_eq_ediv_of_nonneg h
 have e2:Int.tmod (ab x / 10) 10=ab x / 10 % 10:=Int.tmod_eq_emod_of_nonneg (by omega)
 have e3:Int.tdiv (ab x) 100=ab x / 100:=Int.tdiv_eq_ediv_of_nonneg h
 have e4:Int.tmod (ab x) 10=ab x % 10:=Int.tmod_eq_emod_of_nonneg h
 show Int.tdiv (ab x) 100*100+Int.tmod (ab x) 10*10+Int.tmod (Int.tdiv (ab x) 10) 10=_
 rw [e1,e2,e3,e4]
 rfl
theorem turn_neg {u:Bool} {x:Int} (h:decide (x<0)=true):-turnA u (ab x)=turnN u x:=by unfold turnN;rw [h];rfl
theorem turn_pos {u:Bool} {x:Int} (h:decide (x<0)=false):turnA u (ab x)=turnN u x:=by unfold turnN;rw [h];rfl
theorem hd_of {u:Bool} {p:Plan} {t own:List Int} {r:Nat} (h:Hk p t own r) (hn:own.all num=true) (hne:(turnA u (ab (nth own r))==ab (nth own r))=false):Hd u own r:=by
 obtain ⟨a1,a2,a3,a4⟩:=h.all
 refine ⟨isCol_iff.2 ⟨by omega,hn⟩,a4,fun he=>?_⟩
 have hne:=beq_eq_false_iff_ne.1 hne
 have h0:0<=ab (nth own r):=by unfold ab;omega
 apply hne
 unfold turnN at he
 cases hd:decide (nth own r<0) with
 |true=>
  rw [hd] at he
  have hlt:=of_decide_eq_true hd
  have he:-turnA u (ab (nth own r))=nth own r:=he
  have:ab (nth own r)=-nth own r:=by unfold ab;omega
  omega
 |false=>
  rw [hd] at he
  have hlt:=of_decide_eq_false hd
  have he:turnA u (ab (nth own r))=nth own r:=he
  have:ab (nth own r)=nth own r:=by unfold ab;omega
  omega
theorem law_round (own:List Int) (r k1:Nat) (hk:k1<own.length) (hm:own.length<=6):(((k1:Int)==(r:Int))=true->(0<=(k1:Int)/\(k1:Int)<(own.length:Int))/\((nth (wrgR own r) k1 != 3)=false->0<=(k1:Int)/\(k1:Int)<(own.length:Int))/\((nth (wrgR own r) k1 != 3||nth (upR own.length) k1 != (k1:Int))=true->False)/\((nth (wrgR own r) k1 != 3||nth (upR own.length) k1 != (k1:Int))=false->(-9223372036854775808<=(k1:Int)+1/\(k1:Int)+1<=9223372036854775807)/\k1<own.length/\(k1:Int)+1=((k1+1:Nat):Int)/\True))/\
  (((k1:Int)==(r:Int))=false->(0<=(k1:Int)/\(k1:Int)<(own.length:Int))/\((nth (wrgR own r) k1 != 1)=false->0<=(k1:Int)/\(k1:Int)<(own.length:Int))/\((nth (wrgR own r) k1 != 1||nth (upR own.length) k1 != (k1:Int))=true->False)/\((nth (wrgR own r) k1 != 1||nth (upR own.length) k1 != (k1:Int))=false->(-9223372036854775808<=(k1:Int)+1/\(k1:Int)+1<=9223372036854775807)/\k1<own.length/\(k1:Int)+1=((k1+1:Nat):Int)/\True)):=by
 have hw:=wrg_at (own:=own) (r:=r) hk
 have hu:=upR_at hk
 constructor
 ·intro he
  have he:k1=r:=by have:=beq_iff_eq.1 he;omega
  rw [if_pos he] at hw
  exact ⟨by omega,fun _=>by omega,fun h=>by rw [hw,hu] at h;simp at h,fun _=>⟨by omega,hk,by omega,trivial⟩⟩
 ·intro he
  have he:¬k1=r:=by have:=beq_eq_false_iff_ne.1 he;omega
  rw [if_neg he] at hw
  exact ⟨by omega,fun _=>by omega,fun h=>by rw [hw,hu] at h;simp at h,fun _=>⟨by omega,hk,by omega,trivial⟩⟩
theorem Hk.u {p:Plan} {t own:List Int} {r:Nat} (h:Hk p t own r):(((upR own.length).length:Int) != p.rows)=false:=by rw [upR_len];exact h.k8
theorem Hk.w {p:Plan} {t own:List Int} {r:Nat} (h:Hk p t own r):(((wrgR own r).length:Int) != p.rows)=false:=by
 unfold wrgR;rw [List.length_map,List.length_range];exact h.k8
theorem law4f {Gl} (S:SP Gl) (p:Plan) (t own:List Int) (r:Nat) (h:Hk p t own r):CO Gl 4 [tPlan p,L eI t,I r,B false] (.ret (B true)):=by
 refine fn_iq S (let A0:=(Int.tmod (Int.tdiv (max (nth own r) (-nth own r)) (10:Int)) (10:Int)*(100:Int)+Int.tdiv (max (nth own r) (-nth own r)) (100:Int)*(10:Int)+Int.tmod (max (nth own r) (-nth own r)) (10:Int));let A1:=(wrgR own r);let A2:=[List.map C.dem [C.v (Value.int IntKind.i64 (0:Int))],List.map C.dem [C.v (Value.int IntKind.i64 (1:Int))]];let A3:=(bif false then true else bif true then !eqL [(r:Int),(1:Int)] [(r:Int),(1:Int)] else eqL [(r:Int),(1:Int)] [(r:Int),(1:Int)]);let A4:=(fun (i:Nat)=>List.getD [List.map C.dem [C.l eI own],List.map C.dem [C.s Tag.n own.length (updF (fun i=>eI (nth own i)) r (List.map C.dem [C.v (Value.int IntKind.i64 (-A0))]))]] i []);let A5:=(fun (i:Nat)=>List.getD [List.map C.dem [C.l eI own],List.map C.dem [C.s Tag.n own.length (updF (fun i=>eI (nth own i)) r (List.map C.dem [C.v (Value.int IntKind.i64 A0)]))]] i []);let A6:=(upR own.length);let A7:=(max (nth own r) (-nth own r));let A8:=fun (k1:Nat)=>(eqB (nth A1 k1 != (3:Int)) false=true->eqB (nth A1 k1 != (3:Int)) false=true);let A9:=fun (k1:Nat)=>(eqB (nth A1 k1 != (1:Int)) false=true->eqB (nth A1 k1 != (1:Int)) false=true);let A10:=fun (k2:Nat)=>(eqB (nth A1 k2 != (3:Int)) false=true->eqB (nth A1 k2 != (3:Int)) false=true);let A11:=fun (k2:Nat)=>(eqB (nth A1 k2 != (1:Int)) false=true->eqB (nth A1 k2 != (1:Int)) false=true);let A12:=fun (k0:Nat)=>(eqB (decide (nth own k0<(-999:Int))) false=true->eqB (decide (nth own k0<(-999:Int))) false=true);let A13:=[D.c (C.l eErr [Err.mk (r:Int) (1:Int)]),D.c (Ci 0)];let A14:=(0<=(r:Int)/\(r:Int)<(own.length:Int));let A15:=(Int.tmod (Int.tdiv A7 (10:Int)) (10:Int)*(100:Int)+Int.tdiv A7 (100:Int)*(10:Int)+Int.tmod A7 (10:Int)==max (nth own r) (-nth own r));let A16:=[D.c (C.l eI own),D.c (Ci 0)];let A17:=(List.length A6:Int);let A18:=(List.length A1:Int);let A19:=[D.c (C.l eI A6),D.c (Ci 0)];let A20:=[D.c (C.l eI A1),D.c (Ci 0)];let A21:=(0=(↑(0:Nat):Int)/\(r:Int)=(r:Int)/\(sR eI A1)/\sR eI A6);let A22:=fun (k0:Nat)=>(bif decide (nth own k0<(-999:Int)) then true else decide ((999:Int)<nth own k0));let A23:=(fun (k:Nat)=>[v 24 (I k),v 2 (I r),v 20 (L eI A1),v 18 (L eI A6)]);((.val 29 false (.sure 31 (.sure 32 (.val 33 false (.sure 33 (.sure 36 (.sure 37 (.r (.ret (B true)) (.sure 38 (.sure 41 (.sure 42 (.sure 43 (.r (.ret (B true)) (.sure 44 (.sure 47 (.sure 48 (.sure 49 (.r (.ret (B true)) (.sure 50 (.sure 53 (.sure 54 (.val 55 false (.sure 55 (.ff (.r (.ret (.tup A16)) (.sure 67 (.sure 68 (.sure 69 (.sure 70 (.val 71 false (.sure 71 (.ff (.loop (upto num own) (fun k=>v 11 (I k)::v 9 (L eI own)::v 2 (I r)::v 3 (B false)::v 4 (ad 4)::bx 4 (cPlan p)) fun k0=>.br (.br (.r (.ret (B true)) .nil) .nil) (.ff (.br (.r (.ret (B true)) .nil) (.br (.arrA (137:Nat) (.arrA (143:Nat) (.r (.ret (.tup A16)) (.r (.ret (.tup A19)) (.r (.ret (.tup A20)) (.r (.ret (.tup A13)) (.sure 171 (.sure 172 (.sure 175 (.sure 176 (.sure 179 (.sure 180 (.sure 183 (.sure 184 (.sure 185 (.r (.ret (B true)) (.sure 186 (.sure 189 (.sure 190 (.sure 191 (.sure 192 (.val 193 false (.sure 193 (.sure 196 (.sure 197 (.sure 198 (.sure 199 (.val 200 false (.sure 200 (.sure 203 (.sure 204 (.sure 205 (.sure 208 (.sure 209 (.sure 210 (.sure 211 (.sure 212 (.sure 213 (.br .nil (.loop own.length A23 fun k1=>.br (.br (.br .nil .nil) (.br .nil .nil)) (.r (.ret (B true)) .nil))))))))))))))))))))))))))))))))))))))))) (.arrA (137:Nat) (.arrA (143:Nat) (.r (.ret (.tup A16)) (.r (.ret (.tup A19)) (.r (.ret (.tup A20)) (.r (.ret (.tup A13)) (.sure 171 (.sure 172 (.sure 175 (.sure 176 (.sure 179 (.sure 180 (.sure 183 (.sure 184 (.sure 185 (.r (.ret (B true)) (.sure 186 (.sure 189 (.sure 190 (.sure 191 (.sure 192 (.val 193 false (.sure 193 (.sure 196 (.sure 197 (.sure 198 (.sure 199 (.val 200 false (.sure 200 (.sure 203 (.sure 204 (.sure 205 (.sure 208 (.sure 209 (.sure 210 (.sure 211 (.sure 212 (.sure 213 (.br .nil (.loop own.length A23 fun k2=>.br (.br (.br .nil .nil) (.br .nil .nil)) (.r (.ret (B true)) .nil))))))))))))))))))))))))))))))))))))))))))))))))))))))))))))))))))))))))))))),(p.1.length<=maxLen->decide (6<(p.1.length:Int))=false/\true=true/\true=true/\(t.length<=maxLen->decide (6<(t.length:Int))=false/\true=true/\true=true/\true=true/\CO Gl 13 [tPlan p] (.ret (B true))/\true=true/\true=true/\true=true/\true=true/\CO Gl 14 [tPlan p,L eI t] (.ret (B true))/\true=true/\true=true/\true=true/\true=true/\CO Gl 15 [tPlan p,I r] (.ret (B true))/\true=true/\true=true/\true=true/\decide ((6:Int)<p.2)=false/\true=true/\false=false/\CO Gl 9 [tPlan p,L eI t] (.ret (.tup A16))/\true=true/\true=true/\(own.length<=maxLen->true=true/\true=true/\((own.length:Int) != p.2)=false/\true=true/\false=false/\(0=(↑(0:Nat):Int)/\(sR eI own)/\(r:Int)=(r:Int)/\false=false/\(sR eSpan p.1)/\p.2=p.2/\p.3=p.3)/\∀ (k0:Nat),k0<=upto num own->own.length<=maxLen->(decide ((k0:Int)<(own.length:Int))=true->(0<=(k0:Int)/\(k0:Int)<(own.length:Int))/\(A12 k0)/\(A12 k0)/\(eqB (decide (nth own k0<(-999:Int))) false=true->0<=(k0:Int)/\(k0:Int)<(own.length:Int))/\(A12 k0)/\(A12 k0)/\(decide (nth own k0<(-999:Int))=false->eqB (decide (nth own k0<(-999:Int))) false=true)/\((A22 k0)=true->CO Gl 16 [] (.ret (B true))/\true=true)/\((A22 k0)=false->iR ((k0:Int)+1)/\k0<upto num own/\(k0:Int)+1=(↑(k0+1):Int)/\(sR eI own)/\(r:Int)=(r:Int)/\false=false/\(sR eSpan p.1)/\p.2=p.2/\p.3=p.3))/\(decide ((k0:Int)<(own.length:Int))=false->A14/\A14/\iR (-nth own r)/\((10:Int)≠(0:Int)/\iR (Int.tdiv A7 (10:Int)))/\(10:Int)≠(0:Int)/\iR (Int.tmod (Int.tdiv A7 (10:Int)) (10:Int)*(100:Int))/\((100:Int)≠(0:Int)/\iR (Int.tdiv A7 (100:Int)))/\iR (Int.tdiv A7 (100:Int)*(10:Int))/\iR (Int.tmod (Int.tdiv A7 (10:Int)) (10:Int)*(100:Int)+Int.tdiv A7 (100:Int)*(10:Int))/\(10:Int)≠(0:Int)/\iR A0/\false=false/\(A15=true->CO Gl 16 [] (.ret (B true))/\true=true)/\(A15=false->A14/\(decide (nth own r<(0:Int))=true->iR (-A0)/\(0:Nat)<own.length/\own.length*8<=140737488355328/\own.length<=(140737488355328:Nat)/\A14/\r<own.length/\own.length=own.length/\CO Gl 17 [argS A4 fun i=>List.getD A2 i []] (.ret (.tup A16))/\CO Gl 18 [argS A4 fun i=>List.getD A2 i []] (.ret (.tup A19))/\CO Gl 19 [argS A4 fun i=>List.getD A2 i [],I 1] (.ret (.tup A20))/\own.length=own.length/\CO Gl 10 [L eI own,T.d (D.c (C.s Tag.n own.length (updF (fun i=>eI (nth own i)) r (List.map C.dem [C.v (Value.int IntKind.i64 (-A0))]))))] (.ret (.tup A13))/\true=true/\true=true/\true=true/\true=true/\true=true/\true=true/\true=true/\true=true/\true=true/\CO Gl 20 [L eI own,L eI own] (.ret (B true))/\true=true/\true=true/\true=true/\(List.length A6<=maxLen->true=true/\true=true/\(A17 != p.2)=false/\true=true/\true=true/\true=true/\(List.length A1<=maxLen->true=true/\true=true/\(A18 != p.2)=false/\true=true/\true=true/\true=true/\((1:Nat)<=maxLen->true=true/\true=true/\true=true/\((0:Int)<=0/\0<(↑(1:Nat):Int))/\true=true/\true=true/\true=true/\true=true/\(A3=true->false=true)/\(A3=false->A21/\∀ (k1:Nat),k1<=own.length->List.length A1<=maxLen->(decide ((k1:Int)<(List.length (wrgR own r):Int))=true->(((k1:Int)==(r:Int))=true->(0<=(k1:Int)/\(k1:Int)<A18)/\(A8 k1)/\(A8 k1)/\(eqB (nth A1 k1 != (3:Int)) false=true->0<=(k1:Int)/\(k1:Int)<A17)/\(A8 k1)/\(A8 k1)/\(A8 k1)/\((nth A1 k1 != (3:Int))=false->eqB (nth A1 k1 != (3:Int)) false=true)/\((bif nth A1 k1 != (3:Int) then true else nth A6 k1 != (k1:Int))=true->false=true)/\((bif nth A1 k1 != (3:Int) then true else nth A6 k1 != (k1:Int))=false->iR ((k1:Int)+1)/\k1<own.length/\(k1:Int)+1=(↑(k1+1):Int)/\(r:Int)=(r:Int)/\(sR eI A1)/\sR eI A6))/\(((k1:Int)==(r:Int))=false->(0<=(k1:Int)/\(k1:Int)<A18)/\(A9 k1)/\(A9 k1)/\(eqB (nth A1 k1 != (1:Int)) false=true->0<=(k1:Int)/\(k1:Int)<A17)/\(A9 k1)/\(A9 k1)/\(A9 k1)/\((nth A1 k1 != (1:Int))=false->eqB (nth A1 k1 != (1:Int)) false=true)/\((bif nth A1 k1 != (1:Int) then true else nth A6 k1 != (k1:Int))=true->false=true)/\((bif nth A1 k1 != (1:Int) then true else nth A6 k1 != (k1:Int))=false->iR ((k1:Int)+1)/\k1<own.length/\(k1:Int)+1=(↑(k1+1):Int)/\(r:Int)=(r:Int)/\(sR eI A1)/\sR eI A6)))/\(decide ((k1:Int)<(List.length (wrgR own r):Int))=false->CO Gl 16 [] (.ret (B true))/\true=true))))))/\(decide (nth own r<(0:Int))=false->(0:Nat)<own.length/\own.length*8<=140737488355328/\own.length<=(140737488355328:Nat)/\A14/\r<own.length/\own.length=own.length/\CO Gl 17 [argS A5 fun i=>List.getD A2 i []] (.ret (.tup A16))/\CO Gl 18 [argS A5 fun i=>List.getD A2 i []] (.ret (.tup A19))/\CO Gl 19 [argS A5 fun i=>List.getD A2 i [],I 1] (.ret (.tup A20))/\own.length=own.length/\CO Gl 10 [L eI own,T.d (D.c (C.s Tag.n own.length (updF (fun i=>eI (nth own i)) r (List.map C.dem [C.v (Value.int IntKind.i64 A0)]))))] (.ret (.tup A13))/\true=true/\true=true/\true=true/\true=true/\true=true/\true=true/\true=true/\true=true/\true=true/\CO Gl 20 [L eI own,L eI own] (.ret (B true))/\true=true/\true=true/\true=true/\(List.length A6<=maxLen->true=true/\true=true/\(A17 != p.2)=false/\true=true/\true=true/\true=true/\(List.length A1<=maxLen->true=true/\true=true/\(A18 != p.2)=false/\true=true/\true=true/\true=true/\((1:Nat)<=maxLen->true=true/\true=true/\true=true/\((0:Int)<=0/\0<(↑(1:Nat):Int))/\true=true/\true=true/\true=true/\true=true/\(A3=true->false=true)/\(A3=false->A21/\∀ (k2:Nat),k2<=own.length->List.length A1<=maxLen->(decide ((k2:Int)<(List.length (wrgR own r):Int))=true->(((k2:Int)==(r:Int))=true->(0<=(k2:Int)/\(k2:Int)<A18)/\(A10 k2)/\(A10 k2)/\(eqB (nth A1 k2 != (3:Int)) false=true->0<=(k2:Int)/\(k2:Int)<A17)/\(A10 k2)/\(A10 k2)/\(A10 k2)/\((nth A1 k2 != (3:Int))=false->eqB (nth A1 k2 != (3:Int)) false=true)/\((bif nth A1 k2 != (3:Int) then true else nth A6 k2 != (k2:Int))=true->false=true)/\((bif nth A1 k2 != (3:Int) then true else nth A6 k2 != (k2:Int))=false->iR ((k2:Int)+1)/\k2<own.length/\(k2:Int)+1=(↑(k2+1):Int)/\(r:Int)=(r:Int)/\(sR eI A1)/\sR eI A6))/\(((k2:Int)==(r:Int))=false->(0<=(k2:Int)/\(k2:Int)<A18)/\(A11 k2)/\(A11 k2)/\(eqB (nth A1 k2 != (1:Int)) false=true->0<=(k2:Int)/\(k2:Int)<A17)/\(A11 k2)/\(A11 k2)/\(A11 k2)/\((nth A1 k2 != (1:Int))=false->eqB (nth A1 k2 != (1:Int)) false=true)/\((bif nth A1 k2 != (1:Int) then true else nth A6 k2 != (k2:Int))=true->false=true)/\((bif nth A1 k2 != (1:Int) then true else nth A6 k2 != (k2:Int))=false->iR ((k2:Int)+1)/\k2<own.length/\(k2:Int)+1=(↑(k2+1):Int)/\(r:Int)=(r:Int)/\(sR eI A1)/\sR eI A6)))/\(decide ((k2:Int)<(List.length (wrgR own r):Int))=false->CO Gl 16 [] (.ret (B true))/\true=true))))))))))))) Tryz.func4 (by kernel_rfl) (by kernel_rfl) ?_
 obtain ⟨a1,a2,a3,a4⟩:=h.all
 have hK:=known11 S
 have hul:=upR_len own.length
 have hwl:=wrg_len own r
 have hx0:0<=ab (nth own r):=by unfold ab;omega
 have hmx:max (nth own r) (-nth own r)=ab (nth own r):=rfl
 simp only [stdS,imp_self,implies_true,and_true,hul,hwl,maxLen_eq,rng_iff,eql2,cond_false,cond_true,h.k8,Bool.false_eq_true,false_implies,forall_const,h.k1,h.k2,h.k6,turn_f hx0]
 refine fun _ _=>⟨plan13T S p h.k3,truth14T S p t h.k4,line15T S p r h.k3 h.k5,tabO S p t own r h,fun _ k hk _=>⟨fun hd=>?_,fun hd=>?_⟩⟩
 ·have hlt:k<own.length:=by have:=of_decide_eq_true hd;omega
  exact ⟨by omega,fun _=>by omega,fun _=>⟨hK,trivial⟩,fun hc=>⟨by omega,upto_lt hk hlt (num_ofT hc),by omega,trivial⟩⟩
 ·have hn:own.all num=true:=upto_all (by have:=of_decide_eq_false hd;omega)
  have hx:=num_iff.1 (List.all_eq_true.1 hn _ (nth_mem a4))
  have hx9:ab (nth own r)<=999:=by unfold ab;omega
  have ht:=turnA_rng false hx0 hx9
  have q1:Int.tdiv (ab (nth own r)) 10=ab (nth own r) / 10:=Int.tdiv_eq_ediv_of_nonneg hx0
  have q2:Int.tmod (ab (nth own r) / 10) 10=ab (nth own r) / 10 % 10:=Int.tmod_eq_emod_of_nonneg (by omega)
  have q3:Int.tdiv (ab (nth own r)) 100=ab (nth own r) / 100:=Int.tdiv_eq_ediv_of_nonneg hx0
  rw [hmx,q1,q2,q3]
  refine ⟨by omega,by omega,by omega,by omega,by omega,by omega,by omega,by omega,by omega,by omega,by omega,fun _=>⟨hK,trivial⟩,fun hne=>?_⟩
  have hD:=hd_of h hn hne
  refine ⟨by omega,fun hs=>?_,fun hs=>?_⟩
  ·have hF:=othF (u:=false) a4 (turn_neg hs)
   refine ⟨by omega,by omega,by omega,by omega,by omega,a4,firstO S false own r hD _ _ (sheetG false own r _ hF) sheetH,sureO S false own r hD _ _ (sheetG false own r _ hF) sheetH,wrongO S false own r hD _ _ (sheetG false own r _ hF) sheetH,errO S false own r hD _ (.of hF),sameO S own,fun _ _ _=>⟨by omega,fun k1 hk1 _=>⟨fun hd1=>?_,fun _=>⟨hK,trivial⟩⟩⟩⟩
   exact law_round own r k1 (by have:=of_decide_eq_true hd1;omega) (by omega)
  ·have hF:=othF (u:=false) a4 (turn_pos hs)
   refine ⟨by omega,by omega,by omega,by omega,a4,firstO S false own r hD _ _ (sheetG false own r _ hF) sheetH,sureO S false own r hD _ _ (sheetG false own r _ hF) sheetH,wrongO S false own r hD _ _ (sheetG false own r _ hF) sheetH,errO S false own r hD _ (.of hF),sameO S own,fun _ _ _=>⟨by omega,fun k1 hk1 _=>⟨fun hd1=>?_,fun _=>⟨hK,trivial⟩⟩⟩⟩
   exact law_round own r k1 (by have:=of_decide_eq_true hd1;omega) (by omega)
theorem law4t {Gl} (S:SP Gl) (p:Plan) (t own:List Int) (r:Nat) (h:Hk p t own r):CO Gl 4 [tPlan p,L eI t,I r,B true] (.ret (B true)):=by
 refine fn_iq S (let A0:=(Int.tdiv (max (nth own r) (-nth own r)) (100:Int)*(100:Int)+Int.tmod (max (nth own r) (-nth own r)) (10:Int)*(10:Int)+Int.tmod (Int.tdiv (max (nth own r) (-nth own r)) (10:Int)) (10:Int));let A1:=(wrgR own r);let A2:=(max (nth own r) (-nth own r));let A3:=[List.map C.dem [C.v (Value.int IntKind.i64 (0:Int))],List.map C.dem [C.v (Value.int IntKind.i64 (1:Int))]];let A4:=(bif false then true else bif true then !eqL [(r:Int),(1:Int)] [(r:Int),(1:Int)] else eqL [(r:Int),(1:Int)] [(r:Int),(1:Int)]);let A5:=(fun (i:Nat)=>List.getD [List.map C.dem [C.l eI own],List.map C.dem [C.s Tag.n own.length (updF (fun i=>eI (nth own i)) r (List.map C.dem [C.v (Value.int IntKind.i64 (-A0))]))]] i []);let A6:=(fun (i:Nat)=>List.getD [List.map C.dem [C.l eI own],List.map C.dem [C.s Tag.n own.length (updF (fun i=>eI (nth own i)) r (List.map C.dem [C.v (Value.int IntKind.i64 A0)]))]] i []);let A7:=(upR own.length);let A8:=fun (k1:Nat)=>(eqB (nth A1 k1 != (3:Int)) false=true->eqB (nth A1 k1 != (3:Int)) false=true);let A9:=fun (k1:Nat)=>(eqB (nth A1 k1 != (1:Int)) false=true->eqB (nth A1 k1 != (1:Int)) false=true);let A10:=fun (k2:Nat)=>(eqB (nth A1 k2 != (3:Int)) false=true->eqB (nth A1 k2 != (3:Int)) false=true);let A11:=fun (k2:Nat)=>(eqB (nth A1 k2 != (1:Int)) false=true->eqB (nth A1 k2 != (1:Int)) false=true);let A12:=fun (k0:Nat)=>(eqB (decide (nth own k0<(-999:Int))) false=true->eqB (decide (nth own k0<(-999:Int))) false=true);let A13:=[D.c (C.l eErr [Err.mk (r:Int) (1:Int)]),D.c (Ci 0)];let A14:=(0<=(r:Int)/\(r:Int)<(own.length:Int));let A15:=(Int.tdiv A2 (100:Int)*(100:Int)+Int.tmod A2 (10:Int)*(10:Int)+Int.tmod (Int.tdiv A2 (10:Int)) (10:Int)==max (nth own r) (-nth own r));let A16:=[D.c (C.l eI own),D.c (Ci 0)];let A17:=(List.length A7:Int);let A18:=(List.length A1:Int);let A19:=[D.c (C.l eI A7),D.c (Ci 0)];let A20:=[D.c (C.l eI A1),D.c (Ci 0)];let A21:=(Int.tdiv A2 (10:Int));let A22:=((100:Int)≠(0:Int)/\iR (Int.tdiv A2 (100:Int)));let A23:=(0=(↑(0:Nat):Int)/\(r:Int)=(r:Int)/\(sR eI A1)/\sR eI A7);let A24:=fun (k0:Nat)=>(bif decide (nth own k0<(-999:Int)) then true else decide ((999:Int)<nth own k0));let A25:=(fun (k:Nat)=>[v 24 (I k),v 2 (I r),v 20 (L eI A1),v 18 (L eI A7)]);let A26:=((10:Int)≠(0:Int)/\iR A21);((.val 29 false (.sure 31 (.sure 32 (.val 33 false (.sure 33 (.sure 36 (.sure 37 (.r (.ret (B true)) (.sure 38 (.sure 41 (.sure 42 (.sure 43 (.r (.ret (B true)) (.sure 44 (.sure 47 (.sure 48 (.sure 49 (.r (.ret (B true)) (.sure 50 (.sure 53 (.sure 54 (.val 55 false (.sure 55 (.ff (.r (.ret (.tup A16)) (.sure 67 (.sure 68 (.sure 69 (.sure 70 (.val 71 false (.sure 71 (.ff (.loop (upto num own) (fun k=>v 11 (I k)::v 9 (L eI own)::v 2 (I r)::v 3 (B true)::v 4 (ad 4)::bx 4 (cPlan p)) fun k0=>.br (.br (.r (.ret (B true)) .nil) .nil) (.tt (.br (.r (.ret (B true)) .nil) (.br (.arrA (137:Nat) (.arrA (143:Nat) (.r (.ret (.tup A16)) (.r (.ret (.tup A19)) (.r (.ret (.tup A20)) (.r (.ret (.tup A13)) (.sure 171 (.sure 172 (.sure 175 (.sure 176 (.sure 179 (.sure 180 (.sure 183 (.sure 184 (.sure 185 (.r (.ret (B true)) (.sure 186 (.sure 189 (.sure 190 (.sure 191 (.sure 192 (.val 193 false (.sure 193 (.sure 196 (.sure 197 (.sure 198 (.sure 199 (.val 200 false (.sure 200 (.sure 203 (.sure 204 (.sure 205 (.sure 208 (.sure 209 (.sure 210 (.sure 211 (.sure 212 (.sure 213 (.br .nil (.loop own.length A25 fun k1=>.br (.br (.br .nil .nil) (.br .nil .nil)) (.r (.ret (B true)) .nil))))))))))))))))))))))))))))))))))))))))) (.arrA (137:Nat) (.arrA (143:Nat) (.r (.ret (.tup A16)) (.r (.ret (.tup A19)) (.r (.ret (.tup A20)) (.r (.ret (.tup A13)) (.sure 171 (.sure 172 (.sure 175 (.sure 176 (.sure 179 (.sure 180 (.sure 183 (.sure 184 (.sure 185 (.r (.ret (B true)) (.sure 186 (.sure 189 (.sure 190 (.sure 191 (.sure 192 (.val 193 false (.sure 193 (.sure 196 (.sure 197 (.sure 198 (.sure 199 (.val 200 false (.sure 200 (.sure 203 (.sure 204 (.sure 205 (.sure 208 (.sure 209 (.sure 210 (.sure 211 (.sure 212 (.sure 213 (.br .nil (.loop own.length A25 fun k2=>.br (.br (.br .nil .nil) (.br .nil .nil)) (.r (.ret (B true)) .nil))))))))))))))))))))))))))))))))))))))))))))))))))))))))))))))))))))))))))))),(p.1.length<=maxLen->decide (6<(p.1.length:Int))=false/\true=true/\true=true/\(t.length<=maxLen->decide (6<(t.length:Int))=false/\true=true/\true=true/\true=true/\CO Gl 13 [tPlan p] (.ret (B true))/\true=true/\true=true/\true=true/\true=true/\CO Gl 14 [tPlan p,L eI t] (.ret (B true))/\true=true/\true=true/\true=true/\true=true/\CO Gl 15 [tPlan p,I r] (.ret (B true))/\true=true/\true=true/\true=true/\decide ((6:Int)<p.2)=false/\true=true/\false=false/\CO Gl 9 [tPlan p,L eI t] (.ret (.tup A16))/\true=true/\true=true/\(own.length<=maxLen->true=true/\true=true/\((own.length:Int) != p.2)=false/\true=true/\false=false/\(0=(↑(0:Nat):Int)/\(sR eI own)/\(r:Int)=(r:Int)/\true=true/\(sR eSpan p.1)/\p.2=p.2/\p.3=p.3)/\∀ (k0:Nat),k0<=upto num own->own.length<=maxLen->(decide ((k0:Int)<(own.length:Int))=true->(0<=(k0:Int)/\(k0:Int)<(own.length:Int))/\(A12 k0)/\(A12 k0)/\(eqB (decide (nth own k0<(-999:Int))) false=true->0<=(k0:Int)/\(k0:Int)<(own.length:Int))/\(A12 k0)/\(A12 k0)/\(decide (nth own k0<(-999:Int))=false->eqB (decide (nth own k0<(-999:Int))) false=true)/\((A24 k0)=true->CO Gl 16 [] (.ret (B true))/\true=true)/\((A24 k0)=false->iR ((k0:Int)+1)/\k0<upto num own/\(k0:Int)+1=(↑(k0+1):Int)/\(sR eI own)/\(r:Int)=(r:Int)/\true=true/\(sR eSpan p.1)/\p.2=p.2/\p.3=p.3))/\(decide ((k0:Int)<(own.length:Int))=false->A14/\A14/\iR (-nth own r)/\A26/\(10:Int)≠(0:Int)/\iR (Int.tmod A21 (10:Int)*(100:Int))/\A22/\iR (Int.tdiv A2 (100:Int)*(10:Int))/\iR (Int.tmod A21 (10:Int)*(100:Int)+Int.tdiv A2 (100:Int)*(10:Int))/\(10:Int)≠(0:Int)/\iR (Int.tmod A21 (10:Int)*(100:Int)+Int.tdiv A2 (100:Int)*(10:Int)+Int.tmod A2 (10:Int))/\true=true/\A22/\iR (Int.tdiv A2 (100:Int)*(100:Int))/\(10:Int)≠(0:Int)/\iR (Int.tmod A2 (10:Int)*(10:Int))/\iR (Int.tdiv A2 (100:Int)*(100:Int)+Int.tmod A2 (10:Int)*(10:Int))/\A26/\(10:Int)≠(0:Int)/\iR A0/\(A15=true->CO Gl 16 [] (.ret (B true))/\true=true)/\(A15=false->A14/\(decide (nth own r<(0:Int))=true->iR (-A0)/\(0:Nat)<own.length/\own.length*8<=140737488355328/\own.length<=(140737488355328:Nat)/\A14/\r<own.length/\own.length=own.length/\CO Gl 17 [argS A5 fun i=>List.getD A3 i []] (.ret (.tup A16))/\CO Gl 18 [argS A5 fun i=>List.getD A3 i []] (.ret (.tup A19))/\CO Gl 19 [argS A5 fun i=>List.getD A3 i [],I 1] (.ret (.tup A20))/\own.length=own.length/\CO Gl 10 [L eI own,T.d (D.c (C.s Tag.n own.length (updF (fun i=>eI (nth own i)) r (List.map C.dem [C.v (Value.int IntKind.i64 (-A0))]))))] (.ret (.tup A13))/\true=true/\true=true/\true=true/\true=true/\true=true/\true=true/\true=true/\true=true/\true=true/\CO Gl 20 [L eI own,L eI own] (.ret (B true))/\true=true/\true=true/\true=true/\(List.length A7<=maxLen->true=true/\true=true/\(A17 != p.2)=false/\true=true/\true=true/\true=true/\(List.length A1<=maxLen->true=true/\true=true/\(A18 != p.2)=false/\true=true/\true=true/\true=true/\((1:Nat)<=maxLen->true=true/\true=true/\true=true/\((0:Int)<=0/\0<(↑(1:Nat):Int))/\true=true/\true=true/\true=true/\true=true/\(A4=true->false=true)/\(A4=false->A23/\∀ (k1:Nat),k1<=own.length->List.length A1<=maxLen->(decide ((k1:Int)<(List.length (wrgR own r):Int))=true->(((k1:Int)==(r:Int))=true->(0<=(k1:Int)/\(k1:Int)<A18)/\(A8 k1)/\(A8 k1)/\(eqB (nth A1 k1 != (3:Int)) false=true->0<=(k1:Int)/\(k1:Int)<A17)/\(A8 k1)/\(A8 k1)/\(A8 k1)/\((nth A1 k1 != (3:Int))=false->eqB (nth A1 k1 != (3:Int)) false=true)/\((bif nth A1 k1 != (3:Int) then true else nth A7 k1 != (k1:Int))=true->false=true)/\((bif nth A1 k1 != (3:Int) then true else nth A7 k1 != (k1:Int))=false->iR ((k1:Int)+1)/\k1<own.length/\(k1:Int)+1=(↑(k1+1):Int)/\(r:Int)=(r:Int)/\(sR eI A1)/\sR eI A7))/\(((k1:Int)==(r:Int))=false->(0<=(k1:Int)/\(k1:Int)<A18)/\(A9 k1)/\(A9 k1)/\(eqB (nth A1 k1 != (1:Int)) false=true->0<=(k1:Int)/\(k1:Int)<A17)/\(A9 k1)/\(A9 k1)/\(A9 k1)/\((nth A1 k1 != (1:Int))=false->eqB (nth A1 k1 != (1:Int)) false=true)/\((bif nth A1 k1 != (1:Int) then true else nth A7 k1 != (k1:Int))=true->false=true)/\((bif nth A1 k1 != (1:Int) then true else nth A7 k1 != (k1:Int))=false->iR ((k1:Int)+1)/\k1<own.length/\(k1:Int)+1=(↑(k1+1):Int)/\(r:Int)=(r:Int)/\(sR eI A1)/\sR eI A7)))/\(decide ((k1:Int)<(List.length (wrgR own r):Int))=false->CO Gl 16 [] (.ret (B true))/\true=true))))))/\(decide (nth own r<(0:Int))=false->(0:Nat)<own.length/\own.length*8<=140737488355328/\own.length<=(140737488355328:Nat)/\A14/\r<own.length/\own.length=own.length/\CO Gl 17 [argS A6 fun i=>List.getD A3 i []] (.ret (.tup A16))/\CO Gl 18 [argS A6 fun i=>List.getD A3 i []] (.ret (.tup A19))/\CO Gl 19 [argS A6 fun i=>List.getD A3 i [],I 1] (.ret (.tup A20))/\own.length=own.length/\CO Gl 10 [L eI own,T.d (D.c (C.s Tag.n own.length (updF (fun i=>eI (nth own i)) r (List.map C.dem [C.v (Value.int IntKind.i64 A0)]))))] (.ret (.tup A13))/\true=true/\true=true/\true=true/\true=true/\true=true/\true=true/\true=true/\true=true/\true=true/\CO Gl 20 [L eI own,L eI own] (.ret (B true))/\true=true/\true=true/\true=true/\(List.length A7<=maxLen->true=true/\true=true/\(A17 != p.2)=false/\true=true/\true=true/\true=true/\(List.length A1<=maxLen->true=true/\true=true/\(A18 != p.2)=false/\true=true/\true=true/\true=true/\((1:Nat)<=maxLen->true=true/\true=true/\true=true/\((0:Int)<=0/\0<(↑(1:Nat):Int))/\true=true/\true=true/\true=true/\true=true/\(A4=true->false=true)/\(A4=false->A23/\∀ (k2:Nat),k2<=own.length->List.length A1<=maxLen->(decide ((k2:Int)<(List.length (wrgR own r):Int))=true->(((k2:Int)==(r:Int))=true->(0<=(k2:Int)/\(k2:Int)<A18)/\(A10 k2)/\(A10 k2)/\(eqB (nth A1 k2 != (3:Int)) false=true->0<=(k2:Int)/\(k2:Int)<A17)/\(A10 k2)/\(A10 k2)/\(A10 k2)/\((nth A1 k2 != (3:Int))=false->eqB (nth A1 k2 != (3:Int)) false=true)/\((bif nth A1 k2 != (3:Int) then true else nth A7 k2 != (k2:Int))=true->false=true)/\((bif nth A1 k2 != (3:Int) then true else nth A7 k2 != (k2:Int))=false->iR ((k2:Int)+1)/\k2<own.length/\(k2:Int)+1=(↑(k2+1):Int)/\(r:Int)=(r:Int)/\(sR eI A1)/\sR eI A7))/\(((k2:Int)==(r:Int))=false->(0<=(k2:Int)/\(k2:Int)<A18)/\(A11 k2)/\(A11 k2)/\(eqB (nth A1 k2 != (1:Int)) false=true->0<=(k2:Int)/\(k2:Int)<A17)/\(A11 k2)/\(A11 k2)/\(A11 k2)/\((nth A1 k2 != (1:Int))=false->eqB (nth A1 k2 != (1:Int)) false=true)/\((bif nth A1 k2 != (1:Int) then true else nth A7 k2 != (k2:Int))=true->false=true)/\((bif nth A1 k2 != (1:Int) then true else nth A7 k2 != (k2:Int))=false->iR ((k2:Int)+1)/\k2<own.length/\(k2:Int)+1=(↑(k2+1):Int)/\(r:Int)=(r:Int)/\(sR eI A1)/\sR eI A7)))/\(decide ((k2:Int)<(List.length (wrgR own r):Int))=false->CO Gl 16 [] (.ret (B true))/\true=true))))))))))))) Tryz.func4 (by kernel_rfl) (by kernel_rfl) ?_
 obtain ⟨a1,a2,a3,a4⟩:=h.all
 have hK:=known11 S
 have hul:=upR_len own.length
 have hwl:=wrg_len own r
 have hx0:0<=ab (nth own r):=by unfold ab;omega
 have hmx:max (nth own r) (-nth own r)=ab (nth own r):=rfl
 simp only [stdS,imp_self,implies_true,and_true,hul,hwl,maxLen_eq,rng_iff,eql2,cond_false,cond_true,h.k8,Bool.false_eq_true,false_implies,forall_const,h.k1,h.k2,h.k6,turn_f hx0,turn_t hx0]
 refine fun _ _=>⟨plan13T S p h.k3,truth14T S p t h.k4,line15T S p r h.k3 h.k5,tabO S p t own r h,fun _ k hk _=>⟨fun hd=>?_,fun hd=>?_⟩⟩
 ·have hlt:k<own.length:=by have:=of_decide_eq_true hd;omega
  exact ⟨by omega,fun _=>by omega,fun _=>⟨hK,trivial⟩,fun hc=>⟨by omega,upto_lt hk hlt (num_ofT hc),by omega,trivial⟩⟩
 ·have hn:own.all num=true:=upto_all (by have:=of_decide_eq_false hd;omega)
  have hx:=num_iff.1 (List.all_eq_true.1 hn _ (nth_mem a4))
  have hx9:ab (nth own r)<=999:=by unfold ab;omega
  have ht:=turnA_rng true hx0 hx9
  have ht0:=turnA_rng false hx0 hx9
  have q4:Int.tmod (ab (nth own r)) 10=ab (nth own r) % 10:=Int.tmod_eq_emod_of_nonneg hx0
  have q1:Int.tdiv (ab (nth own r)) 10=ab (nth own r) / 10:=Int.tdiv_eq_ediv_of_nonneg hx0
  have q2:Int.tmod (ab (nth own r) / 10) 10=ab (nth own r) / 10 % 10:=Int.tmod_eq_emod_of_nonneg (by omega)
  have q3:Int.tdiv (ab (nth own r)) 100=ab (nth own r) / 100:=Int.tdiv_eq_ediv_of_nonneg hx0
  rw [hmx,q1,q2,q3,q4]
  refine ⟨by omega,by omega,by omega,by omega,by omega,by omega,by omega,by omega,by omega,by omega,by omega,by omega,by omega,by omega,by omega,by omega,by omega,by omega,by omega,fun _=>⟨hK,trivial⟩,fun hne=>?_⟩
  have hD:=hd_of h hn hne
  refine ⟨by omega,fun hs=>?_,fun hs=>?_⟩
  ·have hF:=othF (u:=true) a4 (turn_neg hs)
   refine ⟨by omega,by omega,by omega,by omega,by omega,a4,firstO S true own r hD _ _ (sheetG true own r _ hF) sheetH,sureO S true own r hD _ _ (sheetG true own r _ hF) sheetH,wrongO S true own r hD _ _ (sheetG true own r _ hF) sheetH,errO S true own r hD _ (.of hF),sameO S own,fun _ _ _=>⟨by omega,fun k1 hk1 _=>⟨fun hd1=>?_,fun _=>⟨hK,trivial⟩⟩⟩⟩
   exact law_round own r k1 (by have:=of_decide_eq_true hd1;omega) (by omega)
  ·have hF:=othF (u:=true) a4 (turn_pos hs)
   refine ⟨by omega,by omega,by omega,by omega,a4,firstO S true own r hD _ _ (sheetG true own r _ hF) sheetH,sureO S true own r hD _ _ (sheetG true own r _ hF) sheetH,wrongO S true own r hD _ _ (sheetG true own r _ hF) sheetH,errO S true own r hD _ (.of hF),sameO S own,fun _ _ _=>⟨by omega,fun k1 hk1 _=>⟨fun hd1=>?_,fun _=>⟨hK,trivial⟩⟩⟩⟩
   exact law_round own r k1 (by have:=of_decide_eq_true hd1;omega) (by omega)
theorem law4k {Gl} (S:SP Gl) (p:Plan) (t:List Int) (r:Int) (u:Bool) (hg:(bif bif bif bif bif decide (6<(p.starts.length:Int)) then true else decide (6<(t.length:Int)) then true else !okPlan p then true else !okTruth p t then true else !inR r 0 (p.rows - 1) then true else decide (6<p.rows))=true):CO Gl 4 [tPlan p,L eI t,I r,B u] (.ret (B true)):=by
 refine fn_iq S (let A0:=(bif bif bif decide (6<(p.1.length:Int)) then true else decide (6<(t.length:Int)) then true else !okPlan p then true else !okTruth p t);let A1:=(bif bif bif bif decide (6<(p.1.length:Int)) then true else decide (6<(t.length:Int)) then true else !okPlan p then true else !okTruth p t then true else !inR r (0:Int) (p.2-(1:Int)));let A2:=(bif bif decide (6<(p.1.length:Int)) then true else decide (6<(t.length:Int)) then true else !okPlan p);let A3:=(bif decide (6<(p.1.length:Int)) then true else decide (6<(t.length:Int)));let A4:=(eqB (decide (6<(p.1.length:Int))) false=true->eqB (decide (6<(p.1.length:Int))) false=true);let A5:=(eqB A2 false=true->eqB A2 false=true);let A6:=(eqB A0 false=true->eqB A0 false=true);((.r (.ret (B (okPlan p))) (.r (.ret (B (okTruth p t))) (.r (.ret (B (inR r (0:Int) (Plan.rows p-(1:Int))))) (.val 56 true (.tt (.r (.ret (B true)) .nil)))))),(p.1.length<=maxLen->A4/\((eqB (decide (6<(p.1.length:Int))) false=true->t.length<=maxLen)->A4/\(decide (6<(p.1.length:Int))=false->eqB (decide (6<(p.1.length:Int))) false=true)/\(eqB A3 false=true->eqB A3 false=true)/\(eqB A3 false=true->CO Gl 13 [tPlan p] (.ret (B (okPlan p))))/\(eqB A3 false=true->eqB A3 false=true)/\(A3=false->eqB A3 false=true)/\A5/\A5/\(eqB A2 false=true->CO Gl 14 [tPlan p,L eI t] (.ret (B (okTruth p t))))/\A5/\(A2=false->eqB A2 false=true)/\A6/\A6/\(eqB A0 false=true->CO Gl 15 [tPlan p,I r] (.ret (B (inR r (0:Int) (Plan.rows p-(1:Int))))))/\A6/\(A0=false->eqB A0 false=true)/\(eqB A1 false=true->eqB A1 false=true)/\(eqB A1 false=true->eqB A1 false=true)/\(bif bif bif bif bif decide (6<(p.1.length:Int)) then true else decide (6<(t.length:Int)) then true else !okPlan p then true else !okTruth p t then true else !inR r (0:Int) (p.2-(1:Int)) then true else decide ((6:Int)<p.2))=true/\(A1=false->eqB A1 false=true)/\true=true/\CO Gl 16 [] (.ret (B true))/\true=true)))) Tryz.func4 (by kernel_rfl) (by kernel_rfl) ?_
 dsimp only
 intro hm
 refine ⟨fun h=>h,fun _=>?_⟩
 have hK:=known11 S
 have hline:eqB (bif bif bif decide ((6:Int)<(p.starts.length:Int)) then true else decide ((6:Int)<(t.length:Int)) then true else !okPlan p then true else !okTruth p t) false=true->CO Gl 15 [tPlan p,I r] (.ret (B (inR r 0 (p.rows - 1)))):=fun h=>line15 S p r (by
  cases hp:okPlan p with
  |true=>rfl
  |false=>
   rw [hp,eqB_false] at h
   simp at h)
 repeat' first
  |with_reducible exact fun h=>h
  |with_reducible exact hK
  |with_reducible exact hg
  |with_reducible exact fun _=>plan13 S p
  |with_reducible exact fun _=>truth14 S p t
  |with_reducible exact hline
  |with_reducible rfl
  |(intro h;rw [eqB_false,h];rfl)
  |with_reducible apply And.intro
theorem law4 {Gl} (S:SP Gl) (p:Plan) (t:List Int) (row:Int) (u:Bool):CO Gl 4 [tPlan p,L eI t,I row,B u] (.ret (B true)):=by
 cases hg:(bif bif bif bif bif decide (6<(p.starts.length:Int)) then true else decide (6<(t.length:Int)) then true else !okPlan p then true else !okTruth p t then true else !inR row 0 (p.rows - 1) then true else decide (6<p.rows)) with
 |true=>exact law4k S p t row u hg
 |false=>
  simp only [bif_or,Bool.or_eq_false_iff,Bool.not_eq_false'] at hg
  obtain ⟨⟨⟨⟨⟨g1,g2⟩,g3⟩,g4⟩,g5⟩,g6⟩:=hg
  have h5:=inR_iff.1 g5
  have h1:=plan_len g3
  obtain ⟨r,rfl⟩:∃ r:Nat,row=r:=⟨row.toNat,by omega⟩
  have hk:Hk p t (tabL t p.rows.toNat) r:=⟨g1,g2,g3,g4,g5,g6,rfl,by
   rw [tab_len,bne_eq_false_iff_eq]
   omega⟩
  cases u with
  |true=>exact law4t S p t _ r hk
  |false=>exact law4f S p t _ r hk
end Go.Vc.Zn
set_option maxRecDepth 100000
namespace Go.Vc.Zn
open Go Go.Proofs Go.Vc Go.Proofs.YtknoiciabjockaaGreat Go.ChangeShapes Go.WideShapes Go.ChangeAt Go.RowKit Go.Deep
theorem cell24:Tryz.prog.cellsOf 24=1:=by kernel_rfl
theorem cell26:Tryz.prog.cellsOf 26=3:=by kernel_rfl
theorem cell28:Tryz.prog.cellsOf 28=2:=by kernel_rfl
theorem plain28:Plain Tryz.prog 28:=⟨laidOut,by kernel_rfl,Nat.le_of_ble_eq_true (by kernel_rfl),by kernel_rfl,by kernel_rfl,by kernel_rfl⟩
theorem flatSpan:FlatT Tryz.prog 28 fun xs=>∃ s:Span,xs=eSpan s:=
 .struct Tryz.underlying28 (.cons (o':=1) rfl (by rw [cell3]) flatI (.cons (o':=2) (g:=fun xs=>∃ n,xs=[Ci n]) rfl (by rw [cell3]) flatI .none (fun _ _ ⟨n,_,h⟩ h2=>⟨n,by rw [h,h2];rfl⟩)) (fun _ _ ⟨n,_,h⟩ ⟨m,h2⟩=>⟨⟨n,m⟩,by rw [h,h2];rfl⟩)) (by
  show Tryz.prog.cellsOf 28=Tryz.prog.cellsOf 3+(Tryz.prog.cellsOf 3+0)
  rw [cell28,cell3])
section
variable {W:World} {b0:Nat} {v:Value}
theorem row3 {t u0 u1 u2:TypeId} {fs:Array Field} (hu:Tryz.prog.underlying t=some (.struct fs)) (hc:Tryz.prog.cellsOf t=3) (hts:Tryz.prog.cellTypes Tryz.prog.depth t=some [u0,u1,u2]) (h:Value.okWide Tryz.prog W .any b0 t v):
  ∃ v0 v1 v2,v=.agg #[v0,v1,v2]:=by
 unfold Value.okWide at h
 rw [hu] at h
 simp only at h
 obtain ⟨cs,rfl,hsz,ts,hts',_,hall⟩:=h
 rw [hc] at hsz
 obtain ⟨l⟩:=cs
 match l,hsz with
 | [v0,v1,v2],_=>exact ⟨v0,v1,v2,rfl⟩
theorem argSpans:ArgC Tryz.prog W 24 v fun c=>∃ n f,n<=maxLen/\(∀ i,i<n->∃ k:Span,f i=eSpan k)/\c=.s .n n f:=.slice0 Tryz.underlying24 flatSpan (by rw [cell28];decide) plain28
theorem argPlan (h:Value.okWide Tryz.prog W .any b0 26 v):ArgT Tryz.prog W 26 v fun x=>∃ p:Plan,x=tPlan p:=by
 obtain ⟨v0,v1,v2,rfl⟩:=row3 (u0:=24) (u1:=3) (u2:=3) Tryz.underlying26 cell26 (by kernel_rfl) h
 refine (ArgT.struct3 Tryz.underlying26 cell26 rfl rfl rfl cell24 cell3 cell3 argSpans (ArgC.int Tryz.underlying3) (ArgC.int Tryz.underlying3)).weak ?_
 rintro x ⟨_,_,_,⟨n,f,_,hf,rfl⟩,⟨m,_,rfl⟩,⟨k,_,rfl⟩,rfl⟩
 obtain ⟨l,e⟩:=list_of hf
 refine ⟨tPlan ⟨l,m,k⟩,⟨_,rfl⟩,fun p hp=>?_⟩
 change p∈[SEq n f l.length fun i=>eSpan (nth l i),m=m,k=k] at hp
 simp only [List.mem_cons,List.not_mem_nil,or_false] at hp
 rcases hp with rfl|rfl|rfl
 ·exact e
 all_goals trivial
end
end Go.Vc.Zn
