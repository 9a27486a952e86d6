/- A part of the proofs over the layers: the program and the specification; no condition. -/
import Derived.Test.YtknoiciabjockaaGreatBD
import Derived.RangeFuncBox
set_option linter.all false
set_option linter.unusedSimpArgs false
set_option linter.unusedVariables false
namespace Go.Vc
open Go Go.RowKit
section
variable {P:Program} {Y:TypeId->Ty} {a:Act} {w:World} {rd:Option Nat} {fu:Nat}
theorem ops_skip {ops:Array Oper} {Q:Exit->Act->World->Prop} {i:Nat} {l:List Nat} {o:Oper} {w':World} (ho:ops[i]?=some o) (hg:o.guard=none) (hdf:∀ c,o.op≠.defer c) (hr:(execOp a.eval o).run P w=.ok .skip w')
  (h:wpOpsIn (Fr rd) fu P ops Q l (a.put o.dst undef) w'):wpOpsIn (Fr rd) fu P ops Q (i::l) a w:=by
 unfold wpOpsIn
 rw [ho]
 dsimp only
 rw [if_pos (by simp [Region.wanted,hg])]
 refine ⟨fun _ _=>trivial,?_⟩
 rw [Oper.semAt_eq _ _ _ hdf,hr]
 exact h
theorem ops_yield {ops:Array Oper} {Q:Exit->Act->World->Prop} {i:Nat} {l:List Nat} {o:Oper} {fo:Operand} {args:Array Operand} {tys:Array TypeId} {n:Nat} {R:Ending->World->Prop} (ho:ops[i]?=some o) (hg:o.guard=none) (hop:o.op=.call { callee:=.value fo,args:=args,argTypes:=tys })
  (hf:a.eval fo=.func (.yield n) #[] #[]) (hc:YieldC P n (args.map a.eval) w R) (h:∀ en w',R en w'->∃ v,en=.returned v/\wpOpsIn (Fr rd) fu P ops Q l (a.put o.dst v) w'):wpOpsIn (Fr rd) fu P ops Q (i::l) a w:=by
 unfold wpOpsIn
 rw [ho]
 dsimp only
 rw [if_pos (by simp [Region.wanted,hg])]
 obtain ⟨fn,tmps,assign,body,hrun,hround⟩:=hc
 have hexec:(execOp a.eval o).run P w=.ok (.round n fn tmps assign body) w:=by
  simp [execOp,hop,resolve,hf,Deferred.ofValue,invoke,hrun]
 refine ⟨fun _ _=>trivial,?_⟩
 rw [Oper.semAt_eq _ _ _ (nodefer hop),hexec,Oper.uponIn_round]
 refine ⟨fun h=>by simp [Fence.wide] at h,?_⟩
 refine (roundIn_fr hround).mono fun en w' hR=>?_
 obtain ⟨v,rfl,h⟩:=h en w' hR
 exact h
theorem keepV_new {vis:Nat->Nat} {w w':World} {r:Nat} (hr:vis r=0) (h:∀ b,b≠r->b<w.heap.size->w'.heap[b]?=w.heap[b]?) (hf:∀ b,w.heap.size<=b->vis b=0) (hn:∀ cs t z,w.heap[r]?≠some (.cells cs t z)):KeepV vis w w':=by
 have key:∀ b,0<vis b->w'.heap[b]?=w.heap[b]?:=fun b hb=>h b (fun hh=>by subst hh;omega) (by
  rcases Nat.lt_or_ge b w.heap.size with h1|h1
  ·exact h1
  ·have:=hf b h1;omega)
 exact ⟨fun b i hi=>World.cell?_of_block (key b (by omega)),fun b hb es c he=>by rw [key b hb];exact he,fun b cs t z hc=>⟨cs,t,z,by
  rw [h b (fun hh=>hn cs t z (by rw [<-hh];exact hc)) (Array.getElem?_eq_some_iff.1 hc).1];exact hc,Nat.le_refl _⟩⟩
end
end Go.Vc
namespace Go.Vc.Zn
open Go Go.Proofs Go.Vc Go.RowKit Go.ChangeMaps
noncomputable def itB:Code:=match Tryz.f318.body with|some c=>c|none=>.skip
noncomputable def itOps:Nat->Array Oper
 |0=>match itB with| .seq (.region _ o _) _=>o|_=>#[]
 |1=>match itB with| .seq _ (.block _ (.loop (.seq (.region _ o _) _)))=>o|_=>#[]
 |2=>match itB with| .seq _ (.block _ (.loop (.seq _ (.seq _ (.block _ (.seq (.region _ o _) _))))))=>o|_=>#[]
 |_=>match itB with| .seq _ (.block _ (.loop (.seq _ (.seq _ (.block _ (.seq _ (.seq (.region _ o _) _)))))))=>o|_=>#[]
theorem itB_eq:itB=.seq (.region 0 (itOps 0) false) (.block 0 (.loop (.seq (.region 1 (itOps 1) false) (.seq (.cond (.tmp 7) .skip (.exit 0)) (.block 1 (.seq (.region 2 (itOps 2) false) (.seq (.region 3 (itOps 3) false) (.cond (.tmp 13) .ret .skip)))))))):=by kernel_rfl
theorem itBody:Tryz.f318.body=some itB:=by kernel_rfl
noncomputable def itOp (r i:Nat):Oper:=((itOps r)[i]?).getD default
theorem itOp00:(itOps 0)[0]?=some (itOp 0 0)/\(itOp 0 0).guard=none/\(itOp 0 0).op=.load 138 (.tmp 1)/\(itOp 0 0).dst=some 4:=⟨by kernel_rfl,by kernel_rfl,by kernel_rfl,by kernel_rfl⟩
theorem itOp01:(itOps 0)[1]?=some (itOp 0 1)/\(itOp 0 1).guard=none/\(itOp 0 1).op=.range 138 (.tmp 4)/\(itOp 0 1).dst=some 5:=⟨by kernel_rfl,by kernel_rfl,by kernel_rfl,by kernel_rfl⟩
theorem itOp10:(itOps 1)[0]?=some (itOp 1 0)/\(itOp 1 0).guard=none/\(itOp 1 0).op=.next (.tmp 5) false/\(itOp 1 0).dst=some 6:=⟨by kernel_rfl,by kernel_rfl,by kernel_rfl,by kernel_rfl⟩
theorem itOp11:(itOps 1)[1]?=some (itOp 1 1)/\(itOp 1 1).guard=none/\(itOp 1 1).op=.extract (.tmp 6) 0/\(itOp 1 1).dst=some 7:=⟨by kernel_rfl,by kernel_rfl,by kernel_rfl,by kernel_rfl⟩
theorem itOp20:(itOps 2)[0]?=some (itOp 2 0)/\(itOp 2 0).guard=none/\(itOp 2 0).op=.entry (.tmp 5)/\(itOp 2 0).dst=some 8:=⟨by kernel_rfl,by kernel_rfl,by kernel_rfl,by kernel_rfl⟩
theorem itOp21:(itOps 2)[1]?=some (itOp 2 1)/\(itOp 2 1).guard=none/\(itOp 2 1).op=.extract (.tmp 8) 0/\(itOp 2 1).dst=some 9:=⟨by kernel_rfl,by kernel_rfl,by kernel_rfl,by kernel_rfl⟩
theorem itOp22:(itOps 2)[2]?=some (itOp 2 2)/\(itOp 2 2).guard=none/\(itOp 2 2).op=.alloc 257/\(itOp 2 2).dst=some 3:=⟨by kernel_rfl,by kernel_rfl,by kernel_rfl,by kernel_rfl⟩
theorem itOp23:(itOps 2)[3]?=some (itOp 2 3)/\(itOp 2 3).guard=none/\(itOp 2 3).op=.store 257 (.tmp 3) (.tmp 9)/\(itOp 2 3).dst=none:=⟨by kernel_rfl,by kernel_rfl,by kernel_rfl,by kernel_rfl⟩
theorem itOp30:(itOps 3)[0]?=some (itOp 3 0)/\(itOp 3 0).guard=none/\(itOp 3 0).op=.move (.tmp 0)/\(itOp 3 0).dst=some 10:=⟨by kernel_rfl,by kernel_rfl,by kernel_rfl,by kernel_rfl⟩
theorem itOp31:(itOps 3)[1]?=some (itOp 3 1)/\(itOp 3 1).guard=none/\(itOp 3 1).op=.load 257 (.tmp 3)/\(itOp 3 1).dst=some 11:=⟨by kernel_rfl,by kernel_rfl,by kernel_rfl,by kernel_rfl⟩
theorem itOp32:(itOps 3)[2]?=some (itOp 3 2)/\(itOp 3 2).guard=none/\(itOp 3 2).op=.call { callee:=.value (.tmp 10),args:=#[.tmp 11],argTypes:=#[257] }/\(itOp 3 2).dst=some 12:=⟨by kernel_rfl,by kernel_rfl,by kernel_rfl,by kernel_rfl⟩
theorem itOp33:(itOps 3)[3]?=some (itOp 3 3)/\(itOp 3 3).guard=none/\(itOp 3 3).op=.unOp .not 4 (.tmp 12)/\(itOp 3 3).dst=some 13:=⟨by kernel_rfl,by kernel_rfl,by kernel_rfl,by kernel_rfl⟩
theorem itR0:List.range (itOps 0).size=[0,1]:=by kernel_rfl
theorem itR1:List.range (itOps 1).size=[0,1]:=by kernel_rfl
theorem itR2:List.range (itOps 2).size=[0,1,2,3]:=by kernel_rfl
theorem itR3:List.range (itOps 3).size=[0,1,2,3]:=by kernel_rfl
theorem a101:(Y 138).agg=some false:=by kernel_rfl
theorem a150:(Y 257).agg=some true:=by kernel_rfl
theorem kn150:(Y 257).known=true:=by kernel_rfl
theorem kn101:(Y 138).known=true:=by kernel_rfl
theorem s150:(Y 257).size=2:=by kernel_rfl
theorem z150:(Y 257).zero.toArray=#[.int .i64 0,.int .i64 0]:=by kernel_rfl
theorem k101:(Y 138).kind=.map 257 4:=by kernel_rfl
theorem und101:∃ kt et,Tryz.prog.underlying 138=some (.map kt et):=by
 have hk:=k101
 obtain ⟨d,i,z,h1,_,_,_,_,_,h7,_⟩:=yok 138 kn101
 rw [hk] at h7
 simp only [KOK] at h7
 subst h7
 exact ⟨_,_,h1⟩
def keyVal (k:List Int):Value:=.agg (k.map (Value.int .i64)).toArray
def keyEl (k:List Int):List T:=[.d (.agg [Ci (nth k 0),Ci (nth k 1)])]
theorem key_two {v:Value} {k:List Int} (h:keyV 2 v=some k):v=keyVal k/\k.length=2:=by
 refine ⟨keyV_val h,?_⟩
 unfold keyV at h
 split at h
 ·rename_i h2
  cases h2
 ·rename_i n cs h2
  split at h
  ·obtain ⟨hl,h⟩:=option_bif h
   have hl:=Nat.eq_of_beq_eq_true hl
   obtain rfl:=Option.some.inj h
   omega
  ·cases h
 ·cases h
theorem left_mem {es:Array MapEntry} {seen:Array Nat} {e:MapEntry}:e∈(leftOf es seen).toList↔e∈es.toList/\seen.contains e.born=false:=by
 unfold leftOf
 simp
theorem iters151 {Gl:World->Prop} (dom:List Int->Bool) (val:List Int->List C):Iters Tryz.prog Gl 318 [] [.d (.c (.p [.m 2 false dom val]))] dom keyEl:=by
 refine ⟨⟨Tryz.f318,by kernel_rfl,by kernel_rfl,by kernel_rfl⟩,fun l J vis W vs hst hgl hround hfr hJ0 hargs=>?_⟩
 have hvs:∃ bx off u mb es cl,vs=#[.func (.yield l) #[] #[],.pointer (some ⟨bx,off,none⟩)]/\off+1<=vis bx/\W.cell? ⟨bx,off,none⟩=some u/\u=.map (some mb)/\0<vis mb/\W.heap[mb]?=some (.map es cl)/\KeysR 2 es cl dom:=by
  simp only [List.nil_append,RelTs] at hargs
  obtain ⟨v1,us1,hv1,h1,v2,us2,rfl,h2,rfl⟩:=hargs
  simp only [RelT] at h1 h2
  have h2:Rep vis W (.p [.m 2 false dom val]) v2:=h2
  cases h2 with
  |p _ b off u hv hu hr=>
   have hu0:=hu 0 _ rfl
   have hr0:=hr 0 _ rfl
   generalize hq:u 0=q at hu0 hr0
   cases hr0 with
   |m _ _ _ _ mb es cl g1 g2 g3 g4 g5=>
    refine ⟨b,off,_,mb,es,cl,?_,hv,by rw [Nat.add_zero] at hu0;exact hu0,rfl,g1,g2,g3⟩
    apply Array.ext'
    rw [hv1,h1]
 obtain ⟨bx,off,u,mb,es,cl,rfl,hbx,hcell,rfl,hmv,hmap,hkeys⟩:=hvs
 have hkeys':=hkeys
 obtain ⟨hk1,hk2,hk3,hst1,hst2⟩:=hkeys'
 obtain ⟨kt,et,hund⟩:=und101
 have hmlt:mb<W.heap.size:=(Array.getElem?_eq_some_iff.1 hmap).1
 refine calls_of_fr (n:=0) (callsIn_of_wp (fn:=Tryz.f318) (by kernel_rfl) itBody trivial ?_)
 have S0:SL { tmps:=#[Value.func (.yield l) #[] #[],.pointer (some ⟨bx,off,none⟩)]++Array.replicate (14 - 2) undef,defers:=[] } 14 (fun t=>#[Value.func (.yield l) #[] #[],.pointer (some ⟨bx,off,none⟩)].getD t undef) []:=SL.start _ 14 (Nat.le_of_ble_eq_true rfl)
 have hnt:Tryz.f318.ntmps=14:=by kernel_rfl
 rw [hnt]
 show itB.wpIn (Fr none) 0 Tryz.prog _ { tmps:=#[Value.func (.yield l) #[] #[],.pointer (some ⟨bx,off,none⟩)]++Array.replicate (14 - 2) undef,defers:=[] } W
 generalize ({ tmps:=#[Value.func (.yield l) #[] #[],.pointer (some ⟨bx,off,none⟩)]++Array.replicate (14 - 2) undef,defers:=[] }:Act)=a at S0 ⊢
 rw [itB_eq]
 refine wpIn_seq (wpIn_region ?_)
 rw [itR0]
 obtain ⟨o1,o2,o3,o4⟩:=itOp00
 refine ops_val o1 o2 (by rw [o3];intro c hc;cases hc) (raw_load1 yok (b:=bx) (k:=off) (u:=.map (some mb)) o3 a101 (by rw [S0.eval (by decide)];rfl) hcell) ?_
 rw [o4]
 have S1:=S0.put (d:=4) (by decide) (.map (some mb))
 obtain ⟨o1,o2,o3,o4⟩:=itOp01
 refine ops_val o1 o2 (by rw [o3];intro c hc;cases hc) (v:=.pointer (some ⟨W.heap.size,0,none⟩)) (w':=W.alloc (.mapIter (some mb) cl #[] cl)) (by
  simp [execOp,o3,S1.eval,upd,run_range_map W 138 kt et mb es cl hund hmap]) ?_
 rw [o4]
 have S2:=S1.put (d:=5) (by decide) (.pointer (some ⟨W.heap.size,0,none⟩))
 generalize hr:W.heap.size=r at *
 generalize Act.put (Act.put a (some 4) (.map (some mb))) (some 5) (.pointer (some ⟨r,0,none⟩))=a2 at S2 ⊢
 have hvr:vis r=0:=hfr r (Nat.le_refl _)
 -- the loop
 obtain ⟨Inv,hInv⟩:∃ Inv:Act->World->Prop,Inv=fun a w=>∃ (f:Nat->Value) (h:List (List Int)) (H:Nat->Prop) (seen:Array Nat) (c0:Nat),SL a 14 f []/\f 0=.func (.yield l) #[] #[]/\f 5=.pointer (some ⟨r,0,none⟩)/\w.heap[mb]?=some (.map es cl)/\w.heap[r]?=some (.mapIter (some mb) cl seen c0)/\cl<=c0/\
   J h H vis w/\(∀ b,H b->b<w.heap.size)/\¬ H r/\(∀ b,w.heap.size<=b->vis b=0)/\(∀ x∈h,dom x=true)/\h.Nodup/\(∀ e∈es.toList,∀ k,keyV 2 e.key=some k->(seen.contains e.born=true↔k∈h)):=⟨_,rfl⟩
 show (Code.block 0 _).wpIn (Fr none) 0 Tryz.prog _ a2 _
 refine wpIn_block (wpIn_loop Inv (fun _ w=>match w.heap[r]? with|some (.mapIter _ _ seen _)=>(leftOf es seen).size|_=>0) ?_ fun a w hI=>?_)
 ·rw [hInv]
  have h1:(W.alloc (.mapIter (some mb) cl #[] cl)).heap[r]?=some (.mapIter (some mb) cl #[] cl):=by rw [<-hr];exact World.alloc_heap_new W _
  have hlt:∀ b,b<r->(W.alloc (.mapIter (some mb) cl #[] cl)).heap[b]?=W.heap[b]?:=fun b hb=>heap_alloc_lt _ _ (by rw [hr];exact hb)
  have hsz:(W.alloc (.mapIter (some mb) cl #[] cl)).heap.size=r+1:=by rw [World.size_alloc,hr]
  refine ⟨_,[],fun b=>b<r,#[],cl,S2,by simp [upd],by simp [upd],by rw [hlt mb (by omega)];exact hmap,h1,Nat.le_refl _,?_,fun b hb=>by omega,Nat.lt_irrefl r,fun b hb=>hfr b (by omega),fun x hx=>(by cases hx),List.nodup_nil,fun e he k hk=>by simp⟩
  exact (hst []).1 0 _ _ _ _ hJ0 (fun b hb=>hlt b hb) (keepV_new hvr (fun b _ hb=>hlt b (by omega)) (by rw [hr];exact hfr) (fun cs t z h=>by have:=(Array.getElem?_eq_some_iff.1 h).1;omega)) (same_alloc _ _)
 ·rw [hInv] at hI
  obtain ⟨f,h,H,seen,c0,Sl,hf0,hf5,hmw,hrw',hcc,hJ,hHlt,hHr,hfrw,hdom,hnd,hseen⟩:=hI
  have hrlt:r<w.heap.size:=(Array.getElem?_eq_some_iff.1 hrw').1
  refine wpIn_seq (wpIn_region ?_)
  rw [itR1]
  obtain ⟨o1,o2,o3,o4⟩:=itOp10
  rcases run_next_at (P:=Tryz.prog) w (itOp 1 0).type r mb cl c0 seen es cl hrw' hmw hst1 hcc with ⟨h0,hrun⟩|⟨e,he,w1,hal,hrun⟩
  ·refine ops_val o1 o2 (by rw [o3];intro c hc;cases hc) (v:=.tuple #[.bool false]) (w':=w) (by simp [execOp,o3,Sl.eval,hf5,hrun]) ?_
   rw [o4]
   have Sa:=Sl.put (d:=6) (by decide) (.tuple #[.bool false])
   obtain ⟨o1,o2,o3,o4⟩:=itOp11
   refine ops_val o1 o2 (by rw [o3];intro c hc;cases hc) (v:=.bool false) (w':=w) (by simp [execOp,o3,Sa.eval,upd,Instr.extract]) ?_
   rw [o4]
   have Sb:=Sa.put (d:=7) (by decide) (.bool false)
   refine wpIn_seq (wpIn_cond_false (by rw [Sb.eval (by decide)];simp [upd]) (wpIn_exit ?_))
   refine ⟨Sb.defers,.tuple #[],by simp [results,Tryz.results318],⟨_,rfl⟩,h,H,vis,⟨hnd,fun k=>⟨hdom k,fun hk=>?_⟩⟩,hJ⟩
   obtain ⟨i,e,hei,hek⟩:=hk2 k hk
   have hem:e∈es.toList:=List.mem_of_getElem? (by rw [Array.getElem?_toList];exact hei)
   refine (hseen e hem k hek).1 ?_
   cases hc:seen.contains e.born with
   |true=>rfl
   |false=>
    have:=(left_mem (seen:=seen)).2 ⟨hem,hc⟩
    rw [Array.eq_empty_of_size_eq_zero h0] at this
    cases this
  ·obtain ⟨hem,hens⟩:=left_mem.1 he
   obtain ⟨ei,hei,hei2⟩:=List.mem_iff_getElem.1 hem
   have hei3:es[ei]?=some e:=by rw [<-Array.getElem?_toList,<-hei2];exact List.getElem?_eq_getElem hei
   obtain ⟨k,hek,hdk⟩:=hk1 ei e hei3
   obtain ⟨hkv,hk2l⟩:=key_two hek
   have hkn:k ∉ h:=fun hh=>by
    have:=(hseen e hem k hek).2 hh
    rw [hens] at this;cases this
   have hw1:w1.heap=w.heap/\w1.os=w.os/\w1.tape=w.tape/\w1.output=w.output:=by
    rcases hal with rfl|rfl
    ·exact ⟨rfl,rfl,rfl,rfl⟩
    ·exact ⟨rfl,rfl,rfl,rfl⟩
   refine ops_val o1 o2 (by rw [o3];intro c hc;cases hc) (v:=.tuple #[.bool true,e.key,e.val]) (w':=setBlock w1 r (.mapIter (some mb) cl (seen.push e.born) cl)) (by simp [execOp,o3,Sl.eval,hf5,hrun]) ?_
   rw [o4]
   generalize hw2:setBlock w1 r (.mapIter (some mb) cl (seen.push e.born) cl)=w2
   have g1:w2.heap[r]?=some (.mapIter (some mb) cl (seen.push e.born) cl):=by
    rw [<-hw2];unfold setBlock;simp [hw1.1,hrlt]
   have g2:∀ b,b≠r->w2.heap[b]?=w.heap[b]?:=fun b hb=>by
    rw [<-hw2];unfold setBlock
    simp only [hw1.1]
    rw [Array.getElem?_setIfInBounds,if_neg (fun hh=>hb hh.symm)]
   have g3:w2.heap.size=w.heap.size:=by rw [<-hw2];unfold setBlock;simp [hw1.1]
   have g4:Same w w2:=by rw [<-hw2];exact ⟨hw1.2.1,hw1.2.2.1,hw1.2.2.2,by unfold setBlock;simp [hw1.1]⟩
   have gk:KeepV vis w w2:=keepV_new hvr (fun b hb _=>g2 b hb) hfrw (fun cs t z h=>by rw [hrw'] at h;cases h)
   have hmr:mb≠r:=by omega
   have Sa:=Sl.put (d:=6) (by decide) (.tuple #[.bool true,e.key,e.val])
   obtain ⟨o1,o2,o3,o4⟩:=itOp11
   refine ops_val o1 o2 (by rw [o3];intro c hc;cases hc) (v:=.bool true) (w':=w2) (by simp [execOp,o3,Sa.eval,upd,Instr.extract]) ?_
   rw [o4]
   have Sb:=Sa.put (d:=7) (by decide) (.bool true)
   refine wpIn_seq (wpIn_cond_true (by rw [Sb.eval (by decide)];simp [upd]) (wpIn_skip ?_))
   show (Code.block 1 _).wpIn (Fr none) 0 Tryz.prog _ _ w2
   refine wpIn_block (wpIn_seq (wpIn_region ?_))
   rw [itR2]
   obtain ⟨o1,o2,o3,o4⟩:=itOp20
   refine ops_val o1 o2 (by rw [o3];intro c hc;cases hc) (v:=.tuple #[e.key,e.val]) (w':=w2) (by
    simp [execOp,o3,Sb.eval,upd,hf5,run_entry_at w2 r mb cl seen es cl e g1 (by rw [g2 mb hmr];exact hmw) hem hst2]) ?_
   rw [o4]
   have Sc:=Sb.put (d:=8) (by decide) (.tuple #[e.key,e.val])
   obtain ⟨o1,o2,o3,o4⟩:=itOp21
   refine ops_val o1 o2 (by rw [o3];intro c hc;cases hc) (v:=e.key) (w':=w2) (by simp [execOp,o3,Sc.eval,upd,Instr.extract]) ?_
   rw [o4]
   have Sd:=Sc.put (d:=9) (by decide) e.key
   obtain ⟨o1,o2,o3,o4⟩:=itOp22
   have hal2:=raw_alloc (P:=Tryz.prog) (Y:=Y) (a:=Act.put (Act.put (Act.put (Act.put a (some 6) (.tuple #[.bool true,e.key,e.val])) (some 7) (.bool true)) (some 8) (.tuple #[e.key,e.val])) (some 9) e.key) (w:=w2) yok o3 kn150
   rw [z150] at hal2
   refine ops_val o1 o2 (by rw [o3];intro c hc;cases hc) hal2 ?_
   rw [o4]
   have Se:=Sd.put (d:=3) (by decide) (.pointer (some ⟨w2.heap.size,0,none⟩))
   generalize hw3:w2.alloc (.cells #[.int .i64 0,.int .i64 0] 257)=w3
   have e1:w3.heap[w2.heap.size]?=some (.cells #[.int .i64 0,.int .i64 0] 257 (0,0)):=by rw [<-hw3];exact World.alloc_heap_new w2 _
   have e2:∀ b,b<w2.heap.size->w3.heap[b]?=w2.heap[b]?:=fun b hb=>by rw [<-hw3];exact heap_alloc_lt _ _ hb
   have e3:Same w2 w3:=by rw [<-hw3];exact same_alloc _ _
   have e4:w3.heap.size=w2.heap.size+1:=by rw [<-hw3];simp
   obtain ⟨o1,o2,o3,o4⟩:=itOp23
   obtain ⟨x,y,hxy⟩:∃ x y,k=[x,y]:=by
    match k,hk2l with
    | [x,y],_=>exact ⟨x,y,rfl⟩
   have hcs:e.key.cells=#[.int .i64 x,.int .i64 y]:=by rw [hkv,hxy];rfl
   obtain ⟨r1,r2,r3,r4⟩:=raw_store (P:=Tryz.prog) (Y:=Y) (a:=Act.put (Act.put (Act.put (Act.put (Act.put a (some 6) (.tuple #[.bool true,e.key,e.val])) (some 7) (.bool true)) (some 8) (.tuple #[e.key,e.val])) (some 9) e.key) (some 3) (.pointer (some ⟨w2.heap.size,0,none⟩))) (w:=w3) (v:=e.key) (b:=w2.heap.size) yok o3 kn150
    (by rw [Se.eval (by decide)];simp [upd]) (by rw [Se.eval (by decide)];simp [upd]) (by rw [s150,hcs];rfl) (by rw [s150];rfl) (by rw [hcs];simp [Value.oneCell']) e1
   refine ops_skip o1 o2 (by rw [o3];intro c hc;cases hc) r1 ?_
   rw [o4]
   generalize w3.setRow w2.heap.size e.key.cells=w4 at r2 r3 r4 ⊢
   have hput:∀ (b:Act),b.put none undef=b:=fun b=>rfl
   rw [hput]
   show (Code.seq (.region 3 (itOps 3) false) _).wpIn (Fr none) 0 Tryz.prog _ _ w4
   refine wpIn_seq (wpIn_region ?_)
   rw [itR3]
   obtain ⟨o1,o2,o3,o4⟩:=itOp30
   refine ops_val o1 o2 (by rw [o3];intro c hc;cases hc) (v:=.func (.yield l) #[] #[]) (w':=w4) (by simp [execOp,o3,Se.eval,upd,hf0]) ?_
   rw [o4]
   have Sf:=Se.put (d:=10) (by decide) (.func (.yield l) #[] #[])
   obtain ⟨o1,o2,o3,o4⟩:=itOp31
   refine ops_val o1 o2 (by rw [o3];intro c hc;cases hc) (raw_load (cur:=e.key.cells) (ct:=257) (fr:=(0,0)) yok (b:=w2.heap.size) o3 a150 (by rw [Sf.eval (by decide)];simp [upd]) (by rw [s150,hcs];rfl) r2) ?_
   rw [o4]
   have Sg:=Sf.put (d:=11) (by decide) (.agg e.key.cells)
   -- the state before the call
   have f1:∀ b,b<w.heap.size->b≠r->w4.heap[b]?=w.heap[b]?:=fun b hb hne=>by rw [r4 b (by omega),e2 b (by omega),g2 b hne]
   have f2:w4.heap[r]?=some (.mapIter (some mb) cl (seen.push e.born) cl):=by rw [r4 r (by omega),e2 r (by omega)];exact g1
   have f3:Same w w4:=(g4.trans e3).trans r3
   have f4:=f3.size
   have fs:w2.heap.size<=w4.heap.size:=(e3.trans r3).size
   have hfr4:∀ b,w4.heap.size<=b->vis b=0:=fun b hb=>hfrw b (by omega)
   have fk:KeepV vis w w4:=keepV_new hvr (fun b hne hb=>f1 b hb hne) hfrw (fun cs t z h=>by rw [hrw'] at h;cases h)
   have hJ4:J h H vis w4:=(hst h).1 0 _ _ _ _ hJ (fun b hb=>f1 b (hHlt b hb) (fun hh=>hHr (by rw [<-hh];exact hb))) fk f3
   have hnew:NewKey dom h k:=⟨hdom,hnd,hdk,hkn⟩
   have hrel:RelTs (Gh0 vis) w4 (fun _=>False) (keyEl k) (#[Value.agg e.key.cells]:Array Value).toList:=by
    simp only [keyEl,RelTs,RelT]
    refine ⟨_,[],rfl,⟨_,rfl,?_⟩,rfl⟩
    rw [hcs,hxy]
    refine ⟨rfl,fun j c u hc hu=>?_⟩
    match j,hc,hu with
    |0,hc,hu=>simp at hc hu;subst hc;subst hu;exact .v _ rfl
    |1,hc,hu=>simp at hc hu;subst hc;subst hu;exact .v _ rfl
    |j+2,hc,hu=>simp at hc
   obtain ⟨o1,o2,o3,o4⟩:=itOp32
   refine ops_yield o1 o2 o3 (n:=l) (by rw [Sg.eval (by decide)];simp [upd]) (R:=fun en w'=>en=.returned (.bool true)/\J (h++[k]) (plusNew H w4 w') vis w'/\(∀ b,b<w4.heap.size->¬ H b->w'.heap[b]?=w4.heap[b]?)/\KeepV vis w4 w'/\Same w4 w') ?_ ?_
   ·have he:#[Operand.tmp 11].map (Act.eval (Act.put (Act.put (Act.put (Act.put (Act.put (Act.put (Act.put a (some 6) (.tuple #[.bool true,e.key,e.val])) (some 7) (.bool true)) (some 8) (.tuple #[e.key,e.val])) (some 9) e.key) (some 3) (.pointer (some ⟨w2.heap.size,0,none⟩))) (some 10) (.func (.yield l) #[] #[])) (some 11) (.agg e.key.cells)))=#[.agg e.key.cells]:=by
     simp [Sg.eval,upd]
    rw [he]
    exact hround h k H vis w4 #[.agg e.key.cells] hnew hJ4 (fun b hb=>by have:=hHlt b hb;omega) hfr4 hrel
   ·rintro en w5 ⟨rfl,y2,y3,y4,y5⟩
    refine ⟨_,rfl,?_⟩
    rw [o4]
    have Sh:=Sg.put (d:=12) (by decide) (.bool true)
    obtain ⟨o1,o2,o3,o4⟩:=itOp33
    refine ops_val o1 o2 (by rw [o3];intro c hc;cases hc) (v:=.bool false) (w':=w5) (by simp [execOp,o3,Sh.eval,upd,Op.unary]) ?_
    rw [o4]
    have Si:=Sh.put (d:=13) (by decide) (.bool false)
    refine wpIn_cond_false (by rw [Si.eval (by decide)];simp [upd]) (wpIn_skip ?_)
    have ysz:=y5.size
    have q1:w5.heap[r]?=some (.mapIter (some mb) cl (seen.push e.born) cl):=by rw [y3 r (by omega) hHr];exact f2
    have q2:w5.heap[mb]?=some (.map es cl):=y4.map mb hmv es cl (by rw [f1 mb (by omega) hmr];exact hmw)
    show Inv _ w5/\_
    rw [hInv]
    refine ⟨⟨_,h++[k],plusNew H w4 w5,seen.push e.born,cl,Si,by simp [upd,hf0],by simp [upd,hf5],q2,q1,Nat.le_refl _,y2,fun b hb=>?_,fun hh=>?_,fun b hb=>hfrw b (by omega),fun x hx=>?_,?_,fun e' he' k' hk'=>?_⟩,?_⟩
    ·rcases hb with h1|⟨_,h1⟩
     ·have:=hHlt b h1;omega
     ·exact h1
    ·rcases hh with h1|⟨h1,_⟩
     ·exact hHr h1
     ·omega
    ·rcases List.mem_append.1 hx with h1|h1
     ·exact hdom x h1
     ·rw [List.mem_singleton.1 h1];exact hdk
    ·rw [List.nodup_append]
     refine ⟨hnd,by simp,fun x hx y hy=>?_⟩
     rw [List.mem_singleton.1 hy]
     exact fun hh=>hkn (by rw [<-hh];exact hx)
    ·rw [List.mem_append,List.mem_singleton]
     have hsp:(seen.push e.born).contains e'.born=(seen.contains e'.born||e'.born==e.born):=by
      rw [Bool.eq_iff_iff];simp [Array.contains_push]
     rw [hsp,Bool.or_eq_true,hseen e' he' k' hk',beq_iff_eq]
     refine or_congr Iff.rfl ⟨fun hb=>?_,fun hkk=>?_⟩
     ·have:e'=e:=born_inj hst2 he' hem hb
      rw [this,hek] at hk'
      exact (Option.some.inj hk').symm
     ·obtain ⟨j,hj,hj2⟩:=List.mem_iff_getElem.1 he'
      have hj3:es[j]?=some e':=by rw [<-Array.getElem?_toList,<-hj2];exact List.getElem?_eq_getElem hj
      have hij:=hk3 j ei e' e k hj3 hei3 (by rw [hk',hkk]) hek
      subst hij
      rw [hei3] at hj3
      rw [Option.some.inj hj3]
    ·rw [q1,hrw']
     dsimp only
     exact left_shrinks es seen e he
open Go Go.Proofs Go.Vc Go.RowKit
noncomputable def valC:List Code×Code:=match Tryz.f135.body with|some c=>cutSeq 2 c|none=>([],.skip)
theorem valCB:Tryz.f135.body=some (seqs valC.1 valC.2):=by kernel_rfl
noncomputable def valR2:Code:=match valC.2 with| .seq (.seq x _) _=>x|_=>.skip
noncomputable def valAs:Code:=match valC.2 with| .seq (.seq _ (.block _ (.rangeFunc _ _ x _))) _=>x|_=>.skip
noncomputable def valBo:Code:=match valC.2 with| .seq (.seq _ (.block _ (.rangeFunc _ _ _ x))) _=>x|_=>.skip
noncomputable def valOps:Nat->Array Oper
 |0=>match valC.2 with| .seq _ (.seq (.region _ o _) _)=>o|_=>#[]
 |_=>match valC.2 with| .seq _ (.seq _ (.seq (.region _ o _) _))=>o|_=>#[]
theorem valC_eq:valC.2=.seq (seqs [valR2] (.block 0 (.rangeFunc (.tmp 9) #[10] valAs valBo))) (.seq (.region 6 (valOps 0) false) (.seq (.region 7 (valOps 1) false) .ret)):=by kernel_rfl
noncomputable def valOp (r i:Nat):Oper:=((valOps r)[i]?).getD default
theorem valOp00:(valOps 0)[0]?=some (valOp 0 0)/\(valOp 0 0).guard=none/\(valOp 0 0).op=.load 22 (.tmp 5)/\(valOp 0 0).dst=some 20:=⟨by kernel_rfl,by kernel_rfl,by kernel_rfl,by kernel_rfl⟩
theorem valOp01:(valOps 0)[1]?=some (valOp 0 1)/\(valOp 0 1).guard=none/\(valOp 0 1).op=.call { callee:=.value (.func 230),args:=#[.tmp 20],argTypes:=#[22] }/\(valOp 0 1).dst=some 21:=⟨by kernel_rfl,by kernel_rfl,by kernel_rfl,by kernel_rfl⟩
theorem valOp10:(valOps 1)[0]?=some (valOp 1 0)/\(valOp 1 0).guard=none/\(valOp 1 0).op=.load 22 (.tmp 5)/\(valOp 1 0).dst=some 22:=⟨by kernel_rfl,by kernel_rfl,by kernel_rfl,by kernel_rfl⟩
theorem valOp11:(valOps 1)[1]?=some (valOp 1 1)/\(valOp 1 1).guard=none/\(valOp 1 1).op=.assign (.tmp 22)/\(valOp 1 1).dst=some 4:=⟨by kernel_rfl,by kernel_rfl,by kernel_rfl,by kernel_rfl⟩
theorem valR0:List.range (valOps 0).size=[0,1]:=by kernel_rfl
theorem valR1:List.range (valOps 1).size=[0,1]:=by kernel_rfl
def pick (row:Int) (h:List (List Int)):List Int:=(h.filter fun k=>nth k 0==row).map fun k=>nth k 1
def mC (P:List (List Int)):C:=.m 2 false (canT P P.length) (fun key=>[Cb (canT P P.length key)])
def valE0 (s:Sheet) (P:List (List Int)) (row:Int):Env:=v 2 (ad 2)::v 3 (ad 3)::v 5 (ad 5)::(bx 2 (cBook s P)++(bx 3 [Ci row]++bx 5 [.v (.slice none 0 0)]))
def valE (row:Int) (h:List (List Int)):Env:=v 3 (ad 3)::v 5 (ad 5)::tk 100 3::(bx 3 [Ci row]++bx 5 [.lt 100 eI (pick row h)])
def valE2 (P:List (List Int)) (row:Int):Env:=v 9 (.fn 318 [] [.d (.c (.p [mC P]))])::valE row []
theorem keys129 {Gl} (S:SP Gl) (P:List (List Int)):CO Gl 236 [.d (.c (mC P))] (.ret (.fn 318 [] [.d (.c (.p [mC P]))])):=by
 refine fn_ptr S (t:=2) (id:=1) .nil Tryz.func236 (by kernel_rfl) Tryz.results236 (by decide) (by decide) (T.fn 318 [] [.addr 1 0]=T.fn 318 [] [.addr 1 0]/\live=live/\(.d (.c (mC P)):T)=.d (.c (mC P))/\True) (by kernel_rfl) ?_
 exact ⟨rfl,rfl,rfl,trivial⟩
theorem val_piece {Gl} (S:SP Gl) (s:Sheet) (P:List (List Int)) (row:Int):wp (CO Gl) (Does Tryz.prog Y Gl) Y Tryz.f135.ntmps yd0 false (seqs [valR2] .skip) (tailPost (valE2 P row)) (
  Orc.r (Res.ret (T.fn (318:FuncId) [] [T.d (D.c (C.p [mC P]))])) Orc.nil) (valE0 s P row):=by
 have hq:(
  CO Gl (236:FuncId) [T.d (D.c (mC P))] (Res.ret (T.fn (318:FuncId) [] [T.d (D.c (C.p [mC P]))]))/\
   (318:Nat)=(318:Nat)/\
    [C.m (2:Nat) false (canT P (List.length P)) fun key=>[Cb (canT P (List.length P) key)]]=
      [C.m (2:Nat) false (canT P (List.length P)) fun key=>[Cb (canT P (List.length P) key)]]/\
     row=row/\(0:Nat)=(0:Nat)
  )=wp (CO Gl) (Does Tryz.prog Y Gl) Y Tryz.f135.ntmps yd0 false (seqs [valR2] .skip) (tailPost (valE2 P row)) (
  Orc.r (Res.ret (T.fn (318:FuncId) [] [T.d (D.c (C.p [mC P]))])) Orc.nil) (valE0 s P row):=by kernel_rfl
 rw [<-hq]
 exact ⟨keys129 S P,rfl,rfl,rfl,rfl⟩
theorem valE2_le (P:List (List Int)) (row:Int):le (valE2 P row) (valE row []):=by
 have hq:(
  row=row/\SEq (List.length (pick row [])) (fun i=>eI (nth (pick row []) i)) (List.length (pick row [])) fun i=>eI (nth (pick row []) i)
  )=le (valE2 P row) (valE row []):=by kernel_rfl
 rw [<-hq]
 exact ⟨rfl,SEq_whole rfl⟩
theorem pick_snoc (row:Int) (h:List (List Int)) (k:List Int):pick row (h++[k])=pick row h++(bif nth k 0==row then [nth k 1] else []):=by
 unfold pick
 rw [List.filter_append,List.map_append]
 congr 1
 cases hb:nth k 0==row<;>simp [hb]
theorem val_round {Gl:World->Prop} (row:Int) (h:List (List Int)) (k:List Int) (hl:(pick row h).length<=1000000):rkCond (CO Gl) (Does Tryz.prog Y Gl) Y Tryz.f135.ntmps [10] valAs valBo (keyEl k) (valE row h) (valE row (h++[k])) (
  Orc.br Orc.nil Orc.nil):=by
 have hq:(
  ((nth k (0:Nat)==row)=true->
    (List.length (pick row h)+(1:Nat))*(8:Nat)<=(140737488355328:Nat)/\
     List.length (pick row h)+(1:Nat)<=(140737488355328:Nat)/\
      (0:Nat)<(1:Nat)/\
       row=row/\
        SEq (List.length (pick row h)+(1:Nat))
         (catF (List.length (pick row h)) (fun i=>eI (nth (pick row h) i)) fun i=>
          List.getD [List.map C.dem [C.v (Value.int IntKind.i64 (nth k (1:Nat)))]] i [])
         (List.length (pick row (h++[k]))) fun i=>eI (nth (pick row (h++[k])) i))/\
   ((nth k (0:Nat)==row)=false->
    (0:Nat)<(1:Nat)/\
     row=row/\
      SEq (List.length (pick row h)) (fun i=>eI (nth (pick row h) i)) (List.length (pick row (h++[k]))) fun i=>eI (nth (pick row (h++[k])) i))
  )=rkCond (CO Gl) (Does Tryz.prog Y Gl) Y Tryz.f135.ntmps [10] valAs valBo (keyEl k) (valE row h) (valE row (h++[k])) (
  Orc.br Orc.nil Orc.nil):=by kernel_rfl
 rw [<-hq]
 refine ⟨fun hk=>⟨by omega,by omega,by decide,rfl,SEq_push1 (x:=nth k 1) ?_ rfl⟩,fun hk=>⟨by decide,rfl,SEq_whole ?_⟩⟩
 ·rw [pick_snoc,hk];rfl
 ·rw [pick_snoc,hk];exact List.append_nil _
theorem mem_pick {row x:Int} {h:List (List Int)}:x∈pick row h↔∃ k,k∈h/\nth k 0=row/\nth k 1=x:=by
 unfold pick
 rw [List.mem_map]
 constructor
 ·rintro ⟨k,hk,rfl⟩
  rw [List.mem_filter] at hk
  exact ⟨k,hk.1,eq_of_beq hk.2,rfl⟩
 ·rintro ⟨k,hk,h1,h2⟩
  exact ⟨k,List.mem_filter.2 ⟨hk,beq_iff_eq.2 h1⟩,h2⟩
theorem can_key {P:List (List Int)} {p:Nat} {k:List Int} (h:canT P p k=true):k=[nth k 0,nth k 1]:=by
 unfold canT at h
 rw [List.any_eq_true] at h
 obtain ⟨c,_,h⟩:=h
 rw [List.any_eq_true] at h
 obtain ⟨i,_,h⟩:=h
 rw [eq_of_beq h]
 rfl
theorem pick_nodup {P:List (List Int)} {p:Nat} {row:Int} {h:List (List Int)} (hd:∀ k∈h,canT P p k=true) (hn:h.Nodup):(pick row h).Nodup:=by
 unfold pick List.Nodup
 rw [List.pairwise_map]
 refine List.Pairwise.imp_of_mem (fun {a b} ha hb hab hh=>hab ?_) (List.Pairwise.filter _ hn)
 rw [List.mem_filter] at ha hb
 rw [can_key (hd a ha.1),can_key (hd b hb.1),hh,eq_of_beq ha.2,eq_of_beq hb.2]
theorem can_row {s:Sheet} (hs:s.ok=true) {row:Nat} (hr:row<rows s) {x:Int}:canT (allR s) (allR s).length [(row:Int),x]=true↔x∈valL (allR s) row:=by
 rw [mem_valL]
 unfold canT
 rw [List.take_length,List.any_eq_true]
 constructor
 ·rintro ⟨c,hc,h⟩
  rw [List.any_eq_true] at h
  obtain ⟨i,_,h⟩:=h
  have h:=eq_of_beq h
  have h1:(row:Int)=(i:Int):=(List.cons.inj h).1
  have h2:x=nth c i:=(List.cons.inj (List.cons.inj h).2).1
  have:row=i:=by omega
  subst this
  exact ⟨c,hc,h2.symm⟩
 ·rintro ⟨c,hc,rfl⟩
  refine ⟨c,hc,List.any_eq_true.2 ⟨row,List.mem_range.2 ?_,beq_self_eq_true _⟩⟩
  rw [((mem_allR hs c).1 hc).1]
  exact hr
theorem pick_sub {s:Sheet} (hs:s.ok=true) {row:Nat} (hr:row<rows s) {h:List (List Int)} (hd:∀ k∈h,canT (allR s) (allR s).length k=true) {x:Int} (hx:x∈pick row h):x∈valL (allR s) row:=by
 obtain ⟨k,hk,h1,h2⟩:=mem_pick.1 hx
 have:=hd k hk
 rw [can_key this,h1,h2] at this
 exact (can_row hs hr).1 this
theorem pick_len {s:Sheet} (hs:s.ok=true) {row:Nat} (hr:row<rows s) {h:List (List Int)} (hd:∀ k∈h,canT (allR s) (allR s).length k=true) (hn:h.Nodup):(pick row h).length<=28:=
 Nat.le_trans (sub_len _ _ (pick_nodup hd hn) fun _ hx=>pick_sub hs hr hd hx) (valTo_len hs (allR_cols hs) row _ (Nat.le_refl _))
theorem sorted_mem {zs:List Int} {x:Int}:x∈sorted zs↔x∈zs:=(List.mergeSort_perm zs _).mem_iff
theorem sorted_strict {zs:List Int} (hn:zs.Nodup):(sorted zs).Pairwise (·<·):=by
 have h1:(sorted zs).Pairwise fun x y=>decide (x<=y)=true:=List.pairwise_mergeSort (fun a b c h1 h2=>by simp at *;omega) (fun a b=>by simp;omega) zs
 have h2:(sorted zs).Nodup:=(List.mergeSort_perm zs _).nodup_iff.2 hn
 refine (List.pairwise_and_iff.2 ⟨h1,h2⟩).imp fun {a b} h=>?_
 have:=of_decide_eq_true h.1
 have:=h.2
 omega
theorem pick_sorted {s:Sheet} (hs:s.ok=true) {row:Nat} (hr:row<rows s) {h:List (List Int)} (he:Enum (canT (allR s) (allR s).length) h):sorted (pick row h)=valL (allR s) row:=by
 have hd:∀ k∈h,canT (allR s) (allR s).length k=true:=fun k hk=>(he.2 k).1 hk
 refine sorted_ext (sorted_strict (pick_nodup hd he.1)) (valL_sorted _ _) fun x=>?_
 rw [sorted_mem]
 refine ⟨fun hx=>pick_sub hs hr hd hx,fun hx=>mem_pick.2 ⟨[(row:Int),x],(he.2 _).2 ((can_row hs hr).2 hx),rfl,rfl⟩⟩
theorem val_tail {Gl} (S:SP Gl) (s:Sheet) (row:Nat) (hs:s.ok=true) (hr:row<rows s) {X:Cx} {vis:Nat->Nat} {w0:World} {a:Act} {w:World} {G:Gh} (Tl:Tail Tryz.prog Gl Y X Tryz.f135 (valE0 s (allR s) row) vis w0 a w G):
  valC.2.wpIn (Fr none) 0 Tryz.prog (bodyPostM (Fr none) 0 Tryz.prog Tryz.f135 fun en w'=>Below w0.heap.size w0 w'/\Answers vis w0 en w' (.ret (L eI (valL (allR s) row)))) a w:=by
 rw [valC_eq]
 refine wpIn_seq ?_
 refine seqs_ok (fu:=0) (nt:=Tryz.f135.ntmps) (ds:=[]) S (Tl.sur S) (E:=valE2 (allR s) row) (fun a2 w2 ⟨G2,R2⟩=>?_) [valR2] _ _ a w (val_piece S s (allR s) row) ⟨G,Tl.rel⟩
 refine wpIn_block (wpIn_mono (rk_ok S (Tl.sur S) (wp_ok S valAs true) (wp_ok S valBo true) (f:=318) (fst:=[]) (caps:=[.d (.c (.p [mC (allR s)]))]) (xs:=[.d (.c (.p [mC (allR s)]))]) (rr:=[]) (by kernel_rfl) (by kernel_rfl) rfl (by kernel_rfl) (el:=keyEl) (st:=valE row) (iters151 _ _) (valE2_le _ _) (fun k _=>by kernel_rfl) (fun h k hn=>val_round row h k (by have:=pick_len hs hr hn.1 hn.2.1;omega)) R2) fun ex a3 w3 hq=>?_)
 cases ex with
 |normal=>
  obtain ⟨_,e3,⟨_,h,he,rfl⟩,G3,R3⟩:=hq
  have hz:(pick row h).length<=1000000:=by have:=pick_len hs hr (fun k hk=>(he.2 k).1 hk) he.1;omega
  have hps:=pick_sorted hs hr he
  obtain ⟨zs,hzs⟩:∃ zs,pick (row:Int) h=zs:=⟨_,rfl⟩
  have hst:valE row h=v 3 (ad 3)::v 5 (ad 5)::tk 100 3::(bx 3 [Ci row]++bx 5 [.lt 100 eI zs]):=by rw [<-hzs];rfl
  rw [hst] at R3
  rw [hzs] at hz hps
  obtain ⟨b1,b2,_⟩:=R3.mem.box 5 (by show live≠.any;exact live_ne)
  obtain ⟨_,_,u,hu,hvok⟩:=R3.mem.cells 5 0 (by show (T.d (D.c (C.lt 100 eI zs)))≠.any;intro hh;cases hh)
  have hsl:=(R3.slots 5).rel
  have hslot:a3.tmps.getD 5 undef=.pointer (some ⟨G3.bk 5,0,none⟩):=by
   unfold slotV at hsl
   rw [if_pos (by decide)] at hsl
   exact hsl
  have hrep:Rep G3.vis w3 (.s (.t 100) zs.length fun i=>eI (nth zs i)) u:=hvok.reld
  have hown:Own G3 w3 Y 100 3 zs.length (fun i=>eI (nth zs i)) u:=hvok.own 3 rfl
  obtain ⟨Q,hsort,hcomp⟩:=sort_any R3 (by decide) hz hrep hown
  have hsz:a3.tmps.size=23:=R3.size
  have S0:SL a3 23 (fun t=>a3.tmps.getD t undef) a3.defers:=⟨hsz,rfl,fun _ _=>rfl⟩
  show (Code.seq (.region 6 (valOps 0) false) (.seq (.region 7 (valOps 1) false) .ret)).wpIn (Fr none) 0 Tryz.prog _ a3 w3
  refine wpIn_seq (wpIn_region ?_)
  rw [valR0]
  obtain ⟨o1,o2,o3,o4⟩:=valOp00
  refine ops_val o1 o2 (by rw [o3];intro c hc;cases hc) (raw_load1 yok (b:=G3.bk 5) (k:=0) (u:=u) o3 rfl (by rw [S0.eval (by decide)];exact hslot) hu) ?_
  rw [o4]
  have S1:=S0.put (d:=20) (by decide) u
  obtain ⟨o1,o2,o3,o4⟩:=valOp01
  refine ops_call o1 o2 (by rw [o3];intro c hc;cases hc) (exec_call1 S1 o3 (by decide) fn130) hsort ?_
  rintro _ w4 ⟨rfl,hQ⟩
  refine ⟨_,rfl,?_⟩
  rw [o4]
  have S2:=S1.put (d:=21) (by decide) (.tuple #[])
  obtain ⟨hb1,⟨vis',hO⟩,_⟩:=hcomp w4 hQ
  have hu1:w4.cell? ⟨G3.bk 5,0,none⟩=some u:=by
   rw [World.cell?_of_block (hb1 _ (fun h=>(R3.tks (.o 100) _ h).2.2.2.2 5 (by show live≠.any;exact live_ne) rfl) b2)]
   exact hu
  show (Code.seq (.region 7 (valOps 1) false) .ret).wpIn (Fr none) 0 Tryz.prog _ _ w4
  refine wpIn_seq (wpIn_region ?_)
  rw [valR1]
  obtain ⟨o1,o2,o3,o4⟩:=valOp10
  refine ops_val o1 o2 (by rw [o3];intro c hc;cases hc) (raw_load1 yok (b:=G3.bk 5) (k:=0) (u:=u) o3 rfl (by rw [S2.eval (by decide)];exact hslot) hu1) ?_
  rw [o4]
  have S3:=S2.put (d:=22) (by decide) u
  obtain ⟨o1,o2,o3,o4⟩:=valOp11
  refine ops_val o1 o2 (by rw [o3];intro c hc;cases hc) (v:=u) (w':=w4) (by simp [execOp,o3,S3.eval,upd]) ?_
  rw [o4]
  have S4:=S3.put (d:=4) (by decide) u
  refine wpIn_ret ?_
  have hj:=R3.jj
  rw [Tl.J] at hj
  have R':=R3.anew (a':=Act.put (Act.put (Act.put (Act.put a3 (some 20) u) (some 21) (.tuple #[])) (some 22) u) (some 4) u) (w':=w4) (vis':=vis') (e':=[(0,4,.d (.c (.l eI (sorted zs))))]) (fun _=>rfl) (fun _=>rfl) (fun _ _=>rfl)
   (by rw [S4.size,hsz]) S4.defers hO.size (fun D hD=>hO.mark D (R3.marks D hD).2.1) (fun t ht=>?_) hO.fresh hO.vold (by
    rw [Tl.J]
    refine ⟨hj.1,hj.2.trans ⟨hO.os,hO.tape,hO.output,hO.size,fun b hb=>hO.old b (by rw [Tl.base];exact hb)⟩⟩)
  ·rw [hps] at R'
   exact Tl.leave S R' (SEq_whole rfl)
  ·by_cases h4:t=4
   ·subst h4
    refine VOK.dem (x:=.c (.l eI (sorted zs))) ?_
    have:=S4.get 4 (by decide)
    unfold slotV
    rw [if_pos (by decide),this]
    exact hO.rep
   ·refine absurd ?_ ht
    rw [get_cons_ne (fun hh=>h4 hh.2.symm)]
    rfl
 |exit id=>obtain ⟨_,_,⟨h,_⟩,_⟩:=hq;cases h
 |ret=>obtain ⟨_,_,⟨h,_⟩,_⟩:=hq;cases h
 |panic ch=>obtain ⟨_,_,_,_,⟨h,_⟩,_⟩:=hq;cases h
 |goto l=>exact hq.elim
 |outgrown=>exact hq.elim
theorem values94 {Gl} (S:SP Gl) (s:Sheet) (row:Nat) (hs:s.ok=true) (hr:row<rows s):CO Gl 135 [.d (.agg (cBook s (allR s))),I row] (.ret (L eI (valL (allR s) row))):=by
 refine fn_tail S (E:=valE0 s (allR s) row) (xs:=valC.1) (tl:=valC.2) (.nil) Tryz.func135 (by kernel_rfl) valCB rfl ((sR eCol s.1)/\(sR eI s.2)/\(sR eCol (allR s))/\(MEq (canT (allR s) (List.length (allR s))) (fun key=>[Cb (canT (allR s) (List.length (allR s)) key)]) (canT (allR s) (List.length (allR s))) fun key=>[Cb (canT (allR s) (List.length (allR s)) key)])/\(MEq (openD s (List.length (allR s))) (fun key=>[Cb (openB s (allR s) (List.length (allR s)) key)]) (openD s (List.length (allR s))) fun key=>[Cb (openB s (allR s) (List.length (allR s)) key)])/\(row:Int)=(row:Int)/\Value.slice none 0 0=Value.slice none 0 0) (by kernel_rfl) ?_ (fun X vis w0 a w G T=>val_tail S s row hs hr T)
 exact ⟨SEq_whole rfl,SEq_whole rfl,SEq_whole rfl,MEq_refl,MEq_refl,rfl,rfl⟩
def cmpI (a b:Int):Int:=bif decide (a<b) then -1 else bif decide (b<a) then 1 else 0
def cmpL:List Int->List Int->Int
 | [],[]=>0
 | [],_::_=>-1
 |_::_,[]=>1
 |x::a,y::b=>bif x==y then cmpL a b else cmpI x y
theorem cmpL_at:∀ {a b:List Int} {k:Nat},(∀ i,i<k->nth a i=nth b i)->k<a.length->k<b.length->nth a k≠nth b k->cmpL a b=cmpI (nth a k) (nth b k)
 | [],_,k,_,h,_,_=>by simp at h
 |_::_,[],k,_,_,h,_=>by simp at h
 |x::a,y::b,0,_,_,_,hne=>by
  have h:x≠y:=hne
  unfold cmpL
  rw [beq_eq_false_iff_ne.2 h]
  rfl
 |x::a,y::b,k+1,he,h1,h2,hne=>by
  have h0:x=y:=he 0 (by omega)
  unfold cmpL
  rw [beq_iff_eq.2 h0]
  exact cmpL_at (a:=a) (b:=b) (k:=k) (fun i hi=>he (i+1) (by omega)) (by simpa using h1) (by simpa using h2) hne
theorem cmpL_end:∀ {a b:List Int},(∀ i,i<min a.length b.length->nth a i=nth b i)->cmpL a b=bif decide (a.length<b.length) then -1 else bif decide (b.length<a.length) then 1 else 0
 | [],[],_=>rfl
 | [],_::_,_=>by simp [cmpL]
 |_::_,[],_=>by simp [cmpL]
 |x::a,y::b,h=>by
  have h0:x=y:=h 0 (by simp)
  unfold cmpL
  rw [beq_iff_eq.2 h0,cond_true,cmpL_end (a:=a) (b:=b) fun i hi=>h (i+1) (by simp only [List.length_cons];omega)]
  simp
theorem cmpL_ltL:∀ a b:List Int,decide (cmpL a b<0)=ltL a b
 | [],[]=>rfl
 | [],_::_=>rfl
 |_::_,[]=>rfl
 |x::a,y::b=>by
  unfold cmpL ltL
  cases h:x==y
  ·simp only [cond_false]
   have hne:x≠y:=by intro h2;subst h2;simp at h
   unfold cmpI
   by_cases h1:x<y
   ·rw [decide_eq_true h1];rfl
   ·rw [decide_eq_false h1,decide_eq_true (show y<x by omega)];rfl
  ·simp only [cond_true]
   exact cmpL_ltL a b
theorem isNaN150 {Gl} (S:SP Gl) (n:Int):CO Gl 235 [I n] (.ret (B false)):=by
 refine fn_is S (.nil) Tryz.func235 (by kernel_rfl) ((n != n)=false) (by kernel_rfl) ?_
 exact bne_self_eq_false n
theorem compare128 {Gl} (S:SP Gl) (a b:Int):CO Gl 134 [I a,I b] (.ret (I (cmpI a b))):=by
 refine fn_is S (.r (.ret (B false)) (.r (.ret (B false)) (.ff (.ff (.br .nil (.br .nil .nil)))))) Tryz.func134 (by kernel_rfl) (CO Gl 235 [I a] (.ret (B false))/\CO Gl 235 [I b] (.ret (B false))/\false=false/\false=false/\(decide (a<b)=true->(-1:Int)=cmpI a b)/\(decide (a<b)=false->(decide (b<a)=true->(1:Int)=cmpI a b)/\(decide (b<a)=false->(0:Int)=cmpI a b))) (by kernel_rfl) ?_
 unfold cmpI
 exact ⟨isNaN150 S a,isNaN150 S b,rfl,rfl,fun h=>by rw [h];rfl,fun h=>⟨fun h2=>by rw [h,h2];rfl,fun h2=>by rw [h,h2];rfl⟩⟩
theorem compare89 {Gl} (S:SP Gl) (a b:List Int):CO Gl 58 [L eI a,L eI b] (.ret (I (cmpL a b))):=by
 refine fn_is S (.loop (sameTo a b) (fun k=>[v 11 (I k),v 10 (I a.length),v 9 (L eI a),v 0 (L eI a),v 1 (L eI b)]) fun k0=>.br (.br .nil (.r (.ret (I (cmpI (nth a k0) (nth b k0)))) (.br .nil .nil))) (.br .nil .nil)) Tryz.func58 (by kernel_rfl) (a.length<=maxLen->(0=(↑(0:Nat):Int)/\(a.length:Int)=(a.length:Int)/\(sR eI a)/\(sR eI a)/\sR eI b)/\∀ (k0:Nat),k0<=sameTo a b->(decide ((k0:Int)<(a.length:Int))=true->(0<=(k0:Int)/\(k0:Int)<(a.length:Int))/\(b.length<=maxLen->(decide ((b.length:Int)<=(k0:Int))=true->(1:Int)=cmpL a b)/\(decide ((b.length:Int)<=(k0:Int))=false->(0<=(k0:Int)/\(k0:Int)<(b.length:Int))/\CO Gl 134 [I (nth a k0),I (nth b k0)] (.ret (I (cmpI (nth a k0) (nth b k0))))/\((cmpI (nth a k0) (nth b k0) != (0:Int))=true->cmpI (nth a k0) (nth b k0)=cmpL a b)/\((cmpI (nth a k0) (nth b k0) != (0:Int))=false->iR ((k0:Int)+1)/\k0<sameTo a b/\(k0:Int)+1=(↑(k0+1):Int)/\(a.length:Int)=(a.length:Int)/\(sR eI a)/\(sR eI a)/\sR eI b))))/\(decide ((k0:Int)<(a.length:Int))=false->a.length<=maxLen->b.length<=maxLen->(decide ((a.length:Int)<(b.length:Int))=true->(-1:Int)=cmpL a b)/\(decide ((a.length:Int)<(b.length:Int))=false->(0:Int)=cmpL a b))) (by kernel_rfl) ?_
 simp only [stdS,imp_self,implies_true,and_true,decide_eq_true_eq,decide_eq_false_iff_not,maxLen_eq,rng_iff]
 have hmin:(List.range (min a.length b.length)).length=min a.length b.length:=List.length_range
 have hle:sameTo a b<=min a.length b.length:=by have:=upto_le (p:=fun i=>nth a i==nth b i) (l:=List.range (min a.length b.length));unfold sameTo;omega
 have hbef:∀ k,k<=sameTo a b->∀ i,i<k->nth a i=nth b i:=fun k hk i hi=>by
  have h1:i<(List.range (min a.length b.length)).length:=Nat.lt_of_lt_of_le (Nat.lt_of_lt_of_le hi hk) upto_le
  have:=upto_before (p:=fun i=>nth a i==nth b i) (l:=List.range (min a.length b.length)) (i:=i) (by unfold sameTo at hk;omega)
  rw [nth_range (by omega)] at this
  exact eq_of_beq this
 have hne:∀ x y:Int,x≠y->cmpI x y≠0:=fun x y h=>by
  unfold cmpI
  by_cases h1:x<y
  ·rw [decide_eq_true h1,cond_true];omega
  ·rw [decide_eq_false h1,decide_eq_true (show y<x by omega),cond_false,cond_true];omega
 have heq:∀ x:Int,cmpI x x=0:=fun x=>by
  unfold cmpI
  rw [decide_eq_false (show ¬ x<x by omega)];rfl
 refine fun hm k hk=>⟨fun hl=>⟨by omega,fun hmb=>⟨fun hb=>?_,fun hb=>⟨by omega,compare128 S _ _,fun h=>?_,fun h=>⟨by omega,upto_lt hk (by omega) ?_,by omega,trivial⟩⟩⟩⟩,fun hl _ _=>⟨fun hb=>?_,fun hb=>?_⟩⟩
 ·rw [cmpL_end fun i hi=>hbef k hk i (by omega),decide_eq_false (show ¬ a.length<b.length by omega),decide_eq_true (show b.length<a.length by omega)];rfl
 ·refine (cmpL_at (hbef k hk) (by omega) (by omega) ?_).symm
  intro he
  rw [he,heq] at h
  exact absurd h (by decide)
 ·rw [nth_range (by omega)]
  by_cases he:nth a k=nth b k
  ·simp [he]
  ·have:=hne _ _ he
   simp at h
   exact absurd h this
 ·rw [cmpL_end fun i hi=>hbef k hk i (by omega),decide_eq_true (show a.length<b.length by omega)];rfl
 ·rw [cmpL_end fun i hi=>hbef k hk i (by omega),decide_eq_false (show ¬ a.length<b.length by omega),decide_eq_false (show ¬ b.length<a.length by omega)];rfl
theorem before88 {Gl} (S:SP Gl) (a b:List Int):CO Gl 57 [L eI a,L eI b] (.ret (B (ltL a b))):=by
 refine fn_is S (.r (.ret (I (cmpL a b))) .nil) Tryz.func57 (by kernel_rfl) (CO Gl 58 [L eI a,L eI b] (.ret (I (cmpL a b)))/\decide (cmpL a b<(0:Int))=ltL a b) (by kernel_rfl) ?_
 exact ⟨compare89 S a b,cmpL_ltL a b⟩
theorem best87 {Gl} (S:SP Gl) (l:List (List Int)) (h:0<l.length):CO Gl 56 [.d (.c (.l eCol l)),.fn 57 [] []] (.ret (L eI (bestL ltL l))):=by
 refine fn_iq S (let A0:=(List.drop (1:Nat) l);let A1:=(l.length:Int);let A2:=fun (k0:Nat)=>(bestTo ltL l k0);((.loop (List.length l-(1:Nat)) (fun k=>[v 14 (I k),v 13 (I (A1-1)),v 12 (T.d (D.c (C.l eCol A0))),v 1 (T.fn (57:FuncId) [] []),v 5 (L eI (bestTo ltL l k))]) fun k0=>.br (.r (.ret (B (ltL (nth A0 k0) (A2 k0)))) (.br .nil .nil)) .nil),(((0:Int)<=0/\0<A1)/\((0:Int)<=1/\1<=A1/\A1<=A1)/\(Int.toNat (A1-1)<=maxLen->(0=(↑(0:Nat):Int)/\(↑(Int.toNat (A1-1)):Int)=A1-1/\(SEq (Int.toNat (A1-1)) (fun i=>eCol (nth l (Int.toNat (1:Int)+i))) (List.length A0) fun i=>eCol (nth A0 i))/\(57:Nat)=(57:Nat)/\sQ eI (nth l (Int.toNat (0:Int))) (bestTo ltL l (0:Nat)))/\∀ (k0:Nat),k0<=List.length l-(1:Nat)->(decide ((k0:Int)<(l.length:Int)-1)=true->(0<=(k0:Int)/\(k0:Int)<(↑(List.length A0):Int))/\CO Gl 57 [L eI (nth A0 k0),L eI (A2 k0)] (.ret (B (ltL (nth A0 k0) (A2 k0))))/\(ltL (nth A0 k0) (A2 k0)=true->iR ((k0:Int)+1)/\k0<List.length l-(1:Nat)/\(k0:Int)+1=(↑(k0+1):Int)/\A1-1=A1-1/\(sR eCol A0)/\(57:Nat)=(57:Nat)/\sQ eI (nth A0 k0) (bestTo ltL l (k0+1)))/\(ltL (nth A0 k0) (A2 k0)=false->iR ((k0:Int)+1)/\k0<List.length l-(1:Nat)/\(k0:Int)+1=(↑(k0+1):Int)/\A1-1=A1-1/\(sR eCol A0)/\(57:Nat)=(57:Nat)/\sQ eI (A2 k0) (bestTo ltL l (k0+1))))/\(decide ((k0:Int)<(l.length:Int)-1)=false->sQ eI (A2 k0) (bestL ltL l)))))) Tryz.func56 (by kernel_rfl) (by kernel_rfl) ?_
 simp only [stdS,imp_self,implies_true,and_true,decide_eq_true_eq,decide_eq_false_iff_not,maxLen_eq,rng_iff]
 have hd:(l.drop 1).length=l.length - 1:=List.length_drop
 have hn:∀ k,nth (l.drop 1) k=nth l (k+1):=fun k=>by rw [nth_drop,Nat.add_comm]
 have hst:∀ k,bestTo ltL l (k+1)=bif ltL (nth l (k+1)) (bestTo ltL l k) then nth l (k+1) else bestTo ltL l k:=fun k=>rfl
 refine ⟨by omega,by omega,fun hm=>⟨⟨by omega,.of ⟨by omega,fun i _=>congrArg eCol (nth_drop (l:=l) (i:=i) (k:=1)).symm⟩,SEq_whole rfl⟩,fun k hk=>⟨fun hl=>⟨by omega,before88 S _ _,fun hb=>⟨by omega,by omega,by omega,?_⟩,fun hb=>⟨by omega,by omega,by omega,?_⟩⟩,fun hl=>?_⟩⟩⟩
 ·rw [hn] at hb ⊢
  rw [hst,hb]
  exact SEq_whole rfl
 ·rw [hn] at hb
  rw [hst,hb]
  exact SEq_whole rfl
 ·have:k=l.length - 1:=by omega
  subst this
  exact SEq_whole rfl
theorem open_is {s:Sheet} (P:List (List Int)) {r:Nat} (hr:r<rows s):openB s P P.length [(r:Int)]=isOpen s P r:=by
 unfold openB
 rw [rowD_at hr,Bool.true_and,List.take_length,isOpen_any,keyR_one]
 rfl
theorem many95 {Gl} (S:SP Gl) (s:Sheet) (r:Nat) (hs:s.ok=true) (hr:r<rows s):CO Gl 59 [.d (.agg (cBook s (allR s))),I r] (.ret (I (manyAt s (allR s) r))):=by
 refine fn_iq S (let A0:=(List.length (allR s));((.br .nil (.r (.ret (L eI (valL (allR s) r))) .nil)),((openD s A0 [(r:Int)]=false->[C.v (Value.bool (openB s (allR s) A0 [(r:Int)]))]=[C.v (Value.bool false)])/\(openB s (allR s) A0 [(r:Int)]=true->(1999:Int)=manyAt s (allR s) r)/\(openB s (allR s) A0 [(r:Int)]=false->CO Gl 135 [T.d (D.agg (cBook s (allR s))),I r] (.ret (L eI (valL (allR s) r)))/\(List.length (valL (allR s) r)<=maxLen->(↑(List.length (valL (allR s) r)):Int)=manyAt s (allR s) r))))) Tryz.func59 (by kernel_rfl) (by kernel_rfl) ?_
 dsimp only
 have ho:=open_is (allR s) hr
 refine ⟨fun h=>?_,fun h=>?_,fun h=>⟨values94 S s r hs hr,fun _=>?_⟩⟩
 ·unfold openD at h
  rw [rowD_at hr,Bool.and_true] at h
  have h0:(allR s).length=0:=by have:=of_decide_eq_false h;omega
  unfold openB
  rw [h0,List.take_zero,List.any_nil,Bool.and_false]
 ·unfold manyAt
  rw [<-ho,h]
  rfl
 ·unfold manyAt
  rw [<-ho,h]
  rfl
theorem isSheetT {Gl} (S:SP Gl) (s:Sheet) (hs:s.ok=true):CO Gl 55 [tSheet s] (.ret (B true)):=by
 have h:=isSheet81 S s
 rw [hs] at h
 exact h
theorem MEq_self (dom:List Int->Bool) (val:List Int->List C):MEq dom val dom val↔True:=⟨fun _=>trivial,fun _=>MEq_refl⟩
theorem many_sure (s:Sheet) (l:List (List Int)) (r:Nat):(manyAt s l r==1)=sureAt s l r:=by
 unfold manyAt sureAt
 cases isOpen s l r
 ·rfl
 ·rfl
def upR (n:Nat):List Int:=(List.range n).map fun i:Nat=>(i:Int)
theorem first31 {Gl} (S:SP Gl) (s:Sheet) (hs:s.ok=true) (h0:0<(allR s).length):CO Gl 17 [tSheet s] (.ret (.tup [.c (.l eI (firstL (allR s))),.c (Ci 0)])):=by
 refine fn_is S (.r (.ret (B true)) (.r (.ret (.tup [D.agg (cBook s (allR s)),D.c (Ci 0)])) (.ff (.r (.ret (L eI (bestL ltL (allR s)))) .nil)))) Tryz.func17 (by kernel_rfl) (CO Gl 55 [tSheet s] (.ret (B true))/\CO Gl 54 [tSheet s,B true] (.ret (.tup [D.agg (cBook s (allR s)),D.c (Ci 0)]))/\false=false/\CO Gl 56 [T.d (D.c (C.l eCol (allR s))),T.fn (57:FuncId) [] []] (.ret (L eI (bestL ltL (allR s))))/\(sQ eI (bestL ltL (allR s)) (firstL (allR s)))/\(0:Int)=0) (by kernel_rfl) ?_
 exact ⟨isSheetT S s hs,read82 S s hs h0,rfl,best87 S (allR s) h0,SEq_whole (firstL_best h0).symm,rfl⟩
theorem sure38 {Gl} (S:SP Gl) (s:Sheet) (hs:s.ok=true) (h0:0<(allR s).length):CO Gl 18 [tSheet s] (.ret (.tup [.c (.l eI (sureL s (allR s))),.c (Ci 0)])):=by
 refine fn_iq S (let A0:=(List.length (allR s));let A1:=(MEq (canT (allR s) A0) (fun key=>[Cb (canT (allR s) A0 key)]) (canT (allR s) A0) fun key=>[Cb (canT (allR s) A0 key)]);let A2:=fun (k0:Nat)=>(sureTo s (allR s) k0);let A3:=(fun key=>[Cb (openB s (allR s) A0 key)]);let A4:=(↑(rows s):Int);let A5:=(cBook s (allR s));((.r (.ret (B true)) (.r (.ret (.tup [D.agg A5,D.c (Ci 0)])) (.ff (.loop (rows s) (fun k=>v 23 (I k)::v 22 (I A4)::v 4 (ad 4)::tk 100 3::v 6 (Lt 100 eI (sureTo s (allR s) k))::bx 4 A5) fun k0=>.br (.r (.ret (I (manyAt s (allR s) k0))) (.br .nil .nil)) .nil)))),(CO Gl 55 [tSheet s] (.ret (B true))/\CO Gl 54 [tSheet s,B true] (.ret (.tup [D.agg A5,D.c (Ci 0)]))/\false=false/\((0:Int)<=0/\0<(s.1.length:Int))/\(List.length (nth s.1 (Int.toNat (0:Int)))<=maxLen->(0=(↑(0:Nat):Int)/\(↑(List.length (nth s.1 (Int.toNat (0:Int)))):Int)=A4/\(0:Nat)=(0:Nat)/\(sR eCol s.1)/\(sR eI s.2)/\(sR eCol (allR s))/\A1/\MEq (openD s A0) A3 (openD s A0) fun key=>[Cb (openB s (allR s) A0 key)])/\∀ (k0:Nat),k0<=rows s->(decide ((k0:Int)<(↑(rows s):Int))=true->CO Gl 59 [T.d (D.agg A5),I k0] (.ret (I (manyAt s (allR s) k0)))/\((manyAt s (allR s) k0==(1:Int))=true->(List.length (A2 k0)+1)*8<=140737488355328/\List.length (A2 k0)+1<=140737488355328/\iR ((k0:Int)+1)/\k0<rows s/\(k0:Int)+1=(↑(k0+1):Int)/\A4=A4/\(SEq (List.length (A2 k0)+1) (catF (List.length (A2 k0)) (fun i=>eI (nth (A2 k0) i)) fun i=>List.getD [List.map C.dem [C.v (Value.int IntKind.i64 (k0:Int))]] i []) (List.length (sureTo s (allR s) (k0+1))) fun i=>eI (nth (sureTo s (allR s) (k0+1)) i))/\(sR eCol s.1)/\(sR eI s.2)/\(sR eCol (allR s))/\A1/\MEq (openD s A0) A3 (openD s A0) fun key=>[Cb (openB s (allR s) A0 key)])/\((manyAt s (allR s) k0==(1:Int))=false->iR ((k0:Int)+1)/\k0<rows s/\(k0:Int)+1=(↑(k0+1):Int)/\A4=A4/\(sQ eI (A2 k0) (sureTo s (allR s) (k0+1)))/\(sR eCol s.1)/\(sR eI s.2)/\(sR eCol (allR s))/\A1/\MEq (openD s A0) A3 (openD s A0) fun key=>[Cb (openB s (allR s) A0 key)]))/\(decide ((k0:Int)<(↑(rows s):Int))=false->(sQ eI (A2 k0) (sureL s (allR s)))/\(0:Int)=0))))) Tryz.func18 (by kernel_rfl) (by kernel_rfl) ?_
 obtain ⟨l1,l2,l3,l4⟩:=ok_len hs
 have hrs:=(col_len (l4 0 (by omega))).2.2
 simp only [stdS,imp_self,implies_true,and_true,MEq_self,many_sure]
 refine ⟨isSheetT S s hs,read82 S s hs h0,by omega,fun hm=>⟨⟨rfl,trivial⟩,fun k hk=>⟨fun hd=>?_,fun hd=>?_⟩⟩⟩
 ·have hlt:k<rows s:=by have:=of_decide_eq_true hd;omega
  have h1:=sureTo_len s (allR s) k
  have hst:sureTo s (allR s) (k+1)=sureTo s (allR s) k++bif sureAt s (allR s) k then [(k:Int)] else []:=rfl
  refine ⟨many95 S s k hs hlt,fun hb=>⟨by omega,by omega,(rng_iff _).2 (by omega),hlt,by omega,?_,trivial⟩,fun hb=>⟨(rng_iff _).2 (by omega),hlt,by omega,?_,trivial⟩⟩
  ·refine SEq_push1 (x:=(k:Int)) ?_ rfl
   rw [hst,hb];rfl
  ·refine SEq_whole ?_
   rw [hst,hb];exact List.append_nil _
 ·have hke:k=rows s:=by have:=of_decide_eq_false hd;omega
  subst hke
  exact ⟨SEq_whole rfl,trivial⟩
end Go.Vc.Zn
namespace Go.Vc
open Go Go.RowKit
mutual
theorem RelT.weak {G:Gh} {w:World} {O O':Nat->Prop} (h:∀ b,O b->O' b):∀ {x:T} {v:Value},RelT G w O x v->RelT G w O' x v
 | .d x,v,r=>by simp only [RelT] at r ⊢;exact r.weak h
 | .tup xs,v,r=>by simp only [RelT] at r ⊢;obtain ⟨vs,hv,hr⟩:=r;exact ⟨vs,hv,hr.1,fun j x v hj hv=>(hr.2 j x v hj hv).weak h⟩
 | .fn f a b,v,r=>by
  simp only [RelT] at r ⊢
  obtain ⟨us,vs,hv,h1,h2⟩:=r
  exact ⟨us,vs,hv,RelTs.weak h h1,RelTs.weak h h2⟩
 | .may b x,v,r=>by simp only [RelT] at r ⊢;exact ⟨fun hb=>RelT.weak h (r.1 hb),r.2⟩
 | .nx b xs,v,r=>by
  simp only [RelT] at r ⊢
  exact ⟨fun hb=>by obtain ⟨vs,hv,hr⟩:=r.1 hb;exact ⟨vs,hv,hr.1,fun j x v hj hv=>(hr.2 j x v hj hv).weak h⟩,r.2⟩
 | .ag xs,v,r=>by simp only [RelT] at r ⊢;obtain ⟨vs,hv,hr⟩:=r;exact ⟨vs,hv,RelTs.weak h hr⟩
 | .addr _ _,v,r| .any,v,r| .arr _ _,v,r| .elt _ _ _,v,r| .mp _,v,r| .it _,v,r| .yl _,v,r| .tr _,v,r=>by simp only [RelT] at r ⊢<;>exact r
 | .tok _,v,r| .tkd _ _ _ _,v,r| .own _ _ _,v,r| .arrc _ _ _ _,v,r| .mapc _ _ _ _ _,v,r| .itc _ _,v,r=>by simp only [RelT] at r
theorem RelTs.weak {G:Gh} {w:World} {O O':Nat->Prop} (h:∀ b,O b->O' b):∀ {xs:List T} {vs:List Value},RelTs G w O xs vs->RelTs G w O' xs vs
 | [],vs,r=>by simp only [RelTs] at r ⊢;exact r
 |x::xs,vs,r=>by
  simp only [RelTs] at r ⊢
  obtain ⟨v,us,hv,h1,h2⟩:=r
  exact ⟨v,us,hv,RelT.weak h h1,RelTs.weak h h2⟩
end
theorem Mem.keep {Y:TypeId->Ty} {m:Env} {w w':World} {G:Gh} (ho:∀ id,m.get 2 id≠.any->isObj (m.get 2 id)=true) (h1:∀ k,m.get 1 k=.any) (hb:∀ id,m.get 2 id≠.any->w'.heap[G.bk id]?=w.heap[G.bk id]?) (hk:KeepV G.vis w w') (hs:Same w w') (M:Mem Y (fun _=>False) m w G):Mem Y (fun _=>False) m w' G:=by
 have hext:Ext (fun _=>False) G G w w':=⟨fun _=>Nat.le_refl _,hk,fun _ h=>h.elim⟩
 refine ⟨fun id k hid=>?_,fun id hid=>?_,M.inj⟩
 ·obtain ⟨q1,q2,u,q3,q4⟩:=M.cells id k hid
  refine ⟨q1,q2,u,?_,VOK.mono hext (fun _ _=>rfl) (fun _ h=>h) (fun k h=>absurd (h1 k) h) (fun k b h=>absurd (h1 k) h) q4⟩
  rw [World.cell?_of_block (hb id (by rw [q1];exact live_ne))]
  exact q3
 ·obtain ⟨q1,q2,q3⟩:=M.box id hid
  refine ⟨q1,Nat.lt_of_lt_of_le q2 hs.size,?_⟩
  have hh:=hb id hid
  unfold ObjOK at q3 ⊢
  split at q3
  ·rw [hh];exact q3
  ·rw [hh]
   obtain ⟨⟨cs,t,z,h3,hz,h4,h5⟩,h6⟩:=q3
   refine ⟨⟨cs,t,z,h3,hz,h4,fun i hi=>?_⟩,h6⟩
   obtain ⟨h7,h8⟩:=h5 i hi
   exact ⟨h7,fun j c hc=>by obtain ⟨u,h9,h10⟩:=h8 j c hc;exact ⟨u,h9,h10.mono hext⟩⟩
  ·rw [hh]
   obtain ⟨⟨es,cl,h3,h4,h5⟩,h6⟩:=q3
   exact ⟨⟨es,cl,h3,h4,fun i en k he hk=>⟨(h5 i en k he hk).1,(h5 i en k he hk).2.mono hext⟩⟩,h6⟩
  ·rw [hh];exact q3
  ·have:=ho id hid
   simp_all [isObj]
  ·have:=ho id hid
   simp_all [isObj]
  ·exact q3.elim
end Go.Vc
namespace Go.Vc.Zn
open Go Go.Proofs Go.Vc Go.RowKit
theorem run_equalIn_iface_nil {P:Program} {t tx:TypeId} {vx:Value} {w:World} (d:Nat) (h:∃ ms,P.underlying t=some (.interface ms)):(Op.equalIn (d+1) t (.iface tx vx) .nilIface).run P w=.ok false w:=by
 obtain ⟨ms,h⟩:=h
 simp [Op.equalIn,run_underlying h]
theorem run_eql_iface_nil {P:Program} {t tx:TypeId} {vx:Value} {w:World} (h:∃ ms,P.underlying t=some (.interface ms)):(binOp .eql t (.iface tx vx) .nilIface).run P w=.ok (.bool false) w:=by
 have:(Op.equal t (.iface tx vx) .nilIface).run P w=.ok false w:=run_equalIn_iface_nil 9999 h
 simp only [binOp]
 simp [this]
theorem run_equalIn_nil_nil {P:Program} {t:TypeId} {w:World} (d:Nat) (h:∃ ms,P.underlying t=some (.interface ms)):(Op.equalIn (d+1) t .nilIface .nilIface).run P w=.ok true w:=by
 obtain ⟨ms,h⟩:=h
 simp [Op.equalIn,run_underlying h]
theorem run_eql_nil_nil {P:Program} {t:TypeId} {w:World} (h:∃ ms,P.underlying t=some (.interface ms)):(binOp .eql t .nilIface .nilIface).run P w=.ok (.bool true) w:=by
 have:(Op.equal t .nilIface .nilIface).run P w=.ok true w:=run_equalIn_nil_nil 9999 h
 simp only [binOp]
 simp [this]
theorem run_assert_yes {P:Program} {t xt:TypeId} {v:Value} {w:World} {y:Ty} (hY:TyOK P t y) (hk:∃ fs,y.kind=.struct fs):(Instr.typeAssert (.iface t v) xt t true).run P w=.ok (.tuple #[v,.bool true]) w:=by
 obtain ⟨d,i,z,h1,_,_,_,_,_,h7,_⟩:=hY
 obtain ⟨fs,hk⟩:=hk
 rw [hk] at h7
 obtain ⟨fields,rfl,_⟩:=h7
 simp [Instr.typeAssert,run_underlying h1]
theorem run_assert_no {P:Program} {Y:TypeId->Ty} {t t' xt:TypeId} {v:Value} {w:World} (hY:YOK P Y) (hk:∃ fs,(Y t).kind=.struct fs) (hne:t'≠t):∃ z,(Instr.typeAssert (.iface t' v) xt t true).run P w=.ok (.tuple #[z,.bool false]) w:=by
 obtain ⟨fs,hk⟩:=hk
 have hkn:(Y t).known=true:=struct_known hk
 obtain ⟨z,hz,_⟩:=run_zeroValue hY hkn w
 obtain ⟨d,i,z',h1,_,_,_,_,_,h7,_⟩:=hY t hkn
 rw [hk] at h7
 obtain ⟨fields,rfl,_⟩:=h7
 refine ⟨z,?_⟩
 simp [Instr.typeAssert,run_underlying h1,hne,hz]
theorem und20:∃ ms,Tryz.prog.underlying 20=some (.interface ms):=by
 obtain ⟨d,i,z,h1,_,_,_,_,_,h7,_⟩:=yok 20 (by kernel_rfl)
 obtain ⟨ms,rfl⟩:∃ ms,d=.interface ms:=h7
 exact ⟨ms,h1⟩
theorem k133:(Y 212).kind=.struct [(0,3)]:=by kernel_rfl
theorem k135:(Y 214).kind=.struct [(0,9)]:=by kernel_rfl
theorem z133:(Y 212).zero.toArray=#[.int .i64 0]:=by kernel_rfl
theorem z135:(Y 214).zero.toArray=#[.string (ByteArray.mk #[])]:=by kernel_rfl
theorem z26:(Y 30).zero.toArray=#[.int .i64 0]:=by kernel_rfl
theorem s133:(Y 212).size=1:=by kernel_rfl
theorem s135:(Y 214).size=1:=by kernel_rfl
theorem s26:(Y 30).size=1:=by kernel_rfl
theorem kn133:(Y 212).known=true:=by kernel_rfl
theorem kn135:(Y 214).known=true:=by kernel_rfl
theorem kn26:(Y 30).known=true:=by kernel_rfl
theorem ev_const {a:Act} {v:Value}:a.eval (.const v)=v:=rfl
theorem sl1 (p v:Value):SL { tmps:=#[p]++(Array.replicate 13 undef).setIfInBounds 4 v,defers:=[] } 14 (upd (fun t=>#[p].getD t undef) 5 v) []:=by
 have:=(SL.start #[p] 14 (Nat.le_of_ble_eq_true rfl)).put (d:=5) (by decide) v
 simpa [Act.put] using this
def stO (t:TypeId) (p q:Operand):Oper:={ dst:=none,op:=Op.store t p q,type:=0,pos:= "",after:=#[],guard:=none }
theorem catch_idle (p:Value) (w:World):
  CallsD Tryz.prog 105 #[p] .returning w fun e u' w'=>e=.returned (.tuple #[])/\u'=.returning/\w'=w:=by
 refine callsD_of_wpS Tryz.func105 rfl fun c₀ cs hu=>?_
 apply wpS_seq
 apply wpS_region
 simp [wpOpsS,go_sem,recoverD,hu,Tryz.ntmps105,Exit.thenS]
 have S:=sl1 p .nilIface
 refine wpS_of_wp (wp_block (wp_seq (wp_region_list ?_)))
 generalize ({ tmps:=#[p]++(Array.replicate 13 undef).setIfInBounds 4 Value.nilIface,defers:=[] }:Act)=a at S ⊢
 refine rl_val S (d:=7) (v:=.bool true) (w':=w) rfl (by decide) rfl ?_ fun a1 S1=>?_
 ·simp [execOp,S.eval,upd,run_eql_nil_nil und20,ev_const,eqGuard]
 refine wp_cond_true (by simp [S1.eval,upd]) (wp_region_list ?_)
 refine rl_val S1 (d:=1) (v:=.nilIface) (w':=w) rfl (by decide) rfl ?_ fun a2 S2=>?_
 ·simp [execOp,S1.eval,upd]
 cases c₀
 simp_all [wpList,bodyPostS,results,Tryz.results105,Exit.inBlock,S2.defers]
theorem catch_row (b1:Nat) (x:Int) (older:List PanicEntry) (w:World) (h1:w.heap[b1]?=some (.cells #[.int .i64 0] 30 (0,0))):
  CallsD Tryz.prog 105 #[.pointer (some ⟨b1,0,none⟩)] (.panicking ({ v:=.iface 212 (.agg #[.int .i64 x]),recovered:=false }::older)) w fun e u' w'=>
   e=.returned (.tuple #[])/\u'=.panicking ({ v:=.iface 212 (.agg #[.int .i64 x]),recovered:=true }::older)/\Same w w'/\w'.heap[b1]?=some (.cells #[.int .i64 5] 30 (0,0))/\
   ∀ b,b<w.heap.size->b≠b1->w'.heap[b]?=w.heap[b]?:=by
 have l1:b1<w.heap.size:=(Array.getElem?_eq_some_iff.1 h1).1
 refine callsD_of_wpS Tryz.func105 rfl fun c₀ cs hu=>?_
 apply wpS_seq
 apply wpS_region
 simp [wpOpsS,go_sem,recoverD,hu,Tryz.ntmps105,Exit.thenS]
 have S:=sl1 (.pointer (some ⟨b1,0,none⟩)) (.iface 212 (.agg #[.int .i64 x]))
 refine wpS_of_wp (wp_block (wp_seq (wp_region_list ?_)))
 generalize ({ tmps:=#[Value.pointer (some ⟨b1,0,none⟩)]++(Array.replicate 13 undef).setIfInBounds 4 (Value.iface 212 (.agg #[.int .i64 x])),defers:=[] }:Act)=a at S ⊢
 refine rl_val S (d:=7) (v:=.bool false) (w':=w) rfl (by decide) rfl ?_ fun a1 S1=>?_
 ·simp [execOp,S.eval,upd,run_eql_iface_nil und20,ev_const,eqGuard]
 refine wp_cond_false (by simp [S1.eval,upd]) (wp_seq (wp_region_list ?_))
 refine rl_val S1 (d:=8) (v:=.tuple #[.agg #[.int .i64 x],.bool true]) (w':=w) rfl (by decide) rfl ?_ fun a2 S2=>?_
 ·simp [execOp,S1.eval,upd,run_assert_yes (yok 212 kn133) ⟨_,k133⟩]
 refine rl_val S2 (d:=9) (v:=.bool true) (w':=w) rfl (by decide) rfl ?_ fun a3 S3=>?_
 ·simp [execOp,S2.eval,upd,Instr.extract]
 refine rl_val S3 (d:=10) (v:=.agg #[.int .i64 x]) (w':=w) rfl (by decide) rfl ?_ fun a7 S7=>?_
 ·simp [execOp,S3.eval,upd,Instr.extract]
 refine wp_cond_true (by simp [S7.eval,upd]) (wp_seq (wp_region_list ?_))
 have hal:=fun (o:Oper) (ho:o.op=Op.alloc 212)=>raw_alloc (P:=Tryz.prog) (a:=a7) (w:=w) (o:=o) yok (t:=212) ho kn133
 rw [z133] at hal
 refine rl_val S7 (d:=2) rfl (by decide) rfl (hal _ rfl) fun a8 S8=>?_
 obtain ⟨w1,hw1⟩:∃ w1,w.alloc (.cells #[.int .i64 0] 212 (0,0))=w1:=⟨_,rfl⟩
 have hw1':w.alloc (.cells #[.int .i64 0] 212)=w1:=hw1
 rw [hw1']
 have g1:Same w w1:=by rw [<-hw1];exact same_alloc _ _
 have g2:∀ b,b<w.heap.size->w1.heap[b]?=w.heap[b]?:=fun b hb=>by rw [<-hw1];exact heap_alloc_lt _ _ hb
 have g3:w1.heap[w.heap.size]?=some (.cells #[.int .i64 0] 212 (0,0)):=by rw [<-hw1];exact World.alloc_heap_new w _
 have H:=fun (o:Oper) (ho:o.op=Op.store 212 (.tmp 2) (.tmp 10))=>raw_store (P:=Tryz.prog) (a:=a8) (w:=w1) (v:=.agg #[.int .i64 x]) (b:=w.heap.size) (o:=o)
  yok (t:=212) ho kn133 (by simp [S8.eval,upd]) (by simp [S8.eval,upd]) (by rw [s133];rfl) (by rw [s133];rfl) (by simp [Value.cells,Value.oneCell']) g3
 obtain ⟨_,r2,r3,r4⟩:=H (stO 212 (.tmp 2) (.tmp 10)) rfl
 refine rl_skip S8 rfl rfl (H _ rfl).1 fun a9 S9=>?_
 clear H
 generalize w1.setRow w.heap.size (Value.agg #[.int .i64 x]).cells=w2 at r2 r3 r4 ⊢
 refine wp_region_list ?_
 have g5:w2.heap[b1]?=some (.cells #[.int .i64 0] 30 (0,0)):=by rw [r4 _ (by omega),g2 _ l1];exact h1
 have H:=fun (o:Oper) (ho:o.op=Op.store 30 (.tmp 0) (.const (.int .i64 5)))=>raw_store (P:=Tryz.prog) (a:=a9) (w:=w2) (v:=.int .i64 5) (b:=b1) (o:=o)
  yok (t:=30) ho kn26 (by simp [S9.eval,upd]) rfl (by rw [s26];rfl) (by rw [s26];rfl) (by simp [Value.cells,Value.oneCell']) g5
 obtain ⟨_,t2,t3,t4⟩:=H (stO 30 (.tmp 0) (.const (.int .i64 5))) rfl
 refine rl_skip S9 rfl rfl (H _ rfl).1 fun a10 S10=>?_
 clear H
 generalize w2.setRow b1 (Value.int .i64 5).cells=w4 at t2 t3 t4 ⊢
 have e3:∀ b,b<w.heap.size->b≠b1->w4.heap[b]?=w.heap[b]?:=fun b hb h1=>by rw [t4 _ h1,r4 _ (by omega),g2 _ hb]
 have e4:Same w w4:=(g1.trans r3).trans t3
 exact ⟨S10.defers,_,rfl,.tuple #[],by simp [results,Tryz.results105],rfl,rfl,e4,t2,e3⟩
theorem catch_text (b1:Nat) (x:ByteArray) (older:List PanicEntry) (w:World) (h1:w.heap[b1]?=some (.cells #[.int .i64 0] 30 (0,0))):
  CallsD Tryz.prog 105 #[.pointer (some ⟨b1,0,none⟩)] (.panicking ({ v:=.iface 214 (.agg #[.string x]),recovered:=false }::older)) w fun e u' w'=>
   e=.returned (.tuple #[])/\u'=.panicking ({ v:=.iface 214 (.agg #[.string x]),recovered:=true }::older)/\Same w w'/\w'.heap[b1]?=some (.cells #[.int .i64 4] 30 (0,0))/\
   ∀ b,b<w.heap.size->b≠b1->w'.heap[b]?=w.heap[b]?:=by
 have l1:b1<w.heap.size:=(Array.getElem?_eq_some_iff.1 h1).1
 refine callsD_of_wpS Tryz.func105 rfl fun c₀ cs hu=>?_
 apply wpS_seq
 apply wpS_region
 simp [wpOpsS,go_sem,recoverD,hu,Tryz.ntmps105,Exit.thenS]
 have S:=sl1 (.pointer (some ⟨b1,0,none⟩)) (.iface 214 (.agg #[.string x]))
 refine wpS_of_wp (wp_block (wp_seq (wp_region_list ?_)))
 generalize ({ tmps:=#[Value.pointer (some ⟨b1,0,none⟩)]++(Array.replicate 13 undef).setIfInBounds 4 (Value.iface 214 (.agg #[.string x])),defers:=[] }:Act)=a at S ⊢
 refine rl_val S (d:=7) (v:=.bool false) (w':=w) rfl (by decide) rfl ?_ fun a1 S1=>?_
 ·simp [execOp,S.eval,upd,run_eql_iface_nil und20,ev_const,eqGuard]
 refine wp_cond_false (by simp [S1.eval,upd]) (wp_seq (wp_region_list ?_))
 obtain ⟨z,hz⟩:=run_assert_no (Y:=Y) (t:=212) (t':=214) (xt:=20) (v:=.agg #[.string x]) (w:=w) yok ⟨_,k133⟩ (by decide)
 refine rl_val S1 (d:=8) (v:=.tuple #[z,.bool false]) (w':=w) rfl (by decide) rfl ?_ fun a2 S2=>?_
 ·simp [execOp,S1.eval,upd,hz]
 refine rl_val S2 (d:=9) (v:=.bool false) (w':=w) rfl (by decide) rfl ?_ fun a3 S3=>?_
 ·simp [execOp,S2.eval,upd,Instr.extract]
 refine rl_val S3 (d:=10) (v:=z) (w':=w) rfl (by decide) rfl ?_ fun a4 S4=>?_
 ·simp [execOp,S3.eval,upd,Instr.extract]
 refine wp_cond_false (by simp [S4.eval,upd]) (wp_seq (wp_region_list ?_))
 refine rl_val S4 (d:=11) (v:=.tuple #[.agg #[.string x],.bool true]) (w':=w) rfl (by decide) rfl ?_ fun a5 S5=>?_
 ·simp [execOp,S4.eval,upd,run_assert_yes (yok 214 kn135) ⟨_,k135⟩]
 refine rl_val S5 (d:=12) (v:=.bool true) (w':=w) rfl (by decide) rfl ?_ fun a6 S6=>?_
 ·simp [execOp,S5.eval,upd,Instr.extract]
 refine rl_val S6 (d:=13) (v:=.agg #[.string x]) (w':=w) rfl (by decide) rfl ?_ fun a7 S7=>?_
 ·simp [execOp,S6.eval,upd,Instr.extract]
 refine wp_cond_true (by simp [S7.eval,upd]) (wp_seq (wp_region_list ?_))
 have hal:=fun (o:Oper) (ho:o.op=Op.alloc 214)=>raw_alloc (P:=Tryz.prog) (a:=a7) (w:=w) (o:=o) yok (t:=214) ho kn135
 rw [z135] at hal
 refine rl_val S7 (d:=3) rfl (by decide) rfl (hal _ rfl) fun a8 S8=>?_
 obtain ⟨w1,hw1⟩:∃ w1,w.alloc (.cells #[.string (ByteArray.mk #[])] 214 (0,0))=w1:=⟨_,rfl⟩
 have hw1':w.alloc (.cells #[.string (ByteArray.mk #[])] 214)=w1:=hw1
 rw [hw1']
 have g1:Same w w1:=by rw [<-hw1];exact same_alloc _ _
 have g2:∀ b,b<w.heap.size->w1.heap[b]?=w.heap[b]?:=fun b hb=>by rw [<-hw1];exact heap_alloc_lt _ _ hb
 have g3:w1.heap[w.heap.size]?=some (.cells #[.string (ByteArray.mk #[])] 214 (0,0)):=by rw [<-hw1];exact World.alloc_heap_new w _
 have H:=fun (o:Oper) (ho:o.op=Op.store 214 (.tmp 3) (.tmp 13))=>raw_store (P:=Tryz.prog) (a:=a8) (w:=w1) (v:=.agg #[.string x]) (b:=w.heap.size) (o:=o)
  yok (t:=214) ho kn135 (by simp [S8.eval,upd]) (by simp [S8.eval,upd]) (by rw [s135];rfl) (by rw [s135];rfl) (by simp [Value.cells,Value.oneCell']) g3
 obtain ⟨_,r2,r3,r4⟩:=H (stO 214 (.tmp 3) (.tmp 13)) rfl
 refine rl_skip S8 rfl rfl (H _ rfl).1 fun a9 S9=>?_
 clear H
 generalize w1.setRow w.heap.size (Value.agg #[.string x]).cells=w2 at r2 r3 r4 ⊢
 refine wp_region_list ?_
 have g5:w2.heap[b1]?=some (.cells #[.int .i64 0] 30 (0,0)):=by rw [r4 _ (by omega),g2 _ l1];exact h1
 have H:=fun (o:Oper) (ho:o.op=Op.store 30 (.tmp 0) (.const (.int .i64 4)))=>raw_store (P:=Tryz.prog) (a:=a9) (w:=w2) (v:=.int .i64 4) (b:=b1) (o:=o)
  yok (t:=30) ho kn26 (by simp [S9.eval,upd]) rfl (by rw [s26];rfl) (by rw [s26];rfl) (by simp [Value.cells,Value.oneCell']) g5
 obtain ⟨_,t2,t3,t4⟩:=H (stO 30 (.tmp 0) (.const (.int .i64 4))) rfl
 refine rl_skip S9 rfl rfl (H _ rfl).1 fun a10 S10=>?_
 clear H
 generalize w2.setRow b1 (Value.int .i64 4).cells=w4 at t2 t3 t4 ⊢
 have e3:∀ b,b<w.heap.size->b≠b1->w4.heap[b]?=w.heap[b]?:=fun b hb h1=>by rw [t4 _ h1,r4 _ (by omega),g2 _ hb]
 have e4:Same w w4:=(g1.trans r3).trans t3
 exact ⟨S10.defers,_,rfl,.tuple #[],by simp [results,Tryz.results105],rfl,rfl,e4,t2,e3⟩
def attV:Ending->Value
 | .panicked [{ v:=.iface 212 _,.. }]=>.int .i64 5
 | .panicked [{ v:=.iface 214 _,.. }]=>.int .i64 4
 |_=>.int .i64 0
def attW (w:World):World:=w.alloc (.cells #[.int .i64 0] 30 (0,0))
structure AttOK (w w':World) (en:Ending):Prop where
 one:w'.heap[w.heap.size]?=some (.cells #[.int .i64 0] 30 (0,0))
 en:en=.returned (.tuple #[])∨(∃ x,en=.panicked [{ v:=.iface 212 (.agg #[.int .i64 x]),recovered:=false }])∨∃ s,en=.panicked [{ v:=.iface 214 (.agg #[.string s]),recovered:=false }]
theorem att_results {a:Act} {w:World} {b1:Nat} {x:Value} (h1:a.tmps.getD 2 undef=.pointer (some ⟨b1,0,none⟩))
  (g1:w.heap[b1]?=some (.cells #[x] 30 (0,0))):(results Tryz.f38 a.tmps).run Tryz.prog w=.ok x w:=by
 have l1:=run_load1 yok (t:=30) (by kernel_rfl) (w:=w) (b:=b1) (off:=0) (u:=x) (by simp [World.cell?,g1])
 have he:Tryz.f38.results.mapM (resM a.tmps)=List.toArray <$> Tryz.f38.results.toList.mapM (resM a.tmps):=Array.mapM_eq_mapM_toList ..
 have he2:results Tryz.f38 a.tmps=(Tryz.f38.results.mapM (resM a.tmps) >>= fun vs=>pure (if h:vs.size=1 then vs[0] else .tuple vs)):=rfl
 have hrun:([ResultVar.cell 2 30].mapM (resM a.tmps)).run Tryz.prog w=.ok [x] w:=by
  have r1:(resM a.tmps (.cell 2 30)).run Tryz.prog w=.ok x w:=by simp [resM,h1,asAddr,l1]
  rw [run_mapM_cons,r1,Result.andThen_ok]
  simp
 rw [he2,he,Tryz.results38]
 simp only [Sem.run_bind,Sem.run_map,hrun,Result.andThen_ok,Sem.run_pure]
 rfl
theorem attempt_calls (g:FuncId) (hg:FnOK Tryz.prog g) (us vs:Array Value) (w:World) (R:Ending->World->Prop) (hcall:Calls Tryz.prog g (us++vs) (attW w) R) (hR:∀ en w',R en w'->AttOK w w' en):
  Calls Tryz.prog 38 #[.func (.func g) us vs] w fun en w''=>∃ en0 w',R en0 w'/\Same w' w''/\(∀ b,b<w'.heap.size->b≠w.heap.size->w''.heap[b]?=w'.heap[b]?)/\(∃ x,w''.heap[w.heap.size]?=some (.cells #[x] 30 (0,0)))/\en=.returned (attV en0):=by
 go_enter_defers Tryz.func38,Tryz.ntmps38
 have S:SL { tmps:=#[Value.func (Fn.func g) us vs,undef,undef,undef,undef,undef],defers:=[] } 6 (fun t=>#[Value.func (Fn.func g) us vs].getD t undef) []:=by
  exact SL.start #[Value.func (Fn.func g) us vs] 6 (Nat.le_of_ble_eq_true rfl)
 generalize ({ tmps:=#[Value.func (Fn.func g) us vs,undef,undef,undef,undef,undef],defers:=[] }:Act)=a at S ⊢
 refine wp_seq (wp_region_list ?_)
 have hal:=fun (o:Oper) (ho:o.op=Op.alloc 30)=>raw_alloc (P:=Tryz.prog) (a:=a) (w:=w) (o:=o) yok (t:=30) ho kn26
 rw [z26] at hal
 refine rl_val S (d:=2) rfl (by decide) rfl (hal _ rfl) fun a2 S2=>?_
 show Code.wp Tryz.prog _ _ a2 (attW w)
 generalize hw1:attW w=w1 at hcall ⊢
 refine wp_seq (wp_region_list ?_)
 refine rl_val S2 (d:=3) (v:=.func (.func 105) #[] #[.pointer (some ⟨w.heap.size,0,none⟩)]) (w':=w1) rfl (by decide) rfl ?_ fun a3 S3=>?_
 ·simp [execOp,S2.eval,upd,Instr.makeFunc]
 refine rl_defer S3 (d:={ target:=.fn (.func 105) #[.pointer (some ⟨w.heap.size,0,none⟩)],args:=#[] }) rfl rfl ?_ fun a4 S4=>?_
 ·simp [execOp,resolve,S3.eval,upd,Deferred.ofValue]
 refine wp_seq (wp_region_list ?_)
 refine rl_val S4 (d:=4) (v:=.func (.func g) us vs) (w':=w1) rfl (by decide) rfl ?_ fun a5 S5=>?_
 ·simp [execOp,S4.eval,upd]
 have hinv:∀ (p:Value) (w:World),(invoke (.fn (.func 105) #[p]) #[]).run Tryz.prog w=.ok (.enter 105 #[p]) w:=fun p w=>by
  have h2:(Tryz.f105.name== "runtime.NumGoroutine")=false:=by kernel_rfl
  have h3:Tryz.f105.body.isNone=false:=by kernel_rfl
  have h2':Tryz.f105.name≠ "runtime.NumGoroutine":=by simpa using h2
  have h3':Tryz.f105.body≠none:=by intro hh;rw [hh] at h3;cases h3
  simp [invoke,callFunc,Tryz.func105,h2',h3']
 refine rl_call S5 (d:=5) (g:=g) (vs:=us++vs) (R:=R) rfl (by decide) rfl ?_ hcall (fun v w2 hr a6 S6=>?_) (fun ch w2 hr=>?_) (fun w2 hr=>?_)
 ·have:=fun (o:Oper) (ho:o.op=Op.call { callee:=Callee.value (Operand.tmp 4),args:=#[],argTypes:=#[] })=>exec_call (P:=Tryz.prog) (a:=a5) (w:=w1) (o:=o) ho (by simp [S5.eval,upd]) hg (us:=us) (cvs:=vs)
  simpa using this _ rfl
 ·obtain ⟨c1,c3⟩:=hR _ _ hr
  have l1:w.heap.size<w2.heap.size:=(Array.getElem?_eq_some_iff.1 c1).1
  refine wp_seq (wp_region_list ?_)
  have H:=fun (o:Oper) (ho:o.op=Op.store 30 (.tmp 2) (.const (.int .i64 0)))=>raw_store (P:=Tryz.prog) (a:=a6) (w:=w2) (v:=.int .i64 0) (b:=w.heap.size) (o:=o)
   yok (t:=30) ho kn26 (by simp [S6.eval,upd]) rfl (by rw [s26];rfl) (by rw [s26];rfl) (by simp [Value.cells,Value.oneCell']) c1
  obtain ⟨_,t2,t3,t4⟩:=H (stO 30 (.tmp 2) (.const (.int .i64 0))) rfl
  refine rl_skip S6 rfl rfl (H _ rfl).1 fun a9 S9=>?_
  clear H
  generalize w2.setRow w.heap.size (Value.int .i64 0).cells=w4 at t2 t3 t4 ⊢
  refine wp_ret ?_
  show Leaves Tryz.prog Tryz.f38 a9.tmps _ a9.defers .returning w4
  rw [S9.defers]
  refine leaves_cons (by simp) (hinv _ w4) ((catch_idle _ w4).mono ?_)
  rintro e u' w5 ⟨rfl,rfl,rfl⟩
  have r1:=att_results (a:=a9) (w:=w5) (b1:=w.heap.size) (by rw [S9.get 2 (by decide)];simp [upd]) t2
  refine ⟨_,r1,_,_,hr,t3,fun b hb h1=>t4 _ h1,⟨_,t2⟩,?_⟩
  rcases c3 with h|⟨_,h⟩|⟨_,h⟩<;>cases h
  rfl
 ·obtain ⟨c1,c3⟩:=hR _ _ hr
  have l1:w.heap.size<w2.heap.size:=(Array.getElem?_eq_some_iff.1 c1).1
  show Leaves Tryz.prog Tryz.f38 a5.tmps _ a5.defers (.panicking ch) w2
  rw [S5.defers]
  refine leaves_cons (by simp) (hinv _ w2) ?_
  have e1:a5.tmps.getD 2 undef=.pointer (some ⟨w.heap.size,0,none⟩):=by rw [S5.get 2 (by decide)];simp [upd]
  rcases c3 with h|⟨x,h⟩|⟨s,h⟩
  ·cases h
  ·obtain rfl:ch=[{ v:=.iface 212 (.agg #[.int .i64 x]),recovered:=false }]:=Ending.panicked.inj h
   refine (catch_row _ x [] w2 c1).mono ?_
   rintro e u' w5 ⟨rfl,rfl,g1,g2,g4⟩
   have r1:=att_results (a:=a5) (w:=w5) e1 g2
   exact ⟨_,r1,_,_,hr,g1,g4,⟨_,g2⟩,rfl⟩
  ·obtain rfl:ch=[{ v:=.iface 214 (.agg #[.string s]),recovered:=false }]:=Ending.panicked.inj h
   refine (catch_text _ s [] w2 c1).mono ?_
   rintro e u' w5 ⟨rfl,rfl,g1,g2,g4⟩
   have r1:=att_results (a:=a5) (w:=w5) e1 g2
   exact ⟨_,r1,_,_,hr,g1,g4,⟨_,g2⟩,rfl⟩
 ·obtain ⟨_,c3⟩:=hR _ _ hr
  rcases c3 with h|⟨_,h⟩|⟨_,h⟩<;>cases h
variable {Gl:World->Prop}
inductive AttR:Res->Int->Prop
 |ok:AttR (.ret (.tup [])) 0
 |row (x:Int):AttR (.pan (.iface 212 (.agg #[.int .i64 x]))) 5
 |text (s:ByteArray):AttR (.pan (.iface 214 (.agg #[.string s]))) 4
theorem attW_size (w:World):(attW w).heap.size=w.heap.size+1:=by simp [attW,World.size_alloc]
theorem attW_lt (w:World) {b:Nat} (h:b<w.heap.size):(attW w).heap[b]?=w.heap[b]?:=by
 unfold attW
 exact heap_alloc_lt _ _ h
theorem attW_same (w:World):Same w (attW w):=same_alloc _ _
theorem attW_one (w:World):(attW w).heap[w.heap.size]?=some (.cells #[.int .i64 0] 30 (0,0)):=World.alloc_heap_new w _
theorem attW_keep {vis:Nat->Nat} {w:World} (h:∀ b,w.heap.size<=b->vis b=0):KeepV vis w (attW w):=
 ⟨fun b i hi=>World.cell?_of_block (attW_lt w (by
  rcases Nat.lt_or_ge b w.heap.size with hb|hb
  ·exact hb
  ·rw [h b hb] at hi;omega)),fun b hb es c he=>by rw [attW_lt w (Array.getElem?_eq_some_iff.1 he).1];exact he,rows_same fun b h=>attW_lt w h⟩
theorem att_ret {base:Nat} {vis:Nat->Nat} {w:World} (e:Int):RetOK base vis w (I e) (.int .i64 e):=Rep.v _ rfl
theorem attempt74_does {g:FuncId} {fst caps:List T} {r:Res} {ev:Int} {pre post:Env} {yd:Yd} (hpre:preOK pre=true) (hpost:postOK pre post=true) (h:Does Tryz.prog Y Gl yd g (fst++caps) pre r post) (ha:AttR r ev):Does Tryz.prog Y Gl yd 38 [.fn g fst caps] pre (.ret (I ev)) post:=by
 obtain ⟨p0,p1,p2⟩:=preOK_get hpre
 obtain ⟨o1,o2,o3⟩:=postOK_get hpost
 refine ⟨⟨_,Tryz.func38,name38,by kernel_rfl⟩,fun J G w vs hst hgl hyl hfr hH hJ hmem hargs=>?_⟩
 simp only [RelTs,RelT] at hargs
 obtain ⟨v,vs1,hvs,⟨us,cvs,rfl,hu,hc⟩,rfl⟩:=hargs
 obtain rfl:vs=#[.func (.func g) us cvs]:=by rw [<-Array.toArray_toList (xs:=vs),hvs]
 have hkv:=attW_keep (w:=w) hfr
 have hext:Ext (fun _=>False) G G w (attW w):=⟨fun _=>Nat.le_refl _,hkv,fun b hb=>hb.elim⟩
 have hrel:RelTs G (attW w) (fun _=>False) (fst++caps) (us++cvs).toList:=by
  rw [Array.toList_append]
  exact (RelTs.mono hext (fun _ _=>rfl) hu).app (RelTs.mono hext (fun _ _=>rfl) hc)
 have hbk:∀ id,pre.get 2 id≠.any->G.bk id<w.heap.size:=fun id hid=>(hmem.box id hid).2.1
 have hJ1:=hst.1 _ _ _ _ _ hJ (fun b hb=>attW_lt w (hH b hb)) hkv (attW_same w)
 have hmem1:Mem Y (fun _=>False) pre (attW w) G:=Mem.keep (preOK_obj hpre) p1 (fun id hid=>attW_lt w (hbk id hid)) hkv (attW_same w) hmem
 have hsz:=attW_size w
 have hused:∀ id,Env.get (over post pre) 2 id≠.any->pre.get 2 id≠.any:=fun id hid=>by
  rw [get_over] at hid
  split at hid
  ·rename_i hk
   have:=o2 id hk
   intro hh
   rw [hh] at this
   unfold kindOK at this
   split at this<;>first|(rename_i hx;cases hx;done)|cases this
  ·exact hid
 have htok:∀ k,Env.get (over post pre) 1 k=.any:=fun k=>by
  rw [get_over,o1 k,if_neg (by decide)];exact p1 k
 have hobj:∀ id,Env.get (over post pre) 2 id≠.any->isObj (Env.get (over post pre) 2 id)=true:=fun id hid=>by
  rw [get_over] at hid ⊢
  split
  ·rename_i hk
   have:=o2 id hk
   unfold kindOK at this
   split at this<;>first|(rename_i hx _;rw [hx];rfl)|(rename_i hx;rw [hx];rfl)|(cases this)
  ·rename_i hk
   rw [if_neg hk] at hid
   exact preOK_obj hpre id hid
 have hcall:=h.2 J G (attW w) (us++cvs) hst hgl hyl (fun b hb=>hfr b (by omega)) (fun b hb=>by have:=hH b hb;omega) hJ1 hmem1 hrel
 refine (attempt_calls g h.1 us cvs w _ hcall fun en w' ⟨h1,h2,h3,h4,h5⟩=>⟨?_,?_⟩).mono ?_
 ·rw [h3 _ (by omega) (fun hh=>by have:=hH _ hh;omega) (fun id hid hh=>by have:=hbk id hid;omega)];exact attW_one w
 ·obtain ⟨G',_,_,_,_,_,_,_,hr⟩:=h5
  cases ha with
  |ok=>
   obtain ⟨v,rfl,vs,rfl,hr⟩:=hr
   obtain rfl:vs=#[]:=by
    have:=hr.1
    exact Array.eq_empty_of_size_eq_zero (by simpa using this.symm)
   exact .inl rfl
  |row x=>exact .inr (.inl ⟨x,hr⟩)
  |text s=>exact .inr (.inr ⟨s,hr⟩)
 ·rintro en w2 ⟨en0,w',⟨h1,h2,h3,h4,h5⟩,hs,hh,⟨x2,hx2⟩,rfl⟩
  have s1:=h1.size
  have s2:=hs.size
  obtain ⟨G',g1,g2,g3,g4,g5,g6,g7,hr⟩:=h5
  have hkeep2:∀ vis:Nat->Nat,(∀ b,w'.heap.size<=b->vis b=0)->vis w.heap.size=0->KeepV vis w' w2:=fun vis v1 v2=>by
   have hv:∀ b,0<vis b->w2.heap[b]?=w'.heap[b]?:=fun b hb=>hh b (by
    rcases Nat.lt_or_ge b w'.heap.size with h|h
    ·exact h
    ·rw [v1 b h] at hb;omega) (fun h=>by rw [h,v2] at hb;omega)
   refine ⟨fun b i hi=>World.cell?_of_block (hv b (by omega)),fun b hb es c he=>by rw [hv b hb];exact he,fun b cs t z hcs=>?_⟩
   by_cases hb:b=w.heap.size
   ·have h9:=h3 w.heap.size (by omega) (fun hh=>by have:=hH _ hh;omega) (fun id hid hh=>by have:=hbk id hid;omega)
    rw [hb,h9,attW_one w] at hcs
    obtain ⟨rfl,rfl,rfl⟩:=Obj.cells.inj (Option.some.inj hcs)
    rw [hb]
    exact ⟨_,_,_,hx2,Nat.le_refl _⟩
   ·exact ⟨cs,t,z,(hh b (Array.getElem?_eq_some_iff.1 hcs).1 hb).trans hcs,Nat.le_refl _⟩
  have hH':∀ b,G'.H b->w2.heap[b]?=w'.heap[b]?:=fun b hb=>by
   refine hh b (g5 b hb) (fun he=>?_)
   have:=hH b ((g4 b (by omega)).1 hb);omega
  have v1:G'.vis w.heap.size=0:=by rw [g2 _ (by omega)];exact hfr _ (by omega)
  refine ⟨((attW_same w).trans h1).trans hs,(hkv.trans h2).trans (hkeep2 G.vis (fun b hb=>hfr b (by omega)) (hfr _ (by omega))),fun b hb hn hno=>?_,fun id k hl hk=>?_,G',g1,fun b hb=>g2 b (by omega),fun b hb=>g3 b (by omega),
   fun b hb=>g4 b (by omega),fun b hb=>by have:=g5 b hb;omega,hst.1 _ _ _ _ _ g6 hH' (hkeep2 G'.vis g3 v1) hs,Mem.keep hobj htok (fun id hid=>?_) (hkeep2 G'.vis g3 v1) hs g7,?_⟩
  ·rw [hh b (by omega) (by omega),h3 b (by omega) hn hno,attW_lt w hb]
  ·have hid:pre.get 2 id≠.any:=by rw [hl];exact live_ne
   have hlt:=hbk id hid
   rw [World.cell?_of_block (show w2.heap[G.bk id]?=w'.heap[G.bk id]? from hh _ (by omega) (by omega)),h4 id k hl hk,World.cell?_of_block (show (attW w).heap[G.bk id]?=w.heap[G.bk id]? from attW_lt w hlt)]
  ·have hlt:=hbk id (hused id hid)
   rw [g1]
   exact hh _ (by omega) (by omega)
  ·cases ha with
   |ok=>
    obtain ⟨v,rfl,_⟩:=hr
    exact ⟨_,rfl,att_ret 0⟩
   |row x=>
    have hr:en0=_:=hr
    subst hr
    exact ⟨_,rfl,att_ret 5⟩
   |text s=>
    have hr:en0=_:=hr
    subst hr
    exact ⟨_,rfl,att_ret 4⟩
end Go.Vc.Zn
namespace Go.Vc.Zn.Co
open Go Go.Proofs Go.Vc Go.RowKit
theorem und20:∃ ms,Tryz.prog.underlying 20=some (.interface ms):=by
 obtain ⟨d,i,z,h1,_,_,_,_,_,h7,_⟩:=yok 20 (by kernel_rfl)
 obtain ⟨ms,rfl⟩:∃ ms,d=.interface ms:=h7
 exact ⟨ms,h1⟩
theorem k133:(Y 358).kind=.struct [(0,3)]:=by kernel_rfl
theorem k135:(Y 360).kind=.struct [(0,9)]:=by kernel_rfl
theorem z133:(Y 358).zero.toArray=#[.int .i64 0]:=by kernel_rfl
theorem z135:(Y 360).zero.toArray=#[.string (ByteArray.mk #[])]:=by kernel_rfl
theorem z26:(Y 30).zero.toArray=#[.int .i64 0]:=by kernel_rfl
theorem s133:(Y 358).size=1:=by kernel_rfl
theorem s135:(Y 360).size=1:=by kernel_rfl
theorem s26:(Y 30).size=1:=by kernel_rfl
theorem kn133:(Y 358).known=true:=by kernel_rfl
theorem kn135:(Y 360).known=true:=by kernel_rfl
theorem kn26:(Y 30).known=true:=by kernel_rfl
theorem ev_const {a:Act} {v:Value}:a.eval (.const v)=v:=rfl
theorem sl1 (p v:Value):SL { tmps:=#[p]++(Array.replicate 13 undef).setIfInBounds 4 v,defers:=[] } 14 (upd (fun t=>#[p].getD t undef) 5 v) []:=by
 have:=(SL.start #[p] 14 (Nat.le_of_ble_eq_true rfl)).put (d:=5) (by decide) v
 simpa [Act.put] using this
def stO (t:TypeId) (p q:Operand):Oper:={ dst:=none,op:=Op.store t p q,type:=0,pos:= "",after:=#[],guard:=none }
theorem catch_idle (p:Value) (w:World):
  CallsD Tryz.prog 197 #[p] .returning w fun e u' w'=>e=.returned (.tuple #[])/\u'=.returning/\w'=w:=by
 refine callsD_of_wpS Tryz.func197 rfl fun c₀ cs hu=>?_
 apply wpS_seq
 apply wpS_region
 simp [wpOpsS,go_sem,recoverD,hu,Tryz.ntmps197,Exit.thenS]
 have S:=sl1 p .nilIface
 refine wpS_of_wp (wp_block (wp_seq (wp_region_list ?_)))
 generalize ({ tmps:=#[p]++(Array.replicate 13 undef).setIfInBounds 4 Value.nilIface,defers:=[] }:Act)=a at S ⊢
 refine rl_val S (d:=7) (v:=.bool true) (w':=w) rfl (by decide) rfl ?_ fun a1 S1=>?_
 ·simp [execOp,S.eval,upd,run_eql_nil_nil und20,ev_const,eqGuard]
 refine wp_cond_true (by simp [S1.eval,upd]) (wp_region_list ?_)
 refine rl_val S1 (d:=1) (v:=.nilIface) (w':=w) rfl (by decide) rfl ?_ fun a2 S2=>?_
 ·simp [execOp,S1.eval,upd]
 cases c₀
 simp_all [wpList,bodyPostS,results,Tryz.results197,Exit.inBlock,S2.defers]
theorem catch_row (b1:Nat) (x:Int) (older:List PanicEntry) (w:World) (h1:w.heap[b1]?=some (.cells #[.int .i64 0] 30 (0,0))):
  CallsD Tryz.prog 197 #[.pointer (some ⟨b1,0,none⟩)] (.panicking ({ v:=.iface 358 (.agg #[.int .i64 x]),recovered:=false }::older)) w fun e u' w'=>
   e=.returned (.tuple #[])/\u'=.panicking ({ v:=.iface 358 (.agg #[.int .i64 x]),recovered:=true }::older)/\Same w w'/\w'.heap[b1]?=some (.cells #[.int .i64 7] 30 (0,0))/\
   ∀ b,b<w.heap.size->b≠b1->w'.heap[b]?=w.heap[b]?:=by
 have l1:b1<w.heap.size:=(Array.getElem?_eq_some_iff.1 h1).1
 refine callsD_of_wpS Tryz.func197 rfl fun c₀ cs hu=>?_
 apply wpS_seq
 apply wpS_region
 simp [wpOpsS,go_sem,recoverD,hu,Tryz.ntmps197,Exit.thenS]
 have S:=sl1 (.pointer (some ⟨b1,0,none⟩)) (.iface 358 (.agg #[.int .i64 x]))
 refine wpS_of_wp (wp_block (wp_seq (wp_region_list ?_)))
 generalize ({ tmps:=#[Value.pointer (some ⟨b1,0,none⟩)]++(Array.replicate 13 undef).setIfInBounds 4 (Value.iface 358 (.agg #[.int .i64 x])),defers:=[] }:Act)=a at S ⊢
 refine rl_val S (d:=7) (v:=.bool false) (w':=w) rfl (by decide) rfl ?_ fun a1 S1=>?_
 ·simp [execOp,S.eval,upd,run_eql_iface_nil und20,ev_const,eqGuard]
 refine wp_cond_false (by simp [S1.eval,upd]) (wp_seq (wp_region_list ?_))
 refine rl_val S1 (d:=8) (v:=.tuple #[.agg #[.int .i64 x],.bool true]) (w':=w) rfl (by decide) rfl ?_ fun a2 S2=>?_
 ·simp [execOp,S1.eval,upd,run_assert_yes (yok 358 kn133) ⟨_,k133⟩]
 refine rl_val S2 (d:=9) (v:=.bool true) (w':=w) rfl (by decide) rfl ?_ fun a3 S3=>?_
 ·simp [execOp,S2.eval,upd,Instr.extract]
 refine rl_val S3 (d:=10) (v:=.agg #[.int .i64 x]) (w':=w) rfl (by decide) rfl ?_ fun a7 S7=>?_
 ·simp [execOp,S3.eval,upd,Instr.extract]
 refine wp_cond_true (by simp [S7.eval,upd]) (wp_seq (wp_region_list ?_))
 have hal:=fun (o:Oper) (ho:o.op=Op.alloc 358)=>raw_alloc (P:=Tryz.prog) (a:=a7) (w:=w) (o:=o) yok (t:=358) ho kn133
 rw [z133] at hal
 refine rl_val S7 (d:=2) rfl (by decide) rfl (hal _ rfl) fun a8 S8=>?_
 obtain ⟨w1,hw1⟩:∃ w1,w.alloc (.cells #[.int .i64 0] 358 (0,0))=w1:=⟨_,rfl⟩
 have hw1':w.alloc (.cells #[.int .i64 0] 358)=w1:=hw1
 rw [hw1']
 have g1:Same w w1:=by rw [<-hw1];exact same_alloc _ _
 have g2:∀ b,b<w.heap.size->w1.heap[b]?=w.heap[b]?:=fun b hb=>by rw [<-hw1];exact heap_alloc_lt _ _ hb
 have g3:w1.heap[w.heap.size]?=some (.cells #[.int .i64 0] 358 (0,0)):=by rw [<-hw1];exact World.alloc_heap_new w _
 have H:=fun (o:Oper) (ho:o.op=Op.store 358 (.tmp 2) (.tmp 10))=>raw_store (P:=Tryz.prog) (a:=a8) (w:=w1) (v:=.agg #[.int .i64 x]) (b:=w.heap.size) (o:=o)
  yok (t:=358) ho kn133 (by simp [S8.eval,upd]) (by simp [S8.eval,upd]) (by rw [s133];rfl) (by rw [s133];rfl) (by simp [Value.cells,Value.oneCell']) g3
 obtain ⟨_,r2,r3,r4⟩:=H (stO 358 (.tmp 2) (.tmp 10)) rfl
 refine rl_skip S8 rfl rfl (H _ rfl).1 fun a9 S9=>?_
 clear H
 generalize w1.setRow w.heap.size (Value.agg #[.int .i64 x]).cells=w2 at r2 r3 r4 ⊢
 refine wp_region_list ?_
 have g5:w2.heap[b1]?=some (.cells #[.int .i64 0] 30 (0,0)):=by rw [r4 _ (by omega),g2 _ l1];exact h1
 have H:=fun (o:Oper) (ho:o.op=Op.store 30 (.tmp 0) (.const (.int .i64 7)))=>raw_store (P:=Tryz.prog) (a:=a9) (w:=w2) (v:=.int .i64 7) (b:=b1) (o:=o)
  yok (t:=30) ho kn26 (by simp [S9.eval,upd]) rfl (by rw [s26];rfl) (by rw [s26];rfl) (by simp [Value.cells,Value.oneCell']) g5
 obtain ⟨_,t2,t3,t4⟩:=H (stO 30 (.tmp 0) (.const (.int .i64 7))) rfl
 refine rl_skip S9 rfl rfl (H _ rfl).1 fun a10 S10=>?_
 clear H
 generalize w2.setRow b1 (Value.int .i64 7).cells=w4 at t2 t3 t4 ⊢
 have e3:∀ b,b<w.heap.size->b≠b1->w4.heap[b]?=w.heap[b]?:=fun b hb h1=>by rw [t4 _ h1,r4 _ (by omega),g2 _ hb]
 have e4:Same w w4:=(g1.trans r3).trans t3
 exact ⟨S10.defers,_,rfl,.tuple #[],by simp [results,Tryz.results197],rfl,rfl,e4,t2,e3⟩
theorem catch_text (b1:Nat) (x:ByteArray) (older:List PanicEntry) (w:World) (h1:w.heap[b1]?=some (.cells #[.int .i64 0] 30 (0,0))):
  CallsD Tryz.prog 197 #[.pointer (some ⟨b1,0,none⟩)] (.panicking ({ v:=.iface 360 (.agg #[.string x]),recovered:=false }::older)) w fun e u' w'=>
   e=.returned (.tuple #[])/\u'=.panicking ({ v:=.iface 360 (.agg #[.string x]),recovered:=true }::older)/\Same w w'/\w'.heap[b1]?=some (.cells #[.int .i64 4] 30 (0,0))/\
   ∀ b,b<w.heap.size->b≠b1->w'.heap[b]?=w.heap[b]?:=by
 have l1:b1<w.heap.size:=(Array.getElem?_eq_some_iff.1 h1).1
 refine callsD_of_wpS Tryz.func197 rfl fun c₀ cs hu=>?_
 apply wpS_seq
 apply wpS_region
 simp [wpOpsS,go_sem,recoverD,hu,Tryz.ntmps197,Exit.thenS]
 have S:=sl1 (.pointer (some ⟨b1,0,none⟩)) (.iface 360 (.agg #[.string x]))
 refine wpS_of_wp (wp_block (wp_seq (wp_region_list ?_)))
 generalize ({ tmps:=#[Value.pointer (some ⟨b1,0,none⟩)]++(Array.replicate 13 undef).setIfInBounds 4 (Value.iface 360 (.agg #[.string x])),defers:=[] }:Act)=a at S ⊢
 refine rl_val S (d:=7) (v:=.bool false) (w':=w) rfl (by decide) rfl ?_ fun a1 S1=>?_
 ·simp [execOp,S.eval,upd,run_eql_iface_nil und20,ev_const,eqGuard]
 refine wp_cond_false (by simp [S1.eval,upd]) (wp_seq (wp_region_list ?_))
 obtain ⟨z,hz⟩:=run_assert_no (Y:=Y) (t:=358) (t':=360) (xt:=20) (v:=.agg #[.string x]) (w:=w) yok ⟨_,k133⟩ (by decide)
 refine rl_val S1 (d:=8) (v:=.tuple #[z,.bool false]) (w':=w) rfl (by decide) rfl ?_ fun a2 S2=>?_
 ·simp [execOp,S1.eval,upd,hz]
 refine rl_val S2 (d:=9) (v:=.bool false) (w':=w) rfl (by decide) rfl ?_ fun a3 S3=>?_
 ·simp [execOp,S2.eval,upd,Instr.extract]
 refine rl_val S3 (d:=10) (v:=z) (w':=w) rfl (by decide) rfl ?_ fun a4 S4=>?_
 ·simp [execOp,S3.eval,upd,Instr.extract]
 refine wp_cond_false (by simp [S4.eval,upd]) (wp_seq (wp_region_list ?_))
 refine rl_val S4 (d:=11) (v:=.tuple #[.agg #[.string x],.bool true]) (w':=w) rfl (by decide) rfl ?_ fun a5 S5=>?_
 ·simp [execOp,S4.eval,upd,run_assert_yes (yok 360 kn135) ⟨_,k135⟩]
 refine rl_val S5 (d:=12) (v:=.bool true) (w':=w) rfl (by decide) rfl ?_ fun a6 S6=>?_
 ·simp [execOp,S5.eval,upd,Instr.extract]
 refine rl_val S6 (d:=13) (v:=.agg #[.string x]) (w':=w) rfl (by decide) rfl ?_ fun a7 S7=>?_
 ·simp [execOp,S6.eval,upd,Instr.extract]
 refine wp_cond_true (by simp [S7.eval,upd]) (wp_seq (wp_region_list ?_))
 have hal:=fun (o:Oper) (ho:o.op=Op.alloc 360)=>raw_alloc (P:=Tryz.prog) (a:=a7) (w:=w) (o:=o) yok (t:=360) ho kn135
 rw [z135] at hal
 refine rl_val S7 (d:=3) rfl (by decide) rfl (hal _ rfl) fun a8 S8=>?_
 obtain ⟨w1,hw1⟩:∃ w1,w.alloc (.cells #[.string (ByteArray.mk #[])] 360 (0,0))=w1:=⟨_,rfl⟩
 have hw1':w.alloc (.cells #[.string (ByteArray.mk #[])] 360)=w1:=hw1
 rw [hw1']
 have g1:Same w w1:=by rw [<-hw1];exact same_alloc _ _
 have g2:∀ b,b<w.heap.size->w1.heap[b]?=w.heap[b]?:=fun b hb=>by rw [<-hw1];exact heap_alloc_lt _ _ hb
 have g3:w1.heap[w.heap.size]?=some (.cells #[.string (ByteArray.mk #[])] 360 (0,0)):=by rw [<-hw1];exact World.alloc_heap_new w _
 have H:=fun (o:Oper) (ho:o.op=Op.store 360 (.tmp 3) (.tmp 13))=>raw_store (P:=Tryz.prog) (a:=a8) (w:=w1) (v:=.agg #[.string x]) (b:=w.heap.size) (o:=o)
  yok (t:=360) ho kn135 (by simp [S8.eval,upd]) (by simp [S8.eval,upd]) (by rw [s135];rfl) (by rw [s135];rfl) (by simp [Value.cells,Value.oneCell']) g3
 obtain ⟨_,r2,r3,r4⟩:=H (stO 360 (.tmp 3) (.tmp 13)) rfl
 refine rl_skip S8 rfl rfl (H _ rfl).1 fun a9 S9=>?_
 clear H
 generalize w1.setRow w.heap.size (Value.agg #[.string x]).cells=w2 at r2 r3 r4 ⊢
 refine wp_region_list ?_
 have g5:w2.heap[b1]?=some (.cells #[.int .i64 0] 30 (0,0)):=by rw [r4 _ (by omega),g2 _ l1];exact h1
 have H:=fun (o:Oper) (ho:o.op=Op.store 30 (.tmp 0) (.const (.int .i64 4)))=>raw_store (P:=Tryz.prog) (a:=a9) (w:=w2) (v:=.int .i64 4) (b:=b1) (o:=o)
  yok (t:=30) ho kn26 (by simp [S9.eval,upd]) rfl (by rw [s26];rfl) (by rw [s26];rfl) (by simp [Value.cells,Value.oneCell']) g5
 obtain ⟨_,t2,t3,t4⟩:=H (stO 30 (.tmp 0) (.const (.int .i64 4))) rfl
 refine rl_skip S9 rfl rfl (H _ rfl).1 fun a10 S10=>?_
 clear H
 generalize w2.setRow b1 (Value.int .i64 4).cells=w4 at t2 t3 t4 ⊢
 have e3:∀ b,b<w.heap.size->b≠b1->w4.heap[b]?=w.heap[b]?:=fun b hb h1=>by rw [t4 _ h1,r4 _ (by omega),g2 _ hb]
 have e4:Same w w4:=(g1.trans r3).trans t3
 exact ⟨S10.defers,_,rfl,.tuple #[],by simp [results,Tryz.results197],rfl,rfl,e4,t2,e3⟩
def attV:Ending->Value
 | .panicked [{ v:=.iface 358 _,.. }]=>.int .i64 7
 | .panicked [{ v:=.iface 360 _,.. }]=>.int .i64 4
 |_=>.int .i64 0
def attW (w:World):World:=w.alloc (.cells #[.int .i64 0] 30 (0,0))
structure AttOK (w w':World) (en:Ending):Prop where
 one:w'.heap[w.heap.size]?=some (.cells #[.int .i64 0] 30 (0,0))
 en:en=.returned (.tuple #[])∨(∃ x,en=.panicked [{ v:=.iface 358 (.agg #[.int .i64 x]),recovered:=false }])∨∃ s,en=.panicked [{ v:=.iface 360 (.agg #[.string s]),recovered:=false }]
theorem att_results {a:Act} {w:World} {b1:Nat} {x:Value} (h1:a.tmps.getD 2 undef=.pointer (some ⟨b1,0,none⟩))
  (g1:w.heap[b1]?=some (.cells #[x] 30 (0,0))):(results Tryz.f112 a.tmps).run Tryz.prog w=.ok x w:=by
 have l1:=run_load1 yok (t:=30) (by kernel_rfl) (w:=w) (b:=b1) (off:=0) (u:=x) (by simp [World.cell?,g1])
 have he:Tryz.f112.results.mapM (resM a.tmps)=List.toArray <$> Tryz.f112.results.toList.mapM (resM a.tmps):=Array.mapM_eq_mapM_toList ..
 have he2:results Tryz.f112 a.tmps=(Tryz.f112.results.mapM (resM a.tmps) >>= fun vs=>pure (if h:vs.size=1 then vs[0] else .tuple vs)):=rfl
 have hrun:([ResultVar.cell 2 30].mapM (resM a.tmps)).run Tryz.prog w=.ok [x] w:=by
  have r1:(resM a.tmps (.cell 2 30)).run Tryz.prog w=.ok x w:=by simp [resM,h1,asAddr,l1]
  rw [run_mapM_cons,r1,Result.andThen_ok]
  simp
 rw [he2,he,Tryz.results112]
 simp only [Sem.run_bind,Sem.run_map,hrun,Result.andThen_ok,Sem.run_pure]
 rfl
theorem attempt_calls (g:FuncId) (hg:FnOK Tryz.prog g) (us vs:Array Value) (w:World) (R:Ending->World->Prop) (hcall:Calls Tryz.prog g (us++vs) (attW w) R) (hR:∀ en w',R en w'->AttOK w w' en):
  Calls Tryz.prog 112 #[.func (.func g) us vs] w fun en w''=>∃ en0 w',R en0 w'/\Same w' w''/\(∀ b,b<w'.heap.size->b≠w.heap.size->w''.heap[b]?=w'.heap[b]?)/\(∃ x,w''.heap[w.heap.size]?=some (.cells #[x] 30 (0,0)))/\en=.returned (attV en0):=by
 go_enter_defers Tryz.func112,Tryz.ntmps112
 have S:SL { tmps:=#[Value.func (Fn.func g) us vs,undef,undef,undef,undef,undef],defers:=[] } 6 (fun t=>#[Value.func (Fn.func g) us vs].getD t undef) []:=by
  exact SL.start #[Value.func (Fn.func g) us vs] 6 (Nat.le_of_ble_eq_true rfl)
 generalize ({ tmps:=#[Value.func (Fn.func g) us vs,undef,undef,undef,undef,undef],defers:=[] }:Act)=a at S ⊢
 refine wp_seq (wp_region_list ?_)
 have hal:=fun (o:Oper) (ho:o.op=Op.alloc 30)=>raw_alloc (P:=Tryz.prog) (a:=a) (w:=w) (o:=o) yok (t:=30) ho kn26
 rw [z26] at hal
 refine rl_val S (d:=2) rfl (by decide) rfl (hal _ rfl) fun a2 S2=>?_
 show Code.wp Tryz.prog _ _ a2 (attW w)
 generalize hw1:attW w=w1 at hcall ⊢
 refine wp_seq (wp_region_list ?_)
 refine rl_val S2 (d:=3) (v:=.func (.func 197) #[] #[.pointer (some ⟨w.heap.size,0,none⟩)]) (w':=w1) rfl (by decide) rfl ?_ fun a3 S3=>?_
 ·simp [execOp,S2.eval,upd,Instr.makeFunc]
 refine rl_defer S3 (d:={ target:=.fn (.func 197) #[.pointer (some ⟨w.heap.size,0,none⟩)],args:=#[] }) rfl rfl ?_ fun a4 S4=>?_
 ·simp [execOp,resolve,S3.eval,upd,Deferred.ofValue]
 refine wp_seq (wp_region_list ?_)
 refine rl_val S4 (d:=4) (v:=.func (.func g) us vs) (w':=w1) rfl (by decide) rfl ?_ fun a5 S5=>?_
 ·simp [execOp,S4.eval,upd]
 have hinv:∀ (p:Value) (w:World),(invoke (.fn (.func 197) #[p]) #[]).run Tryz.prog w=.ok (.enter 197 #[p]) w:=fun p w=>by
  have h2:(Tryz.f197.name== "runtime.NumGoroutine")=false:=by kernel_rfl
  have h3:Tryz.f197.body.isNone=false:=by kernel_rfl
  have h2':Tryz.f197.name≠ "runtime.NumGoroutine":=by simpa using h2
  have h3':Tryz.f197.body≠none:=by intro hh;rw [hh] at h3;cases h3
  simp [invoke,callFunc,Tryz.func197,h2',h3']
 refine rl_call S5 (d:=5) (g:=g) (vs:=us++vs) (R:=R) rfl (by decide) rfl ?_ hcall (fun v w2 hr a6 S6=>?_) (fun ch w2 hr=>?_) (fun w2 hr=>?_)
 ·have:=fun (o:Oper) (ho:o.op=Op.call { callee:=Callee.value (Operand.tmp 4),args:=#[],argTypes:=#[] })=>exec_call (P:=Tryz.prog) (a:=a5) (w:=w1) (o:=o) ho (by simp [S5.eval,upd]) hg (us:=us) (cvs:=vs)
  simpa using this _ rfl
 ·obtain ⟨c1,c3⟩:=hR _ _ hr
  have l1:w.heap.size<w2.heap.size:=(Array.getElem?_eq_some_iff.1 c1).1
  refine wp_seq (wp_region_list ?_)
  have H:=fun (o:Oper) (ho:o.op=Op.store 30 (.tmp 2) (.const (.int .i64 0)))=>raw_store (P:=Tryz.prog) (a:=a6) (w:=w2) (v:=.int .i64 0) (b:=w.heap.size) (o:=o)
   yok (t:=30) ho kn26 (by simp [S6.eval,upd]) rfl (by rw [s26];rfl) (by rw [s26];rfl) (by simp [Value.cells,Value.oneCell']) c1
  obtain ⟨_,t2,t3,t4⟩:=H (stO 30 (.tmp 2) (.const (.int .i64 0))) rfl
  refine rl_skip S6 rfl rfl (H _ rfl).1 fun a9 S9=>?_
  clear H
  generalize w2.setRow w.heap.size (Value.int .i64 0).cells=w4 at t2 t3 t4 ⊢
  refine wp_ret ?_
  show Leaves Tryz.prog Tryz.f112 a9.tmps _ a9.defers .returning w4
  rw [S9.defers]
  refine leaves_cons (by simp) (hinv _ w4) ((catch_idle _ w4).mono ?_)
  rintro e u' w5 ⟨rfl,rfl,rfl⟩
  have r1:=att_results (a:=a9) (w:=w5) (b1:=w.heap.size) (by rw [S9.get 2 (by decide)];simp [upd]) t2
  refine ⟨_,r1,_,_,hr,t3,fun b hb h1=>t4 _ h1,⟨_,t2⟩,?_⟩
  rcases c3 with h|⟨_,h⟩|⟨_,h⟩<;>cases h
  rfl
 ·obtain ⟨c1,c3⟩:=hR _ _ hr
  have l1:w.heap.size<w2.heap.size:=(Array.getElem?_eq_some_iff.1 c1).1
  show Leaves Tryz.prog Tryz.f112 a5.tmps _ a5.defers (.panicking ch) w2
  rw [S5.defers]
  refine leaves_cons (by simp) (hinv _ w2) ?_
  have e1:a5.tmps.getD 2 undef=.pointer (some ⟨w.heap.size,0,none⟩):=by rw [S5.get 2 (by decide)];simp [upd]
  rcases c3 with h|⟨x,h⟩|⟨s,h⟩
  ·cases h
  ·obtain rfl:ch=[{ v:=.iface 358 (.agg #[.int .i64 x]),recovered:=false }]:=Ending.panicked.inj h
   refine (catch_row _ x [] w2 c1).mono ?_
   rintro e u' w5 ⟨rfl,rfl,g1,g2,g4⟩
   have r1:=att_results (a:=a5) (w:=w5) e1 g2
   exact ⟨_,r1,_,_,hr,g1,g4,⟨_,g2⟩,rfl⟩
  ·obtain rfl:ch=[{ v:=.iface 360 (.agg #[.string s]),recovered:=false }]:=Ending.panicked.inj h
   refine (catch_text _ s [] w2 c1).mono ?_
   rintro e u' w5 ⟨rfl,rfl,g1,g2,g4⟩
   have r1:=att_results (a:=a5) (w:=w5) e1 g2
   exact ⟨_,r1,_,_,hr,g1,g4,⟨_,g2⟩,rfl⟩
 ·obtain ⟨_,c3⟩:=hR _ _ hr
  rcases c3 with h|⟨_,h⟩|⟨_,h⟩<;>cases h
variable {Gl:World->Prop}
inductive AttR:Res->Int->Prop
 |ok:AttR (.ret (.tup [])) 0
 |row (x:Int):AttR (.pan (.iface 358 (.agg #[.int .i64 x]))) 7
 |text (s:ByteArray):AttR (.pan (.iface 360 (.agg #[.string s]))) 4
theorem attW_size (w:World):(attW w).heap.size=w.heap.size+1:=by simp [attW,World.size_alloc]
theorem attW_lt (w:World) {b:Nat} (h:b<w.heap.size):(attW w).heap[b]?=w.heap[b]?:=by
 unfold attW
 exact heap_alloc_lt _ _ h
theorem attW_same (w:World):Same w (attW w):=same_alloc _ _
theorem attW_one (w:World):(attW w).heap[w.heap.size]?=some (.cells #[.int .i64 0] 30 (0,0)):=World.alloc_heap_new w _
theorem attW_keep {vis:Nat->Nat} {w:World} (h:∀ b,w.heap.size<=b->vis b=0):KeepV vis w (attW w):=
 ⟨fun b i hi=>World.cell?_of_block (attW_lt w (by
  rcases Nat.lt_or_ge b w.heap.size with hb|hb
  ·exact hb
  ·rw [h b hb] at hi;omega)),fun b hb es c he=>by rw [attW_lt w (Array.getElem?_eq_some_iff.1 he).1];exact he,rows_same fun b h=>attW_lt w h⟩
theorem att_ret {base:Nat} {vis:Nat->Nat} {w:World} (e:Int):RetOK base vis w (I e) (.int .i64 e):=Rep.v _ rfl
theorem attempt74_does {g:FuncId} {fst caps:List T} {r:Res} {ev:Int} {pre post:Env} {yd:Yd} (hpre:preOK pre=true) (hpost:postOK pre post=true) (h:Does Tryz.prog Y Gl yd g (fst++caps) pre r post) (ha:AttR r ev):Does Tryz.prog Y Gl yd 112 [.fn g fst caps] pre (.ret (I ev)) post:=by
 obtain ⟨p0,p1,p2⟩:=preOK_get hpre
 obtain ⟨o1,o2,o3⟩:=postOK_get hpost
 refine ⟨⟨_,Tryz.func112,name112,by kernel_rfl⟩,fun J G w vs hst hgl hyl hfr hH hJ hmem hargs=>?_⟩
 simp only [RelTs,RelT] at hargs
 obtain ⟨v,vs1,hvs,⟨us,cvs,rfl,hu,hc⟩,rfl⟩:=hargs
 obtain rfl:vs=#[.func (.func g) us cvs]:=by rw [<-Array.toArray_toList (xs:=vs),hvs]
 have hkv:=attW_keep (w:=w) hfr
 have hext:Ext (fun _=>False) G G w (attW w):=⟨fun _=>Nat.le_refl _,hkv,fun b hb=>hb.elim⟩
 have hrel:RelTs G (attW w) (fun _=>False) (fst++caps) (us++cvs).toList:=by
  rw [Array.toList_append]
  exact (RelTs.mono hext (fun _ _=>rfl) hu).app (RelTs.mono hext (fun _ _=>rfl) hc)
 have hbk:∀ id,pre.get 2 id≠.any->G.bk id<w.heap.size:=fun id hid=>(hmem.box id hid).2.1
 have hJ1:=hst.1 _ _ _ _ _ hJ (fun b hb=>attW_lt w (hH b hb)) hkv (attW_same w)
 have hmem1:Mem Y (fun _=>False) pre (attW w) G:=Mem.keep (preOK_obj hpre) p1 (fun id hid=>attW_lt w (hbk id hid)) hkv (attW_same w) hmem
 have hsz:=attW_size w
 have hused:∀ id,Env.get (over post pre) 2 id≠.any->pre.get 2 id≠.any:=fun id hid=>by
  rw [get_over] at hid
  split at hid
  ·rename_i hk
   have:=o2 id hk
   intro hh
   rw [hh] at this
   unfold kindOK at this
   split at this<;>first|(rename_i hx;cases hx;done)|cases this
  ·exact hid
 have htok:∀ k,Env.get (over post pre) 1 k=.any:=fun k=>by
  rw [get_over,o1 k,if_neg (by decide)];exact p1 k
 have hobj:∀ id,Env.get (over post pre) 2 id≠.any->isObj (Env.get (over post pre) 2 id)=true:=fun id hid=>by
  rw [get_over] at hid ⊢
  split
  ·rename_i hk
   have:=o2 id hk
   unfold kindOK at this
   split at this<;>first|(rename_i hx _;rw [hx];rfl)|(rename_i hx;rw [hx];rfl)|(cases this)
  ·rename_i hk
   rw [if_neg hk] at hid
   exact preOK_obj hpre id hid
 have hcall:=h.2 J G (attW w) (us++cvs) hst hgl hyl (fun b hb=>hfr b (by omega)) (fun b hb=>by have:=hH b hb;omega) hJ1 hmem1 hrel
 refine (attempt_calls g h.1 us cvs w _ hcall fun en w' ⟨h1,h2,h3,h4,h5⟩=>⟨?_,?_⟩).mono ?_
 ·rw [h3 _ (by omega) (fun hh=>by have:=hH _ hh;omega) (fun id hid hh=>by have:=hbk id hid;omega)];exact attW_one w
 ·obtain ⟨G',_,_,_,_,_,_,_,hr⟩:=h5
  cases ha with
  |ok=>
   obtain ⟨v,rfl,vs,rfl,hr⟩:=hr
   obtain rfl:vs=#[]:=by
    have:=hr.1
    exact Array.eq_empty_of_size_eq_zero (by simpa using this.symm)
   exact .inl rfl
  |row x=>exact .inr (.inl ⟨x,hr⟩)
  |text s=>exact .inr (.inr ⟨s,hr⟩)
 ·rintro en w2 ⟨en0,w',⟨h1,h2,h3,h4,h5⟩,hs,hh,⟨x2,hx2⟩,rfl⟩
  have s1:=h1.size
  have s2:=hs.size
  obtain ⟨G',g1,g2,g3,g4,g5,g6,g7,hr⟩:=h5
  have hkeep2:∀ vis:Nat->Nat,(∀ b,w'.heap.size<=b->vis b=0)->vis w.heap.size=0->KeepV vis w' w2:=fun vis v1 v2=>by
   have hv:∀ b,0<vis b->w2.heap[b]?=w'.heap[b]?:=fun b hb=>hh b (by
    rcases Nat.lt_or_ge b w'.heap.size with h|h
    ·exact h
    ·rw [v1 b h] at hb;omega) (fun h=>by rw [h,v2] at hb;omega)
   refine ⟨fun b i hi=>World.cell?_of_block (hv b (by omega)),fun b hb es c he=>by rw [hv b hb];exact he,fun b cs t z hcs=>?_⟩
   by_cases hb:b=w.heap.size
   ·have h9:=h3 w.heap.size (by omega) (fun hh=>by have:=hH _ hh;omega) (fun id hid hh=>by have:=hbk id hid;omega)
    rw [hb,h9,attW_one w] at hcs
    obtain ⟨rfl,rfl,rfl⟩:=Obj.cells.inj (Option.some.inj hcs)
    rw [hb]
    exact ⟨_,_,_,hx2,Nat.le_refl _⟩
   ·exact ⟨cs,t,z,(hh b (Array.getElem?_eq_some_iff.1 hcs).1 hb).trans hcs,Nat.le_refl _⟩
  have hH':∀ b,G'.H b->w2.heap[b]?=w'.heap[b]?:=fun b hb=>by
   refine hh b (g5 b hb) (fun he=>?_)
   have:=hH b ((g4 b (by omega)).1 hb);omega
  have v1:G'.vis w.heap.size=0:=by rw [g2 _ (by omega)];exact hfr _ (by omega)
  refine ⟨((attW_same w).trans h1).trans hs,(hkv.trans h2).trans (hkeep2 G.vis (fun b hb=>hfr b (by omega)) (hfr _ (by omega))),fun b hb hn hno=>?_,fun id k hl hk=>?_,G',g1,fun b hb=>g2 b (by omega),fun b hb=>g3 b (by omega),
   fun b hb=>g4 b (by omega),fun b hb=>by have:=g5 b hb;omega,hst.1 _ _ _ _ _ g6 hH' (hkeep2 G'.vis g3 v1) hs,Mem.keep hobj htok (fun id hid=>?_) (hkeep2 G'.vis g3 v1) hs g7,?_⟩
  ·rw [hh b (by omega) (by omega),h3 b (by omega) hn hno,attW_lt w hb]
  ·have hid:pre.get 2 id≠.any:=by rw [hl];exact live_ne
   have hlt:=hbk id hid
   rw [World.cell?_of_block (show w2.heap[G.bk id]?=w'.heap[G.bk id]? from hh _ (by omega) (by omega)),h4 id k hl hk,World.cell?_of_block (show (attW w).heap[G.bk id]?=w.heap[G.bk id]? from attW_lt w hlt)]
  ·have hlt:=hbk id (hused id hid)
   rw [g1]
   exact hh _ (by omega) (by omega)
  ·cases ha with
   |ok=>
    obtain ⟨v,rfl,_⟩:=hr
    exact ⟨_,rfl,att_ret 0⟩
   |row x=>
    have hr:en0=_:=hr
    subst hr
    exact ⟨_,rfl,att_ret 7⟩
   |text s=>
    have hr:en0=_:=hr
    subst hr
    exact ⟨_,rfl,att_ret 4⟩
end Go.Vc.Zn.Co
namespace Go.Vc.Zn
open Go Go.Proofs Go.Vc Go.RowKit
structure Chg where
 row:Nat
 val:Int
 by':Int
instance:Inhabited Chg:=⟨⟨0,0,0⟩⟩
set_option maxRecDepth 100000
structure RS where
 unit:Int
 rule:Int
 errs:List Int
 rows:List Int
def exR:RS:=⟨10,3,[4,1,0],[13,26,44]⟩
def cRu (u:Int):T:=.d (.agg [Ci u])
def rulesT (u:Int):T:=.ag [.d (.c (.v .nilFunc)),.fn 295 [cRu u] [],.fn 296 [cRu u] [],.fn 297 [cRu u] [],.fn 298 [cRu u] []]
def fig (n:Int):Int:=flo (2*n+10) 20
theorem in290 {Gl} (S:SP Gl) (x lo hi:Int):CO Gl 290 [I x,I lo,I hi] (.ret (B (inR x lo hi))):=by
 refine fn_is S (.nil) Tryz.func290 (by kernel_rfl) ((eqB (decide (lo<=x)) true=true->eqB (decide (lo<=x)) true=true)/\(eqB (decide (lo<=x)) true=true->eqB (decide (lo<=x)) true=true)/\(decide (lo<=x)=true->eqB (decide (lo<=x)) true=true)/\(bif decide (lo<=x) then decide (x<=hi) else false)=inR x lo hi) (by kernel_rfl) ?_
 simp only [stdS,imp_self,implies_true,and_true,inR]
theorem isRule349 {Gl} (S:SP Gl)  :CO Gl 349 [I 3] (.ret (B true)):=by
 refine fn_is S (.sure 6 (.sure 7 .nil)) Tryz.func349 (by kernel_rfl) (true=true/\true=true/\true=true) (by kernel_rfl) ?_
 exact ⟨rfl,rfl,rfl⟩
theorem down295 {Gl} (S:SP Gl) (u n:Int) (hu:1<=u/\u<=1000) (hn:-1000000<=n/\n<=1000000):CO Gl 295 [cRu u,I n] (.ret (I (flo n u))):=by
 refine fn_is S (.br .nil .nil) Tryz.func295 (by kernel_rfl) ((u≠(0:Int)/\iR (Int.tdiv n u))/\iR (Int.tdiv n u*u)/\(decide (n<Int.tdiv n u*u)=true->iR (Int.tdiv n u-(1:Int))/\Int.tdiv n u-(1:Int)=flo n u)/\(decide (n<Int.tdiv n u*u)=false->Int.tdiv n u=flo n u)) (by kernel_rfl) ?_
 have h1:=Int.natAbs_tdiv_le_natAbs n u
 have h2:=Int.tmod_add_tdiv_mul n u
 have h3:=Int.natAbs_tmod n u
 have h4:n.natAbs % u.natAbs<=n.natAbs:=Nat.mod_le _ _
 unfold flo
 simp only [rng_iff]
 exact ⟨by omega,by omega,fun h=>⟨by omega,by rw [h];rfl⟩,fun h=>by rw [h];rfl⟩
theorem near297 {Gl} (S:SP Gl) (u n:Int) (hu:1<=u/\u<=100) (hn:-100000<=n/\n<=100000):CO Gl 297 [cRu u,I n] (.ret (I (flo (2*n+u) (2*u)))):=by
 refine fn_is S (.r (.ret (I (flo ((2:Int)*n+u) ((2:Int)*u)))) .nil) Tryz.func297 (by kernel_rfl) (iR ((2:Int)*u)/\iR ((2:Int)*n)/\iR ((2:Int)*n+u)/\CO Gl 295 [cRu ((2:Int)*u),I ((2:Int)*n+u)] (.ret (I (flo ((2:Int)*n+u) ((2:Int)*u))))/\flo ((2:Int)*n+u) ((2:Int)*u)=flo ((2:Int)*n+u) ((2:Int)*u)) (by kernel_rfl) ?_
 simp only [rng_iff]
 exact ⟨by omega,by omega,by omega,down295 S _ _ (by omega) (by omega),trivial⟩
theorem rules186 {Gl} (S:SP Gl) (u:Int):CO Gl 186 [cRu u] (.ret (rulesT u)):=by
 refine fn_is S (.nil) Tryz.func186 (by kernel_rfl) (Value.nilFunc=Value.nilFunc/\(295:Nat)=(295:Nat)/\u=u/\(296:Nat)=(296:Nat)/\u=u/\(297:Nat)=(297:Nat)/\u=u/\(298:Nat)=(298:Nat)/\u=u) (by kernel_rfl) ?_
 exact ⟨rfl,rfl,rfl,rfl,rfl,rfl,rfl,rfl,rfl⟩
def elk (k p:Nat):Int:=nth exR.rows k - 1+(p:Int)
def nxD (D:Int->Bool) (k:Nat):Nat->Int->Bool
 |0,_=>false
 |p+1,x=>nxD D k p x||D (x - elk k p)
def cmb (b:Bool) (y z:Span):Span:=bif b then ⟨min y.lo z.lo,max y.hi z.hi⟩ else y
def shf (f:Int) (y:Span):Span:=⟨y.lo+f,y.hi+f⟩
def nxV (D:Int->Bool) (V:Int->Span) (k:Nat):Nat->Int->Span
 |0,_=>⟨0,0⟩
 |p+1,x=>bif D (x - elk k p) then cmb (nxD D k p x) (shf (fig (elk k p)) (V (x - elk k p))) (nxV D V k p x) else nxV D V k p x
def sDk:Nat->Int->Bool
 |0,x=>x==0
 |k+1,x=>nxD (sDk k) k 3 x
def sVk:Nat->Int->Span
 |0,_=>⟨0,0⟩
 |k+1,x=>nxV (sDk k) (sVk k) k 3 x
def hasK (h:List (List Int)) (x:Int):Bool:=h.any fun y=>eqK y [x]
def hD (k p:Nat) (h:List (List Int)) (x:Int):Bool:=nxD (sDk k) k p x||hasK h (x - elk k p)
def hV (k p:Nat) (h:List (List Int)) (x:Int):Span:=bif hasK h (x - elk k p) then cmb (nxD (sDk k) k p x) (shf (fig (elk k p)) (sVk k (x - elk k p))) (nxV (sDk k) (sVk k) k p x) else nxV (sDk k) (sVk k) k p x
theorem isColT {Gl} (S:SP Gl) (l:List Int) (h:isCol l=true):CO Gl 37 [L eI l] (.ret (B true)):=by
 have h1:=isColumn73 S l
 rw [h] at h1
 exact h1
def errPre (r l:List Int):Env:=[(2,FAR,live),(FAR+3,0,L eI r),(2,FAR+1,live),(FAR+4,0,L eI l),(2,FAR+2,live),(FAR+5,0,.d (.c (.v (.slice none 0 0))))]
def errPost (r l:List Int):Env:=[(FAR+5,0,L eErr (errTo r l r.length))]
theorem isCol_iff {l:List Int}:isCol l=true↔(1<=l.length/\l.length<=6)/\l.all num=true:=by
 unfold isCol
 rw [Bool.and_eq_true,inR_iff]
 constructor
 ·intro h;exact ⟨by have:=h.2;omega,h.1⟩
 ·intro h;exact ⟨h.2,by have:=h.1;omega⟩
theorem call75 {Gl} (S:SP Gl) (r l:List Int) (hr:r.all num=true) (hl:l.length=r.length) (hm:r.length<=1000) (hok:errOK r l=true):Does Tryz.prog Y Gl yd0 39 [.addr FAR 0,.addr (FAR+1) 0,.addr (FAR+2) 0] (errPre r l) (.ret (.tup [])) (errPost r l):=by
 refine fn_is2 S (.r (.ret (L eErr (errTo r l r.length))) .nil) Tryz.func39 (by kernel_rfl) (CO Gl 40 [L eI r,L eI l] (.ret (L eErr (errTo r l r.length)))/\True/\(sR eErr (errTo r l r.length))/\(sR eI r)/\sR eI l) (by kernel_rfl) ?_
 simp only [stdS,imp_self,implies_true,and_true]
 exact ⟨copied76 S r l hr hl hm hok,trivial⟩
theorem att74 {Gl} (S:SP Gl) (r l:List Int) (hr:r.all num=true) (hl:l.length=r.length) (hm:r.length<=1000) (hok:errOK r l=true):Does Tryz.prog Y Gl yd0 38 [.fn 39 [] [.addr FAR 0,.addr (FAR+1) 0,.addr (FAR+2) 0]] (errPre r l) (.ret (I 0)) (errPost r l):=
 attempt74_does (fst:=[]) rfl rfl (call75 S r l hr hl hm hok) .ok
theorem errors22 {Gl} (S:SP Gl) (r l:List Int) (hr:isCol r=true) (hl:isCol l=true) (hn:l.length=r.length) (hok:errOK r l=true):CO Gl 10 [L eI r,L eI l] (.ret (.tup [.c (.l eErr (errL r l)),.c (Ci 0)])):=by
 refine fn_iq S (let A0:=[T.fn (39:FuncId) [] [T.addr FAR (0:Nat),T.addr (FAR+1) (0:Nat),T.addr (FAR+2) (0:Nat)]];let A1:=(bif false then true else (r.length:Int) != (l.length:Int));((.r (.ret (B true)) (.sure 12 (.sure 13 (.r (.ret (B true)) (.sure 14 (.sure 17 (.sure 18 (.sure 19 (.sure 20 (.sure 21 (.br .nil (.w [(nat_lit 100000,nat_lit 2),(nat_lit 100001,nat_lit 3),(nat_lit 100002,nat_lit 6)] A0 (errPre r l) (.ret (I 0)) (errPost r l) (.ff .nil))))))))))))),(CO Gl 37 [L eI r] (.ret (B true))/\true=true/\true=true/\CO Gl 37 [L eI l] (.ret (B true))/\true=true/\true=true/\true=true/\(r.length<=maxLen->true=true/\true=true/\(l.length<=maxLen->true=true/\(A1=true->List.length (errL r l)=(0:Nat)/\(2:Int)=0)/\(A1=false->(39:Nat)=(39:Nat)/\(sR eI r)/\(sR eI l)/\Value.slice none 0 0=Value.slice none 0 0/\Does Tryz.prog Y Gl yd0 (38:FuncId) A0 (errPre r l) (.ret (I 0)) (errPost r l)/\false=false/\(sQ eErr (errTo r l r.length) (errL r l))/\(0:Int)=0)))))) Tryz.func10 (by kernel_rfl) (by kernel_rfl) ?_
 obtain ⟨c1,c2⟩:=isCol_iff.1 hr
 simp only [stdS,imp_self,implies_true,and_true,cond_false]
 refine ⟨isColT S r hr,isColT S l hl,fun hm hm2=>⟨fun h=>?_,fun h=>⟨att74 S r l c2 hn (by omega) hok,?_⟩⟩⟩
 ·rw [hn] at h
  simp at h
 ·unfold errL
  rw [hok]
  exact ⟨SEq_whole rfl,trivial⟩
set_option maxRecDepth 100000
def stV:List Span:=[⟨0,0⟩,⟨10,10⟩,⟨40,40⟩,⟨90,91⟩,⟨160,160⟩,⟨250,250⟩,⟨360,360⟩]
def cST:List C:=[.l eSpan stV,Ci 3,Ci 10]
def cTu:List C:=cST++[.v (.slice none 0 0),.u]
def tTu:T:=.d (.agg cTu)
def cPr (p q:Int):List C:=[Ci p,Ci q]
theorem mul_rng {x y:Int} (h1:0<=x/\x<=361) (h2:0<=y/\y<=6):0<=x*y/\x*y<=2166:=
 ⟨Int.mul_nonneg h1.1 h2.1,Int.le_trans (Int.mul_le_mul h1.2 h2.2 h2.1 (by decide)) (by decide)⟩
def figS (p q a b r:Int):Int:=flo (2*(a*(q - r)+b*(r - p))+(q - p)) (2*(q - p))
def endS (r:Nat) (w:Nat):Int:=match w with
 |0=>(nth stV r).lo
 |_=>(nth stV r).hi
theorem flo_rng {a b:Int} (ha:-90000<=a/\a<=90000):-100000<=flo a b/\flo a b<=100000:=by
 have h1:-90000<=Int.tdiv a b/\Int.tdiv a b<=90000:=by
  have:=Int.natAbs_tdiv_le_natAbs a b
  omega
 unfold flo
 cases decide (a<Int.tdiv a b*b)<;>simp<;>omega
theorem fig_rng (p q r:Nat) (a b:Int) (h1:p<r) (h2:r<q) (h3:q<7) (ha:0<=a/\a<=361) (hb:0<=b/\b<=361):-100000<=figS p q a b r/\figS p q a b r<=100000:=by
 have m1:=mul_rng ha (y:=(q:Int) - r) (by omega)
 have m2:=mul_rng hb (y:=(r:Int) - p) (by omega)
 unfold figS
 exact flo_rng (by omega)
theorem end_rng (r w:Nat) (h:r<7):0<=endS r w/\endS r w<=361:=by
 have:∀ i:Nat,i<7->0<=(nth stV i).lo/\(nth stV i).lo<=361/\0<=(nth stV i).hi/\(nth stV i).hi<=361:=by decide
 unfold endS
 split
 ·exact ⟨(this r h).1,(this r h).2.1⟩
 ·exact (this r h).2.2
def offS (p q r:Nat):Int:=max (figS p q (endS p 1) (endS q 1) r - endS r 0) (endS r 1 - figS p q (endS p 0) (endS q 0) r)
def stTo (p q:Nat):Nat->Bool
 |0=>true
 |k+1=>bif decide (10<offS p q (p+1+k)) then false else stTo p q k
def stB (p q:Nat):Bool:=stTo p q (q - p - 1)
def mK (D:List Int->Bool):T:=.mapc false 2 false D fun k=>vsC [.bool (D k&&stB (nth k 0).toNat (nth k 1).toNat)]
theorem in200 {Gl} (S:SP Gl) (x lo hi:Int):CO Gl 200 [I x,I lo,I hi] (.ret (B (inR x lo hi))):=by
 refine fn_is S (.nil) Tryz.func200 (by kernel_rfl) ((eqB (decide (lo<=x)) true=true->eqB (decide (lo<=x)) true=true)/\(eqB (decide (lo<=x)) true=true->eqB (decide (lo<=x)) true=true)/\(decide (lo<=x)=true->eqB (decide (lo<=x)) true=true)/\(bif decide (lo<=x) then decide (x<=hi) else false)=inR x lo hi) (by kernel_rfl) ?_
 simp only [stdS,imp_self,implies_true,and_true,inR]
theorem isRule201 {Gl} (S:SP Gl)  :CO Gl 201 [I 3] (.ret (B true)):=by
 refine fn_is S (.sure 6 (.sure 7 .nil)) Tryz.func201 (by kernel_rfl) (true=true/\true=true/\true=true) (by kernel_rfl) ?_
 exact ⟨rfl,rfl,rfl⟩
theorem bad202 {Gl} (S:SP Gl) (s:Span):CO Gl 202 [.d (.agg (eSpan s))] (.ret (B (!inR s.lo (-9999) 9999||!inR s.hi s.lo 9999||decide (4<s.hi - s.lo)))):=by
 refine fn_iq S (let A0:=(bif !inR s.1 (-9999:Int) (9999:Int) then true else !inR s.2 s.1 (9999:Int));let A1:=(eqB (!inR s.1 (-9999:Int) (9999:Int)) false=true->eqB (!inR s.1 (-9999:Int) (9999:Int)) false=true);let A2:=(eqB A0 false=true->eqB A0 false=true);let A3:=(!inR s.1 (-9999:Int) (9999:Int));((.r (.ret (B (inR s.1 (-9999:Int) (9999:Int)))) (.r (.ret (B (inR s.2 s.1 (9999:Int)))) .nil)),(CO Gl 200 [I s.1,I (-9999:Int),I 9999] (.ret (B (inR s.1 (-9999:Int) (9999:Int))))/\A1/\A1/\A1/\A1/\(eqB A3 false=true->CO Gl 200 [I s.2,I s.1,I 9999] (.ret (B (inR s.2 s.1 (9999:Int)))))/\A1/\(A3=false->eqB A3 false=true)/\A2/\A2/\A2/\A2/\(eqB A0 false=true->iR (s.2-s.1))/\A2/\(A0=false->eqB A0 false=true)/\(bif bif !inR s.1 (-9999:Int) (9999:Int) then true else !inR s.2 s.1 (9999:Int) then true else decide ((4:Int)<s.2-s.1))=(!inR s.1 (-9999:Int) (9999:Int)||!inR s.2 s.1 (9999:Int)||decide ((4:Int)<s.2-s.1))))) Tryz.func202 (by kernel_rfl) (by kernel_rfl) ?_
 have a1:=in200 S s.lo (-9999) 9999
 have a2:=in200 S s.hi s.lo 9999
 have hr:inR s.lo (-9999) 9999=true->inR s.hi s.lo 9999=true->iR (s.hi - s.lo):=fun h1 h2=>by
  simp only [inR,Bool.and_eq_true,decide_eq_true_eq] at h1 h2
  exact (rng_iff _).2 (by omega)
 cases e1:inR s.lo (-9999) 9999<;>cases e2:inR s.hi s.lo 9999<;>rw [e1] at a1<;>rw [e2] at a2<;>simp only [e1,e2,true_implies,implies_true,Bool.false_eq_true,false_implies] at hr<;>simp only [stdS,imp_self,implies_true,and_true,Bool.false_and,Bool.true_and,Bool.and_true,Bool.and_false,Bool.false_or,Bool.true_or,Bool.or_false,Bool.or_true,Bool.false_eq_true,false_implies,true_implies,e1,e2,cond_true,cond_false,Bool.not_true,Bool.not_false]
 ·exact ⟨a1,fun h=>(by cases h),fun h=>(by cases h),trivial⟩
 ·exact ⟨a1,fun h=>(by cases h),fun h=>(by cases h),trivial⟩
 ·exact ⟨a1,a2,fun h=>(by cases h),trivial⟩
 ·exact ⟨a1,a2,hr,trivial⟩
theorem sum389 {Gl} (S:SP Gl) (a b:Int) (ha:-10000<=a/\a<=10000) (hb:-10000<=b/\b<=10000):CO Gl 389 [.d (.c (.s .n 2 fun i=>[List.map C.dem [Ci a],List.map C.dem [Ci b]].getD i []))] (.ret (I (a+b))):=by
 refine fn_is S (.un (3:Nat) (.tt (.tt (.ff .nil)))) Tryz.func389 (by kernel_rfl) ((2:Nat)<=maxLen->true=true/\((0:Int)<=0/\0<(↑(2:Nat):Int))/\iR ((0:Int)+a)/\iR ((0:Int)+1)/\true=true/\((0:Int)<=0+(1:Int)/\(0:Int)+1<(↑(2:Nat):Int))/\iR ((0:Int)+a+b)/\iR ((0:Int)+1+(1:Int))/\false=false/\(0:Int)+a+b=a+b) (by kernel_rfl) ?_
 simp only [stdS,imp_self,implies_true,and_true,rng_iff]
 exact fun _=>⟨by decide,by omega,by omega,by decide,by omega,by omega,by omega⟩
theorem low390 {Gl} (S:SP Gl) (s:Span):CO Gl 390 [.d (.agg (eSpan s))] (.ret (I s.lo)):=by
 refine fn_is S (.nil) Tryz.func390 (by kernel_rfl) (s.1=s.1) (by kernel_rfl) ?_
 exact rfl
theorem high391 {Gl} (S:SP Gl) (s:Span):CO Gl 391 [.d (.agg (eSpan s))] (.ret (I s.hi)):=by
 refine fn_is S (.nil) Tryz.func391 (by kernel_rfl) (s.2=s.2) (by kernel_rfl) ?_
 exact rfl
theorem end354a {Gl} (S:SP Gl) (r:Nat) (hr:r<7):CO Gl 354 [tTu,I r,I 0] (.ret (I (endS r 0))):=by
 refine fn_is S (.r (.ret (I (Span.lo (nth stV r)))) .nil) Tryz.func354 (by kernel_rfl) ((0<=(r:Int)/\(r:Int)<(↑(7:Nat):Int))/\CO Gl 390 [T.d (D.agg (eSpan (nth stV r)))] (.ret (I (Span.lo (nth stV r))))/\(nth stV r).1=endS r (0:Nat)) (by kernel_rfl) ?_
 exact ⟨by omega,low390 S _,rfl⟩
theorem end354b {Gl} (S:SP Gl) (r:Nat) (hr:r<7):CO Gl 354 [tTu,I r,I 1] (.ret (I (endS r 1))):=by
 refine fn_is S (.r (.ret (I (Span.hi (nth stV r)))) .nil) Tryz.func354 (by kernel_rfl) ((0<=(r:Int)/\(r:Int)<(↑(7:Nat):Int))/\CO Gl 391 [T.d (D.agg (eSpan (nth stV r)))] (.ret (I (Span.hi (nth stV r))))/\(nth stV r).2=endS r (1:Nat)) (by kernel_rfl) ?_
 exact ⟨by omega,high391 S _,rfl⟩
theorem to388 {Gl} (S:SP Gl) (n u:Int) (hn:-100000<=n/\n<=100000) (hu:1<=u/\u<=100):CO Gl 388 [I n,I u,I 3] (.ret (.tup [.c (Ci (flo (2*n+u) (2*u))),.c (Ci 0)])):=by
 refine fn_iq S (let A0:=(bif !inR n (-1099511627776:Int) (1099511627776:Int) then true else !inR u (1:Int) (1048576:Int));let A1:=(!inR n (-1099511627776:Int) (1099511627776:Int));let A2:=(bif bif !inR n (-1099511627776:Int) (1099511627776:Int) then true else !inR u (1:Int) (1048576:Int) then true else false);let A3:=(B (inR n (-1099511627776:Int) (1099511627776:Int)));((.r (.ret A3) (.r (.ret (B (inR u (1:Int) (1048576:Int)))) (.r (.ret (B true)) (.br .nil (.r (.ret (rulesT u)) (.r (.ret (I (flo ((2:Int)*n+u) ((2:Int)*u)))) .nil)))))),(CO Gl 290 [I n,I (-1099511627776:Int),I 1099511627776] (.ret A3)/\(eqB A1 false=true->eqB A1 false=true)/\(eqB A1 false=true->CO Gl 290 [I u,I 1,I 1048576] (.ret (B (inR u (1:Int) (1048576:Int)))))/\(eqB A1 false=true->eqB A1 false=true)/\(A1=false->eqB A1 false=true)/\(eqB A0 false=true->eqB A0 false=true)/\(eqB A0 false=true->CO Gl 349 [I 3] (.ret (B true)))/\(eqB A0 false=true->eqB A0 false=true)/\(A0=false->eqB A0 false=true)/\(A2=true->(0:Int)=flo ((2:Int)*n+u) ((2:Int)*u)/\(2:Int)=0)/\(A2=false->CO Gl 186 [cRu u] (.ret (rulesT u))/\((0:Int)<=3/\3<(↑(5:Nat):Int))/\CO Gl 297 [cRu u,I n] (.ret (I (flo ((2:Int)*n+u) ((2:Int)*u))))/\flo ((2:Int)*n+u) ((2:Int)*u)=flo ((2:Int)*n+u) ((2:Int)*u)/\(0:Int)=0)))) Tryz.func388 (by kernel_rfl) (by kernel_rfl) ?_
 dsimp only
 have e1:inR n (-1099511627776) 1099511627776=true:=by simp only [inR,Bool.and_eq_true,decide_eq_true_eq];omega
 have e2:inR u 1 1048576=true:=by simp only [inR,Bool.and_eq_true,decide_eq_true_eq];omega
 have q1:=in290 S n (-1099511627776) 1099511627776
 have q2:=in290 S u 1 1048576
 rw [e1] at q1
 rw [e2] at q2
 simp only [stdS,imp_self,implies_true,and_true,e1,e2,cond_false,cond_true,Bool.false_eq_true,false_implies,true_implies]
 exact ⟨q1,q2,isRule349 S,rules186 S u,by decide,near297 S u n hu hn,trivial⟩
theorem figure353 {Gl} (S:SP Gl) (p q r:Nat) (a b:Int) (h1:p<r) (h2:r<q) (h3:q<7) (ha:0<=a/\a<=361) (hb:0<=b/\b<=361):CO Gl 353 [tTu,.d (.agg (cPr p q)),I a,I b,I r] (.ret (I (figS p q a b r))):=by
 refine fn_iq S (let A0:=(a*((q:Int)-(r:Int))+b*((r:Int)-(p:Int)));let A1:=((q:Int)-(p:Int));let A2:=[D.c (Ci (flo ((2:Int)*A0+A1) ((2:Int)*A1))),D.c (Ci 0)];((.r (.ret (I A0)) (.r (.ret (.tup A2)) .nil)),(iR ((q:Int)-(r:Int))/\iR (a*((q:Int)-(r:Int)))/\iR ((r:Int)-(p:Int))/\iR (b*((r:Int)-(p:Int)))/\CO Gl 389 [T.d (D.c (C.s Tag.n (2:Nat) fun i=>List.getD [List.map C.dem [Ci (a*((q:Int)-(r:Int)))],List.map C.dem [Ci (b*((r:Int)-(p:Int)))]] i []))] (.ret (I A0))/\iR A1/\CO Gl 388 [I A0,I A1,I 3] (.ret (.tup A2))/\flo ((2:Int)*A0+A1) ((2:Int)*A1)=figS (p:Int) (q:Int) a b (r:Int)))) Tryz.func353 (by kernel_rfl) (by kernel_rfl) ?_
 have m1:=mul_rng ha (y:=(q:Int) - r) (by omega)
 have m2:=mul_rng hb (y:=(r:Int) - p) (by omega)
 simp only [rng_iff]
 exact ⟨by omega,by omega,by omega,by omega,sum389 S _ _ (by omega) (by omega),by omega,to388 S _ _ (by omega) (by omega),rfl⟩
theorem one120 {Gl} (S:SP Gl) (n:Int):CO Gl 120 [I n] (.ret (.d (.agg (eSpan ⟨n,n⟩)))):=by
 refine fn_is S (.nil) Tryz.func120 (by kernel_rfl) (n=n/\n=n) (by kernel_rfl) ?_
 exact ⟨rfl,rfl⟩
theorem sheetA49 {Gl} (S:SP Gl)  :CO Gl 49 [] (.ret (.d (.agg cST))):=by
 refine fn_iq S (let A0:=(T.d (D.agg (eSpan (Span.mk (160:Int) (160:Int)))));let A1:=(T.d (D.agg (eSpan (Span.mk (250:Int) (250:Int)))));let A2:=(T.d (D.agg (eSpan (Span.mk (360:Int) (360:Int)))));let A3:=(T.d (D.agg (eSpan (Span.mk (10:Int) (10:Int)))));let A4:=(T.d (D.agg (eSpan (Span.mk (40:Int) (40:Int)))));let A5:=(T.d (D.agg (eSpan (Span.mk (0:Int) (0:Int)))));((.r (.ret A5) (.r (.ret A3) (.r (.ret A4) (.r (.ret A0) (.r (.ret A1) (.r (.ret A2) .nil)))))),(CO Gl 120 [I 0] (.ret A5)/\CO Gl 120 [I 10] (.ret A3)/\CO Gl 120 [I 40] (.ret A4)/\CO Gl 120 [I 160] (.ret A0)/\CO Gl 120 [I 250] (.ret A1)/\CO Gl 120 [I 360] (.ret A2)/\(SEq (7:Nat) (fun i=>List.getD [List.map C.dem (List.map C.dem [C.v (Value.int IntKind.i64 (0:Int)),C.v (Value.int IntKind.i64 (0:Int))]),List.map C.dem (List.map C.dem [C.v (Value.int IntKind.i64 (10:Int)),C.v (Value.int IntKind.i64 (10:Int))]),List.map C.dem (List.map C.dem [C.v (Value.int IntKind.i64 (40:Int)),C.v (Value.int IntKind.i64 (40:Int))]),List.map C.dem (List.map C.dem [C.v (Value.int IntKind.i64 (90:Int)),C.v (Value.int IntKind.i64 (91:Int))]),List.map C.dem (List.map C.dem [C.v (Value.int IntKind.i64 (160:Int)),C.v (Value.int IntKind.i64 (160:Int))]),List.map C.dem (List.map C.dem [C.v (Value.int IntKind.i64 (250:Int)),C.v (Value.int IntKind.i64 (250:Int))]),List.map C.dem (List.map C.dem [C.v (Value.int IntKind.i64 (360:Int)),C.v (Value.int IntKind.i64 (360:Int))])] i []) stV.length fun i=>eSpan (nth stV i))/\(3:Int)=3/\(10:Int)=10))) Tryz.func49 (by kernel_rfl) (by kernel_rfl) ?_
 dsimp only
 refine ⟨one120 S _,one120 S _,one120 S _,one120 S _,one120 S _,one120 S _,.of ⟨rfl,fun i hi=>?_⟩,rfl,rfl⟩
 match i,hi with|0,_=>rfl|1,_=>rfl|2,_=>rfl|3,_=>rfl|4,_=>rfl|5,_=>rfl|6,_=>rfl
theorem tableOf205 {Gl} (S:SP Gl)  :CO Gl 205 [.d (.agg cST),.d (.c (.v (.slice none 0 0)))] (.new (.ag [.d (.c (.l eSpan stV)),I 3,I 10,.d (.c (.v (.slice none 0 0))),.mp 7]) ((2,7,mK fun _=>false)::(2,4,live)::(7,0,.d (.c (.l eSpan stV)))::(7,1,I 3)::(7,2,I 10)::(7,3,.d (.c (.v (.slice none 0 0))))::(7,4,.mp 7)::[])):=by
 refine fn_new S (.nil) Tryz.func205 (by kernel_rfl) (v 4 (ad 4)::(2,7,mK fun _=>false)::(2,4,live)::(7,0,.d (.c (.l eSpan stV)))::(7,1,I 3)::(7,2,I 10)::(7,3,.d (.c (.v (.slice none 0 0))))::(7,4,.mp 7)::[]) rfl (T.ag [T.d (D.c (C.l eSpan stV)),I 3,I 10,T.d (D.c (C.v (Value.slice none 0 0))),T.mp (7:Nat)]=T.ag [T.d (D.c (C.l eSpan stV)),T.d (D.c (C.v (Value.int IntKind.i64 (3:Int)))),T.d (D.c (C.v (Value.int IntKind.i64 (10:Int)))),T.d (D.c (C.v (Value.slice none 0 0))),T.mp (7:Nat)]/\(MEq (fun x=>false) (fun x=>vsC [Value.bool false]) (fun x=>false) fun k=>vsC [Value.bool (false&&stB (Int.toNat (nth k 0)) (Int.toNat (nth k 1)))])/\(SEq (7:Nat) (fun i=>eSpan (nth stV i)) stV.length fun i=>eSpan (nth stV i))/\(3:Int)=3/\(10:Int)=10/\Value.slice none 0 0=Value.slice none 0 0) (by kernel_rfl) ?_
 exact ⟨rfl,fun k=>⟨rfl,fun hh=>(by cases hh)⟩,.of ⟨rfl,fun _ _=>rfl⟩,rfl,rfl,rfl⟩
def tbE (id fm:Nat):Env:=(2,id,live)::(id+3,0,.d (.c (.l eSpan stV)))::(id+3,1,I 3)::(id+3,2,I 10)::(id+3,3,.d (.c (.v (.slice none 0 0))))::(id+3,4,.mp fm)::[]
abbrev tTm (id:Nat):T:=.ag [.d (.c (.l eSpan stV)),I 3,I 10,.d (.c (.v (.slice none 0 0))),.mp id]
theorem off304 {Gl} (S:SP Gl) (p q r:Nat) (h1:p<r) (h2:r<q) (h3:q<7):CO Gl 304 [tTu,.d (.agg (cPr p q)),I r] (.ret (I (offS p q r))):=by
 refine fn_iq S (let A0:=(figS (p:Int) (q:Int) (endS p (1:Nat)) (endS q (1:Nat)) (r:Int)-endS r (0:Nat));let A1:=(endS r (1:Nat)-figS (p:Int) (q:Int) (endS p (0:Nat)) (endS q (0:Nat)) (r:Int));let A2:=(I (figS (p:Int) (q:Int) (endS p (1:Nat)) (endS q (1:Nat)) (r:Int)));let A3:=(I (figS (p:Int) (q:Int) (endS p (0:Nat)) (endS q (0:Nat)) (r:Int)));((.r (.ret (I (endS p (1:Nat)))) (.r (.ret (I (endS q (1:Nat)))) (.r (.ret A2) (.r (.ret (I (endS p (0:Nat)))) (.r (.ret (I (endS q (0:Nat)))) (.r (.ret A3) (.r (.ret (I (endS r (0:Nat)))) (.r (.ret (I (endS r (1:Nat)))) .nil)))))))),(CO Gl 354 [tTu,I p,I 1] (.ret (I (endS p (1:Nat))))/\CO Gl 354 [tTu,I q,I 1] (.ret (I (endS q (1:Nat))))/\CO Gl 353 [tTu,T.d (D.agg (cPr (p:Int) (q:Int))),I (endS p (1:Nat)),I (endS q (1:Nat)),I r] (.ret A2)/\CO Gl 354 [tTu,I p,I 0] (.ret (I (endS p (0:Nat))))/\CO Gl 354 [tTu,I q,I 0] (.ret (I (endS q (0:Nat))))/\CO Gl 353 [tTu,T.d (D.agg (cPr (p:Int) (q:Int))),I (endS p (0:Nat)),I (endS q (0:Nat)),I r] (.ret A3)/\CO Gl 354 [tTu,I r,I 0] (.ret (I (endS r (0:Nat))))/\iR A0/\CO Gl 354 [tTu,I r,I 1] (.ret (I (endS r (1:Nat))))/\iR A1/\max A0 A1=offS p q r))) Tryz.func304 (by kernel_rfl) (by kernel_rfl) ?_
 have b1:=end_rng p 0 (by omega)
 have b2:=end_rng p 1 (by omega)
 have b3:=end_rng q 0 (by omega)
 have b4:=end_rng q 1 (by omega)
 have b5:=end_rng r 0 (by omega)
 have b6:=end_rng r 1 (by omega)
 have c1:=fig_rng p q r (endS p 1) (endS q 1) h1 h2 h3 b2 b4
 have c2:=fig_rng p q r (endS p 0) (endS q 0) h1 h2 h3 b1 b3
 simp only [rng_iff]
 exact ⟨end354b S p (by omega),end354b S q (by omega),figure353 S p q r _ _ h1 h2 h3 b2 b4,end354a S p (by omega),end354a S q (by omega),figure353 S p q r _ _ h1 h2 h3 b1 b3,end354a S r (by omega),by omega,end354b S r (by omega),by omega,rfl⟩
theorem offK {Gl} (S:SP Gl) (p q k:Nat) (h:p+1+k<q) (h3:q<7):CO Gl 304 [tTu,.d (.agg (cPr p q)),I ((p:Int)+1+k)] (.ret (I (offS p q (p+1+k)))):=
 (show ((p+1+k:Nat):Int)=(p:Int)+1+k by omega)▸off304 S p q (p+1+k) (by omega) h h3
theorem sure207 {Gl} (S:SP Gl) (p q t:Nat) (D:List Int->Bool) (h1:p<q) (h3:q<7):Does Tryz.prog Y Gl yd0 207 [tTm FAR,.d (.agg (cPr p q))] [(0,BIG,.tr t),(2,FAR,mK D)] (.ret (B (stB p q))) [(2,FAR,mK (updD D [(p:Int),(q:Int)]))]:=by
 refine fn_iw S (let A0:=(MEq D (fun k=>vsC [Value.bool (D k&&stB (Int.toNat (nth k 0)) (Int.toNat (nth k 1)))]) D fun k=>vsC [Value.bool (D k&&stB (Int.toNat (nth k 0)) (Int.toNat (nth k 1)))]);let A1:=(D [(p:Int),(q:Int)]&&stB (Int.toNat (nth [(p:Int),(q:Int)] (0:Nat))) (Int.toNat (nth [(p:Int),(q:Int)] (1:Nat))));let A2:=(updD D [(p:Int),(q:Int)]);((.br .nil (.loop (q-p-(1:Nat)) (fun k=>v 8 (I ((p:Int)+1+(k:Int)))::v 7 (B (stTo p q k))::v 3 (ad 3)::v 2 (ad 2)::((0:Nat),BIG,T.tr t)::((2:Nat),FAR,mK D)::(bx 3 (cPr (p:Int) (q:Int))++tbE (2:Nat) FAR)) fun k0=>.br (.arrA (27:Nat) (.r (.ret (I (offS p q (p+(1:Nat)+k0)))) (.br .nil .nil))) .nil)),((D [(p:Int),(q:Int)]=false->[C.v (Value.bool A1)]=[C.v (Value.bool false)])/\(D [(p:Int),(q:Int)]=true->A1=stB p q/\(MEq D (fun k=>vsC [Value.bool (D k&&stB (Int.toNat (nth k 0)) (Int.toNat (nth k 1)))]) A2 fun k=>vsC [Value.bool (updD D [(p:Int),(q:Int)] k&&stB (Int.toNat (nth k 0)) (Int.toNat (nth k 1)))])/\t=t)/\(D [(p:Int),(q:Int)]=false->iR ((p:Int)+1)/\((p:Int)+1=(p:Int)+1+(↑(0:Nat):Int)/\true=true/\t=t/\A0/\(p:Int)=(p:Int)/\(q:Int)=(q:Int)/\(SEq (7:Nat) (fun i=>eSpan (nth stV i)) stV.length fun i=>eSpan (nth stV i))/\(3:Int)=3/\(10:Int)=10/\Value.slice none 0 0=Value.slice none 0 0)/\∀ (k0:Nat),k0<=q-p-(1:Nat)->(decide ((p:Int)+1+(k0:Int)<(q:Int))=true->CO Gl 304 [tTu,T.d (Vc.D.agg (cPr (p:Int) (q:Int))),I ((p:Int)+1+(k0:Int))] (.ret (I (offS p q (p+(1:Nat)+k0))))/\(decide ((10:Int)<offS p q (p+(1:Nat)+k0))=true->iR ((p:Int)+1+(k0:Int)+1)/\k0<q-p-(1:Nat)/\(p:Int)+1+(k0:Int)+1=(p:Int)+1+(↑(k0+1):Int)/\false=stTo p q (k0+1)/\t=t/\A0/\(p:Int)=(p:Int)/\(q:Int)=(q:Int)/\(sR eSpan stV)/\(3:Int)=3/\(10:Int)=10/\Value.slice none 0 0=Value.slice none 0 0)/\(decide ((10:Int)<offS p q (p+(1:Nat)+k0))=false->iR ((p:Int)+1+(k0:Int)+1)/\k0<q-p-(1:Nat)/\(p:Int)+1+(k0:Int)+1=(p:Int)+1+(↑(k0+1):Int)/\stTo p q k0=stTo p q (k0+1)/\t=t/\A0/\(p:Int)=(p:Int)/\(q:Int)=(q:Int)/\(sR eSpan stV)/\(3:Int)=3/\(10:Int)=10/\Value.slice none 0 0=Value.slice none 0 0))/\(decide ((p:Int)+1+(k0:Int)<(q:Int))=false->stTo p q k0=stB p q/\(MEq A2 (updV (fun k=>vsC [Value.bool (D k&&stB (Int.toNat (nth k 0)) (Int.toNat (nth k 1)))]) [(p:Int),(q:Int)] (List.map C.dem [C.v (Value.bool (stTo p q k0))])) A2 fun k=>vsC [Value.bool (updD D [(p:Int),(q:Int)] k&&stB (Int.toNat (nth k 0)) (Int.toNat (nth k 1)))])/\t=t))))) Tryz.func207 (by kernel_rfl) (by kernel_rfl) ?_
 dsimp only
 have meq:∀ D':List Int->Bool,(∀ x,D x=D' x)->MEq D (fun k=>vsC [Value.bool (D k&&stB (Int.toNat (nth k 0)) (Int.toNat (nth k 1)))]) D' (fun k=>vsC [Value.bool (D' k&&stB (Int.toNat (nth k 0)) (Int.toNat (nth k 1)))]):=fun D' h x=>⟨h x,fun _=>.inl (by dsimp only;rw [h x])⟩
 have hu:D [(p:Int),(q:Int)]=true->∀ x,D x=updD D [(p:Int),(q:Int)] x:=fun hd x=>by
  unfold updD
  cases hx:eqK x [(p:Int),(q:Int)] with
  |true=>rw [eqK_iff.1 hx,hd];rfl
  |false=>rfl
 have hend:∀ k,k<=q - p - 1->¬ ((p:Int)+1+k<q)->stTo p q k=stB p q:=fun k h1 h2=>by
  have:k=q - p - 1:=by omega
  rw [this];rfl
 have hm2:∀ k,stTo p q k=stB p q->MEq (updD D [(p:Int),(q:Int)]) (updV (fun k=>vsC [Value.bool (D k&&stB (Int.toNat (nth k 0)) (Int.toNat (nth k 1)))]) [(p:Int),(q:Int)] (List.map C.dem [C.v (Value.bool (stTo p q k))])) (updD D [(p:Int),(q:Int)]) (fun k=>vsC [Value.bool (updD D [(p:Int),(q:Int)] k&&stB (Int.toNat (nth k 0)) (Int.toNat (nth k 1)))]):=fun k hk x=>⟨rfl,fun _=>.inl (by
  dsimp only [updD,updV]
  cases hx:eqK x [(p:Int),(q:Int)] with
  |true=>
   have:=eqK_iff.1 hx
   subst this
   simp only [cond_true,Bool.true_or,Bool.true_and]
   rw [hk]
   rfl
  |false=>simp only [cond_false,Bool.false_or])⟩
 simp only [stdS,imp_self,implies_true,and_true,rng_iff,decide_eq_true_eq,decide_eq_false_iff_not]
 refine ⟨fun hd=>by rw [hd];rfl,fun hd=>⟨by rw [hd];rfl,meq _ (hu hd),trivial⟩,fun hd=>⟨by omega,⟨by omega,meq _ fun _=>rfl,.of ⟨rfl,fun _ _=>rfl⟩,trivial⟩,fun k hk=>⟨fun hl=>⟨offK S p q k (by omega) h3,fun hb=>⟨by omega,by omega,by omega,by simp [stTo,hb],meq _ fun _=>rfl,trivial⟩,fun hb=>⟨by omega,by omega,by omega,by simp [stTo,hb],meq _ fun _=>rfl,trivial⟩⟩,fun hl=>⟨hend k hk hl,hm2 k (hend k hk hl),trivial⟩⟩⟩⟩
def dTo (f:Nat) (dR:Nat->(List Int->Bool)->List Int->Bool) (D:List Int->Bool):Nat->List Int->Bool
 |0=>D
 |j+1=>bif stB f (f+1+j) then dR (f+1+j) (updD (dTo f dR D j) [(f:Int),((f+1+j:Nat):Int)]) else updD (dTo f dR D j) [(f:Int),((f+1+j:Nat):Int)]
def dR:Nat->Nat->(List Int->Bool)->List Int->Bool
 |0,_,D=>D
 |n+1,f,D=>dTo f (dR n) D (6 - f)
def lTo2 (f:Nat) (lR:Nat->List (List Int)):Nat->List (List Int)
 |0=>[]
 |j+1=>lTo2 f lR j++bif stB f (f+1+j) then (lR (f+1+j)).map fun l=>((f+1+j:Nat):Int)::l else []
def lR:Nat->Nat->List (List Int)
 |0,_=>[[]]
 |n+1,f=>bif Nat.beq f 6 then [[]] else lTo2 f (lR n) (6 - f)
def putPre (l p:Nat) (D:List Int->Bool):Env:=
 [(0,BIG,.tr p),(2,FAR+1,live),(FAR+4,0,.yl l)]++tbE (FAR+2) (FAR+4)++[(2,FAR+4,mK D),(2,FAR+3,live),(FAR+6,0,.fn 206 [] [.d (.c (.p cST)),.addr (FAR+1) 0,.addr (FAR+2) 0,.addr (FAR+3) 0])]
theorem sureK {Gl} (S:SP Gl) (f j t:Nat) (D:List Int->Bool) (h:f+1+j<7) (yd:Yd):Does Tryz.prog Y Gl yd 207 [tTm FAR,.d (.agg [Ci f,Ci ((f:Int)+1+j)])] [(0,BIG,.tr t),(2,FAR,mK D)] (.ret (B (stB f (f+1+j)))) [(2,FAR,mK (updD D [(f:Int),((f+1+j:Nat):Int)]))]:=
 Does.any ((show ((f+1+j:Nat):Int)=(f:Int)+1+j by omega)▸sure207 S f (f+1+j) t D (by omega) h) rfl
theorem meqB {D D':List Int->Bool} (h:∀ x,D x=D' x):MEq D (fun k=>vsC [Value.bool (D k&&stB (Int.toNat (nth k 0)) (Int.toNat (nth k 1)))]) D' (fun k=>vsC [Value.bool (D' k&&stB (Int.toNat (nth k 0)) (Int.toNat (nth k 1)))]):=fun x=>⟨h x,fun _=>.inl (by dsimp only;rw [h x])⟩
theorem bltT {i n:Nat} (h:i<n):Nat.blt i n=true:=Nat.ble_eq_true_of_le h
theorem bltF {i n:Nat} (h:n<=i):Nat.blt i n=false:=by
 cases hb:Nat.blt i n with
 |false=>rfl
 |true=>have:=blt_lt hb;omega
theorem cat_app (now:List Int) (x:Int):SEq (now.length+1) (catF now.length (fun i=>eI (nth now i)) fun i=>[List.map C.dem [C.v (Value.int IntKind.i64 x)]].getD i []) (now.length+1) (fun i=>eI (nth (now++[x]) i)):=.of ⟨rfl,fun i hi=>by
 unfold catF
 dsimp only
 by_cases h:i<now.length
 ·rw [nth_append_lt h,bltT h,cond_true]
 ·have:i=now.length:=by omega
  rw [nth_append_ge (by omega),bltF (by omega),this,Nat.sub_self,cond_false]
  rfl⟩
theorem cloneT {Gl} (S:SP Gl) (l:List Int) (h1:1<=l.length) (h2:l.length<=1000):CO Gl 69 [L eI l] (.ret (.tkd 3 1 l.length (fun i=>eI (nth l i)))):=by
 refine fn_is S (.ff .nil) Tryz.func69 (by kernel_rfl) ((0:Nat)<l.length/\false=false/\((0:Nat)+l.length)*8<=140737488355328/\(0:Nat)+l.length<=(140737488355328:Nat)/\SEq ((0:Nat)+l.length) (catF 0 (fun x=>[]) fun i=>eI (nth l i)) l.length fun i=>eI (nth l i)) (by kernel_rfl) ?_
 refine ⟨by omega,rfl,by omega,by omega,.of ⟨by omega,fun i hi=>?_⟩⟩
 unfold catF
 rw [bltF (Nat.zero_le _),cond_false,Nat.sub_zero]
theorem putEnd {Gl} (S:SP Gl) (P:List (List Int)) (now:List Int) (l p m:Nat) (D:List Int->Bool) (hn:1<=now.length/\now.length<=7) (hb:(nth now ((now.length:Int) - 1).toNat==((7:Nat):Int) - 1)=true) (h1:p<m) (h2:nth P p=now):Does Tryz.prog Y Gl (colYd P l m) 206 [L eI now,.d (.c (.p cST)),.addr (FAR+1) 0,.addr (FAR+2) 0,.addr (FAR+3) 0] (putPre l p D) (.ret (B true)) [(0,BIG,.tr (p+1)),(2,FAR+4,mK D)]:=by
 refine fn_iw S (let A0:=[C.l eSpan stV,C.v (Value.int IntKind.i64 (3:Int)),C.v (Value.int IntKind.i64 (10:Int))];let A1:=(now.length:Int);((.val 20 true (.tt .nil)),(now.length<=maxLen->iR (A1-1)/\(0<=A1-1/\A1-1<A1)/\((7:Nat)<=maxLen->iR ((↑(7:Nat):Int)-1)/\(nth now (Int.toNat (A1-1))==(↑(7:Nat):Int)-1)=true/\true=true/\l=l/\p<m/\p<=m/\(sQ eI now (nth P p))/\(p != m)=true/\p+(1:Nat)=p+(1:Nat)/\(MEq D (fun k=>vsC [Value.bool (D k&&stB (Int.toNat (nth k 0)) (Int.toNat (nth k 1)))]) D fun k=>vsC [Value.bool (D k&&stB (Int.toNat (nth k 0)) (Int.toNat (nth k 1)))])/\l=l/\(sR eSpan stV)/\(3:Int)=3/\(10:Int)=10/\Value.slice none 0 0=Value.slice none 0 0/\(206:Nat)=(206:Nat)/\A0=A0)))) Tryz.func206 (by kernel_rfl) (by kernel_rfl) ?_
 simp only [stdS,imp_self,implies_true,and_true,rng_iff]
 refine fun hm=>⟨by omega,by omega,fun _=>⟨by decide,hb,h1,by omega,by rw [h2];exact .of ⟨rfl,fun _ _=>rfl⟩,by simp;omega,meqB fun _=>rfl,trivial⟩⟩
theorem putStep {Gl} (S:SP Gl) (P:List (List Int)) (now:List Int) (l p m f n:Nat) (D:List Int->Bool) (hn:1<=now.length/\now.length<=7) (hl:nth now ((now.length:Int) - 1).toNat=(f:Int)) (hb:(nth now ((now.length:Int) - 1).toNat==((7:Nat):Int) - 1)=false) (h1:f<6) (ih:∀ (D':List Int->Bool) (j n':Nat) (g:Nat->List C),j<6 - f->stB f (f+1+j)=true->SEq n' g (now.length+1) (fun i=>eI (nth (now++[((f+1+j:Nat):Int)]) i))->Does Tryz.prog Y Gl (colYd P l m) 206 [.d (.c (.s .n n' g)),.d (.c (.p cST)),.addr (FAR+1) 0,.addr (FAR+2) 0,.addr (FAR+3) 0] (putPre l (p+(lTo2 f (lR n) j).length) D') (.ret (B true)) [(0,BIG,.tr (p+(lTo2 f (lR n) (j+1)).length)),(2,FAR+4,mK (dR n (f+1+j) D'))]):Does Tryz.prog Y Gl (colYd P l m) 206 [L eI now,.d (.c (.p cST)),.addr (FAR+1) 0,.addr (FAR+2) 0,.addr (FAR+3) 0] (putPre l p D) (.ret (B true)) [(0,BIG,.tr (p+(lTo2 f (lR n) (6 - f)).length)),(2,FAR+4,mK (dTo f (dR n) D (6 - f)))]:=by
 refine fn_iw S (let A0:=[C.l eSpan stV,C.v (Value.int IntKind.i64 (3:Int)),C.v (Value.int IntKind.i64 (10:Int))];let A1:=fun (k0:Nat)=>(catF now.length (fun i=>eI (nth now i)) fun i=>List.getD [List.map C.dem [C.v (Value.int IntKind.i64 ((f:Int)+1+(k0:Int)))]] i []);let A2:=fun (k0:Nat)=>(↑(f+(1:Nat)+k0):Int);let A3:=fun (k0:Nat)=>(lTo2 f (lR n) k0);let A4:=fun (k0:Nat)=>[tTm FAR,T.d (Vc.D.agg [Ci f,Ci ((f:Int)+1+(k0:Int))])];let A5:=fun (k0:Nat)=>[T.d (Vc.D.c (C.s Tag.n (now.length+1) (A1 k0))),T.d (Vc.D.c (C.p cST)),T.addr (FAR+1) (0:Nat),T.addr (FAR+2) (0:Nat),T.addr (FAR+3) (0:Nat)];let A6:=fun (k0:Nat)=>((0:Nat),BIG,T.tr (p+List.length (A3 k0)));let A7:=(now.length:Int);let A8:=fun (k0:Nat)=>(f+(1:Nat)+k0);let A9:=(sR eSpan stV);let A10:=(T.tkd (3:Nat) (1:Nat) now.length fun i=>eI (nth now i));let A11:=((6:Nat)-f);let A12:=(Int.toNat (A7-1));((.val 20 false (.ff (.loop A11 (fun j=>v 7 (I f)::v 8 (I ((f:Int)+1+(j:Int)))::v 0 (L eI now)::v 1 (T.d (Vc.D.c (C.p cST)))::v 2 (ad (FAR+1))::v 3 (ad (FAR+2))::v 4 (ad (FAR+3))::putPre l (p+List.length (lTo2 f (lR n) j)) (dTo f (dR n) D j)) fun k0=>.ite (stB f (A8 k0)) (.br (.arrA (100033:Nat) (.val 37 true (.w [(nat_lit 100000,nat_lit 100004)] (A4 k0) [(A6 k0),((2:Nat),FAR,mK (dTo f (dR n) D k0))] (.ret (B (stB f (A8 k0)))) [((2:Nat),FAR,mK (updD (dTo f (dR n) D k0) [(f:Int),(A2 k0)]))] (.sure 39 (.sure 40 (.sure 41 (.r (.ret A10) (.sure 42 (.sure 43 (.sure 44 (.sure 45 (.w [(nat_lit 100001,nat_lit 100001),(nat_lit 100002,nat_lit 100002),(nat_lit 100003,nat_lit 100003),(nat_lit 100004,nat_lit 100004)] (A5 k0) (putPre l (p+List.length (A3 k0)) (updD (dTo f (dR n) D k0) [(f:Int),(A2 k0)])) (.ret (B true)) [((0:Nat),BIG,T.tr (p+List.length (lTo2 f (lR n) (k0+1)))),((2:Nat),FAR+(4:Nat),mK (dR n (A8 k0) (updD (dTo f (dR n) D k0) [(f:Int),(A2 k0)])))] (.sure 46 (.ff .nil)))))))))))))) .nil) (.br (.arrA (100033:Nat) (.val 37 false (.w [(nat_lit 100000,nat_lit 100004)] (A4 k0) [(A6 k0),((2:Nat),FAR,mK (dTo f (dR n) D k0))] (.ret (B (stB f (A8 k0)))) [((2:Nat),FAR,mK (updD (dTo f (dR n) D k0) [(f:Int),(A2 k0)]))] (.skip (39:Nat) (.skip (40:Nat) (.skip (41:Nat) (.skip (42:Nat) (.skip (43:Nat) (.skip (44:Nat) (.skip (45:Nat) (.skip (46:Nat) (.ff .nil)))))))))))) .nil)))),(now.length<=maxLen->iR (A7-1)/\(0<=A7-1/\A7-1<A7)/\((7:Nat)<=maxLen->iR ((↑(7:Nat):Int)-1)/\(nth now A12==(↑(7:Nat):Int)-1)=false/\false=false/\iR (nth now A12+(1:Int))/\(nth now A12=(f:Int)/\nth now A12+1=(f:Int)+1+(↑(0:Nat):Int)/\(sR eI now)/\A0=A0/\p=p+List.length (lTo2 f (lR n) (0:Nat))/\l=l/\A9/\(3:Int)=3/\(10:Int)=10/\Value.slice none 0 0=Value.slice none 0 0/\(MEq D (fun k=>vsC [Value.bool (D k&&stB (Int.toNat (nth k 0)) (Int.toNat (nth k 1)))]) (dTo f (dR n) D (0:Nat)) fun k=>vsC [Value.bool (dTo f (dR n) D (0:Nat) k&&stB (Int.toNat (nth k 0)) (Int.toNat (nth k 1)))])/\(206:Nat)=(206:Nat)/\A0=A0)/\∀ (k0:Nat),k0<=(6:Nat)-f->(stB f (A8 k0)=true->(7:Nat)<=maxLen->(decide ((f:Int)+1+(k0:Int)<(↑(7:Nat):Int))=true->stB f (A8 k0)=true/\A9/\(3:Int)=3/\(10:Int)=10/\Value.slice none 0 0=Value.slice none 0 0/\(f:Int)=(f:Int)/\(f:Int)+1+(k0:Int)=(f:Int)+1+(k0:Int)/\p+List.length (A3 k0)=p+List.length (A3 k0)/\(MEq (dTo f (dR n) D k0) (fun k=>vsC [Value.bool (dTo f (dR n) D k0 k&&stB (Int.toNat (nth k 0)) (Int.toNat (nth k 1)))]) (dTo f (dR n) D k0) fun k=>vsC [Value.bool (dTo f (dR n) D k0 k&&stB (Int.toNat (nth k 0)) (Int.toNat (nth k 1)))])/\Does Tryz.prog Y Gl (colYd P l m) (207:FuncId) (A4 k0) [(A6 k0),((2:Nat),FAR,mK (dTo f (dR n) D k0))] (.ret (B (stB f (A8 k0)))) [((2:Nat),FAR,mK (updD (dTo f (dR n) D k0) [(f:Int),(A2 k0)]))]/\true=true/\true=true/\true=true/\CO Gl 69 [L eI now] (.ret A10)/\true=true/\true=true/\true=true/\(now.length+1)*8<=140737488355328/\now.length+1<=140737488355328/\true=true/\SEq (now.length+1) (A1 k0) (now.length+1) (A1 k0)/\A0=A0/\p+List.length (A3 k0)=p+List.length (A3 k0)/\l=l/\A9/\(3:Int)=3/\(10:Int)=10/\Value.slice none 0 0=Value.slice none 0 0/\(MEq (updD (dTo f (dR n) D k0) [(f:Int),(A2 k0)]) (fun k=>vsC [Value.bool (updD (dTo f (dR n) D k0) [(f:Int),(A2 k0)] k&&stB (Int.toNat (nth k 0)) (Int.toNat (nth k 1)))]) (updD (dTo f (dR n) D k0) [(f:Int),(A2 k0)]) fun k=>vsC [Value.bool (updD (dTo f (dR n) D k0) [(f:Int),(A2 k0)] k&&stB (Int.toNat (nth k 0)) (Int.toNat (nth k 1)))])/\(206:Nat)=(206:Nat)/\A0=A0/\Does Tryz.prog Y Gl (colYd P l m) (206:FuncId) (A5 k0) (putPre l (p+List.length (A3 k0)) (updD (dTo f (dR n) D k0) [(f:Int),(A2 k0)])) (.ret (B true)) [((0:Nat),BIG,T.tr (p+List.length (lTo2 f (lR n) (k0+1)))),((2:Nat),FAR+(4:Nat),mK (dR n (A8 k0) (updD (dTo f (dR n) D k0) [(f:Int),(A2 k0)])))]/\true=true/\false=false/\iR ((f:Int)+1+(k0:Int)+1)/\k0<(6:Nat)-f/\(f:Int)=(f:Int)/\(f:Int)+1+(k0:Int)+1=(f:Int)+1+(↑(k0+1):Int)/\(sR eI now)/\A0=A0/\p+List.length (lTo2 f (lR n) (k0+1))=p+List.length (lTo2 f (lR n) (k0+1))/\l=l/\A9/\(3:Int)=3/\(10:Int)=10/\Value.slice none 0 0=Value.slice none 0 0/\(MEq (dR n (A8 k0) (updD (dTo f (dR n) D k0) [(f:Int),(A2 k0)])) (fun k=>vsC [Value.bool (dR n (A8 k0) (updD (dTo f (dR n) D k0) [(f:Int),(A2 k0)]) k&&stB (Int.toNat (nth k 0)) (Int.toNat (nth k 1)))]) (dTo f (dR n) D (k0+1)) fun k=>vsC [Value.bool (dTo f (dR n) D (k0+1) k&&stB (Int.toNat (nth k 0)) (Int.toNat (nth k 1)))])/\(206:Nat)=(206:Nat)/\A0=A0)/\(decide ((f:Int)+1+(k0:Int)<(↑(7:Nat):Int))=false->true=true/\p+List.length (A3 k0)=p+List.length (lTo2 f (lR n) A11)/\(MEq (dTo f (dR n) D k0) (fun k=>vsC [Value.bool (dTo f (dR n) D k0 k&&stB (Int.toNat (nth k 0)) (Int.toNat (nth k 1)))]) (dTo f (dR n) D A11) fun k=>vsC [Value.bool (dTo f (dR n) D A11 k&&stB (Int.toNat (nth k 0)) (Int.toNat (nth k 1)))])/\l=l/\A9/\(3:Int)=3/\(10:Int)=10/\Value.slice none 0 0=Value.slice none 0 0/\(206:Nat)=(206:Nat)/\A0=A0))/\(stB f (A8 k0)=false->(7:Nat)<=maxLen->(decide ((f:Int)+1+(k0:Int)<(↑(7:Nat):Int))=true->stB f (A8 k0)=false/\A9/\(3:Int)=3/\(10:Int)=10/\Value.slice none 0 0=Value.slice none 0 0/\(f:Int)=(f:Int)/\(f:Int)+1+(k0:Int)=(f:Int)+1+(k0:Int)/\p+List.length (A3 k0)=p+List.length (A3 k0)/\(MEq (dTo f (dR n) D k0) (fun k=>vsC [Value.bool (dTo f (dR n) D k0 k&&stB (Int.toNat (nth k 0)) (Int.toNat (nth k 1)))]) (dTo f (dR n) D k0) fun k=>vsC [Value.bool (dTo f (dR n) D k0 k&&stB (Int.toNat (nth k 0)) (Int.toNat (nth k 1)))])/\Does Tryz.prog Y Gl (colYd P l m) (207:FuncId) (A4 k0) [(A6 k0),((2:Nat),FAR,mK (dTo f (dR n) D k0))] (.ret (B (stB f (A8 k0)))) [((2:Nat),FAR,mK (updD (dTo f (dR n) D k0) [(f:Int),(A2 k0)]))]/\false=false/\false=false/\false=false/\false=false/\false=false/\false=false/\false=false/\false=false/\(false=true->false=true)/\false=false/\iR ((f:Int)+1+(k0:Int)+1)/\k0<(6:Nat)-f/\(f:Int)=(f:Int)/\(f:Int)+1+(k0:Int)+1=(f:Int)+1+(↑(k0+1):Int)/\(sR eI now)/\A0=A0/\p+List.length (A3 k0)=p+List.length (lTo2 f (lR n) (k0+1))/\l=l/\A9/\(3:Int)=3/\(10:Int)=10/\Value.slice none 0 0=Value.slice none 0 0/\(MEq (updD (dTo f (dR n) D k0) [(f:Int),(A2 k0)]) (fun k=>vsC [Value.bool (updD (dTo f (dR n) D k0) [(f:Int),(A2 k0)] k&&stB (Int.toNat (nth k 0)) (Int.toNat (nth k 1)))]) (dTo f (dR n) D (k0+1)) fun k=>vsC [Value.bool (dTo f (dR n) D (k0+1) k&&stB (Int.toNat (nth k 0)) (Int.toNat (nth k 1)))])/\(206:Nat)=(206:Nat)/\A0=A0)/\(decide ((f:Int)+1+(k0:Int)<(↑(7:Nat):Int))=false->true=true/\p+List.length (A3 k0)=p+List.length (lTo2 f (lR n) A11)/\(MEq (dTo f (dR n) D k0) (fun k=>vsC [Value.bool (dTo f (dR n) D k0 k&&stB (Int.toNat (nth k 0)) (Int.toNat (nth k 1)))]) (dTo f (dR n) D A11) fun k=>vsC [Value.bool (dTo f (dR n) D A11 k&&stB (Int.toNat (nth k 0)) (Int.toNat (nth k 1)))])/\l=l/\A9/\(3:Int)=3/\(10:Int)=10/\Value.slice none 0 0=Value.slice none 0 0/\(206:Nat)=(206:Nat)/\A0=A0)))))) Tryz.func206 (by kernel_rfl) (by kernel_rfl) ?_
 have hsv:stV.length=7:=rfl
 simp only [stdS,imp_self,implies_true,and_true,rng_iff,hsv,decide_eq_true_eq,decide_eq_false_iff_not,hl]
 have hcast:∀ k0:Nat,(f:Int)+1+(k0:Int)=((f+1+k0:Nat):Int):=fun k0=>by omega
 have hs1:∀ k0,stB f (f+1+k0)=true->∀ x,dR n (f+1+k0) (updD (dTo f (dR n) D k0) [(f:Int),((f+1+k0:Nat):Int)]) x=dTo f (dR n) D (k0+1) x:=fun k0 h x=>by
  show _=(bif stB f (f+1+k0) then dR n (f+1+k0) (updD (dTo f (dR n) D k0) [(f:Int),((f+1+k0:Nat):Int)]) else updD (dTo f (dR n) D k0) [(f:Int),((f+1+k0:Nat):Int)]) x
  rw [h,cond_true]
 have hs0:∀ k0,stB f (f+1+k0)=false->∀ x,updD (dTo f (dR n) D k0) [(f:Int),((f+1+k0:Nat):Int)] x=dTo f (dR n) D (k0+1) x:=fun k0 h x=>by
  show _=(bif stB f (f+1+k0) then dR n (f+1+k0) (updD (dTo f (dR n) D k0) [(f:Int),((f+1+k0:Nat):Int)]) else updD (dTo f (dR n) D k0) [(f:Int),((f+1+k0:Nat):Int)]) x
  rw [h,cond_false]
 have hl0:∀ k0,stB f (f+1+k0)=false->(lTo2 f (lR n) (k0+1))=lTo2 f (lR n) k0:=fun k0 h=>by
  show lTo2 f (lR n) k0++(bif stB f (f+1+k0) then _ else _)=_
  rw [h,cond_false,List.append_nil]
 have hend:∀ k0:Nat,k0<=6 - f->¬ ((f:Int)+1+k0<((7:Nat):Int))->k0=6 - f:=fun k0 a b=>by omega
 rw [hl] at hb
 refine fun hm=>⟨by omega,by omega,fun _=>⟨by omega,hb,by omega,⟨by omega,rfl,meqB fun _=>rfl,trivial⟩,fun k0 hk=>⟨fun hc hm7=>⟨fun hlt=>⟨hc,meqB fun _=>rfl,sureK S f k0 _ _ (by omega) _,cloneT S now hn.1 (by omega),by omega,by omega,meqB fun _=>rfl,ih _ k0 _ _ (by omega) hc (by rw [hcast];exact cat_app now _),by omega,by omega,by omega,meqB (hs1 k0 hc),trivial⟩,fun hge=>?_⟩,fun hc hm7=>⟨fun hlt=>⟨hc,meqB fun _=>rfl,sureK S f k0 _ _ (by omega) _,by omega,by omega,by omega,by rw [hl0 k0 hc],meqB (hs0 k0 hc),trivial⟩,fun hge=>?_⟩⟩⟩⟩
 ·rw [hend k0 hk hge]
  exact ⟨rfl,meqB fun _=>rfl,trivial⟩
 ·rw [hend k0 hk hge]
  exact ⟨rfl,meqB fun _=>rfl,trivial⟩
theorem lTo2_at (f:Nat) (R:Nat->List (List Int)) {j i:Nat} (hs:stB f (f+1+j)=true) (hi:i<(R (f+1+j)).length):∀ k,j<k->(lTo2 f R j).length+i<(lTo2 f R k).length/\nth (lTo2 f R k) ((lTo2 f R j).length+i)=((f+1+j:Nat):Int)::nth (R (f+1+j)) i
 |0,h=>by omega
 |k+1,h=>by
  by_cases hk:j=k
  ·subst hk
   have:lTo2 f R (j+1)=lTo2 f R j++(R (f+1+j)).map fun l=>((f+1+j:Nat):Int)::l:=by
    show lTo2 f R j++(bif stB f (f+1+j) then _ else _)=_
    rw [hs,cond_true]
   rw [this]
   refine ⟨by rw [List.length_append,List.length_map];omega,?_⟩
   rw [nth_append_ge (by omega),Nat.add_sub_cancel_left,nth_map hi]
  ·obtain ⟨a,b⟩:=lTo2_at f R hs hi k (by omega)
   have:lTo2 f R (k+1)=lTo2 f R k++(bif stB f (f+1+k) then (R (f+1+k)).map fun l=>((f+1+k:Nat):Int)::l else []):=rfl
   rw [this]
   exact ⟨by rw [List.length_append];omega,by rw [nth_append_lt a];exact b⟩
theorem lTo2_len (f:Nat) (R:Nat->List (List Int)) {j:Nat} (hs:stB f (f+1+j)=true):(lTo2 f R (j+1)).length=(lTo2 f R j).length+(R (f+1+j)).length:=by
 have:lTo2 f R (j+1)=lTo2 f R j++(R (f+1+j)).map fun l=>((f+1+j:Nat):Int)::l:=by
  show lTo2 f R j++(bif stB f (f+1+j) then _ else _)=_
  rw [hs,cond_true]
 rw [this,List.length_append,List.length_map]
theorem last_int {now:List Int} (h:1<=now.length):((now.length:Int) - 1).toNat=now.length - 1:=by omega
theorem put206 {Gl} (S:SP Gl) (P:List (List Int)) (l m:Nat):∀ (n f:Nat) (now:List Int) (p:Nat) (D:List Int->Bool),f<=6->6 - f<n->1<=now.length->now.length+(6 - f)<=7->nth now (now.length - 1)=(f:Int)->
  (∀ i,i<(lR n f).length->p+i<m/\nth P (p+i)=now++nth (lR n f) i)->
  Does Tryz.prog Y Gl (colYd P l m) 206 [L eI now,.d (.c (.p cST)),.addr (FAR+1) 0,.addr (FAR+2) 0,.addr (FAR+3) 0] (putPre l p D) (.ret (B true)) [(0,BIG,.tr (p+(lR n f).length)),(2,FAR+4,mK (dR n f D))]
 |0,_,_,_,_,_,h,_,_,_,_=>by omega
 |n+1,f,now,p,D,hf,hn,h1,h2,hl,hP=>by
  have hli:=last_int h1
  by_cases h6:f=6
  ·subst h6
   obtain ⟨q1,q2⟩:=hP 0 (by show 0<1;decide)
   have q2:nth P p=now++[]:=q2
   rw [List.append_nil] at q2
   exact putEnd S P now l p m D ⟨h1,by omega⟩ (by rw [hli,hl];rfl) q1 q2
  ·have hb6:Nat.beq f 6=false:=by
    cases hb:Nat.beq f 6 with
    |false=>rfl
    |true=>exact absurd (Nat.eq_of_beq_eq_true hb) h6
   have hlr:lR (n+1) f=lTo2 f (lR n) (6 - f):=by
    show (bif Nat.beq f 6 then [[]] else lTo2 f (lR n) (6 - f))=_
    rw [hb6,cond_false]
   rw [hlr] at hP ⊢
   refine putStep S P now l p m f n D ⟨h1,by omega⟩ (by rw [hli,hl]) (by rw [hli,hl];simp;show ¬ (f:Int)=7 - 1;omega) (by omega) fun D' j n' g hj hst hse=>?_
   have hlen:(now++[((f+1+j:Nat):Int)]).length=now.length+1:=by rw [List.length_append];rfl
   have h:=put206 S P l m n (f+1+j) (now++[((f+1+j:Nat):Int)]) (p+(lTo2 f (lR n) j).length) D' (by omega) (by omega) (by omega) (by omega) (by rw [hlen,Nat.add_sub_cancel,nth_append_ge (Nat.le_refl _),Nat.sub_self];rfl) fun i hi=>by
    obtain ⟨a,b⟩:=lTo2_at f (lR n) hst hi (6 - f) hj
    obtain ⟨c,d⟩:=hP _ a
    rw [b] at d
    exact ⟨by omega,by rw [Nat.add_assoc,d,List.append_assoc];rfl⟩
   rw [lTo2_len f (lR n) hst,<-Nat.add_assoc]
   refine Does.args h ?_
   show SEq n' g (now++[((f+1+j:Nat):Int)]).length (fun i=>eI (nth (now++[((f+1+j:Nat):Int)]) i))/\cST=cST
   rw [hlen]
   exact ⟨hse,rfl⟩
def lSt:List (List Int):=(lR 7 0).map fun x=>(0:Int)::x
theorem put0 {Gl} (S:SP Gl) (l:Nat) (n':Nat) (g:Nat->List C) (h:SEq n' g 1 (fun i=>eI (nth [(0:Int)] i))):Does Tryz.prog Y Gl (colYd lSt l lSt.length) 206 [.d (.c (.s .n n' g)),.d (.c (.p cST)),.addr (FAR+1) 0,.addr (FAR+2) 0,.addr (FAR+3) 0] (putPre l 0 (fun _=>false)) (.ret (B true)) [(0,BIG,.tr lSt.length),(2,FAR+4,mK (dR 7 0 (fun _=>false)))]:=by
 have hk:lSt.length=(lR 7 0).length:=by unfold lSt;rw [List.length_map]
 have h2:=put206 S lSt l lSt.length 7 0 [(0:Int)] 0 (fun _=>false) (by omega) (by omega) (by show 1<=1;omega) (by show 1+6<=7;omega) rfl fun i hi=>⟨by omega,by
  rw [Nat.zero_add]
  unfold lSt
  rw [nth_map hi]
  rfl⟩
 rw [Nat.zero_add,<-hk] at h2
 exact Does.args h2 (show SEq n' g 1 (fun i=>eI (nth [(0:Int)] i))/\cST=cST from ⟨h,rfl⟩)
theorem lists204 {Gl} (S:SP Gl) (l:Nat):Does Tryz.prog Y Gl (colYd lSt l lSt.length) 204 [.yl l,.d (.c (.p cST))] [(0,BIG,.tr 0)] (.ret (.tup [])) [(0,BIG,.tr lSt.length)]:=by
 refine fn_iw S (let A0:=(Res.new (T.ag [T.d (D.c (C.l eSpan stV)),I 3,I 10,T.d (D.c (C.v (Value.slice none 0 0))),T.mp (7:Nat)]) [((2:Nat),(7:Nat),mK fun x=>false),((2:Nat),(4:Nat),live),((7:Nat),(0:Nat),T.d (D.c (C.l eSpan stV))),((7:Nat),(1:Nat),I 3),((7:Nat),(2:Nat),I 10),((7:Nat),(3:Nat),T.d (D.c (C.v (Value.slice none 0 0)))),((7:Nat),(4:Nat),T.mp (7:Nat))]);let A1:=[C.l eSpan stV,C.v (Value.int IntKind.i64 (3:Int)),C.v (Value.int IntKind.i64 (10:Int))];let A2:=[T.d (D.c (C.s Tag.n (1:Nat) fun i=>List.getD [List.map C.dem [C.v (Value.int IntKind.i64 (0:Int))]] i [])),T.d (D.c (C.p cST)),T.addr (FAR+1) (0:Nat),T.addr (FAR+2) (0:Nat),T.addr (FAR+3) (0:Nat)];let A3:=((2:Nat),FAR+(4:Nat),mK (dR (7:Nat) (0:Nat) fun x=>false));let A4:=[List.map C.dem [C.v (Value.int IntKind.i64 (0:Int))]];((.n [(nat_lit 7,nat_lit 7007),(nat_lit 4,nat_lit 7004)] A0 (.w [(nat_lit 100001,nat_lit 2),(nat_lit 100002,nat_lit 3),(nat_lit 100003,nat_lit 4),(nat_lit 100004,nat_lit 7007)] A2 (putPre l (0:Nat) fun x=>false) (.ret (B true)) [((0:Nat),BIG,T.tr lSt.length),A3] .nil)),(CO Gl 205 [T.d (D.agg cST),T.d (D.c (C.v (Value.slice none 0 0)))] A0/\(SEq (1:Nat) (fun i=>List.getD A4 i []) (1:Nat) fun i=>List.getD A4 i [])/\A1=A1/\(0:Nat)=(0:Nat)/\l=l/\(SEq (7:Nat) (fun i=>eSpan (nth stV i)) stV.length fun i=>eSpan (nth stV i))/\(3:Int)=3/\(10:Int)=10/\Value.slice none 0 0=Value.slice none 0 0/\(MEq (fun x=>false) (fun k=>vsC [Value.bool (false&&stB (Int.toNat (nth k 0)) (Int.toNat (nth k 1)))]) (fun x=>false) fun k=>vsC [Value.bool (false&&stB (Int.toNat (nth k 0)) (Int.toNat (nth k 1)))])/\(206:Nat)=(206:Nat)/\A1=A1/\Does Tryz.prog Y Gl (colYd lSt l lSt.length) (206:FuncId) A2 (putPre l (0:Nat) fun x=>false) (.ret (B true)) [((0:Nat),BIG,T.tr lSt.length),A3]/\True/\(8:Nat)=(8:Nat)))) Tryz.func204 (by kernel_rfl) (by kernel_rfl) ?_
 simp only [stdS,imp_self,implies_true,and_true]
 have hz:SEq 1 (fun i=>List.getD [List.map C.dem [C.v (Value.int IntKind.i64 (0:Int))]] i []) 1 (fun i=>eI (nth [(0:Int)] i)):=.of ⟨rfl,fun i hi=>by
  have:i=0:=by omega
  subst this
  rfl⟩
 exact ⟨tableOf205 S,.of ⟨rfl,fun _ _=>rfl⟩,meqB (D:=fun _=>false) fun _=>rfl,put0 S l _ _ hz,trivial⟩
theorem lists118 {Gl} (S:SP Gl):CO Gl 118 [.d (.agg cST)] (.ret (.fn 204 [] [.d (.c (.p cST))])):=by
 refine fn_ptr S (t:=2) (id:=1) .nil Tryz.func118 (by kernel_rfl) Tryz.results118 (by decide) (by decide) (T.fn 204 [] [.addr 1 0]=T.fn 204 [] [.addr 1 0]/\live=live/\(.d (.c (.l eSpan stV)):T)=.d (.c (.l eSpan stV))/\I 3=I 3/\I 10=I 10/\True) (by kernel_rfl) ?_
 exact ⟨rfl,rfl,rfl,rfl,rfl,trivial⟩
theorem append203 {Gl} (S:SP Gl)  :CO Gl 203 [.d (.c (.v (.slice none 0 0))),.fn 204 [] [.d (.c (.p cST))]] (.ret (.tkd 22 1 lSt.length (fun i=>eCol (nth lSt i)))):=by
 refine fn_is S (.rf lSt.length lSt.length (fun p=>[L eI (nth lSt p)]) (fun p=>v 2 (ad 2)::tk 100 22::bx 2 [C.lt (100:Nat) eCol (List.take p lSt)]) (fun k0=>.nil) .nil) Tryz.func203 (by kernel_rfl) (Yd.m yd0=(0:Nat)/\ydOf (Does Tryz.prog Y Gl) (204:Nat) [] [T.d (D.c (C.p [C.l eSpan stV,C.v (Value.int IntKind.i64 (3:Int)),C.v (Value.int IntKind.i64 (10:Int))]))] (fun l=>Yd.mk l lSt.length lSt.length fun p=>[L eI (nth lSt p)]) lSt.length lSt.length/\(0:Nat)=(0:Nat)/\(∀ (k0:Nat),k0<lSt.length->k0<=lSt.length->(List.length (List.take k0 lSt)+1)*24<=140737488355328/\List.length (List.take k0 lSt)+1<=140737488355328/\k0<lSt.length/\SEq (List.length (List.take k0 lSt)+1) (catF (List.length (List.take k0 lSt)) (fun i=>eCol (nth (List.take k0 lSt) i)) fun i=>List.getD [List.map C.dem [C.s Tag.n (List.length (nth lSt k0)) fun i=>eI (nth (nth lSt k0) i)]] i []) (List.length (List.take (k0+1) lSt)) fun i=>eCol (nth (List.take (k0+1) lSt) i))/\(lSt.length<=lSt.length->SEq (8:Nat) (fun i=>eCol (nth (List.take lSt.length lSt) i)) lSt.length fun i=>eCol (nth lSt i))) (by kernel_rfl) ?_
 have hlen:lSt.length=8:=by decide
 refine ⟨rfl,fun l=>lists204 S l,rfl,fun k h1 h2=>⟨by rw [List.length_take];omega,by rw [List.length_take];omega,h1,SEq_push h1 rfl⟩,fun _=>?_⟩
 rw [List.take_length]
 exact .of ⟨hlen.symm,fun _ _=>rfl⟩
theorem collect117 {Gl} (S:SP Gl)  :CO Gl 117 [.fn 204 [] [.d (.c (.p cST))]] (.ret (.tkd 22 1 lSt.length (fun i=>eCol (nth lSt i)))):=by
 refine fn_is S (.r (.ret (T.tkd (22:Nat) (1:Nat) lSt.length fun i=>eCol (nth lSt i))) .nil) Tryz.func117 (by kernel_rfl) (CO Gl 203 [T.d (D.c (C.v (Value.slice none 0 0))),T.fn (204:FuncId) [] [T.d (D.c (C.p cST))]] (.ret (T.tkd (22:Nat) (1:Nat) lSt.length fun i=>eCol (nth lSt i)))/\SEq (8:Nat) (fun i=>eCol (nth lSt i)) lSt.length fun i=>eCol (nth lSt i)) (by kernel_rfl) ?_
 exact ⟨append203 S,.of ⟨rfl,fun _ _=>rfl⟩⟩
theorem shorter119 {Gl} (S:SP Gl) (a b:List Int):CO Gl 119 [L eI a,L eI b] (.ret (B (decide ((a.length:Int)<b.length)))):=by
 refine fn_is S (.nil) Tryz.func119 (by kernel_rfl) (a.length<=maxLen->b.length<=maxLen->decide ((a.length:Int)<(b.length:Int))=decide ((a.length:Int)<(b.length:Int))) (by kernel_rfl) ?_
 exact fun _ _=>rfl
def bTo:Nat->List Int
 |0=>nth lSt 0
 |k+1=>bif decide ((nth lSt (k+1)).length<(bTo k).length) then nth lSt (k+1) else bTo k
theorem best116 {Gl} (S:SP Gl)  :CO Gl 116 [L eCol lSt,.fn 119 [] []] (.ret (.tup [.c (.l eI (bTo 7)),.c (Cb true)])):=by
 refine fn_iq S (let A0:=fun (k0:Nat)=>(bif false then true else decide ((↑(List.length (nth lSt (Int.toNat ((k0:Int)+1)))):Int)<(List.length (bTo k0):Int)));let A1:=(SEq (8:Nat) (fun i=>eCol (nth lSt i)) lSt.length fun i=>eCol (nth lSt i));let A2:=(lSt.length:Int);((.pe (.tt (.skip (19:Nat) (.skip (20:Nat) (.skip (21:Nat) (.skip (22:Nat) (.tt .nil)))))) (7:Nat) (fun k=>[v 11 (I ((k:Int)+1)),v 10 (I lSt.length),v 9 (L eCol lSt),v 6 (L eI (bTo k)),v 0 (L eCol lSt),v 1 (T.fn (119:FuncId) [] [])]) fun k0=>.br (.sure 19 (.sure 20 (.sure 21 (.sure 22 (.r (.ret (B (decide ((↑(List.length (nth lSt (Int.toNat ((k0:Int)+1)))):Int)<(List.length (bTo k0):Int))))) (.br .nil .nil)))))) .nil),((8:Nat)<=maxLen->true=true/\((0:Int)<=0/\0<(↑(8:Nat):Int))/\false=false/\false=false/\false=false/\false=false/\(true=false->false=true)/\true=true/\iR ((0:Int)+1)/\((0:Int)+1=(↑(0:Nat):Int)+1/\(↑(8:Nat):Int)=A2/\A1/\(SEq (7:Nat) (fun i=>eI (nth (nth lSt (Int.toNat (0:Int))) i)) (List.length (bTo (0:Nat))) fun i=>eI (nth (bTo (0:Nat)) i))/\A1/\(119:Nat)=(119:Nat))/\∀ (k0:Nat),k0<=(7:Nat)->(decide ((k0:Int)+1<(lSt.length:Int))=true->(0<=(k0:Int)+1/\(k0:Int)+1<A2)/\true=true/\true=true/\true=true/\true=true/\CO Gl 119 [L eI (nth lSt (Int.toNat ((k0:Int)+1))),L eI (bTo k0)] (.ret (B (decide ((↑(List.length (nth lSt (Int.toNat ((k0:Int)+1)))):Int)<(List.length (bTo k0):Int)))))/\((A0 k0)=true->iR ((k0:Int)+1+(1:Int))/\k0<(7:Nat)/\(k0:Int)+1+1=(↑(k0+1):Int)+1/\A2=A2/\(sR eCol lSt)/\(sQ eI (nth lSt (Int.toNat ((k0:Int)+1))) (bTo (k0+1)))/\(sR eCol lSt)/\(119:Nat)=(119:Nat))/\((A0 k0)=false->iR ((k0:Int)+1+(1:Int))/\k0<(7:Nat)/\(k0:Int)+1+1=(↑(k0+1):Int)+1/\A2=A2/\(sR eCol lSt)/\(sQ eI (bTo k0) (bTo (k0+1)))/\(sR eCol lSt)/\(119:Nat)=(119:Nat)))/\(decide ((k0:Int)+1<(lSt.length:Int))=false->lSt.length<=maxLen->(sQ eI (bTo k0) (bTo (7:Nat)))/\true=true)))) Tryz.func116 (by kernel_rfl) (by kernel_rfl) ?_
 have hlen:lSt.length=8:=by decide
 have hN:∀ k:Nat,((k:Int)+1).toNat=k+1:=fun k=>by omega
 have hb1:∀ k:Nat,decide ((nth lSt (k+1)).length<(bTo k).length)=true->bTo (k+1)=nth lSt (k+1):=fun k h=>by show (bif _ then _ else _)=_;rw [h];rfl
 have hb0:∀ k:Nat,decide ((nth lSt (k+1)).length<(bTo k).length)=false->bTo (k+1)=bTo k:=fun k h=>by show (bif _ then _ else _)=_;rw [h];rfl
 have hs:=fun k:Nat=>shorter119 S (nth lSt (k+1)) (bTo k)
 simp only [Int.ofNat_lt] at hs
 simp only [stdS,imp_self,implies_true,and_true,Bool.false_and,Bool.true_and,Bool.and_true,Bool.and_false,Bool.false_or,Bool.true_or,Bool.or_false,Bool.or_true,Bool.false_eq_true,false_implies,true_implies,rng_iff,hlen,hN,Int.ofNat_lt,cond_false]
 refine fun _=>⟨by decide,fun h=>(by cases h),by decide,⟨.of ⟨rfl,fun _ _=>rfl⟩,trivial⟩,fun k hk=>⟨fun hd=>?_,fun hd _=>?_⟩⟩
 ·have hd:=of_decide_eq_true hd
  exact ⟨by omega,hs k,fun h=>⟨by omega,by omega,by omega,SEq_whole (hb1 k h),trivial⟩,fun h=>⟨by omega,by omega,by omega,SEq_whole (hb0 k h),trivial⟩⟩
 ·have hd:=of_decide_eq_false hd
  have:k=7:=by omega
  subst this
  exact ⟨SEq_whole rfl,trivial⟩
theorem idx187f {Gl} (S:SP Gl) (l:List Span) (f:FuncId) (p:Span->Bool) (hf:∀ i,i<l.length->CO Gl f [.d (.agg (eSpan (nth l i)))] (.ret (B (p (nth l i))))):CO Gl 187 [L eSpan l,.fn f [] []] (.ret (I (idxI p l))):=by
 refine fn_is S (.loop (upIdx p l) (fun k=>[v 8 (I k),v 7 (I l.length),v 0 (L eSpan l),v 1 (T.fn f [] [])]) fun k0=>.br (.r (.ret (B (p (nth l k0)))) (.br .nil .nil)) .nil) Tryz.func187 (by kernel_rfl) (l.length<=maxLen->(0=(↑(0:Nat):Int)/\(l.length:Int)=(l.length:Int)/\(sR eSpan l)/\f=f)/\∀ (k0:Nat),k0<=upIdx p l->(decide ((k0:Int)<(l.length:Int))=true->(0<=(k0:Int)/\(k0:Int)<(l.length:Int))/\CO Gl f [T.d (D.agg (eSpan (nth l k0)))] (.ret (B (p (nth l k0))))/\(p (nth l k0)=true->(k0:Int)=idxI p l)/\(p (nth l k0)=false->iR ((k0:Int)+1)/\k0<upIdx p l/\(k0:Int)+1=(↑(k0+1):Int)/\(l.length:Int)=(l.length:Int)/\(sR eSpan l)/\f=f))/\(decide ((k0:Int)<(l.length:Int))=false->(-1:Int)=idxI p l)) (by kernel_rfl) ?_
 simp only [stdS,imp_self,implies_true,and_true,decide_eq_true_eq,decide_eq_false_iff_not,maxLen_eq,rng_iff]
 exact idx_loop p l _ hf
theorem has98f {Gl} (S:SP Gl) (l:List Span) (f:FuncId) (p:Span->Bool) (hf:∀ i,i<l.length->CO Gl f [.d (.agg (eSpan (nth l i)))] (.ret (B (p (nth l i))))):CO Gl 98 [L eSpan l,.fn f [] []] (.ret (B (!l.all (fun x=>!p x)))):=by
 refine fn_is S (.r (.ret (I (idxI p l))) .nil) Tryz.func98 (by kernel_rfl) (CO Gl 187 [L eSpan l,T.fn f [] []] (.ret (I (idxI p l)))/\decide ((0:Int)<=idxI p l)=!List.all l fun x=>!p x) (by kernel_rfl) ?_
 exact ⟨idx187f S l f p hf,idxI_spec p l⟩
theorem isTable115 {Gl} (S:SP Gl)  :CO Gl 115 [.d (.agg cST)] (.ret (B true)):=by
 refine fn_iq S (let A0:=(B !List.all stV fun x=>!(!inR (Span.lo x) (-9999:Int) (9999:Int)||!inR (Span.hi x) (Span.lo x) (9999:Int)||decide ((4:Int)<Span.hi x-Span.lo x)));((.r (.ret (B (inR (↑(7:Nat):Int) (2:Int) (13:Int)))) (.sure 8 (.sure 9 (.sure 10 (.r (.ret (B true)) (.sure 13 (.sure 14 (.sure 15 (.r (.ret (B (inR (10:Int) (0:Int) (100:Int)))) (.sure 18 (.sure 19 (.sure 20 (.r (.ret A0) (.sure 21 .nil)))))))))))))),((7:Nat)<=maxLen->CO Gl 200 [I (↑(7:Nat):Int),I 2,I 13] (.ret (B (inR (↑(7:Nat):Int) (2:Int) (13:Int))))/\true=true/\true=true/\true=true/\CO Gl 201 [I 3] (.ret (B true))/\true=true/\true=true/\true=true/\CO Gl 200 [I 10,I 0,I 100] (.ret (B (inR (10:Int) (0:Int) (100:Int))))/\true=true/\true=true/\true=true/\CO Gl 98 [L eSpan stV,T.fn (202:FuncId) [] []] (.ret A0)/\true=true/\true=true))) Tryz.func115 (by kernel_rfl) (by kernel_rfl) ?_
 dsimp only
 have a1:=in200 S 7 2 13
 have a2:=in200 S 10 0 100
 have hx:stV.all (fun x=>!(!inR x.lo (-9999) 9999||!inR x.hi x.lo 9999||decide (4<x.hi - x.lo)))=true:=by decide
 have a3:=has98f S stV 202 (fun s=>!inR s.lo (-9999) 9999||!inR s.hi s.lo 9999||decide (4<s.hi - s.lo)) fun i _=>bad202 S (nth stV i)
 rw [hx] at a3 ⊢
 exact fun _=>⟨a1,rfl,rfl,rfl,isRule201 S,rfl,rfl,rfl,a2,rfl,rfl,rfl,a3,rfl,rfl⟩
theorem fewest48 {Gl} (S:SP Gl)  :CO Gl 48 [.d (.agg cST)] (.ret (.tup [.c (.l eI [0,2,4,6]),.c (Ci 0)])):=by
 refine fn_iq S (let A0:=(T.tkd (22:Nat) (1:Nat) lSt.length fun i=>eCol (nth lSt i));((.r (.ret (B true)) (.ff (.r (.ret (T.fn (204:FuncId) [] [T.d (D.c (C.p cST))])) (.r (.ret A0) (.r (.ret (.tup [D.c (C.l eI (bTo (7:Nat))),D.c (Cb true)])) .nil))))),(CO Gl 115 [T.d (D.agg cST)] (.ret (B true))/\false=false/\CO Gl 118 [T.d (D.agg cST)] (.ret (T.fn (204:FuncId) [] [T.d (D.c (C.p cST))]))/\CO Gl 117 [T.fn (204:FuncId) [] [T.d (D.c (C.p cST))]] (.ret A0)/\CO Gl 116 [L eCol lSt,T.fn (119:FuncId) [] []] (.ret (.tup [D.c (C.l eI (bTo (7:Nat))),D.c (Cb true)]))/\(SEq (4:Nat) (fun i=>eI (nth (bTo (7:Nat)) i)) (List.length [(0:Int),(2:Int),(4:Int),(6:Int)]) fun i=>eI (nth [(0:Int),(2:Int),(4:Int),(6:Int)] i))/\(0:Int)=0))) Tryz.func48 (by kernel_rfl) (by kernel_rfl) ?_
 dsimp only
 have hb:bTo 7=[0,2,4,6]:=by decide
 exact ⟨isTable115 S,rfl,lists118 S,collect117 S,best116 S,SEq_whole hb.symm,rfl⟩
structure Cp where
 par:Int
 seen:List Int
instance:Inhabited Cp:=⟨⟨0,[]⟩⟩
def eCp (c:Cp):List C:=[Ci c.par,.l eI c.seen]
def cTr (pl:Int) (cs:List Cp):List C:=[Ci pl,.l eCp cs]
abbrev tTr (pl:Int) (cs:List Cp):T:=.d (.agg (cTr pl cs))
def okFig (n:Int):Bool:=!(n != -1&&!inR n 0 9)
def okCp (pl:Int) (cs:List Cp) (i:Nat):Bool:=inR (nth cs i).par 0 (max 0 ((i:Int) - 1))&&(((nth cs i).seen.length:Int)==pl&&(nth cs i).seen.all okFig)
def okTr (pl:Int) (cs:List Cp):Bool:=inR pl 1 3&&(inR cs.length 1 8&&(List.range cs.length).all (okCp pl cs))
theorem in208 {Gl} (S:SP Gl) (x lo hi:Int):CO Gl 208 [I x,I lo,I hi] (.ret (B (inR x lo hi))):=by
 refine fn_is S (.nil) Tryz.func208 (by kernel_rfl) ((eqB (decide (lo<=x)) true=true->eqB (decide (lo<=x)) true=true)/\(eqB (decide (lo<=x)) true=true->eqB (decide (lo<=x)) true=true)/\(decide (lo<=x)=true->eqB (decide (lo<=x)) true=true)/\(bif decide (lo<=x) then decide (x<=hi) else false)=inR x lo hi) (by kernel_rfl) ?_
 simp only [stdS,imp_self,implies_true,and_true,inR]
theorem isFigure210 {Gl} (S:SP Gl) (x:Int):CO Gl 210 [I x] (.ret (B (inR x 0 9))):=by
 refine fn_is S (.r (.ret (B (inR x (0:Int) (9:Int)))) .nil) Tryz.func210 (by kernel_rfl) (CO Gl 208 [I x,I 0,I 9] (.ret (B (inR x (0:Int) (9:Int))))/\inR x (0:Int) (9:Int)=inR x (0:Int) (9:Int)) (by kernel_rfl) ?_
 exact ⟨in208 S _ _ _,rfl⟩
theorem bad209 {Gl} (S:SP Gl) (x:Int):CO Gl 209 [I x] (.ret (B (x != -1&&!inR x 0 9))):=by
 refine fn_iq S (let A0:=(x != (-1:Int));((.r (.ret (B (inR x (0:Int) (9:Int)))) .nil),((eqB A0 true=true->eqB A0 true=true)/\(eqB A0 true=true->CO Gl 210 [I x] (.ret (B (inR x (0:Int) (9:Int)))))/\(eqB A0 true=true->eqB A0 true=true)/\(A0=true->eqB A0 true=true)/\(bif x != (-1:Int) then !inR x (0:Int) (9:Int) else false)=(x != (-1:Int)&&!inR x (0:Int) (9:Int))))) Tryz.func209 (by kernel_rfl) (by kernel_rfl) ?_
 simp only [stdS,imp_self,implies_true,and_true]
 exact ⟨fun _=>isFigure210 S x,trivial⟩
theorem okCp_eq (pl:Int) (cs:List Cp) (k:Nat):okCp pl cs k=!((!inR (nth cs k).par 0 (max 0 ((k:Int) - 1))||((nth cs k).seen.length:Int) != pl)||!(nth cs k).seen.all fun x=>!(x != -1&&!inR x 0 9)):=by
 show (inR (nth cs k).par 0 (max 0 ((k:Int) - 1))&&(((nth cs k).seen.length:Int)==pl&&(nth cs k).seen.all fun x=>!(x != -1&&!inR x 0 9)))=_
 unfold bne
 generalize inR (nth cs k).par 0 (max 0 ((k:Int) - 1))=a
 generalize (((nth cs k).seen.length:Int)==pl)=b
 generalize (nth cs k).seen.all _=c
 cases a<;>cases b<;>cases c<;>rfl
theorem isTree121 {Gl} (S:SP Gl) (pl:Int) (cs:List Cp):CO Gl 121 [tTr pl cs] (.ret (B (okTr pl cs))):=by
 refine fn_iq S (let A0:=fun (k0:Nat)=>(bif !inR (nth cs k0).1 (0:Int) (max (0:Int) ((k0:Int)-1)) then true else (↑(List.length (nth cs k0).2):Int) != pl);let A1:=fun (k0:Nat)=>(!inR (nth cs k0).1 (0:Int) (max (0:Int) ((k0:Int)-1)));let A2:=(eqB (!inR pl (1:Int) (3:Int)) false=true->eqB (!inR pl (1:Int) (3:Int)) false=true);let A3:=fun (k0:Nat)=>(bif bif !inR (nth cs k0).1 (0:Int) (max (0:Int) ((k0:Int)-1)) then true else (↑(List.length (nth cs k0).2):Int) != pl then true else !List.all (nth cs k0).2 fun x=>!(x != (-1:Int)&&!inR x (0:Int) (9:Int)));let A4:=fun (k0:Nat)=>(eqB (A1 k0) false=true->eqB (A1 k0) false=true);let A5:=(cs.length:Int);let A6:=(bif !inR pl (1:Int) (3:Int) then true else !inR A5 (1:Int) (8:Int));let A7:=(!inR pl (1:Int) (3:Int));let A8:=fun (k0:Nat)=>(B !List.all (Cp.seen (nth cs k0)) fun x=>!(x != (-1:Int)&&!inR x (0:Int) (9:Int)));((.r (.ret (B (inR pl (1:Int) (3:Int)))) (.r (.ret (B (inR A5 (1:Int) (8:Int)))) (.br .nil (.loop (upto (okCp pl cs) (List.range cs.length)) (fun k=>v 19 (I k)::v 18 (I cs.length)::v 17 (L eCp cs)::v 1 (ad 1)::bx 1 (cTr pl cs)) fun k0=>.br (.r (.ret (B (inR (nth cs k0).1 (0:Int) (max (0:Int) ((k0:Int)-1))))) (.r (.ret (A8 k0)) (.br .nil .nil))) .nil)))),(CO Gl 208 [I pl,I 1,I 3] (.ret (B (inR pl (1:Int) (3:Int))))/\A2/\A2/\((eqB A7 false=true->cs.length<=maxLen)->A2/\(eqB A7 false=true->CO Gl 208 [I cs.length,I 1,I 8] (.ret (B (inR A5 (1:Int) (8:Int)))))/\A2/\(A7=false->eqB A7 false=true)/\(A6=true->false=okTr pl cs)/\(A6=false->cs.length<=maxLen->(0=(↑(0:Nat):Int)/\A5=A5/\(sR eCp cs)/\pl=pl/\sR eCp cs)/\∀ (k0:Nat),k0<=upto (okCp pl cs) (List.range cs.length)->(decide ((k0:Int)<(cs.length:Int))=true->(0<=(k0:Int)/\(k0:Int)<A5)/\iR ((k0:Int)-1)/\CO Gl 208 [I (nth cs k0).1,I 0,I (max (0:Int) ((k0:Int)-1))] (.ret (B (inR (nth cs k0).1 (0:Int) (max (0:Int) ((k0:Int)-1)))))/\(A4 k0)/\(A4 k0)/\((eqB (A1 k0) false=true->List.length (nth cs k0).2<=maxLen)->(A4 k0)/\(A4 k0)/\(A4 k0)/\((A1 k0)=false->eqB (A1 k0) false=true)/\(eqB (A0 k0) false=true->eqB (A0 k0) false=true)/\(eqB (A0 k0) false=true->eqB (A0 k0) false=true)/\(eqB (A0 k0) false=true->CO Gl 102 [L eI (Cp.seen (nth cs k0)),T.fn (209:FuncId) [] []] (.ret (A8 k0)))/\((A0 k0)=false->eqB (A0 k0) false=true)/\((A3 k0)=true->false=okTr pl cs)/\((A3 k0)=false->iR ((k0:Int)+1)/\k0<upto (okCp pl cs) (List.range cs.length)/\(k0:Int)+1=(↑(k0+1):Int)/\A5=A5/\(sR eCp cs)/\pl=pl/\sR eCp cs)))/\(decide ((k0:Int)<(cs.length:Int))=false->true=okTr pl cs)))))) Tryz.func121 (by kernel_rfl) (by kernel_rfl) ?_
 simp only [stdS,imp_self,implies_true,and_true,rng_iff,maxLen_eq]
 have hw:(List.range cs.length).length=cs.length:=List.length_range
 refine ⟨in208 S _ _ _,fun hm=>⟨fun _=>in208 S _ _ _,fun h=>?_,fun h hm2 k hk=>⟨fun hd=>?_,fun hd=>?_⟩⟩⟩
 ·unfold okTr
  cases h1:inR pl 1 3<;>cases h2:inR cs.length 1 8<;>rw [h1,h2] at h<;>first|rfl|cases h
 ·have hlt:=of_decide_eq_true hd
  refine ⟨by omega,by omega,in208 S _ _ _,fun hm3=>⟨fun _=>has104 S _ 209 _ fun j _=>bad209 S _,fun hb=>?_,fun hb=>⟨by omega,?_,by omega,trivial⟩⟩⟩
  ·have hx:okCp pl cs k=false:=by rw [okCp_eq,hb];rfl
   have:=upto_some (p:=okCp pl cs) (l:=List.range cs.length) (k:=k) (by omega) (by rw [nth_range (by omega)];exact hx)
   unfold okTr
   rw [this,Bool.and_false,Bool.and_false]
  ·exact upto_lt hk (by omega) (by rw [nth_range (by omega),okCp_eq,hb];rfl)
 ·have hlt:¬ k<cs.length:=by have:=of_decide_eq_false hd;omega
  have:=upto_all (p:=okCp pl cs) (l:=List.range cs.length) (by omega)
  unfold okTr
  rw [this]
  cases h1:inR pl 1 3<;>cases h2:inR cs.length 1 8<;>rw [h1,h2] at h<;>first|rfl|cases h
theorem fits305 {Gl} (S:SP Gl) (pl:Int) (cs:List Cp) (f pc:Nat) (g:Int) (hf:f<cs.length) (hp:pc<(nth cs f).seen.length):CO Gl 305 [tTr pl cs,I f,I pc,I g] (.ret (B (nth (nth cs f).seen pc==-1||nth (nth cs f).seen pc==g))):=by
 refine fn_iq S (let A0:=(nth (nth cs f).2 pc==(-1:Int));((.nil),((0<=(f:Int)/\(f:Int)<(cs.length:Int))/\(0<=(pc:Int)/\(pc:Int)<(↑(List.length (nth cs f).2):Int))/\(eqB A0 false=true->eqB A0 false=true)/\(eqB A0 false=true->eqB A0 false=true)/\(A0=false->eqB A0 false=true)/\(bif nth (nth cs f).2 pc==(-1:Int) then true else nth (nth cs f).2 pc==g)=(nth (nth cs f).2 pc==(-1:Int)||nth (nth cs f).2 pc==g)))) Tryz.func305 (by kernel_rfl) (by kernel_rfl) ?_
 simp only [stdS,imp_self,implies_true,and_true,hf,hp]
 exact ⟨by omega,by omega,trivial⟩
def satTo (l:List Int):Nat->Int
 |0=>0
 |k+1=>min 1000 (satTo l k+nth l k)
def satL (l:List Int):Int:=satTo l l.length
theorem satTo_rng {l:List Int} (h:∀ i,i<l.length->0<=nth l i):∀ k,k<=l.length->0<=satTo l k/\satTo l k<=1000
 |0,_=>⟨Int.le_refl _,(by decide:(0:Int)<=1000)⟩
 |k+1,hk=>by
  have ih:=satTo_rng h k (by omega)
  have:=h k (by omega)
  unfold satTo
  omega
theorem satL_rng {l:List Int} (h:∀ i,i<l.length->0<=nth l i):0<=satL l/\satL l<=1000:=satTo_rng h _ (Nat.le_refl _)
theorem sum307 {Gl} (S:SP Gl) (l:List Int) (h:∀ i,i<l.length->0<=nth l i/\nth l i<=1000):CO Gl 307 [L eI l] (.ret (I (satL l))):=by
 refine fn_is S (.loop l.length (fun k=>[v 8 (I k),v 7 (I l.length),v 6 (L eI l),v 3 (I (satTo l k))]) fun k0=>.br .nil .nil) Tryz.func307 (by kernel_rfl) (l.length<=maxLen->(0=(↑(0:Nat):Int)/\(l.length:Int)=(l.length:Int)/\(sR eI l)/\(0:Int)=satTo l (0:Nat))/\∀ (k0:Nat),k0<=l.length->(decide ((k0:Int)<(l.length:Int))=true->(0<=(k0:Int)/\(k0:Int)<(l.length:Int))/\iR (satTo l k0+nth l k0)/\iR ((k0:Int)+1)/\k0<l.length/\(k0:Int)+1=(↑(k0+1):Int)/\(l.length:Int)=(l.length:Int)/\(sR eI l)/\min (1000:Int) (satTo l k0+nth l k0)=satTo l (k0+1))/\(decide ((k0:Int)<(l.length:Int))=false->satTo l k0=satL l)) (by kernel_rfl) ?_
 simp only [stdS,imp_self,implies_true,and_true,rng_iff,decide_eq_true_eq,decide_eq_false_iff_not,maxLen_eq]
 refine fun hm=>⟨rfl,fun k hk=>⟨fun hd=>?_,fun hd=>?_⟩⟩
 ·have h1:=satTo_rng (fun i hi=>(h i hi).1) k hk
  have h2:=h k (by omega)
  exact ⟨by omega,by omega,by omega,by omega,by omega,rfl⟩
 ·have:k=l.length:=by omega
  rw [this];rfl
def mdTo (cs:List Cp) (k h:Nat):List Int:=((List.range k).filter fun j=>decide (0<j)&&(nth cs j).par==(h:Int)).map fun (j:Nat)=>(j:Int)
def madeL (cs:List Cp):List (List Int):=(List.range cs.length).map (mdTo cs cs.length)
def mdE (cs:List Cp) (k:Nat):Nat->Nat×(Nat->List C):=fun h=>((mdTo cs k h).length,fun i=>eI (nth (mdTo cs k h) i))
theorem mdTo_succ (cs:List Cp) (k h:Nat):mdTo cs (k+1) h=mdTo cs k h++bif decide (0<k)&&(nth cs k).par==(h:Int) then [(k:Int)] else []:=by
 unfold mdTo
 rw [List.range_succ,List.filter_append,List.map_append]
 cases hb:(decide (0<k)&&(nth cs k).par==(h:Int))<;>simp [List.filter,hb]
theorem oeq_zero (cs:List Cp):OEq cs.length (fun _=>(0,fun _=>[])) cs.length (mdE cs 0):=⟨rfl,fun j hj=>⟨rfl,fun i hi=>absurd hi (Nat.not_lt_zero i)⟩⟩
theorem oeq_same (cs:List Cp) {k:Nat} (h:∀ j,j<cs.length->(decide (0<k)&&(nth cs k).par==(j:Int))=false):OEq cs.length (mdE cs k) cs.length (mdE cs (k+1)):=⟨rfl,fun j hj=>by
 have e:=mdTo_succ cs k j
 rw [h j hj,cond_false,List.append_nil] at e
 unfold mdE
 rw [e]
 exact ⟨rfl,fun _ _=>rfl⟩⟩
theorem oeq_push (cs:List Cp) {k:Nat} (hk:0<k) (hp:0<=(nth cs k).par):OEq cs.length (updO (mdE cs k) (nth cs k).par.toNat ((mdTo cs k (nth cs k).par.toNat).length+1,catF (mdTo cs k (nth cs k).par.toNat).length (fun i=>eI (nth (mdTo cs k (nth cs k).par.toNat) i)) fun i=>[List.map C.dem [C.v (Value.int IntKind.i64 (k:Int))]].getD i [])) cs.length (mdE cs (k+1)):=⟨rfl,fun j hj=>by
 have e:=mdTo_succ cs k j
 rw [decide_eq_true hk,Bool.true_and] at e
 unfold updO
 by_cases hj2:j=(nth cs k).par.toNat
 ·have hb:j.beq (nth cs k).par.toNat=true:=by rw [hj2];exact Nat.beq_refl _
  have hq:((nth cs k).par==(j:Int))=true:=by rw [beq_iff_eq];omega
  rw [hb,cond_true]
  rw [hq,cond_true] at e
  rw [<-hj2]
  unfold mdE
  rw [e]
  refine ⟨by rw [List.length_append];rfl,fun i hi=>?_⟩
  dsimp only at hi ⊢
  unfold catF
  by_cases hl:i<(mdTo cs k j).length
  ·rw [bltT hl,cond_true,nth_append_lt hl]
  ·have:i=(mdTo cs k j).length:=by omega
   rw [bltF (by omega),cond_false,this,Nat.sub_self,nth_append_ge (Nat.le_refl _),Nat.sub_self]
   rfl
 ·have hb:j.beq (nth cs k).par.toNat=false:=by rw [Bool.eq_false_iff];exact fun hh=>hj2 (Nat.eq_of_beq_eq_true hh)
  have hq:((nth cs k).par==(j:Int))=false:=by rw [beq_eq_false_iff_ne];omega
  rw [hb,cond_false]
  rw [hq,cond_false,List.append_nil] at e
  unfold mdE
  rw [e]
  exact ⟨rfl,fun _ _=>rfl⟩⟩
theorem mdTo_len (cs:List Cp) (h:Nat):∀ k,(mdTo cs k h).length<=k
 |0=>Nat.le_refl _
 |k+1=>by
  rw [mdTo_succ,List.length_append]
  have:=mdTo_len cs h k
  cases (decide (0<k)&&(nth cs k).par==(h:Int))<;>simp<;>omega
theorem oro_made (cs:List Cp):SEq cs.length (oroF (mdE cs cs.length)) (madeL cs).length (fun i=>eCol (nth (madeL cs) i)):=.of ⟨by unfold madeL;rw [List.length_map,List.length_range],fun i hi=>by
 show oroF (mdE cs cs.length) i=eCol (nth ((List.range cs.length).map (mdTo cs cs.length)) i)
 rw [nth_map (by rw [List.length_range];exact hi),nth_range hi]
 rfl⟩
theorem treeOf211 {Gl} (S:SP Gl) (pl:Int) (cs:List Cp) (h1:cs.length<=1000) (hp:∀ i,i<cs.length->0<=(nth cs i).par/\(nth cs i).par<(cs.length:Int)):CO Gl 211 [tTr pl cs] (.ret (.d (.agg [Ci pl,.l eCp cs,.l eCol (madeL cs)]))):=by
 refine fn_iq S (let A0:=(cs.length:Int);let A1:=fun (k0:Nat)=>(mdTo cs k0 (Int.toNat (nth cs k0).1));let A2:=(sR eCp cs);((.arrA (10:Nat) (.loop cs.length (fun k=>v 15 (I k)::v 14 (I cs.length)::v 13 (L eCp cs)::v 3 (ad 3)::v 2 (ad 2)::v 1 (ad 1)::((2:Nat),(10:Nat),T.arro (3:Nat) (1:Nat) cs.length (mdE cs k) none)::((2:Nat),(3:Nat),live)::((6:Nat),(0:Nat),I pl)::((6:Nat),(1:Nat),L eCp cs)::((6:Nat),(2:Nat),T.arr 10 cs.length)::(bx 2 [Ci 0,C.v (Value.slice none 0 0),C.v (Value.slice none 0 0)]++bx 1 (cTr pl cs))) fun k0=>.br (.br (.arrA (31:Nat) .nil) .nil) .nil)),(cs.length<=maxLen->A0=A0/\0<=A0/\cs.length*24<=140737488355328/\cs.length<=(140737488355328:Nat)/\(cs.length<=maxLen->(0=(↑(0:Nat):Int)/\A0=A0/\A2/\OEq cs.length (fun x=>((0:Nat),fun x=>[])) cs.length (mdE cs (0:Nat))/\pl=pl/\A2/\cs.length=cs.length/\(0:Int)=0/\Value.slice none 0 0=Value.slice none 0 0/\Value.slice none 0 0=Value.slice none 0 0/\pl=pl/\sR eCp cs)/\∀ (k0:Nat),k0<=cs.length->(decide ((k0:Int)<(cs.length:Int))=true->(0<=(k0:Int)/\(k0:Int)<A0)/\(decide (0<(k0:Int))=true->((0:Int)<=(nth cs k0).1/\(nth cs k0).1<A0)/\Int.toNat (nth cs k0).1<cs.length/\(List.length (A1 k0)+1)*8<=140737488355328/\List.length (A1 k0)+1<=140737488355328/\((0:Int)<=(nth cs k0).1/\(nth cs k0).1<A0)/\Int.toNat (nth cs k0).1=Int.toNat (nth cs k0).1/\Int.toNat (nth cs k0).1<cs.length/\iR ((k0:Int)+1)/\k0<cs.length/\(k0:Int)+1=(↑(k0+1):Int)/\A0=A0/\A2/\OEq cs.length (updO (mdE cs k0) (Int.toNat (nth cs k0).1) (List.length (A1 k0)+(1:Nat),catF (List.length (A1 k0)) (fun i=>eI (nth (A1 k0) i)) fun i=>List.getD [List.map C.dem [C.v (Value.int IntKind.i64 (k0:Int))]] i [])) cs.length (mdE cs (k0+1))/\pl=pl/\A2/\cs.length=cs.length/\(0:Int)=0/\Value.slice none 0 0=Value.slice none 0 0/\Value.slice none 0 0=Value.slice none 0 0/\pl=pl/\sR eCp cs)/\(decide (0<(k0:Int))=false->iR ((k0:Int)+1)/\k0<cs.length/\(k0:Int)+1=(↑(k0+1):Int)/\A0=A0/\A2/\OEq cs.length (mdE cs k0) cs.length (mdE cs (k0+1))/\pl=pl/\A2/\cs.length=cs.length/\(0:Int)=0/\Value.slice none 0 0=Value.slice none 0 0/\Value.slice none 0 0=Value.slice none 0 0/\pl=pl/\sR eCp cs))/\(decide ((k0:Int)<(cs.length:Int))=false->cs.length=cs.length/\pl=pl/\A2/\SEq cs.length (oroF (mdE cs k0)) (List.length (madeL cs)) fun i=>eCol (nth (madeL cs) i)))))) Tryz.func211 (by kernel_rfl) (by kernel_rfl) ?_
 simp only [stdS,imp_self,implies_true,and_true,rng_iff,decide_eq_true_eq,decide_eq_false_iff_not]
 refine fun hm=>⟨by omega,by omega,by omega,fun _=>⟨⟨oeq_zero cs,trivial⟩,fun k hk=>⟨fun hd=>⟨by omega,fun h0=>?_,fun h0=>?_⟩,fun hd=>?_⟩⟩⟩
 ·have h2:=hp k (by omega)
  have h3:=mdTo_len cs (nth cs k).par.toNat k
  exact ⟨h2,by omega,by omega,by omega,h2,by omega,by omega,by omega,by omega,oeq_push cs (by omega) h2.1,trivial⟩
 ·have:k=0:=by omega
  subst this
  exact ⟨by omega,by omega,by omega,oeq_same cs fun j hj=>rfl,trivial⟩
 ·have:k=cs.length:=by omega
  subst this
  exact oro_made cs
def fitB (cs:List Cp) (pc f:Nat) (g:Int):Bool:=nth (nth cs f).seen pc==-1||nth (nth cs f).seen pc==g
def kids (cs:List Cp) (f:Nat):List Int:=nth (madeL cs) f
def stV2 (x fg par:Int):Int:=bif fg != par then satL [x,1] else x
def fwTo (lv:Int->Int->Int) (c par:Int):Nat->Int
 |0=>1000
 |k+1=>min (fwTo lv c par k) (stV2 (lv c k) k par)
def lsTo (cs:List Cp) (pc f:Nat) (g:Int) (lv:Int->Int->Int) (k:Nat):List Int:=(bif fitB cs pc f g then [] else [1000])++((kids cs f).take k).map fun c=>fwTo lv c g 10
def lvN (cs:List Cp) (pc:Nat):Nat->Int->Int->Int
 |0,_,_=>0
 |n+1,f,g=>satL (lsTo cs pc f.toNat g (lvN cs pc n) (kids cs f.toNat).length)
def lv (cs:List Cp) (pc:Nat) (f g:Int):Int:=lvN cs pc (cs.length - f.toNat) f g
abbrev DS:=List Int->Bool
def fdTo (ld:Int->Int->DS->DS) (c:Int):Nat->DS->DS
 |0,D=>D
 |k+1,D=>ld c k (fdTo ld c k D)
def kdTo (ld:Int->Int->DS->DS) (l:List Int):Nat->DS->DS
 |0,D=>D
 |k+1,D=>fdTo ld (nth l k) 10 (kdTo ld l k D)
def ldN (cs:List Cp):Nat->Int->Int->DS->DS
 |0,_,_,D=>D
 |n+1,f,g,D=>bif D [f,g] then D else updD (kdTo (ldN cs n) (kids cs f.toNat) (kids cs f.toNat).length D) [f,g]
def mR (cs:List Cp) (pc:Nat) (D:DS):T:=.mapc false 2 false D fun k=>vsC [.int .i64 (bif D k then lv cs pc (nth k 0) (nth k 1) else 0)]
abbrev tRd (pl:Int) (cs:List Cp) (pc:Nat) (fm:Nat):T:=.ag [I pl,L eCp cs,L eCol (madeL cs),I pc,.mp fm]
def rdE (pl:Int) (cs:List Cp) (pc:Nat) (id fm:Nat):Env:=(2,id,live)::(id+3,0,I pl)::(id+3,1,L eCp cs)::(id+3,2,L eCol (madeL cs))::(id+3,3,I pc)::(id+3,4,.mp fm)::[]
theorem stV2_rng {x fg par:Int} (h:0<=x/\x<=1000):0<=stV2 x fg par/\stV2 x fg par<=1000:=by
 unfold stV2
 cases fg != par with
 |false=>exact h
 |true=>
  refine satL_rng (l:=[x,1]) fun i hi=>?_
  match i,hi with
  |0,_=>exact h.1
  |1,_=>exact (by decide:(0:Int)<=1)
theorem fwTo_rng {lf:Int->Int->Int} (h:∀ c g,0<=lf c g/\lf c g<=1000) (c par:Int):∀ k,0<=fwTo lf c par k/\fwTo lf c par k<=1000
 |0=>⟨(by decide:(0:Int)<=1000),Int.le_refl _⟩
 |k+1=>by
  have h1:=fwTo_rng h c par k
  have h2:=stV2_rng (fg:=k) (par:=par) (h c k)
  unfold fwTo
  omega
theorem ls_rng {lf:Int->Int->Int} (h:∀ c g,0<=lf c g/\lf c g<=1000) (cs:List Cp) (pc f:Nat) (g:Int) (k:Nat):∀ i,i<(lsTo cs pc f g lf k).length->0<=nth (lsTo cs pc f g lf k) i/\nth (lsTo cs pc f g lf k) i<=1000:=fun i hi=>by
 have hm:=nth_mem hi
 generalize nth (lsTo cs pc f g lf k) i=y at hm
 unfold lsTo at hm
 rcases List.mem_append.1 hm with hm|hm
 ·cases hb:fitB cs pc f g with
  |true=>rw [hb] at hm;cases hm
  |false=>
   rw [hb] at hm
   have:=List.mem_singleton.1 hm
   omega
 ·obtain ⟨c,_,he⟩:=List.mem_map.1 hm
  have:=fwTo_rng h c g 10
  rw [<-he];exact this
theorem lvN_rng (cs:List Cp) (pc:Nat):∀ n f g,0<=lvN cs pc n f g/\lvN cs pc n f g<=1000
 |0,_,_=>⟨Int.le_refl _,(by decide:(0:Int)<=1000)⟩
 |n+1,f,g=>satL_rng fun i hi=>(ls_rng (lvN_rng cs pc n) cs pc f.toNat g _ i hi).1
theorem sum307p {Gl} (S:SP Gl) (x:Int) (h:0<=x/\x<=1000):CO Gl 307 [.d (.c (.s .n 2 fun i=>[List.map C.dem [Ci x],List.map C.dem [Ci 1]].getD i []))] (.ret (I (satL [x,1]))):=
 (sum307 S [x,1] fun i hi=>by
  match i,hi with
  |0,_=>exact h
  |1,_=>exact ⟨(by decide:(0:Int)<=1),(by decide:(1:Int)<=1000)⟩).args (show SEq 2 _ 2 _ from .of ⟨rfl,fun i hi=>by
  match i,hi with|0,_=>rfl|1,_=>rfl⟩)
theorem ls_zero (cs:List Cp) (pc f:Nat) (g:Int) (lf:Int->Int->Int):lsTo cs pc f g lf 0=bif fitB cs pc f g then [] else [1000]:=by unfold lsTo;rw [List.take_zero,List.map_nil,List.append_nil]
theorem ls_succ (cs:List Cp) (pc f:Nat) (g:Int) (lf:Int->Int->Int) {k:Nat} (h:k<(kids cs f).length):lsTo cs pc f g lf (k+1)=lsTo cs pc f g lf k++[fwTo lf (nth (kids cs f) k) g 10]:=by
 unfold lsTo
 rw [take_succ h,List.map_append,List.append_assoc]
 rfl
theorem ls_len (cs:List Cp) (pc f:Nat) (g:Int) (lf:Int->Int->Int) (k:Nat):(lsTo cs pc f g lf k).length<=k+1:=by
 unfold lsTo
 rw [List.length_append,List.length_map,List.length_take]
 cases fitB cs pc f g<;>simp<;>omega
theorem meqR {D D':DS} {V:List Int->Int} (h:∀ x,D x=D' x):MEq D (fun k=>vsC [Value.int IntKind.i64 (bif D k then V k else 0)]) D' (fun k=>vsC [Value.int IntKind.i64 (bif D' k then V k else 0)]):=fun x=>⟨h x,fun _=>.inl (by dsimp only;rw [h x])⟩
theorem meqU {D D':DS} {V:List Int->Int} {key:List Int} {y:Int} (hy:y=V key) (h:∀ x,updD D key x=D' x):MEq (updD D key) (updV (fun k=>vsC [Value.int IntKind.i64 (bif D k then V k else 0)]) key (List.map C.dem [C.v (Value.int IntKind.i64 y)])) D' (fun k=>vsC [Value.int IntKind.i64 (bif D' k then V k else 0)]):=fun x=>⟨h x,fun hd=>.inl (by
 have h1:=h x
 rw [hd] at h1
 dsimp only
 rw [<-h1,updV_get]
 split
 ·rename_i hx;subst hx;rw [hy];rfl
 ·rename_i hx
  rcases (updD_get _ _ _).1 hd with h2|h2
  ·exact absurd h2 hx
  ·rw [h2])⟩
theorem step355 {Gl} (S:SP Gl) (pl:Int) (cs:List Cp) (pc:Nat) (c fg par x:Int) (D D':DS) (hx:0<=x/\x<=1000) (hl:Does Tryz.prog Y Gl yd0 212 [tRd pl cs pc FAR,.d (.agg [Ci c,Ci fg])] [(2,FAR,mR cs pc D)] (.ret (I x)) [(2,FAR,mR cs pc D')]):Does Tryz.prog Y Gl yd0 355 [tRd pl cs pc FAR,I c,I fg,I par] [(2,FAR,mR cs pc D)] (.ret (I (stV2 x fg par))) [(2,FAR,mR cs pc D')]:=by
 refine fn_iw S (let A0:=[tRd pl cs pc FAR,T.d (Vc.D.agg [Ci c,Ci fg])];((.arrA (100010:Nat) (.w [(nat_lit 100000,nat_lit 100000)] A0 [((2:Nat),FAR,mR cs pc D)] (.ret (I x)) [((2:Nat),FAR,mR cs pc D')] (.br (.r (.ret (I (satL [x,(1:Int)]))) .nil) .nil))),(pl=pl/\(sR eCp cs)/\(sR eCol (madeL cs))/\(pc:Int)=(pc:Int)/\c=c/\fg=fg/\(MEq D (fun k=>vsC [Value.int IntKind.i64 (bif D k then lv cs pc (nth k 0) (nth k 1) else (0:Int))]) D fun k=>vsC [Value.int IntKind.i64 (bif D k then lv cs pc (nth k 0) (nth k 1) else (0:Int))])/\Does Tryz.prog Y Gl yd0 (212:FuncId) A0 [((2:Nat),FAR,mR cs pc D)] (.ret (I x)) [((2:Nat),FAR,mR cs pc D')]/\((fg != par)=true->CO Gl 307 [T.d (Vc.D.c (C.s Tag.n (2:Nat) fun i=>List.getD [List.map C.dem [Ci x],List.map C.dem [Ci 1]] i []))] (.ret (I (satL [x,(1:Int)])))/\satL [x,(1:Int)]=stV2 x fg par/\MEq D' (fun k=>vsC [Value.int IntKind.i64 (bif D' k then lv cs pc (nth k 0) (nth k 1) else (0:Int))]) D' fun k=>vsC [Value.int IntKind.i64 (bif D' k then lv cs pc (nth k 0) (nth k 1) else (0:Int))])/\((fg != par)=false->x=stV2 x fg par/\MEq D' (fun k=>vsC [Value.int IntKind.i64 (bif D' k then lv cs pc (nth k 0) (nth k 1) else (0:Int))]) D' fun k=>vsC [Value.int IntKind.i64 (bif D' k then lv cs pc (nth k 0) (nth k 1) else (0:Int))])))) Tryz.func355 (by kernel_rfl) (by kernel_rfl) ?_
 simp only [stdS,imp_self,implies_true,and_true,MEq_self]
 refine ⟨hl,fun h=>⟨sum307p S x hx,?_,trivial⟩,fun h=>⟨?_,trivial⟩⟩
 ·unfold stV2;rw [h];rfl
 ·unfold stV2;rw [h];rfl
theorem fewest306 {Gl} (S:SP Gl) (pl:Int) (cs:List Cp) (pc:Nat) (c par:Int) (D:DS) (lf:Int->Int->Int) (ld:Int->Int->DS->DS) (hr:∀ c g,0<=lf c g/\lf c g<=1000) (hl:∀ (k:Nat) (D:DS),k<10->Does Tryz.prog Y Gl yd0 212 [tRd pl cs pc FAR,.d (.agg [Ci c,Ci k])] [(2,FAR,mR cs pc D)] (.ret (I (lf c k))) [(2,FAR,mR cs pc (ld c k D))]):Does Tryz.prog Y Gl yd0 306 [tRd pl cs pc FAR,I c,I par] [(2,FAR,mR cs pc D)] (.ret (I (fwTo lf c par 10))) [(2,FAR,mR cs pc (fdTo ld c 10 D))]:=by
 refine fn_iw S (let A0:=fun (k0:Nat)=>(fdTo ld c k0 D);let A1:=fun (k0:Nat)=>(stV2 (lf c (k0:Int)) (k0:Int) par);((.loop (10:Nat) (fun k=>v 9 (I k)::v 7 (I (fwTo lf c par k))::v 1 (I c)::v 2 (I par)::v 3 (ad 3)::((2:Nat),FAR,mR cs pc (fdTo ld c k D))::rdE pl cs pc (3:Nat) FAR) fun k0=>.br (.arrA (100013:Nat) (.w [(nat_lit 100000,nat_lit 100000)] [tRd pl cs pc FAR,I c,I k0,I par] [((2:Nat),FAR,mR cs pc (A0 k0))] (.ret (I (A1 k0))) [((2:Nat),FAR,mR cs pc (ld c (k0:Int) (A0 k0)))] .nil)) .nil),((0=(↑(0:Nat):Int)/\(1000:Int)=fwTo lf c par (0:Nat)/\c=c/\par=par/\(MEq D (fun k=>vsC [Value.int IntKind.i64 (bif D k then lv cs pc (nth k 0) (nth k 1) else (0:Int))]) (fdTo ld c (0:Nat) D) fun k=>vsC [Value.int IntKind.i64 (bif fdTo ld c (0:Nat) D k then lv cs pc (nth k 0) (nth k 1) else (0:Int))])/\pl=pl/\(sR eCp cs)/\(sR eCol (madeL cs))/\(pc:Int)=(pc:Int))/\∀ (k0:Nat),k0<=(10:Nat)->(decide ((k0:Int)<10)=true->pl=pl/\(sR eCp cs)/\(sR eCol (madeL cs))/\(pc:Int)=(pc:Int)/\c=c/\(k0:Int)=(k0:Int)/\par=par/\(MEq (A0 k0) (fun k=>vsC [Value.int IntKind.i64 (bif fdTo ld c k0 D k then lv cs pc (nth k 0) (nth k 1) else (0:Int))]) (A0 k0) fun k=>vsC [Value.int IntKind.i64 (bif fdTo ld c k0 D k then lv cs pc (nth k 0) (nth k 1) else (0:Int))])/\Does Tryz.prog Y Gl yd0 (355:FuncId) [tRd pl cs pc FAR,I c,I k0,I par] [((2:Nat),FAR,mR cs pc (A0 k0))] (.ret (I (A1 k0))) [((2:Nat),FAR,mR cs pc (ld c (k0:Int) (A0 k0)))]/\iR ((k0:Int)+1)/\k0<(10:Nat)/\(k0:Int)+1=(↑(k0+1):Int)/\min (fwTo lf c par k0) (A1 k0)=fwTo lf c par (k0+1)/\c=c/\par=par/\(MEq (ld c (k0:Int) (A0 k0)) (fun k=>vsC [Value.int IntKind.i64 (bif ld c (k0:Int) (A0 k0) k then lv cs pc (nth k 0) (nth k 1) else (0:Int))]) (fdTo ld c (k0+1) D) fun k=>vsC [Value.int IntKind.i64 (bif fdTo ld c (k0+1) D k then lv cs pc (nth k 0) (nth k 1) else (0:Int))])/\pl=pl/\(sR eCp cs)/\(sR eCol (madeL cs))/\(pc:Int)=(pc:Int))/\(decide ((k0:Int)<10)=false->fwTo lf c par k0=fwTo lf c par (10:Nat)/\MEq (A0 k0) (fun k=>vsC [Value.int IntKind.i64 (bif fdTo ld c k0 D k then lv cs pc (nth k 0) (nth k 1) else (0:Int))]) (fdTo ld c (10:Nat) D) fun k=>vsC [Value.int IntKind.i64 (bif fdTo ld c (10:Nat) D k then lv cs pc (nth k 0) (nth k 1) else (0:Int))])))) Tryz.func306 (by kernel_rfl) (by kernel_rfl) ?_
 simp only [stdS,imp_self,implies_true,and_true,rng_iff,decide_eq_true_eq,decide_eq_false_iff_not,MEq_self]
 refine ⟨⟨rfl,meqR fun _=>rfl,trivial⟩,fun k hk=>⟨fun hd=>⟨step355 S pl cs pc c k par (lf c k) _ _ (hr c k) (hl k _ (by omega)),by omega,by omega,by omega,rfl,meqR fun _=>rfl,trivial⟩,fun hd=>?_⟩⟩
 have:k=10:=by omega
 subst this
 exact ⟨rfl,meqR fun _=>rfl⟩
theorem made_at {cs:List Cp} {f:Nat} (h:f<cs.length):nth (madeL cs) f=mdTo cs cs.length f:=by
 show nth ((List.range cs.length).map (mdTo cs cs.length)) f=_
 rw [nth_map (by rw [List.length_range];exact h),nth_range h]
theorem least212 {Gl} (S:SP Gl) (pl:Int) (cs:List Cp) (pc f:Nat) (g:Int) (D:DS) (lf:Int->Int->Int) (ld:Int->Int->DS->DS) (h1:cs.length<=1000) (hf:f<cs.length) (hp:pc<(nth cs f).seen.length) (hr:∀ c g,0<=lf c g/\lf c g<=1000) (hl:∀ (k:Nat) (D:DS),k<(nth (madeL cs) f).length->Does Tryz.prog Y Gl yd0 306 [tRd pl cs pc FAR,I (nth (nth (madeL cs) f) k),I g] [(2,FAR,mR cs pc D)] (.ret (I (fwTo lf (nth (nth (madeL cs) f) k) g 10))) [(2,FAR,mR cs pc (fdTo ld (nth (nth (madeL cs) f) k) 10 D))]) (hv:satL (lsTo cs pc f g lf (kids cs f).length)=lv cs pc f g):Does Tryz.prog Y Gl yd0 212 [tRd pl cs pc FAR,.d (.agg [Ci f,Ci g])] [(2,FAR,mR cs pc D)] (.ret (I (lv cs pc f g))) [(2,FAR,mR cs pc (bif D [(f:Int),g] then D else updD (kdTo ld (kids cs f) (kids cs f).length D) [(f:Int),g]))]:=by
 refine fn_iw S (let A0:=(nth (madeL cs) f);let A1:=(bif D [(f:Int),g] then D else updD (kdTo ld (kids cs f) (List.length (kids cs f)) D) [(f:Int),g]);let A2:=(MEq D (fun k=>vsC [Value.int IntKind.i64 (bif D k then lv cs pc (nth k 0) (nth k 1) else (0:Int))]) (kdTo ld (kids cs f) (0:Nat) D) fun k=>vsC [Value.int IntKind.i64 (bif kdTo ld (kids cs f) (0:Nat) D k then lv cs pc (nth k 0) (nth k 1) else (0:Int))]);let A3:=(fun (k:Nat)=>v 42 (I k)::v 41 (I (↑(List.length A0):Int))::v 40 (L eI A0)::v 7 (Lt 900 eI (lsTo cs pc f g lf k))::tk 900 3::v 3 (ad 3)::v 2 (ad 2)::((2:Nat),FAR,mR cs pc (kdTo ld (kids cs f) k D))::(bx 3 [Ci f,Ci g]++rdE pl cs pc (2:Nat) FAR));let A4:=(kids cs f);let A5:=(↑(List.length A0):Int);let A6:=fun (k0:Nat)=>(lsTo cs pc f g lf k0);let A7:=fun (k1:Nat)=>(lsTo cs pc f g lf k1);let A8:=(bif D [(f:Int),g] then lv cs pc (nth [(f:Int),g] (0:Nat)) (nth [(f:Int),g] (1:Nat)) else (0:Int));let A9:=(sR eCol (madeL cs));let A10:=(B (nth (Cp.seen (nth cs f)) pc==(-1:Int)||nth (Cp.seen (nth cs f)) pc==g));let A11:=fun (k0:Nat)=>(fdTo ld (nth A0 k0) (10:Nat) (kdTo ld A4 k0 D));let A12:=fun (k1:Nat)=>(fdTo ld (nth A0 k1) (10:Nat) (kdTo ld A4 k1 D));let A13:=(!(nth (nth cs f).2 pc==(-1:Int)||nth (nth cs f).2 pc==g));let A14:=(0<=(f:Int)/\(f:Int)<(List.length (madeL cs):Int));let A15:=(lsTo cs pc f g lf (0:Nat));((.br .nil (.r (.ret A10) (.br (.loop (List.length A0) A3 fun k0=>.br (.arrA (100047:Nat) (.w [(nat_lit 100000,nat_lit 100000)] [tRd pl cs pc FAR,I (nth A0 k0),I g] [((2:Nat),FAR,mR cs pc (kdTo ld A4 k0 D))] (.ret (I (fwTo lf (nth A0 k0) g (10:Nat)))) [((2:Nat),FAR,mR cs pc (A11 k0))] .nil)) (.r (.ret (I (satL (A6 k0)))) .nil)) (.loop (List.length A0) A3 fun k1=>.br (.arrA (100047:Nat) (.w [(nat_lit 100000,nat_lit 100000)] [tRd pl cs pc FAR,I (nth A0 k1),I g] [((2:Nat),FAR,mR cs pc (kdTo ld A4 k1 D))] (.ret (I (fwTo lf (nth A0 k1) g (10:Nat)))) [((2:Nat),FAR,mR cs pc (A12 k1))] .nil)) (.r (.ret (I (satL (A7 k1)))) .nil))))),((D [(f:Int),g]=false->[C.v (Value.int IntKind.i64 A8)]=[C.v (Value.int IntKind.i64 (0:Int))])/\(D [(f:Int),g]=true->A8=lv cs pc (f:Int) g/\MEq D (fun k=>vsC [Value.int IntKind.i64 (bif D k then lv cs pc (nth k 0) (nth k 1) else (0:Int))]) A1 fun k=>vsC [Value.int IntKind.i64 (bif A1 k then lv cs pc (nth k 0) (nth k 1) else (0:Int))])/\(D [(f:Int),g]=false->CO Gl 305 [tTr pl cs,I f,I pc,I g] (.ret A10)/\(A13=true->(1:Nat)*8<=140737488355328/\(1:Nat)<=(140737488355328:Nat)/\A14/\(List.length A0<=maxLen->(0=(↑(0:Nat):Int)/\A5=A5/\(sR eI A0)/\(SEq (1:Nat) (fun i=>List.getD [List.map C.dem [C.v (Value.int IntKind.i64 (1000:Int))]] i []) (List.length A15) fun i=>eI (nth A15 i))/\A2/\(f:Int)=(f:Int)/\g=g/\pl=pl/\(sR eCp cs)/\A9/\(pc:Int)=(pc:Int))/\∀ (k0:Nat),k0<=List.length A0->(decide ((k0:Int)<(↑(List.length (nth (madeL cs) f)):Int))=true->(0<=(k0:Int)/\(k0:Int)<A5)/\pl=pl/\(sR eCp cs)/\A9/\(pc:Int)=(pc:Int)/\nth A0 k0=nth A0 k0/\g=g/\(MEq (kdTo ld A4 k0 D) (fun k=>vsC [Value.int IntKind.i64 (bif kdTo ld A4 k0 D k then lv cs pc (nth k 0) (nth k 1) else (0:Int))]) (kdTo ld A4 k0 D) fun k=>vsC [Value.int IntKind.i64 (bif kdTo ld A4 k0 D k then lv cs pc (nth k 0) (nth k 1) else (0:Int))])/\Does Tryz.prog Y Gl yd0 (306:FuncId) [tRd pl cs pc FAR,I (nth A0 k0),I g] [((2:Nat),FAR,mR cs pc (kdTo ld A4 k0 D))] (.ret (I (fwTo lf (nth A0 k0) g (10:Nat)))) [((2:Nat),FAR,mR cs pc (A11 k0))]/\(List.length (A6 k0)+1)*8<=140737488355328/\List.length (A6 k0)+1<=140737488355328/\iR ((k0:Int)+1)/\k0<List.length A0/\(k0:Int)+1=(↑(k0+1):Int)/\A5=A5/\(sR eI A0)/\(SEq (List.length (A6 k0)+1) (catF (List.length (A6 k0)) (fun i=>eI (nth (A6 k0) i)) fun i=>List.getD [List.map C.dem [C.v (Value.int IntKind.i64 (fwTo lf (nth A0 k0) g (10:Nat)))]] i []) (List.length (lsTo cs pc f g lf (k0+1))) fun i=>eI (nth (lsTo cs pc f g lf (k0+1)) i))/\(MEq (A11 k0) (fun k=>vsC [Value.int IntKind.i64 (bif fdTo ld (nth A0 k0) (10:Nat) (kdTo ld A4 k0 D) k then lv cs pc (nth k 0) (nth k 1) else (0:Int))]) (kdTo ld A4 (k0+1) D) fun k=>vsC [Value.int IntKind.i64 (bif kdTo ld A4 (k0+1) D k then lv cs pc (nth k 0) (nth k 1) else (0:Int))])/\(f:Int)=(f:Int)/\g=g/\pl=pl/\(sR eCp cs)/\A9/\(pc:Int)=(pc:Int))/\(decide ((k0:Int)<(↑(List.length (nth (madeL cs) f)):Int))=false->CO Gl 307 [L eI (A6 k0)] (.ret (I (satL (A6 k0))))/\satL (A6 k0)=lv cs pc (f:Int) g/\MEq (updD (kdTo ld A4 k0 D) [(f:Int),g]) (updV (fun k=>vsC [Value.int IntKind.i64 (bif kdTo ld A4 k0 D k then lv cs pc (nth k 0) (nth k 1) else (0:Int))]) [(f:Int),g] (List.map C.dem [C.v (Value.int IntKind.i64 (satL (A6 k0)))])) A1 fun k=>vsC [Value.int IntKind.i64 (bif A1 k then lv cs pc (nth k 0) (nth k 1) else (0:Int))])))/\(A13=false->A14/\(List.length A0<=maxLen->(0=(↑(0:Nat):Int)/\A5=A5/\(sR eI A0)/\List.length A15=(0:Nat)/\A2/\(f:Int)=(f:Int)/\g=g/\pl=pl/\(sR eCp cs)/\A9/\(pc:Int)=(pc:Int))/\∀ (k1:Nat),k1<=List.length A0->(decide ((k1:Int)<(↑(List.length (nth (madeL cs) f)):Int))=true->(0<=(k1:Int)/\(k1:Int)<A5)/\pl=pl/\(sR eCp cs)/\A9/\(pc:Int)=(pc:Int)/\nth A0 k1=nth A0 k1/\g=g/\(MEq (kdTo ld A4 k1 D) (fun k=>vsC [Value.int IntKind.i64 (bif kdTo ld A4 k1 D k then lv cs pc (nth k 0) (nth k 1) else (0:Int))]) (kdTo ld A4 k1 D) fun k=>vsC [Value.int IntKind.i64 (bif kdTo ld A4 k1 D k then lv cs pc (nth k 0) (nth k 1) else (0:Int))])/\Does Tryz.prog Y Gl yd0 (306:FuncId) [tRd pl cs pc FAR,I (nth A0 k1),I g] [((2:Nat),FAR,mR cs pc (kdTo ld A4 k1 D))] (.ret (I (fwTo lf (nth A0 k1) g (10:Nat)))) [((2:Nat),FAR,mR cs pc (A12 k1))]/\(List.length (A7 k1)+1)*8<=140737488355328/\List.length (A7 k1)+1<=140737488355328/\iR ((k1:Int)+1)/\k1<List.length A0/\(k1:Int)+1=(↑(k1+1):Int)/\A5=A5/\(sR eI A0)/\(SEq (List.length (A7 k1)+1) (catF (List.length (A7 k1)) (fun i=>eI (nth (A7 k1) i)) fun i=>List.getD [List.map C.dem [C.v (Value.int IntKind.i64 (fwTo lf (nth A0 k1) g (10:Nat)))]] i []) (List.length (lsTo cs pc f g lf (k1+1))) fun i=>eI (nth (lsTo cs pc f g lf (k1+1)) i))/\(MEq (A12 k1) (fun k=>vsC [Value.int IntKind.i64 (bif fdTo ld (nth A0 k1) (10:Nat) (kdTo ld A4 k1 D) k then lv cs pc (nth k 0) (nth k 1) else (0:Int))]) (kdTo ld A4 (k1+1) D) fun k=>vsC [Value.int IntKind.i64 (bif kdTo ld A4 (k1+1) D k then lv cs pc (nth k 0) (nth k 1) else (0:Int))])/\(f:Int)=(f:Int)/\g=g/\pl=pl/\(sR eCp cs)/\A9/\(pc:Int)=(pc:Int))/\(decide ((k1:Int)<(↑(List.length (nth (madeL cs) f)):Int))=false->CO Gl 307 [L eI (A7 k1)] (.ret (I (satL (A7 k1))))/\satL (A7 k1)=lv cs pc (f:Int) g/\MEq (updD (kdTo ld A4 k1 D) [(f:Int),g]) (updV (fun k=>vsC [Value.int IntKind.i64 (bif kdTo ld A4 k1 D k then lv cs pc (nth k 0) (nth k 1) else (0:Int))]) [(f:Int),g] (List.map C.dem [C.v (Value.int IntKind.i64 (satL (A7 k1)))])) A1 fun k=>vsC [Value.int IntKind.i64 (bif A1 k then lv cs pc (nth k 0) (nth k 1) else (0:Int))]))))))) Tryz.func212 (by kernel_rfl) (by kernel_rfl) ?_
 dsimp only
 have hm:(madeL cs).length=cs.length:=by unfold madeL;rw [List.length_map,List.length_range]
 have hk:kids cs f=nth (madeL cs) f:=rfl
 rw [hk] at hv
 have hfb:fitB cs pc f g=(nth (nth cs f).seen pc==-1||nth (nth cs f).seen pc==g):=rfl
 have hll:=fun k=>ls_len cs pc f g lf k
 have hkn:(nth (madeL cs) f).length<=1000:=by rw [made_at hf];have:=mdTo_len cs f cs.length;omega
 have hkl:∀ k,k<(nth (madeL cs) f).length->lsTo cs pc f g lf (k+1)=lsTo cs pc f g lf k++[fwTo lf (nth (nth (madeL cs) f) k) g 10]:=fun k h=>ls_succ cs pc f g lf h
 have hend:∀ k,k<=(nth (madeL cs) f).length->¬ ((k:Int)<(nth (madeL cs) f).length)->k=(nth (madeL cs) f).length:=fun k h1 h2=>by omega
 simp only [stdS,imp_self,implies_true,and_true,MEq_self,rng_iff,decide_eq_true_eq,decide_eq_false_iff_not,hm,maxLen_eq,hk]
 refine ⟨fun h=>by rw [h];rfl,fun h=>⟨by rw [h];rfl,meqR fun x=>by rw [h];rfl⟩,fun h=>⟨fits305 S pl cs f pc g hf hp,fun hb=>⟨by omega,by omega,by omega,fun _=>⟨⟨?_,meqR fun _=>rfl,trivial⟩,fun k hk=>⟨fun hd=>?_,fun hd=>?_⟩⟩⟩,fun hb=>⟨by omega,fun _=>⟨⟨?_,meqR fun _=>rfl,trivial⟩,fun k hk=>⟨fun hd=>?_,fun hd=>?_⟩⟩⟩⟩⟩
 ·rw [ls_zero,hfb,hb]
  exact .of ⟨rfl,fun i hi=>by match i,hi with|0,_=>rfl⟩
 ·have:=hll k
  exact ⟨by omega,hl k _ (by omega),by omega,by omega,by omega,by omega,by omega,SEq_push1 (f:=eI) (hkl k (by omega)) rfl,meqR fun _=>rfl,trivial⟩
 ·rw [hend k hk hd]
  exact ⟨sum307 S _ (ls_rng hr cs pc f g _),hv,meqU hv fun x=>by rw [h];rfl⟩
 ·rw [ls_zero,hfb,hb]
  rfl
 ·have:=hll k
  exact ⟨by omega,hl k _ (by omega),by omega,by omega,by omega,by omega,by omega,SEq_push1 (f:=eI) (hkl k (by omega)) rfl,meqR fun _=>rfl,trivial⟩
 ·rw [hend k hk hd]
  exact ⟨sum307 S _ (ls_rng hr cs pc f g _),hv,meqU hv fun x=>by rw [h];rfl⟩
theorem okTr_facts {pl:Int} {cs:List Cp} (h:okTr pl cs=true):(1<=pl/\pl<=3)/\(1<=cs.length/\cs.length<=8)/\∀ i,i<cs.length->0<=(nth cs i).par/\(nth cs i).par<=max 0 ((i:Int) - 1)/\((nth cs i).seen.length:Int)=pl:=by
 unfold okTr at h
 simp only [Bool.and_eq_true,inR_iff,List.all_eq_true] at h
 obtain ⟨h1,h2,h3⟩:=h
 refine ⟨h1,by omega,fun i hi=>?_⟩
 have:=h3 i (List.mem_range.2 hi)
 unfold okCp at this
 simp only [Bool.and_eq_true,inR_iff,beq_iff_eq] at this
 exact ⟨this.1.1,this.1.2,this.2.1⟩
theorem kid_mem {pl:Int} {cs:List Cp} (h:okTr pl cs=true) {f:Nat} (hf:f<cs.length) {c:Int} (hc:c∈nth (madeL cs) f):∃ j:Nat,c=j/\j<cs.length/\f<j:=by
 rw [made_at hf] at hc
 unfold mdTo at hc
 obtain ⟨j,hj,rfl⟩:=List.mem_map.1 hc
 obtain ⟨h1,h2⟩:=List.mem_filter.1 hj
 have h1:=List.mem_range.1 h1
 simp only [Bool.and_eq_true,decide_eq_true_eq,beq_iff_eq] at h2
 have:=(okTr_facts h).2.2 j h1
 exact ⟨j,rfl,h1,by omega⟩
theorem fwTo_congr {lf lf':Int->Int->Int} {c par:Int} (h:∀ g,lf c g=lf' c g):∀ k,fwTo lf c par k=fwTo lf' c par k
 |0=>rfl
 |k+1=>by unfold fwTo;rw [fwTo_congr h k,h]
theorem lsTo_congr {cs:List Cp} {pc f:Nat} {g:Int} {lf lf':Int->Int->Int} (h:∀ c∈kids cs f,∀ g,lf c g=lf' c g) (k:Nat):lsTo cs pc f g lf k=lsTo cs pc f g lf' k:=by
 unfold lsTo
 congr 1
 exact List.map_congr_left fun c hc=>fwTo_congr (h c (List.mem_of_mem_take hc)) 10
theorem lvN_st {pl:Int} {cs:List Cp} (h:okTr pl cs=true) (pc:Nat):∀ (n m f:Nat) (g:Int),f<cs.length->cs.length - f<=n->cs.length - f<=m->lvN cs pc n f g=lvN cs pc m f g
 |0,_,f,_,hf,hn,_=>by omega
 |_+1,0,f,_,hf,_,hm=>by omega
 |n+1,m+1,f,g,hf,hn,hm=>by
  show satL (lsTo cs pc f g (lvN cs pc n) (kids cs f).length)=satL (lsTo cs pc f g (lvN cs pc m) (kids cs f).length)
  congr 1
  refine lsTo_congr (fun c hc g=>?_) _
  obtain ⟨j,rfl,h1,h2⟩:=kid_mem h hf hc
  exact lvN_st h pc n m j g h1 (by omega) (by omega)
theorem lv_eq {pl:Int} {cs:List Cp} (h:okTr pl cs=true) (pc f:Nat) (g:Int) (hf:f<cs.length):satL (lsTo cs pc f g (lv cs pc) (kids cs f).length)=lv cs pc f g:=by
 unfold lv
 show _=lvN cs pc (cs.length - f) f g
 obtain ⟨m,hm⟩:∃ m,cs.length - f=m+1:=⟨cs.length - f - 1,by omega⟩
 rw [hm]
 show satL (lsTo cs pc f g (fun f g=>lvN cs pc (cs.length - f.toNat) f g) (kids cs f).length)=satL (lsTo cs pc f g (lvN cs pc m) (kids cs f).length)
 congr 1
 refine lsTo_congr (fun c hc g=>?_) _
 obtain ⟨j,rfl,h1,h2⟩:=kid_mem h hf hc
 exact lvN_st h pc (cs.length - j) m j g h1 (by omega) (by omega)
theorem lv_rng (cs:List Cp) (pc:Nat) (c g:Int):0<=lv cs pc c g/\lv cs pc c g<=1000:=lvN_rng cs pc _ c g
theorem leastN {Gl} (S:SP Gl) (pl:Int) (cs:List Cp) (pc:Nat) (h:okTr pl cs=true) (hp:(pc:Int)<pl):∀ (n f:Nat) (g:Int) (D:DS),f<cs.length->cs.length - f<=n->
  Does Tryz.prog Y Gl yd0 212 [tRd pl cs pc FAR,.d (.agg [Ci f,Ci g])] [(2,FAR,mR cs pc D)] (.ret (I (lv cs pc f g))) [(2,FAR,mR cs pc (ldN cs n f g D))]
 |0,f,_,_,hf,hn=>by omega
 |n+1,f,g,D,hf,hn=>by
  obtain ⟨k1,k2,k3⟩:=okTr_facts h
  have k4:=k3 f hf
  refine least212 S pl cs pc f g D (lv cs pc) (ldN cs n) (by omega) hf (by omega) (lv_rng cs pc) (fun k D hk=>?_) (lv_eq h pc f g hf)
  obtain ⟨j,hj,h1,h2⟩:=kid_mem h hf (nth_mem hk)
  rw [hj]
  exact fewest306 S pl cs pc j g D (lv cs pc) (ldN cs n) (lv_rng cs pc) fun k D _=>leastN S pl cs pc h hp n j k D h1 (by omega)
def erTo (cs:List Cp) (pc:Nat):Nat->Int
 |0=>1000
 |k+1=>min (erTo cs pc k) (lv cs pc 0 k)
def edTo (cs:List Cp):Nat->DS->DS
 |0,D=>D
 |k+1,D=>ldN cs cs.length 0 k (edTo cs k D)
theorem erTo_rng (cs:List Cp) (pc:Nat):∀ k,0<=erTo cs pc k/\erTo cs pc k<=1000
 |0=>⟨(by decide:(0:Int)<=1000),Int.le_refl _⟩
 |k+1=>by
  have h1:=erTo_rng cs pc k
  have h2:=lv_rng cs pc 0 k
  unfold erTo
  omega
theorem least0 {Gl} (S:SP Gl) (pl:Int) (cs:List Cp) (pc:Nat) (h:okTr pl cs=true) (hp:(pc:Int)<pl) (g:Int) (D:DS):Does Tryz.prog Y Gl yd0 212 [tRd pl cs pc FAR,.d (.agg [Ci 0,Ci g])] [(2,FAR,mR cs pc D)] (.ret (I (lv cs pc 0 g))) [(2,FAR,mR cs pc (ldN cs cs.length 0 g D))]:=
 leastN S pl cs pc h hp cs.length 0 g D (by have:=(okTr_facts h).2.1;omega) (by omega)
theorem errors123 {Gl} (S:SP Gl) (pl:Int) (cs:List Cp) (pc:Nat) (D:DS) (h:okTr pl cs=true) (hp:(pc:Int)<pl):Does Tryz.prog Y Gl yd0 123 [tRd pl cs pc FAR] [(2,FAR,mR cs pc D)] (.ret (I (erTo cs pc 10))) [(2,FAR,mR cs pc (edTo cs 10 D))]:=by
 refine fn_iw S (let A0:=fun (k0:Nat)=>(ldN cs cs.length (0:Int) (k0:Int) (edTo cs k0 D));((.loop (10:Nat) (fun k=>v 5 (I k)::v 3 (I (erTo cs pc k))::v 1 (ad 1)::((2:Nat),FAR,mR cs pc (edTo cs k D))::rdE pl cs pc (1:Nat) FAR) fun k0=>.br (.arrA (100009:Nat) (.w [(nat_lit 100000,nat_lit 100000)] [tRd pl cs pc FAR,T.d (Vc.D.agg [Ci 0,Ci k0])] [((2:Nat),FAR,mR cs pc (edTo cs k0 D))] (.ret (I (lv cs pc (0:Int) (k0:Int)))) [((2:Nat),FAR,mR cs pc (A0 k0))] .nil)) .nil),((0=(↑(0:Nat):Int)/\(1000:Int)=erTo cs pc (0:Nat)/\(MEq D (fun k=>vsC [Value.int IntKind.i64 (bif D k then lv cs pc (nth k 0) (nth k 1) else (0:Int))]) (edTo cs (0:Nat) D) fun k=>vsC [Value.int IntKind.i64 (bif edTo cs (0:Nat) D k then lv cs pc (nth k 0) (nth k 1) else (0:Int))])/\pl=pl/\(sR eCp cs)/\(sR eCol (madeL cs))/\(pc:Int)=(pc:Int))/\∀ (k0:Nat),k0<=(10:Nat)->(decide ((k0:Int)<10)=true->pl=pl/\(sR eCp cs)/\(sR eCol (madeL cs))/\(pc:Int)=(pc:Int)/\(0:Int)=0/\(k0:Int)=(k0:Int)/\(MEq (edTo cs k0 D) (fun k=>vsC [Value.int IntKind.i64 (bif edTo cs k0 D k then lv cs pc (nth k 0) (nth k 1) else (0:Int))]) (edTo cs k0 D) fun k=>vsC [Value.int IntKind.i64 (bif edTo cs k0 D k then lv cs pc (nth k 0) (nth k 1) else (0:Int))])/\Does Tryz.prog Y Gl yd0 (212:FuncId) [tRd pl cs pc FAR,T.d (Vc.D.agg [Ci 0,Ci k0])] [((2:Nat),FAR,mR cs pc (edTo cs k0 D))] (.ret (I (lv cs pc (0:Int) (k0:Int)))) [((2:Nat),FAR,mR cs pc (A0 k0))]/\iR ((k0:Int)+1)/\k0<(10:Nat)/\(k0:Int)+1=(↑(k0+1):Int)/\min (erTo cs pc k0) (lv cs pc (0:Int) (k0:Int))=erTo cs pc (k0+1)/\(MEq (A0 k0) (fun k=>vsC [Value.int IntKind.i64 (bif ldN cs cs.length (0:Int) (k0:Int) (edTo cs k0 D) k then lv cs pc (nth k 0) (nth k 1) else (0:Int))]) (edTo cs (k0+1) D) fun k=>vsC [Value.int IntKind.i64 (bif edTo cs (k0+1) D k then lv cs pc (nth k 0) (nth k 1) else (0:Int))])/\pl=pl/\(sR eCp cs)/\(sR eCol (madeL cs))/\(pc:Int)=(pc:Int))/\(decide ((k0:Int)<10)=false->erTo cs pc k0=erTo cs pc (10:Nat)/\MEq (edTo cs k0 D) (fun k=>vsC [Value.int IntKind.i64 (bif edTo cs k0 D k then lv cs pc (nth k 0) (nth k 1) else (0:Int))]) (edTo cs (10:Nat) D) fun k=>vsC [Value.int IntKind.i64 (bif edTo cs (10:Nat) D k then lv cs pc (nth k 0) (nth k 1) else (0:Int))])))) Tryz.func123 (by kernel_rfl) (by kernel_rfl) ?_
 simp only [stdS,imp_self,implies_true,and_true,rng_iff,decide_eq_true_eq,decide_eq_false_iff_not,MEq_self]
 refine ⟨⟨rfl,meqR fun _=>rfl,trivial⟩,fun k hk=>⟨fun hd=>⟨least0 S pl cs pc h hp k _,by omega,by omega,by omega,rfl,meqR fun _=>rfl,trivial⟩,fun hd=>?_⟩⟩
 have:k=10:=by omega
 subst this
 exact ⟨rfl,meqR fun _=>rfl⟩
theorem readingOf122 {Gl} (S:SP Gl) (pl:Int) (cs:List Cp) (pc:Nat) (h:okTr pl cs=true):CO Gl 122 [tTr pl cs,I pc] (.new (.ag [I pl,L eCp cs,L eCol (madeL cs),I pc,.mp 8]) ((2,8,mR cs pc fun _=>false)::rdE pl cs pc 4 8)):=by
 refine fn_new S (.r (.ret (T.d (D.agg [Ci pl,C.l eCp cs,C.l eCol (madeL cs)]))) .nil) Tryz.func122 (by kernel_rfl) (v 4 (ad 4)::(2,8,mR cs pc fun _=>false)::rdE pl cs pc 4 8) rfl (T.ag [I pl,L eCp cs,L eCol (madeL cs),I pc,T.mp (8:Nat)]=T.ag [T.d (D.c (C.v (Value.int IntKind.i64 pl))),T.d (D.c (C.l eCp cs)),T.d (D.c (C.l eCol (madeL cs))),T.d (D.c (C.v (Value.int IntKind.i64 (pc:Int)))),T.mp (8:Nat)]/\CO Gl 211 [tTr pl cs] (.ret (T.d (D.agg [Ci pl,C.l eCp cs,C.l eCol (madeL cs)])))/\(MEq (fun x=>false) (fun x=>vsC [Value.int IntKind.i64 (0:Int)]) (fun x=>false) fun k=>vsC [Value.int IntKind.i64 (bif false then lv cs pc (nth k 0) (nth k 1) else (0:Int))])/\pl=pl/\(sR eCp cs)/\(sR eCol (madeL cs))/\(pc:Int)=(pc:Int)) (by kernel_rfl) ?_
 obtain ⟨k1,k2,k3⟩:=okTr_facts h
 simp only [stdS,imp_self,implies_true,and_true]
 exact ⟨treeOf211 S pl cs (by omega) fun i hi=>by have:=k3 i hi;omega,fun _=>⟨rfl,fun h=>(by cases h)⟩,trivial⟩
def ftTo (cs:List Cp):Nat->Int
 |0=>0
 |k+1=>ftTo cs k+erTo cs k 10
theorem fewest50 {Gl} (S:SP Gl) (pl:Int) (cs:List Cp) (h:okTr pl cs=true):CO Gl 50 [tTr pl cs] (.ret (.tup [.c (Ci (ftTo cs pl.toNat)),.c (Ci 0)])):=by
 refine fn_iq S (let A0:=fun (k0:Nat)=>(Res.new (T.ag [I pl,L eCp cs,L eCol (madeL cs),I k0,T.mp (8:Nat)]) (((2:Nat),(8:Nat),mR cs k0 fun x=>false)::rdE pl cs k0 (4:Nat) (8:Nat)));((.val 7 true (.r (.ret (B (okTr pl cs))) (.ff (.loop (Int.toNat pl) (fun k=>v 11 (I k)::v 10 (I pl)::v 4 (I (ftTo cs k))::v 1 (ad 1)::bx 1 (cTr pl cs)) fun k0=>.br (.n [(nat_lit 8,nat_lit 18008),(nat_lit 4,nat_lit 18004)] (A0 k0) (.w [(nat_lit 100000,nat_lit 18008)] [tRd pl cs k0 FAR] [((2:Nat),FAR,mR cs k0 fun x=>false)] (.ret (I (erTo cs k0 (10:Nat)))) [((2:Nat),FAR,mR cs k0 (edTo cs (10:Nat) fun x=>false))] .nil)) .nil)))),(okTr pl cs=true/\CO Gl 121 [tTr pl cs] (.ret (B (okTr pl cs)))/\false=false/\(0=(↑(0:Nat):Int)/\pl=pl/\(0:Int)=ftTo cs (0:Nat)/\pl=pl/\sR eCp cs)/\∀ (k0:Nat),k0<=Int.toNat pl->(decide ((k0:Int)<pl)=true->CO Gl 122 [tTr pl cs,I k0] (A0 k0)/\pl=pl/\(sR eCp cs)/\(sR eCol (madeL cs))/\(k0:Int)=(k0:Int)/\(MEq (fun x=>false) (fun k=>vsC [Value.int IntKind.i64 (bif false then lv cs k0 (nth k 0) (nth k 1) else (0:Int))]) (fun x=>false) fun k=>vsC [Value.int IntKind.i64 (bif false then lv cs k0 (nth k 0) (nth k 1) else (0:Int))])/\Does Tryz.prog Y Gl yd0 (123:FuncId) [tRd pl cs k0 FAR] [((2:Nat),FAR,mR cs k0 fun x=>false)] (.ret (I (erTo cs k0 (10:Nat)))) [((2:Nat),FAR,mR cs k0 (edTo cs (10:Nat) fun x=>false))]/\iR (ftTo cs k0+erTo cs k0 (10:Nat))/\iR ((k0:Int)+1)/\k0<Int.toNat pl/\(k0:Int)+1=(↑(k0+1):Int)/\pl=pl/\ftTo cs k0+erTo cs k0 (10:Nat)=ftTo cs (k0+1)/\pl=pl/\sR eCp cs)/\(decide ((k0:Int)<pl)=false->ftTo cs k0=ftTo cs (Int.toNat pl)/\(0:Int)=0)))) Tryz.func50 (by kernel_rfl) (by kernel_rfl) ?_
 dsimp only
 obtain ⟨k1,k2,k3⟩:=okTr_facts h
 have ht:=isTree121 S pl cs
 rw [h] at ht
 simp only [stdS,imp_self,implies_true,and_true,rng_iff,decide_eq_true_eq,decide_eq_false_iff_not,h,MEq_self]
 have hb:∀ k:Nat,0<=ftTo cs k/\ftTo cs k<=1000*k:=fun k=>by
  induction k with
  |zero=>exact ⟨Int.le_refl _,Int.le_refl _⟩
  |succ k ih=>
   have:=erTo_rng cs k 10
   unfold ftTo
   omega
 refine ⟨ht,⟨rfl,trivial⟩,fun k hk=>⟨fun hd=>?_,fun hd=>?_⟩⟩
 ·have h1:=hb k
  have h2:=erTo_rng cs k 10
  exact ⟨readingOf122 S pl cs k h,errors123 S pl cs k _ h hd,by omega,by omega,by omega,by omega,rfl,trivial⟩
 ·have:k=pl.toNat:=by omega
  rw [this]
  exact ⟨rfl,trivial⟩
def exCp:List Cp:=[⟨0,[4,7]⟩,⟨0,[-1,-1]⟩,⟨1,[4,1]⟩,⟨1,[4,1]⟩,⟨0,[-1,7]⟩,⟨4,[8,7]⟩]
theorem cp2 (p a b:Int):EqCs (List.map C.dem (List.map C.dem [C.v (.int .i64 p),C.s Tag.n 2 fun i=>[List.map C.dem [C.v (.int .i64 a)],List.map C.dem [C.v (.int .i64 b)]].getD i []])) (eCp ⟨p,[a,b]⟩):=
 ⟨.inl rfl,.inr (.inr ⟨.n,2,_,.n,2,_,rfl,rfl,rfl,fun i hi=>by match i,hi with|0,_=>rfl|1,_=>rfl⟩),trivial⟩
theorem treeA51 {Gl} (S:SP Gl)  :CO Gl 51 [] (.ret (tTr 2 exCp)):=by
 refine fn_iq S (let A0:=(List.map C.dem [C.v (Value.int IntKind.i64 (1:Int)),C.s Tag.n (2:Nat) fun i=>List.getD [List.map C.dem [C.v (Value.int IntKind.i64 (4:Int))],List.map C.dem [C.v (Value.int IntKind.i64 (1:Int))]] i []]);let A1:=[C.v (Value.int IntKind.i64 (-1:Int))];let A2:=[C.v (Value.int IntKind.i64 (7:Int))];let A3:=(Value.int IntKind.i64 (0:Int));((.nil),((2:Int)=2/\SEq (6:Nat) (fun i=>List.getD [List.map C.dem (List.map C.dem [C.v A3,C.s Tag.n (2:Nat) fun i=>List.getD [List.map C.dem [C.v (Value.int IntKind.i64 (4:Int))],List.map C.dem A2] i []]),List.map C.dem (List.map C.dem [C.v A3,C.s Tag.n (2:Nat) fun i=>List.getD [List.map C.dem A1,List.map C.dem A1] i []]),List.map C.dem A0,List.map C.dem A0,List.map C.dem (List.map C.dem [C.v A3,C.s Tag.n (2:Nat) fun i=>List.getD [List.map C.dem A1,List.map C.dem A2] i []]),List.map C.dem (List.map C.dem [C.v (Value.int IntKind.i64 (4:Int)),C.s Tag.n (2:Nat) fun i=>List.getD [List.map C.dem [C.v (Value.int IntKind.i64 (8:Int))],List.map C.dem A2] i []])] i []) exCp.length fun i=>eCp (nth exCp i)))) Tryz.func51 (by kernel_rfl) (by kernel_rfl) ?_
 dsimp only
 exact ⟨rfl,rfl,fun i hi=>.inr (by
  match i,hi with|0,_=>exact cp2 _ _ _|1,_=>exact cp2 _ _ _|2,_=>exact cp2 _ _ _|3,_=>exact cp2 _ _ _|4,_=>exact cp2 _ _ _|5,_=>exact cp2 _ _ _)⟩
structure PLn where
 by':Int
 right:Int
 set:Int
instance:Inhabited PLn:=⟨⟨0,0,0⟩⟩
structure PEn where
 kind:Int
 nums:List Int
instance:Inhabited PEn:=⟨⟨0,[]⟩⟩
def ePLn (l:PLn):List C:=[Ci l.by',Ci l.right,Ci l.set]
def ePEn (x:PEn):List C:=[Ci x.kind,.l eI x.nums]
def exLn:List PLn:=[⟨0,123,132⟩,⟨1,45,45⟩,⟨0,-7,7⟩]
def exLog:List PEn:=[⟨1,[1,2,0,2]⟩,⟨2,[2,0,123]⟩,⟨1,[0,3,0,1]⟩]
def cPg:List C:=[Ci 4,.l ePLn exLn,.l ePEn exLog]
abbrev tPg:T:=.d (.agg cPg)
theorem in213 {Gl} (S:SP Gl) (x lo hi:Int):CO Gl 213 [I x,I lo,I hi] (.ret (B (inR x lo hi))):=by
 refine fn_is S (.nil) Tryz.func213 (by kernel_rfl) ((eqB (decide (lo<=x)) true=true->eqB (decide (lo<=x)) true=true)/\(eqB (decide (lo<=x)) true=true->eqB (decide (lo<=x)) true=true)/\(decide (lo<=x)=true->eqB (decide (lo<=x)) true=true)/\(bif decide (lo<=x) then decide (x<=hi) else false)=inR x lo hi) (by kernel_rfl) ?_
 simp only [stdS,imp_self,implies_true,and_true,inR]
theorem isNumber217 {Gl} (S:SP Gl) (x:Int):CO Gl 217 [I x] (.ret (B (inR x (-999) 999))):=by
 refine fn_is S (.r (.ret (B (inR x (-999:Int) (999:Int)))) .nil) Tryz.func217 (by kernel_rfl) (CO Gl 213 [I x,I (-999:Int),I 999] (.ret (B (inR x (-999:Int) (999:Int))))/\inR x (-999:Int) (999:Int)=inR x (-999:Int) (999:Int)) (by kernel_rfl) ?_
 exact ⟨in213 S _ _ _,rfl⟩
theorem hasPerson216 {Gl} (S:SP Gl) (x:Int):CO Gl 216 [tPg,I x] (.ret (B (inR x 0 3))):=by
 refine fn_is S (.r (.ret (B (inR x (0:Int) ((4:Int)-1)))) .nil) Tryz.func216 (by kernel_rfl) (iR ((4:Int)-1)/\CO Gl 213 [I x,I 0,I ((4:Int)-1)] (.ret (B (inR x (0:Int) ((4:Int)-1))))/\inR x (0:Int) ((4:Int)-1)=inR x (0:Int) (3:Int)) (by kernel_rfl) ?_
 exact ⟨(rng_iff _).2 (by decide),in213 S _ _ _,rfl⟩
theorem hasLine310 {Gl} (S:SP Gl) (x:Int):CO Gl 310 [tPg,I x] (.ret (B (inR x 0 2))):=by
 refine fn_is S (.r (.ret (B (inR x (0:Int) ((↑(3:Nat):Int)-1)))) .nil) Tryz.func310 (by kernel_rfl) ((3:Nat)<=maxLen->iR ((↑(3:Nat):Int)-1)/\CO Gl 213 [I x,I 0,I ((↑(3:Nat):Int)-1)] (.ret (B (inR x (0:Int) ((↑(3:Nat):Int)-1))))/\inR x (0:Int) ((↑(3:Nat):Int)-1)=inR x (0:Int) (2:Int)) (by kernel_rfl) ?_
 exact fun _=>⟨(rng_iff _).2 (by decide),in213 S _ _ _,rfl⟩
theorem bad215 {Gl} (S:SP Gl) (l:PLn):CO Gl 215 [.d (.agg (ePLn l)),.d (.rd cPg)] (.ret (B (!inR l.by' 0 3||!inR l.right (-999) 999||!inR l.set (-999) 999))):=by
 refine fn_iq S (let A0:=(bif !inR l.1 (0:Int) (3:Int) then true else !inR l.2 (-999:Int) (999:Int));let A1:=(!inR l.1 (0:Int) (3:Int));let A2:=(eqB A1 false=true->eqB A1 false=true);let A3:=(eqB A0 false=true->eqB A0 false=true);let A4:=(-999:Int);((.r (.ret (B (inR l.1 (0:Int) (3:Int)))) (.r (.ret (B (inR l.2 A4 (999:Int)))) (.r (.ret (B (inR l.3 A4 (999:Int)))) .nil))),(CO Gl 216 [tPg,I l.1] (.ret (B (inR l.1 (0:Int) (3:Int))))/\A2/\A2/\(eqB A1 false=true->CO Gl 217 [I l.2] (.ret (B (inR l.2 A4 (999:Int)))))/\A2/\(A1=false->eqB A1 false=true)/\A3/\A3/\(eqB A0 false=true->CO Gl 217 [I l.3] (.ret (B (inR l.3 A4 (999:Int)))))/\A3/\(A0=false->eqB A0 false=true)/\(bif bif !inR l.1 (0:Int) (3:Int) then true else !inR l.2 A4 (999:Int) then true else !inR l.3 A4 (999:Int))=(!inR l.1 (0:Int) (3:Int)||!inR l.2 A4 (999:Int)||!inR l.3 A4 (999:Int))))) Tryz.func215 (by kernel_rfl) (by kernel_rfl) ?_
 simp only [stdS,imp_self,implies_true,and_true]
 exact ⟨hasPerson216 S _,fun _=>isNumber217 S _,fun _=>isNumber217 S _,trivial⟩
theorem idx308 {Gl} (S:SP Gl)  :CO Gl 308 [L ePLn exLn,.fn 215 [] [.d (.rd cPg)]] (.ret (I (-1))):=by
 refine fn_iq S (let A0:=fun (k0:Nat)=>(B (!inR (PLn.by' (nth exLn k0)) (0:Int) (3:Int)||!inR (PLn.right (nth exLn k0)) (-999:Int) (999:Int)||!inR (PLn.set (nth exLn k0)) (-999:Int) (999:Int)));let A1:=fun (k0:Nat)=>(!inR (nth exLn k0).1 (0:Int) (3:Int)||!inR (nth exLn k0).2 (-999:Int) (999:Int)||!inR (nth exLn k0).3 (-999:Int) (999:Int));((.loop (3:Nat) (fun k=>[v 8 (I k),v 7 (I exLn.length),v 0 (L ePLn exLn),v 1 (T.fn (215:FuncId) [] [T.d (D.rd cPg)])]) fun k0=>.br (.r (.ret (A0 k0)) (.br .nil .nil)) .nil),((3:Nat)<=maxLen->(0=(↑(0:Nat):Int)/\(↑(3:Nat):Int)=(exLn.length:Int)/\(SEq (3:Nat) (fun i=>ePLn (nth exLn i)) exLn.length fun i=>ePLn (nth exLn i))/\(215:Nat)=(215:Nat)/\(4:Int)=4/\(sR ePLn exLn)/\sR ePEn exLog)/\∀ (k0:Nat),k0<=(3:Nat)->(decide ((k0:Int)<(exLn.length:Int))=true->(0<=(k0:Int)/\(k0:Int)<(exLn.length:Int))/\CO Gl 215 [T.d (D.agg (ePLn (nth exLn k0))),T.d (D.rd cPg)] (.ret (A0 k0))/\((A1 k0)=true->(k0:Int)=(-1:Int))/\((A1 k0)=false->iR ((k0:Int)+1)/\k0<(3:Nat)/\(k0:Int)+1=(↑(k0+1):Int)/\(exLn.length:Int)=(exLn.length:Int)/\(sR ePLn exLn)/\(215:Nat)=(215:Nat)/\(4:Int)=4/\(sR ePLn exLn)/\sR ePEn exLog))/\(decide ((k0:Int)<(exLn.length:Int))=false->(-1:Int)=(-1:Int))))) Tryz.func308 (by kernel_rfl) (by kernel_rfl) ?_
 have hlen:exLn.length=3:=rfl
 have hb:∀ k:Nat,k<3->(!inR (nth exLn k).1 0 3||!inR (nth exLn k).2 (-999) 999||!inR (nth exLn k).3 (-999) 999)=false:=by decide
 simp only [stdS,imp_self,implies_true,and_true,rng_iff,hlen,decide_eq_true_eq,decide_eq_false_iff_not]
 refine fun _ k hk=>⟨fun hd=>?_,trivial⟩
 have h1:=hb k (by omega)
 refine ⟨by omega,bad215 S _,fun h=>?_,fun _=>⟨by omega,by omega,by omega,trivial⟩⟩
 rw [h1] at h;cases h
theorem has214 {Gl} (S:SP Gl)  :CO Gl 214 [L ePLn exLn,.fn 215 [] [.d (.rd cPg)]] (.ret (B false)):=by
 refine fn_is S (.r (.ret (I (-1:Int))) .nil) Tryz.func214 (by kernel_rfl) (CO Gl 308 [L ePLn exLn,T.fn (215:FuncId) [] [T.d (D.rd cPg)]] (.ret (I (-1:Int)))/\false=false) (by kernel_rfl) ?_
 exact ⟨idx308 S,rfl⟩
theorem entry0 {Gl} (S:SP Gl)  :CO Gl 220 [tPg,.d (.agg (ePEn ⟨1,[1,2,0,2]⟩))] (.ret (B true)):=by
 refine fn_iq S (let A0:=(nth [(1:Int),(2:Int),(0:Int),(2:Int)] (Int.toNat (0:Int)));let A1:=(nth [(1:Int),(2:Int),(0:Int),(2:Int)] (Int.toNat (1:Int)));let A2:=(nth [(1:Int),(2:Int),(0:Int),(2:Int)] (Int.toNat (2:Int)));let A3:=(nth [(1:Int),(2:Int),(0:Int),(2:Int)] (Int.toNat (3:Int)));let A4:=(↑(4:Nat):Int);((.tt (.sure 16 (.sure 17 (.sure 18 (.sure 19 (.sure 20 (.r (.ret (B (inR A0 (0:Int) (3:Int)))) (.sure 23 (.sure 24 (.sure 25 (.sure 26 (.sure 27 (.r (.ret (B (inR A1 (0:Int) (3:Int)))) (.sure 30 (.sure 31 (.sure 32 (.sure 33 (.sure 34 (.sure 35 (.sure 36 (.sure 39 (.sure 40 (.sure 41 (.sure 42 (.sure 43 (.r (.ret (B (inR A2 (0:Int) (2:Int)))) (.sure 46 (.sure 47 (.sure 48 (.sure 49 (.sure 50 (.r (.ret (B (inR A3 (0:Int) (2:Int)))) (.sure 53 (.sure 54 (.sure 55 (.sure 56 (.sure 57 (.sure 58 (.sure 59 .nil))))))))))))))))))))))))))))))))))))))),(true=true/\((4:Nat)<=maxLen->true=true/\true=true/\true=true/\((0:Int)<=0/\0<A4)/\true=true/\true=true/\CO Gl 216 [tPg,I A0] (.ret (B (inR A0 (0:Int) (3:Int))))/\true=true/\true=true/\true=true/\((0:Int)<=1/\1<A4)/\true=true/\true=true/\CO Gl 216 [tPg,I A1] (.ret (B (inR A1 (0:Int) (3:Int))))/\true=true/\true=true/\((0:Int)<=0/\0<A4)/\true=true/\true=true/\true=true/\((0:Int)<=1/\1<A4)/\true=true/\true=true/\true=true/\true=true/\true=true/\((0:Int)<=2/\2<A4)/\true=true/\true=true/\CO Gl 310 [tPg,I A2] (.ret (B (inR A2 (0:Int) (2:Int))))/\true=true/\true=true/\true=true/\((0:Int)<=3/\3<A4)/\true=true/\true=true/\CO Gl 310 [tPg,I A3] (.ret (B (inR A3 (0:Int) (2:Int))))/\true=true/\true=true/\((0:Int)<=2/\2<A4)/\true=true/\true=true/\true=true/\((0:Int)<=3/\3<A4)/\true=true/\true=true/\true=true)))) Tryz.func220 (by kernel_rfl) (by kernel_rfl) ?_
 simp only [stdS,imp_self,implies_true,and_true]
 exact fun _=>⟨by decide,hasPerson216 S _,by decide,hasPerson216 S _,by decide,by decide,by decide,hasLine310 S _,by decide,hasLine310 S _,by decide,by decide⟩
theorem entry1 {Gl} (S:SP Gl)  :CO Gl 220 [tPg,.d (.agg (ePEn ⟨2,[2,0,123]⟩))] (.ret (B true)):=by
 refine fn_iq S (let A0:=(nth [(2:Int),(0:Int),(123:Int)] (Int.toNat (0:Int)));let A1:=(nth [(2:Int),(0:Int),(123:Int)] (Int.toNat (1:Int)));let A2:=(nth [(2:Int),(0:Int),(123:Int)] (Int.toNat (2:Int)));((.ff (.tt (.sure 67 (.sure 68 (.sure 69 (.sure 70 (.sure 71 (.r (.ret (B (inR A0 (0:Int) (3:Int)))) (.sure 74 (.sure 75 (.sure 76 (.sure 77 (.sure 78 (.r (.ret (B (inR A1 (0:Int) (2:Int)))) (.sure 81 (.sure 82 (.sure 83 (.sure 84 (.r (.ret (B (inR A2 (-999:Int) (999:Int)))) .nil))))))))))))))))))),(false=false/\true=true/\((3:Nat)<=maxLen->true=true/\true=true/\true=true/\((0:Int)<=0/\0<(↑(3:Nat):Int))/\true=true/\true=true/\CO Gl 216 [tPg,I A0] (.ret (B (inR A0 (0:Int) (3:Int))))/\true=true/\true=true/\true=true/\((0:Int)<=1/\1<(↑(3:Nat):Int))/\true=true/\true=true/\CO Gl 310 [tPg,I A1] (.ret (B (inR A1 (0:Int) (2:Int))))/\true=true/\true=true/\((0:Int)<=2/\2<(↑(3:Nat):Int))/\true=true/\true=true/\CO Gl 217 [I A2] (.ret (B (inR A2 (-999:Int) (999:Int))))/\true=true)))) Tryz.func220 (by kernel_rfl) (by kernel_rfl) ?_
 simp only [stdS,imp_self,implies_true,and_true]
 exact fun _=>⟨by decide,hasPerson216 S _,by decide,hasLine310 S _,by decide,isNumber217 S _,trivial⟩
theorem entry2 {Gl} (S:SP Gl)  :CO Gl 220 [tPg,.d (.agg (ePEn ⟨1,[0,3,0,1]⟩))] (.ret (B true)):=by
 refine fn_iq S (let A0:=(nth [(0:Int),(3:Int),(0:Int),(1:Int)] (Int.toNat (0:Int)));let A1:=(nth [(0:Int),(3:Int),(0:Int),(1:Int)] (Int.toNat (1:Int)));let A2:=(nth [(0:Int),(3:Int),(0:Int),(1:Int)] (Int.toNat (2:Int)));let A3:=(nth [(0:Int),(3:Int),(0:Int),(1:Int)] (Int.toNat (3:Int)));let A4:=(↑(4:Nat):Int);((.tt (.sure 16 (.sure 17 (.sure 18 (.sure 19 (.sure 20 (.r (.ret (B (inR A0 (0:Int) (3:Int)))) (.sure 23 (.sure 24 (.sure 25 (.sure 26 (.sure 27 (.r (.ret (B (inR A1 (0:Int) (3:Int)))) (.sure 30 (.sure 31 (.sure 32 (.sure 33 (.sure 34 (.sure 35 (.sure 36 (.sure 39 (.sure 40 (.sure 41 (.sure 42 (.sure 43 (.r (.ret (B (inR A2 (0:Int) (2:Int)))) (.sure 46 (.sure 47 (.sure 48 (.sure 49 (.sure 50 (.r (.ret (B (inR A3 (0:Int) (2:Int)))) (.sure 53 (.sure 54 (.sure 55 (.sure 56 (.sure 57 (.sure 58 (.sure 59 .nil))))))))))))))))))))))))))))))))))))))),(true=true/\((4:Nat)<=maxLen->true=true/\true=true/\true=true/\((0:Int)<=0/\0<A4)/\true=true/\true=true/\CO Gl 216 [tPg,I A0] (.ret (B (inR A0 (0:Int) (3:Int))))/\true=true/\true=true/\true=true/\((0:Int)<=1/\1<A4)/\true=true/\true=true/\CO Gl 216 [tPg,I A1] (.ret (B (inR A1 (0:Int) (3:Int))))/\true=true/\true=true/\((0:Int)<=0/\0<A4)/\true=true/\true=true/\true=true/\((0:Int)<=1/\1<A4)/\true=true/\true=true/\true=true/\true=true/\true=true/\((0:Int)<=2/\2<A4)/\true=true/\true=true/\CO Gl 310 [tPg,I A2] (.ret (B (inR A2 (0:Int) (2:Int))))/\true=true/\true=true/\true=true/\((0:Int)<=3/\3<A4)/\true=true/\true=true/\CO Gl 310 [tPg,I A3] (.ret (B (inR A3 (0:Int) (2:Int))))/\true=true/\true=true/\((0:Int)<=2/\2<A4)/\true=true/\true=true/\true=true/\((0:Int)<=3/\3<A4)/\true=true/\true=true/\true=true)))) Tryz.func220 (by kernel_rfl) (by kernel_rfl) ?_
 simp only [stdS,imp_self,implies_true,and_true]
 exact fun _=>⟨by decide,hasPerson216 S _,by decide,hasPerson216 S _,by decide,by decide,by decide,hasLine310 S _,by decide,hasLine310 S _,by decide,by decide⟩
theorem entryK {Gl} (S:SP Gl) (k:Nat) (h:k<3):CO Gl 220 [tPg,.d (.agg (ePEn (nth exLog k)))] (.ret (B true)):=by
 match k,h with
 |0,_=>exact entry0 S
 |1,_=>exact entry1 S
 |2,_=>exact entry2 S
theorem bad219 {Gl} (S:SP Gl) (k:Nat) (h:k<3):CO Gl 219 [.d (.agg (ePEn (nth exLog k))),.d (.rd cPg)] (.ret (B false)):=by
 refine fn_is S (.r (.ret (B true)) .nil) Tryz.func219 (by kernel_rfl) (CO Gl 220 [tPg,T.d (D.agg (ePEn (nth exLog k)))] (.ret (B true))/\false=false) (by kernel_rfl) ?_
 exact ⟨entryK S k h,rfl⟩
theorem idx309 {Gl} (S:SP Gl)  :CO Gl 309 [L ePEn exLog,.fn 219 [] [.d (.rd cPg)]] (.ret (I (-1))):=by
 refine fn_iq S (let A0:=(exLog.length:Int);((.loop (3:Nat) (fun k=>[v 8 (I k),v 7 (I exLog.length),v 0 (L ePEn exLog),v 1 (T.fn (219:FuncId) [] [T.d (D.rd cPg)])]) fun k0=>.br (.r (.ret (B false)) (.ff .nil)) .nil),((3:Nat)<=maxLen->(0=(↑(0:Nat):Int)/\(↑(3:Nat):Int)=A0/\(SEq (3:Nat) (fun i=>ePEn (nth exLog i)) exLog.length fun i=>ePEn (nth exLog i))/\(219:Nat)=(219:Nat)/\(4:Int)=4/\(sR ePLn exLn)/\sR ePEn exLog)/\∀ (k0:Nat),k0<=(3:Nat)->(decide ((k0:Int)<(exLog.length:Int))=true->(0<=(k0:Int)/\(k0:Int)<A0)/\CO Gl 219 [T.d (D.agg (ePEn (nth exLog k0))),T.d (D.rd cPg)] (.ret (B false))/\false=false/\iR ((k0:Int)+1)/\k0<(3:Nat)/\(k0:Int)+1=(↑(k0+1):Int)/\A0=A0/\(sR ePEn exLog)/\(219:Nat)=(219:Nat)/\(4:Int)=4/\(sR ePLn exLn)/\sR ePEn exLog)/\(decide ((k0:Int)<(exLog.length:Int))=false->(-1:Int)=(-1:Int))))) Tryz.func309 (by kernel_rfl) (by kernel_rfl) ?_
 have hlen:exLog.length=3:=rfl
 simp only [stdS,imp_self,implies_true,and_true,rng_iff,hlen,decide_eq_true_eq,decide_eq_false_iff_not]
 exact fun _ k hk=>⟨fun hd=>⟨by omega,bad219 S k (by omega),by omega,by omega,by omega,trivial⟩,trivial⟩
theorem has218 {Gl} (S:SP Gl)  :CO Gl 218 [L ePEn exLog,.fn 219 [] [.d (.rd cPg)]] (.ret (B false)):=by
 refine fn_is S (.r (.ret (I (-1:Int))) .nil) Tryz.func218 (by kernel_rfl) (CO Gl 309 [L ePEn exLog,T.fn (219:FuncId) [] [T.d (D.rd cPg)]] (.ret (I (-1:Int)))/\false=false) (by kernel_rfl) ?_
 exact ⟨idx309 S,rfl⟩
theorem isPage124 {Gl} (S:SP Gl)  :CO Gl 124 [tPg] (.ret (B true)):=by
 refine fn_is S (.r (.ret (B (inR (4:Int) (2:Int) (6:Int)))) (.sure 8 (.sure 9 (.sure 10 (.sure 11 (.r (.ret (B (inR (↑(3:Nat):Int) (1:Int) (6:Int)))) (.sure 12 (.sure 15 (.sure 16 (.sure 17 (.sure 18 (.ff (.r (.ret (B false)) (.sure 26 (.sure 27 (.sure 28 (.sure 29 (.r (.ret (B false)) (.sure 30 .nil))))))))))))))))))) Tryz.func124 (by kernel_rfl) (CO Gl 213 [I 4,I 2,I 6] (.ret (B (inR (4:Int) (2:Int) (6:Int))))/\true=true/\true=true/\true=true/\((3:Nat)<=maxLen->true=true/\CO Gl 213 [I (↑(3:Nat):Int),I 1,I 6] (.ret (B (inR (↑(3:Nat):Int) (1:Int) (6:Int))))/\true=true/\true=true/\true=true/\true=true/\((3:Nat)<=maxLen->true=true/\false=false/\CO Gl 214 [L ePLn exLn,T.fn (215:FuncId) [] [T.d (D.rd cPg)]] (.ret (B false))/\true=true/\true=true/\true=true/\true=true/\CO Gl 218 [L ePEn exLog,T.fn (219:FuncId) [] [T.d (D.rd cPg)]] (.ret (B false))/\true=true/\true=true))) (by kernel_rfl) ?_
 simp only [stdS,imp_self,implies_true,and_true]
 exact ⟨in213 S _ _ _,fun _=>⟨in213 S _ _ _,fun _=>⟨has214 S,has218 S,trivial⟩⟩⟩
theorem read127 {Gl} (S:SP Gl) (a b c d:Int):CO Gl 127 [I a,I b,I c,I d] (.ret (.d (.agg (ePEn ⟨1,[a,b,c,d]⟩)))):=by
 refine fn_is S (.nil) Tryz.func127 (by kernel_rfl) ((1:Int)=1/\SEq (4:Nat) (fun i=>List.getD [List.map C.dem [C.v (Value.int IntKind.i64 a)],List.map C.dem [C.v (Value.int IntKind.i64 b)],List.map C.dem [C.v (Value.int IntKind.i64 c)],List.map C.dem [C.v (Value.int IntKind.i64 d)]] i []) (List.length [a,b,c,d]) fun i=>eI (nth [a,b,c,d] i)) (by kernel_rfl) ?_
 exact ⟨rfl,.of ⟨rfl,fun i hi=>by match i,hi with|0,_=>rfl|1,_=>rfl|2,_=>rfl|3,_=>rfl⟩⟩
theorem mend128 {Gl} (S:SP Gl) (a b c:Int):CO Gl 128 [I a,I b,I c] (.ret (.d (.agg (ePEn ⟨2,[a,b,c]⟩)))):=by
 refine fn_is S (.nil) Tryz.func128 (by kernel_rfl) ((2:Int)=2/\SEq (3:Nat) (fun i=>List.getD [List.map C.dem [C.v (Value.int IntKind.i64 a)],List.map C.dem [C.v (Value.int IntKind.i64 b)],List.map C.dem [C.v (Value.int IntKind.i64 c)]] i []) (List.length [a,b,c]) fun i=>eI (nth [a,b,c] i)) (by kernel_rfl) ?_
 exact ⟨rfl,.of ⟨rfl,fun i hi=>by match i,hi with|0,_=>rfl|1,_=>rfl|2,_=>rfl⟩⟩
theorem pageB53 {Gl} (S:SP Gl)  :CO Gl 53 [] (.ret tPg):=by
 refine fn_iq S (let A0:=(T.d (D.agg (ePEn (PEn.mk (1:Int) [(1:Int),(2:Int),(0:Int),(2:Int)]))));let A1:=(T.d (D.agg (ePEn (PEn.mk (1:Int) [(0:Int),(3:Int),(0:Int),(1:Int)]))));let A2:=(T.d (D.agg (ePEn (PEn.mk (2:Int) [(2:Int),(0:Int),(123:Int)]))));let A3:=(Value.int IntKind.i64 (1:Int));((.r (.ret A0) (.r (.ret A2) (.r (.ret A1) .nil))),(CO Gl 127 [I 1,I 2,I 0,I 2] (.ret A0)/\CO Gl 128 [I 2,I 0,I 123] (.ret A2)/\CO Gl 127 [I 0,I 3,I 0,I 1] (.ret A1)/\(4:Int)=4/\(SEq (3:Nat) (fun i=>List.getD [List.map C.dem (List.map C.dem [C.v (Value.int IntKind.i64 (0:Int)),C.v (Value.int IntKind.i64 (123:Int)),C.v (Value.int IntKind.i64 (132:Int))]),List.map C.dem (List.map C.dem [C.v A3,C.v (Value.int IntKind.i64 (45:Int)),C.v (Value.int IntKind.i64 (45:Int))]),List.map C.dem (List.map C.dem [C.v (Value.int IntKind.i64 (0:Int)),C.v (Value.int IntKind.i64 (-7:Int)),C.v (Value.int IntKind.i64 (7:Int))])] i []) exLn.length fun i=>ePLn (nth exLn i))/\SEq (3:Nat) (fun i=>List.getD [List.map C.dem (List.map C.dem [C.v A3,C.s Tag.n (4:Nat) fun i=>eI (nth [(1:Int),(2:Int),(0:Int),(2:Int)] i)]),List.map C.dem (List.map C.dem [C.v (Value.int IntKind.i64 (2:Int)),C.s Tag.n (3:Nat) fun i=>eI (nth [(2:Int),(0:Int),(123:Int)] i)]),List.map C.dem (List.map C.dem [C.v A3,C.s Tag.n (4:Nat) fun i=>eI (nth [(0:Int),(3:Int),(0:Int),(1:Int)] i)])] i []) exLog.length fun i=>ePEn (nth exLog i)))) Tryz.func53 (by kernel_rfl) (by kernel_rfl) ?_
 dsimp only
 refine ⟨read127 S _ _ _ _,mend128 S _ _ _,read127 S _ _ _ _,rfl,.of ⟨rfl,fun i hi=>?_⟩,.of ⟨rfl,fun i hi=>?_⟩⟩
 ·match i,hi with|0,_=>rfl|1,_=>rfl|2,_=>rfl
 ·match i,hi with|0,_=>rfl|1,_=>rfl|2,_=>rfl
def mP (D:DS):T:=.mapc false 2 false D fun k=>vsC [.bool (D k)]
def pgN (now:List Int):Env:=(2,FAR,live)::(FAR+3,1,L ePLn exLn)::(FAR+3,3,.arr (FAR+1) 3)::(2,FAR+1,.arrc false 1 3 fun i=>eI (nth now i))::[]
def pgC (now ch:List Int) (D:DS):Env:=(2,FAR,live)::(FAR+3,0,I 4)::(FAR+3,3,.arr (FAR+1) 3)::(FAR+3,5,.mp (FAR+3))::(FAR+3,6,.arr (FAR+4) 3)::
 (2,FAR+1,.arrc false 1 3 fun i=>eI (nth now i))::(2,FAR+3,mP D)::(2,FAR+4,.arrc false 1 3 fun i=>eI (nth ch i))::[]
def delTo (line:Int) (D:DS):Nat->DS
 |0=>D
 |k+1=>delD (delTo line D k) [line,(k:Int)]
theorem nth_setI (l:List Int) (i:Nat) (x:Int) (j:Nat):nth (l.set i x) j=if i=j/\i<l.length then x else nth l j:=by
 unfold nth
 rw [List.getD_eq_getElem?_getD,List.getD_eq_getElem?_getD,List.getElem?_set]
 by_cases h:i=j
 ·subst h
  by_cases h2:i<l.length
  ·rw [if_pos rfl,if_pos h2,if_pos ⟨rfl,h2⟩];rfl
  ·rw [if_pos rfl,if_neg h2,if_neg (fun hh=>h2 hh.2),List.getElem?_eq_none (by omega)]
 ·rw [if_neg h,if_neg (fun hh=>h hh.1)]
def setL (l:List Int) (i:Nat) (x:Int):List Int:=l.set i x
theorem differs311 {Gl} (S:SP Gl) (now:List Int) (k:Nat) (hk:k<3):Does Tryz.prog Y Gl yd0 311 [.addr FAR 0,I k] (pgN now) (.ret (B (nth now k != (nth exLn k).right))) []:=by
 refine fn_is2 S (.nil) Tryz.func311 (by kernel_rfl) ((0<=(k:Int)/\(k:Int)<(↑(3:Nat):Int))/\k<(3:Nat)/\(0<=(k:Int)/\(k:Int)<(exLn.length:Int))/\(nth now k != (nth exLn k).2)=(nth now k != (nth exLn k).2)/\(sR ePLn exLn)/\(3:Nat)=(3:Nat)/\SEq (3:Nat) (fun i=>eI (nth now i)) (3:Nat) fun i=>eI (nth now i)) (by kernel_rfl) ?_
 exact ⟨by omega,hk,by rw [show exLn.length=3 from rfl];omega,rfl,.of ⟨rfl,fun _ _=>rfl⟩,rfl,.of ⟨rfl,fun _ _=>rfl⟩⟩
theorem change312 {Gl} (S:SP Gl) (now ch:List Int) (D:DS) (k:Nat) (entry number:Int) (hk:k<3) (h1:now.length=3) (h2:ch.length=3):Does Tryz.prog Y Gl yd0 312 [.addr FAR 0,I entry,I k,I number] (pgC now ch D) (.ret (.tup [])) ((2,FAR+1,.arrc false 1 3 fun i=>eI (nth (setL now k number) i))::(2,FAR+3,mP (delTo k D 4))::(2,FAR+4,.arrc false 1 3 fun i=>eI (nth (setL ch k entry) i))::[]):=by
 refine fn_iw S (let A0:=(SEq (3:Nat) (fun i=>eI (nth now i)) (3:Nat) fun i=>eI (nth now i));((.loop (4:Nat) (fun p=>v 14 (I p)::v 13 (I 4)::v 0 (T.addr FAR (0:Nat))::v 1 (I entry)::v 2 (I k)::v 3 (I number)::pgC now ch (delTo (k:Int) D p)) fun k0=>.br .nil .nil),((0=(↑(0:Nat):Int)/\(4:Int)=4/\entry=entry/\(k:Int)=(k:Int)/\number=number/\(4:Int)=4/\(3:Nat)=(3:Nat)/\(3:Nat)=(3:Nat)/\A0/\(MEq D (fun k=>vsC [Value.bool (D k)]) (delTo (k:Int) D (0:Nat)) fun k_1=>vsC [Value.bool (delTo (k:Int) D (0:Nat) k_1)])/\SEq (3:Nat) (fun i=>eI (nth ch i)) (3:Nat) fun i=>eI (nth ch i))/\∀ (k0:Nat),k0<=(4:Nat)->(decide ((k0:Int)<4)=true->iR ((k0:Int)+1)/\k0<(4:Nat)/\(k0:Int)+1=(↑(k0+1):Int)/\(4:Int)=4/\entry=entry/\(k:Int)=(k:Int)/\number=number/\(4:Int)=4/\(3:Nat)=(3:Nat)/\(3:Nat)=(3:Nat)/\A0/\(MEq (delD (delTo (k:Int) D k0) [(k:Int),(k0:Int)]) (fun k_1=>vsC [Value.bool (delTo (k:Int) D k0 k_1)]) (delTo (k:Int) D (k0+1)) fun k_1=>vsC [Value.bool (delTo (k:Int) D (k0+1) k_1)])/\SEq (3:Nat) (fun i=>eI (nth ch i)) (3:Nat) fun i=>eI (nth ch i))/\(decide ((k0:Int)<4)=false->(0<=(k:Int)/\(k:Int)<(↑(3:Nat):Int))/\k<(3:Nat)/\(0<=(k:Int)/\(k:Int)<(↑(3:Nat):Int))/\k<(3:Nat)/\True/\(SEq (3:Nat) (updF (fun i=>eI (nth now i)) k (List.map C.dem [C.v (Value.int IntKind.i64 number)])) (3:Nat) fun i=>eI (nth (setL now k number) i))/\(MEq (delTo (k:Int) D k0) (fun k_1=>vsC [Value.bool (delTo (k:Int) D k0 k_1)]) (delTo (k:Int) D (4:Nat)) fun k_1=>vsC [Value.bool (delTo (k:Int) D (4:Nat) k_1)])/\(SEq (3:Nat) (updF (fun i=>eI (nth ch i)) k (List.map C.dem [C.v (Value.int IntKind.i64 entry)])) (3:Nat) fun i=>eI (nth (setL ch k entry) i))/\(4:Int)=4/\(3:Nat)=(3:Nat)/\(3:Nat)=(3:Nat))))) Tryz.func312 (by kernel_rfl) (by kernel_rfl) ?_
 dsimp only
 have hs:∀ (l:List Int) (x:Int),l.length=3->SEq 3 (updF (fun i=>eI (nth l i)) k (List.map C.dem [C.v (Value.int .i64 x)])) 3 fun i=>eI (nth (setL l k x) i):=fun l x hl=>.of ⟨rfl,fun i hi=>by
  show updF (fun i=>eI (nth l i)) k (List.map C.dem [C.v (Value.int .i64 x)]) i=eI (nth (l.set k x) i)
  rw [updF_get,nth_setI]
  by_cases h:i=k
  ·subst h;rw [if_pos rfl,if_pos ⟨rfl,by omega⟩];rfl
  ·rw [if_neg h,if_neg (fun hh=>h hh.1.symm)]⟩
 have hr:∀ l:List Int,SEq 3 (fun i=>eI (nth l i)) 3 fun i=>eI (nth l i):=fun _=>.of ⟨rfl,fun _ _=>rfl⟩
 have hm:∀ E:DS,MEq E (fun key=>vsC [Value.bool (E key)]) E fun key=>vsC [Value.bool (E key)]:=fun _ _=>⟨rfl,fun _=>.inl rfl⟩
 refine ⟨⟨rfl,rfl,rfl,rfl,rfl,rfl,rfl,rfl,hr _,hm _,hr _⟩,fun p hp=>⟨fun hd=>?_,fun hd=>?_⟩⟩
 ·have hlt:p<4:=by have:=of_decide_eq_true hd;omega
  refine ⟨(rng_iff _).2 (by omega),hlt,by omega,rfl,rfl,rfl,rfl,rfl,rfl,rfl,hr _,fun key=>⟨rfl,fun h=>.inl ?_⟩,hr _⟩
  have h2:=(delD_get _ _ _).1 h
  show vsC [Value.bool (delTo k D p key)]=vsC [Value.bool (delD (delTo k D p) [(k:Int),(p:Int)] key)]
  rw [h,h2.2]
 ·have he:p=4:=by have:=of_decide_eq_false hd;omega
  subst he
  exact ⟨by omega,hk,by omega,hk,trivial,hs _ _ h1,hm _,hs _ _ h2,rfl,rfl,rfl⟩
def pgM (now st ch:List Int) (D:DS):Env:=(2,FAR,live)::(FAR+3,0,I 4)::(FAR+3,3,.arr (FAR+1) 3)::(FAR+3,4,.arr (FAR+2) 3)::(FAR+3,5,.mp (FAR+3))::(FAR+3,6,.arr (FAR+4) 3)::
 (2,FAR+1,.arrc false 1 3 fun i=>eI (nth now i))::(2,FAR+2,.arrc false 1 3 fun i=>eI (nth st i))::(2,FAR+3,mP D)::(2,FAR+4,.arrc false 1 3 fun i=>eI (nth ch i))::[]
def ePM (p:Int×Int):List C:=[.v (.int .i64 p.1),.v (.int .i64 p.2)]
def pgR (now:List Int) (D:DS):Env:=(2,FAR,live)::(FAR+3,1,L ePLn exLn)::(FAR+3,3,.arr (FAR+1) 3)::(FAR+3,5,.mp (FAR+3))::
 (2,FAR+1,.arrc false 1 3 fun i=>eI (nth now i))::(2,FAR+3,mP D)::[]
def ms0:T:=.d (.c (.v (.slice none 0 0)))
def rdTo (a b:Int) (lo:Nat) (D:DS):Nat->DS
 |0=>D
 |p+1=>updD (updD (rdTo a b lo D p) [((lo+p:Nat):Int),a]) [((lo+p:Nat):Int),b]
def Tr (d:DS) (v:List Int->List C):Prop:=∀ k,d k=true->v k=[.v (.bool true)]
theorem tr_upd {d:DS} {v:List Int->List C} (h:Tr d v) (key:List Int):Tr (updD d key) (updV v key (List.map C.dem [C.v (Value.bool true)])):=fun k hk=>by
 rw [updV_get]
 by_cases he:k=key
 ·rw [if_pos he];rfl
 ·rw [if_neg he];exact h k (((updD_get _ _ _).1 hk).resolve_left he)
theorem tr_self (d:DS):Tr d fun k=>vsC [Value.bool (d k)]:=fun k hk=>by show vsC [Value.bool (d k)]=_;rw [hk];rfl
theorem tr_eq {d d':DS} {v:List Int->List C} (h:Tr d v) (he:d=d'):MEq d v d' fun k=>vsC [Value.bool (d' k)]:=by
 subst he
 exact fun k=>⟨rfl,fun hk=>.inl (by show v k=vsC [Value.bool (d k)];rw [h k hk,hk];rfl)⟩
def nw0:List Int:=[132,45,7]
def nw1:List Int:=[123,45,7]
def D0:DS:=fun _=>false
def D1:DS:=rdTo 1 2 0 D0 3
def D2:DS:=delTo 0 D1 4
def D3:DS:=rdTo 0 3 0 D2 2
theorem dif10 {Gl} (S:SP Gl):Does Tryz.prog Y Gl yd0 311 [.addr FAR 0,I 0] (pgN nw1) (.ret (B false)) []:=differs311 S nw1 0 (by decide)
theorem dif11 {Gl} (S:SP Gl):Does Tryz.prog Y Gl yd0 311 [.addr FAR 0,I 1] (pgN nw1) (.ret (B false)) []:=differs311 S nw1 1 (by decide)
theorem mends222 {Gl} (S:SP Gl) (now st ch:List Int) (D:DS) (k:Nat) (entry who number:Int) (hk:k<3) (h1:now.length=3) (h2:ch.length=3) (h3:st.length=3):Does Tryz.prog Y Gl yd0 222 [.addr FAR 0,I entry,L eI [who,(k:Int),number]] (pgM now st ch D) (.ret (.tup [])) ((2,FAR+1,.arrc false 1 3 fun i=>eI (nth (setL now k number) i))::(2,FAR+2,.arrc false 1 3 fun i=>eI (nth (setL st k who) i))::(2,FAR+3,mP (delTo k D 4))::(2,FAR+4,.arrc false 1 3 fun i=>eI (nth (setL ch k entry) i))::[]):=by
 refine fn_iw S (let A0:=fun (k:Nat)=>[who,(k:Int),number];let A1:=fun (k:Nat)=>((2:Nat),FAR+(1:Nat),T.arrc false (1:Nat) (3:Nat) fun i=>eI (nth (setL now k (nth (A0 k) (Int.toNat (2:Int)))) i));let A2:=fun (k:Nat)=>((2:Nat),FAR+(4:Nat),T.arrc false (1:Nat) (3:Nat) fun i=>eI (nth (setL ch k entry) i));let A3:=(Int.toNat (2:Int));let A4:=(Int.toNat (1:Int));let A5:=(↑(3:Nat):Int);let A6:=fun (k:Nat)=>(delTo (k:Int) D (4:Nat));((.w [(nat_lit 100000,nat_lit 100000),(nat_lit 100001,nat_lit 100001),(nat_lit 100003,nat_lit 100003),(nat_lit 100004,nat_lit 100004)] [T.addr FAR (0:Nat),I entry,I k,I (nth (A0 k) A3)] (pgC now ch D) (.ret (.tup [])) [(A1 k),((2:Nat),FAR+(3:Nat),mP (A6 k)),(A2 k)] .nil),(((0:Int)<=1/\1<A5)/\((0:Int)<=2/\2<A5)/\entry=entry/\nth (A0 k) A4=(k:Int)/\nth (A0 k) A3=nth (A0 k) A3/\(4:Int)=4/\(3:Nat)=(3:Nat)/\(3:Nat)=(3:Nat)/\(SEq (3:Nat) (fun i=>eI (nth now i)) (3:Nat) fun i=>eI (nth now i))/\(MEq D (fun k=>vsC [Value.bool (D k)]) D fun k=>vsC [Value.bool (D k)])/\(SEq (3:Nat) (fun i=>eI (nth ch i)) (3:Nat) fun i=>eI (nth ch i))/\Does Tryz.prog Y Gl yd0 (312:FuncId) [T.addr FAR (0:Nat),I entry,I k,I (nth (A0 k) A3)] (pgC now ch D) (.ret (.tup [])) [(A1 k),((2:Nat),FAR+(3:Nat),mP (A6 k)),(A2 k)]/\((0:Int)<=1/\1<A5)/\((0:Int)<=0/\0<A5)/\((0:Int)<=nth (A0 k) A4/\nth (A0 k) A4<A5)/\Int.toNat (nth (A0 k) A4)<(3:Nat)/\True/\(SEq (3:Nat) (fun i=>eI (nth (setL now k (nth (A0 k) A3)) i)) (3:Nat) fun i=>eI (nth (setL now k number) i))/\(SEq (3:Nat) (updF (fun i=>eI (nth st i)) (Int.toNat (nth (A0 k) A4)) (List.map C.dem [C.v (Value.int IntKind.i64 (nth (A0 k) (Int.toNat (0:Int))))])) (3:Nat) fun i=>eI (nth (setL st k who) i))/\(MEq (A6 k) (fun k_1=>vsC [Value.bool (delTo (k:Int) D (4:Nat) k_1)]) (A6 k) fun k_1=>vsC [Value.bool (delTo (k:Int) D (4:Nat) k_1)])/\(SEq (3:Nat) (fun i=>eI (nth (setL ch k entry) i)) (3:Nat) fun i=>eI (nth (setL ch k entry) i))/\(4:Int)=4/\(3:Nat)=(3:Nat)/\(3:Nat)=(3:Nat)/\(3:Nat)=(3:Nat)))) Tryz.func222 (by kernel_rfl) (by kernel_rfl) ?_
 dsimp only
 have hs:∀ (l:List Int) (x:Int),l.length=3->SEq 3 (updF (fun i=>eI (nth l i)) k (List.map C.dem [C.v (Value.int .i64 x)])) 3 fun i=>eI (nth (setL l k x) i):=fun l x hl=>.of ⟨rfl,fun i hi=>by
  show updF (fun i=>eI (nth l i)) k (List.map C.dem [C.v (Value.int .i64 x)]) i=eI (nth (l.set k x) i)
  rw [updF_get,nth_setI]
  by_cases h:i=k
  ·subst h;rw [if_pos rfl,if_pos ⟨rfl,by omega⟩];rfl
  ·rw [if_neg h,if_neg (fun hh=>h hh.1.symm)]⟩
 have hr:∀ l:List Int,SEq 3 (fun i=>eI (nth l i)) 3 fun i=>eI (nth l i):=fun _=>.of ⟨rfl,fun _ _=>rfl⟩
 have hm:∀ E:DS,MEq E (fun key=>vsC [Value.bool (E key)]) E fun key=>vsC [Value.bool (E key)]:=fun _ _=>⟨rfl,fun _=>.inl rfl⟩
 have hk1:nth [who,(k:Int),number] (Int.toNat 1)=(k:Int):=rfl
 have hk2:nth [who,(k:Int),number] (Int.toNat 2)=number:=rfl
 have hk0:nth [who,(k:Int),number] (Int.toNat 0)=who:=rfl
 rw [hk1,hk2,hk0,Int.toNat_natCast]
 exact ⟨by omega,by omega,rfl,rfl,rfl,rfl,rfl,rfl,hr _,hm _,hr _,change312 S now ch D k entry number hk h1 h2,by omega,by omega,by omega,hk,trivial,hr _,hs _ _ h3,hm _,hr _,rfl,rfl,rfl,rfl⟩
def msTo:Nat->List (Int×Int)
 |0=>[]
 |p+1=>bif nth nw0 p != (nth exLn p).right then msTo p++[(0,(p:Int))] else msTo p
theorem reads0 {Gl} (S:SP Gl)  :Does Tryz.prog Y Gl yd0 221 [.addr FAR 0,I 0,L eI [1,2,0,2]] ((FAR+3,7,ms0)::pgR nw0 D0) (.ret (.tup [])) ((2,FAR+3,mP D1)::(FAR+3,7,L ePM [(0,0),(0,2)])::[]):=by
 refine fn_iw S (let A0:=(SEq (3:Nat) (fun i=>eI (nth nw0 i)) (3:Nat) fun i=>eI (nth nw0 i));let A1:=(List.length [(1:Int),(2:Int),(0:Int),(2:Int)]);let A2:=(List.map C.dem [C.v (Value.bool true)]);let A3:=(Int.toNat (0:Int));let A4:=(Int.toNat (1:Int));((.loop (3:Nat) (fun p=>v 6 (I p)::v 0 (T.addr FAR (0:Nat))::v 1 (I 0)::v 2 (L eI [(1:Int),(2:Int),(0:Int),(2:Int)])::(FAR+(3:Nat),(7:Nat),T.d (D.c (C.s (Tag.t (900:Nat)) (List.length (msTo p)) fun i=>ePM (nth (msTo p) i))))::tk 900 444::pgR nw0 (rdTo (1:Int) (2:Int) (0:Nat) D0 p)) fun k0=>.br (.w [(nat_lit 100000,nat_lit 100000),(nat_lit 100001,nat_lit 100001)] [T.addr FAR (0:Nat),I k0] (pgN nw0) (.ret (B (nth nw0 k0 != PLn.right (nth exLn k0)))) [] (.br .nil .nil)) .nil),(((0:Int)<=2/\2<(↑(4:Nat):Int))/\(nth [(1:Int),(2:Int),(0:Int),(2:Int)] (Int.toNat (2:Int))=(↑(0:Nat):Int)/\(0:Int)=0/\(SEq (4:Nat) (fun i=>eI (nth [(1:Int),(2:Int),(0:Int),(2:Int)] i)) A1 fun i=>eI (nth [(1:Int),(2:Int),(0:Int),(2:Int)] i))/\(0:Nat)=(0:Nat)/\(sR ePLn exLn)/\(3:Nat)=(3:Nat)/\A0/\MEq D0 (fun k=>vsC [Value.bool (D0 k)]) (rdTo (1:Int) (2:Int) (0:Nat) D0 (0:Nat)) fun k=>vsC [Value.bool (rdTo (1:Int) (2:Int) (0:Nat) D0 (0:Nat) k)])/\∀ (k0:Nat),k0<=(3:Nat)->((0:Int)<=3/\3<(↑A1:Int))/\(decide ((k0:Int)<=nth [(1:Int),(2:Int),(0:Int),(2:Int)] (Int.toNat (3:Int)))=true->((0:Int)<=0/\0<(↑A1:Int))/\((0:Int)<=1/\1<(↑A1:Int))/\(k0:Int)=(k0:Int)/\(sR ePLn exLn)/\(3:Nat)=(3:Nat)/\A0/\Does Tryz.prog Y Gl yd0 (311:FuncId) [T.addr FAR (0:Nat),I k0] (pgN nw0) (.ret (B (nth nw0 k0 != PLn.right (nth exLn k0)))) []/\((nth nw0 k0 != (nth exLn k0).2)=true->(List.length (msTo k0)+1)*16<=140737488355328/\List.length (msTo k0)+1<=140737488355328/\iR ((k0:Int)+1)/\k0<(3:Nat)/\(k0:Int)+1=(↑(k0+1):Int)/\(0:Int)=0/\(sR eI [(1:Int),(2:Int),(0:Int),(2:Int)])/\(SEq (List.length (msTo k0)+1) (catF (List.length (msTo k0)) (fun i=>ePM (nth (msTo k0) i)) fun i=>List.getD [List.map C.dem (List.map C.dem [C.v (Value.int IntKind.i64 (0:Int)),C.v (Value.int IntKind.i64 (k0:Int))])] i []) (List.length (msTo (k0+1))) fun i=>ePM (nth (msTo (k0+1)) i))/\(sR ePLn exLn)/\(3:Nat)=(3:Nat)/\A0/\MEq (updD (updD (rdTo (1:Int) (2:Int) (0:Nat) D0 k0) [(k0:Int),nth [(1:Int),(2:Int),(0:Int),(2:Int)] A3]) [(k0:Int),nth [(1:Int),(2:Int),(0:Int),(2:Int)] A4]) (updV (updV (fun k=>vsC [Value.bool (rdTo (1:Int) (2:Int) (0:Nat) D0 k0 k)]) [(k0:Int),nth [(1:Int),(2:Int),(0:Int),(2:Int)] A3] A2) [(k0:Int),nth [(1:Int),(2:Int),(0:Int),(2:Int)] A4] A2) (rdTo (1:Int) (2:Int) (0:Nat) D0 (k0+1)) fun k=>vsC [Value.bool (rdTo (1:Int) (2:Int) (0:Nat) D0 (k0+1) k)])/\((nth nw0 k0 != (nth exLn k0).2)=false->iR ((k0:Int)+1)/\k0<(3:Nat)/\(k0:Int)+1=(↑(k0+1):Int)/\(0:Int)=0/\(sR eI [(1:Int),(2:Int),(0:Int),(2:Int)])/\(sQ ePM (msTo k0) (msTo (k0+1)))/\(sR ePLn exLn)/\(3:Nat)=(3:Nat)/\A0/\MEq (updD (updD (rdTo (1:Int) (2:Int) (0:Nat) D0 k0) [(k0:Int),nth [(1:Int),(2:Int),(0:Int),(2:Int)] A3]) [(k0:Int),nth [(1:Int),(2:Int),(0:Int),(2:Int)] A4]) (updV (updV (fun k=>vsC [Value.bool (rdTo (1:Int) (2:Int) (0:Nat) D0 k0 k)]) [(k0:Int),nth [(1:Int),(2:Int),(0:Int),(2:Int)] A3] A2) [(k0:Int),nth [(1:Int),(2:Int),(0:Int),(2:Int)] A4] A2) (rdTo (1:Int) (2:Int) (0:Nat) D0 (k0+1)) fun k=>vsC [Value.bool (rdTo (1:Int) (2:Int) (0:Nat) D0 (k0+1) k)]))/\(decide ((k0:Int)<=nth [(1:Int),(2:Int),(0:Int),(2:Int)] (Int.toNat (3:Int)))=false->True/\(MEq (rdTo (1:Int) (2:Int) (0:Nat) D0 k0) (fun k=>vsC [Value.bool (rdTo (1:Int) (2:Int) (0:Nat) D0 k0 k)]) D1 fun k=>vsC [Value.bool (D1 k)])/\(sQ ePM (msTo k0) [((0:Int),(0:Int)),((0:Int),(2:Int))])/\(sR ePLn exLn)/\(3:Nat)=(3:Nat)/\SEq (3:Nat) (fun i=>eI (nth nw0 i)) (3:Nat) fun i=>eI (nth nw0 i))))) Tryz.func221 (by kernel_rfl) (by kernel_rfl) ?_
 dsimp only
 have hl:∀ k:Nat,nth [(1:Int),2,0,2] (Int.toNat (2:Int))=0/\nth [(1:Int),2,0,2] (Int.toNat (3:Int))=2/\nth [(1:Int),2,0,2] (Int.toNat (0:Int))=1/\nth [(1:Int),2,0,2] (Int.toNat (1:Int))=2:=fun _=>⟨rfl,rfl,rfl,rfl⟩
 obtain ⟨e2,e3,e0,e1⟩:=hl 0
 have hr:∀ (n:Nat) (f:Nat->List C),SEq n f n f:=fun _ _=>.of ⟨rfl,fun _ _=>rfl⟩
 have hstep:∀ k:Nat,MEq (updD (updD (rdTo 1 2 0 D0 k) [(k:Int),1]) [(k:Int),2]) (updV (updV (fun k_1=>vsC [Value.bool (rdTo 1 2 0 D0 k k_1)]) [(k:Int),1] (List.map C.dem [C.v (Value.bool true)])) [(k:Int),2] (List.map C.dem [C.v (Value.bool true)])) (rdTo 1 2 0 D0 (k+1)) fun k_1=>vsC [Value.bool (rdTo 1 2 0 D0 (k+1) k_1)]:=
  fun k=>tr_eq (tr_upd (tr_upd (tr_self _) _) _) (by show _=updD (updD (rdTo 1 2 0 D0 k) [((0+k:Nat):Int),1]) [((0+k:Nat):Int),2];rw [Nat.zero_add])
 have hlen:∀ k:Nat,(msTo k).length<=k:=fun k=>by
  induction k with
  |zero=>exact Nat.le_refl _
  |succ k ih=>
   show (bif nth nw0 k != (nth exLn k).right then msTo k++[(0,(k:Int))] else msTo k).length<=_
   cases nth nw0 k != (nth exLn k).right with
   |true=>simp only [cond_true,List.length_append,List.length_singleton];omega
   |false=>simp only [cond_false];omega
 simp only [e2,e3,e0,e1]
 refine ⟨by omega,⟨by trivial,by trivial,hr _ _,by trivial,hr _ _,by trivial,hr _ _,tr_eq (tr_self _) rfl⟩,fun k hk=>⟨⟨by omega,by show (3:Int)<4;omega⟩,fun hd=>?_,fun hd=>?_⟩⟩
 ·have hlt:k<3:=by have:=of_decide_eq_true hd;omega
  have h5:=hlen k
  refine ⟨⟨by omega,by show (0:Int)<4;omega⟩,⟨by omega,by show (1:Int)<4;omega⟩,by trivial,hr _ _,by trivial,hr _ _,differs311 S nw0 k hlt,fun h=>?_,fun h=>?_⟩
  ·refine ⟨by omega,by omega,(rng_iff _).2 (by omega),hlt,by omega,by trivial,hr _ _,?_,hr _ _,by trivial,hr _ _,hstep k⟩
   exact SEq_push1 (f:=ePM) (x:=((0:Int),(k:Int))) (by show (bif nth nw0 k != (nth exLn k).2 then _ else _)=_;rw [h];rfl) rfl
  ·refine ⟨(rng_iff _).2 (by omega),hlt,by omega,by trivial,hr _ _,?_,hr _ _,by trivial,hr _ _,hstep k⟩
   exact SEq_whole (by show (bif nth nw0 k != (nth exLn k).2 then _ else _)=_;rw [h];rfl)
 ·have he:k=3:=by have:=of_decide_eq_false hd;omega
  subst he
  exact ⟨trivial,tr_eq (tr_self _) rfl,SEq_whole (by decide),hr _ _,by trivial,hr _ _⟩
theorem reads2 {Gl} (S:SP Gl)  :Does Tryz.prog Y Gl yd0 221 [.addr FAR 0,I 2,L eI [0,3,0,1]] (pgR nw1 D2) (.ret (.tup [])) ((2,FAR+3,mP D3)::[]):=by
 refine fn_iw S (let A0:=(Int.toNat (2:Int));let A1:=(List.map C.dem [C.v (Value.bool true)]);let A2:=[nth [(0:Int),(3:Int),(0:Int),(1:Int)] A0+(1:Int),nth [(0:Int),(3:Int),(0:Int),(1:Int)] (Int.toNat (0:Int))];let A3:=[nth [(0:Int),(3:Int),(0:Int),(1:Int)] A0+(1:Int),nth [(0:Int),(3:Int),(0:Int),(1:Int)] (Int.toNat (1:Int))];let A4:=[nth [(0:Int),(3:Int),(0:Int),(1:Int)] A0,nth [(0:Int),(3:Int),(0:Int),(1:Int)] (Int.toNat (0:Int))];let A5:=[nth [(0:Int),(3:Int),(0:Int),(1:Int)] A0,nth [(0:Int),(3:Int),(0:Int),(1:Int)] (Int.toNat (1:Int))];let A6:=(↑(4:Nat):Int);let A7:=(SEq (3:Nat) (fun i=>eI (nth nw1 i)) (3:Nat) fun i=>eI (nth nw1 i));((.un (4:Nat) (.tt (.w [(nat_lit 100000,nat_lit 100000),(nat_lit 100001,nat_lit 100001)] [T.addr FAR (0:Nat),I 0] (pgN nw1) (.ret (B false)) [] (.ff (.tt (.w [(nat_lit 100000,nat_lit 100000),(nat_lit 100001,nat_lit 100001)] [T.addr FAR (0:Nat),I 1] (pgN nw1) (.ret (B false)) [] (.ff (.ff .nil)))))))),(((0:Int)<=2/\2<A6)/\((0:Int)<=3/\3<A6)/\true=true/\((0:Int)<=0/\0<A6)/\((0:Int)<=1/\1<A6)/\nth [(0:Int),(3:Int),(0:Int),(1:Int)] A0=(0:Int)/\(sR ePLn exLn)/\(3:Nat)=(3:Nat)/\A7/\Does Tryz.prog Y Gl yd0 (311:FuncId) [T.addr FAR (0:Nat),I 0] (pgN nw1) (.ret (B false)) []/\false=false/\iR (nth [(0:Int),(3:Int),(0:Int),(1:Int)] A0+(1:Int))/\((0:Int)<=3/\3<A6)/\true=true/\((0:Int)<=0/\0<A6)/\((0:Int)<=1/\1<A6)/\nth [(0:Int),(3:Int),(0:Int),(1:Int)] A0+(1:Int)=1/\(sR ePLn exLn)/\(3:Nat)=(3:Nat)/\A7/\Does Tryz.prog Y Gl yd0 (311:FuncId) [T.addr FAR (0:Nat),I 1] (pgN nw1) (.ret (B false)) []/\false=false/\iR (nth [(0:Int),(3:Int),(0:Int),(1:Int)] A0+(1:Int)+1)/\((0:Int)<=3/\3<A6)/\false=false/\True/\(MEq (updD (updD (updD (updD D2 A4) A5) A2) A3) (updV (updV (updV (updV (fun k=>vsC [Value.bool (D2 k)]) A4 A1) A5 A1) A2 A1) A3 A1) D3 fun k=>vsC [Value.bool (D3 k)])/\(sR ePLn exLn)/\(3:Nat)=(3:Nat)/\SEq (3:Nat) (fun i=>eI (nth nw1 i)) (3:Nat) fun i=>eI (nth nw1 i)))) Tryz.func221 (by kernel_rfl) (by kernel_rfl) ?_
 dsimp only
 have hr:∀ (n:Nat) (f:Nat->List C),SEq n f n f:=fun _ _=>.of ⟨rfl,fun _ _=>rfl⟩
 refine ⟨by omega,by omega,rfl,by omega,by omega,rfl,hr _ _,rfl,hr _ _,dif10 S,rfl,(rng_iff _).2 (by decide),by omega,rfl,by omega,by omega,rfl,hr _ _,rfl,hr _ _,dif11 S,rfl,(rng_iff _).2 (by decide),by omega,rfl,trivial,?_,hr _ _,rfl,hr _ _⟩
 exact tr_eq (tr_upd (tr_upd (tr_upd (tr_upd (tr_self _) _) _) _) _) rfl
noncomputable def pgeC:List Code×Code:=match Tryz.f125.body with|some c=>cutSeq 3 c|none=>([],.skip)
theorem pgeCB:Tryz.f125.body=some (seqs pgeC.1 pgeC.2):=by kernel_rfl
def st0:List Int:=[0,1,0]
def ch0:List Int:=[-1,-1,-1]
def st1:List Int:=[2,1,0]
def ch1:List Int:=[1,-1,-1]
def Ltn (k:Nat) (l:List Int):T:=.d (.c (.s (.t k) 3 fun i=>eI (nth l i)))
def pgE0:Env:=v 3 (ad 12)::v 1 (ad 1)::(15,3,Ltn 900 nw0)::(15,4,Ltn 901 st0)::(15,6,Ltn 902 ch0)::tk 900 3::tk 901 3::tk 902 3::(2,12,live)::(15,0,I 4)::(15,1,L ePLn exLn)::(15,2,L ePEn exLog)::(15,5,.mp 10)::(15,7,ms0)::(2,10,mP D0)::bx 1 cPg
def pgE1:Env:=cvE 15 6 902 3 912 (fun i=>eI (nth ch0 i)) (cvE 15 4 901 3 911 (fun i=>eI (nth st0 i)) (cvE 15 3 900 3 910 (fun i=>eI (nth nw0 i)) pgE0))
def pgX (id n s m c:Nat) (now st ch:List Int) (D:DS) (ms:T):Env:=(2,id,live)::(id+3,0,I 4)::(id+3,1,L ePLn exLn)::(id+3,2,L ePEn exLog)::(id+3,3,.arr n 3)::(id+3,4,.arr s 3)::(id+3,5,.mp m)::(id+3,6,.arr c 3)::(id+3,7,ms)::
 (2,n,.arrc false 1 3 fun i=>eI (nth now i))::(2,s,.arrc false 1 3 fun i=>eI (nth st i))::(2,m,mP D)::(2,c,.arrc false 1 3 fun i=>eI (nth ch i))::[]
def ms1:T:=L ePM [(0,0),(0,2)]
def pgJ (id n s m c:Nat):Nat->Env
 |0=>pgX id n s m c nw0 st0 ch0 D0 ms0
 |1=>pgX id n s m c nw0 st0 ch0 D1 ms1
 |2=>pgX id n s m c nw1 st1 ch1 D2 ms1
 |_=>pgX id n s m c nw1 st1 ch1 D3 ms1
def allP (P:Nat×Nat×T->Prop):Env->Prop
 | []=>True
 |p::r=>P p/\allP P r
theorem allP_get {P:Nat×Nat×T->Prop}:∀ {e:Env},allP P e->∀ {t k:Nat},e.get t k=.any∨P (t,k,e.get t k)
 | [],_,_,_=>.inl rfl
 |(a,b,y)::e,h,t,k=>by
  rw [get_cons]
  split
  ·rename_i hh;obtain ⟨rfl,rfl⟩:=hh;exact .inr h.1
  ·exact allP_get h.2
def SepP (tk:Nat) (f:Nat->List C) (p:Nat×Nat×T):Prop:=(p.1≠1->tk ∉ toksOf p.2.2->SepT 3 f p.2.2)/\(p.1<FAR+3∨tk ∉ toksOf p.2.2)
theorem sepI {f:Nat->List C} {x:Int}:∀ c∈eI x,SepC 3 f c:=fun c hc=>by
 obtain rfl:=List.mem_singleton.1 hc
 exact SepC.v _
theorem sepLn {f:Nat->List C}:SepC 3 f (.l ePLn exLn):=SepC.s _ 3 _ (.inl (by decide)) fun i _ c hc=>by
 rcases List.mem_cons.1 hc with rfl|hc
 ·exact SepC.v _
 ·rcases List.mem_cons.1 hc with rfl|hc
  ·exact SepC.v _
  ·obtain rfl:=List.mem_singleton.1 hc
   exact SepC.v _
theorem sepEn {f:Nat->List C} (h:∃ y,f 0=[Ci y]/\(2:Int)≠y):SepC 3 f (.l ePEn exLog):=SepC.s _ 3 _ (.inl (by decide)) fun i hi c hc=>by
 obtain ⟨y,h1,h2⟩:=h
 rcases List.mem_cons.1 hc with rfl|hc
 ·exact SepC.v _
 ·obtain rfl:=List.mem_singleton.1 hc
  match i,hi with
  |0,_=>exact SepC.s _ 4 _ (.inl (by show 3<4*1;decide)) fun _ _=>sepI
  |1,_=>exact SepC.s _ 3 _ (.inr ⟨rfl,rfl,0,2,y,by decide,rfl,h1,h2⟩) fun _ _=>sepI
  |2,_=>exact SepC.s _ 4 _ (.inl (by show 3<4*1;decide)) fun _ _=>sepI
theorem sepN {f:Nat->List C} {k:Nat} {l:List Int} (h:∃ x y,nth l 0=x/\f 0=[Ci y]/\x≠y):SepC 3 f (.s (.t k) 3 fun i=>eI (nth l i)):=by
 obtain ⟨x,y,h1,h2,h3⟩:=h
 exact SepC.s _ 3 _ (.inr ⟨rfl,rfl,0,x,y,by decide,by rw [h1];rfl,h2,h3⟩) fun _ _=>sepI
theorem untok3 {X:Cx} {nt:Nat} {ds:List Deferred} {e:Env} {a:Act} {w:World} {G:Gh} (R:Rel Y X nt ds e a w G) (hJ:∀ p H vi vi' w,X.J p H vi w->X.J p H vi' w) (t0 k0 tk d:Nat) (l:List Int)
  (he:e.get t0 k0=Ltn tk l) (h0:3<=t0) (htk:e.get 1 tk=liveT 3) (hf:tk<FAR) (hd:e.get 2 d=.any) (hdf:d<FAR) (hs:allP (SepP tk fun i=>eI (nth l i)) e):
  ∃ G',Rel Y X nt ds (cvE t0 k0 tk 3 d (fun i=>eI (nth l i)) e) a w G':=
 Rel.untok R hJ he (.inr h0) htk rfl (by decide) (fun i _=>⟨_,rfl⟩) hf hd hdf (fun id k hid hm=>by
  rcases allP_get hs (t:=id+3) (k:=k) with h|h
  ·rw [h] at hm;cases hm
  ·rcases h.2 with h|h
   ·have:id+3<FAR+3:=h
    omega
   ·exact h hm) fun t k ht hm=>by
  rcases allP_get hs (t:=t) (k:=k) with h|h
  ·rw [h];exact trivial
  ·exact h.1 ht hm
theorem sp {tk:Nat} {f:Nat->List C} {p:Nat×Nat×T} (h:SepT 3 f p.2.2) (ht:p.1<FAR+3):SepP tk f p:=⟨fun _ _=>h,.inl ht⟩
theorem sx {tk:Nat} {f:Nat->List C} {p:Nat×Nat×T} (h:memN tk (toksOf p.2.2)=true) (ht:p.1<FAR+3):SepP tk f p:=⟨fun _ hh=>(hh (memN_iff.1 h)).elim,.inl ht⟩
theorem sepA:allP (SepP 900 fun i=>eI (nth nw0 i)) pgE0:=
 ⟨sp trivial (by decide),sp trivial (by decide),sx (by decide) (by decide),sp (sepN ⟨0,132,rfl,rfl,by decide⟩) (by decide),sp (sepN ⟨-1,132,rfl,rfl,by decide⟩) (by decide),sp trivial (by decide),sp trivial (by decide),sp trivial (by decide),sp rfl (by decide),sp (SepC.v _) (by decide),sp sepLn (by decide),sp (sepEn ⟨132,rfl,by decide⟩) (by decide),sp trivial (by decide),sp (SepC.v _) (by decide),sp (fun _ h=>(by cases h)) (by decide),sp rfl (by decide),sp (SepC.v _) (by decide),sp sepLn (by decide),sp (sepEn ⟨132,rfl,by decide⟩) (by decide),True.intro⟩
theorem sepB:allP (SepP 901 fun i=>eI (nth st0 i)) (cvE 15 3 900 3 910 (fun i=>eI (nth nw0 i)) pgE0):=
 ⟨sp trivial (by decide),sp (fun _ _=>sepI) (by decide),sp (fun _ h=>(by cases h)) (by decide),sp trivial (by decide),sp trivial (by decide),sp trivial (by decide),sx (by decide) (by decide),sp (sepN ⟨-1,0,rfl,rfl,by decide⟩) (by decide),sp trivial (by decide),sp trivial (by decide),sp trivial (by decide),sp rfl (by decide),sp (SepC.v _) (by decide),sp sepLn (by decide),sp (sepEn ⟨0,rfl,by decide⟩) (by decide),sp trivial (by decide),sp (SepC.v _) (by decide),sp (fun _ h=>(by cases h)) (by decide),sp rfl (by decide),sp (SepC.v _) (by decide),sp sepLn (by decide),sp (sepEn ⟨0,rfl,by decide⟩) (by decide),True.intro⟩
theorem sepD:allP (SepP 902 fun i=>eI (nth ch0 i)) (cvE 15 4 901 3 911 (fun i=>eI (nth st0 i)) (cvE 15 3 900 3 910 (fun i=>eI (nth nw0 i)) pgE0)):=
 ⟨sp trivial (by decide),sp (fun _ _=>sepI) (by decide),sp (fun _ h=>(by cases h)) (by decide),sp trivial (by decide),sp (fun _ _=>sepI) (by decide),sp (fun _ h=>(by cases h)) (by decide),sp trivial (by decide),sp trivial (by decide),sp trivial (by decide),sp trivial (by decide),sx (by decide) (by decide),sp trivial (by decide),sp trivial (by decide),sp trivial (by decide),sp rfl (by decide),sp (SepC.v _) (by decide),sp sepLn (by decide),sp (sepEn ⟨-1,rfl,by decide⟩) (by decide),sp trivial (by decide),sp (SepC.v _) (by decide),sp (fun _ h=>(by cases h)) (by decide),sp rfl (by decide),sp (SepC.v _) (by decide),sp sepLn (by decide),sp (sepEn ⟨-1,rfl,by decide⟩) (by decide),True.intro⟩
theorem pgeR {Gl} (S:SP Gl)  {X:Cx} {vis:Nat->Nat} {w0:World} {a:Act} {w:World} {G:Gh} (Tl:Tail Tryz.prog Gl Y X Tryz.f125 pgE0 vis w0 a w G):pgeC.2.wpIn (Fr none) 0 Tryz.prog (bodyPostM (Fr none) 0 Tryz.prog Tryz.f125 fun en w'=>Below w0.heap.size w0 w'/\Answers vis w0 en w' (.new (.addr 12 0) (pgJ 12 910 911 10 912 3))) a w:=by
 refine Tail.new S (E':=pgE1) (e0:=v 2 (ad 12)::pgJ 12 910 911 10 912 3) Tl (by
  obtain ⟨G1,R1⟩:=untok3 Tl.rel Tl.jj 15 3 900 910 nw0 rfl (by decide) rfl (by decide) rfl (by decide) sepA
  obtain ⟨G2,R2⟩:=untok3 R1 Tl.jj 15 4 901 911 st0 rfl (by decide) rfl (by decide) rfl (by decide) sepB
  exact untok3 R2 Tl.jj 15 6 902 912 ch0 rfl (by decide) rfl (by decide) rfl (by decide) sepD) rfl rfl rfl (
  Orc.un (4:Nat)
   (Orc.cut
    (v (56:Nat) (I (↑(0:Nat):Int))::
     v (55:Nat) (I (↑(List.length exLog):Int))::
      v (54:Nat) (L ePEn exLog)::
       v (6:Nat) (ad (6:Nat))::
        ((2:Nat),(6:Nat),live)::
         ((9:Nat),(0:Nat),T.fn (221:FuncId) [] [])::
          ((9:Nat),(1:Nat),T.fn (222:FuncId) [] [])::
           ((9:Nat),(2:Nat),T.fn (223:FuncId) [] [])::
            v (3:Nat) (ad (12:Nat))::pgJ (12:Nat) (910:Nat) (911:Nat) (10:Nat) (912:Nat) (0:Nat))
    (Orc.tt
     (Orc.w [(nat_lit 100000,nat_lit 12),(nat_lit 100001,nat_lit 910),(nat_lit 100003,nat_lit 10)]
      [T.addr FAR (0:Nat),I (0:Int),L eI [(1:Int),(2:Int),(0:Int),(2:Int)]] ((FAR+(3:Nat),(7:Nat),ms0)::pgR nw0 D0)
      (Res.ret (T.tup [])) [((2:Nat),FAR+(3:Nat),mP D1),(FAR+(3:Nat),(7:Nat),L ePM [((0:Int),(0:Int)),((0:Int),(2:Int))])]
      (Orc.cut
       (v (56:Nat) (I (↑(1:Nat):Int))::
        v (55:Nat) (I (↑(List.length exLog):Int))::
         v (54:Nat) (L ePEn exLog)::
          v (6:Nat) (ad (6:Nat))::
           ((2:Nat),(6:Nat),live)::
            ((9:Nat),(0:Nat),T.fn (221:FuncId) [] [])::
             ((9:Nat),(1:Nat),T.fn (222:FuncId) [] [])::
              ((9:Nat),(2:Nat),T.fn (223:FuncId) [] [])::
               v (3:Nat) (ad (12:Nat))::pgJ (12:Nat) (910:Nat) (911:Nat) (10:Nat) (912:Nat) (1:Nat))
       (Orc.tt
        (Orc.w
         [(nat_lit 100000,nat_lit 12),(nat_lit 100001,nat_lit 910),(nat_lit 100002,nat_lit 911),(nat_lit 100003,nat_lit 10),
          (nat_lit 100004,nat_lit 912)]
         [T.addr FAR (0:Nat),I (1:Int),L eI [(2:Int),(↑(0:Nat):Int),(123:Int)]] (pgM nw0 st0 ch0 D1) (Res.ret (T.tup []))
         [((2:Nat),FAR+(1:Nat),T.arrc false (1:Nat) (3:Nat) fun i=>eI (nth (setL nw0 (0:Nat) (123:Int)) i)),
          ((2:Nat),FAR+(2:Nat),T.arrc false (1:Nat) (3:Nat) fun i=>eI (nth (setL st0 (0:Nat) (2:Int)) i)),
          ((2:Nat),FAR+(3:Nat),mP (delTo (↑(0:Nat):Int) D1 (4:Nat))),
          ((2:Nat),FAR+(4:Nat),T.arrc false (1:Nat) (3:Nat) fun i=>eI (nth (setL ch0 (0:Nat) (1:Int)) i))]
         (Orc.cut
          (v (56:Nat) (I (↑(2:Nat):Int))::
           v (55:Nat) (I (↑(List.length exLog):Int))::
            v (54:Nat) (L ePEn exLog)::
             v (6:Nat) (ad (6:Nat))::
              ((2:Nat),(6:Nat),live)::
               ((9:Nat),(0:Nat),T.fn (221:FuncId) [] [])::
                ((9:Nat),(1:Nat),T.fn (222:FuncId) [] [])::
                 ((9:Nat),(2:Nat),T.fn (223:FuncId) [] [])::
                  v (3:Nat) (ad (12:Nat))::pgJ (12:Nat) (910:Nat) (911:Nat) (10:Nat) (912:Nat) (2:Nat))
          (Orc.tt
           (Orc.w [(nat_lit 100000,nat_lit 12),(nat_lit 100001,nat_lit 910),(nat_lit 100003,nat_lit 10)]
            [T.addr FAR (0:Nat),I (2:Int),L eI [(0:Int),(3:Int),(0:Int),(1:Int)]] (pgR nw1 D2) (Res.ret (T.tup []))
            [((2:Nat),FAR+(3:Nat),mP D3)]
            (Orc.cut
             (v (56:Nat) (I (↑(3:Nat):Int))::
              v (55:Nat) (I (↑(List.length exLog):Int))::
               v (54:Nat) (L ePEn exLog)::
                v (6:Nat) (ad (6:Nat))::
                 ((2:Nat),(6:Nat),live)::
                  ((9:Nat),(0:Nat),T.fn (221:FuncId) [] [])::
                   ((9:Nat),(1:Nat),T.fn (222:FuncId) [] [])::
                    ((9:Nat),(2:Nat),T.fn (223:FuncId) [] [])::
                     v (3:Nat) (ad (12:Nat))::pgJ (12:Nat) (910:Nat) (911:Nat) (10:Nat) (912:Nat) (3:Nat))
             (Orc.ff Orc.nil)))))))))))
  ) (
  List.length exLog<=maxLen->
   ((0:Int)=(↑(0:Nat):Int)/\
     (↑(List.length exLog):Int)=(↑(List.length exLog):Int)/\
      (SEq (List.length exLog) (fun i=>ePEn (nth exLog i)) (List.length exLog) fun i=>ePEn (nth exLog i))/\
       (221:Nat)=(221:Nat)/\
        (222:Nat)=(222:Nat)/\
         (223:Nat)=(223:Nat)/\
          (4:Int)=(4:Int)/\
           (SEq (List.length exLn) (fun i=>ePLn (nth exLn i)) (List.length exLn) fun i=>ePLn (nth exLn i))/\
            (SEq (List.length exLog) (fun i=>ePEn (nth exLog i)) (List.length exLog) fun i=>ePEn (nth exLog i))/\
             (3:Nat)=(3:Nat)/\
              (3:Nat)=(3:Nat)/\
               (3:Nat)=(3:Nat)/\
                Value.slice none (0:Nat) (0:Nat)=Value.slice none (0:Nat) (0:Nat)/\
                 (SEq (3:Nat) (fun i=>eI (nth nw0 i)) (3:Nat) fun i=>eI (nth nw0 i))/\
                  (SEq (3:Nat) (fun i=>eI (nth st0 i)) (3:Nat) fun i=>eI (nth st0 i))/\
                   (MEq D0 (fun k=>vsC [Value.bool (D0 k)]) D0 fun k=>vsC [Value.bool (D0 k)])/\
                    SEq (3:Nat) (fun i=>eI (nth ch0 i)) (3:Nat) fun i=>eI (nth ch0 i))/\
    true=true/\
     ((0:Int)<=(↑(0:Nat):Int)/\(↑(0:Nat):Int)<(↑(List.length exLog):Int))/\
      iR ((1:Int) - (1:Int))/\
       (↑(0:Nat):Int)=(0:Int)/\
        (SEq (4:Nat) (fun i=>eI (nth [(1:Int),(2:Int),(0:Int),(2:Int)] i)) (List.length [(1:Int),(2:Int),(0:Int),(2:Int)])
          fun i=>eI (nth [(1:Int),(2:Int),(0:Int),(2:Int)] i))/\
         Value.slice none (0:Nat) (0:Nat)=Value.slice none (0:Nat) (0:Nat)/\
          (SEq (List.length exLn) (fun i=>ePLn (nth exLn i)) (List.length exLn) fun i=>ePLn (nth exLn i))/\
           (3:Nat)=(3:Nat)/\
            (SEq (3:Nat) (fun i=>eI (nth nw0 i)) (3:Nat) fun i=>eI (nth nw0 i))/\
             (MEq D0 (fun k=>vsC [Value.bool (D0 k)]) D0 fun k=>vsC [Value.bool (D0 k)])/\
              Does Tryz.prog Y Gl yd0 (221:FuncId) [T.addr FAR (0:Nat),I (0:Int),L eI [(1:Int),(2:Int),(0:Int),(2:Int)]]
                ((FAR+(3:Nat),(7:Nat),ms0)::pgR nw0 D0) (Res.ret (T.tup []))
                [((2:Nat),FAR+(3:Nat),mP D1),(FAR+(3:Nat),(7:Nat),L ePM [((0:Int),(0:Int)),((0:Int),(2:Int))])]/\
               iR ((↑(0:Nat):Int)+(1:Int))/\
                ((↑(0:Nat):Int)+(1:Int)=(↑(1:Nat):Int)/\
                  (↑(List.length exLog):Int)=(↑(List.length exLog):Int)/\
                   (SEq (List.length exLog) (fun i=>ePEn (nth exLog i)) (List.length exLog) fun i=>ePEn (nth exLog i))/\
                    (221:Nat)=(221:Nat)/\
                     (222:Nat)=(222:Nat)/\
                      (223:Nat)=(223:Nat)/\
                       (4:Int)=(4:Int)/\
                        (SEq (List.length exLn) (fun i=>ePLn (nth exLn i)) (List.length exLn) fun i=>ePLn (nth exLn i))/\
                         (SEq (List.length exLog) (fun i=>ePEn (nth exLog i)) (List.length exLog) fun i=>ePEn (nth exLog i))/\
                          (3:Nat)=(3:Nat)/\
                           (3:Nat)=(3:Nat)/\
                            (3:Nat)=(3:Nat)/\
                             (SEq (List.length [((0:Int),(0:Int)),((0:Int),(2:Int))])
                               (fun i=>ePM (nth [((0:Int),(0:Int)),((0:Int),(2:Int))] i))
                               (List.length [((0:Int),(0:Int)),((0:Int),(2:Int))]) fun i=>
                               ePM (nth [((0:Int),(0:Int)),((0:Int),(2:Int))] i))/\
                              (SEq (3:Nat) (fun i=>eI (nth nw0 i)) (3:Nat) fun i=>eI (nth nw0 i))/\
                               (SEq (3:Nat) (fun i=>eI (nth st0 i)) (3:Nat) fun i=>eI (nth st0 i))/\
                                (MEq D1 (fun k=>vsC [Value.bool (D1 k)]) D1 fun k=>vsC [Value.bool (D1 k)])/\
                                 SEq (3:Nat) (fun i=>eI (nth ch0 i)) (3:Nat) fun i=>eI (nth ch0 i))/\
                 true=true/\
                  ((0:Int)<=(↑(1:Nat):Int)/\(↑(1:Nat):Int)<(↑(List.length exLog):Int))/\
                   iR ((2:Int) - (1:Int))/\
                    (↑(1:Nat):Int)=(1:Int)/\
                     (SEq (3:Nat) (fun i=>eI (nth [(2:Int),(0:Int),(123:Int)] i))
                       (List.length [(2:Int),(↑(0:Nat):Int),(123:Int)]) fun i=>
                       eI (nth [(2:Int),(↑(0:Nat):Int),(123:Int)] i))/\
                      (4:Int)=(4:Int)/\
                       (3:Nat)=(3:Nat)/\
                        (3:Nat)=(3:Nat)/\
                         (3:Nat)=(3:Nat)/\
                          (SEq (3:Nat) (fun i=>eI (nth nw0 i)) (3:Nat) fun i=>eI (nth nw0 i))/\
                           (SEq (3:Nat) (fun i=>eI (nth st0 i)) (3:Nat) fun i=>eI (nth st0 i))/\
                            (MEq D1 (fun k=>vsC [Value.bool (D1 k)]) D1 fun k=>vsC [Value.bool (D1 k)])/\
                             (SEq (3:Nat) (fun i=>eI (nth ch0 i)) (3:Nat) fun i=>eI (nth ch0 i))/\
                              Does Tryz.prog Y Gl yd0 (222:FuncId)
                                [T.addr FAR (0:Nat),I (1:Int),L eI [(2:Int),(↑(0:Nat):Int),(123:Int)]]
                                (pgM nw0 st0 ch0 D1) (Res.ret (T.tup []))
                                [((2:Nat),FAR+(1:Nat),
                                  T.arrc false (1:Nat) (3:Nat) fun i=>eI (nth (setL nw0 (0:Nat) (123:Int)) i)),
                                 ((2:Nat),FAR+(2:Nat),
                                  T.arrc false (1:Nat) (3:Nat) fun i=>eI (nth (setL st0 (0:Nat) (2:Int)) i)),
                                 ((2:Nat),FAR+(3:Nat),mP (delTo (↑(0:Nat):Int) D1 (4:Nat))),
                                 ((2:Nat),FAR+(4:Nat),
                                  T.arrc false (1:Nat) (3:Nat) fun i=>eI (nth (setL ch0 (0:Nat) (1:Int)) i))]/\
                               iR ((↑(1:Nat):Int)+(1:Int))/\
                                ((↑(1:Nat):Int)+(1:Int)=(↑(2:Nat):Int)/\
                                  (↑(List.length exLog):Int)=(↑(List.length exLog):Int)/\
                                   (SEq (List.length exLog) (fun i=>ePEn (nth exLog i)) (List.length exLog) fun i=>
                                     ePEn (nth exLog i))/\
                                    (221:Nat)=(221:Nat)/\
                                     (222:Nat)=(222:Nat)/\
                                      (223:Nat)=(223:Nat)/\
                                       (4:Int)=(4:Int)/\
                                        (SEq (List.length exLn) (fun i=>ePLn (nth exLn i)) (List.length exLn) fun i=>
                                          ePLn (nth exLn i))/\
                                         (SEq (List.length exLog) (fun i=>ePEn (nth exLog i)) (List.length exLog)
                                           fun i=>ePEn (nth exLog i))/\
                                          (3:Nat)=(3:Nat)/\
                                           (3:Nat)=(3:Nat)/\
                                            (3:Nat)=(3:Nat)/\
                                             (SEq (List.length [((0:Int),(0:Int)),((0:Int),(2:Int))])
                                               (fun i=>
                                                ePM (nth [((0:Int),(0:Int)),((0:Int),(2:Int))] i))
                                               (List.length [((0:Int),(0:Int)),((0:Int),(2:Int))])
                                               fun i=>
                                               ePM (nth [((0:Int),(0:Int)),((0:Int),(2:Int))] i))/\
                                              (SEq (3:Nat) (fun i=>eI (nth (setL nw0 (0:Nat) (123:Int)) i))
                                                (3:Nat) fun i=>eI (nth nw1 i))/\
                                               (SEq (3:Nat) (fun i=>eI (nth (setL st0 (0:Nat) (2:Int)) i))
                                                 (3:Nat) fun i=>eI (nth st1 i))/\
                                                (MEq (delTo (↑(0:Nat):Int) D1 (4:Nat))
                                                  (fun k=>
                                                   vsC [Value.bool (delTo (↑(0:Nat):Int) D1 (4:Nat) k)])
                                                  D2 fun k=>vsC [Value.bool (D2 k)])/\
                                                 SEq (3:Nat) (fun i=>eI (nth (setL ch0 (0:Nat) (1:Int)) i))
                                                  (3:Nat) fun i=>eI (nth ch1 i))/\
                                 true=true/\
                                  ((0:Int)<=(↑(2:Nat):Int)/\(↑(2:Nat):Int)<(↑(List.length exLog):Int))/\
                                   iR ((1:Int) - (1:Int))/\
                                    (↑(2:Nat):Int)=(2:Int)/\
                                     (SEq (4:Nat) (fun i=>eI (nth [(0:Int),(3:Int),(0:Int),(1:Int)] i))
                                       (List.length [(0:Int),(3:Int),(0:Int),(1:Int)]) fun i=>
                                       eI (nth [(0:Int),(3:Int),(0:Int),(1:Int)] i))/\
                                      (SEq (List.length exLn) (fun i=>ePLn (nth exLn i)) (List.length exLn) fun i=>
                                        ePLn (nth exLn i))/\
                                       (3:Nat)=(3:Nat)/\
                                        (SEq (3:Nat) (fun i=>eI (nth nw1 i)) (3:Nat) fun i=>eI (nth nw1 i))/\
                                         (MEq D2 (fun k=>vsC [Value.bool (D2 k)]) D2 fun k=>vsC [Value.bool (D2 k)])/\
                                          Does Tryz.prog Y Gl yd0 (221:FuncId)
                                            [T.addr FAR (0:Nat),I (2:Int),
                                             L eI [(0:Int),(3:Int),(0:Int),(1:Int)]]
                                            (pgR nw1 D2) (Res.ret (T.tup [])) [((2:Nat),FAR+(3:Nat),mP D3)]/\
                                           iR ((↑(2:Nat):Int)+(1:Int))/\
                                            ((↑(2:Nat):Int)+(1:Int)=(↑(3:Nat):Int)/\
                                              (↑(List.length exLog):Int)=(↑(List.length exLog):Int)/\
                                               (SEq (List.length exLog) (fun i=>ePEn (nth exLog i))
                                                 (List.length exLog) fun i=>ePEn (nth exLog i))/\
                                                (221:Nat)=(221:Nat)/\
                                                 (222:Nat)=(222:Nat)/\
                                                  (223:Nat)=(223:Nat)/\
                                                   (4:Int)=(4:Int)/\
                                                    (SEq (List.length exLn) (fun i=>ePLn (nth exLn i))
                                                      (List.length exLn) fun i=>ePLn (nth exLn i))/\
                                                     (SEq (List.length exLog) (fun i=>ePEn (nth exLog i))
                                                       (List.length exLog) fun i=>ePEn (nth exLog i))/\
                                                      (3:Nat)=(3:Nat)/\
                                                       (3:Nat)=(3:Nat)/\
                                                        (3:Nat)=(3:Nat)/\
                                                         (SEq
                                                           (List.length
                                                            [((0:Int),(0:Int)),
                                                             ((0:Int),(2:Int))])
                                                           (fun i=>
                                                            ePM
                                                             (nth
                                                              [((0:Int),(0:Int)),
                                                               ((0:Int),(2:Int))]
                                                              i))
                                                           (List.length
                                                            [((0:Int),(0:Int)),
                                                             ((0:Int),(2:Int))])
                                                           fun i=>
                                                           ePM
                                                            (nth
                                                             [((0:Int),(0:Int)),
                                                              ((0:Int),(2:Int))]
                                                             i))/\
                                                          (SEq (3:Nat) (fun i=>eI (nth nw1 i))
                                                            (3:Nat) fun i=>eI (nth nw1 i))/\
                                                           (SEq (3:Nat) (fun i=>eI (nth st1 i))
                                                             (3:Nat) fun i=>eI (nth st1 i))/\
                                                            (MEq D3 (fun k=>vsC [Value.bool (D3 k)])
                                                              D3 fun k=>vsC [Value.bool (D3 k)])/\
                                                             SEq (3:Nat) (fun i=>eI (nth ch1 i))
                                                              (3:Nat) fun i=>eI (nth ch1 i))/\
                                             false=false/\
                                              (4:Int)=(4:Int)/\
                                               (SEq (List.length exLn) (fun i=>ePLn (nth exLn i))
                                                 (List.length exLn) fun i=>ePLn (nth exLn i))/\
                                                (SEq (List.length exLog) (fun i=>ePEn (nth exLog i))
                                                  (List.length exLog) fun i=>ePEn (nth exLog i))/\
                                                 (3:Nat)=(3:Nat)/\
                                                  (3:Nat)=(3:Nat)/\
                                                   (3:Nat)=(3:Nat)/\
                                                    (SEq
                                                      (List.length
                                                       [((0:Int),(0:Int)),((0:Int),(2:Int))])
                                                      (fun i=>
                                                       ePM
                                                        (nth
                                                         [((0:Int),(0:Int)),((0:Int),(2:Int))]
                                                         i))
                                                      (List.length
                                                       [((0:Int),(0:Int)),((0:Int),(2:Int))])
                                                      fun i=>
                                                      ePM
                                                       (nth [((0:Int),(0:Int)),((0:Int),(2:Int))]
                                                        i))/\
                                                     (SEq (3:Nat) (fun i=>eI (nth nw1 i)) (3:Nat)
                                                       fun i=>eI (nth nw1 i))/\
                                                      (SEq (3:Nat) (fun i=>eI (nth st1 i)) (3:Nat)
                                                        fun i=>eI (nth st1 i))/\
                                                       (MEq D3 (fun k=>vsC [Value.bool (D3 k)]) D3 fun k=>
                                                         vsC [Value.bool (D3 k)])/\
                                                        SEq (3:Nat) (fun i=>eI (nth ch1 i)) (3:Nat)
                                                         fun i=>eI (nth ch1 i)
  ) (by kernel_rfl) ?_
 have hr:∀ (n:Nat) (f:Nat->List C),SEq n f n f:=fun _ _=>.of ⟨rfl,fun _ _=>rfl⟩
 have hm:∀ E:DS,MEq E (fun key=>vsC [Value.bool (E key)]) E fun key=>vsC [Value.bool (E key)]:=fun _ _=>⟨rfl,fun _=>.inl rfl⟩
 have hmend:=mends222 S nw0 st0 ch0 D1 0 1 2 123 (by decide) rfl rfl rfl
 refine fun _=>?_
 repeat' with_reducible apply And.intro
 all_goals first
  |with_reducible rfl
  |with_reducible exact hr _ _
  |with_reducible exact hm _
  |with_reducible exact (rng_iff _).2 (by decide)
  |with_reducible exact reads0 S
  |with_reducible exact reads2 S
  |with_reducible exact hmend
  |decide
  |exact .of ⟨rfl,fun _ _=>rfl⟩
  |exact hm _
  |rfl
  |exact .of ⟨rfl,fun _ _=>rfl⟩
def Lk (t k:Nat) (l:List Int):T:=.d (.c (.s (.t t) k fun i=>eI (nth l i)))
theorem snocF {k:Nat} {F:Nat->List C} {cs:List C} (h:cs=F k):SEq (k+1) (catF k F fun i=>List.getD [cs] i []) (k+1) F:=.of ⟨rfl,fun i hi=>by
 subst h
 unfold catF
 rcases Nat.lt_or_ge i k with h1|h1
 ·have hb:Nat.blt i k=true:=by simpa using h1
  rw [hb];rfl
 ·obtain rfl:i=k:=by omega
  have hb:Nat.blt i i=false:=Bool.eq_false_iff.2 fun hh=>absurd (Nat.le_of_ble_eq_true hh) (by omega)
  rw [hb,Nat.sub_self];rfl⟩
theorem pageOf125 {Gl} (S:SP Gl)  :CO Gl 125 [tPg] (.new (.addr 12 0) (pgJ 12 910 911 10 912 3)):=by
 refine fn_tail S (E:=pgE0) (xs:=pgeC.1) (tl:=pgeC.2) (.loop (3:Nat) (fun k=>v 16 (I k)::v 15 (I exLn.length)::v 14 (L ePLn exLn)::v 3 (ad 12)::v 1 (ad 1)::((15:Nat),(3:Nat),Lk (900:Nat) k nw0)::((15:Nat),(4:Nat),Lk (901:Nat) k st0)::((15:Nat),(6:Nat),Lk (902:Nat) k ch0)::tk 900 3::tk 901 3::tk 902 3::((2:Nat),(12:Nat),live)::((15:Nat),(0:Nat),I 4)::((15:Nat),(1:Nat),L ePLn exLn)::((15:Nat),(2:Nat),L ePEn exLog)::((15:Nat),(5:Nat),T.mp (10:Nat))::((15:Nat),(7:Nat),ms0)::((2:Nat),(10:Nat),mP D0)::bx 1 cPg) fun k0=>.br .nil .nil) Tryz.func125 (by kernel_rfl) pgeCB rfl ((3:Nat)<=maxLen->(0=(↑(0:Nat):Int)/\(↑(3:Nat):Int)=(exLn.length:Int)/\(SEq (3:Nat) (fun i=>ePLn (nth exLn i)) exLn.length fun i=>ePLn (nth exLn i))/\(0:Nat)=(0:Nat)/\(0:Nat)=(0:Nat)/\(0:Nat)=(0:Nat)/\(4:Int)=4/\(SEq (3:Nat) (fun i=>ePLn (nth exLn i)) exLn.length fun i=>ePLn (nth exLn i))/\(SEq (3:Nat) (fun i=>ePEn (nth exLog i)) exLog.length fun i=>ePEn (nth exLog i))/\Value.slice none 0 0=Value.slice none 0 0/\(MEq (fun x=>false) (fun x=>vsC [Value.bool false]) D0 fun k=>vsC [Value.bool (D0 k)])/\(4:Int)=4/\(SEq (3:Nat) (fun i=>ePLn (nth exLn i)) exLn.length fun i=>ePLn (nth exLn i))/\SEq (3:Nat) (fun i=>ePEn (nth exLog i)) exLog.length fun i=>ePEn (nth exLog i))/\∀ (k0:Nat),k0<=(3:Nat)->(decide ((k0:Int)<(exLn.length:Int))=true->(0<=(k0:Int)/\(k0:Int)<(exLn.length:Int))/\(k0+1)*8<=140737488355328/\k0+1<=140737488355328/\(k0+1)*8<=140737488355328/\k0+1<=140737488355328/\(k0+1)*8<=140737488355328/\k0+1<=140737488355328/\iR ((k0:Int)+1)/\k0<(3:Nat)/\(k0:Int)+1=(↑(k0+1):Int)/\(exLn.length:Int)=(exLn.length:Int)/\(sR ePLn exLn)/\(SEq (k0+1) (catF k0 (fun i=>eI (nth nw0 i)) fun i=>List.getD [List.map C.dem [C.v (Value.int IntKind.i64 (nth exLn k0).3)]] i []) (k0+1) fun i=>eI (nth nw0 i))/\(SEq (k0+1) (catF k0 (fun i=>eI (nth st0 i)) fun i=>List.getD [List.map C.dem [C.v (Value.int IntKind.i64 (nth exLn k0).1)]] i []) (k0+1) fun i=>eI (nth st0 i))/\(SEq (k0+1) (catF k0 (fun i=>eI (nth ch0 i)) fun i=>List.getD [List.map C.dem [C.v (Value.int IntKind.i64 (-1:Int))]] i []) (k0+1) fun i=>eI (nth ch0 i))/\(4:Int)=4/\(sR ePLn exLn)/\(sR ePEn exLog)/\Value.slice none 0 0=Value.slice none 0 0/\(MEq D0 (fun k=>vsC [Value.bool (D0 k)]) D0 fun k=>vsC [Value.bool (D0 k)])/\(4:Int)=4/\(sR ePLn exLn)/\sR ePEn exLog)/\(decide ((k0:Int)<(exLn.length:Int))=false->(SEq k0 (fun i=>eI (nth nw0 i)) (3:Nat) fun i=>eI (nth nw0 i))/\(SEq k0 (fun i=>eI (nth st0 i)) (3:Nat) fun i=>eI (nth st0 i))/\(SEq k0 (fun i=>eI (nth ch0 i)) (3:Nat) fun i=>eI (nth ch0 i))/\(4:Int)=4/\(sR ePLn exLn)/\(sR ePEn exLog)/\Value.slice none 0 0=Value.slice none 0 0/\(MEq D0 (fun k=>vsC [Value.bool (D0 k)]) D0 fun k=>vsC [Value.bool (D0 k)])/\(4:Int)=4/\(sR ePLn exLn)/\sR ePEn exLog)) (by kernel_rfl) ?_ (fun X vis w0 a w G Tl=>pgeR S Tl)
 have hr:∀ (n:Nat) (f:Nat->List C),SEq n f n f:=fun _ _=>.of ⟨rfl,fun _ _=>rfl⟩
 have hm:∀ E:DS,MEq E (fun key=>vsC [Value.bool (E key)]) E fun key=>vsC [Value.bool (E key)]:=fun _ _=>⟨rfl,fun _=>.inl rfl⟩
 have hl:exLn.length=3:=rfl
 have hs:∀ k,k<3->nth nw0 k=(nth exLn k).3/\nth st0 k=(nth exLn k).1/\nth ch0 k=-1:=by decide
 refine fun _=>⟨?_,fun k hk=>⟨fun hd=>?_,fun hd=>?_⟩⟩
 ·repeat' with_reducible apply And.intro
  all_goals first
   |with_reducible rfl
   |with_reducible exact hr _ _
   |exact hm D0
   |exact SEq.of ⟨rfl,fun _ _=>rfl⟩
   |rfl
 ·have hlt:k<3:=by have:=of_decide_eq_true hd;rw [hl] at this;omega
  obtain ⟨h1,h2,h3⟩:=hs k hlt
  rw [<-h1,<-h2,<-h3]
  repeat' with_reducible apply And.intro
  all_goals first
   |with_reducible rfl
   |with_reducible exact hr _ _
   |with_reducible exact hm _
   |with_reducible exact (rng_iff _).2 (by omega)
   |omega
   |(rw [hl];omega)
   |exact snocF rfl
 ·have he:k=3:=by have:=of_decide_eq_false hd;rw [hl] at this;omega
  subst he
  repeat' with_reducible apply And.intro
  all_goals first
   |with_reducible rfl
   |with_reducible exact hr _ _
   |with_reducible exact hm _
end Go.Vc.Zn
