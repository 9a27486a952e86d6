/- A part of the proofs over layer 2 (hands): the program and the specification; no condition. -/
import Derived.Test.YtncmcnpjmdpnaaaGreatDoorOD
import Derived.Maps.RangeRun
import Derived.RangeFuncBox
import Derived.Stop.LaidErr
import Derived.JoinedOf
import Derived.SevenTiedAt
set_option linter.all false
set_option linter.unusedSimpArgs false
set_option linter.unusedVariables false
namespace Go.Vc
open Go Go.RowKit
section
variable {P:Program} {Y:TypeId->Ty} {a:Act} {w:World} {rd:Option Nat} {fu:Nat}
theorem ops_skip {ops:Array Oper} {Q:Exit->Act->World->Prop} {i:Nat} {l:List Nat} {o:Oper} {w':World} (ho:ops[i]?=some o) (hg:o.guard=none) (hdf:∀ c,o.op≠.defer c) (hr:(execOp a.eval o).run P w=.ok .skip w')
  (h:wpOpsIn (Fr rd) fu P ops Q l (a.put o.dst undef) w'):wpOpsIn (Fr rd) fu P ops Q (i::l) a w:=by
 unfold wpOpsIn
 rw [ho]
 dsimp only
 rw [if_pos (by simp [Region.wanted,hg])]
 refine ⟨fun _ _=>trivial,?_⟩
 rw [Oper.semAt_eq _ _ _ hdf,hr]
 exact h
theorem ops_yield {ops:Array Oper} {Q:Exit->Act->World->Prop} {i:Nat} {l:List Nat} {o:Oper} {fo:Operand} {args:Array Operand} {tys:Array TypeId} {n:Nat} {R:Ending->World->Prop} (ho:ops[i]?=some o) (hg:o.guard=none) (hop:o.op=.call { callee:=.value fo,args:=args,argTypes:=tys })
  (hf:a.eval fo=.func (.yield n) #[] #[]) (hc:YieldC P n (args.map a.eval) w R) (h:∀ en w',R en w'->∃ v,en=.returned v/\wpOpsIn (Fr rd) fu P ops Q l (a.put o.dst v) w'):wpOpsIn (Fr rd) fu P ops Q (i::l) a w:=by
 unfold wpOpsIn
 rw [ho]
 dsimp only
 rw [if_pos (by simp [Region.wanted,hg])]
 obtain ⟨fn,tmps,assign,body,hrun,hround⟩:=hc
 have hexec:(execOp a.eval o).run P w=.ok (.round n fn tmps assign body) w:=by
  simp [execOp,hop,resolve,hf,Deferred.ofValue,invoke,hrun]
 refine ⟨fun _ _=>trivial,?_⟩
 rw [Oper.semAt_eq _ _ _ (nodefer hop),hexec,Oper.uponIn_round]
 refine ⟨fun h=>by simp [Fence.wide] at h,?_⟩
 refine (roundIn_fr hround).mono fun en w' hR=>?_
 obtain ⟨v,rfl,h⟩:=h en w' hR
 exact h
theorem keepV_new {vis:Nat->Nat} {w w':World} {r:Nat} (hr:vis r=0) (h:∀ b,b≠r->b<w.heap.size->w'.heap[b]?=w.heap[b]?) (hf:∀ b,w.heap.size<=b->vis b=0):KeepV vis w w':=by
 have key:∀ b,0<vis b->w'.heap[b]?=w.heap[b]?:=fun b hb=>h b (fun hh=>by subst hh;omega) (by
  rcases Nat.lt_or_ge b w.heap.size with h1|h1
  ·exact h1
  ·have:=hf b h1;omega)
 exact ⟨fun b i hi=>World.cell?_of_block (key b (by omega)),fun b hb es c he=>by rw [key b hb];exact he⟩
end
end Go.Vc
namespace Go.Vc.Hn
open Go Go.Proofs Go.Vc Go.RowKit Go.ChangeMaps
noncomputable def itB:Code:=match Tryz.f151.body with|some c=>c|none=>.skip
noncomputable def itOps:Nat->Array Oper
 |0=>match itB with| .seq (.region _ o _) _=>o|_=>#[]
 |1=>match itB with| .seq _ (.block _ (.loop (.seq (.region _ o _) _)))=>o|_=>#[]
 |2=>match itB with| .seq _ (.block _ (.loop (.seq _ (.seq _ (.block _ (.seq (.region _ o _) _))))))=>o|_=>#[]
 |_=>match itB with| .seq _ (.block _ (.loop (.seq _ (.seq _ (.block _ (.seq _ (.seq (.region _ o _) _)))))))=>o|_=>#[]
theorem itB_eq:itB=.seq (.region 0 (itOps 0) false) (.block 0 (.loop (.seq (.region 1 (itOps 1) false) (.seq (.cond (.tmp 7) .skip (.exit 0)) (.block 1 (.seq (.region 2 (itOps 2) false) (.seq (.region 3 (itOps 3) false) (.cond (.tmp 13) .ret .skip)))))))):=by kernel_rfl
theorem itBody:Tryz.f151.body=some itB:=by kernel_rfl
noncomputable def itOp (r i:Nat):Oper:=((itOps r)[i]?).getD default
theorem itOp00:(itOps 0)[0]?=some (itOp 0 0)/\(itOp 0 0).guard=none/\(itOp 0 0).op=.load 101 (.tmp 1)/\(itOp 0 0).dst=some 4:=⟨by kernel_rfl,by kernel_rfl,by kernel_rfl,by kernel_rfl⟩
theorem itOp01:(itOps 0)[1]?=some (itOp 0 1)/\(itOp 0 1).guard=none/\(itOp 0 1).op=.range 101 (.tmp 4)/\(itOp 0 1).dst=some 5:=⟨by kernel_rfl,by kernel_rfl,by kernel_rfl,by kernel_rfl⟩
theorem itOp10:(itOps 1)[0]?=some (itOp 1 0)/\(itOp 1 0).guard=none/\(itOp 1 0).op=.next (.tmp 5) false/\(itOp 1 0).dst=some 6:=⟨by kernel_rfl,by kernel_rfl,by kernel_rfl,by kernel_rfl⟩
theorem itOp11:(itOps 1)[1]?=some (itOp 1 1)/\(itOp 1 1).guard=none/\(itOp 1 1).op=.extract (.tmp 6) 0/\(itOp 1 1).dst=some 7:=⟨by kernel_rfl,by kernel_rfl,by kernel_rfl,by kernel_rfl⟩
theorem itOp20:(itOps 2)[0]?=some (itOp 2 0)/\(itOp 2 0).guard=none/\(itOp 2 0).op=.entry (.tmp 5)/\(itOp 2 0).dst=some 8:=⟨by kernel_rfl,by kernel_rfl,by kernel_rfl,by kernel_rfl⟩
theorem itOp21:(itOps 2)[1]?=some (itOp 2 1)/\(itOp 2 1).guard=none/\(itOp 2 1).op=.extract (.tmp 8) 0/\(itOp 2 1).dst=some 9:=⟨by kernel_rfl,by kernel_rfl,by kernel_rfl,by kernel_rfl⟩
theorem itOp22:(itOps 2)[2]?=some (itOp 2 2)/\(itOp 2 2).guard=none/\(itOp 2 2).op=.alloc 150/\(itOp 2 2).dst=some 3:=⟨by kernel_rfl,by kernel_rfl,by kernel_rfl,by kernel_rfl⟩
theorem itOp23:(itOps 2)[3]?=some (itOp 2 3)/\(itOp 2 3).guard=none/\(itOp 2 3).op=.store 150 (.tmp 3) (.tmp 9)/\(itOp 2 3).dst=none:=⟨by kernel_rfl,by kernel_rfl,by kernel_rfl,by kernel_rfl⟩
theorem itOp30:(itOps 3)[0]?=some (itOp 3 0)/\(itOp 3 0).guard=none/\(itOp 3 0).op=.move (.tmp 0)/\(itOp 3 0).dst=some 10:=⟨by kernel_rfl,by kernel_rfl,by kernel_rfl,by kernel_rfl⟩
theorem itOp31:(itOps 3)[1]?=some (itOp 3 1)/\(itOp 3 1).guard=none/\(itOp 3 1).op=.load 150 (.tmp 3)/\(itOp 3 1).dst=some 11:=⟨by kernel_rfl,by kernel_rfl,by kernel_rfl,by kernel_rfl⟩
theorem itOp32:(itOps 3)[2]?=some (itOp 3 2)/\(itOp 3 2).guard=none/\(itOp 3 2).op=.call { callee:=.value (.tmp 10),args:=#[.tmp 11],argTypes:=#[150] }/\(itOp 3 2).dst=some 12:=⟨by kernel_rfl,by kernel_rfl,by kernel_rfl,by kernel_rfl⟩
theorem itOp33:(itOps 3)[3]?=some (itOp 3 3)/\(itOp 3 3).guard=none/\(itOp 3 3).op=.unOp .not 4 (.tmp 12)/\(itOp 3 3).dst=some 13:=⟨by kernel_rfl,by kernel_rfl,by kernel_rfl,by kernel_rfl⟩
theorem itR0:List.range (itOps 0).size=[0,1]:=by kernel_rfl
theorem itR1:List.range (itOps 1).size=[0,1]:=by kernel_rfl
theorem itR2:List.range (itOps 2).size=[0,1,2,3]:=by kernel_rfl
theorem itR3:List.range (itOps 3).size=[0,1,2,3]:=by kernel_rfl
theorem a101:(Y 101).agg=some false:=by kernel_rfl
theorem a150:(Y 150).agg=some true:=by kernel_rfl
theorem kn150:(Y 150).known=true:=by kernel_rfl
theorem kn101:(Y 101).known=true:=by kernel_rfl
theorem s150:(Y 150).size=2:=by kernel_rfl
theorem z150:(Y 150).zero.toArray=#[.int .i64 0,.int .i64 0]:=by kernel_rfl
theorem k101:(Y 101).kind=.map 150 4:=by kernel_rfl
theorem und101:∃ kt et,Tryz.prog.underlying 101=some (.map kt et):=by
 have hk:=k101
 obtain ⟨d,i,z,h1,_,_,_,_,_,h7,_⟩:=yok 101 kn101
 rw [hk] at h7
 simp only [KOK] at h7
 subst h7
 exact ⟨_,_,h1⟩
def keyVal (k:List Int):Value:=.agg (k.map (Value.int .i64)).toArray
def keyEl (k:List Int):List T:=[.d (.agg [Ci (nth k 0),Ci (nth k 1)])]
theorem key_two {v:Value} {k:List Int} (h:keyV 2 v=some k):v=keyVal k/\k.length=2:=by
 refine ⟨keyV_val h,?_⟩
 unfold keyV at h
 split at h
 ·rename_i h2
  cases h2
 ·rename_i n cs h2
  split at h
  ·obtain ⟨hl,h⟩:=option_bif h
   have hl:=Nat.eq_of_beq_eq_true hl
   obtain rfl:=Option.some.inj h
   omega
  ·cases h
 ·cases h
theorem left_mem {es:Array MapEntry} {seen:Array Nat} {e:MapEntry}:e∈(leftOf es seen).toList↔e∈es.toList/\seen.contains e.born=false:=by
 unfold leftOf
 simp
theorem iters151 {Gl:World->Prop} (dom:List Int->Bool) (val:List Int->List C):Iters Tryz.prog Gl 151 [] [.d (.c (.p [.m 2 false dom val]))] dom keyEl:=by
 refine ⟨⟨Tryz.f151,by kernel_rfl,by kernel_rfl,by kernel_rfl⟩,fun l J vis W vs hst hgl hround hfr hJ0 hargs=>?_⟩
 have hvs:∃ bx off u mb es cl,vs=#[.func (.yield l) #[] #[],.pointer (some ⟨bx,off,none⟩)]/\off+1<=vis bx/\W.cell? ⟨bx,off,none⟩=some u/\u=.map (some mb)/\0<vis mb/\W.heap[mb]?=some (.map es cl)/\KeysR 2 es cl dom:=by
  simp only [List.nil_append,RelTs] at hargs
  obtain ⟨v1,us1,hv1,h1,v2,us2,rfl,h2,rfl⟩:=hargs
  simp only [RelT] at h1 h2
  have h2:Rep vis W (.p [.m 2 false dom val]) v2:=h2
  cases h2 with
  |p _ b off u hv hu hr=>
   have hu0:=hu 0 _ rfl
   have hr0:=hr 0 _ rfl
   generalize hq:u 0=q at hu0 hr0
   cases hr0 with
   |m _ _ _ _ mb es cl g1 g2 g3 g4 g5=>
    refine ⟨b,off,_,mb,es,cl,?_,hv,by rw [Nat.add_zero] at hu0;exact hu0,rfl,g1,g2,g3⟩
    apply Array.ext'
    rw [hv1,h1]
 obtain ⟨bx,off,u,mb,es,cl,rfl,hbx,hcell,rfl,hmv,hmap,hkeys⟩:=hvs
 have hkeys':=hkeys
 obtain ⟨hk1,hk2,hk3,hst1,hst2⟩:=hkeys'
 obtain ⟨kt,et,hund⟩:=und101
 have hmlt:mb<W.heap.size:=(Array.getElem?_eq_some_iff.1 hmap).1
 refine calls_of_fr (n:=0) (callsIn_of_wp (fn:=Tryz.f151) (by kernel_rfl) itBody trivial ?_)
 have S0:SL { tmps:=#[Value.func (.yield l) #[] #[],.pointer (some ⟨bx,off,none⟩)]++Array.replicate (14 - 2) undef,defers:=[] } 14 (fun t=>#[Value.func (.yield l) #[] #[],.pointer (some ⟨bx,off,none⟩)].getD t undef) []:=SL.start _ 14 (Nat.le_of_ble_eq_true rfl)
 have hnt:Tryz.f151.ntmps=14:=by kernel_rfl
 rw [hnt]
 show itB.wpIn (Fr none) 0 Tryz.prog _ { tmps:=#[Value.func (.yield l) #[] #[],.pointer (some ⟨bx,off,none⟩)]++Array.replicate (14 - 2) undef,defers:=[] } W
 generalize ({ tmps:=#[Value.func (.yield l) #[] #[],.pointer (some ⟨bx,off,none⟩)]++Array.replicate (14 - 2) undef,defers:=[] }:Act)=a at S0 ⊢
 rw [itB_eq]
 refine wpIn_seq (wpIn_region ?_)
 rw [itR0]
 obtain ⟨o1,o2,o3,o4⟩:=itOp00
 refine ops_val o1 o2 (by rw [o3];intro c hc;cases hc) (raw_load1 yok (b:=bx) (k:=off) (u:=.map (some mb)) o3 a101 (by rw [S0.eval (by decide)];rfl) hcell) ?_
 rw [o4]
 have S1:=S0.put (d:=4) (by decide) (.map (some mb))
 obtain ⟨o1,o2,o3,o4⟩:=itOp01
 refine ops_val o1 o2 (by rw [o3];intro c hc;cases hc) (v:=.pointer (some ⟨W.heap.size,0,none⟩)) (w':=W.alloc (.mapIter (some mb) cl #[] cl)) (by
  simp [execOp,o3,S1.eval,upd,run_range_map W 101 kt et mb es cl hund hmap]) ?_
 rw [o4]
 have S2:=S1.put (d:=5) (by decide) (.pointer (some ⟨W.heap.size,0,none⟩))
 generalize hr:W.heap.size=r at *
 generalize Act.put (Act.put a (some 4) (.map (some mb))) (some 5) (.pointer (some ⟨r,0,none⟩))=a2 at S2 ⊢
 have hvr:vis r=0:=hfr r (Nat.le_refl _)
 -- the loop
 obtain ⟨Inv,hInv⟩:∃ Inv:Act->World->Prop,Inv=fun a w=>∃ (f:Nat->Value) (h:List (List Int)) (H:Nat->Prop) (seen:Array Nat) (c0:Nat),SL a 14 f []/\f 0=.func (.yield l) #[] #[]/\f 5=.pointer (some ⟨r,0,none⟩)/\w.heap[mb]?=some (.map es cl)/\w.heap[r]?=some (.mapIter (some mb) cl seen c0)/\cl<=c0/\
   J h H vis w/\(∀ b,H b->b<w.heap.size)/\¬ H r/\(∀ b,w.heap.size<=b->vis b=0)/\(∀ x∈h,dom x=true)/\h.Nodup/\(∀ e∈es.toList,∀ k,keyV 2 e.key=some k->(seen.contains e.born=true↔k∈h)):=⟨_,rfl⟩
 show (Code.block 0 _).wpIn (Fr none) 0 Tryz.prog _ a2 _
 refine wpIn_block (wpIn_loop Inv (fun _ w=>match w.heap[r]? with|some (.mapIter _ _ seen _)=>(leftOf es seen).size|_=>0) ?_ fun a w hI=>?_)
 ·rw [hInv]
  have h1:(W.alloc (.mapIter (some mb) cl #[] cl)).heap[r]?=some (.mapIter (some mb) cl #[] cl):=by rw [<-hr];exact World.alloc_heap_new W _
  have hlt:∀ b,b<r->(W.alloc (.mapIter (some mb) cl #[] cl)).heap[b]?=W.heap[b]?:=fun b hb=>heap_alloc_lt _ _ (by rw [hr];exact hb)
  have hsz:(W.alloc (.mapIter (some mb) cl #[] cl)).heap.size=r+1:=by rw [World.size_alloc,hr]
  refine ⟨_,[],fun b=>b<r,#[],cl,S2,by simp [upd],by simp [upd],by rw [hlt mb (by omega)];exact hmap,h1,Nat.le_refl _,?_,fun b hb=>by omega,Nat.lt_irrefl r,fun b hb=>hfr b (by omega),fun x hx=>(by cases hx),List.nodup_nil,fun e he k hk=>by simp⟩
  exact (hst []).1 0 _ _ _ _ hJ0 (fun b hb=>hlt b hb) (keepV_new hvr (fun b _ hb=>hlt b (by omega)) (by rw [hr];exact hfr)) (same_alloc _ _)
 ·rw [hInv] at hI
  obtain ⟨f,h,H,seen,c0,Sl,hf0,hf5,hmw,hrw',hcc,hJ,hHlt,hHr,hfrw,hdom,hnd,hseen⟩:=hI
  have hrlt:r<w.heap.size:=(Array.getElem?_eq_some_iff.1 hrw').1
  refine wpIn_seq (wpIn_region ?_)
  rw [itR1]
  obtain ⟨o1,o2,o3,o4⟩:=itOp10
  rcases run_next_at (P:=Tryz.prog) w (itOp 1 0).type r mb cl c0 seen es cl hrw' hmw hst1 hcc with ⟨h0,hrun⟩|⟨e,he,w1,hal,hrun⟩
  ·refine ops_val o1 o2 (by rw [o3];intro c hc;cases hc) (v:=.tuple #[.bool false]) (w':=w) (by simp [execOp,o3,Sl.eval,hf5,hrun]) ?_
   rw [o4]
   have Sa:=Sl.put (d:=6) (by decide) (.tuple #[.bool false])
   obtain ⟨o1,o2,o3,o4⟩:=itOp11
   refine ops_val o1 o2 (by rw [o3];intro c hc;cases hc) (v:=.bool false) (w':=w) (by simp [execOp,o3,Sa.eval,upd,Instr.extract]) ?_
   rw [o4]
   have Sb:=Sa.put (d:=7) (by decide) (.bool false)
   refine wpIn_seq (wpIn_cond_false (by rw [Sb.eval (by decide)];simp [upd]) (wpIn_exit ?_))
   refine ⟨Sb.defers,.tuple #[],by simp [results,Tryz.results151],⟨_,rfl⟩,h,H,vis,⟨hnd,fun k=>⟨hdom k,fun hk=>?_⟩⟩,hJ⟩
   obtain ⟨i,e,hei,hek⟩:=hk2 k hk
   have hem:e∈es.toList:=List.mem_of_getElem? (by rw [Array.getElem?_toList];exact hei)
   refine (hseen e hem k hek).1 ?_
   cases hc:seen.contains e.born with
   |true=>rfl
   |false=>
    have:=(left_mem (seen:=seen)).2 ⟨hem,hc⟩
    rw [Array.eq_empty_of_size_eq_zero h0] at this
    cases this
  ·obtain ⟨hem,hens⟩:=left_mem.1 he
   obtain ⟨ei,hei,hei2⟩:=List.mem_iff_getElem.1 hem
   have hei3:es[ei]?=some e:=by rw [<-Array.getElem?_toList,<-hei2];exact List.getElem?_eq_getElem hei
   obtain ⟨k,hek,hdk⟩:=hk1 ei e hei3
   obtain ⟨hkv,hk2l⟩:=key_two hek
   have hkn:k ∉ h:=fun hh=>by
    have:=(hseen e hem k hek).2 hh
    rw [hens] at this;cases this
   have hw1:w1.heap=w.heap/\w1.os=w.os/\w1.tape=w.tape/\w1.output=w.output:=by
    rcases hal with rfl|rfl
    ·exact ⟨rfl,rfl,rfl,rfl⟩
    ·exact ⟨rfl,rfl,rfl,rfl⟩
   refine ops_val o1 o2 (by rw [o3];intro c hc;cases hc) (v:=.tuple #[.bool true,e.key,e.val]) (w':=setBlock w1 r (.mapIter (some mb) cl (seen.push e.born) cl)) (by simp [execOp,o3,Sl.eval,hf5,hrun]) ?_
   rw [o4]
   generalize hw2:setBlock w1 r (.mapIter (some mb) cl (seen.push e.born) cl)=w2
   have g1:w2.heap[r]?=some (.mapIter (some mb) cl (seen.push e.born) cl):=by
    rw [<-hw2];unfold setBlock;simp [hw1.1,hrlt]
   have g2:∀ b,b≠r->w2.heap[b]?=w.heap[b]?:=fun b hb=>by
    rw [<-hw2];unfold setBlock
    simp only [hw1.1]
    rw [Array.getElem?_setIfInBounds,if_neg (fun hh=>hb hh.symm)]
   have g3:w2.heap.size=w.heap.size:=by rw [<-hw2];unfold setBlock;simp [hw1.1]
   have g4:Same w w2:=by rw [<-hw2];exact ⟨hw1.2.1,hw1.2.2.1,hw1.2.2.2,by unfold setBlock;simp [hw1.1]⟩
   have gk:KeepV vis w w2:=keepV_new hvr (fun b hb _=>g2 b hb) hfrw
   have hmr:mb≠r:=by omega
   have Sa:=Sl.put (d:=6) (by decide) (.tuple #[.bool true,e.key,e.val])
   obtain ⟨o1,o2,o3,o4⟩:=itOp11
   refine ops_val o1 o2 (by rw [o3];intro c hc;cases hc) (v:=.bool true) (w':=w2) (by simp [execOp,o3,Sa.eval,upd,Instr.extract]) ?_
   rw [o4]
   have Sb:=Sa.put (d:=7) (by decide) (.bool true)
   refine wpIn_seq (wpIn_cond_true (by rw [Sb.eval (by decide)];simp [upd]) (wpIn_skip ?_))
   show (Code.block 1 _).wpIn (Fr none) 0 Tryz.prog _ _ w2
   refine wpIn_block (wpIn_seq (wpIn_region ?_))
   rw [itR2]
   obtain ⟨o1,o2,o3,o4⟩:=itOp20
   refine ops_val o1 o2 (by rw [o3];intro c hc;cases hc) (v:=.tuple #[e.key,e.val]) (w':=w2) (by
    simp [execOp,o3,Sb.eval,upd,hf5,run_entry_at w2 r mb cl seen es cl e g1 (by rw [g2 mb hmr];exact hmw) hem hst2]) ?_
   rw [o4]
   have Sc:=Sb.put (d:=8) (by decide) (.tuple #[e.key,e.val])
   obtain ⟨o1,o2,o3,o4⟩:=itOp21
   refine ops_val o1 o2 (by rw [o3];intro c hc;cases hc) (v:=e.key) (w':=w2) (by simp [execOp,o3,Sc.eval,upd,Instr.extract]) ?_
   rw [o4]
   have Sd:=Sc.put (d:=9) (by decide) e.key
   obtain ⟨o1,o2,o3,o4⟩:=itOp22
   have hal2:=raw_alloc (P:=Tryz.prog) (Y:=Y) (a:=Act.put (Act.put (Act.put (Act.put a (some 6) (.tuple #[.bool true,e.key,e.val])) (some 7) (.bool true)) (some 8) (.tuple #[e.key,e.val])) (some 9) e.key) (w:=w2) yok o3 kn150
   rw [z150] at hal2
   refine ops_val o1 o2 (by rw [o3];intro c hc;cases hc) hal2 ?_
   rw [o4]
   have Se:=Sd.put (d:=3) (by decide) (.pointer (some ⟨w2.heap.size,0,none⟩))
   generalize hw3:w2.alloc (.cells #[.int .i64 0,.int .i64 0] 150)=w3
   have e1:w3.heap[w2.heap.size]?=some (.cells #[.int .i64 0,.int .i64 0] 150 (0,0)):=by rw [<-hw3];exact World.alloc_heap_new w2 _
   have e2:∀ b,b<w2.heap.size->w3.heap[b]?=w2.heap[b]?:=fun b hb=>by rw [<-hw3];exact heap_alloc_lt _ _ hb
   have e3:Same w2 w3:=by rw [<-hw3];exact same_alloc _ _
   have e4:w3.heap.size=w2.heap.size+1:=by rw [<-hw3];simp
   obtain ⟨o1,o2,o3,o4⟩:=itOp23
   obtain ⟨x,y,hxy⟩:∃ x y,k=[x,y]:=by
    match k,hk2l with
    | [x,y],_=>exact ⟨x,y,rfl⟩
   have hcs:e.key.cells=#[.int .i64 x,.int .i64 y]:=by rw [hkv,hxy];rfl
   obtain ⟨r1,r2,r3,r4⟩:=raw_store (P:=Tryz.prog) (Y:=Y) (a:=Act.put (Act.put (Act.put (Act.put (Act.put a (some 6) (.tuple #[.bool true,e.key,e.val])) (some 7) (.bool true)) (some 8) (.tuple #[e.key,e.val])) (some 9) e.key) (some 3) (.pointer (some ⟨w2.heap.size,0,none⟩))) (w:=w3) (v:=e.key) (b:=w2.heap.size) yok o3 kn150
    (by rw [Se.eval (by decide)];simp [upd]) (by rw [Se.eval (by decide)];simp [upd]) (by rw [s150,hcs];rfl) (by rw [s150];rfl) (by rw [hcs];simp [Value.oneCell']) e1
   refine ops_skip o1 o2 (by rw [o3];intro c hc;cases hc) r1 ?_
   rw [o4]
   generalize w3.setRow w2.heap.size e.key.cells=w4 at r2 r3 r4 ⊢
   have hput:∀ (b:Act),b.put none undef=b:=fun b=>rfl
   rw [hput]
   show (Code.seq (.region 3 (itOps 3) false) _).wpIn (Fr none) 0 Tryz.prog _ _ w4
   refine wpIn_seq (wpIn_region ?_)
   rw [itR3]
   obtain ⟨o1,o2,o3,o4⟩:=itOp30
   refine ops_val o1 o2 (by rw [o3];intro c hc;cases hc) (v:=.func (.yield l) #[] #[]) (w':=w4) (by simp [execOp,o3,Se.eval,upd,hf0]) ?_
   rw [o4]
   have Sf:=Se.put (d:=10) (by decide) (.func (.yield l) #[] #[])
   obtain ⟨o1,o2,o3,o4⟩:=itOp31
   refine ops_val o1 o2 (by rw [o3];intro c hc;cases hc) (raw_load (cur:=e.key.cells) (ct:=150) (fr:=(0,0)) yok (b:=w2.heap.size) o3 a150 (by rw [Sf.eval (by decide)];simp [upd]) (by rw [s150,hcs];rfl) r2) ?_
   rw [o4]
   have Sg:=Sf.put (d:=11) (by decide) (.agg e.key.cells)
   -- the state before the call
   have f1:∀ b,b<w.heap.size->b≠r->w4.heap[b]?=w.heap[b]?:=fun b hb hne=>by rw [r4 b (by omega),e2 b (by omega),g2 b hne]
   have f2:w4.heap[r]?=some (.mapIter (some mb) cl (seen.push e.born) cl):=by rw [r4 r (by omega),e2 r (by omega)];exact g1
   have f3:Same w w4:=(g4.trans e3).trans r3
   have f4:=f3.size
   have fs:w2.heap.size<=w4.heap.size:=(e3.trans r3).size
   have hfr4:∀ b,w4.heap.size<=b->vis b=0:=fun b hb=>hfrw b (by omega)
   have fk:KeepV vis w w4:=keepV_new hvr (fun b hne hb=>f1 b hb hne) hfrw
   have hJ4:J h H vis w4:=(hst h).1 0 _ _ _ _ hJ (fun b hb=>f1 b (hHlt b hb) (fun hh=>hHr (by rw [<-hh];exact hb))) fk f3
   have hnew:NewKey dom h k:=⟨hdom,hnd,hdk,hkn⟩
   have hrel:RelTs (Gh0 vis) w4 (fun _=>False) (keyEl k) (#[Value.agg e.key.cells]:Array Value).toList:=by
    simp only [keyEl,RelTs,RelT]
    refine ⟨_,[],rfl,⟨_,rfl,?_⟩,rfl⟩
    rw [hcs,hxy]
    refine ⟨rfl,fun j c u hc hu=>?_⟩
    match j,hc,hu with
    |0,hc,hu=>simp at hc hu;subst hc;subst hu;exact .v _ rfl
    |1,hc,hu=>simp at hc hu;subst hc;subst hu;exact .v _ rfl
    |j+2,hc,hu=>simp at hc
   obtain ⟨o1,o2,o3,o4⟩:=itOp32
   refine ops_yield o1 o2 o3 (n:=l) (by rw [Sg.eval (by decide)];simp [upd]) (R:=fun en w'=>en=.returned (.bool true)/\J (h++[k]) (plusNew H w4 w') vis w'/\(∀ b,b<w4.heap.size->¬ H b->w'.heap[b]?=w4.heap[b]?)/\KeepV vis w4 w'/\Same w4 w') ?_ ?_
   ·have he:#[Operand.tmp 11].map (Act.eval (Act.put (Act.put (Act.put (Act.put (Act.put (Act.put (Act.put a (some 6) (.tuple #[.bool true,e.key,e.val])) (some 7) (.bool true)) (some 8) (.tuple #[e.key,e.val])) (some 9) e.key) (some 3) (.pointer (some ⟨w2.heap.size,0,none⟩))) (some 10) (.func (.yield l) #[] #[])) (some 11) (.agg e.key.cells)))=#[.agg e.key.cells]:=by
     simp [Sg.eval,upd]
    rw [he]
    exact hround h k H vis w4 #[.agg e.key.cells] hnew hJ4 (fun b hb=>by have:=hHlt b hb;omega) hfr4 hrel
   ·rintro en w5 ⟨rfl,y2,y3,y4,y5⟩
    refine ⟨_,rfl,?_⟩
    rw [o4]
    have Sh:=Sg.put (d:=12) (by decide) (.bool true)
    obtain ⟨o1,o2,o3,o4⟩:=itOp33
    refine ops_val o1 o2 (by rw [o3];intro c hc;cases hc) (v:=.bool false) (w':=w5) (by simp [execOp,o3,Sh.eval,upd,Op.unary]) ?_
    rw [o4]
    have Si:=Sh.put (d:=13) (by decide) (.bool false)
    refine wpIn_cond_false (by rw [Si.eval (by decide)];simp [upd]) (wpIn_skip ?_)
    have ysz:=y5.size
    have q1:w5.heap[r]?=some (.mapIter (some mb) cl (seen.push e.born) cl):=by rw [y3 r (by omega) hHr];exact f2
    have q2:w5.heap[mb]?=some (.map es cl):=y4.map mb hmv es cl (by rw [f1 mb (by omega) hmr];exact hmw)
    show Inv _ w5/\_
    rw [hInv]
    refine ⟨⟨_,h++[k],plusNew H w4 w5,seen.push e.born,cl,Si,by simp [upd,hf0],by simp [upd,hf5],q2,q1,Nat.le_refl _,y2,fun b hb=>?_,fun hh=>?_,fun b hb=>hfrw b (by omega),fun x hx=>?_,?_,fun e' he' k' hk'=>?_⟩,?_⟩
    ·rcases hb with h1|⟨_,h1⟩
     ·have:=hHlt b h1;omega
     ·exact h1
    ·rcases hh with h1|⟨h1,_⟩
     ·exact hHr h1
     ·omega
    ·rcases List.mem_append.1 hx with h1|h1
     ·exact hdom x h1
     ·rw [List.mem_singleton.1 h1];exact hdk
    ·rw [List.nodup_append]
     refine ⟨hnd,by simp,fun x hx y hy=>?_⟩
     rw [List.mem_singleton.1 hy]
     exact fun hh=>hkn (by rw [<-hh];exact hx)
    ·rw [List.mem_append,List.mem_singleton]
     have hsp:(seen.push e.born).contains e'.born=(seen.contains e'.born||e'.born==e.born):=by
      rw [Bool.eq_iff_iff];simp [Array.contains_push]
     rw [hsp,Bool.or_eq_true,hseen e' he' k' hk',beq_iff_eq]
     refine or_congr Iff.rfl ⟨fun hb=>?_,fun hkk=>?_⟩
     ·have:e'=e:=born_inj hst2 he' hem hb
      rw [this,hek] at hk'
      exact (Option.some.inj hk').symm
     ·obtain ⟨j,hj,hj2⟩:=List.mem_iff_getElem.1 he'
      have hj3:es[j]?=some e':=by rw [<-Array.getElem?_toList,<-hj2];exact List.getElem?_eq_getElem hj
      have hij:=hk3 j ei e' e k hj3 hei3 (by rw [hk',hkk]) hek
      subst hij
      rw [hei3] at hj3
      rw [Option.some.inj hj3]
    ·rw [q1,hrw']
     dsimp only
     exact left_shrinks es seen e he
open Go Go.Proofs Go.Vc Go.RowKit
noncomputable def valC:List Code×Code:=match Tryz.f94.body with|some c=>cutSeq 2 c|none=>([],.skip)
theorem valCB:Tryz.f94.body=some (seqs valC.1 valC.2):=by kernel_rfl
noncomputable def valR2:Code:=match valC.2 with| .seq (.seq x _) _=>x|_=>.skip
noncomputable def valAs:Code:=match valC.2 with| .seq (.seq _ (.block _ (.rangeFunc _ _ x _))) _=>x|_=>.skip
noncomputable def valBo:Code:=match valC.2 with| .seq (.seq _ (.block _ (.rangeFunc _ _ _ x))) _=>x|_=>.skip
noncomputable def valOps:Nat->Array Oper
 |0=>match valC.2 with| .seq _ (.seq (.region _ o _) _)=>o|_=>#[]
 |_=>match valC.2 with| .seq _ (.seq _ (.seq (.region _ o _) _))=>o|_=>#[]
theorem valC_eq:valC.2=.seq (seqs [valR2] (.block 0 (.rangeFunc (.tmp 9) #[10] valAs valBo))) (.seq (.region 6 (valOps 0) false) (.seq (.region 7 (valOps 1) false) .ret)):=by kernel_rfl
noncomputable def valOp (r i:Nat):Oper:=((valOps r)[i]?).getD default
theorem valOp00:(valOps 0)[0]?=some (valOp 0 0)/\(valOp 0 0).guard=none/\(valOp 0 0).op=.load 22 (.tmp 5)/\(valOp 0 0).dst=some 20:=⟨by kernel_rfl,by kernel_rfl,by kernel_rfl,by kernel_rfl⟩
theorem valOp01:(valOps 0)[1]?=some (valOp 0 1)/\(valOp 0 1).guard=none/\(valOp 0 1).op=.call { callee:=.value (.func 130),args:=#[.tmp 20],argTypes:=#[22] }/\(valOp 0 1).dst=some 21:=⟨by kernel_rfl,by kernel_rfl,by kernel_rfl,by kernel_rfl⟩
theorem valOp10:(valOps 1)[0]?=some (valOp 1 0)/\(valOp 1 0).guard=none/\(valOp 1 0).op=.load 22 (.tmp 5)/\(valOp 1 0).dst=some 22:=⟨by kernel_rfl,by kernel_rfl,by kernel_rfl,by kernel_rfl⟩
theorem valOp11:(valOps 1)[1]?=some (valOp 1 1)/\(valOp 1 1).guard=none/\(valOp 1 1).op=.assign (.tmp 22)/\(valOp 1 1).dst=some 4:=⟨by kernel_rfl,by kernel_rfl,by kernel_rfl,by kernel_rfl⟩
theorem valR0:List.range (valOps 0).size=[0,1]:=by kernel_rfl
theorem valR1:List.range (valOps 1).size=[0,1]:=by kernel_rfl
def pick (row:Int) (h:List (List Int)):List Int:=(h.filter fun k=>nth k 0==row).map fun k=>nth k 1
def mC (P:List (List Int)):C:=.m 2 false (canT P P.length) (fun key=>[Cb (canT P P.length key)])
def valE0 (s:Sheet) (P:List (List Int)) (row:Int):Env:=v 2 (ad 2)::v 3 (ad 3)::v 5 (ad 5)::(bx 2 (cBook s P)++(bx 3 [Ci row]++bx 5 [.v (.slice none 0 0)]))
def valE (row:Int) (h:List (List Int)):Env:=v 3 (ad 3)::v 5 (ad 5)::tk 100 3::(bx 3 [Ci row]++bx 5 [.lt 100 eI (pick row h)])
def valE2 (P:List (List Int)) (row:Int):Env:=v 9 (.fn 151 [] [.d (.c (.p [mC P]))])::valE row []
theorem keys129 {Gl} (S:SP Gl) (P:List (List Int)):CO Gl 129 [.d (.c (mC P))] (.ret (.fn 151 [] [.d (.c (.p [mC P]))])):=by
 refine fn_ptr S (t:=2) (id:=1) .nil Tryz.func129 (by kernel_rfl) Tryz.results129 (by decide) (by decide) (T.fn 151 [] [.addr 1 0]=T.fn 151 [] [.addr 1 0]/\live=live/\(.d (.c (mC P)):T)=.d (.c (mC P))/\True) (by kernel_rfl) ?_
 exact ⟨rfl,rfl,rfl,trivial⟩
theorem val_piece {Gl} (S:SP Gl) (s:Sheet) (P:List (List Int)) (row:Int):wp (CO Gl) (Does Tryz.prog Y Gl) Y Tryz.f94.ntmps yd0 false (seqs [valR2] .skip) (tailPost (valE2 P row)) (
  Orc.r (Res.ret (T.fn (151:FuncId) [] [T.d (D.c (C.p [mC P]))])) Orc.nil) (valE0 s P row):=by
 have hq:(
  CO Gl (129:FuncId) [T.d (D.c (mC P))] (Res.ret (T.fn (151:FuncId) [] [T.d (D.c (C.p [mC P]))]))/\
   (151:Nat)=(151:Nat)/\
    [C.m (2:Nat) false (canT P (List.length P)) fun key=>[Cb (canT P (List.length P) key)]]=
      [C.m (2:Nat) false (canT P (List.length P)) fun key=>[Cb (canT P (List.length P) key)]]/\
     row=row/\(0:Nat)=(0:Nat)
  )=wp (CO Gl) (Does Tryz.prog Y Gl) Y Tryz.f94.ntmps yd0 false (seqs [valR2] .skip) (tailPost (valE2 P row)) (
  Orc.r (Res.ret (T.fn (151:FuncId) [] [T.d (D.c (C.p [mC P]))])) Orc.nil) (valE0 s P row):=by kernel_rfl
 rw [<-hq]
 exact ⟨keys129 S P,rfl,rfl,rfl,rfl⟩
theorem valE2_le (P:List (List Int)) (row:Int):le (valE2 P row) (valE row []):=by
 have hq:(
  row=row/\SEq (List.length (pick row [])) (fun i=>eI (nth (pick row []) i)) (List.length (pick row [])) fun i=>eI (nth (pick row []) i)
  )=le (valE2 P row) (valE row []):=by kernel_rfl
 rw [<-hq]
 exact ⟨rfl,SEq_whole rfl⟩
theorem pick_snoc (row:Int) (h:List (List Int)) (k:List Int):pick row (h++[k])=pick row h++(bif nth k 0==row then [nth k 1] else []):=by
 unfold pick
 rw [List.filter_append,List.map_append]
 congr 1
 cases hb:nth k 0==row<;>simp [hb]
theorem val_round {Gl:World->Prop} (row:Int) (h:List (List Int)) (k:List Int) (hl:(pick row h).length<=1000000):rkCond (CO Gl) (Does Tryz.prog Y Gl) Y Tryz.f94.ntmps [10] valAs valBo (keyEl k) (valE row h) (valE row (h++[k])) (
  Orc.br Orc.nil Orc.nil):=by
 have hq:(
  ((nth k (0:Nat)==row)=true->
    (List.length (pick row h)+(1:Nat))*(8:Nat)<=(140737488355328:Nat)/\
     List.length (pick row h)+(1:Nat)<=(140737488355328:Nat)/\
      (0:Nat)<(1:Nat)/\
       row=row/\
        SEq (List.length (pick row h)+(1:Nat))
         (catF (List.length (pick row h)) (fun i=>eI (nth (pick row h) i)) fun i=>
          List.getD [List.map C.dem [C.v (Value.int IntKind.i64 (nth k (1:Nat)))]] i [])
         (List.length (pick row (h++[k]))) fun i=>eI (nth (pick row (h++[k])) i))/\
   ((nth k (0:Nat)==row)=false->
    (0:Nat)<(1:Nat)/\
     row=row/\
      SEq (List.length (pick row h)) (fun i=>eI (nth (pick row h) i)) (List.length (pick row (h++[k]))) fun i=>eI (nth (pick row (h++[k])) i))
  )=rkCond (CO Gl) (Does Tryz.prog Y Gl) Y Tryz.f94.ntmps [10] valAs valBo (keyEl k) (valE row h) (valE row (h++[k])) (
  Orc.br Orc.nil Orc.nil):=by kernel_rfl
 rw [<-hq]
 refine ⟨fun hk=>⟨by omega,by omega,by decide,rfl,SEq_push1 (x:=nth k 1) ?_ rfl⟩,fun hk=>⟨by decide,rfl,SEq_whole ?_⟩⟩
 ·rw [pick_snoc,hk];rfl
 ·rw [pick_snoc,hk];exact List.append_nil _
theorem mem_pick {row x:Int} {h:List (List Int)}:x∈pick row h↔∃ k,k∈h/\nth k 0=row/\nth k 1=x:=by
 unfold pick
 rw [List.mem_map]
 constructor
 ·rintro ⟨k,hk,rfl⟩
  rw [List.mem_filter] at hk
  exact ⟨k,hk.1,eq_of_beq hk.2,rfl⟩
 ·rintro ⟨k,hk,h1,h2⟩
  exact ⟨k,List.mem_filter.2 ⟨hk,beq_iff_eq.2 h1⟩,h2⟩
theorem can_key {P:List (List Int)} {p:Nat} {k:List Int} (h:canT P p k=true):k=[nth k 0,nth k 1]:=by
 unfold canT at h
 rw [List.any_eq_true] at h
 obtain ⟨c,_,h⟩:=h
 rw [List.any_eq_true] at h
 obtain ⟨i,_,h⟩:=h
 rw [eq_of_beq h]
 rfl
theorem pick_nodup {P:List (List Int)} {p:Nat} {row:Int} {h:List (List Int)} (hd:∀ k∈h,canT P p k=true) (hn:h.Nodup):(pick row h).Nodup:=by
 unfold pick List.Nodup
 rw [List.pairwise_map]
 refine List.Pairwise.imp_of_mem (fun {a b} ha hb hab hh=>hab ?_) (List.Pairwise.filter _ hn)
 rw [List.mem_filter] at ha hb
 rw [can_key (hd a ha.1),can_key (hd b hb.1),hh,eq_of_beq ha.2,eq_of_beq hb.2]
theorem can_row {s:Sheet} (hs:s.ok=true) {row:Nat} (hr:row<rows s) {x:Int}:canT (allR s) (allR s).length [(row:Int),x]=true↔x∈valL (allR s) row:=by
 rw [mem_valL]
 unfold canT
 rw [List.take_length,List.any_eq_true]
 constructor
 ·rintro ⟨c,hc,h⟩
  rw [List.any_eq_true] at h
  obtain ⟨i,_,h⟩:=h
  have h:=eq_of_beq h
  have h1:(row:Int)=(i:Int):=(List.cons.inj h).1
  have h2:x=nth c i:=(List.cons.inj (List.cons.inj h).2).1
  have:row=i:=by omega
  subst this
  exact ⟨c,hc,h2.symm⟩
 ·rintro ⟨c,hc,rfl⟩
  refine ⟨c,hc,List.any_eq_true.2 ⟨row,List.mem_range.2 ?_,beq_self_eq_true _⟩⟩
  rw [((mem_allR hs c).1 hc).1]
  exact hr
theorem pick_sub {s:Sheet} (hs:s.ok=true) {row:Nat} (hr:row<rows s) {h:List (List Int)} (hd:∀ k∈h,canT (allR s) (allR s).length k=true) {x:Int} (hx:x∈pick row h):x∈valL (allR s) row:=by
 obtain ⟨k,hk,h1,h2⟩:=mem_pick.1 hx
 have:=hd k hk
 rw [can_key this,h1,h2] at this
 exact (can_row hs hr).1 this
theorem pick_len {s:Sheet} (hs:s.ok=true) {row:Nat} (hr:row<rows s) {h:List (List Int)} (hd:∀ k∈h,canT (allR s) (allR s).length k=true) (hn:h.Nodup):(pick row h).length<=28:=
 Nat.le_trans (sub_len _ _ (pick_nodup hd hn) fun _ hx=>pick_sub hs hr hd hx) (valTo_len hs (allR_cols hs) row _ (Nat.le_refl _))
theorem sorted_mem {zs:List Int} {x:Int}:x∈sorted zs↔x∈zs:=(List.mergeSort_perm zs _).mem_iff
theorem sorted_strict {zs:List Int} (hn:zs.Nodup):(sorted zs).Pairwise (·<·):=by
 have h1:(sorted zs).Pairwise fun x y=>decide (x<=y)=true:=List.pairwise_mergeSort (fun a b c h1 h2=>by simp at *;omega) (fun a b=>by simp;omega) zs
 have h2:(sorted zs).Nodup:=(List.mergeSort_perm zs _).nodup_iff.2 hn
 refine (List.pairwise_and_iff.2 ⟨h1,h2⟩).imp fun {a b} h=>?_
 have:=of_decide_eq_true h.1
 have:=h.2
 omega
theorem pick_sorted {s:Sheet} (hs:s.ok=true) {row:Nat} (hr:row<rows s) {h:List (List Int)} (he:Enum (canT (allR s) (allR s).length) h):sorted (pick row h)=valL (allR s) row:=by
 have hd:∀ k∈h,canT (allR s) (allR s).length k=true:=fun k hk=>(he.2 k).1 hk
 refine sorted_ext (sorted_strict (pick_nodup hd he.1)) (valL_sorted _ _) fun x=>?_
 rw [sorted_mem]
 refine ⟨fun hx=>pick_sub hs hr hd hx,fun hx=>mem_pick.2 ⟨[(row:Int),x],(he.2 _).2 ((can_row hs hr).2 hx),rfl,rfl⟩⟩
theorem val_tail {Gl} (S:SP Gl) (s:Sheet) (row:Nat) (hs:s.ok=true) (hr:row<rows s) {X:Cx} {vis:Nat->Nat} {w0:World} {a:Act} {w:World} {G:Gh} (Tl:Tail Tryz.prog Gl Y X Tryz.f94 (valE0 s (allR s) row) vis w0 a w G):
  valC.2.wpIn (Fr none) 0 Tryz.prog (bodyPostM (Fr none) 0 Tryz.prog Tryz.f94 fun en w'=>Below w0.heap.size w0 w'/\Answers vis w0 en w' (.ret (L eI (valL (allR s) row)))) a w:=by
 rw [valC_eq]
 refine wpIn_seq ?_
 refine seqs_ok (fu:=0) (nt:=Tryz.f94.ntmps) (ds:=[]) S (Tl.sur S) (E:=valE2 (allR s) row) (fun a2 w2 ⟨G2,R2⟩=>?_) [valR2] _ _ a w (val_piece S s (allR s) row) ⟨G,Tl.rel⟩
 refine wpIn_block (wpIn_mono (rk_ok S (Tl.sur S) (wp_ok S valAs true) (wp_ok S valBo true) (f:=151) (fst:=[]) (caps:=[.d (.c (.p [mC (allR s)]))]) (xs:=[.d (.c (.p [mC (allR s)]))]) (rr:=[]) (by kernel_rfl) (by kernel_rfl) rfl (by kernel_rfl) (el:=keyEl) (st:=valE row) (iters151 _ _) (valE2_le _ _) (fun k _=>by kernel_rfl) (fun h k hn=>val_round row h k (by have:=pick_len hs hr hn.1 hn.2.1;omega)) R2) fun ex a3 w3 hq=>?_)
 cases ex with
 |normal=>
  obtain ⟨_,e3,⟨_,h,he,rfl⟩,G3,R3⟩:=hq
  have hz:(pick row h).length<=1000000:=by have:=pick_len hs hr (fun k hk=>(he.2 k).1 hk) he.1;omega
  have hps:=pick_sorted hs hr he
  obtain ⟨zs,hzs⟩:∃ zs,pick (row:Int) h=zs:=⟨_,rfl⟩
  have hst:valE row h=v 3 (ad 3)::v 5 (ad 5)::tk 100 3::(bx 3 [Ci row]++bx 5 [.lt 100 eI zs]):=by rw [<-hzs];rfl
  rw [hst] at R3
  rw [hzs] at hz hps
  obtain ⟨b1,b2,_⟩:=R3.mem.box 5 (by show live≠.any;exact live_ne)
  obtain ⟨_,_,u,hu,hvok⟩:=R3.mem.cells 5 0 (by show (T.d (D.c (C.lt 100 eI zs)))≠.any;intro hh;cases hh)
  have hsl:=(R3.slots 5).rel
  have hslot:a3.tmps.getD 5 undef=.pointer (some ⟨G3.bk 5,0,none⟩):=by
   unfold slotV at hsl
   rw [if_pos (by decide)] at hsl
   exact hsl
  have hrep:Rep G3.vis w3 (.s (.t 100) zs.length fun i=>eI (nth zs i)) u:=hvok.reld
  have hown:Own G3 w3 Y 100 3 zs.length (fun i=>eI (nth zs i)) u:=hvok.own 3 rfl
  obtain ⟨Q,hsort,hcomp⟩:=sort_any R3 (by decide) hz hrep hown
  have hsz:a3.tmps.size=23:=R3.size
  have S0:SL a3 23 (fun t=>a3.tmps.getD t undef) a3.defers:=⟨hsz,rfl,fun _ _=>rfl⟩
  show (Code.seq (.region 6 (valOps 0) false) (.seq (.region 7 (valOps 1) false) .ret)).wpIn (Fr none) 0 Tryz.prog _ a3 w3
  refine wpIn_seq (wpIn_region ?_)
  rw [valR0]
  obtain ⟨o1,o2,o3,o4⟩:=valOp00
  refine ops_val o1 o2 (by rw [o3];intro c hc;cases hc) (raw_load1 yok (b:=G3.bk 5) (k:=0) (u:=u) o3 rfl (by rw [S0.eval (by decide)];exact hslot) hu) ?_
  rw [o4]
  have S1:=S0.put (d:=20) (by decide) u
  obtain ⟨o1,o2,o3,o4⟩:=valOp01
  refine ops_call o1 o2 (by rw [o3];intro c hc;cases hc) (exec_call1 S1 o3 (by decide) fn130) hsort ?_
  rintro _ w4 ⟨rfl,hQ⟩
  refine ⟨_,rfl,?_⟩
  rw [o4]
  have S2:=S1.put (d:=21) (by decide) (.tuple #[])
  obtain ⟨hb1,⟨vis',hO⟩,_⟩:=hcomp w4 hQ
  have hu1:w4.cell? ⟨G3.bk 5,0,none⟩=some u:=by
   rw [World.cell?_of_block (hb1 _ (fun h=>(R3.tks (.o 100) _ h).2.2.2.2 5 (by show live≠.any;exact live_ne) rfl) b2)]
   exact hu
  show (Code.seq (.region 7 (valOps 1) false) .ret).wpIn (Fr none) 0 Tryz.prog _ _ w4
  refine wpIn_seq (wpIn_region ?_)
  rw [valR1]
  obtain ⟨o1,o2,o3,o4⟩:=valOp10
  refine ops_val o1 o2 (by rw [o3];intro c hc;cases hc) (raw_load1 yok (b:=G3.bk 5) (k:=0) (u:=u) o3 rfl (by rw [S2.eval (by decide)];exact hslot) hu1) ?_
  rw [o4]
  have S3:=S2.put (d:=22) (by decide) u
  obtain ⟨o1,o2,o3,o4⟩:=valOp11
  refine ops_val o1 o2 (by rw [o3];intro c hc;cases hc) (v:=u) (w':=w4) (by simp [execOp,o3,S3.eval,upd]) ?_
  rw [o4]
  have S4:=S3.put (d:=4) (by decide) u
  refine wpIn_ret ?_
  have hj:=R3.jj
  rw [Tl.J] at hj
  have R':=R3.anew (a':=Act.put (Act.put (Act.put (Act.put a3 (some 20) u) (some 21) (.tuple #[])) (some 22) u) (some 4) u) (w':=w4) (vis':=vis') (e':=[(0,4,.d (.c (.l eI (sorted zs))))]) (fun _=>rfl) (fun _=>rfl) (fun _ _=>rfl)
   (by rw [S4.size,hsz]) S4.defers hO.size (fun D hD=>hO.mark D (R3.marks D hD).2.1) (fun t ht=>?_) hO.fresh hO.vold (by
    rw [Tl.J]
    refine ⟨hj.1,hj.2.trans ⟨hO.os,hO.tape,hO.output,hO.size,fun b hb=>hO.old b (by rw [Tl.base];exact hb)⟩⟩)
  ·rw [hps] at R'
   exact Tl.leave S R' (SEq_whole rfl)
  ·by_cases h4:t=4
   ·subst h4
    refine VOK.dem (x:=.c (.l eI (sorted zs))) ?_
    have:=S4.get 4 (by decide)
    unfold slotV
    rw [if_pos (by decide),this]
    exact hO.rep
   ·refine absurd ?_ ht
    rw [get_cons_ne (fun hh=>h4 hh.2.symm)]
    rfl
 |exit id=>obtain ⟨_,_,⟨h,_⟩,_⟩:=hq;cases h
 |ret=>obtain ⟨_,_,⟨h,_⟩,_⟩:=hq;cases h
 |panic ch=>obtain ⟨_,_,_,_,⟨h,_⟩,_⟩:=hq;cases h
 |goto l=>exact hq.elim
 |outgrown=>exact hq.elim
theorem values94 {Gl} (S:SP Gl) (s:Sheet) (row:Nat) (hs:s.ok=true) (hr:row<rows s):CO Gl 94 [.d (.agg (cBook s (allR s))),I row] (.ret (L eI (valL (allR s) row))):=by
 refine fn_tail S (E:=valE0 s (allR s) row) (xs:=valC.1) (tl:=valC.2) (.nil) Tryz.func94 (by kernel_rfl) valCB rfl ((sR eCol s.1)/\(sR eI s.2)/\(sR eCol (allR s))/\(MEq (canT (allR s) (List.length (allR s))) (fun key=>[Cb (canT (allR s) (List.length (allR s)) key)]) (canT (allR s) (List.length (allR s))) fun key=>[Cb (canT (allR s) (List.length (allR s)) key)])/\(MEq (openD s (List.length (allR s))) (fun key=>[Cb (openB s (allR s) (List.length (allR s)) key)]) (openD s (List.length (allR s))) fun key=>[Cb (openB s (allR s) (List.length (allR s)) key)])/\(row:Int)=(row:Int)/\Value.slice none 0 0=Value.slice none 0 0) (by kernel_rfl) ?_ (fun X vis w0 a w G T=>val_tail S s row hs hr T)
 exact ⟨SEq_whole rfl,SEq_whole rfl,SEq_whole rfl,MEq_refl,MEq_refl,rfl,rfl⟩
def cmpI (a b:Int):Int:=bif decide (a<b) then -1 else bif decide (b<a) then 1 else 0
def cmpL:List Int->List Int->Int
 | [],[]=>0
 | [],_::_=>-1
 |_::_,[]=>1
 |x::a,y::b=>bif x==y then cmpL a b else cmpI x y
theorem cmpL_at:∀ {a b:List Int} {k:Nat},(∀ i,i<k->nth a i=nth b i)->k<a.length->k<b.length->nth a k≠nth b k->cmpL a b=cmpI (nth a k) (nth b k)
 | [],_,k,_,h,_,_=>by simp at h
 |_::_,[],k,_,_,h,_=>by simp at h
 |x::a,y::b,0,_,_,_,hne=>by
  have h:x≠y:=hne
  unfold cmpL
  rw [beq_eq_false_iff_ne.2 h]
  rfl
 |x::a,y::b,k+1,he,h1,h2,hne=>by
  have h0:x=y:=he 0 (by omega)
  unfold cmpL
  rw [beq_iff_eq.2 h0]
  exact cmpL_at (a:=a) (b:=b) (k:=k) (fun i hi=>he (i+1) (by omega)) (by simpa using h1) (by simpa using h2) hne
theorem cmpL_end:∀ {a b:List Int},(∀ i,i<min a.length b.length->nth a i=nth b i)->cmpL a b=bif decide (a.length<b.length) then -1 else bif decide (b.length<a.length) then 1 else 0
 | [],[],_=>rfl
 | [],_::_,_=>by simp [cmpL]
 |_::_,[],_=>by simp [cmpL]
 |x::a,y::b,h=>by
  have h0:x=y:=h 0 (by simp)
  unfold cmpL
  rw [beq_iff_eq.2 h0,cond_true,cmpL_end (a:=a) (b:=b) fun i hi=>h (i+1) (by simp only [List.length_cons];omega)]
  simp
theorem cmpL_ltL:∀ a b:List Int,decide (cmpL a b<0)=ltL a b
 | [],[]=>rfl
 | [],_::_=>rfl
 |_::_,[]=>rfl
 |x::a,y::b=>by
  unfold cmpL ltL
  cases h:x==y
  ·simp only [cond_false]
   have hne:x≠y:=by intro h2;subst h2;simp at h
   unfold cmpI
   by_cases h1:x<y
   ·rw [decide_eq_true h1];rfl
   ·rw [decide_eq_false h1,decide_eq_true (show y<x by omega)];rfl
  ·simp only [cond_true]
   exact cmpL_ltL a b
theorem isNaN150 {Gl} (S:SP Gl) (n:Int):CO Gl 150 [I n] (.ret (B false)):=by
 refine fn_is S (.nil) Tryz.func150 (by kernel_rfl) ((n != n)=false) (by kernel_rfl) ?_
 exact bne_self_eq_false n
theorem compare128 {Gl} (S:SP Gl) (a b:Int):CO Gl 128 [I a,I b] (.ret (I (cmpI a b))):=by
 refine fn_is S (.r (.ret (B false)) (.r (.ret (B false)) (.ff (.ff (.br .nil (.br .nil .nil)))))) Tryz.func128 (by kernel_rfl) (CO Gl 150 [I a] (.ret (B false))/\CO Gl 150 [I b] (.ret (B false))/\false=false/\false=false/\(decide (a<b)=true->(-1:Int)=cmpI a b)/\(decide (a<b)=false->(decide (b<a)=true->(1:Int)=cmpI a b)/\(decide (b<a)=false->(0:Int)=cmpI a b))) (by kernel_rfl) ?_
 unfold cmpI
 exact ⟨isNaN150 S a,isNaN150 S b,rfl,rfl,fun h=>by rw [h];rfl,fun h=>⟨fun h2=>by rw [h,h2];rfl,fun h2=>by rw [h,h2];rfl⟩⟩
theorem compare89 {Gl} (S:SP Gl) (a b:List Int):CO Gl 89 [L eI a,L eI b] (.ret (I (cmpL a b))):=by
 refine fn_is S (.loop (sameTo a b) (fun k=>[v 11 (I k),v 10 (I a.length),v 9 (L eI a),v 0 (L eI a),v 1 (L eI b)]) fun k0=>.br (.br .nil (.r (.ret (I (cmpI (nth a k0) (nth b k0)))) (.br .nil .nil))) (.br .nil .nil)) Tryz.func89 (by kernel_rfl) (a.length<=maxLen->(0=(↑(0:Nat):Int)/\(a.length:Int)=(a.length:Int)/\(sR eI a)/\(sR eI a)/\sR eI b)/\∀ (k0:Nat),k0<=sameTo a b->(decide ((k0:Int)<(a.length:Int))=true->(0<=(k0:Int)/\(k0:Int)<(a.length:Int))/\(b.length<=maxLen->(decide ((b.length:Int)<=(k0:Int))=true->(1:Int)=cmpL a b)/\(decide ((b.length:Int)<=(k0:Int))=false->(0<=(k0:Int)/\(k0:Int)<(b.length:Int))/\CO Gl 128 [I (nth a k0),I (nth b k0)] (.ret (I (cmpI (nth a k0) (nth b k0))))/\((cmpI (nth a k0) (nth b k0) != (0:Int))=true->cmpI (nth a k0) (nth b k0)=cmpL a b)/\((cmpI (nth a k0) (nth b k0) != (0:Int))=false->iR ((k0:Int)+1)/\k0<sameTo a b/\(k0:Int)+1=(↑(k0+1):Int)/\(a.length:Int)=(a.length:Int)/\(sR eI a)/\(sR eI a)/\sR eI b))))/\(decide ((k0:Int)<(a.length:Int))=false->a.length<=maxLen->b.length<=maxLen->(decide ((a.length:Int)<(b.length:Int))=true->(-1:Int)=cmpL a b)/\(decide ((a.length:Int)<(b.length:Int))=false->(0:Int)=cmpL a b))) (by kernel_rfl) ?_
 simp only [stdS,imp_self,implies_true,and_true,decide_eq_true_eq,decide_eq_false_iff_not,maxLen_eq,rng_iff]
 have hmin:(List.range (min a.length b.length)).length=min a.length b.length:=List.length_range
 have hle:sameTo a b<=min a.length b.length:=by have:=upto_le (p:=fun i=>nth a i==nth b i) (l:=List.range (min a.length b.length));unfold sameTo;omega
 have hbef:∀ k,k<=sameTo a b->∀ i,i<k->nth a i=nth b i:=fun k hk i hi=>by
  have h1:i<(List.range (min a.length b.length)).length:=Nat.lt_of_lt_of_le (Nat.lt_of_lt_of_le hi hk) upto_le
  have:=upto_before (p:=fun i=>nth a i==nth b i) (l:=List.range (min a.length b.length)) (i:=i) (by unfold sameTo at hk;omega)
  rw [nth_range (by omega)] at this
  exact eq_of_beq this
 have hne:∀ x y:Int,x≠y->cmpI x y≠0:=fun x y h=>by
  unfold cmpI
  by_cases h1:x<y
  ·rw [decide_eq_true h1,cond_true];omega
  ·rw [decide_eq_false h1,decide_eq_true (show y<x by omega),cond_false,cond_true];omega
 have heq:∀ x:Int,cmpI x x=0:=fun x=>by
  unfold cmpI
  rw [decide_eq_false (show ¬ x<x by omega)];rfl
 refine fun hm k hk=>⟨fun hl=>⟨by omega,fun hmb=>⟨fun hb=>?_,fun hb=>⟨by omega,compare128 S _ _,fun h=>?_,fun h=>⟨by omega,upto_lt hk (by omega) ?_,by omega,trivial⟩⟩⟩⟩,fun hl _ _=>⟨fun hb=>?_,fun hb=>?_⟩⟩
 ·rw [cmpL_end fun i hi=>hbef k hk i (by omega),decide_eq_false (show ¬ a.length<b.length by omega),decide_eq_true (show b.length<a.length by omega)];rfl
 ·refine (cmpL_at (hbef k hk) (by omega) (by omega) ?_).symm
  intro he
  rw [he,heq] at h
  exact absurd h (by decide)
 ·rw [nth_range (by omega)]
  by_cases he:nth a k=nth b k
  ·simp [he]
  ·have:=hne _ _ he
   simp at h
   exact absurd h this
 ·rw [cmpL_end fun i hi=>hbef k hk i (by omega),decide_eq_true (show a.length<b.length by omega)];rfl
 ·rw [cmpL_end fun i hi=>hbef k hk i (by omega),decide_eq_false (show ¬ a.length<b.length by omega),decide_eq_false (show ¬ b.length<a.length by omega)];rfl
theorem before88 {Gl} (S:SP Gl) (a b:List Int):CO Gl 88 [L eI a,L eI b] (.ret (B (ltL a b))):=by
 refine fn_is S (.r (.ret (I (cmpL a b))) .nil) Tryz.func88 (by kernel_rfl) (CO Gl 89 [L eI a,L eI b] (.ret (I (cmpL a b)))/\decide (cmpL a b<(0:Int))=ltL a b) (by kernel_rfl) ?_
 exact ⟨compare89 S a b,cmpL_ltL a b⟩
theorem best87 {Gl} (S:SP Gl) (l:List (List Int)) (h:0<l.length):CO Gl 87 [.d (.c (.l eCol l)),.fn 88 [] []] (.ret (L eI (bestL ltL l))):=by
 refine fn_iq S (let A0:=(List.drop (1:Nat) l);let A1:=(l.length:Int);let A2:=fun (k0:Nat)=>(bestTo ltL l k0);((.loop (List.length l-(1:Nat)) (fun k=>[v 14 (I k),v 13 (I (A1-1)),v 12 (T.d (D.c (C.l eCol A0))),v 1 (T.fn (88:FuncId) [] []),v 5 (L eI (bestTo ltL l k))]) fun k0=>.br (.r (.ret (B (ltL (nth A0 k0) (A2 k0)))) (.br .nil .nil)) .nil),(((0:Int)<=0/\0<A1)/\((0:Int)<=1/\1<=A1/\A1<=A1)/\(Int.toNat (A1-1)<=maxLen->(0=(↑(0:Nat):Int)/\(↑(Int.toNat (A1-1)):Int)=A1-1/\(SEq (Int.toNat (A1-1)) (fun i=>eCol (nth l (Int.toNat (1:Int)+i))) (List.length A0) fun i=>eCol (nth A0 i))/\(88:Nat)=(88:Nat)/\sQ eI (nth l (Int.toNat (0:Int))) (bestTo ltL l (0:Nat)))/\∀ (k0:Nat),k0<=List.length l-(1:Nat)->(decide ((k0:Int)<(l.length:Int)-1)=true->(0<=(k0:Int)/\(k0:Int)<(↑(List.length A0):Int))/\CO Gl 88 [L eI (nth A0 k0),L eI (A2 k0)] (.ret (B (ltL (nth A0 k0) (A2 k0))))/\(ltL (nth A0 k0) (A2 k0)=true->iR ((k0:Int)+1)/\k0<List.length l-(1:Nat)/\(k0:Int)+1=(↑(k0+1):Int)/\A1-1=A1-1/\(sR eCol A0)/\(88:Nat)=(88:Nat)/\sQ eI (nth A0 k0) (bestTo ltL l (k0+1)))/\(ltL (nth A0 k0) (A2 k0)=false->iR ((k0:Int)+1)/\k0<List.length l-(1:Nat)/\(k0:Int)+1=(↑(k0+1):Int)/\A1-1=A1-1/\(sR eCol A0)/\(88:Nat)=(88:Nat)/\sQ eI (A2 k0) (bestTo ltL l (k0+1))))/\(decide ((k0:Int)<(l.length:Int)-1)=false->sQ eI (A2 k0) (bestL ltL l)))))) Tryz.func87 (by kernel_rfl) (by kernel_rfl) ?_
 simp only [stdS,imp_self,implies_true,and_true,decide_eq_true_eq,decide_eq_false_iff_not,maxLen_eq,rng_iff]
 have hd:(l.drop 1).length=l.length - 1:=List.length_drop
 have hn:∀ k,nth (l.drop 1) k=nth l (k+1):=fun k=>by rw [nth_drop,Nat.add_comm]
 have hst:∀ k,bestTo ltL l (k+1)=bif ltL (nth l (k+1)) (bestTo ltL l k) then nth l (k+1) else bestTo ltL l k:=fun k=>rfl
 refine ⟨by omega,by omega,fun hm=>⟨⟨by omega,.of ⟨by omega,fun i _=>congrArg eCol (nth_drop (l:=l) (i:=i) (k:=1)).symm⟩,SEq_whole rfl⟩,fun k hk=>⟨fun hl=>⟨by omega,before88 S _ _,fun hb=>⟨by omega,by omega,by omega,?_⟩,fun hb=>⟨by omega,by omega,by omega,?_⟩⟩,fun hl=>?_⟩⟩⟩
 ·rw [hn] at hb ⊢
  rw [hst,hb]
  exact SEq_whole rfl
 ·rw [hn] at hb
  rw [hst,hb]
  exact SEq_whole rfl
 ·have:k=l.length - 1:=by omega
  subst this
  exact SEq_whole rfl
theorem less86 {Gl} (S:SP Gl) (a b:Int):CO Gl 86 [I a,I b] (.ret (B (decide (a<b)))):=by
 refine fn_is S (.nil) Tryz.func86 (by kernel_rfl) (decide (a<b)=decide (a<b)) (by kernel_rfl) ?_
 exact rfl
theorem best85 {Gl} (S:SP Gl) (l:List Int) (h:0<l.length):CO Gl 85 [L eI l,.fn 86 [] []] (.ret (I (bestL (fun x y:Int=>decide (x<y)) l))):=by
 refine fn_iq S (let A0:=(fun x y=>decide (x<y));let A1:=(l.length:Int);let A2:=(List.drop (1:Nat) l);((.loop (List.length l-(1:Nat)) (fun k=>[v 14 (I k),v 13 (I (A1-1)),v 12 (L eI A2),v 1 (T.fn (86:FuncId) [] []),v 5 (I (bestTo A0 l k))]) fun k0=>.br (.r (.ret (B (decide (nth (List.drop (1:Nat) l) k0<bestTo (fun x y=>decide (x<y)) l k0)))) (.br .nil .nil)) .nil),(((0:Int)<=0/\0<A1)/\((0:Int)<=1/\1<=A1/\A1<=A1)/\(Int.toNat (A1-1)<=maxLen->(0=(↑(0:Nat):Int)/\(↑(Int.toNat (A1-1)):Int)=A1-1/\(SEq (Int.toNat (A1-1)) (fun i=>eI (nth l (Int.toNat (1:Int)+i))) (List.length A2) fun i=>eI (nth A2 i))/\(86:Nat)=(86:Nat)/\nth l (Int.toNat (0:Int))=bestTo A0 l (0:Nat))/\∀ (k0:Nat),k0<=List.length l-(1:Nat)->(decide ((k0:Int)<(l.length:Int)-1)=true->(0<=(k0:Int)/\(k0:Int)<(↑(List.length A2):Int))/\CO Gl 86 [I (nth A2 k0),I (bestTo A0 l k0)] (.ret (B (decide (nth (List.drop (1:Nat) l) k0<bestTo (fun x y=>decide (x<y)) l k0))))/\(decide (nth (List.drop (1:Nat) l) k0<bestTo (fun x y=>decide (x<y)) l k0)=true->iR ((k0:Int)+1)/\k0<List.length l-(1:Nat)/\(k0:Int)+1=(↑(k0+1):Int)/\A1-1=A1-1/\(sR eI A2)/\(86:Nat)=(86:Nat)/\nth A2 k0=bestTo A0 l (k0+1))/\(decide (nth (List.drop (1:Nat) l) k0<bestTo (fun x y=>decide (x<y)) l k0)=false->iR ((k0:Int)+1)/\k0<List.length l-(1:Nat)/\(k0:Int)+1=(↑(k0+1):Int)/\A1-1=A1-1/\(sR eI A2)/\(86:Nat)=(86:Nat)/\bestTo A0 l k0=bestTo A0 l (k0+1)))/\(decide ((k0:Int)<(l.length:Int)-1)=false->bestTo A0 l k0=bestL A0 l))))) Tryz.func85 (by kernel_rfl) (by kernel_rfl) ?_
 simp only [stdS,imp_self,implies_true,and_true,decide_eq_true_eq,decide_eq_false_iff_not,maxLen_eq,rng_iff]
 have hd:(l.drop 1).length=l.length - 1:=List.length_drop
 have hn:∀ k,nth (l.drop 1) k=nth l (k+1):=fun k=>by rw [nth_drop,Nat.add_comm]
 have hst:∀ k,bestTo (fun x y:Int=>decide (x<y)) l (k+1)=bif (fun x y:Int=>decide (x<y)) (nth l (k+1)) (bestTo (fun x y:Int=>decide (x<y)) l k) then nth l (k+1) else bestTo (fun x y:Int=>decide (x<y)) l k:=fun k=>rfl
 refine ⟨by omega,by omega,fun hm=>⟨⟨by omega,.of ⟨by omega,fun i _=>congrArg eI (nth_drop (l:=l) (i:=i) (k:=1)).symm⟩,rfl⟩,fun k hk=>⟨fun hl=>⟨by omega,less86 S _ _,fun hb=>⟨by omega,by omega,by omega,?_⟩,fun hb=>⟨by omega,by omega,by omega,?_⟩⟩,fun hl=>?_⟩⟩⟩
 ·rw [hn] at hb ⊢
  rw [hst]
  show _=bif decide (nth l (k+1)<bestTo (fun x y:Int=>decide (x<y)) l k) then _ else _
  rw [decide_eq_true hb]
  rfl
 ·rw [hn] at hb
  rw [hst]
  show _=bif decide (nth l (k+1)<bestTo (fun x y:Int=>decide (x<y)) l k) then _ else _
  rw [decide_eq_false hb]
  rfl
 ·have:k=l.length - 1:=by omega
  subst this
  rfl
theorem open_is {s:Sheet} (P:List (List Int)) {r:Nat} (hr:r<rows s):openB s P P.length [(r:Int)]=isOpen s P r:=by
 unfold openB
 rw [rowD_at hr,Bool.true_and,List.take_length,isOpen_any,keyR_one]
 rfl
theorem many95 {Gl} (S:SP Gl) (s:Sheet) (r:Nat) (hs:s.ok=true) (hr:r<rows s):CO Gl 95 [.d (.agg (cBook s (allR s))),I r] (.ret (I (manyAt s (allR s) r))):=by
 refine fn_iq S (let A0:=(List.length (allR s));((.br .nil (.r (.ret (L eI (valL (allR s) r))) .nil)),((openD s A0 [(r:Int)]=false->[C.v (Value.bool (openB s (allR s) A0 [(r:Int)]))]=[C.v (Value.bool false)])/\(openB s (allR s) A0 [(r:Int)]=true->(1999:Int)=manyAt s (allR s) r)/\(openB s (allR s) A0 [(r:Int)]=false->CO Gl 94 [T.d (D.agg (cBook s (allR s))),I r] (.ret (L eI (valL (allR s) r)))/\(List.length (valL (allR s) r)<=maxLen->(↑(List.length (valL (allR s) r)):Int)=manyAt s (allR s) r))))) Tryz.func95 (by kernel_rfl) (by kernel_rfl) ?_
 dsimp only
 have ho:=open_is (allR s) hr
 refine ⟨fun h=>?_,fun h=>?_,fun h=>⟨values94 S s r hs hr,fun _=>?_⟩⟩
 ·unfold openD at h
  rw [rowD_at hr,Bool.and_true] at h
  have h0:(allR s).length=0:=by have:=of_decide_eq_false h;omega
  unfold openB
  rw [h0,List.take_zero,List.any_nil,Bool.and_false]
 ·unfold manyAt
  rw [<-ho,h]
  rfl
 ·unfold manyAt
  rw [<-ho,h]
  rfl
theorem more96 {Gl} (S:SP Gl) (s:Sheet) (a b:Nat) (hs:s.ok=true) (ha:a<rows s) (hb:b<rows s):CO Gl 96 [I a,I b,.d (.rd (cBook s (allR s)))] (.ret (B (decide (manyAt s (allR s) a>manyAt s (allR s) b)))):=by
 refine fn_is S (.r (.ret (I (manyAt s (allR s) a))) (.r (.ret (I (manyAt s (allR s) b))) .nil)) Tryz.func96 (by kernel_rfl) (CO Gl 95 [T.d (D.agg (cBook s (allR s))),I a] (.ret (I (manyAt s (allR s) a)))/\CO Gl 95 [T.d (D.agg (cBook s (allR s))),I b] (.ret (I (manyAt s (allR s) b)))/\decide (manyAt s (allR s) b<manyAt s (allR s) a)=decide (manyAt s (allR s) a>manyAt s (allR s) b)) (by kernel_rfl) ?_
 exact ⟨many95 S s a hs ha,many95 S s b hs hb,rfl⟩
theorem isSheetT {Gl} (S:SP Gl) (s:Sheet) (hs:s.ok=true):CO Gl 81 [tSheet s] (.ret (B true)):=by
 have h:=isSheet81 S s
 rw [hs] at h
 exact h
theorem isSheetF {Gl} (S:SP Gl) (s:Sheet) (hs:s.ok=false):CO Gl 81 [tSheet s] (.ret (B false)):=by
 have h:=isSheet81 S s
 rw [hs] at h
 exact h
theorem MEq_self (dom:List Int->Bool) (val:List Int->List C):MEq dom val dom val↔True:=⟨fun _=>trivial,fun _=>MEq_refl⟩
theorem many_sure (s:Sheet) (l:List (List Int)) (r:Nat):(manyAt s l r==1)=sureAt s l r:=by
 unfold manyAt sureAt
 cases isOpen s l r
 ·rfl
 ·rfl
def upR (n:Nat):List Int:=(List.range n).map fun i:Nat=>(i:Int)
theorem first31 {Gl} (S:SP Gl) (s:Sheet) (hs:s.ok=true) (h0:0<(allR s).length):CO Gl 31 [tSheet s] (.ret (.tup [.c (.l eI (firstL (allR s))),.c (Ci 0)])):=by
 refine fn_is S (.r (.ret (B true)) (.r (.ret (.tup [D.agg (cBook s (allR s)),D.c (Ci 0)])) (.ff (.r (.ret (L eI (bestL ltL (allR s)))) .nil)))) Tryz.func31 (by kernel_rfl) (CO Gl 81 [tSheet s] (.ret (B true))/\CO Gl 82 [tSheet s,B true] (.ret (.tup [D.agg (cBook s (allR s)),D.c (Ci 0)]))/\false=false/\CO Gl 87 [T.d (D.c (C.l eCol (allR s))),T.fn (88:FuncId) [] []] (.ret (L eI (bestL ltL (allR s))))/\(sQ eI (bestL ltL (allR s)) (firstL (allR s)))/\(0:Int)=0) (by kernel_rfl) ?_
 exact ⟨isSheetT S s hs,read82 S s hs h0,rfl,best87 S (allR s) h0,SEq_whole (firstL_best h0).symm,rfl⟩
theorem sure38 {Gl} (S:SP Gl) (s:Sheet) (hs:s.ok=true) (h0:0<(allR s).length):CO Gl 38 [tSheet s] (.ret (.tup [.c (.l eI (sureL s (allR s))),.c (Ci 0)])):=by
 refine fn_iq S (let A0:=(List.length (allR s));let A1:=(MEq (canT (allR s) A0) (fun key=>[Cb (canT (allR s) A0 key)]) (canT (allR s) A0) fun key=>[Cb (canT (allR s) A0 key)]);let A2:=fun (k0:Nat)=>(sureTo s (allR s) k0);let A3:=(fun key=>[Cb (openB s (allR s) A0 key)]);let A4:=(↑(rows s):Int);let A5:=(cBook s (allR s));((.r (.ret (B true)) (.r (.ret (.tup [D.agg A5,D.c (Ci 0)])) (.ff (.loop (rows s) (fun k=>v 23 (I k)::v 22 (I A4)::v 4 (ad 4)::tk 100 3::v 6 (Lt 100 eI (sureTo s (allR s) k))::bx 4 A5) fun k0=>.br (.r (.ret (I (manyAt s (allR s) k0))) (.br .nil .nil)) .nil)))),(CO Gl 81 [tSheet s] (.ret (B true))/\CO Gl 82 [tSheet s,B true] (.ret (.tup [D.agg A5,D.c (Ci 0)]))/\false=false/\((0:Int)<=0/\0<(s.1.length:Int))/\(List.length (nth s.1 (Int.toNat (0:Int)))<=maxLen->(0=(↑(0:Nat):Int)/\(↑(List.length (nth s.1 (Int.toNat (0:Int)))):Int)=A4/\(0:Nat)=(0:Nat)/\(sR eCol s.1)/\(sR eI s.2)/\(sR eCol (allR s))/\A1/\MEq (openD s A0) A3 (openD s A0) fun key=>[Cb (openB s (allR s) A0 key)])/\∀ (k0:Nat),k0<=rows s->(decide ((k0:Int)<(↑(rows s):Int))=true->CO Gl 95 [T.d (D.agg A5),I k0] (.ret (I (manyAt s (allR s) k0)))/\((manyAt s (allR s) k0==(1:Int))=true->(List.length (A2 k0)+1)*8<=140737488355328/\List.length (A2 k0)+1<=140737488355328/\iR ((k0:Int)+1)/\k0<rows s/\(k0:Int)+1=(↑(k0+1):Int)/\A4=A4/\(SEq (List.length (A2 k0)+1) (catF (List.length (A2 k0)) (fun i=>eI (nth (A2 k0) i)) fun i=>List.getD [List.map C.dem [C.v (Value.int IntKind.i64 (k0:Int))]] i []) (List.length (sureTo s (allR s) (k0+1))) fun i=>eI (nth (sureTo s (allR s) (k0+1)) i))/\(sR eCol s.1)/\(sR eI s.2)/\(sR eCol (allR s))/\A1/\MEq (openD s A0) A3 (openD s A0) fun key=>[Cb (openB s (allR s) A0 key)])/\((manyAt s (allR s) k0==(1:Int))=false->iR ((k0:Int)+1)/\k0<rows s/\(k0:Int)+1=(↑(k0+1):Int)/\A4=A4/\(sQ eI (A2 k0) (sureTo s (allR s) (k0+1)))/\(sR eCol s.1)/\(sR eI s.2)/\(sR eCol (allR s))/\A1/\MEq (openD s A0) A3 (openD s A0) fun key=>[Cb (openB s (allR s) A0 key)]))/\(decide ((k0:Int)<(↑(rows s):Int))=false->(sQ eI (A2 k0) (sureL s (allR s)))/\(0:Int)=0))))) Tryz.func38 (by kernel_rfl) (by kernel_rfl) ?_
 obtain ⟨l1,l2,l3,l4⟩:=ok_len hs
 have hrs:=(col_len (l4 0 (by omega))).2.2
 simp only [stdS,imp_self,implies_true,and_true,MEq_self,many_sure]
 refine ⟨isSheetT S s hs,read82 S s hs h0,by omega,fun hm=>⟨⟨rfl,trivial⟩,fun k hk=>⟨fun hd=>?_,fun hd=>?_⟩⟩⟩
 ·have hlt:k<rows s:=by have:=of_decide_eq_true hd;omega
  have h1:=sureTo_len s (allR s) k
  have hst:sureTo s (allR s) (k+1)=sureTo s (allR s) k++bif sureAt s (allR s) k then [(k:Int)] else []:=rfl
  refine ⟨many95 S s k hs hlt,fun hb=>⟨by omega,by omega,(rng_iff _).2 (by omega),hlt,by omega,?_,trivial⟩,fun hb=>⟨(rng_iff _).2 (by omega),hlt,by omega,?_,trivial⟩⟩
  ·refine SEq_push1 (x:=(k:Int)) ?_ rfl
   rw [hst,hb];rfl
  ·refine SEq_whole ?_
   rw [hst,hb];exact List.append_nil _
 ·have hke:k=rows s:=by have:=of_decide_eq_false hd;omega
  subst hke
  exact ⟨SEq_whole rfl,trivial⟩
theorem sure38n {Gl} (S:SP Gl) (s:Sheet) (hs:s.ok=true) (h0:(allR s).length=0):CO Gl 38 [tSheet s] (.ret (.tup [.c (.l eI []),.c (Ci 5)])):=by
 refine fn_is S (.r (.ret (B true)) (.r (.ret (.tup [D.agg zBook,D.c (Ci 5)])) (.tt .nil))) Tryz.func38 (by kernel_rfl) (CO Gl 81 [tSheet s] (.ret (B true))/\CO Gl 82 [tSheet s,B true] (.ret (.tup [D.agg zBook,D.c (Ci 5)]))/\true=true/\(0:Nat)=(0:Nat)/\(5:Int)=5) (by kernel_rfl) ?_
 exact ⟨isSheetT S s hs,read82n S s hs h0,rfl,rfl,rfl⟩
theorem sure38e {Gl} (S:SP Gl) (s:Sheet) (hs:s.ok=false):CO Gl 38 [tSheet s] (.ret (.tup [.c (.l eI []),.c (Ci 2)])):=by
 refine fn_is S (.r (.ret (B false)) (.r (.ret (.tup [D.agg zBook,D.c (Ci 2)])) (.tt .nil))) Tryz.func38 (by kernel_rfl) (CO Gl 81 [tSheet s] (.ret (B false))/\CO Gl 82 [tSheet s,B false] (.ret (.tup [D.agg zBook,D.c (Ci 2)]))/\true=true/\(0:Nat)=(0:Nat)/\(2:Int)=2) (by kernel_rfl) ?_
 exact ⟨isSheetF S s hs,read82e S s,rfl,rfl,rfl⟩
open Go Go.Vc
theorem toR_is {s:Sheet} (hs:s.ok=true) {c:List Int} (h:isR s c):isR s (toR s c):=allR_is hs (toR_mem hs h)
theorem some_iff {s:Sheet} (hs:s.ok=true):0<(allR s).length↔∃ c,isR s c:=
 ⟨fun h=>⟨_,allR_is hs (nth_mem h)⟩,fun ⟨_,h⟩=>List.length_pos_of_mem (toR_mem hs h)⟩
theorem inC_at (s:Sheet) (r:Nat) (x:Int):(x∈cands s r/\inC s r x=x)∨(x ∉ cands s r/\inC s r x=freeL (cands s r)):=by
 unfold inC
 cases h:listed (cands s r) x with
 |true=>exact .inl ⟨listed_mem.1 h,rfl⟩
 |false=>exact .inr ⟨fun hm=>(by rw [listed_mem.2 hm] at h;cases h),rfl⟩
theorem open_iff {s:Sheet} (hs:s.ok=true) {r:Nat} (hr:r<rows s):isOpen s (allR s) r=true↔∃ c,isR s c/\nth c r ∉ cands s r:=by
 rw [isOpen_any,List.any_eq_true]
 constructor
 ·rintro ⟨c,h1,h2⟩
  exact ⟨c,allR_is hs h1,by rw [eq_of_beq h2];exact free_not s r⟩
 ·rintro ⟨c,h1,h2⟩
  refine ⟨toR s c,toR_mem hs h1,?_⟩
  rw [toR_at hr]
  rcases inC_at s r (nth c r) with h|h
  ·exact absurd h.1 h2
  ·rw [h.2];exact beq_self_eq_true _
theorem shut {s:Sheet} (hs:s.ok=true) {r:Nat} (hr:r<rows s) (ho:isOpen s (allR s) r=false) {c:List Int} (hc:isR s c):nth c r∈cands s r:=by
 refine Classical.byContradiction fun h=>?_
 rw [(open_iff hs hr).2 ⟨c,hc,h⟩] at ho
 cases ho
theorem val_iff {s:Sheet} (hs:s.ok=true) {r:Nat} (hr:r<rows s) (ho:isOpen s (allR s) r=false) {x:Int}:x∈valL (allR s) r↔∃ c,isR s c/\nth c r=x:=by
 rw [mem_valL]
 constructor
 ·rintro ⟨c,h1,h2⟩
  exact ⟨c,allR_is hs h1,h2⟩
 ·rintro ⟨c,h1,h2⟩
  refine ⟨toR s c,toR_mem hs h1,?_⟩
  rw [toR_at hr]
  rcases inC_at s r (nth c r) with h|h
  ·rw [h.2];exact h2
  ·exact absurd (shut hs hr ho h1) h.1
/-! words -/
def cntP (p:List Int->Bool) (l:List (List Int)):Nat:=l.countP p
def wordP (p:List Int->Bool) (l:List (List Int)):Int:=wordOf (cntP p l) l.length
theorem count1 (p:List Int->Bool) (x:List Int):[x].countP p=bif p x then 1 else 0:=by
 rw [List.countP_singleton]
 cases p x<;>rfl
theorem cntTo_count (l:List (List Int)) (r:Nat) (c:Int):∀ k,k<=l.length->cntTo l r c k=(l.take k).countP fun d=>nth d r != c
 |0,_=>rfl
 |k+1,hk=>by
  rw [take_succ hk,List.countP_append,count1,<-cntTo_count l r c k (by omega)]
  rfl
theorem cntH_count (s:Sheet) (l:List (List Int)) (h:Nat):∀ k,k<=l.length->cntH s l h k=(l.take k).countP (erred s h)
 |0,_=>rfl
 |k+1,hk=>by
  rw [take_succ hk,List.countP_append,count1,<-cntH_count s l h k (by omega)]
  rfl
theorem wrongAt_word (s:Sheet) (l:List (List Int)) (h r:Nat):wrongAt s l h r=wordP (fun d=>nth d r != cell s h r) l:=by
 unfold wrongAt wordP cntP cell
 rw [cntTo_count _ _ _ _ (Nat.le_refl _),List.take_length]
theorem hand_word (s:Sheet) (l:List (List Int)) (h:Nat):wordOf (cntH s l h l.length) l.length=wordP (erred s h) l:=by
 unfold wordP cntP
 rw [cntH_count _ _ _ _ (Nat.le_refl _),List.take_length]
theorem word_in (p:List Int->Bool) (l:List (List Int)):inR (wordP p l) 1 3=true:=by
 unfold wordP wordOf
 rw [inR_iff]
 cases ((cntP p l:Nat):Int)==0<;>cases ((cntP p l:Nat):Int)==(l.length:Int)<;>simp
theorem word_never (p:List Int->Bool) (l:List (List Int)):wordP p l=1↔∀ c,c∈l->p c=false:=by
 have h0:cntP p l=0↔∀ c,c∈l->p c=false:=by
  unfold cntP
  rw [List.countP_eq_zero]
  exact ⟨fun h c hc=>Bool.eq_false_iff.2 (h c hc),fun h c hc=>by rw [h c hc];exact Bool.false_ne_true⟩
 rw [<-h0]
 unfold wordP wordOf
 cases hb:((cntP p l:Nat):Int)==0 with
 |true=>
  have:=eq_of_beq hb
  exact ⟨fun _=>by omega,fun _=>rfl⟩
 |false=>
  have:=beq_eq_false_iff_ne.1 hb
  constructor
  ·intro h
   cases hc:((cntP p l:Nat):Int)==(l.length:Int)<;>rw [hc] at h<;>cases h
  ·intro h
   rw [h] at this
   exact absurd rfl this
theorem word_sure (p:List Int->Bool) {l:List (List Int)} (hl:0<l.length):wordP p l=3↔∀ c,c∈l->p c=true:=by
 have h0:cntP p l=l.length↔∀ c,c∈l->p c=true:=by
  unfold cntP
  rw [List.countP_eq_length]
 rw [<-h0]
 unfold wordP wordOf
 cases hb:((cntP p l:Nat):Int)==0 with
 |true=>
  have:=eq_of_beq hb
  constructor
  ·intro h;cases h
  ·intro h;omega
 |false=>
  cases hc:((cntP p l:Nat):Int)==(l.length:Int) with
  |true=>
   have:=eq_of_beq hc
   exact ⟨fun _=>by omega,fun _=>rfl⟩
  |false=>
   have:=beq_eq_false_iff_ne.1 hc
   constructor
   ·intro h;cases h
   ·intro h;rw [h] at this;exact absurd rfl this
theorem word_eq {p q:List Int->Bool} {l m:List (List Int)} (hl:0<l.length) (hm:0<m.length) (h0:(∀ c,c∈l->p c=false)↔∀ c,c∈m->q c=false) (h1:(∀ c,c∈l->p c=true)↔∀ c,c∈m->q c=true):wordP p l=wordP q m:=by
 have a0:=word_never p l
 have b0:=word_never q m
 have a1:=word_sure p hl
 have b1:=word_sure q hm
 have ai:=inR_iff.1 (word_in p l)
 have bi:=inR_iff.1 (word_in q m)
 have e0:wordP p l=1↔wordP q m=1:=by rw [a0,b0,h0]
 have e1:wordP p l=3↔wordP q m=3:=by rw [a1,b1,h1]
 omega
/-! errors of a hand -/
theorem wrongTo_zero {c own:List Int}:∀ {k:Nat},wrongTo c own k=0↔∀ i,i<k->nth c i=nth own i
 |0=>⟨fun _ i hi=>absurd hi (Nat.not_lt_zero _),fun _=>rfl⟩
 |k+1=>by
  have ih:=wrongTo_zero (c:=c) (own:=own) (k:=k)
  unfold wrongTo
  constructor
  ·intro h i hi
   have h1:wrongTo c own k=0:=by omega
   have h2:(bif nth own k != nth c k then 1 else 0)=0:=by omega
   rcases Nat.lt_or_ge i k with hl|hl
   ·exact ih.1 h1 i hl
   ·have:i=k:=by omega
    subst this
    cases hb:nth own i != nth c i with
    |true=>rw [hb] at h2;cases h2
    |false=>unfold bne at hb;simp at hb;exact hb.symm
  ·intro h
   rw [ih.2 fun i hi=>h i (by omega),h k (by omega)]
   unfold bne
   simp
theorem erred_wrong {s:Sheet} (hs:s.ok=true) {c:List Int} (hc:isR s c) {h:Nat} (hh:h<s.cols.length):erred s h c=decide (0<wrongTo c (nth s.cols h) (rows s)):=by
 obtain ⟨h1,h2⟩:=wrongN_can hs hc.1 hc.2.2 hh
 have hcl:(nth s.cols h).length=rows s:=(col_len ((ok_len hs).2.2.2 h hh)).1
 unfold erred
 rw [<-h1]
 unfold wrongN
 rw [hcl,Bool.eq_iff_iff,decide_eq_true_eq,decide_eq_true_eq]
 omega
theorem erred_all {s:Sheet} (hs:s.ok=true) {h:Nat} (hh:h<s.cols.length) (b:Bool):(∀ c,c∈allR s->erred s h c=b)↔∀ c,isR s c->decide (0<wrongTo c (nth s.cols h) (rows s))=b:=by
 constructor
 ·intro g c hc
  have h1:=g _ (toR_mem hs hc)
  rw [erred_wrong hs (toR_is hs hc) hh,<-(toR_alike hs hc.1 hc.2.1).wrongTo hh _ (Nat.le_refl _)] at h1
  exact h1
 ·intro g c hc
  rw [erred_wrong hs (allR_is hs hc) hh]
  exact g c (allR_is hs hc)
def handAt (s:Sheet) (h:Nat):Int:=wordP (erred s h) (allR s)
theorem handsL_at {s:Sheet} {h:Nat} (hh:h<s.cols.length):nth (handsL s (allR s)) h=handAt s h:=by
 unfold handsL handAt
 rw [nth_map (by rw [List.length_range];exact hh),nth_range hh,hand_word]
theorem hand_never {s:Sheet} (hs:s.ok=true) {h:Nat} (hh:h<s.cols.length):handAt s h=1↔∀ c,isR s c->∀ i,i<rows s->nth c i=cell s h i:=by
 unfold handAt
 rw [word_never,erred_all hs hh]
 constructor
 ·intro g c hc
  have:=of_decide_eq_false (g c hc)
  exact wrongTo_zero.1 (by omega)
 ·intro g c hc
  have:=wrongTo_zero.2 (g c hc)
  exact decide_eq_false (by show ¬ 0<wrongTo c (nth s.cols h) (rows s);omega)
theorem hand_sure {s:Sheet} (hs:s.ok=true) {h:Nat} (hh:h<s.cols.length) (h0:0<(allR s).length):handAt s h=3↔∀ c,isR s c->¬ ∀ i,i<rows s->nth c i=cell s h i:=by
 unfold handAt
 rw [word_sure _ h0,erred_all hs hh]
 constructor
 ·intro g c hc hall
  have:=of_decide_eq_true (g c hc)
  have:=wrongTo_zero.2 hall
  omega
 ·intro g c hc
  refine decide_eq_true (Nat.pos_of_ne_zero fun h=>g c hc (wrongTo_zero.1 h))
/-! the fewest errors -/
theorem leastTo_spec {s:Sheet} {l:List (List Int)}:∀ {k:Nat},k<=l.length->(∀ i,i<k->leastTo s l k<=madeTo s (nth l i) s.cols.length)/\(leastTo s l k=7∨∃ i,i<k/\leastTo s l k=madeTo s (nth l i) s.cols.length)
 |0,_=>⟨fun i hi=>absurd hi (Nat.not_lt_zero _),.inl rfl⟩
 |k+1,hk=>by
  obtain ⟨h1,h2⟩:=leastTo_spec (s:=s) (l:=l) (k:=k) (by omega)
  have e:leastTo s l (k+1)=min (leastTo s l k) (madeTo s (nth l k) s.cols.length):=rfl
  rw [e]
  refine ⟨fun i hi=>?_,?_⟩
  ·rcases Nat.lt_or_ge i k with hl|hl
   ·have:=h1 i hl;omega
   ·have:i=k:=by omega
    subst this;omega
  ·rcases Int.lt_or_le (madeTo s (nth l k) s.cols.length) (leastTo s l k) with hl|hl
   ·exact .inr ⟨k,by omega,by omega⟩
   ·rcases h2 with h2|⟨i,hi,h2⟩
    ·exact .inl (by omega)
    ·exact .inr ⟨i,by omega,by omega⟩
def leastA (s:Sheet):Int:=leastTo s (allR s) (allR s).length
theorem totalTo_alike {s:Sheet} (hs:s.ok=true) {c d:List Int} (A:Alike s c d):∀ h,h<=s.cols.length->totalTo s c h=totalTo s d h
 |0,_=>rfl
 |h+1,hh=>by
  have hcl:(nth s.cols h).length=rows s:=(col_len ((ok_len hs).2.2.2 h (by omega))).1
  show totalTo s c h+(wrongN c (nth s.cols h):Int)=totalTo s d h+(wrongN d (nth s.cols h):Int)
  unfold wrongN
  rw [totalTo_alike hs A h (by omega),hcl,A.wrongTo (by omega) _ (Nat.le_refl _)]
theorem least_le {s:Sheet} (hs:s.ok=true) {c:List Int} (hc:isR s c):leastA s<=totalTo s c s.cols.length:=by
 obtain ⟨k,hk,he⟩:=mem_nth (toR_mem hs hc)
 have h1:=(leastTo_spec (s:=s) (l:=allR s) (Nat.le_refl _)).1 k hk
 have h2:=toR_is hs hc
 rw [he,<-(total_made hs h2.1 h2.2.2 _ (Nat.le_refl _)).1] at h1
 rw [totalTo_alike hs (toR_alike hs hc.1 hc.2.1) _ (Nat.le_refl _)]
 exact h1
theorem least_is {s:Sheet} (hs:s.ok=true) (h0:0<(allR s).length):∃ c,isR s c/\leastA s=totalTo s c s.cols.length:=by
 have hsp:=leastTo_spec (s:=s) (l:=allR s) (Nat.le_refl _)
 rcases hsp.2 with h|⟨i,hi,h⟩
 ·have h1:=allR_is hs (nth_mem h0)
  have h2:=total_made hs h1.1 h1.2.2 _ (Nat.le_refl _)
  have h3:=hsp.1 0 h0
  rw [h,<-h2.1] at h3
  have:=(ok_len hs).2.1
  omega
 ·have h1:=allR_is hs (nth_mem hi)
  exact ⟨_,h1,by unfold leastA;rw [h,(total_made hs h1.1 h1.2.2 _ (Nat.le_refl _)).1]⟩
/-! the first one -/
theorem ltL_trans:∀ {a b c:List Int},ltL a b=true->ltL b c=true->ltL a c=true
 | [],[],_,h,_=>by cases h
 | [],_::_,[],_,h=>by cases h
 | [],_::_,_::_,_,_=>rfl
 |_::_,[],_,h,_=>by cases h
 |_::_,_::_,[],_,h=>by cases h
 |x::a,y::b,z::c,h1,h2=>by
  have e1:ltL (x::a) (y::b)=bif x==y then ltL a b else decide (x<y):=rfl
  have e2:ltL (y::b) (z::c)=bif y==z then ltL b c else decide (y<z):=rfl
  have e3:ltL (x::a) (z::c)=bif x==z then ltL a c else decide (x<z):=rfl
  rw [e1] at h1
  rw [e2] at h2
  rw [e3]
  by_cases hxy:x=y
  ·subst hxy
   rw [beq_self_eq_true,cond_true] at h1
   by_cases hxz:x=z
   ·subst hxz
    rw [beq_self_eq_true,cond_true] at h2 ⊢
    exact ltL_trans h1 h2
   ·rw [beq_eq_false_iff_ne.2 hxz,cond_false] at h2 ⊢
    exact h2
  ·rw [beq_eq_false_iff_ne.2 hxy,cond_false] at h1
   have h1:=of_decide_eq_true h1
   by_cases hyz:y=z
   ·subst hyz
    rw [beq_eq_false_iff_ne.2 hxy,cond_false]
    exact decide_eq_true h1
   ·rw [beq_eq_false_iff_ne.2 hyz,cond_false] at h2
    have h2:=of_decide_eq_true h2
    rw [beq_eq_false_iff_ne.2 (by omega),cond_false]
    exact decide_eq_true (by omega)
theorem ltL_total:∀ {a b:List Int},ltL a b=false->ltL b a=false->a=b
 | [],[],_,_=>rfl
 | [],_::_,h,_=>by cases h
 |_::_,[],_,h=>by cases h
 |x::a,y::b,h1,h2=>by
  have e1:ltL (x::a) (y::b)=bif x==y then ltL a b else decide (x<y):=rfl
  have e2:ltL (y::b) (x::a)=bif y==x then ltL b a else decide (y<x):=rfl
  rw [e1] at h1
  rw [e2] at h2
  by_cases hxy:x=y
  ·subst hxy
   rw [beq_self_eq_true,cond_true] at h1 h2
   rw [ltL_total h1 h2]
  ·rw [beq_eq_false_iff_ne.2 hxy,cond_false] at h1
   rw [beq_eq_false_iff_ne.2 fun h=>hxy h.symm,cond_false] at h2
   have h1:=of_decide_eq_false h1
   have h2:=of_decide_eq_false h2
   omega
theorem firstTo_spec {l:List (List Int)} (hl:0<l.length):∀ {k:Nat},k<=l.length->firstTo l k∈l/\∀ i,i<k->ltL (nth l i) (firstTo l k)=false
 |0,_=>⟨nth_mem hl,fun i hi=>absurd hi (Nat.not_lt_zero _)⟩
 |k+1,hk=>by
  obtain ⟨h1,h2⟩:=firstTo_spec hl (k:=k) (by omega)
  have e:firstTo l (k+1)=bif ltL (nth l k) (firstTo l k) then nth l k else firstTo l k:=rfl
  rw [e]
  cases hb:ltL (nth l k) (firstTo l k) with
  |true=>
   refine ⟨nth_mem hk,fun i hi=>?_⟩
   rw [cond_true]
   rcases Nat.lt_or_ge i k with hlt|hge
   ·rw [Bool.eq_false_iff]
    intro hc
    have:=ltL_trans hc hb
    rw [h2 i hlt] at this
    cases this
   ·have:i=k:=by omega
    subst this
    exact ltL_irr _
  |false=>
   refine ⟨h1,fun i hi=>?_⟩
   rw [cond_false]
   rcases Nat.lt_or_ge i k with hlt|hge
   ·exact h2 i hlt
   ·have:i=k:=by omega
    subst this
    exact hb
theorem firstL_mem {l:List (List Int)} (hl:0<l.length):firstL l∈l:=(firstTo_spec hl (Nat.le_refl _)).1
theorem firstL_min {l:List (List Int)} (hl:0<l.length) {c:List Int} (hc:c∈l):ltL c (firstL l)=false:=by
 obtain ⟨k,hk,rfl⟩:=mem_nth hc
 exact (firstTo_spec hl (Nat.le_refl _)).2 k hk
/-! how many numbers a row can have -/
theorem carry_sign {x c:Int} (hx:num x=true) (h:isCarried x c=true):(0<=c/\(x=c+10∨x=c+100))∨(c<=0/\(x=c - 10∨x=c - 100)):=by
 have hx:=num_iff.1 hx
 have h0:0<=ab x:=by unfold ab;omega
 have h1:ab x<=999:=by unfold ab;omega
 obtain ⟨p,q,r,hp,hq,hr,he⟩:=digs3 h0 h1
 obtain ⟨e1,e2,e3⟩:=figs hp hq hr he
 unfold isCarried at h
 rw [e1,e2,e3,Bool.or_eq_true,Bool.and_eq_true,Bool.and_eq_true,decide_eq_true_eq,decide_eq_true_eq,beq_iff_eq,beq_iff_eq] at h
 by_cases hn:x<0
 ·rw [sg_neg hn,sg_neg hn] at h
  unfold ab at he
  omega
 ·rw [sg_pos hn,sg_pos hn] at h
  unfold ab at he
  omega
def handC (c p:Int):List Int:=bif c==0 then [c,p,10,-10,100,-100] else bif decide (0<c) then [c,p]++turnedL c++[c+10,c+100,-c] else [c,p]++turnedL c++[c - 10,c - 100,-c]
theorem handC_len (c p:Int):(handC c p).length<=7:=by
 unfold handC turnedL
 cases c==0<;>cases decide (0<c)<;>simp
theorem src_handC {c p x:Int} (h:isSrc c x=true):x∈handC c p:=by
 unfold isSrc at h
 rw [Bool.and_eq_true,alone_ne,Bool.or_eq_true,Bool.or_eq_true,beq_iff_eq] at h
 obtain ⟨hx,h⟩:=h
 unfold handC
 by_cases h0:c=0
 ·subst h0
  rw [beq_self_eq_true,cond_true]
  rcases h with (h|h)|h
  ·have h2:=(turn_back hx h).2
   have e:turnedL 0=[0,0]:=rfl
   rw [e] at h2
   have:x=0:=by simpa using h2
   rw [this];exact List.mem_cons_self
  ·rcases carry_sign hx h with ⟨_,h|h⟩|⟨_,h|h⟩<;>rw [h]<;>simp
  ·have:x=0:=by omega
   rw [this];exact List.mem_cons_self
 ·rw [beq_eq_false_iff_ne.2 h0,cond_false]
  by_cases hp:0<c
  ·rw [decide_eq_true hp,cond_true]
   rcases h with (h|h)|h
   ·have h2:=(turn_back hx h).2
    exact List.mem_append_left _ (List.mem_append_right _ h2)
   ·rcases carry_sign hx h with ⟨_,h|h⟩|⟨h,_⟩
    ·rw [h];exact List.mem_append_right _ (by simp)
    ·rw [h];exact List.mem_append_right _ (by simp)
    ·omega
   ·have:x=-c:=by omega
    rw [this];exact List.mem_append_right _ (by simp)
  ·rw [decide_eq_false hp,cond_false]
   rcases h with (h|h)|h
   ·have h2:=(turn_back hx h).2
    exact List.mem_append_left _ (List.mem_append_right _ h2)
   ·rcases carry_sign hx h with ⟨h,_⟩|⟨_,h|h⟩
    ·omega
    ·rw [h];exact List.mem_append_right _ (by simp)
    ·rw [h];exact List.mem_append_right _ (by simp)
   ·have:x=-c:=by omega
    rw [this];exact List.mem_append_right _ (by simp)
theorem in_handC {s:Sheet} {row j:Nat} {x:Int} (h:inCand s row j x):x∈handC (cell s j row) (cell s j (row - 1)):=by
 rcases (inCand_iff ..).1 h with h|⟨_,h⟩|h
 ·rw [h]
  unfold handC
  cases cell s j row==0<;>cases decide (0<cell s j row)<;>exact List.mem_cons_self
 ·rw [h]
  unfold handC
  cases cell s j row==0<;>cases decide (0<cell s j row)<;>exact List.mem_cons_of_mem _ List.mem_cons_self
 ·exact src_handC h
theorem flatR_len {f:Nat->List Int} {c:Nat} (h:∀ x,(f x).length<=c):∀ l:List Nat,(l.flatMap f).length<=l.length*c
 | []=>by simp
 |x::l=>by
  have h1:=flatR_len h l
  have h2:=h x
  rw [List.flatMap_cons,List.length_append,List.length_cons,Nat.succ_mul]
  omega
theorem cands_short {s:Sheet} (hs:s.ok=true) (row:Nat):(cands s row).length<=21:=by
 have h3:=(ok_len hs).2.1
 have h1:=sub_len (cands s row) ((List.range s.cols.length).flatMap fun j=>handC (cell s j row) (cell s j (row - 1))) (sorted_nodup (cands_sorted s row)) fun x hx=>by
  obtain ⟨j,hj,h⟩:=(mem_cands s row x).1 hx
  exact List.mem_flatMap.2 ⟨j,List.mem_range.2 hj,in_handC h⟩
 have h2:=flatR_len (f:=fun j=>handC (cell s j row) (cell s j (row - 1))) (c:=7) (fun j=>handC_len _ _) (List.range s.cols.length)
 rw [List.length_range] at h2
 omega
theorem val_len {s:Sheet} (hs:s.ok=true) {r:Nat} (hr:r<rows s) (ho:isOpen s (allR s) r=false):(valL (allR s) r).length<=21:=by
 refine Nat.le_trans (sub_len _ (cands s r) (sorted_nodup (valL_sorted _ r)) fun x hx=>?_) (cands_short hs r)
 obtain ⟨c,hc,rfl⟩:=(val_iff hs hr ho).1 hx
 exact shut hs hr ho hc
/-! rows that differ,and errors -/
theorem sameR_iff {s:Sheet} {r:Nat}:∀ {n:Nat},sameR s r n=true↔∀ h,h<n->cell s h r=cell s 0 r
 |0=>⟨fun _ h hh=>absurd hh (Nat.not_lt_zero _),fun _=>rfl⟩
 |n+1=>by
  have ih:=sameR_iff (s:=s) (r:=r) (n:=n)
  have e:sameR s r (n+1)=(sameR s r n&&cell s n r==cell s 0 r):=rfl
  rw [e,Bool.and_eq_true,ih,beq_iff_eq]
  constructor
  ·rintro ⟨h1,h2⟩ h hh
   rcases Nat.lt_or_ge h n with hl|hl
   ·exact h1 h hl
   ·have:h=n:=by omega
    subst this;exact h2
  ·intro h1
   exact ⟨fun h hh=>h1 h (by omega),h1 n (by omega)⟩
/-! the next row -/
/-! lists of rows -/
theorem upR_len (n:Nat):(upR n).length=n:=by unfold upR;rw [List.length_map,List.length_range]
theorem upR_at {n i:Nat} (h:i<n):nth (upR n) i=(i:Int):=by unfold upR;rw [nth_map (by rw [List.length_range];exact h),nth_range h]
theorem upR_snoc (n:Nat):upR (n+1)=upR n++[(n:Int)]:=by unfold upR;rw [List.range_succ,List.map_append];rfl
def wrongsOf (s:Sheet) (c:List Int):List Int:=s.cols.map fun own=>(wrongN c own:Int)
def moreB (s:Sheet) (x y:Int):Bool:=decide (manyAt s (allR s) x.toNat>manyAt s (allR s) y.toNat)
theorem moreS {Gl} (S:SP Gl) (s:Sheet) (x y:Int) (hs:s.ok=true) (hx:0<=x/\x<(rows s:Int)) (hy:0<=y/\y<(rows s:Int)):CO Gl 96 [I x,I y,.d (.rd (cBook s (allR s)))] (.ret (B (moreB s x y))):=by
 have h:=more96 S s x.toNat y.toNat hs (by omega) (by omega)
 rw [show ((x.toNat:Nat):Int)=x by omega,show ((y.toNat:Nat):Int)=y by omega] at h
 exact h
theorem manyS {Gl} (S:SP Gl) (s:Sheet) (x:Int) (hs:s.ok=true) (hx:0<=x/\x<(rows s:Int)):CO Gl 95 [.d (.agg (cBook s (allR s))),I x] (.ret (I (manyAt s (allR s) x.toNat))):=by
 have h:=many95 S s x.toNat hs (by omega)
 rw [show ((x.toNat:Nat):Int)=x by omega] at h
 exact h
theorem bestTo_up {s:Sheet} {n:Nat} (hn:0<n):∀ k,k<n->0<=bestTo (moreB s) (upR n) k/\bestTo (moreB s) (upR n) k<(n:Int)
 |0,_=>by
  show 0<=nth (upR n) 0/\nth (upR n) 0<(n:Int)
  rw [upR_at hn];omega
 |k+1,hk=>by
  have ih:=bestTo_up (s:=s) hn k (by omega)
  show 0<=(bif moreB s (nth (upR n) (k+1)) (bestTo (moreB s) (upR n) k) then nth (upR n) (k+1) else bestTo (moreB s) (upR n) k)/\(bif moreB s (nth (upR n) (k+1)) (bestTo (moreB s) (upR n) k) then nth (upR n) (k+1) else bestTo (moreB s) (upR n) k)<(n:Int)
  rw [upR_at hk]
  cases moreB s ((k+1:Nat):Int) (bestTo (moreB s) (upR n) k)
  ·exact ih
  ·rw [cond_true];omega
theorem nextB_rng {s:Sheet} {n:Nat} (hn:0<n):0<=bestL (moreB s) (upR n)/\bestL (moreB s) (upR n)<(n:Int):=by
 unfold bestL
 rw [upR_len]
 exact bestTo_up hn _ (by omega)
theorem best85n {Gl} (S:SP Gl) (s:Sheet) (n:Nat) (hs:s.ok=true) (h0:0<n) (hn:n<=rows s):CO Gl 85 [L eI (upR n),.fn 96 [] [.d (.rd (cBook s (allR s)))]] (.ret (I (bestL (moreB s) (upR n)))):=by
 refine fn_iq S (let A0:=(List.length (allR s));let A1:=(List.drop (1:Nat) (upR n));let A2:=(MEq (canT (allR s) A0) (fun key=>[Cb (canT (allR s) A0 key)]) (canT (allR s) A0) fun key=>[Cb (canT (allR s) A0 key)]);let A3:=(MEq (openD s A0) (fun key=>[Cb (openB s (allR s) A0 key)]) (openD s A0) fun key=>[Cb (openB s (allR s) A0 key)]);let A4:=(List.length (upR n):Int);let A5:=fun (k0:Nat)=>(bestTo (moreB s) (upR n) k0);((.loop (n-(1:Nat)) (fun k=>[v 14 (I k),v 13 (I ((n:Int)-1)),v 12 (L eI A1),v 1 (T.fn (96:FuncId) [] [T.d (D.rd (cBook s (allR s)))]),v 5 (I (bestTo (moreB s) (upR n) k))]) fun k0=>.br (.r (.ret (B (moreB s (nth A1 k0) (A5 k0)))) (.br .nil .nil)) .nil),(((0:Int)<=0/\0<A4)/\((0:Int)<=1/\1<=A4/\A4<=A4)/\(Int.toNat (A4-1)<=maxLen->(0=(↑(0:Nat):Int)/\(↑(Int.toNat (A4-1)):Int)=(n:Int)-1/\(SEq (Int.toNat (A4-1)) (fun i=>eI (nth (upR n) (Int.toNat (1:Int)+i))) (List.length A1) fun i=>eI (nth A1 i))/\(96:Nat)=(96:Nat)/\(sR eCol s.1)/\(sR eI s.2)/\(sR eCol (allR s))/\A2/\A3/\nth (upR n) (Int.toNat (0:Int))=bestTo (moreB s) (upR n) (0:Nat))/\∀ (k0:Nat),k0<=n-(1:Nat)->(decide ((k0:Int)<(n:Int)-1)=true->(0<=(k0:Int)/\(k0:Int)<(↑(List.length A1):Int))/\CO Gl 96 [I (nth A1 k0),I (A5 k0),T.d (D.rd (cBook s (allR s)))] (.ret (B (moreB s (nth A1 k0) (A5 k0))))/\(moreB s (nth A1 k0) (A5 k0)=true->iR ((k0:Int)+1)/\k0<n-(1:Nat)/\(k0:Int)+1=(↑(k0+1):Int)/\(n:Int)-1=(n:Int)-1/\(sR eI A1)/\(96:Nat)=(96:Nat)/\(sR eCol s.1)/\(sR eI s.2)/\(sR eCol (allR s))/\A2/\A3/\nth A1 k0=bestTo (moreB s) (upR n) (k0+1))/\(moreB s (nth A1 k0) (A5 k0)=false->iR ((k0:Int)+1)/\k0<n-(1:Nat)/\(k0:Int)+1=(↑(k0+1):Int)/\(n:Int)-1=(n:Int)-1/\(sR eI A1)/\(96:Nat)=(96:Nat)/\(sR eCol s.1)/\(sR eI s.2)/\(sR eCol (allR s))/\A2/\A3/\bestTo (moreB s) (upR n) k0=bestTo (moreB s) (upR n) (k0+1)))/\(decide ((k0:Int)<(n:Int)-1)=false->bestTo (moreB s) (upR n) k0=bestL (moreB s) (upR n)))))) Tryz.func85 (by kernel_rfl) (by kernel_rfl) ?_
 have hup:=upR_len n
 have hd:((upR n).drop 1).length=n - 1:=by rw [List.length_drop,hup]
 have hnd:∀ k,nth ((upR n).drop 1) k=nth (upR n) (k+1):=fun k=>by rw [nth_drop,Nat.add_comm]
 have hst:∀ k,bestTo (moreB s) (upR n) (k+1)=bif moreB s (nth (upR n) (k+1)) (bestTo (moreB s) (upR n) k) then nth (upR n) (k+1) else bestTo (moreB s) (upR n) k:=fun k=>rfl
 simp only [stdS,imp_self,implies_true,and_true,decide_eq_true_eq,decide_eq_false_iff_not,maxLen_eq,rng_iff,MEq_self,hup]
 refine ⟨by omega,by omega,fun hm=>⟨⟨by omega,.of ⟨by omega,fun i _=>congrArg eI (nth_drop (l:=upR n) (i:=i) (k:=1)).symm⟩,rfl⟩,fun k hk=>⟨fun hl=>⟨by omega,?_,fun hb=>⟨by omega,by omega,by omega,?_⟩,fun hb=>⟨by omega,by omega,by omega,?_⟩⟩,fun hl=>?_⟩⟩⟩
 ·have h1:=bestTo_up (s:=s) h0 k (by omega)
  refine moreS S s _ _ hs ?_ (by omega)
  rw [hnd,upR_at (by omega)]
  omega
 ·rw [hnd] at hb ⊢
  rw [hst,hb]
  rfl
 ·rw [hnd] at hb
  rw [hst,hb]
  rfl
 ·have:k=n - 1:=by omega
  subst this
  unfold bestL
  rw [hup]
def nextB (s:Sheet):Int:=bestL (moreB s) (upR (rows s))
def nextN (s:Sheet):Int:=bif manyAt s (allR s) (nextB s).toNat==1 then 0 else nextB s
def nextC (s:Sheet):Int:=bif manyAt s (allR s) (nextB s).toNat==1 then 5 else 0
theorem next39 {Gl} (S:SP Gl) (s:Sheet) (hs:s.ok=true) (h0:0<(allR s).length):CO Gl 39 [tSheet s] (.ret (.tup [.c (Ci (nextN s)),.c (Ci (nextC s))])):=by
 refine fn_iq S (let A0:=(List.length (allR s));let A1:=(MEq (canT (allR s) A0) (fun key=>[Cb (canT (allR s) A0 key)]) (canT (allR s) A0) fun key=>[Cb (canT (allR s) A0 key)]);let A2:=fun (k0:Nat)=>(bestL (moreB s) (upR k0));let A3:=(cBook s (allR s));((.r (.ret (B true)) (.r (.ret (.tup [D.agg A3,D.c (Ci 0)])) (.ff (.loop (rows s) (fun k=>v 24 (I k)::v 23 (I (↑(rows s):Int))::v 4 (ad 4)::tk 100 3::v 6 (Lt 100 eI (upR k))::bx 4 A3) fun k0=>.br .nil (.r (.ret (I (A2 k0))) (.r (.ret (I (manyAt s (allR s) (Int.toNat (A2 k0))))) (.br .nil .nil))))))),(CO Gl 81 [tSheet s] (.ret (B true))/\CO Gl 82 [tSheet s,B true] (.ret (.tup [D.agg A3,D.c (Ci 0)]))/\false=false/\((0:Int)<=0/\0<(s.1.length:Int))/\(List.length (nth s.1 (Int.toNat (0:Int)))<=maxLen->(0=(↑(0:Nat):Int)/\(↑(List.length (nth s.1 (Int.toNat (0:Int)))):Int)=(↑(rows s):Int)/\(0:Nat)=(0:Nat)/\(sR eCol s.1)/\(sR eI s.2)/\(sR eCol (allR s))/\A1/\MEq (openD s A0) (fun key=>[Cb (openB s (allR s) A0 key)]) (openD s A0) fun key=>[Cb (openB s (allR s) A0 key)])/\∀ (k0:Nat),k0<=rows s->(decide ((k0:Int)<(↑(rows s):Int))=true->(List.length (upR k0)+1)*8<=140737488355328/\List.length (upR k0)+1<=140737488355328/\iR ((k0:Int)+1)/\k0<rows s/\(k0:Int)+1=(↑(k0+1):Int)/\(↑(rows s):Int)=(↑(rows s):Int)/\(SEq (List.length (upR k0)+1) (catF (List.length (upR k0)) (fun i=>eI (nth (upR k0) i)) fun i=>List.getD [List.map C.dem [C.v (Value.int IntKind.i64 (k0:Int))]] i []) (List.length (upR (k0+1))) fun i=>eI (nth (upR (k0+1)) i))/\(sR eCol s.1)/\(sR eI s.2)/\(sR eCol (allR s))/\A1/\MEq (openD s A0) (fun key=>[Cb (openB s (allR s) A0 key)]) (openD s A0) fun key=>[Cb (openB s (allR s) A0 key)])/\(decide ((k0:Int)<(↑(rows s):Int))=false->CO Gl 85 [L eI (upR k0),T.fn (96:FuncId) [] [T.d (D.rd A3)]] (.ret (I (A2 k0)))/\CO Gl 95 [T.d (D.agg A3),I (A2 k0)] (.ret (I (manyAt s (allR s) (Int.toNat (A2 k0)))))/\((manyAt s (allR s) (Int.toNat (A2 k0))==(1:Int))=true->(0:Int)=nextN s/\(5:Int)=nextC s)/\((manyAt s (allR s) (Int.toNat (A2 k0))==(1:Int))=false->bestL (moreB s) (upR k0)=nextN s/\(0:Int)=nextC s)))))) Tryz.func39 (by kernel_rfl) (by kernel_rfl) ?_
 obtain ⟨l1,l2,l3,l4⟩:=ok_len hs
 have hrs:=(col_len (l4 0 (by omega))).2.2
 have hul:=upR_len
 simp only [stdS,imp_self,implies_true,and_true,MEq_self]
 refine ⟨isSheetT S s hs,read82 S s hs h0,by omega,fun hm=>⟨⟨rfl,trivial⟩,fun k hk=>⟨fun hd=>?_,fun hd=>?_⟩⟩⟩
 ·have hlt:k<rows s:=by have:=of_decide_eq_true hd;omega
  have:=hul k
  exact ⟨by omega,by omega,(rng_iff _).2 (by omega),hlt,by omega,SEq_push1 (x:=(k:Int)) (upR_snoc k) rfl,trivial⟩
 ·have hke:k=rows s:=by have:=of_decide_eq_false hd;omega
  subst hke
  refine ⟨best85n S s _ hs (by omega) (Nat.le_refl _),manyS S s _ hs (nextB_rng (by omega)),fun hb=>?_,fun hb=>?_⟩
  all_goals
   have hb':(manyAt s (allR s) (nextB s).toNat==1)=_:=hb
   unfold nextN nextC
   rw [hb']
   exact ⟨rfl,rfl⟩
theorem wrongsOf_len (s:Sheet) (c:List Int):(wrongsOf s c).length=s.cols.length:=List.length_map ..
theorem wrongsOf_at {s:Sheet} {c:List Int} {h:Nat} (hh:h<s.cols.length):nth (wrongsOf s c) h=(wrongN c (nth s.cols h):Int):=nth_map hh
theorem sum_total (s:Sheet) (c:List Int):∀ h,h<=s.cols.length->sumTo (wrongsOf s c) h=totalTo s c h
 |0,_=>rfl
 |h+1,hh=>by
  unfold sumTo totalTo
  rw [sum_total s c h (by omega),wrongsOf_at (by omega)]
theorem sum_rng {s:Sheet} (hs:s.ok=true) (c:List Int):∀ h:Nat,h<=s.cols.length->0<=totalTo s c h/\totalTo s c h<=6*(h:Int)
 |0,_=>⟨Int.le_refl _,Int.le_refl _⟩
 |h+1,hh=>by
  have h1:=sum_rng hs c h (by omega)
  have h2:=col_len ((ok_len hs).2.2.2 h (by omega))
  have h3:=wrongTo_le c (nth s.cols h) (nth s.cols h).length
  have h4:(nth s.cols h).length=rows s:=h2.1
  have h5:=h2.2.2
  unfold totalTo wrongN
  omega
theorem allR_len {s:Sheet} (hs:s.ok=true):(allR s).length<=481890304:=by
 obtain ⟨l1,l2,l3,l4⟩:=ok_len hs
 have hrs:=(col_len (l4 0 (by omega))).2.2
 have h1:=colsR_len (s:=s) (fun r=>(listsOf_ok hs r).1) (rows s) [] s.errs
 have h2:28 ^ rows s<=28 ^ 6:=Nat.pow_le_pow_right (by decide) (by omega)
 unfold allR
 omega
theorem totals_len (s:Sheet) (l:List (List Int)):(totals s l).length=l.length:=List.length_map ..
theorem least29 {Gl} (S:SP Gl) (s:Sheet) (hs:s.ok=true) (h0:0<(allR s).length):CO Gl 29 [tSheet s] (.ret (.tup [.c (Ci (leastA s)),.c (Ci 0)])):=by
 refine fn_iq S (let A0:=(MEq (canT (allR s) (List.length (allR s))) (fun key=>[Cb (canT (allR s) (List.length (allR s)) key)]) (canT (allR s) (List.length (allR s))) fun key=>[Cb (canT (allR s) (List.length (allR s)) key)]);let A1:=(List.length (allR s));let A2:=fun (k0:Nat)=>(List.take k0 (totals s (allR s)));let A3:=fun (k0 k1:Nat)=>(List.take k1 (wrongsOf s (nth (allR s) k0)));let A4:=(List.length (allR s):Int);let A5:=(fun key=>[Cb (openB s (allR s) A1 key)]);let A6:=(sR eCol (allR s));let A7:=fun (k0:Nat)=>(nth (allR s) k0);let A8:=(openD s A1);let A9:=(s.1.length:Int);let A10:=(sR eCol s.1);let A11:=(cBook s (allR s));((.r (.ret (B true)) (.r (.ret (.tup [D.agg A11,D.c (Ci 0)])) (.ff (.loop A1 (fun k=>v 25 (I k)::v 24 (I A4)::v 23 (T.d (D.c (C.l eCol (allR s))))::v 4 (ad 4)::tk 100 3::v 6 (Lt 100 eI (List.take k (totals s (allR s))))::bx 4 A11) fun k0=>.br (.loop (List.length (Sheet.cols s)) (fun k=>v 33 (I k)::v 32 (I (List.length (Sheet.cols s):Int))::v 31 (T.d (D.c (C.l eCol (Sheet.cols s))))::v 25 (I k0)::v 24 (I A4)::v 23 (T.d (D.c (C.l eCol (allR s))))::v 8 (L eI (A7 k0))::v 4 (ad 4)::tk 100 3::v 6 (Lt 100 eI (A2 k0))::tk 101 3::v 9 (Lt 101 eI (List.take k (wrongsOf s (A7 k0))))::bx 4 A11) fun k1=>.br (.r (.ret (I (↑(wrongN (A7 k0) (nth s.1 k1)):Int))) .nil) (.r (.ret (I (sumL (A3 k0 k1)))) .nil)) (.r (.ret (I (bestL (fun x y=>decide (x<y)) (A2 k0)))) .nil))))),(CO Gl 81 [tSheet s] (.ret (B true))/\CO Gl 82 [tSheet s,B true] (.ret (.tup [D.agg A11,D.c (Ci 0)]))/\false=false/\(List.length (allR s)<=maxLen->(0=(↑(0:Nat):Int)/\A4=A4/\A6/\(0:Nat)=(0:Nat)/\A10/\(sR eI s.2)/\A6/\A0/\MEq A8 A5 A8 fun key=>[Cb (openB s (allR s) A1 key)])/\∀ (k0:Nat),k0<=List.length (allR s)->(decide ((k0:Int)<(List.length (allR s):Int))=true->(0<=(k0:Int)/\(k0:Int)<A4)/\(s.1.length<=maxLen->(0=(↑(0:Nat):Int)/\A9=A9/\A10/\(k0:Int)=(k0:Int)/\A4=A4/\A6/\(sR eI (A7 k0))/\(sR eI (A2 k0))/\(0:Nat)=(0:Nat)/\A10/\(sR eI s.2)/\A6/\A0/\MEq A8 A5 A8 fun key=>[Cb (openB s (allR s) A1 key)])/\∀ (k1:Nat),k1<=List.length (Sheet.cols s)->(decide ((k1:Int)<(s.1.length:Int))=true->(0<=(k1:Int)/\(k1:Int)<A9)/\CO Gl 83 [L eI (A7 k0),L eI (nth s.1 k1)] (.ret (I (↑(wrongN (A7 k0) (nth s.1 k1)):Int)))/\(List.length (A3 k0 k1)+1)*8<=140737488355328/\List.length (A3 k0 k1)+1<=140737488355328/\iR ((k1:Int)+1)/\k1<List.length (Sheet.cols s)/\(k1:Int)+1=(↑(k1+1):Int)/\A9=A9/\A10/\(k0:Int)=(k0:Int)/\A4=A4/\A6/\(sR eI (A7 k0))/\(sR eI (A2 k0))/\(SEq (List.length (A3 k0 k1)+1) (catF (List.length (A3 k0 k1)) (fun i=>eI (nth (A3 k0 k1) i)) fun i=>List.getD [List.map C.dem [C.v (Value.int IntKind.i64 (↑(wrongN (A7 k0) (nth s.1 k1)):Int))]] i []) (List.length (List.take (k1+1) (wrongsOf s (A7 k0)))) fun i=>eI (nth (List.take (k1+1) (wrongsOf s (A7 k0))) i))/\A10/\(sR eI s.2)/\A6/\A0/\MEq A8 A5 A8 fun key=>[Cb (openB s (allR s) A1 key)])/\(decide ((k1:Int)<(s.1.length:Int))=false->CO Gl 84 [L eI (A3 k0 k1)] (.ret (I (sumL (A3 k0 k1))))/\(List.length (A2 k0)+1)*8<=140737488355328/\List.length (A2 k0)+1<=140737488355328/\iR ((k0:Int)+1)/\k0<List.length (allR s)/\(k0:Int)+1=(↑(k0+1):Int)/\A4=A4/\A6/\(SEq (List.length (A2 k0)+1) (catF (List.length (A2 k0)) (fun i=>eI (nth (A2 k0) i)) fun i=>List.getD [List.map C.dem [C.v (Value.int IntKind.i64 (sumL (A3 k0 k1)))]] i []) (List.length (List.take (k0+1) (totals s (allR s)))) fun i=>eI (nth (List.take (k0+1) (totals s (allR s))) i))/\A10/\(sR eI s.2)/\A6/\A0/\MEq A8 A5 A8 fun key=>[Cb (openB s (allR s) A1 key)])))/\(decide ((k0:Int)<(List.length (allR s):Int))=false->CO Gl 85 [L eI (A2 k0),T.fn (86:FuncId) [] []] (.ret (I (bestL (fun x y=>decide (x<y)) (A2 k0))))/\bestL (fun x y=>decide (x<y)) (A2 k0)=leastA s/\(0:Int)=0))))) Tryz.func29 (by kernel_rfl) (by kernel_rfl) ?_
 obtain ⟨l1,l2,l3,l4⟩:=ok_len hs
 have hrs:=(col_len (l4 0 (by omega))).2.2
 have hcl:∀ i,i<s.cols.length->(nth s.cols i).length=rows s:=fun i hi=>(col_len (l4 i hi)).1
 have hlen:∀ k,k<(allR s).length->(nth (allR s) k).length=rows s:=fun k hk=>(allR_num hs hk).1
 have hall:=allR_len hs
 have htl:=totals_len s (allR s)
 simp only [stdS,imp_self,implies_true,and_true,MEq_self]
 refine ⟨isSheetT S s hs,read82 S s hs h0,fun hm k hk=>⟨fun hd=>?_,fun hd=>?_⟩⟩
 ·have hlt:k<(allR s).length:=by have:=of_decide_eq_true hd;omega
  have h1:=hlen k hlt
  have htk:((totals s (allR s)).take k).length=k:=by rw [List.length_take];omega
  have hwl:=wrongsOf_len s (nth (allR s) k)
  refine ⟨⟨by omega,by omega⟩,fun hm2 k1 hk1=>⟨fun hd1=>?_,fun hd1=>?_⟩⟩
  ·have hlt1:k1<s.cols.length:=by have:=of_decide_eq_true hd1;exact Int.ofNat_lt.1 this
   have htk1:((wrongsOf s (nth (allR s) k)).take k1).length=k1:=by rw [List.length_take];omega
   have h2:=hcl k1 hlt1
   exact ⟨⟨by omega,Int.ofNat_lt.2 hlt1⟩,wrong83 S _ _ (by show (nth s.cols k1).length<=_;omega) (by show (nth s.cols k1).length<=_;omega),by omega,by omega,(rng_iff _).2 (by omega),hlt1,by omega,SEq_push (by omega) (by rw [wrongsOf_at hlt1];rfl),trivial⟩
  ·have hke1:k1=s.cols.length:=by have:=of_decide_eq_false hd1;have h5:¬ (k1:Int)<(s.cols.length:Int):=this;omega
   subst hke1
   have hte:(wrongsOf s (nth (allR s) k)).take s.cols.length=wrongsOf s (nth (allR s) k):=List.take_of_length_le (by omega)
   rw [hte]
   refine ⟨sum84 S _ fun h hh=>?_,by omega,by omega,(rng_iff _).2 (by omega),hlt,by omega,SEq_push (by omega) ?_,trivial⟩
   ·rw [sum_total s _ h (by omega)]
    have:=sum_rng hs (nth (allR s) k) h (by omega)
    omega
   ·unfold totals sumL
    rw [nth_map hlt,hwl,sum_total s _ _ (Nat.le_refl _)]
    rfl
 ·have hke:k=(allR s).length:=by have:=of_decide_eq_false hd;omega
  subst hke
  have hte:(totals s (allR s)).take (allR s).length=totals s (allR s):=List.take_of_length_le (by omega)
  rw [hte]
  refine ⟨best85 S _ (by omega),?_⟩
  unfold bestL leastA
  rw [htl,least_best hs (fun c hc=>⟨((mem_allR hs c).1 hc).1,((mem_allR hs c).1 hc).2.2⟩) _ (by omega),show (allR s).length - 1+1=(allR s).length by omega]
  exact ⟨rfl,trivial⟩
theorem least29n {Gl} (S:SP Gl) (s:Sheet) (hs:s.ok=true) (h0:(allR s).length=0):CO Gl 29 [tSheet s] (.ret (.tup [.c (Ci 0),.c (Ci 5)])):=by
 refine fn_is S (.r (.ret (B true)) (.r (.ret (.tup [D.agg zBook,D.c (Ci 5)])) (.tt .nil))) Tryz.func29 (by kernel_rfl) (CO Gl 81 [tSheet s] (.ret (B true))/\CO Gl 82 [tSheet s,B true] (.ret (.tup [D.agg zBook,D.c (Ci 5)]))/\true=true/\(0:Int)=0/\(5:Int)=5) (by kernel_rfl) ?_
 exact ⟨isSheetT S s hs,read82n S s hs h0,rfl,rfl,rfl⟩
theorem least29e {Gl} (S:SP Gl) (s:Sheet) (hs:s.ok=false):CO Gl 29 [tSheet s] (.ret (.tup [.c (Ci 0),.c (Ci 2)])):=by
 refine fn_is S (.r (.ret (B false)) (.r (.ret (.tup [D.agg zBook,D.c (Ci 2)])) (.tt .nil))) Tryz.func29 (by kernel_rfl) (CO Gl 81 [tSheet s] (.ret (B false))/\CO Gl 82 [tSheet s,B false] (.ret (.tup [D.agg zBook,D.c (Ci 2)]))/\true=true/\(0:Int)=0/\(2:Int)=2) (by kernel_rfl) ?_
 exact ⟨isSheetF S s hs,read82e S s,rfl,rfl,rfl⟩
theorem other101 {Gl} (S:SP Gl) (d:List Int) (r:Nat) (c:Int) (h:r<d.length):CO Gl 101 [L eI d,.d (.rd [Ci r]),.d (.rd [Ci c])] (.ret (B (nth d r != c))):=by
 refine fn_is S (.nil) Tryz.func101 (by kernel_rfl) ((0<=(r:Int)/\(r:Int)<(d.length:Int))/\(nth d r != c)=(nth d r != c)) (by kernel_rfl) ?_
 simp only [stdS,imp_self,implies_true,and_true]
 exact ⟨⟨by omega,Int.ofNat_lt.2 h⟩,trivial⟩
theorem word100other {Gl} (S:SP Gl) (s:Sheet) (r:Nat) (c:Int) (hs:s.ok=true) (hr:r<rows s):CO Gl 100 [.d (.agg (cBook s (allR s))),.fn 101 [] [.d (.rd [Ci r]),.d (.rd [Ci c])]] (.ret (I (wordOf (cntTo (allR s) r c (allR s).length) (allR s).length))):=by
 refine fn_iq S (let A0:=(List.length (allR s));let A1:=(List.length (allR s):Int);let A2:=(MEq (canT (allR s) A0) (fun key=>[Cb (canT (allR s) A0 key)]) (canT (allR s) A0) fun key=>[Cb (canT (allR s) A0 key)]);let A3:=fun (k0:Nat)=>(↑(cntTo (allR s) r c k0):Int);let A4:=(fun key=>[Cb (openB s (allR s) A0 key)]);let A5:=(sR eCol (allR s));let A6:=(↑(cntTo (allR s) r c A0):Int);let A7:=fun (k0:Nat)=>(nth (nth (allR s) k0) r != c);((.loop A0 (fun k=>v 11 (I k)::v 10 (I A1)::v 9 (T.d (D.c (C.l eCol (allR s))))::v 1 (T.fn (101:FuncId) [] [T.d (D.rd [Ci r]),T.d (D.rd [Ci c])])::v 2 (ad 2)::v 5 (I (↑(cntTo (allR s) r c k):Int))::bx 2 (cBook s (allR s))) fun k0=>.br (.r (.ret (B (A7 k0))) (.br .nil .nil)) (.br .nil (.br .nil .nil))),(List.length (allR s)<=maxLen->(0=(↑(0:Nat):Int)/\A1=A1/\A5/\(101:Nat)=(101:Nat)/\(r:Int)=(r:Int)/\c=c/\0=(↑(cntTo (allR s) r c (0:Nat)):Int)/\(sR eCol s.1)/\(sR eI s.2)/\A5/\A2/\MEq (openD s A0) A4 (openD s A0) fun key=>[Cb (openB s (allR s) A0 key)])/\∀ (k0:Nat),k0<=List.length (allR s)->(decide ((k0:Int)<(List.length (allR s):Int))=true->(0<=(k0:Int)/\(k0:Int)<A1)/\CO Gl 101 [L eI (nth (allR s) k0),T.d (D.rd [Ci r]),T.d (D.rd [Ci c])] (.ret (B (A7 k0)))/\((A7 k0)=true->iR ((A3 k0)+1)/\iR ((k0:Int)+1)/\k0<List.length (allR s)/\(k0:Int)+1=(↑(k0+1):Int)/\A1=A1/\A5/\(101:Nat)=(101:Nat)/\(r:Int)=(r:Int)/\c=c/\(A3 k0)+1=(↑(cntTo (allR s) r c (k0+1)):Int)/\(sR eCol s.1)/\(sR eI s.2)/\A5/\A2/\MEq (openD s A0) A4 (openD s A0) fun key=>[Cb (openB s (allR s) A0 key)])/\((A7 k0)=false->iR ((k0:Int)+1)/\k0<List.length (allR s)/\(k0:Int)+1=(↑(k0+1):Int)/\A1=A1/\A5/\(101:Nat)=(101:Nat)/\(r:Int)=(r:Int)/\c=c/\(A3 k0)=(↑(cntTo (allR s) r c (k0+1)):Int)/\(sR eCol s.1)/\(sR eI s.2)/\A5/\A2/\MEq (openD s A0) A4 (openD s A0) fun key=>[Cb (openB s (allR s) A0 key)]))/\(decide ((k0:Int)<(List.length (allR s):Int))=false->(((A3 k0)==0)=true->(1:Int)=wordOf A6 A1)/\(((A3 k0)==0)=false->List.length (allR s)<=maxLen->(((A3 k0)==A1)=true->(3:Int)=wordOf A6 A1)/\(((A3 k0)==A1)=false->(2:Int)=wordOf A6 A1)))))) Tryz.func100 (by kernel_rfl) (by kernel_rfl) ?_
 have hall:=allR_len hs
 simp only [stdS,imp_self,implies_true,and_true,MEq_self]
 refine fun hm=>⟨⟨rfl,trivial⟩,fun k hk=>⟨fun hd=>?_,fun hd=>?_⟩⟩
 ·have hlt:k<(allR s).length:=by have:=of_decide_eq_true hd;omega
  have h1:=(allR_num hs hlt).1
  have hcn:=cntTo_le (allR s) r c k
  have hst:cntTo (allR s) r c (k+1)=cntTo (allR s) r c k+bif nth (nth (allR s) k) r != c then 1 else 0:=rfl
  refine ⟨⟨by omega,by omega⟩,other101 S _ r c (by omega),fun hb=>⟨(rng_iff _).2 (by omega),(rng_iff _).2 (by omega),hlt,by omega,?_,trivial⟩,fun hb=>⟨(rng_iff _).2 (by omega),hlt,by omega,?_,trivial⟩⟩
  ·rw [hst,hb];rfl
  ·rw [hst,hb];rfl
 ·have hke:k=(allR s).length:=by have:=of_decide_eq_false hd;omega
  subst hke
  unfold wordOf
  exact ⟨fun h=>by rw [h];rfl,fun h _=>⟨fun h2=>by rw [h,h2];rfl,fun h2=>by rw [h,h2];rfl⟩⟩
theorem alike107 {Gl} (S:SP Gl) (d:List Int) (r:Nat) (c:Int) (h:r<d.length):CO Gl 107 [L eI d,.d (.rd [Ci r]),.d (.rd [Ci c])] (.ret (B (nth d r != c))):=by
 refine fn_is S (.nil) Tryz.func107 (by kernel_rfl) ((0<=(r:Int)/\(r:Int)<(d.length:Int))/\(nth d r != c)=(nth d r != c)) (by kernel_rfl) ?_
 simp only [stdS,imp_self,implies_true,and_true]
 exact ⟨⟨by omega,Int.ofNat_lt.2 h⟩,trivial⟩
theorem word100alike {Gl} (S:SP Gl) (s:Sheet) (r:Nat) (c:Int) (hs:s.ok=true) (hr:r<rows s):CO Gl 100 [.d (.agg (cBook s (allR s))),.fn 107 [] [.d (.rd [Ci r]),.d (.rd [Ci c])]] (.ret (I (wordOf (cntTo (allR s) r c (allR s).length) (allR s).length))):=by
 refine fn_iq S (let A0:=(List.length (allR s));let A1:=(List.length (allR s):Int);let A2:=(MEq (canT (allR s) A0) (fun key=>[Cb (canT (allR s) A0 key)]) (canT (allR s) A0) fun key=>[Cb (canT (allR s) A0 key)]);let A3:=fun (k0:Nat)=>(↑(cntTo (allR s) r c k0):Int);let A4:=(fun key=>[Cb (openB s (allR s) A0 key)]);let A5:=(sR eCol (allR s));let A6:=(↑(cntTo (allR s) r c A0):Int);let A7:=fun (k0:Nat)=>(nth (nth (allR s) k0) r != c);((.loop A0 (fun k=>v 11 (I k)::v 10 (I A1)::v 9 (T.d (D.c (C.l eCol (allR s))))::v 1 (T.fn (107:FuncId) [] [T.d (D.rd [Ci r]),T.d (D.rd [Ci c])])::v 2 (ad 2)::v 5 (I (↑(cntTo (allR s) r c k):Int))::bx 2 (cBook s (allR s))) fun k0=>.br (.r (.ret (B (A7 k0))) (.br .nil .nil)) (.br .nil (.br .nil .nil))),(List.length (allR s)<=maxLen->(0=(↑(0:Nat):Int)/\A1=A1/\A5/\(107:Nat)=(107:Nat)/\(r:Int)=(r:Int)/\c=c/\0=(↑(cntTo (allR s) r c (0:Nat)):Int)/\(sR eCol s.1)/\(sR eI s.2)/\A5/\A2/\MEq (openD s A0) A4 (openD s A0) fun key=>[Cb (openB s (allR s) A0 key)])/\∀ (k0:Nat),k0<=List.length (allR s)->(decide ((k0:Int)<(List.length (allR s):Int))=true->(0<=(k0:Int)/\(k0:Int)<A1)/\CO Gl 107 [L eI (nth (allR s) k0),T.d (D.rd [Ci r]),T.d (D.rd [Ci c])] (.ret (B (A7 k0)))/\((A7 k0)=true->iR ((A3 k0)+1)/\iR ((k0:Int)+1)/\k0<List.length (allR s)/\(k0:Int)+1=(↑(k0+1):Int)/\A1=A1/\A5/\(107:Nat)=(107:Nat)/\(r:Int)=(r:Int)/\c=c/\(A3 k0)+1=(↑(cntTo (allR s) r c (k0+1)):Int)/\(sR eCol s.1)/\(sR eI s.2)/\A5/\A2/\MEq (openD s A0) A4 (openD s A0) fun key=>[Cb (openB s (allR s) A0 key)])/\((A7 k0)=false->iR ((k0:Int)+1)/\k0<List.length (allR s)/\(k0:Int)+1=(↑(k0+1):Int)/\A1=A1/\A5/\(107:Nat)=(107:Nat)/\(r:Int)=(r:Int)/\c=c/\(A3 k0)=(↑(cntTo (allR s) r c (k0+1)):Int)/\(sR eCol s.1)/\(sR eI s.2)/\A5/\A2/\MEq (openD s A0) A4 (openD s A0) fun key=>[Cb (openB s (allR s) A0 key)]))/\(decide ((k0:Int)<(List.length (allR s):Int))=false->(((A3 k0)==0)=true->(1:Int)=wordOf A6 A1)/\(((A3 k0)==0)=false->List.length (allR s)<=maxLen->(((A3 k0)==A1)=true->(3:Int)=wordOf A6 A1)/\(((A3 k0)==A1)=false->(2:Int)=wordOf A6 A1)))))) Tryz.func100 (by kernel_rfl) (by kernel_rfl) ?_
 have hall:=allR_len hs
 simp only [stdS,imp_self,implies_true,and_true,MEq_self]
 refine fun hm=>⟨⟨rfl,trivial⟩,fun k hk=>⟨fun hd=>?_,fun hd=>?_⟩⟩
 ·have hlt:k<(allR s).length:=by have:=of_decide_eq_true hd;omega
  have h1:=(allR_num hs hlt).1
  have hcn:=cntTo_le (allR s) r c k
  have hst:cntTo (allR s) r c (k+1)=cntTo (allR s) r c k+bif nth (nth (allR s) k) r != c then 1 else 0:=rfl
  refine ⟨⟨by omega,by omega⟩,alike107 S _ r c (by omega),fun hb=>⟨(rng_iff _).2 (by omega),(rng_iff _).2 (by omega),hlt,by omega,?_,trivial⟩,fun hb=>⟨(rng_iff _).2 (by omega),hlt,by omega,?_,trivial⟩⟩
  ·rw [hst,hb];rfl
  ·rw [hst,hb];rfl
 ·have hke:k=(allR s).length:=by have:=of_decide_eq_false hd;omega
  subst hke
  unfold wordOf
  exact ⟨fun h=>by rw [h];rfl,fun h _=>⟨fun h2=>by rw [h,h2];rfl,fun h2=>by rw [h,h2];rfl⟩⟩
def cntW (l:List (List Int)) (own:List Int):Nat->Nat
 |0=>0
 |k+1=>cntW l own k+bif decide (0<(wrongN (nth l k) own:Int)) then 1 else 0
theorem cntW_le (l:List (List Int)) (own:List Int):∀ k,cntW l own k<=k
 |0=>Nat.le_refl _
 |k+1=>by
  have:=cntW_le l own k
  unfold cntW
  cases decide (0<(wrongN (nth l k) own:Int))<;>simp<;>omega
theorem some102 {Gl} (S:SP Gl) (d own:List Int) (h:own.length<=d.length) (hl:own.length<=1000):CO Gl 102 [L eI d,.d (.rd [.l eI own])] (.ret (B (decide (0<(wrongN d own:Int))))):=by
 refine fn_is S (.r (.ret (I (↑(wrongN d own):Int))) .nil) Tryz.func102 (by kernel_rfl) (CO Gl 83 [L eI d,L eI own] (.ret (I (↑(wrongN d own):Int)))/\decide (0<(↑(wrongN d own):Int))=decide (0<(↑(wrongN d own):Int))) (by kernel_rfl) ?_
 exact ⟨wrong83 S d own h hl,rfl⟩
theorem word100some {Gl} (S:SP Gl) (s:Sheet) (own:List Int) (hs:s.ok=true) (hr:own.length=rows s):CO Gl 100 [.d (.agg (cBook s (allR s))),.fn 102 [] [.d (.rd [.l eI own])]] (.ret (I (wordOf (cntW (allR s) own (allR s).length) (allR s).length))):=by
 refine fn_iq S (let A0:=(List.length (allR s));let A1:=(List.length (allR s):Int);let A2:=(MEq (canT (allR s) A0) (fun key=>[Cb (canT (allR s) A0 key)]) (canT (allR s) A0) fun key=>[Cb (canT (allR s) A0 key)]);let A3:=fun (k0:Nat)=>(↑(cntW (allR s) own k0):Int);let A4:=(fun key=>[Cb (openB s (allR s) A0 key)]);let A5:=(sR eCol (allR s));let A6:=(↑(cntW (allR s) own A0):Int);((.loop A0 (fun k=>v 11 (I k)::v 10 (I A1)::v 9 (T.d (D.c (C.l eCol (allR s))))::v 1 (T.fn (102:FuncId) [] [T.d (D.rd [C.l eI own])])::v 2 (ad 2)::v 5 (I (↑(cntW (allR s) own k):Int))::bx 2 (cBook s (allR s))) fun k0=>.br (.r (.ret (B (decide (0<(↑(wrongN (nth (allR s) k0) own):Int))))) (.br .nil .nil)) (.br .nil (.br .nil .nil))),(List.length (allR s)<=maxLen->(0=(↑(0:Nat):Int)/\A1=A1/\A5/\(102:Nat)=(102:Nat)/\(sR eI own)/\0=(↑(cntW (allR s) own (0:Nat)):Int)/\(sR eCol s.1)/\(sR eI s.2)/\A5/\A2/\MEq (openD s A0) A4 (openD s A0) fun key=>[Cb (openB s (allR s) A0 key)])/\∀ (k0:Nat),k0<=List.length (allR s)->(decide ((k0:Int)<(List.length (allR s):Int))=true->(0<=(k0:Int)/\(k0:Int)<A1)/\CO Gl 102 [L eI (nth (allR s) k0),T.d (D.rd [C.l eI own])] (.ret (B (decide (0<(↑(wrongN (nth (allR s) k0) own):Int)))))/\(decide (0<(↑(wrongN (nth (allR s) k0) own):Int))=true->iR ((A3 k0)+1)/\iR ((k0:Int)+1)/\k0<List.length (allR s)/\(k0:Int)+1=(↑(k0+1):Int)/\A1=A1/\A5/\(102:Nat)=(102:Nat)/\(sR eI own)/\(A3 k0)+1=(↑(cntW (allR s) own (k0+1)):Int)/\(sR eCol s.1)/\(sR eI s.2)/\A5/\A2/\MEq (openD s A0) A4 (openD s A0) fun key=>[Cb (openB s (allR s) A0 key)])/\(decide (0<(↑(wrongN (nth (allR s) k0) own):Int))=false->iR ((k0:Int)+1)/\k0<List.length (allR s)/\(k0:Int)+1=(↑(k0+1):Int)/\A1=A1/\A5/\(102:Nat)=(102:Nat)/\(sR eI own)/\(A3 k0)=(↑(cntW (allR s) own (k0+1)):Int)/\(sR eCol s.1)/\(sR eI s.2)/\A5/\A2/\MEq (openD s A0) A4 (openD s A0) fun key=>[Cb (openB s (allR s) A0 key)]))/\(decide ((k0:Int)<(List.length (allR s):Int))=false->(((A3 k0)==0)=true->(1:Int)=wordOf A6 A1)/\(((A3 k0)==0)=false->List.length (allR s)<=maxLen->(((A3 k0)==A1)=true->(3:Int)=wordOf A6 A1)/\(((A3 k0)==A1)=false->(2:Int)=wordOf A6 A1)))))) Tryz.func100 (by kernel_rfl) (by kernel_rfl) ?_
 have hall:=allR_len hs
 obtain ⟨l1,l2,l3,l4⟩:=ok_len hs
 have hrs:=(col_len (l4 0 (by omega))).2.2
 simp only [stdS,imp_self,implies_true,and_true,MEq_self]
 refine fun hm=>⟨⟨rfl,trivial⟩,fun k hk=>⟨fun hd=>?_,fun hd=>?_⟩⟩
 ·have hlt:k<(allR s).length:=by have:=of_decide_eq_true hd;omega
  have h1:=(allR_num hs hlt).1
  have hcn:=cntW_le (allR s) own k
  have hst:cntW (allR s) own (k+1)=cntW (allR s) own k+bif decide (0<(wrongN (nth (allR s) k) own:Int)) then 1 else 0:=rfl
  refine ⟨⟨by omega,by omega⟩,some102 S _ own (by omega) (by omega),fun hb=>⟨(rng_iff _).2 (by omega),(rng_iff _).2 (by omega),hlt,by omega,?_,trivial⟩,fun hb=>⟨(rng_iff _).2 (by omega),hlt,by omega,?_,trivial⟩⟩
  ·rw [hst,hb];rfl
  ·rw [hst,hb];rfl
 ·have hke:k=(allR s).length:=by have:=of_decide_eq_false hd;omega
  subst hke
  unfold wordOf
  exact ⟨fun h=>by rw [h];rfl,fun h _=>⟨fun h2=>by rw [h,h2];rfl,fun h2=>by rw [h,h2];rfl⟩⟩
theorem inT {Gl} (S:SP Gl) (x lo hi:Int) (h:inR x lo hi=true):CO Gl 93 [I x,I lo,I hi] (.ret (B true)):=by
 have h1:=in93 S x lo hi
 rw [h] at h1
 exact h1
theorem inF {Gl} (S:SP Gl) (x lo hi:Int) (h:inR x lo hi=false):CO Gl 93 [I x,I lo,I hi] (.ret (B false)):=by
 have h1:=in93 S x lo hi
 rw [h] at h1
 exact h1
theorem values37 {Gl} (S:SP Gl) (s:Sheet) (r:Nat) (hs:s.ok=true) (h0:0<(allR s).length) (hr:r<rows s):CO Gl 37 [tSheet s,I r] (.ret (.tup [.c (.l eI (bif isOpen s (allR s) r then [] else valL (allR s) r)),.c (Ci (bif isOpen s (allR s) r then 8 else 0))])):=by
 refine fn_iq S (let A0:=(List.length (allR s));let A1:=(bif isOpen s (allR s) r then [] else valL (allR s) r);((.r (.ret (B true)) (.sure 13 (.sure 14 (.sure 15 (.sure 16 (.sure 17 (.sure 18 (.sure 19 (.sure 20 (.r (.ret (B true)) (.r (.ret (.tup [D.agg (cBook s (allR s)),D.c (Ci 0)])) (.ff (.br .nil (.r (.ret (L eI (valL (allR s) r))) .nil)))))))))))))),(CO Gl 81 [tSheet s] (.ret (B true))/\true=true/\true=true/\true=true/\true=true/\((0:Int)<=0/\0<(s.1.length:Int))/\true=true/\true=true/\(List.length (nth s.1 (Int.toNat (0:Int)))<=maxLen->true=true/\iR ((↑(List.length (nth s.1 (Int.toNat (0:Int)))):Int)-1)/\true=true/\CO Gl 93 [I r,I 0,I ((↑(rows s):Int)-1)] (.ret (B true))/\CO Gl 82 [tSheet s,B true] (.ret (.tup [D.agg (cBook s (allR s)),D.c (Ci 0)]))/\false=false/\(openD s A0 [(r:Int)]=false->[C.v (Value.bool (openB s (allR s) A0 [(r:Int)]))]=[C.v (Value.bool false)])/\(openB s (allR s) A0 [(r:Int)]=true->List.length A1=(0:Nat)/\(8:Int)=bif isOpen s (allR s) r then (8:Int) else (0:Int))/\(openB s (allR s) A0 [(r:Int)]=false->CO Gl 94 [T.d (D.agg (cBook s (allR s))),I r] (.ret (L eI (valL (allR s) r)))/\(sQ eI (valL (allR s) r) A1)/\(0:Int)=bif isOpen s (allR s) r then (8:Int) else (0:Int)))))) Tryz.func37 (by kernel_rfl) (by kernel_rfl) ?_
 obtain ⟨l1,l2,l3,l4⟩:=ok_len hs
 have hrs:=(col_len (l4 0 (by omega))).2.2
 have hl0:(nth s.cols (Int.toNat 0)).length=rows s:=rfl
 simp only [stdS,imp_self,implies_true,and_true]
 rw [hl0]
 have ho:=open_is (allR s) hr
 refine ⟨isSheetT S s hs,by omega,fun hm=>⟨(rng_iff _).2 (by omega),inT S _ _ _ (inR_iff.2 ⟨by omega,by omega⟩),read82 S s hs h0,fun h=>?_,fun h=>?_,fun h=>⟨values94 S s r hs hr,?_⟩⟩⟩
 ·unfold openD at h
  rw [rowD_at hr,Bool.and_true] at h
  have:=of_decide_eq_false h
  omega
 ·rw [<-ho,h]
  exact ⟨rfl,rfl⟩
 ·rw [<-ho,h]
  exact ⟨SEq_whole rfl,rfl⟩
theorem values37n {Gl} (S:SP Gl) (s:Sheet) (r:Nat) (hs:s.ok=true) (h0:(allR s).length=0) (hr:r<rows s):CO Gl 37 [tSheet s,I r] (.ret (.tup [.c (.l eI []),.c (Ci 5)])):=by
 refine fn_is S (.r (.ret (B true)) (.sure 13 (.sure 14 (.sure 15 (.sure 16 (.sure 17 (.sure 18 (.sure 19 (.sure 20 (.r (.ret (B true)) (.r (.ret (.tup [D.agg zBook,D.c (Ci 5)])) (.tt .nil)))))))))))) Tryz.func37 (by kernel_rfl) (CO Gl 81 [tSheet s] (.ret (B true))/\true=true/\true=true/\true=true/\true=true/\((0:Int)<=0/\0<(s.1.length:Int))/\true=true/\true=true/\(List.length (nth s.1 (Int.toNat (0:Int)))<=maxLen->true=true/\iR ((↑(List.length (nth s.1 (Int.toNat (0:Int)))):Int)-1)/\true=true/\CO Gl 93 [I r,I 0,I ((↑(rows s):Int)-1)] (.ret (B true))/\CO Gl 82 [tSheet s,B true] (.ret (.tup [D.agg zBook,D.c (Ci 5)]))/\true=true/\(0:Nat)=(0:Nat)/\(5:Int)=5)) (by kernel_rfl) ?_
 obtain ⟨l1,l2,l3,l4⟩:=ok_len hs
 have hrs:=(col_len (l4 0 (by omega))).2.2
 have hl0:(nth s.cols (Int.toNat 0)).length=rows s:=rfl
 simp only [stdS,imp_self,implies_true,and_true]
 rw [hl0]
 exact ⟨isSheetT S s hs,by omega,fun hm=>⟨(rng_iff _).2 (by omega),inT S _ _ _ (inR_iff.2 ⟨by omega,by omega⟩),read82n S s hs h0,trivial⟩⟩
theorem values37r {Gl} (S:SP Gl) (s:Sheet) (r:Int) (hs:s.ok=true) (hr:inR r 0 ((rows s:Int) - 1)=false):CO Gl 37 [tSheet s,I r] (.ret (.tup [.c (.l eI []),.c (Ci 2)])):=by
 refine fn_is S (.r (.ret (B true)) (.sure 13 (.sure 14 (.sure 15 (.sure 16 (.sure 17 (.sure 18 (.sure 19 (.sure 20 (.r (.ret (B false)) (.r (.ret (.tup [D.agg zBook,D.c (Ci 2)])) (.tt .nil)))))))))))) Tryz.func37 (by kernel_rfl) (CO Gl 81 [tSheet s] (.ret (B true))/\true=true/\true=true/\true=true/\true=true/\((0:Int)<=0/\0<(s.1.length:Int))/\true=true/\true=true/\(List.length (nth s.1 (Int.toNat (0:Int)))<=maxLen->true=true/\iR ((↑(List.length (nth s.1 (Int.toNat (0:Int)))):Int)-1)/\true=true/\CO Gl 93 [I r,I 0,I ((↑(rows s):Int)-1)] (.ret (B false))/\CO Gl 82 [tSheet s,B false] (.ret (.tup [D.agg zBook,D.c (Ci 2)]))/\true=true/\(0:Nat)=(0:Nat)/\(2:Int)=2)) (by kernel_rfl) ?_
 obtain ⟨l1,l2,l3,l4⟩:=ok_len hs
 have hrs:=(col_len (l4 0 (by omega))).2.2
 have hl0:(nth s.cols (Int.toNat 0)).length=rows s:=rfl
 simp only [stdS,imp_self,implies_true,and_true]
 rw [hl0]
 exact ⟨isSheetT S s hs,by omega,fun hm=>⟨(rng_iff _).2 (by omega),inF S _ _ _ hr,read82e S s,trivial⟩⟩
theorem values37e {Gl} (S:SP Gl) (s:Sheet) (r:Int) (hs:s.ok=false):CO Gl 37 [tSheet s,I r] (.ret (.tup [.c (.l eI []),.c (Ci 2)])):=by
 refine fn_is S (.r (.ret (B false)) (.skip (13:Nat) (.skip (14:Nat) (.skip (15:Nat) (.skip (16:Nat) (.skip (17:Nat) (.skip (18:Nat) (.skip (19:Nat) (.skip (20:Nat) (.r (.ret (.tup [D.agg zBook,D.c (Ci 2)])) (.tt .nil))))))))))) Tryz.func37 (by kernel_rfl) (CO Gl 81 [tSheet s] (.ret (B false))/\false=false/\false=false/\false=false/\false=false/\false=false/\false=false/\false=false/\false=false/\(false=true->false=true)/\CO Gl 82 [tSheet s,B false] (.ret (.tup [D.agg zBook,D.c (Ci 2)]))/\true=true/\(0:Nat)=(0:Nat)/\(2:Int)=2) (by kernel_rfl) ?_
 simp only [stdS,imp_self,implies_true,and_true]
 exact ⟨isSheetF S s hs,read82e S s,trivial⟩
theorem wrong48 {Gl} (S:SP Gl) (s:Sheet) (h:Nat) (hs:s.ok=true) (h0:0<(allR s).length) (hh:h<s.cols.length):CO Gl 48 [tSheet s,I h] (.ret (.tup [.c (.l eI (wrongsL s (allR s) h)),.c (Ci 0)])):=by
 refine fn_iq S (let A0:=(List.length (allR s));let A1:=(wrongsL s (allR s) h);let A2:=fun (k0:Nat)=>(wordOf (↑(cntTo (allR s) k0 (nth (nth s.1 h) k0) A0):Int) (List.length (allR s):Int));let A3:=(MEq (canT (allR s) A0) (fun key=>[Cb (canT (allR s) A0 key)]) (canT (allR s) A0) fun key=>[Cb (canT (allR s) A0 key)]);let A4:=(cBook s (allR s));((.r (.ret (B true)) (.sure 16 (.sure 17 (.sure 18 (.sure 19 (.sure 20 (.sure 21 (.r (.ret (B true)) (.r (.ret (.tup [D.agg A4,D.c (Ci 0)])) (.ff (.loop (rows s) (fun k=>v 36 (I k)::v 35 (I (↑(rows s):Int))::v 34 (L eI (nth (Sheet.cols s) h))::v 6 (ad 6)::tk 100 68::v 8 (Lt 100 eI (List.take k A1))::bx 6 A4) fun k0=>.br (.r (.ret (I (A2 k0))) .nil) .nil))))))))))),(CO Gl 81 [tSheet s] (.ret (B true))/\true=true/\true=true/\true=true/\true=true/\(s.1.length<=maxLen->true=true/\iR ((s.1.length:Int)-1)/\true=true/\CO Gl 93 [I h,I 0,I ((List.length (Sheet.cols s):Int)-1)] (.ret (B true))/\CO Gl 82 [tSheet s,B true] (.ret (.tup [D.agg A4,D.c (Ci 0)]))/\false=false/\(0<=(h:Int)/\(h:Int)<(s.1.length:Int))/\(List.length (nth s.1 h)<=maxLen->(0=(↑(0:Nat):Int)/\(List.length (nth s.1 h):Int)=(↑(rows s):Int)/\(sR eI (nth s.1 h))/\(0:Nat)=(0:Nat)/\(sR eCol s.1)/\(sR eI s.2)/\(sR eCol (allR s))/\A3/\MEq (openD s A0) (fun key=>[Cb (openB s (allR s) A0 key)]) (openD s A0) fun key=>[Cb (openB s (allR s) A0 key)])/\∀ (k0:Nat),k0<=rows s->(decide ((k0:Int)<(↑(rows s):Int))=true->(0<=(k0:Int)/\(k0:Int)<(List.length (nth s.1 h):Int))/\CO Gl 100 [T.d (D.agg A4),T.fn (101:FuncId) [] [T.d (D.rd [Ci k0]),T.d (D.rd [Ci (nth (nth s.1 h) k0)])]] (.ret (I (A2 k0)))/\(List.length (List.take k0 A1)+1)*8<=140737488355328/\List.length (List.take k0 A1)+1<=140737488355328/\iR ((k0:Int)+1)/\k0<rows s/\(k0:Int)+1=(↑(k0+1):Int)/\(↑(rows s):Int)=(↑(rows s):Int)/\(sR eI (nth s.1 h))/\(SEq (List.length (List.take k0 A1)+1) (catF (List.length (List.take k0 A1)) (fun i=>eI (nth (List.take k0 A1) i)) fun i=>List.getD [List.map C.dem [C.v (Value.int IntKind.i64 (A2 k0))]] i []) (List.length (List.take (k0+1) A1)) fun i=>eI (nth (List.take (k0+1) A1) i))/\(sR eCol s.1)/\(sR eI s.2)/\(sR eCol (allR s))/\A3/\MEq (openD s A0) (fun key=>[Cb (openB s (allR s) A0 key)]) (openD s A0) fun key=>[Cb (openB s (allR s) A0 key)])/\(decide ((k0:Int)<(↑(rows s):Int))=false->(sQ eI (List.take k0 A1) A1)/\(0:Int)=0)))))) Tryz.func48 (by kernel_rfl) (by kernel_rfl) ?_
 obtain ⟨l1,l2,l3,l4⟩:=ok_len hs
 have hrs:=(col_len (l4 0 (by omega))).2.2
 have hl0:(nth s.cols (Int.toNat 0)).length=rows s:=rfl
 have hch:(nth s.cols h).length=rows s:=(col_len (l4 h hh)).1
 have hn:(wrongsL s (allR s) h).length=rows s:=by unfold wrongsL;rw [List.length_map,List.length_range]
 simp only [stdS,imp_self,implies_true,and_true,MEq_self]
 refine ⟨isSheetT S s hs,fun hm=>⟨(rng_iff _).2 (by omega),inT S _ _ _ (inR_iff.2 ⟨by omega,by omega⟩),read82 S s hs h0,⟨by omega,Int.ofNat_lt.2 hh⟩,fun hm2=>⟨⟨by omega,trivial⟩,fun k hk=>⟨fun hd=>?_,fun hd=>?_⟩⟩⟩⟩
 ·have hlt:k<rows s:=by have:=of_decide_eq_true hd;omega
  have htk:((wrongsL s (allR s) h).take k).length=k:=by rw [List.length_take];omega
  have hx:nth (wrongsL s (allR s) h) k=wordOf (cntTo (allR s) k (nth (nth s.cols h) k) (allR s).length) (allR s).length:=by
   unfold wrongsL
   rw [nth_map (by rw [List.length_range];exact hlt),nth_range hlt]
   rfl
  exact ⟨⟨by omega,by omega⟩,word100other S s k _ hs hlt,by omega,by omega,(rng_iff _).2 (by omega),hlt,by omega,SEq_push (by omega) (by rw [hx];rfl),trivial⟩
 ·have hke:k=rows s:=by have:=of_decide_eq_false hd;omega
  subst hke
  exact ⟨SEq_whole (by rw [<-hn,List.take_length]),trivial⟩
theorem cntW_H {s:Sheet} (hs:s.ok=true) {h:Nat} (hh:h<s.cols.length):∀ {k:Nat},k<=(allR s).length->cntW (allR s) (nth s.cols h) k=cntH s (allR s) h k
 |0,_=>rfl
 |k+1,hk=>by
  have ih:=cntW_H hs hh (k:=k) (by omega)
  have he:=erred_wrong hs (allR_is hs (nth_mem (show k<(allR s).length by omega))) hh
  have hcl:(nth s.cols h).length=rows s:=(col_len ((ok_len hs).2.2.2 h hh)).1
  unfold cntW cntH
  rw [ih,he]
  unfold wrongN
  rw [hcl]
  congr 1
  by_cases h2:0<wrongTo (nth (allR s) k) (nth s.cols h) (rows s)
  ·rw [decide_eq_true h2,decide_eq_true (show (0:Int)<(wrongTo (nth (allR s) k) (nth s.cols h) (rows s):Int) by omega)]
  ·rw [decide_eq_false h2,decide_eq_false (show ¬ (0:Int)<(wrongTo (nth (allR s) k) (nth s.cols h) (rows s):Int) by omega)]
theorem hands49 {Gl} (S:SP Gl) (s:Sheet) (hs:s.ok=true) (h0:0<(allR s).length):CO Gl 49 [tSheet s] (.ret (.tup [.c (.l eI (handsL s (allR s))),.c (Ci 0)])):=by
 refine fn_iq S (let A0:=(List.length (allR s));let A1:=(handsL s (allR s));let A2:=fun (k0:Nat)=>(wordOf (↑(cntW (allR s) (nth s.1 k0) A0):Int) (List.length (allR s):Int));let A3:=(MEq (canT (allR s) A0) (fun key=>[Cb (canT (allR s) A0 key)]) (canT (allR s) A0) fun key=>[Cb (canT (allR s) A0 key)]);let A4:=(s.1.length:Int);let A5:=(cBook s (allR s));((.r (.ret (B true)) (.r (.ret (.tup [D.agg A5,D.c (Ci 0)])) (.ff (.loop (List.length (Sheet.cols s)) (fun k=>v 23 (I k)::v 22 (I (List.length (Sheet.cols s):Int))::v 21 (T.d (D.c (C.l eCol (Sheet.cols s))))::v 4 (ad 4)::tk 100 68::v 6 (Lt 100 eI (List.take k A1))::bx 4 A5) fun k0=>.br (.r (.ret (I (A2 k0))) .nil) .nil)))),(CO Gl 81 [tSheet s] (.ret (B true))/\CO Gl 82 [tSheet s,B true] (.ret (.tup [D.agg A5,D.c (Ci 0)]))/\false=false/\(s.1.length<=maxLen->(0=(↑(0:Nat):Int)/\A4=A4/\(sR eCol s.1)/\(0:Nat)=(0:Nat)/\(sR eCol s.1)/\(sR eI s.2)/\(sR eCol (allR s))/\A3/\MEq (openD s A0) (fun key=>[Cb (openB s (allR s) A0 key)]) (openD s A0) fun key=>[Cb (openB s (allR s) A0 key)])/\∀ (k0:Nat),k0<=List.length (Sheet.cols s)->(decide ((k0:Int)<(s.1.length:Int))=true->(0<=(k0:Int)/\(k0:Int)<A4)/\CO Gl 100 [T.d (D.agg A5),T.fn (102:FuncId) [] [T.d (D.rd [C.l eI (nth s.1 k0)])]] (.ret (I (A2 k0)))/\(List.length (List.take k0 A1)+1)*8<=140737488355328/\List.length (List.take k0 A1)+1<=140737488355328/\iR ((k0:Int)+1)/\k0<List.length (Sheet.cols s)/\(k0:Int)+1=(↑(k0+1):Int)/\A4=A4/\(sR eCol s.1)/\(SEq (List.length (List.take k0 A1)+1) (catF (List.length (List.take k0 A1)) (fun i=>eI (nth (List.take k0 A1) i)) fun i=>List.getD [List.map C.dem [C.v (Value.int IntKind.i64 (A2 k0))]] i []) (List.length (List.take (k0+1) A1)) fun i=>eI (nth (List.take (k0+1) A1) i))/\(sR eCol s.1)/\(sR eI s.2)/\(sR eCol (allR s))/\A3/\MEq (openD s A0) (fun key=>[Cb (openB s (allR s) A0 key)]) (openD s A0) fun key=>[Cb (openB s (allR s) A0 key)])/\(decide ((k0:Int)<(s.1.length:Int))=false->(sQ eI (List.take k0 A1) A1)/\(0:Int)=0))))) Tryz.func49 (by kernel_rfl) (by kernel_rfl) ?_
 obtain ⟨l1,l2,l3,l4⟩:=ok_len hs
 have hrs:=(col_len (l4 0 (by omega))).2.2
 have hl0:(nth s.cols (Int.toNat 0)).length=rows s:=rfl
 have hn:(handsL s (allR s)).length=s.cols.length:=by unfold handsL;rw [List.length_map,List.length_range]
 have hcl:∀ i,i<s.cols.length->(nth s.cols i).length=rows s:=fun i hi=>(col_len (l4 i hi)).1
 simp only [stdS,imp_self,implies_true,and_true,MEq_self]
 refine ⟨isSheetT S s hs,read82 S s hs h0,fun hm k hk=>⟨fun hd=>?_,fun hd=>?_⟩⟩
 ·have hlt:k<s.cols.length:=by have:=of_decide_eq_true hd;exact Int.ofNat_lt.1 this
  have htk:((handsL s (allR s)).take k).length=k:=by rw [List.length_take];omega
  have hx:nth (handsL s (allR s)) k=wordOf (cntH s (allR s) k (allR s).length) (allR s).length:=by
   unfold handsL
   rw [nth_map (by rw [List.length_range];exact hlt),nth_range hlt]
  have h1:=hcl k hlt
  exact ⟨⟨by omega,Int.ofNat_lt.2 hlt⟩,word100some S s _ hs h1,by omega,by omega,(rng_iff _).2 (by omega),hlt,by omega,SEq_push (by omega) (by rw [hx,<-cntW_H hs hlt (Nat.le_refl _)];rfl),trivial⟩
 ·have hke:k=s.cols.length:=by have:=of_decide_eq_false hd;have h5:¬ (k:Int)<(s.cols.length:Int):=this;omega
  subst hke
  exact ⟨SEq_whole (by rw [<-hn,List.take_length]),trivial⟩
theorem hands49n {Gl} (S:SP Gl) (s:Sheet) (hs:s.ok=true) (h0:(allR s).length=0):CO Gl 49 [tSheet s] (.ret (.tup [.c (.l eI []),.c (Ci 5)])):=by
 refine fn_is S (.r (.ret (B true)) (.r (.ret (.tup [D.agg zBook,D.c (Ci 5)])) (.tt .nil))) Tryz.func49 (by kernel_rfl) (CO Gl 81 [tSheet s] (.ret (B true))/\CO Gl 82 [tSheet s,B true] (.ret (.tup [D.agg zBook,D.c (Ci 5)]))/\true=true/\(0:Nat)=(0:Nat)/\(5:Int)=5) (by kernel_rfl) ?_
 exact ⟨isSheetT S s hs,read82n S s hs h0,rfl,rfl,rfl⟩
theorem hands49e {Gl} (S:SP Gl) (s:Sheet) (hs:s.ok=false):CO Gl 49 [tSheet s] (.ret (.tup [.c (.l eI []),.c (Ci 2)])):=by
 refine fn_is S (.r (.ret (B false)) (.r (.ret (.tup [D.agg zBook,D.c (Ci 2)])) (.tt .nil))) Tryz.func49 (by kernel_rfl) (CO Gl 81 [tSheet s] (.ret (B false))/\CO Gl 82 [tSheet s,B false] (.ret (.tup [D.agg zBook,D.c (Ci 2)]))/\true=true/\(0:Nat)=(0:Nat)/\(2:Int)=2) (by kernel_rfl) ?_
 exact ⟨isSheetF S s hs,read82e S s,rfl,rfl,rfl⟩
theorem met_cnt (s:Sheet) (l:List (List Int)) (a b r:Nat):∀ k,metTo s l a b r k=(nth (nth s.cols a) r==nth (nth s.cols b) r&&!(cntTo l r (nth (nth s.cols a) r) k==0))
 |0=>by
  unfold metTo cntTo
  simp
 |k+1=>by
  unfold metTo cntTo
  rw [met_cnt s l a b r k]
  cases nth (nth s.cols a) r==nth (nth s.cols b) r
  ·rfl
  ·cases nth (nth l k) r != nth (nth s.cols a) r
   ·simp
   ·simp
theorem word_ne1 (n:Nat) (m:Int):(wordOf (n:Int) m != 1)=!(n==0):=by
 unfold wordOf
 cases n with
 |zero=>rfl
 |succ n=>
  rw [show (((n+1:Nat):Int)==0)=false from beq_eq_false_iff_ne.2 (by omega),cond_false]
  cases ((n+1:Nat):Int)==m<;>rfl
theorem met_word (s:Sheet) (l:List (List Int)) (a b r:Nat) (m:Int):(bif nth (nth s.cols b) r==nth (nth s.cols a) r then wordOf (cntTo l r (nth (nth s.cols a) r) l.length:Int) m != 1 else false)=metTo s l a b r l.length:=by
 rw [met_cnt,word_ne1]
 have hc:(nth (nth s.cols b) r==nth (nth s.cols a) r)=(nth (nth s.cols a) r==nth (nth s.cols b) r):=by rw [Bool.eq_iff_iff,beq_iff_eq,beq_iff_eq];exact eq_comm
 rw [hc]
 cases nth (nth s.cols a) r==nth (nth s.cols b) r<;>rfl
theorem both57 {Gl} (S:SP Gl) (s:Sheet) (a b:Nat) (hs:s.ok=true) (h0:0<(allR s).length) (ha:a<s.cols.length) (hb:b<s.cols.length) (hab:((a:Int) != (b:Int))=true):CO Gl 57 [tSheet s,I a,I b] (.ret (.tup [.c (.l eI (bothTo s (allR s) a b (rows s))),.c (Ci 0)])):=by
 refine fn_iq S (let A0:=(List.length (allR s));let A1:=fun (k0:Nat)=>(nth (nth s.1 b) k0==nth (nth s.1 a) k0);let A2:=(MEq (canT (allR s) A0) (fun key=>[Cb (canT (allR s) A0 key)]) (canT (allR s) A0) fun key=>[Cb (canT (allR s) A0 key)]);let A3:=fun (k0:Nat)=>(bif nth (nth s.1 b) k0==nth (nth s.1 a) k0 then wordOf (↑(cntTo (allR s) k0 (nth (nth s.1 a) k0) A0):Int) (List.length (allR s):Int) != (1:Int) else false);let A4:=fun (k0:Nat)=>(bothTo s (allR s) a b k0);let A5:=(fun key=>[Cb (openB s (allR s) A0 key)]);let A6:=fun (k0:Nat)=>(I (wordOf (↑(cntTo (allR s) k0 (nth (nth s.1 a) k0) A0):Int) (List.length (allR s):Int)));let A7:=fun (k0:Nat)=>(eqB (A1 k0) true=true->eqB (A1 k0) true=true);let A8:=(↑(rows s):Int);let A9:=(cBook s (allR s));let A10:=(nth s.1 a);((.r (.ret (B true)) (.sure 18 (.sure 19 (.sure 20 (.sure 21 (.sure 22 (.sure 23 (.r (.ret (B true)) (.sure 26 (.sure 27 (.sure 28 (.sure 29 (.sure 30 (.sure 31 (.r (.ret (B true)) (.sure 34 (.sure 35 (.val 36 true (.sure 36 (.r (.ret (.tup [D.agg A9,D.c (Ci 0)])) (.ff (.loop (rows s) (fun k=>v 51 (I k)::v 50 (I A8)::v 49 (L eI (nth (Sheet.cols s) a))::v 8 (ad 8)::v 2 (I b)::tk 100 3::v 10 (Lt 100 eI (bothTo s (allR s) a b k))::bx 8 A9) fun k0=>.br (.r (.ret (A6 k0)) (.br .nil .nil)) .nil)))))))))))))))))))))),(CO Gl 81 [tSheet s] (.ret (B true))/\true=true/\true=true/\true=true/\true=true/\(s.1.length<=maxLen->true=true/\iR ((s.1.length:Int)-1)/\true=true/\CO Gl 93 [I a,I 0,I ((List.length (Sheet.cols s):Int)-1)] (.ret (B true))/\true=true/\true=true/\true=true/\true=true/\(s.1.length<=maxLen->true=true/\iR ((s.1.length:Int)-1)/\true=true/\CO Gl 93 [I b,I 0,I ((List.length (Sheet.cols s):Int)-1)] (.ret (B true))/\true=true/\true=true/\((a:Int) != (b:Int))=true/\true=true/\CO Gl 82 [tSheet s,B true] (.ret (.tup [D.agg A9,D.c (Ci 0)]))/\false=false/\(0<=(a:Int)/\(a:Int)<(s.1.length:Int))/\(List.length A10<=maxLen->(0=(↑(0:Nat):Int)/\(List.length A10:Int)=A8/\(sR eI A10)/\(b:Int)=(b:Int)/\(0:Nat)=(0:Nat)/\(sR eCol s.1)/\(sR eI s.2)/\(sR eCol (allR s))/\A2/\MEq (openD s A0) A5 (openD s A0) fun key=>[Cb (openB s (allR s) A0 key)])/\∀ (k0:Nat),k0<=rows s->(decide ((k0:Int)<(↑(rows s):Int))=true->(0<=(k0:Int)/\(k0:Int)<(List.length A10:Int))/\(0<=(b:Int)/\(b:Int)<(s.1.length:Int))/\(0<=(k0:Int)/\(k0:Int)<(List.length (nth s.1 b):Int))/\(A7 k0)/\(A7 k0)/\(eqB (A1 k0) true=true->CO Gl 100 [T.d (D.agg A9),T.fn (107:FuncId) [] [T.d (D.rd [Ci k0]),T.d (D.rd [Ci (nth A10 k0)])]] (.ret (A6 k0)))/\(A7 k0)/\((A1 k0)=true->eqB (A1 k0) true=true)/\((A3 k0)=true->(List.length (A4 k0)+1)*8<=140737488355328/\List.length (A4 k0)+1<=140737488355328/\iR ((k0:Int)+1)/\k0<rows s/\(k0:Int)+1=(↑(k0+1):Int)/\A8=A8/\(sR eI A10)/\(b:Int)=(b:Int)/\(SEq (List.length (A4 k0)+1) (catF (List.length (A4 k0)) (fun i=>eI (nth (A4 k0) i)) fun i=>List.getD [List.map C.dem [C.v (Value.int IntKind.i64 (k0:Int))]] i []) (List.length (bothTo s (allR s) a b (k0+1))) fun i=>eI (nth (bothTo s (allR s) a b (k0+1)) i))/\(sR eCol s.1)/\(sR eI s.2)/\(sR eCol (allR s))/\A2/\MEq (openD s A0) A5 (openD s A0) fun key=>[Cb (openB s (allR s) A0 key)])/\((A3 k0)=false->iR ((k0:Int)+1)/\k0<rows s/\(k0:Int)+1=(↑(k0+1):Int)/\A8=A8/\(sR eI A10)/\(b:Int)=(b:Int)/\(sQ eI (A4 k0) (bothTo s (allR s) a b (k0+1)))/\(sR eCol s.1)/\(sR eI s.2)/\(sR eCol (allR s))/\A2/\MEq (openD s A0) A5 (openD s A0) fun key=>[Cb (openB s (allR s) A0 key)]))/\(decide ((k0:Int)<(↑(rows s):Int))=false->(sQ eI (A4 k0) (bothTo s (allR s) a b (rows s)))/\(0:Int)=0))))))) Tryz.func57 (by kernel_rfl) (by kernel_rfl) ?_
 obtain ⟨l1,l2,l3,l4⟩:=ok_len hs
 have hrs:=(col_len (l4 0 (by omega))).2.2
 have hca:(nth s.cols a).length=rows s:=(col_len (l4 a ha)).1
 have hcb:(nth s.cols b).length=rows s:=(col_len (l4 b hb)).1
 simp only [stdS,imp_self,implies_true,and_true,MEq_self]
 refine ⟨isSheetT S s hs,fun hm=>⟨(rng_iff _).2 (by omega),inT S _ _ _ (inR_iff.2 ⟨by omega,by omega⟩),fun hm2=>⟨(rng_iff _).2 (by omega),inT S _ _ _ (inR_iff.2 ⟨by omega,by omega⟩),hab,read82 S s hs h0,⟨by omega,Int.ofNat_lt.2 ha⟩,fun hm3=>⟨⟨by omega,trivial⟩,fun k hk=>⟨fun hd=>?_,fun hd=>?_⟩⟩⟩⟩⟩
 ·have hlt:k<rows s:=by have:=of_decide_eq_true hd;omega
  have hbl:=bothTo_len s (allR s) a b k
  have hst:bothTo s (allR s) a b (k+1)=bothTo s (allR s) a b k++bif metTo s (allR s) a b k (allR s).length then [(k:Int)] else []:=rfl
  have hw:=met_word s (allR s) a b k (allR s).length
  rw [bif_and] at hw
  refine ⟨⟨by omega,by omega⟩,⟨by omega,Int.ofNat_lt.2 hb⟩,⟨by omega,by omega⟩,fun _=>word100alike S s k _ hs hlt,fun h=>⟨by omega,by omega,(rng_iff _).2 (by omega),hlt,by omega,?_,trivial⟩,fun h=>⟨(rng_iff _).2 (by omega),hlt,by omega,?_,trivial⟩⟩
  ·refine SEq_push1 (x:=(k:Int)) ?_ rfl
   rw [hst,<-hw,h];rfl
  ·refine SEq_whole ?_
   rw [hst,<-hw,h];exact List.append_nil _
 ·have hke:k=rows s:=by have:=of_decide_eq_false hd;omega
  subst hke
  exact ⟨SEq_whole rfl,trivial⟩
end Go.Vc.Hn
namespace Go.Vc
open Go Go.RowKit
mutual
theorem RelT.weak {G:Gh} {w:World} {O O':Nat->Prop} (h:∀ b,O b->O' b):∀ {x:T} {v:Value},RelT G w O x v->RelT G w O' x v
 | .d x,v,r=>by simp only [RelT] at r ⊢;exact r.weak h
 | .tup xs,v,r=>by simp only [RelT] at r ⊢;obtain ⟨vs,hv,hr⟩:=r;exact ⟨vs,hv,hr.1,fun j x v hj hv=>(hr.2 j x v hj hv).weak h⟩
 | .fn f a b,v,r=>by
  simp only [RelT] at r ⊢
  obtain ⟨us,vs,hv,h1,h2⟩:=r
  exact ⟨us,vs,hv,RelTs.weak h h1,RelTs.weak h h2⟩
 | .may b x,v,r=>by simp only [RelT] at r ⊢;exact ⟨fun hb=>RelT.weak h (r.1 hb),r.2⟩
 | .nx b xs,v,r=>by
  simp only [RelT] at r ⊢
  exact ⟨fun hb=>by obtain ⟨vs,hv,hr⟩:=r.1 hb;exact ⟨vs,hv,hr.1,fun j x v hj hv=>(hr.2 j x v hj hv).weak h⟩,r.2⟩
 | .ag xs,v,r=>by simp only [RelT] at r ⊢;obtain ⟨vs,hv,hr⟩:=r;exact ⟨vs,hv,RelTs.weak h hr⟩
 | .addr _ _,v,r| .any,v,r| .arr _ _,v,r| .elt _ _ _,v,r| .mp _,v,r| .it _,v,r| .yl _,v,r| .tr _,v,r=>by simp only [RelT] at r ⊢<;>exact r
 | .tok _,v,r| .tkd _ _ _ _,v,r| .own _ _ _,v,r| .arrc _ _ _ _,v,r| .mapc _ _ _ _ _,v,r| .itc _ _,v,r=>by simp only [RelT] at r
theorem RelTs.weak {G:Gh} {w:World} {O O':Nat->Prop} (h:∀ b,O b->O' b):∀ {xs:List T} {vs:List Value},RelTs G w O xs vs->RelTs G w O' xs vs
 | [],vs,r=>by simp only [RelTs] at r ⊢;exact r
 |x::xs,vs,r=>by
  simp only [RelTs] at r ⊢
  obtain ⟨v,us,hv,h1,h2⟩:=r
  exact ⟨v,us,hv,RelT.weak h h1,RelTs.weak h h2⟩
end
theorem Mem.keep {Y:TypeId->Ty} {m:Env} {w w':World} {G:Gh} (ho:∀ id,m.get 2 id≠.any->isObj (m.get 2 id)=true) (h1:∀ k,m.get 1 k=.any) (hb:∀ id,m.get 2 id≠.any->w'.heap[G.bk id]?=w.heap[G.bk id]?) (hk:KeepV G.vis w w') (hs:Same w w') (M:Mem Y (fun _=>False) m w G):Mem Y (fun _=>False) m w' G:=by
 have hext:Ext (fun _=>False) G G w w':=⟨fun _=>Nat.le_refl _,hk,fun _ h=>h.elim⟩
 refine ⟨fun id k hid=>?_,fun id hid=>?_,M.inj⟩
 ·obtain ⟨q1,q2,u,q3,q4⟩:=M.cells id k hid
  refine ⟨q1,q2,u,?_,VOK.mono hext (fun _ _=>rfl) (fun _ h=>h) (fun k h=>absurd (h1 k) h) (fun k b h=>absurd (h1 k) h) q4⟩
  rw [World.cell?_of_block (hb id (by rw [q1];exact live_ne))]
  exact q3
 ·obtain ⟨q1,q2,q3⟩:=M.box id hid
  refine ⟨q1,Nat.lt_of_lt_of_le q2 hs.size,?_⟩
  have hh:=hb id hid
  unfold ObjOK at q3 ⊢
  split at q3
  ·rw [hh];exact q3
  ·rw [hh]
   obtain ⟨⟨cs,t,z,h3,hz,h4,h5⟩,h6⟩:=q3
   refine ⟨⟨cs,t,z,h3,hz,h4,fun i hi=>?_⟩,h6⟩
   obtain ⟨h7,h8⟩:=h5 i hi
   exact ⟨h7,fun j c hc=>by obtain ⟨u,h9,h10⟩:=h8 j c hc;exact ⟨u,h9,h10.mono hext⟩⟩
  ·rw [hh]
   obtain ⟨⟨es,cl,h3,h4,h5⟩,h6⟩:=q3
   exact ⟨⟨es,cl,h3,h4,fun i en k he hk=>⟨(h5 i en k he hk).1,(h5 i en k he hk).2.mono hext⟩⟩,h6⟩
  ·rw [hh];exact q3
  ·have:=ho id hid
   simp_all [isObj]
  ·exact q3.elim
end Go.Vc
namespace Go.Vc.Hn
open Go Go.Proofs Go.Vc Go.RowKit
theorem run_equalIn_iface_nil {P:Program} {t tx:TypeId} {vx:Value} {w:World} (d:Nat) (h:∃ ms,P.underlying t=some (.interface ms)):(Op.equalIn (d+1) t (.iface tx vx) .nilIface).run P w=.ok false w:=by
 obtain ⟨ms,h⟩:=h
 simp [Op.equalIn,run_underlying h]
theorem run_eql_iface_nil {P:Program} {t tx:TypeId} {vx:Value} {w:World} (h:∃ ms,P.underlying t=some (.interface ms)):(binOp .eql t (.iface tx vx) .nilIface).run P w=.ok (.bool false) w:=by
 have:(Op.equal t (.iface tx vx) .nilIface).run P w=.ok false w:=run_equalIn_iface_nil 9999 h
 simp only [binOp]
 simp [this]
theorem run_equalIn_nil_nil {P:Program} {t:TypeId} {w:World} (d:Nat) (h:∃ ms,P.underlying t=some (.interface ms)):(Op.equalIn (d+1) t .nilIface .nilIface).run P w=.ok true w:=by
 obtain ⟨ms,h⟩:=h
 simp [Op.equalIn,run_underlying h]
theorem run_eql_nil_nil {P:Program} {t:TypeId} {w:World} (h:∃ ms,P.underlying t=some (.interface ms)):(binOp .eql t .nilIface .nilIface).run P w=.ok (.bool true) w:=by
 have:(Op.equal t .nilIface .nilIface).run P w=.ok true w:=run_equalIn_nil_nil 9999 h
 simp only [binOp]
 simp [this]
theorem run_assert_yes {P:Program} {t xt:TypeId} {v:Value} {w:World} {y:Ty} (hY:TyOK P t y) (hk:∃ fs,y.kind=.struct fs):(Instr.typeAssert (.iface t v) xt t true).run P w=.ok (.tuple #[v,.bool true]) w:=by
 obtain ⟨d,i,z,h1,_,_,_,_,_,h7,_⟩:=hY
 obtain ⟨fs,hk⟩:=hk
 rw [hk] at h7
 obtain ⟨fields,rfl,_⟩:=h7
 simp [Instr.typeAssert,run_underlying h1]
theorem run_assert_no {P:Program} {Y:TypeId->Ty} {t t' xt:TypeId} {v:Value} {w:World} (hY:YOK P Y) (hk:∃ fs,(Y t).kind=.struct fs) (hne:t'≠t):∃ z,(Instr.typeAssert (.iface t' v) xt t true).run P w=.ok (.tuple #[z,.bool false]) w:=by
 obtain ⟨fs,hk⟩:=hk
 have hkn:(Y t).known=true:=struct_known hk
 obtain ⟨z,hz,_⟩:=run_zeroValue hY hkn w
 obtain ⟨d,i,z',h1,_,_,_,_,_,h7,_⟩:=hY t hkn
 rw [hk] at h7
 obtain ⟨fields,rfl,_⟩:=h7
 refine ⟨z,?_⟩
 simp [Instr.typeAssert,run_underlying h1,hne,hz]
theorem und20:∃ ms,Tryz.prog.underlying 20=some (.interface ms):=by
 obtain ⟨d,i,z,h1,_,_,_,_,_,h7,_⟩:=yok 20 (by kernel_rfl)
 obtain ⟨ms,rfl⟩:∃ ms,d=.interface ms:=h7
 exact ⟨ms,h1⟩
theorem k133:(Y 133).kind=.struct [(0,3)]:=by kernel_rfl
theorem k135:(Y 135).kind=.struct [(0,9)]:=by kernel_rfl
theorem z133:(Y 133).zero.toArray=#[.int .i64 0]:=by kernel_rfl
theorem z135:(Y 135).zero.toArray=#[.string (ByteArray.mk #[])]:=by kernel_rfl
theorem z26:(Y 26).zero.toArray=#[.int .i64 0]:=by kernel_rfl
theorem s133:(Y 133).size=1:=by kernel_rfl
theorem s135:(Y 135).size=1:=by kernel_rfl
theorem s26:(Y 26).size=1:=by kernel_rfl
theorem kn133:(Y 133).known=true:=by kernel_rfl
theorem kn135:(Y 135).known=true:=by kernel_rfl
theorem kn26:(Y 26).known=true:=by kernel_rfl
theorem ev_const {a:Act} {v:Value}:a.eval (.const v)=v:=rfl
theorem sl1 (p v:Value):SL { tmps:=#[p]++(Array.replicate 13 undef).setIfInBounds 4 v,defers:=[] } 14 (upd (fun t=>#[p].getD t undef) 5 v) []:=by
 have:=(SL.start #[p] 14 (Nat.le_of_ble_eq_true rfl)).put (d:=5) (by decide) v
 simpa [Act.put] using this
def stO (t:TypeId) (p q:Operand):Oper:={ dst:=none,op:=Op.store t p q,type:=0,pos:= "",after:=#[],guard:=none }
theorem catch_idle (p:Value) (w:World):
  CallsD Tryz.prog 118 #[p] .returning w fun e u' w'=>e=.returned (.tuple #[])/\u'=.returning/\w'=w:=by
 refine callsD_of_wpS Tryz.func118 rfl fun c₀ cs hu=>?_
 apply wpS_seq
 apply wpS_region
 simp [wpOpsS,go_sem,recoverD,hu,Tryz.ntmps118,Exit.thenS]
 have S:=sl1 p .nilIface
 refine wpS_of_wp (wp_block (wp_seq (wp_region_list ?_)))
 generalize ({ tmps:=#[p]++(Array.replicate 13 undef).setIfInBounds 4 Value.nilIface,defers:=[] }:Act)=a at S ⊢
 refine rl_val S (d:=7) (v:=.bool true) (w':=w) rfl (by decide) rfl ?_ fun a1 S1=>?_
 ·simp [execOp,S.eval,upd,run_eql_nil_nil und20,ev_const,eqGuard]
 refine wp_cond_true (by simp [S1.eval,upd]) (wp_region_list ?_)
 refine rl_val S1 (d:=1) (v:=.nilIface) (w':=w) rfl (by decide) rfl ?_ fun a2 S2=>?_
 ·simp [execOp,S1.eval,upd]
 cases c₀
 simp_all [wpList,bodyPostS,results,Tryz.results118,Exit.inBlock,S2.defers]
theorem catch_row (b1:Nat) (x:Int) (older:List PanicEntry) (w:World) (h1:w.heap[b1]?=some (.cells #[.int .i64 0] 26 (0,0))):
  CallsD Tryz.prog 118 #[.pointer (some ⟨b1,0,none⟩)] (.panicking ({ v:=.iface 133 (.agg #[.int .i64 x]),recovered:=false }::older)) w fun e u' w'=>
   e=.returned (.tuple #[])/\u'=.panicking ({ v:=.iface 133 (.agg #[.int .i64 x]),recovered:=true }::older)/\Same w w'/\w'.heap[b1]?=some (.cells #[.int .i64 5] 26 (0,0))/\
   ∀ b,b<w.heap.size->b≠b1->w'.heap[b]?=w.heap[b]?:=by
 have l1:b1<w.heap.size:=(Array.getElem?_eq_some_iff.1 h1).1
 refine callsD_of_wpS Tryz.func118 rfl fun c₀ cs hu=>?_
 apply wpS_seq
 apply wpS_region
 simp [wpOpsS,go_sem,recoverD,hu,Tryz.ntmps118,Exit.thenS]
 have S:=sl1 (.pointer (some ⟨b1,0,none⟩)) (.iface 133 (.agg #[.int .i64 x]))
 refine wpS_of_wp (wp_block (wp_seq (wp_region_list ?_)))
 generalize ({ tmps:=#[Value.pointer (some ⟨b1,0,none⟩)]++(Array.replicate 13 undef).setIfInBounds 4 (Value.iface 133 (.agg #[.int .i64 x])),defers:=[] }:Act)=a at S ⊢
 refine rl_val S (d:=7) (v:=.bool false) (w':=w) rfl (by decide) rfl ?_ fun a1 S1=>?_
 ·simp [execOp,S.eval,upd,run_eql_iface_nil und20,ev_const,eqGuard]
 refine wp_cond_false (by simp [S1.eval,upd]) (wp_seq (wp_region_list ?_))
 refine rl_val S1 (d:=8) (v:=.tuple #[.agg #[.int .i64 x],.bool true]) (w':=w) rfl (by decide) rfl ?_ fun a2 S2=>?_
 ·simp [execOp,S1.eval,upd,run_assert_yes (yok 133 kn133) ⟨_,k133⟩]
 refine rl_val S2 (d:=9) (v:=.bool true) (w':=w) rfl (by decide) rfl ?_ fun a3 S3=>?_
 ·simp [execOp,S2.eval,upd,Instr.extract]
 refine rl_val S3 (d:=10) (v:=.agg #[.int .i64 x]) (w':=w) rfl (by decide) rfl ?_ fun a7 S7=>?_
 ·simp [execOp,S3.eval,upd,Instr.extract]
 refine wp_cond_true (by simp [S7.eval,upd]) (wp_seq (wp_region_list ?_))
 have hal:=fun (o:Oper) (ho:o.op=Op.alloc 133)=>raw_alloc (P:=Tryz.prog) (a:=a7) (w:=w) (o:=o) yok (t:=133) ho kn133
 rw [z133] at hal
 refine rl_val S7 (d:=2) rfl (by decide) rfl (hal _ rfl) fun a8 S8=>?_
 obtain ⟨w1,hw1⟩:∃ w1,w.alloc (.cells #[.int .i64 0] 133 (0,0))=w1:=⟨_,rfl⟩
 have hw1':w.alloc (.cells #[.int .i64 0] 133)=w1:=hw1
 rw [hw1']
 have g1:Same w w1:=by rw [<-hw1];exact same_alloc _ _
 have g2:∀ b,b<w.heap.size->w1.heap[b]?=w.heap[b]?:=fun b hb=>by rw [<-hw1];exact heap_alloc_lt _ _ hb
 have g3:w1.heap[w.heap.size]?=some (.cells #[.int .i64 0] 133 (0,0)):=by rw [<-hw1];exact World.alloc_heap_new w _
 have H:=fun (o:Oper) (ho:o.op=Op.store 133 (.tmp 2) (.tmp 10))=>raw_store (P:=Tryz.prog) (a:=a8) (w:=w1) (v:=.agg #[.int .i64 x]) (b:=w.heap.size) (o:=o)
  yok (t:=133) ho kn133 (by simp [S8.eval,upd]) (by simp [S8.eval,upd]) (by rw [s133];rfl) (by rw [s133];rfl) (by simp [Value.cells,Value.oneCell']) g3
 obtain ⟨_,r2,r3,r4⟩:=H (stO 133 (.tmp 2) (.tmp 10)) rfl
 refine rl_skip S8 rfl rfl (H _ rfl).1 fun a9 S9=>?_
 clear H
 generalize w1.setRow w.heap.size (Value.agg #[.int .i64 x]).cells=w2 at r2 r3 r4 ⊢
 refine wp_region_list ?_
 have g5:w2.heap[b1]?=some (.cells #[.int .i64 0] 26 (0,0)):=by rw [r4 _ (by omega),g2 _ l1];exact h1
 have H:=fun (o:Oper) (ho:o.op=Op.store 26 (.tmp 0) (.const (.int .i64 5)))=>raw_store (P:=Tryz.prog) (a:=a9) (w:=w2) (v:=.int .i64 5) (b:=b1) (o:=o)
  yok (t:=26) ho kn26 (by simp [S9.eval,upd]) rfl (by rw [s26];rfl) (by rw [s26];rfl) (by simp [Value.cells,Value.oneCell']) g5
 obtain ⟨_,t2,t3,t4⟩:=H (stO 26 (.tmp 0) (.const (.int .i64 5))) rfl
 refine rl_skip S9 rfl rfl (H _ rfl).1 fun a10 S10=>?_
 clear H
 generalize w2.setRow b1 (Value.int .i64 5).cells=w4 at t2 t3 t4 ⊢
 have e3:∀ b,b<w.heap.size->b≠b1->w4.heap[b]?=w.heap[b]?:=fun b hb h1=>by rw [t4 _ h1,r4 _ (by omega),g2 _ hb]
 have e4:Same w w4:=(g1.trans r3).trans t3
 exact ⟨S10.defers,_,rfl,.tuple #[],by simp [results,Tryz.results118],rfl,rfl,e4,t2,e3⟩
theorem catch_text (b1:Nat) (x:ByteArray) (older:List PanicEntry) (w:World) (h1:w.heap[b1]?=some (.cells #[.int .i64 0] 26 (0,0))):
  CallsD Tryz.prog 118 #[.pointer (some ⟨b1,0,none⟩)] (.panicking ({ v:=.iface 135 (.agg #[.string x]),recovered:=false }::older)) w fun e u' w'=>
   e=.returned (.tuple #[])/\u'=.panicking ({ v:=.iface 135 (.agg #[.string x]),recovered:=true }::older)/\Same w w'/\w'.heap[b1]?=some (.cells #[.int .i64 4] 26 (0,0))/\
   ∀ b,b<w.heap.size->b≠b1->w'.heap[b]?=w.heap[b]?:=by
 have l1:b1<w.heap.size:=(Array.getElem?_eq_some_iff.1 h1).1
 refine callsD_of_wpS Tryz.func118 rfl fun c₀ cs hu=>?_
 apply wpS_seq
 apply wpS_region
 simp [wpOpsS,go_sem,recoverD,hu,Tryz.ntmps118,Exit.thenS]
 have S:=sl1 (.pointer (some ⟨b1,0,none⟩)) (.iface 135 (.agg #[.string x]))
 refine wpS_of_wp (wp_block (wp_seq (wp_region_list ?_)))
 generalize ({ tmps:=#[Value.pointer (some ⟨b1,0,none⟩)]++(Array.replicate 13 undef).setIfInBounds 4 (Value.iface 135 (.agg #[.string x])),defers:=[] }:Act)=a at S ⊢
 refine rl_val S (d:=7) (v:=.bool false) (w':=w) rfl (by decide) rfl ?_ fun a1 S1=>?_
 ·simp [execOp,S.eval,upd,run_eql_iface_nil und20,ev_const,eqGuard]
 refine wp_cond_false (by simp [S1.eval,upd]) (wp_seq (wp_region_list ?_))
 obtain ⟨z,hz⟩:=run_assert_no (Y:=Y) (t:=133) (t':=135) (xt:=20) (v:=.agg #[.string x]) (w:=w) yok ⟨_,k133⟩ (by decide)
 refine rl_val S1 (d:=8) (v:=.tuple #[z,.bool false]) (w':=w) rfl (by decide) rfl ?_ fun a2 S2=>?_
 ·simp [execOp,S1.eval,upd,hz]
 refine rl_val S2 (d:=9) (v:=.bool false) (w':=w) rfl (by decide) rfl ?_ fun a3 S3=>?_
 ·simp [execOp,S2.eval,upd,Instr.extract]
 refine rl_val S3 (d:=10) (v:=z) (w':=w) rfl (by decide) rfl ?_ fun a4 S4=>?_
 ·simp [execOp,S3.eval,upd,Instr.extract]
 refine wp_cond_false (by simp [S4.eval,upd]) (wp_seq (wp_region_list ?_))
 refine rl_val S4 (d:=11) (v:=.tuple #[.agg #[.string x],.bool true]) (w':=w) rfl (by decide) rfl ?_ fun a5 S5=>?_
 ·simp [execOp,S4.eval,upd,run_assert_yes (yok 135 kn135) ⟨_,k135⟩]
 refine rl_val S5 (d:=12) (v:=.bool true) (w':=w) rfl (by decide) rfl ?_ fun a6 S6=>?_
 ·simp [execOp,S5.eval,upd,Instr.extract]
 refine rl_val S6 (d:=13) (v:=.agg #[.string x]) (w':=w) rfl (by decide) rfl ?_ fun a7 S7=>?_
 ·simp [execOp,S6.eval,upd,Instr.extract]
 refine wp_cond_true (by simp [S7.eval,upd]) (wp_seq (wp_region_list ?_))
 have hal:=fun (o:Oper) (ho:o.op=Op.alloc 135)=>raw_alloc (P:=Tryz.prog) (a:=a7) (w:=w) (o:=o) yok (t:=135) ho kn135
 rw [z135] at hal
 refine rl_val S7 (d:=3) rfl (by decide) rfl (hal _ rfl) fun a8 S8=>?_
 obtain ⟨w1,hw1⟩:∃ w1,w.alloc (.cells #[.string (ByteArray.mk #[])] 135 (0,0))=w1:=⟨_,rfl⟩
 have hw1':w.alloc (.cells #[.string (ByteArray.mk #[])] 135)=w1:=hw1
 rw [hw1']
 have g1:Same w w1:=by rw [<-hw1];exact same_alloc _ _
 have g2:∀ b,b<w.heap.size->w1.heap[b]?=w.heap[b]?:=fun b hb=>by rw [<-hw1];exact heap_alloc_lt _ _ hb
 have g3:w1.heap[w.heap.size]?=some (.cells #[.string (ByteArray.mk #[])] 135 (0,0)):=by rw [<-hw1];exact World.alloc_heap_new w _
 have H:=fun (o:Oper) (ho:o.op=Op.store 135 (.tmp 3) (.tmp 13))=>raw_store (P:=Tryz.prog) (a:=a8) (w:=w1) (v:=.agg #[.string x]) (b:=w.heap.size) (o:=o)
  yok (t:=135) ho kn135 (by simp [S8.eval,upd]) (by simp [S8.eval,upd]) (by rw [s135];rfl) (by rw [s135];rfl) (by simp [Value.cells,Value.oneCell']) g3
 obtain ⟨_,r2,r3,r4⟩:=H (stO 135 (.tmp 3) (.tmp 13)) rfl
 refine rl_skip S8 rfl rfl (H _ rfl).1 fun a9 S9=>?_
 clear H
 generalize w1.setRow w.heap.size (Value.agg #[.string x]).cells=w2 at r2 r3 r4 ⊢
 refine wp_region_list ?_
 have g5:w2.heap[b1]?=some (.cells #[.int .i64 0] 26 (0,0)):=by rw [r4 _ (by omega),g2 _ l1];exact h1
 have H:=fun (o:Oper) (ho:o.op=Op.store 26 (.tmp 0) (.const (.int .i64 4)))=>raw_store (P:=Tryz.prog) (a:=a9) (w:=w2) (v:=.int .i64 4) (b:=b1) (o:=o)
  yok (t:=26) ho kn26 (by simp [S9.eval,upd]) rfl (by rw [s26];rfl) (by rw [s26];rfl) (by simp [Value.cells,Value.oneCell']) g5
 obtain ⟨_,t2,t3,t4⟩:=H (stO 26 (.tmp 0) (.const (.int .i64 4))) rfl
 refine rl_skip S9 rfl rfl (H _ rfl).1 fun a10 S10=>?_
 clear H
 generalize w2.setRow b1 (Value.int .i64 4).cells=w4 at t2 t3 t4 ⊢
 have e3:∀ b,b<w.heap.size->b≠b1->w4.heap[b]?=w.heap[b]?:=fun b hb h1=>by rw [t4 _ h1,r4 _ (by omega),g2 _ hb]
 have e4:Same w w4:=(g1.trans r3).trans t3
 exact ⟨S10.defers,_,rfl,.tuple #[],by simp [results,Tryz.results118],rfl,rfl,e4,t2,e3⟩
def attV:Ending->Value
 | .panicked [{ v:=.iface 133 _,.. }]=>.int .i64 5
 | .panicked [{ v:=.iface 135 _,.. }]=>.int .i64 4
 |_=>.int .i64 0
def attW (w:World):World:=w.alloc (.cells #[.int .i64 0] 26 (0,0))
structure AttOK (w w':World) (en:Ending):Prop where
 one:w'.heap[w.heap.size]?=some (.cells #[.int .i64 0] 26 (0,0))
 en:en=.returned (.tuple #[])∨(∃ x,en=.panicked [{ v:=.iface 133 (.agg #[.int .i64 x]),recovered:=false }])∨∃ s,en=.panicked [{ v:=.iface 135 (.agg #[.string s]),recovered:=false }]
theorem att_results {a:Act} {w:World} {b1:Nat} {x:Value} (h1:a.tmps.getD 2 undef=.pointer (some ⟨b1,0,none⟩))
  (g1:w.heap[b1]?=some (.cells #[x] 26 (0,0))):(results Tryz.f74 a.tmps).run Tryz.prog w=.ok x w:=by
 have l1:=run_load1 yok (t:=26) (by kernel_rfl) (w:=w) (b:=b1) (off:=0) (u:=x) (by simp [World.cell?,g1])
 have he:Tryz.f74.results.mapM (resM a.tmps)=List.toArray <$> Tryz.f74.results.toList.mapM (resM a.tmps):=Array.mapM_eq_mapM_toList ..
 have he2:results Tryz.f74 a.tmps=(Tryz.f74.results.mapM (resM a.tmps) >>= fun vs=>pure (if h:vs.size=1 then vs[0] else .tuple vs)):=rfl
 have hrun:([ResultVar.cell 2 26].mapM (resM a.tmps)).run Tryz.prog w=.ok [x] w:=by
  have r1:(resM a.tmps (.cell 2 26)).run Tryz.prog w=.ok x w:=by simp [resM,h1,asAddr,l1]
  rw [run_mapM_cons,r1,Result.andThen_ok]
  simp
 rw [he2,he,Tryz.results74]
 simp only [Sem.run_bind,Sem.run_map,hrun,Result.andThen_ok,Sem.run_pure]
 rfl
theorem attempt_calls (g:FuncId) (hg:FnOK Tryz.prog g) (us vs:Array Value) (w:World) (R:Ending->World->Prop) (hcall:Calls Tryz.prog g (us++vs) (attW w) R) (hR:∀ en w',R en w'->AttOK w w' en):
  Calls Tryz.prog 74 #[.func (.func g) us vs] w fun en w''=>∃ en0 w',R en0 w'/\Same w' w''/\(∀ b,b<w'.heap.size->b≠w.heap.size->w''.heap[b]?=w'.heap[b]?)/\en=.returned (attV en0):=by
 go_enter_defers Tryz.func74,Tryz.ntmps74
 have S:SL { tmps:=#[Value.func (Fn.func g) us vs,undef,undef,undef,undef,undef],defers:=[] } 6 (fun t=>#[Value.func (Fn.func g) us vs].getD t undef) []:=by
  exact SL.start #[Value.func (Fn.func g) us vs] 6 (Nat.le_of_ble_eq_true rfl)
 generalize ({ tmps:=#[Value.func (Fn.func g) us vs,undef,undef,undef,undef,undef],defers:=[] }:Act)=a at S ⊢
 refine wp_seq (wp_region_list ?_)
 have hal:=fun (o:Oper) (ho:o.op=Op.alloc 26)=>raw_alloc (P:=Tryz.prog) (a:=a) (w:=w) (o:=o) yok (t:=26) ho kn26
 rw [z26] at hal
 refine rl_val S (d:=2) rfl (by decide) rfl (hal _ rfl) fun a2 S2=>?_
 show Code.wp Tryz.prog _ _ a2 (attW w)
 generalize hw1:attW w=w1 at hcall ⊢
 refine wp_seq (wp_region_list ?_)
 refine rl_val S2 (d:=3) (v:=.func (.func 118) #[] #[.pointer (some ⟨w.heap.size,0,none⟩)]) (w':=w1) rfl (by decide) rfl ?_ fun a3 S3=>?_
 ·simp [execOp,S2.eval,upd,Instr.makeFunc]
 refine rl_defer S3 (d:={ target:=.fn (.func 118) #[.pointer (some ⟨w.heap.size,0,none⟩)],args:=#[] }) rfl rfl ?_ fun a4 S4=>?_
 ·simp [execOp,resolve,S3.eval,upd,Deferred.ofValue]
 refine wp_seq (wp_region_list ?_)
 refine rl_val S4 (d:=4) (v:=.func (.func g) us vs) (w':=w1) rfl (by decide) rfl ?_ fun a5 S5=>?_
 ·simp [execOp,S4.eval,upd]
 have hinv:∀ (p:Value) (w:World),(invoke (.fn (.func 118) #[p]) #[]).run Tryz.prog w=.ok (.enter 118 #[p]) w:=fun p w=>by
  have h2:(Tryz.f118.name== "runtime.NumGoroutine")=false:=by kernel_rfl
  have h3:Tryz.f118.body.isNone=false:=by kernel_rfl
  have h2':Tryz.f118.name≠ "runtime.NumGoroutine":=by simpa using h2
  have h3':Tryz.f118.body≠none:=by intro hh;rw [hh] at h3;cases h3
  simp [invoke,callFunc,Tryz.func118,h2',h3']
 refine rl_call S5 (d:=5) (g:=g) (vs:=us++vs) (R:=R) rfl (by decide) rfl ?_ hcall (fun v w2 hr a6 S6=>?_) (fun ch w2 hr=>?_) (fun w2 hr=>?_)
 ·have:=fun (o:Oper) (ho:o.op=Op.call { callee:=Callee.value (Operand.tmp 4),args:=#[],argTypes:=#[] })=>exec_call (P:=Tryz.prog) (a:=a5) (w:=w1) (o:=o) ho (by simp [S5.eval,upd]) hg (us:=us) (cvs:=vs)
  simpa using this _ rfl
 ·obtain ⟨c1,c3⟩:=hR _ _ hr
  have l1:w.heap.size<w2.heap.size:=(Array.getElem?_eq_some_iff.1 c1).1
  refine wp_seq (wp_region_list ?_)
  have H:=fun (o:Oper) (ho:o.op=Op.store 26 (.tmp 2) (.const (.int .i64 0)))=>raw_store (P:=Tryz.prog) (a:=a6) (w:=w2) (v:=.int .i64 0) (b:=w.heap.size) (o:=o)
   yok (t:=26) ho kn26 (by simp [S6.eval,upd]) rfl (by rw [s26];rfl) (by rw [s26];rfl) (by simp [Value.cells,Value.oneCell']) c1
  obtain ⟨_,t2,t3,t4⟩:=H (stO 26 (.tmp 2) (.const (.int .i64 0))) rfl
  refine rl_skip S6 rfl rfl (H _ rfl).1 fun a9 S9=>?_
  clear H
  generalize w2.setRow w.heap.size (Value.int .i64 0).cells=w4 at t2 t3 t4 ⊢
  refine wp_ret ?_
  show Leaves Tryz.prog Tryz.f74 a9.tmps _ a9.defers .returning w4
  rw [S9.defers]
  refine leaves_cons (by simp) (hinv _ w4) ((catch_idle _ w4).mono ?_)
  rintro e u' w5 ⟨rfl,rfl,rfl⟩
  have r1:=att_results (a:=a9) (w:=w5) (b1:=w.heap.size) (by rw [S9.get 2 (by decide)];simp [upd]) t2
  refine ⟨_,r1,_,_,hr,t3,fun b hb h1=>t4 _ h1,?_⟩
  rcases c3 with h|⟨_,h⟩|⟨_,h⟩<;>cases h
  rfl
 ·obtain ⟨c1,c3⟩:=hR _ _ hr
  have l1:w.heap.size<w2.heap.size:=(Array.getElem?_eq_some_iff.1 c1).1
  show Leaves Tryz.prog Tryz.f74 a5.tmps _ a5.defers (.panicking ch) w2
  rw [S5.defers]
  refine leaves_cons (by simp) (hinv _ w2) ?_
  have e1:a5.tmps.getD 2 undef=.pointer (some ⟨w.heap.size,0,none⟩):=by rw [S5.get 2 (by decide)];simp [upd]
  rcases c3 with h|⟨x,h⟩|⟨s,h⟩
  ·cases h
  ·obtain rfl:ch=[{ v:=.iface 133 (.agg #[.int .i64 x]),recovered:=false }]:=Ending.panicked.inj h
   refine (catch_row _ x [] w2 c1).mono ?_
   rintro e u' w5 ⟨rfl,rfl,g1,g2,g4⟩
   have r1:=att_results (a:=a5) (w:=w5) e1 g2
   exact ⟨_,r1,_,_,hr,g1,g4,rfl⟩
  ·obtain rfl:ch=[{ v:=.iface 135 (.agg #[.string s]),recovered:=false }]:=Ending.panicked.inj h
   refine (catch_text _ s [] w2 c1).mono ?_
   rintro e u' w5 ⟨rfl,rfl,g1,g2,g4⟩
   have r1:=att_results (a:=a5) (w:=w5) e1 g2
   exact ⟨_,r1,_,_,hr,g1,g4,rfl⟩
 ·obtain ⟨_,c3⟩:=hR _ _ hr
  rcases c3 with h|⟨_,h⟩|⟨_,h⟩<;>cases h
variable {Gl:World->Prop}
inductive AttR:Res->Int->Prop
 |ok:AttR (.ret (.tup [])) 0
 |row (x:Int):AttR (.pan (.iface 133 (.agg #[.int .i64 x]))) 5
 |text (s:ByteArray):AttR (.pan (.iface 135 (.agg #[.string s]))) 4
theorem attW_size (w:World):(attW w).heap.size=w.heap.size+1:=by simp [attW,World.size_alloc]
theorem attW_lt (w:World) {b:Nat} (h:b<w.heap.size):(attW w).heap[b]?=w.heap[b]?:=by
 unfold attW
 exact heap_alloc_lt _ _ h
theorem attW_same (w:World):Same w (attW w):=same_alloc _ _
theorem attW_one (w:World):(attW w).heap[w.heap.size]?=some (.cells #[.int .i64 0] 26 (0,0)):=World.alloc_heap_new w _
theorem attW_keep {vis:Nat->Nat} {w:World} (h:∀ b,w.heap.size<=b->vis b=0):KeepV vis w (attW w):=
 ⟨fun b i hi=>World.cell?_of_block (attW_lt w (by
  rcases Nat.lt_or_ge b w.heap.size with hb|hb
  ·exact hb
  ·rw [h b hb] at hi;omega)),fun b hb es c he=>by rw [attW_lt w (Array.getElem?_eq_some_iff.1 he).1];exact he⟩
theorem att_ret {base:Nat} {vis:Nat->Nat} {w:World} (e:Int):RetOK base vis w (I e) (.int .i64 e):=Rep.v _ rfl
theorem attempt74_does {g:FuncId} {fst caps:List T} {r:Res} {ev:Int} {pre post:Env} {yd:Yd} (hpre:preOK pre=true) (hpost:postOK pre post=true) (h:Does Tryz.prog Y Gl yd g (fst++caps) pre r post) (ha:AttR r ev):Does Tryz.prog Y Gl yd 74 [.fn g fst caps] pre (.ret (I ev)) post:=by
 obtain ⟨p0,p1,p2⟩:=preOK_get hpre
 obtain ⟨o1,o2,o3⟩:=postOK_get hpost
 refine ⟨⟨_,Tryz.func74,name74,by kernel_rfl⟩,fun J G w vs hst hgl hyl hfr hH hJ hmem hargs=>?_⟩
 simp only [RelTs,RelT] at hargs
 obtain ⟨v,vs1,hvs,⟨us,cvs,rfl,hu,hc⟩,rfl⟩:=hargs
 obtain rfl:vs=#[.func (.func g) us cvs]:=by rw [<-Array.toArray_toList (xs:=vs),hvs]
 have hkv:=attW_keep (w:=w) hfr
 have hext:Ext (fun _=>False) G G w (attW w):=⟨fun _=>Nat.le_refl _,hkv,fun b hb=>hb.elim⟩
 have hrel:RelTs G (attW w) (fun _=>False) (fst++caps) (us++cvs).toList:=by
  rw [Array.toList_append]
  exact (RelTs.mono hext (fun _ _=>rfl) hu).app (RelTs.mono hext (fun _ _=>rfl) hc)
 have hbk:∀ id,pre.get 2 id≠.any->G.bk id<w.heap.size:=fun id hid=>(hmem.box id hid).2.1
 have hJ1:=hst.1 _ _ _ _ _ hJ (fun b hb=>attW_lt w (hH b hb)) hkv (attW_same w)
 have hmem1:Mem Y (fun _=>False) pre (attW w) G:=Mem.keep (preOK_obj hpre) p1 (fun id hid=>attW_lt w (hbk id hid)) hkv (attW_same w) hmem
 have hsz:=attW_size w
 have hused:∀ id,Env.get (over post pre) 2 id≠.any->pre.get 2 id≠.any:=fun id hid=>by
  rw [get_over] at hid
  split at hid
  ·rename_i hk
   have:=o2 id hk
   intro hh
   rw [hh] at this
   unfold kindOK at this
   split at this<;>first|(rename_i hx;cases hx;done)|cases this
  ·exact hid
 have htok:∀ k,Env.get (over post pre) 1 k=.any:=fun k=>by
  rw [get_over,o1 k,if_neg (by decide)];exact p1 k
 have hobj:∀ id,Env.get (over post pre) 2 id≠.any->isObj (Env.get (over post pre) 2 id)=true:=fun id hid=>by
  rw [get_over] at hid ⊢
  split
  ·rename_i hk
   have:=o2 id hk
   unfold kindOK at this
   split at this<;>first|(rename_i hx _;rw [hx];rfl)|(rename_i hx;rw [hx];rfl)|(cases this)
  ·rename_i hk
   rw [if_neg hk] at hid
   exact preOK_obj hpre id hid
 have hcall:=h.2 J G (attW w) (us++cvs) hst hgl hyl (fun b hb=>hfr b (by omega)) (fun b hb=>by have:=hH b hb;omega) hJ1 hmem1 hrel
 refine (attempt_calls g h.1 us cvs w _ hcall fun en w' ⟨h1,h2,h3,h4,h5⟩=>⟨?_,?_⟩).mono ?_
 ·rw [h3 _ (by omega) (fun hh=>by have:=hH _ hh;omega) (fun id hid hh=>by have:=hbk id hid;omega)];exact attW_one w
 ·obtain ⟨G',_,_,_,_,_,_,_,hr⟩:=h5
  cases ha with
  |ok=>
   obtain ⟨v,rfl,vs,rfl,hr⟩:=hr
   obtain rfl:vs=#[]:=by
    have:=hr.1
    exact Array.eq_empty_of_size_eq_zero (by simpa using this.symm)
   exact .inl rfl
  |row x=>exact .inr (.inl ⟨x,hr⟩)
  |text s=>exact .inr (.inr ⟨s,hr⟩)
 ·rintro en w2 ⟨en0,w',⟨h1,h2,h3,h4,h5⟩,hs,hh,rfl⟩
  have s1:=h1.size
  have s2:=hs.size
  obtain ⟨G',g1,g2,g3,g4,g5,g6,g7,hr⟩:=h5
  have hkeep2:∀ vis:Nat->Nat,(∀ b,w'.heap.size<=b->vis b=0)->vis w.heap.size=0->KeepV vis w' w2:=fun vis v1 v2=>by
   have hv:∀ b,0<vis b->w2.heap[b]?=w'.heap[b]?:=fun b hb=>hh b (by
    rcases Nat.lt_or_ge b w'.heap.size with h|h
    ·exact h
    ·rw [v1 b h] at hb;omega) (fun h=>by rw [h,v2] at hb;omega)
   exact ⟨fun b i hi=>World.cell?_of_block (hv b (by omega)),fun b hb es c he=>by rw [hv b hb];exact he⟩
  have hH':∀ b,G'.H b->w2.heap[b]?=w'.heap[b]?:=fun b hb=>by
   refine hh b (g5 b hb) (fun he=>?_)
   have:=hH b ((g4 b (by omega)).1 hb);omega
  have v1:G'.vis w.heap.size=0:=by rw [g2 _ (by omega)];exact hfr _ (by omega)
  refine ⟨((attW_same w).trans h1).trans hs,(hkv.trans h2).trans (hkeep2 G.vis (fun b hb=>hfr b (by omega)) (hfr _ (by omega))),fun b hb hn hno=>?_,fun id k hl hk=>?_,G',g1,fun b hb=>g2 b (by omega),fun b hb=>g3 b (by omega),
   fun b hb=>g4 b (by omega),fun b hb=>by have:=g5 b hb;omega,hst.1 _ _ _ _ _ g6 hH' (hkeep2 G'.vis g3 v1) hs,Mem.keep hobj htok (fun id hid=>?_) (hkeep2 G'.vis g3 v1) hs g7,?_⟩
  ·rw [hh b (by omega) (by omega),h3 b (by omega) hn hno,attW_lt w hb]
  ·have hid:pre.get 2 id≠.any:=by rw [hl];exact live_ne
   have hlt:=hbk id hid
   rw [World.cell?_of_block (show w2.heap[G.bk id]?=w'.heap[G.bk id]? from hh _ (by omega) (by omega)),h4 id k hl hk,World.cell?_of_block (show (attW w).heap[G.bk id]?=w.heap[G.bk id]? from attW_lt w hlt)]
  ·have hlt:=hbk id (hused id hid)
   rw [g1]
   exact hh _ (by omega) (by omega)
  ·cases ha with
   |ok=>
    obtain ⟨v,rfl,_⟩:=hr
    exact ⟨_,rfl,att_ret 0⟩
   |row x=>
    have hr:en0=_:=hr
    subst hr
    exact ⟨_,rfl,att_ret 5⟩
   |text s=>
    have hr:en0=_:=hr
    subst hr
    exact ⟨_,rfl,att_ret 4⟩
theorem isColT {Gl} (S:SP Gl) (l:List Int) (h:isCol l=true):CO Gl 73 [L eI l] (.ret (B true)):=by
 have h1:=isColumn73 S l
 rw [h] at h1
 exact h1
def errPre (r l:List Int):Env:=[(2,FAR,live),(FAR+3,0,L eI r),(2,FAR+1,live),(FAR+4,0,L eI l),(2,FAR+2,live),(FAR+5,0,.d (.c (.v (.slice none 0 0))))]
def errPost (r l:List Int):Env:=[(FAR+5,0,L eErr (errTo r l r.length))]
theorem isCol_iff {l:List Int}:isCol l=true↔(1<=l.length/\l.length<=6)/\l.all num=true:=by
 unfold isCol
 rw [Bool.and_eq_true,inR_iff]
 constructor
 ·intro h;exact ⟨by have:=h.2;omega,h.1⟩
 ·intro h;exact ⟨h.2,by have:=h.1;omega⟩
theorem call75 {Gl} (S:SP Gl) (r l:List Int) (hr:r.all num=true) (hl:l.length=r.length) (hm:r.length<=1000) (hok:errOK r l=true):Does Tryz.prog Y Gl yd0 75 [.addr FAR 0,.addr (FAR+1) 0,.addr (FAR+2) 0] (errPre r l) (.ret (.tup [])) (errPost r l):=by
 refine fn_is2 S (.r (.ret (L eErr (errTo r l r.length))) .nil) Tryz.func75 (by kernel_rfl) (CO Gl 76 [L eI r,L eI l] (.ret (L eErr (errTo r l r.length)))/\True/\(sR eErr (errTo r l r.length))/\(sR eI r)/\sR eI l) (by kernel_rfl) ?_
 simp only [stdS,imp_self,implies_true,and_true]
 exact ⟨copied76 S r l hr hl hm hok,trivial⟩
theorem call75p {Gl} (S:SP Gl) (r l:List Int) (hr:r.all num=true) (hl:l.length=r.length) (hm:r.length<=1000) (hok:errOK r l=false):Does Tryz.prog Y Gl yd0 75 [.addr FAR 0,.addr (FAR+1) 0,.addr (FAR+2) 0] (errPre r l) (.pan (.iface 133 (.agg #[.int .i64 (errUp r l:Nat)]))) []:=by
 refine fn_iw S (let A0:=(Res.pan (Value.iface (133:TypeId) (Value.agg #[Value.int IntKind.i64 (↑(errUp r l):Int)])));let A1:=(Value.agg (Array.mk [Value.int IntKind.i64 (↑(errUp r l):Int)]));((.r A0 .nil),(CO Gl 76 [L eI r,L eI l] A0/\Value.iface (133:Nat) A1=Value.iface (133:Nat) A1/\(sR eI r)/\(sR eI l)/\Value.slice none 0 0=Value.slice none 0 0))) Tryz.func75 (by kernel_rfl) (by kernel_rfl) ?_
 simp only [stdS,imp_self,implies_true,and_true]
 exact ⟨copied76p S r l hr hl hm hok,trivial⟩
theorem att74 {Gl} (S:SP Gl) (r l:List Int) (hr:r.all num=true) (hl:l.length=r.length) (hm:r.length<=1000) (hok:errOK r l=true):Does Tryz.prog Y Gl yd0 74 [.fn 75 [] [.addr FAR 0,.addr (FAR+1) 0,.addr (FAR+2) 0]] (errPre r l) (.ret (I 0)) (errPost r l):=
 attempt74_does (fst:=[]) rfl rfl (call75 S r l hr hl hm hok) .ok
theorem att74p {Gl} (S:SP Gl) (r l:List Int) (hr:r.all num=true) (hl:l.length=r.length) (hm:r.length<=1000) (hok:errOK r l=false):Does Tryz.prog Y Gl yd0 74 [.fn 75 [] [.addr FAR 0,.addr (FAR+1) 0,.addr (FAR+2) 0]] (errPre r l) (.ret (I 5)) []:=
 attempt74_does (fst:=[]) rfl rfl (call75p S r l hr hl hm hok) (.row _)
theorem errors22 {Gl} (S:SP Gl) (r l:List Int) (hr:isCol r=true) (hl:isCol l=true) (hn:l.length=r.length) (hok:errOK r l=true):CO Gl 22 [L eI r,L eI l] (.ret (.tup [.c (.l eErr (errL r l)),.c (Ci 0)])):=by
 refine fn_iq S (let A0:=[T.fn (75:FuncId) [] [T.addr FAR (0:Nat),T.addr (FAR+1) (0:Nat),T.addr (FAR+2) (0:Nat)]];let A1:=(bif false then true else (r.length:Int) != (l.length:Int));((.r (.ret (B true)) (.sure 12 (.sure 13 (.r (.ret (B true)) (.sure 14 (.sure 17 (.sure 18 (.sure 19 (.sure 20 (.sure 21 (.br .nil (.w [(nat_lit 100000,nat_lit 2),(nat_lit 100001,nat_lit 3),(nat_lit 100002,nat_lit 6)] A0 (errPre r l) (.ret (I 0)) (errPost r l) (.ff .nil))))))))))))),(CO Gl 73 [L eI r] (.ret (B true))/\true=true/\true=true/\CO Gl 73 [L eI l] (.ret (B true))/\true=true/\true=true/\true=true/\(r.length<=maxLen->true=true/\true=true/\(l.length<=maxLen->true=true/\(A1=true->List.length (errL r l)=(0:Nat)/\(2:Int)=0)/\(A1=false->(75:Nat)=(75:Nat)/\(sR eI r)/\(sR eI l)/\Value.slice none 0 0=Value.slice none 0 0/\Does Tryz.prog Y Gl yd0 (74:FuncId) A0 (errPre r l) (.ret (I 0)) (errPost r l)/\false=false/\(sQ eErr (errTo r l r.length) (errL r l))/\(0:Int)=0)))))) Tryz.func22 (by kernel_rfl) (by kernel_rfl) ?_
 obtain ⟨c1,c2⟩:=isCol_iff.1 hr
 simp only [stdS,imp_self,implies_true,and_true,cond_false]
 refine ⟨isColT S r hr,isColT S l hl,fun hm hm2=>⟨fun h=>?_,fun h=>⟨att74 S r l c2 hn (by omega) hok,?_⟩⟩⟩
 ·rw [hn] at h
  simp at h
 ·unfold errL
  rw [hok]
  exact ⟨SEq_whole rfl,trivial⟩
theorem errors22n {Gl} (S:SP Gl) (r l:List Int) (hr:isCol r=true) (hl:isCol l=true) (hn:l.length=r.length) (hok:errOK r l=false):CO Gl 22 [L eI r,L eI l] (.ret (.tup [.c (.l eErr []),.c (Ci 5)])):=by
 refine fn_iq S (let A0:=[T.fn (75:FuncId) [] [T.addr FAR (0:Nat),T.addr (FAR+1) (0:Nat),T.addr (FAR+2) (0:Nat)]];let A1:=(bif false then true else (r.length:Int) != (l.length:Int));((.r (.ret (B true)) (.sure 12 (.sure 13 (.r (.ret (B true)) (.sure 14 (.sure 17 (.sure 18 (.sure 19 (.sure 20 (.sure 21 (.br .nil (.w [(nat_lit 100000,nat_lit 2),(nat_lit 100001,nat_lit 3),(nat_lit 100002,nat_lit 6)] A0 (errPre r l) (.ret (I 5)) [] (.tt .nil))))))))))))),(CO Gl 73 [L eI r] (.ret (B true))/\true=true/\true=true/\CO Gl 73 [L eI l] (.ret (B true))/\true=true/\true=true/\true=true/\(r.length<=maxLen->true=true/\true=true/\(l.length<=maxLen->true=true/\(A1=true->(0:Nat)=(0:Nat)/\(2:Int)=5)/\(A1=false->(75:Nat)=(75:Nat)/\(sR eI r)/\(sR eI l)/\Value.slice none 0 0=Value.slice none 0 0/\Does Tryz.prog Y Gl yd0 (74:FuncId) A0 (errPre r l) (.ret (I 5)) []/\true=true/\(0:Nat)=(0:Nat)/\(5:Int)=5)))))) Tryz.func22 (by kernel_rfl) (by kernel_rfl) ?_
 obtain ⟨c1,c2⟩:=isCol_iff.1 hr
 simp only [stdS,imp_self,implies_true,and_true,cond_false]
 refine ⟨isColT S r hr,isColT S l hl,fun hm hm2=>⟨fun h=>?_,fun h=>⟨att74p S r l c2 hn (by omega) hok,trivial⟩⟩⟩
 rw [hn] at h
 simp at h
theorem errors22u {Gl} (S:SP Gl) (r l:List Int) (hr:isCol r=true) (hl:isCol l=true) (hn:l.length=r.length):CO Gl 22 [L eI r,L eI l] (.ret (.tup [.c (.l eErr (errL r l)),.c (Ci (bif errOK r l then 0 else 5))])):=by
 cases hok:errOK r l with
 |true=>exact errors22 S r l hr hl hn hok
 |false=>
  have:=errors22n S r l hr hl hn hok
  unfold errL
  rw [hok]
  exact this
theorem ag_eq (s:Sheet) (r:List Int) (k:Nat):(((bif errOK r (nth s.cols k) then (0:Int) else 5) != 0)||decide (nth s.errs k<((errL r (nth s.cols k)).length:Int)))=!canHand s r k:=by
 rw [<-canHand_eq]
 cases errOK r (nth s.cols k)<;>rfl
theorem numsL_at (s:Sheet) (r:Nat) {i:Nat} (h:i<s.cols.length):nth (numbersL s r) i=cellS s i r:=nth_map h
theorem same_all (s:Sheet) (r:Nat):∀ k,k<=s.cols.length->sameR s r k=((numbersL s r).take k).all fun x=>x==cellS s 0 r
 |0,_=>by rw [List.take_zero];rfl
 |k+1,h=>by
  have hl:=numbersL_len' s r
  unfold sameR
  rw [same_all s r k (by omega),take_succ (by omega),List.all_append,numsL_at s r (by omega)]
  simp
theorem differ_all (s:Sheet) (r:Nat) (h:0<s.cols.length):(!(numbersL s r).all (fun x=>!(x != nth (numbersL s r) 0)))=!sameR s r s.cols.length:=by
 have hl:=numbersL_len' s r
 rw [same_all s r _ (Nat.le_refl _),List.take_of_length_le (by omega),numsL_at s r h]
 congr 1
 congr 1
 funext x
 unfold bne
 rw [Bool.not_not]
theorem agrees28 {Gl} (S:SP Gl) (s:Sheet) (r:List Int) (hs:s.ok=true) (hr:isCol r=true) (hl:r.length=rows s):CO Gl 28 [tSheet s,L eI r] (.ret (.tup [.c (.v (.bool (agrees s r))),.c (Ci 0)])):=by
 refine fn_iq S (let A0:=fun (k0:Nat)=>((bif errOK r (nth s.1 k0) then (0:Int) else (5:Int)) != (0:Int));let A1:=fun (k0:Nat)=>(eqB (A0 k0) false=true->eqB (A0 k0) false=true);let A2:=fun (k0:Nat)=>(bif (bif errOK r (nth s.1 k0) then (0:Int) else (5:Int)) != (0:Int) then true else decide (nth s.2 k0<(↑(List.length (errL r (nth s.1 k0))):Int)));let A3:=fun (k0:Nat)=>[D.c (C.l eErr (errL r (nth (Sheet.cols s) k0))),D.c (Ci (bif errOK r (nth (Sheet.cols s) k0) then (0:Int) else (5:Int)))];let A4:=(bif false then true else (r.length:Int) != (↑(List.length (nth s.1 (Int.toNat (0:Int)))):Int));let A5:=(s.1.length:Int);((.r (.ret (B true)) (.sure 14 (.sure 15 (.r (.ret (B true)) (.sure 16 (.sure 19 (.sure 20 (.sure 21 (.sure 22 (.sure 23 (.sure 24 (.sure 25 (.sure 26 (.br .nil (.loop (agUp s r) (fun k=>v 31 (I k)::v 30 (I (List.length (Sheet.cols s):Int))::v 29 (T.d (D.c (C.l eCol (Sheet.cols s))))::v 2 (ad 2)::v 1 (L eI r)::bx 2 (cSheet s)) fun k0=>.br (.r (.ret (.tup (A3 k0))) (.br .nil .nil)) .nil))))))))))))))),(CO Gl 81 [tSheet s] (.ret (B true))/\true=true/\true=true/\CO Gl 73 [L eI r] (.ret (B true))/\true=true/\true=true/\true=true/\(r.length<=maxLen->true=true/\true=true/\true=true/\((0:Int)<=0/\0<A5)/\true=true/\true=true/\(List.length (nth s.1 (Int.toNat (0:Int)))<=maxLen->true=true/\(A4=true->false=agrees s r/\(2:Int)=0)/\(A4=false->s.1.length<=maxLen->(0=(↑(0:Nat):Int)/\A5=A5/\(sR eCol s.1)/\(sR eI r)/\(sR eCol s.1)/\sR eI s.2)/\∀ (k0:Nat),k0<=agUp s r->(decide ((k0:Int)<(s.1.length:Int))=true->(0<=(k0:Int)/\(k0:Int)<A5)/\CO Gl 22 [L eI r,L eI (nth (Sheet.cols s) k0)] (.ret (.tup (A3 k0)))/\(A1 k0)/\((eqB (A0 k0) false=true->List.length (errL r (nth s.1 k0))<=maxLen)->(A1 k0)/\(A1 k0)/\(A1 k0)/\(eqB (A0 k0) false=true->0<=(k0:Int)/\(k0:Int)<(s.2.length:Int))/\(A1 k0)/\(A1 k0)/\(A1 k0)/\((A0 k0)=false->eqB (A0 k0) false=true)/\((A2 k0)=true->false=agrees s r/\(0:Int)=0)/\((A2 k0)=false->iR ((k0:Int)+1)/\k0<agUp s r/\(k0:Int)+1=(↑(k0+1):Int)/\A5=A5/\(sR eCol s.1)/\(sR eI r)/\(sR eCol s.1)/\sR eI s.2)))/\(decide ((k0:Int)<(s.1.length:Int))=false->true=agrees s r/\(0:Int)=0))))))) Tryz.func28 (by kernel_rfl) (by kernel_rfl) ?_
 obtain ⟨l1,l2,l3,l4⟩:=ok_len hs
 have hrs:=(col_len (l4 0 (by omega))).2.2
 have hl0:(nth s.cols (Int.toNat 0)).length=rows s:=rfl
 simp only [stdS,imp_self,implies_true,and_true,cond_false,ag_eq,hl0]
 refine ⟨isSheetT S s hs,isColT S r hr,fun hm=>⟨by omega,fun hm2=>⟨fun h=>?_,fun h hm3 k hk=>⟨fun hd=>?_,fun hd=>?_⟩⟩⟩⟩
 ·rw [hl] at h
  simp at h
 ·have hlt:k<s.cols.length:=by have h5:(k:Int)<(s.cols.length:Int):=of_decide_eq_true hd;omega
  obtain ⟨c1,c2,c3,c4,c5,c6⟩:=col_len (l4 k hlt)
  have hck:isCol (nth s.cols k)=true:=isCol_iff.2 ⟨by have:(nth s.cols k).length=rows s:=c1;omega,c2⟩
  refine ⟨⟨by omega,Int.ofNat_lt.2 hlt⟩,errors22u S r _ hr hck (by rw [hl];exact c1),fun _=>⟨fun _=>⟨by omega,by rw [l3];exact Int.ofNat_lt.2 hlt⟩,fun hb=>⟨?_,trivial⟩,fun hb=>⟨(rng_iff _).2 (by omega),?_,by omega,trivial⟩⟩⟩
  ·exact (upto_some (p:=canHand s r) (k:=k) (by rw [List.length_range];exact hlt) (by rw [nth_range hlt];simpa using hb)).symm
  ·exact upto_lt hk (by rw [List.length_range];exact hlt) (by rw [nth_range hlt];simpa using hb)
 ·have hge:¬ (k:Int)<(s.cols.length:Int):=of_decide_eq_false hd
  exact ⟨(upto_all (p:=canHand s r) (by rw [List.length_range];unfold agUp at hk;omega)).symm,trivial⟩
theorem differ105 {Gl} (S:SP Gl) (n:Int) (l:List Int) (h:0<l.length):CO Gl 105 [I n,.d (.rd [.l eI l])] (.ret (B (n != nth l 0))):=by
 refine fn_is S (.nil) Tryz.func105 (by kernel_rfl) (((0:Int)<=0/\0<(l.length:Int))/\(n != nth l (Int.toNat (0:Int)))=(n != nth l 0)) (by kernel_rfl) ?_
 exact ⟨by omega,rfl⟩
theorem idx131d {Gl} (S:SP Gl) (l:List Int) (h:0<l.length):CO Gl 131 [L eI l,.fn 105 [] [.d (.rd [.l eI l])]] (.ret (I (idxI (fun n=>n != nth l 0) l))):=by
 refine fn_iq S (let A0:=(fun n=>n != nth l 0);((.loop (upIdx A0 l) (fun k=>[v 8 (I k),v 7 (I l.length),v 0 (L eI l),v 1 (T.fn (105:FuncId) [] [T.d (D.rd [C.l eI l])])]) fun k0=>.br (.r (.ret (B (nth l k0 != nth l 0))) (.br .nil .nil)) .nil),(l.length<=maxLen->(0=(↑(0:Nat):Int)/\(l.length:Int)=(l.length:Int)/\(sR eI l)/\(105:Nat)=(105:Nat)/\sR eI l)/\∀ (k0:Nat),k0<=upIdx A0 l->(decide ((k0:Int)<(l.length:Int))=true->(0<=(k0:Int)/\(k0:Int)<(l.length:Int))/\CO Gl 105 [I (nth l k0),T.d (D.rd [C.l eI l])] (.ret (B (nth l k0 != nth l 0)))/\((nth l k0 != nth l 0)=true->(k0:Int)=idxI A0 l)/\((nth l k0 != nth l 0)=false->iR ((k0:Int)+1)/\k0<upIdx A0 l/\(k0:Int)+1=(↑(k0+1):Int)/\(l.length:Int)=(l.length:Int)/\(sR eI l)/\(105:Nat)=(105:Nat)/\sR eI l))/\(decide ((k0:Int)<(l.length:Int))=false->(-1:Int)=idxI A0 l)))) Tryz.func131 (by kernel_rfl) (by kernel_rfl) ?_
 simp only [stdS,imp_self,implies_true,and_true,decide_eq_true_eq,decide_eq_false_iff_not,maxLen_eq,rng_iff]
 exact idx_loop (fun n=>n != nth l 0) l _ fun k _=>differ105 S (nth l k) l h
theorem has104d {Gl} (S:SP Gl) (l:List Int) (h:0<l.length):CO Gl 104 [L eI l,.fn 105 [] [.d (.rd [.l eI l])]] (.ret (B (!l.all (fun x=>!(x != nth l 0))))):=by
 refine fn_is S (.r (.ret (I (idxI (fun n=>n != nth l 0) l))) .nil) Tryz.func104 (by kernel_rfl) (CO Gl 131 [L eI l,T.fn (105:FuncId) [] [T.d (D.rd [C.l eI l])]] (.ret (I (idxI (fun n=>n != nth l 0) l)))/\decide ((0:Int)<=idxI (fun n=>n != nth l 0) l)=!List.all l fun x=>!x != nth l 0) (by kernel_rfl) ?_
 exact ⟨idx131d S l h,idxI_spec (fun n=>n != nth l 0) l⟩
theorem apart53 {Gl} (S:SP Gl) (s:Sheet) (hs:s.ok=true):CO Gl 53 [tSheet s] (.ret (.tup [.c (.l eI (apartL s)),.c (Ci 0)])):=by
 refine fn_iq S (let A0:=fun (k0:Nat)=>(numbersL s k0);let A1:=(↑(rows s):Int);((.r (.ret (B true)) (.ff (.loop (rows s) (fun k=>v 15 (I k)::v 14 (I A1)::v 1 (ad 1)::tk 100 3::v 4 (Lt 100 eI (apartTo s k))::bx 1 (cSheet s)) fun k0=>.br (.r (.ret (L eI (A0 k0))) (.r (.ret (B !List.all (A0 k0) fun x=>!x != nth (A0 k0) (0:Nat))) (.br .nil .nil))) .nil))),(CO Gl 81 [tSheet s] (.ret (B true))/\false=false/\((0:Int)<=0/\0<(s.1.length:Int))/\(List.length (nth s.1 (Int.toNat (0:Int)))<=maxLen->(0=(↑(0:Nat):Int)/\(↑(List.length (nth s.1 (Int.toNat (0:Int)))):Int)=A1/\(0:Nat)=(0:Nat)/\(sR eCol s.1)/\sR eI s.2)/\∀ (k0:Nat),k0<=rows s->(decide ((k0:Int)<(↑(rows s):Int))=true->CO Gl 103 [tSheet s,I k0] (.ret (L eI (A0 k0)))/\CO Gl 104 [L eI (A0 k0),T.fn (105:FuncId) [] [T.d (D.rd [C.l eI (A0 k0)])]] (.ret (B !List.all (A0 k0) fun x=>!x != nth (A0 k0) (0:Nat)))/\((!List.all (A0 k0) fun x=>!x != nth (A0 k0) (0:Nat))=true->(List.length (apartTo s k0)+1)*8<=140737488355328/\List.length (apartTo s k0)+1<=140737488355328/\iR ((k0:Int)+1)/\k0<rows s/\(k0:Int)+1=(↑(k0+1):Int)/\A1=A1/\(SEq (List.length (apartTo s k0)+1) (catF (List.length (apartTo s k0)) (fun i=>eI (nth (apartTo s k0) i)) fun i=>List.getD [List.map C.dem [C.v (Value.int IntKind.i64 (k0:Int))]] i []) (List.length (apartTo s (k0+1))) fun i=>eI (nth (apartTo s (k0+1)) i))/\(sR eCol s.1)/\sR eI s.2)/\((!List.all (A0 k0) fun x=>!x != nth (A0 k0) (0:Nat))=false->iR ((k0:Int)+1)/\k0<rows s/\(k0:Int)+1=(↑(k0+1):Int)/\A1=A1/\(sQ eI (apartTo s k0) (apartTo s (k0+1)))/\(sR eCol s.1)/\sR eI s.2))/\(decide ((k0:Int)<(↑(rows s):Int))=false->(sQ eI (apartTo s k0) (apartL s))/\(0:Int)=0))))) Tryz.func53 (by kernel_rfl) (by kernel_rfl) ?_
 obtain ⟨l1,l2,l3,l4⟩:=ok_len hs
 have hrs:=(col_len (l4 0 (by omega))).2.2
 have hl0:(nth s.cols (Int.toNat 0)).length=rows s:=rfl
 have hcl:∀ i,i<s.cols.length->(nth s.cols i).length=rows s:=fun i hi=>(col_len (l4 i hi)).1
 have hnl:=numbersL_len' s
 have hdf:=fun r=>differ_all s r (by omega)
 simp only [stdS,imp_self,implies_true,and_true,hdf]
 refine ⟨isSheetT S s hs,by omega,fun hm=>⟨⟨rfl,trivial⟩,fun k hk=>⟨fun hd=>?_,fun hd=>?_⟩⟩⟩
 ·have hlt:k<rows s:=by have:=of_decide_eq_true hd;omega
  have hal:=apartTo_len s k
  have ha:apartTo s (k+1)=apartTo s k++bif sameR s k s.cols.length then [] else [(k:Int)]:=rfl
  refine ⟨numbers103 S s k (fun i hi=>by rw [hcl i hi];exact hlt) (by omega),?_,fun hf=>⟨by omega,by omega,(rng_iff _).2 (by omega),hlt,by omega,SEq_push1 (f:=eI) ?_ rfl,trivial⟩,fun ht=>⟨(rng_iff _).2 (by omega),hlt,by omega,?_,trivial⟩⟩
  ·have:=has104d S (numbersL s k) (by rw [hnl];omega)
   rw [hdf k] at this
   exact this
  ·rw [ha]
   cases hb:sameR s k s.cols.length
   ·rfl
   ·rw [hb] at hf;cases hf
  ·rw [ha]
   cases hb:sameR s k s.cols.length
   ·rw [hb] at ht;cases ht
   ·exact SEq_whole (List.append_nil _)
 ·have hke:k=rows s:=by have:=of_decide_eq_false hd;omega
  subst hke
  exact ⟨SEq_whole rfl,trivial⟩
end Go.Vc.Hn
namespace Go.Vc
open Go Go.RowKit
section
variable {P:Program} {Gl:World->Prop}
theorem computes_same {f:FuncId} {args:List T} {x:D} (hf:FnOK P f) (h:∀ vis w (vs:Array Value),Gl w->RelTs (Gh0 vis) w (Lo w.heap.size) args vs.toList->∃ v,RelD vis w (fun _=>False) x v/\Calls P f vs w fun e w'=>e=.returned v/\w'=w):Computes P Gl f args (.ret (.d x)):=by
 refine ⟨hf,fun vis w vs hvis hgl hargs=>?_⟩
 obtain ⟨v,hx,hc⟩:=h vis w vs hgl hargs
 refine hc.mono fun e w' he=>?_
 obtain ⟨rfl,rfl⟩:=he
 exact ⟨.refl _ _,v,vis,rfl,fun _ _=>rfl,hvis,hx⟩
theorem args1 {G:Gh} {w:World} {O:Nat->Prop} {u:Value} {vs:Array Value} (h:RelTs G w O [.d (.c (.v u))] vs.toList):vs=#[u]:=by
 simp only [RelTs] at h
 obtain ⟨v,us,hv,h1,rfl⟩:=h
 simp only [RelT,RelD] at h1
 cases h1
 apply Array.ext'
 rw [hv]
theorem args2 {G:Gh} {w:World} {O:Nat->Prop} {u u':Value} {vs:Array Value} (h:RelTs G w O [.d (.c (.v u)),.d (.c (.v u'))] vs.toList):vs=#[u,u']:=by
 simp only [RelTs] at h
 obtain ⟨v,us,hv,h1,v',us',rfl,h2,rfl⟩:=h
 simp only [RelT,RelD] at h1 h2
 cases h1
 cases h2
 apply Array.ext'
 rw [hv]
end
end Go.Vc
namespace Go.Vc.Hn
open Go Go.Proofs Go.Vc Go.RowKit
def bs (l:List UInt8):ByteArray:=⟨l.toArray⟩
theorem bs_app (a b:List UInt8):bs a++bs b=bs (a++b):=by
 apply ByteArray.ext
 rw [ByteArray.data_append]
 simp [bs]
theorem bs_size (a:List UInt8):(bs a).size=a.length:=by simp [bs,ByteArray.size]
theorem bs_list (a:List UInt8):(bs a).data.toList=a:=by simp [bs]
def str (l:List UInt8):T:=.d (.c (.v (.string (bs l))))
def eS (l:List UInt8):List C:=[.v (.string (bs l))]
def dec (n:Int):List UInt8:=Lib.decDigits n.toNat
theorem fn133:FnOK Tryz.prog 133:=⟨Tryz.f133,by kernel_rfl,by kernel_rfl,by kernel_rfl⟩
theorem fn134:FnOK Tryz.prog 134:=⟨Tryz.f134,by kernel_rfl,by kernel_rfl,by kernel_rfl⟩
def splitL (c:UInt8):List UInt8->List (List UInt8)
 | []=>[[]]
 |x::r=>bif x==c then []::splitL c r else match splitL c r with
  | []=>[[x]]
  |p::q=>(x::p)::q
theorem splitL_ne (c:UInt8):∀ l,splitL c l≠[]
 | []=>by simp [splitL]
 |x::r=>by
  unfold splitL
  cases x==c with
  |true=>simp
  |false=>
   simp only [cond_false]
   split<;>simp
theorem splitL_len (c:UInt8):∀ l,(splitL c l).length=l.count c+1
 | []=>rfl
 |x::r=>by
  have ih:=splitL_len c r
  have hne:=splitL_ne c r
  unfold splitL
  rw [List.count_cons]
  cases hx:x==c with
  |true=>simp [ih]
  |false=>
   simp only [cond_false]
   cases hs:splitL c r with
   |nil=>exact absurd hs hne
   |cons p q=>rw [hs] at ih;simpa using ih
theorem splitK_one (c:UInt8):∀ s:List UInt8,Lib.splitK [c] 0 (s.count c) s=splitL c s
 | []=>rfl
 |b::l=>by
  have ih:=splitK_one c l
  unfold splitL
  cases hb:b==c with
  |true=>
   obtain rfl:=beq_iff_eq.1 hb
   have hix:Lib.index (b::l) [b]=0:=by rw [Lib.index];simp [List.isPrefixOf]
   rw [List.count_cons_self,Lib.splitK,hix]
   simp only [cond_true]
   rw [<-ih]
   rfl
  |false=>
   have hne:b≠c:=beq_eq_false_iff_ne.1 hb
   have hp:([c]:List UInt8).isPrefixOf (b::l)=false:=by simp [List.isPrefixOf,Ne.symm hne]
   have hix:Lib.index (b::l) [c]=if Lib.index l [c]==-1 then -1 else Lib.index l [c]+1:=by rw [Lib.index,hp];simp
   rw [List.count_cons_of_ne hne,cond_false,<-ih]
   by_cases hm:Lib.index l [c]=-1
   ·have h0:l.count c=0:=by rw [<-Lib.count_one,Lib.count_miss hm]
    rw [h0]
    rfl
   ·have hge:=Lib.index_ge l [c]
    obtain ⟨j,hj⟩:∃ j:Nat,Lib.index l [c]=j:=⟨(Lib.index l [c]).toNat,by omega⟩
    have hcnt:l.count c=Lib.count (l.drop (j+1)) [c]+1:=by
     rw [<-Lib.count_one,Lib.count_hit (by simp) hj]
     simp;omega
    rw [hcnt]
    unfold Lib.splitK
    have e1:(Lib.index l [c]==-1)=false:=by rw [beq_eq_false_iff_ne];exact hm
    have e2:Lib.index (b::l) [c]=((j+1:Nat):Int):=by rw [hix,e1,hj];simp
    have e3:(Lib.index (b::l) [c]==-1)=false:=by rw [e2,beq_eq_false_iff_ne];omega
    rw [e1,e3,e2,hj]
    simp
theorem splitB_one (c:UInt8) (s:List UInt8):Lib.splitB (bs [c]) 0 (Lib.countB (bs s) (bs [c])) (bs s)=(splitL c s).map bs:=by
 have h:=Lib.splitB_data (bs [c]) 0 (Lib.countB (bs s) (bs [c])) (bs s)
 have hc:Lib.countB (bs s) (bs [c])=s.count c:=by
  show Lib.count (bs s).data.toList (bs [c]).data.toList=_
  rw [bs_list,bs_list,Lib.count_one]
 rw [hc] at h ⊢
 rw [bs_list,bs_list,splitK_one] at h
 rw [<-h,List.map_map]
 have:(bs∘fun x:ByteArray=>x.data.toList)=id:=by funext x;rfl
 rw [this,List.map_id]
theorem split134 {Gl:World->Prop} (hG:∀ w,Gl w->∃ m,w.cell? ⟨1,0,none⟩=some (.int .i64 m)) (s:List UInt8) (c:UInt8) (hs:s.length<4294967281):CO Gl 134 [str s,str [c]] (.ret (L eS (splitL c s))):=by
 refine ⟨fn134,fun vis w vs hvis hgl hargs=>?_⟩
 rw [args2 hargs]
 obtain ⟨m,hm⟩:=hG w hgl
 have hsp:=splitB_one c s
 have hc:Lib.countB (bs s) (bs [c])+1=(splitL c s).length:=by
  rw [splitL_len]
  show Lib.count (bs s).data.toList (bs [c]).data.toList+1=_
  rw [bs_list,bs_list,Lib.count_one]
 have hlen:(splitL c s).length<=4294967282:=by
  rw [splitL_len]
  have:=List.count_le_length (a:=c) (l:=s)
  omega
 refine (Tryz.strings_Split (bs s) (bs [c]) m w (by rw [bs_size];exact hs) hm (by rw [bs_size];simp)).mono fun e w' he=>?_
 obtain ⟨rfl,rfl⟩:=he
 rw [hsp,hc]
 refine ⟨(Below.refl _ _).alloc (Nat.le_refl _) _,_,fun b=>if b=w.heap.size then (splitL c s).length else vis b,rfl,fun b hb=>?_,fun b hb=>?_,?_⟩
 ·dsimp only
  rw [if_neg (by omega)]
 ·rw [World.size_alloc] at hb
  dsimp only
  rw [if_neg (by omega)]
  exact hvis b (by omega)
 ·refine .s _ _ _ w.heap.size 0 (splitL c s).length 1 (fun i _=>.string (bs (nth (splitL c s) i))) (Nat.le_refl _) (by unfold maxLen;omega) (fun i hi=>rfl) (by simp) (fun i j c' hi hj=>?_) (fun i j c' hi hj=>?_)
  ·have hj0:j=0:=by
    have:=(List.getElem?_eq_some_iff.1 hj).1
    have h1:(eS (nth (splitL c s) i)).length=1:=rfl
    omega
   subst hj0
   rw [World.cell?_alloc_new]
   simp [nth_eq hi,hi]
  ·have hj0:j=0:=by
    have:=(List.getElem?_eq_some_iff.1 hj).1
    have h1:(eS (nth (splitL c s) i)).length=1:=rfl
    omega
   subst hj0
   obtain rfl:C.v (.string (bs (nth (splitL c s) i)))=c':=Option.some.inj hj
   exact .v _ rfl
open Go Go.Proofs Go.Vc
def sm (n:Int):Prop:=0<=n/\n<1000
def si (n:Int):Prop:=-1000<n/\n<1000
theorem dec_len {n:Int} (h:sm n):1<=(dec n).length/\(dec n).length<=3:=by
 obtain ⟨h0,h1⟩:=h
 unfold dec
 have h2:n.toNat<1000:=by omega
 by_cases h:n.toNat<10
 ·rw [Lib.decDigits,dif_pos h];simp
 ·by_cases h3:n.toNat<100
  ·rw [Lib.decDigits,dif_neg h,Lib.decDigits,dif_pos (by omega)];simp
  ·rw [Lib.decDigits,dif_neg h,Lib.decDigits,dif_neg (by omega),Lib.decDigits,dif_pos (by omega)];simp
theorem u8_iff (n:Int):inRange IntKind.u8 n↔0<=n/\n<=255:=Iff.rfl
theorem u8one (x:Int):∀ (i:Nat),i<1->[List.map C.dem [C.v (Value.int IntKind.u8 x)]].getD i []=[C.v (Value.int IntKind.u8 (u8Of ([List.map C.dem [C.v (Value.int IntKind.u8 x)]].getD i [])))]:=by
 intro i hi
 have:i=0:=by omega
 subst this
 rfl
theorem str1 (x:Int):(strOf 1 fun i=>[List.map C.dem [C.v (Value.int IntKind.u8 x)]].getD i [])=bs [UInt8.ofNat x.toNat]:=rfl
theorem dec_one {n:Int} (h0:0<=n) (h1:n<10):dec n=[UInt8.ofNat (48+n).toNat]:=by
 unfold dec
 rw [Lib.decDigits,dif_pos (by omega)]
 congr 2
 omega
theorem dec_two {n:Int} (h0:10<=n):dec n=dec (n / 10)++[UInt8.ofNat (48+n % 10).toNat]:=by
 unfold dec
 rw [Lib.decDigits,dif_neg (by omega)]
 congr 2
 ·congr 1;omega
 ·congr 1;omega
def decI (n:Int):List UInt8:=bif decide (n<0) then 45::dec (-n) else dec n
theorem decI_pos {n:Int} (h:0<=n):decI n=dec n:=by
 unfold decI
 have:decide (n<0)=false:=by simp;omega
 rw [this];rfl
theorem decI_neg {n:Int} (h:n<0):decI n=45::dec (-n):=by
 unfold decI
 have:decide (n<0)=true:=by simpa using h
 rw [this];rfl
theorem decI_len {n:Int} (h:si n):1<=(decI n).length/\(decI n).length<=4:=by
 obtain ⟨h0,h1⟩:=h
 by_cases hn:n<0
 ·rw [decI_neg hn,List.length_cons]
  have:=dec_len (n:=-n) ⟨by omega,by omega⟩
  omega
 ·rw [decI_pos (by omega)]
  have:=dec_len (n:=n) ⟨by omega,by omega⟩
  omega
theorem max_eq:IntKind.i64.max=9223372036854775807:=rfl
theorem dec_size {n:Int} (h:sm n):(bs (dec n)).size<=3:=by rw [bs_size];exact (dec_len h).2
theorem decimal1 {Gl} (S:SP Gl) (n:Int) (h0:0<=n) (h1:n<10):CO Gl 137 [I n] (.ret (str (dec n))):=by
 refine fn_iq S (let A0:=[List.map C.dem [C.v (Value.int IntKind.u8 ((48:Int)-n))]];let A1:=[List.map C.dem [C.v (Value.int IntKind.u8 ((48:Int)+n))]];let A2:=((10:Int)≠(0:Int)/\iR (Int.tdiv n (10:Int)));let A3:=(bif decide ((-10:Int)<n) then decide (n<(0:Int)) else false);((.br .nil (.br .nil (.br .nil .nil))),((eqB (decide ((-10:Int)<n)) true=true->eqB (decide ((-10:Int)<n)) true=true)/\(decide ((-10:Int)<n)=true->eqB (decide ((-10:Int)<n)) true=true)/\(A3=true->iR ((48:Int)-n)/\inRange IntKind.u8 ((48:Int)-n)/\(∀ (i:Nat),i<(1:Nat)->List.getD A0 i []=[C.v (Value.int IntKind.u8 (u8Of (List.getD A0 i [])))])/\(↑(ByteArray.size (ByteArray.mk #[(45:UInt8)])+ByteArray.size (strOf (1:Nat) fun i=>List.getD A0 i [])):Int)<=IntKind.max IntKind.i64/\(ByteArray.mk #[(45:UInt8)]++strOf (1:Nat) fun i=>List.getD A0 i [])=bs (dec n))/\(A3=false->(decide (n<(0:Int))=true->A2/\False)/\(decide (n<(0:Int))=false->(decide (n<(10:Int))=true->iR ((48:Int)+n)/\inRange IntKind.u8 ((48:Int)+n)/\(∀ (i:Nat),i<(1:Nat)->List.getD A1 i []=[C.v (Value.int IntKind.u8 (u8Of (List.getD A1 i [])))])/\(strOf (1:Nat) fun i=>List.getD A1 i [])=bs (dec n))/\(decide (n<(10:Int))=false->A2/\False)))))) Tryz.func137 (by kernel_rfl) (by kernel_rfl) ?_
 simp only [stdS,imp_self,implies_true,and_true,str1]
 refine ⟨fun h=>?_,fun _=>⟨fun h=>?_,fun _=>⟨fun _=>⟨(rng_iff _).2 (by omega),(u8_iff _).2 (by omega),u8one _,by rw [dec_one h0 h1]⟩,fun h=>?_⟩⟩⟩
 ·simp at h;omega
 ·simp at h;omega
 ·simp at h;omega
theorem decimal2 {Gl} (S:SP Gl) (n:Int) (h0:10<=n) (h1:n<1000) (ih:CO Gl 137 [I (Int.tdiv n 10)] (.ret (str (dec (n / 10))))):CO Gl 137 [I n] (.ret (str (dec n))):=by
 refine fn_iq S (let A0:=[List.map C.dem [C.v (Value.int IntKind.u8 ((48:Int)-Int.tmod n (10:Int)))]];let A1:=[List.map C.dem [C.v (Value.int IntKind.u8 ((48:Int)+Int.tmod n (10:Int)))]];let A2:=[List.map C.dem [C.v (Value.int IntKind.u8 ((48:Int)-n))]];let A3:=(dec (n / (10:Int)));let A4:=[List.map C.dem [C.v (Value.int IntKind.u8 ((48:Int)+n))]];let A5:=((10:Int)≠(0:Int)/\iR (Int.tdiv n (10:Int)));let A6:=(bif decide ((-10:Int)<n) then decide (n<(0:Int)) else false);((.br .nil (.br (.r (.ret (str A3)) .nil) (.br .nil (.r (.ret (str A3)) .nil)))),((eqB (decide ((-10:Int)<n)) true=true->eqB (decide ((-10:Int)<n)) true=true)/\(decide ((-10:Int)<n)=true->eqB (decide ((-10:Int)<n)) true=true)/\(A6=true->iR ((48:Int)-n)/\inRange IntKind.u8 ((48:Int)-n)/\(∀ (i:Nat),i<(1:Nat)->List.getD A2 i []=[C.v (Value.int IntKind.u8 (u8Of (List.getD A2 i [])))])/\(↑(ByteArray.size (ByteArray.mk #[(45:UInt8)])+ByteArray.size (strOf (1:Nat) fun i=>List.getD A2 i [])):Int)<=IntKind.max IntKind.i64/\(ByteArray.mk #[(45:UInt8)]++strOf (1:Nat) fun i=>List.getD A2 i [])=bs (dec n))/\(A6=false->(decide (n<(0:Int))=true->A5/\CO Gl 137 [I (Int.tdiv n (10:Int))] (.ret (str A3))/\(10:Int)≠(0:Int)/\iR ((48:Int)-Int.tmod n (10:Int))/\inRange IntKind.u8 ((48:Int)-Int.tmod n (10:Int))/\(∀ (i:Nat),i<(1:Nat)->List.getD A0 i []=[C.v (Value.int IntKind.u8 (u8Of (List.getD A0 i [])))])/\(↑(ByteArray.size (bs A3)+ByteArray.size (strOf (1:Nat) fun i=>List.getD A0 i [])):Int)<=IntKind.max IntKind.i64/\(bs A3++strOf (1:Nat) fun i=>List.getD A0 i [])=bs (dec n))/\(decide (n<(0:Int))=false->(decide (n<(10:Int))=true->iR ((48:Int)+n)/\inRange IntKind.u8 ((48:Int)+n)/\(∀ (i:Nat),i<(1:Nat)->List.getD A4 i []=[C.v (Value.int IntKind.u8 (u8Of (List.getD A4 i [])))])/\(strOf (1:Nat) fun i=>List.getD A4 i [])=bs (dec n))/\(decide (n<(10:Int))=false->A5/\CO Gl 137 [I (Int.tdiv n (10:Int))] (.ret (str A3))/\(10:Int)≠(0:Int)/\iR ((48:Int)+Int.tmod n (10:Int))/\inRange IntKind.u8 ((48:Int)+Int.tmod n (10:Int))/\(∀ (i:Nat),i<(1:Nat)->List.getD A1 i []=[C.v (Value.int IntKind.u8 (u8Of (List.getD A1 i [])))])/\(↑(ByteArray.size (bs A3)+ByteArray.size (strOf (1:Nat) fun i=>List.getD A1 i [])):Int)<=IntKind.max IntKind.i64/\(bs A3++strOf (1:Nat) fun i=>List.getD A1 i [])=bs (dec n))))))) Tryz.func137 (by kernel_rfl) (by kernel_rfl) ?_
 dsimp only
 have hd:Int.tdiv n 10=n / 10:=Int.tdiv_eq_ediv_of_nonneg (by omega)
 have hm:Int.tmod n 10=n % 10:=Int.tmod_eq_emod_of_nonneg (by omega)
 rw [hd] at ih
 simp only [stdS,imp_self,implies_true,and_true,str1,hd,hm]
 refine ⟨fun h=>?_,fun _=>⟨fun h=>?_,fun _=>⟨fun h=>?_,fun _=>⟨⟨by decide,(rng_iff _).2 (by omega)⟩,ih,by decide,(rng_iff _).2 (by omega),(u8_iff _).2 (by omega),u8one _,?_,by rw [bs_app,<-dec_two h0]⟩⟩⟩⟩
 ·simp at h;omega
 ·simp at h;omega
 ·simp at h;omega
 ·have:=dec_size (n:=n / 10) ⟨by omega,by omega⟩
  rw [max_eq,bs_size [_]]
  simp only [List.length_singleton]
  omega
theorem decimalm1 {Gl} (S:SP Gl) (n:Int) (h0:-10<n) (h1:n<0):CO Gl 137 [I n] (.ret (str (45::dec (-n)))):=by
 refine fn_iq S (let A0:=[List.map C.dem [C.v (Value.int IntKind.u8 ((48:Int)-n))]];let A1:=[List.map C.dem [C.v (Value.int IntKind.u8 ((48:Int)+n))]];let A2:=((10:Int)≠(0:Int)/\iR (Int.tdiv n (10:Int)));let A3:=(bif decide ((-10:Int)<n) then decide (n<(0:Int)) else false);((.br .nil (.br .nil (.br .nil .nil))),((eqB (decide ((-10:Int)<n)) true=true->eqB (decide ((-10:Int)<n)) true=true)/\(decide ((-10:Int)<n)=true->eqB (decide ((-10:Int)<n)) true=true)/\(A3=true->iR ((48:Int)-n)/\inRange IntKind.u8 ((48:Int)-n)/\(∀ (i:Nat),i<(1:Nat)->List.getD A0 i []=[C.v (Value.int IntKind.u8 (u8Of (List.getD A0 i [])))])/\(↑(ByteArray.size (ByteArray.mk #[(45:UInt8)])+ByteArray.size (strOf (1:Nat) fun i=>List.getD A0 i [])):Int)<=IntKind.max IntKind.i64/\(ByteArray.mk #[(45:UInt8)]++strOf (1:Nat) fun i=>List.getD A0 i [])=bs ((45:UInt8)::dec (-n)))/\(A3=false->(decide (n<(0:Int))=true->A2/\False)/\(decide (n<(0:Int))=false->(decide (n<(10:Int))=true->iR ((48:Int)+n)/\inRange IntKind.u8 ((48:Int)+n)/\(∀ (i:Nat),i<(1:Nat)->List.getD A1 i []=[C.v (Value.int IntKind.u8 (u8Of (List.getD A1 i [])))])/\(strOf (1:Nat) fun i=>List.getD A1 i [])=bs ((45:UInt8)::dec (-n)))/\(decide (n<(10:Int))=false->A2/\False)))))) Tryz.func137 (by kernel_rfl) (by kernel_rfl) ?_
 have e45:({ data:=#[45] }:ByteArray)=bs [45]:=rfl
 simp only [stdS,imp_self,implies_true,and_true,str1,e45]
 refine ⟨fun _=>⟨(rng_iff _).2 (by omega),(u8_iff _).2 (by omega),u8one _,by rw [bs_size,bs_size,max_eq];show ((1+1:Nat):Int)<=9223372036854775807;decide,?_⟩,fun h=>?_⟩
 ·rw [bs_app,dec_one (by omega) (by omega)];rfl
 ·simp at h;omega
theorem decimalm2 {Gl} (S:SP Gl) (n:Int) (h0:-1000<n) (h1:n<=-10) (ih:CO Gl 137 [I (Int.tdiv n 10)] (.ret (str (45::dec (-n / 10))))):CO Gl 137 [I n] (.ret (str (45::dec (-n)))):=by
 refine fn_iq S (let A0:=[List.map C.dem [C.v (Value.int IntKind.u8 ((48:Int)-Int.tmod n (10:Int)))]];let A1:=[List.map C.dem [C.v (Value.int IntKind.u8 ((48:Int)+Int.tmod n (10:Int)))]];let A2:=((45:UInt8)::dec (-n / (10:Int)));let A3:=[List.map C.dem [C.v (Value.int IntKind.u8 ((48:Int)-n))]];let A4:=[List.map C.dem [C.v (Value.int IntKind.u8 ((48:Int)+n))]];let A5:=((10:Int)≠(0:Int)/\iR (Int.tdiv n (10:Int)));let A6:=(bif decide ((-10:Int)<n) then decide (n<(0:Int)) else false);let A7:=((45:UInt8)::dec (-n));((.br .nil (.br (.r (.ret (str A2)) .nil) (.br .nil (.r (.ret (str A2)) .nil)))),((eqB (decide ((-10:Int)<n)) true=true->eqB (decide ((-10:Int)<n)) true=true)/\(decide ((-10:Int)<n)=true->eqB (decide ((-10:Int)<n)) true=true)/\(A6=true->iR ((48:Int)-n)/\inRange IntKind.u8 ((48:Int)-n)/\(∀ (i:Nat),i<(1:Nat)->List.getD A3 i []=[C.v (Value.int IntKind.u8 (u8Of (List.getD A3 i [])))])/\(↑(ByteArray.size (ByteArray.mk #[(45:UInt8)])+ByteArray.size (strOf (1:Nat) fun i=>List.getD A3 i [])):Int)<=IntKind.max IntKind.i64/\(ByteArray.mk #[(45:UInt8)]++strOf (1:Nat) fun i=>List.getD A3 i [])=bs A7)/\(A6=false->(decide (n<(0:Int))=true->A5/\CO Gl 137 [I (Int.tdiv n (10:Int))] (.ret (str A2))/\(10:Int)≠(0:Int)/\iR ((48:Int)-Int.tmod n (10:Int))/\inRange IntKind.u8 ((48:Int)-Int.tmod n (10:Int))/\(∀ (i:Nat),i<(1:Nat)->List.getD A0 i []=[C.v (Value.int IntKind.u8 (u8Of (List.getD A0 i [])))])/\(↑(ByteArray.size (bs A2)+ByteArray.size (strOf (1:Nat) fun i=>List.getD A0 i [])):Int)<=IntKind.max IntKind.i64/\(bs A2++strOf (1:Nat) fun i=>List.getD A0 i [])=bs A7)/\(decide (n<(0:Int))=false->(decide (n<(10:Int))=true->iR ((48:Int)+n)/\inRange IntKind.u8 ((48:Int)+n)/\(∀ (i:Nat),i<(1:Nat)->List.getD A4 i []=[C.v (Value.int IntKind.u8 (u8Of (List.getD A4 i [])))])/\(strOf (1:Nat) fun i=>List.getD A4 i [])=bs A7)/\(decide (n<(10:Int))=false->A5/\CO Gl 137 [I (Int.tdiv n (10:Int))] (.ret (str A2))/\(10:Int)≠(0:Int)/\iR ((48:Int)+Int.tmod n (10:Int))/\inRange IntKind.u8 ((48:Int)+Int.tmod n (10:Int))/\(∀ (i:Nat),i<(1:Nat)->List.getD A1 i []=[C.v (Value.int IntKind.u8 (u8Of (List.getD A1 i [])))])/\(↑(ByteArray.size (bs A2)+ByteArray.size (strOf (1:Nat) fun i=>List.getD A1 i [])):Int)<=IntKind.max IntKind.i64/\(bs A2++strOf (1:Nat) fun i=>List.getD A1 i [])=bs A7)))))) Tryz.func137 (by kernel_rfl) (by kernel_rfl) ?_
 dsimp only
 have hd:Int.tdiv n 10=-(-n / 10):=by
  have:Int.tdiv (-(-n)) 10=-(Int.tdiv (-n) 10):=Int.neg_tdiv ..
  rw [Int.neg_neg] at this
  rw [this,Int.tdiv_eq_ediv_of_nonneg (by omega)]
 have hm:Int.tmod n 10=-(-n % 10):=by
  have:Int.tmod (-(-n)) 10=-(Int.tmod (-n) 10):=Int.neg_tmod ..
  rw [Int.neg_neg] at this
  rw [this,Int.tmod_eq_emod_of_nonneg (by omega)]
 rw [hd] at ih
 simp only [stdS,imp_self,implies_true,and_true,str1,hd,hm]
 refine ⟨fun h=>?_,fun _=>⟨fun _=>⟨⟨by decide,(rng_iff _).2 (by omega)⟩,ih,by decide,(rng_iff _).2 (by omega),(u8_iff _).2 (by omega),u8one _,?_,?_⟩,fun h=>?_⟩⟩
 ·simp at h;omega
 ·have:=dec_size (n:=-n / 10) ⟨by omega,by omega⟩
  rw [bs_size] at this
  rw [max_eq,bs_size,bs_size [_]]
  simp only [List.length_singleton,List.length_cons,List.length_nil]
  omega
 ·rw [bs_app,dec_two (n:=-n) (by omega),Int.sub_neg];rfl
 ·simp at h;omega
theorem decimalA {Gl} (S:SP Gl) (n:Int) (h0:0<=n) (h1:n<100):CO Gl 137 [I n] (.ret (str (dec n))):=by
 by_cases h:n<10
 ·exact decimal1 S n h0 h
 ·have hd:Int.tdiv n 10=n / 10:=Int.tdiv_eq_ediv_of_nonneg (by omega)
  exact decimal2 S n (by omega) (by omega) (by rw [hd];exact decimal1 S _ (by omega) (by omega))
theorem decimal137 {Gl} (S:SP Gl) (n:Int) (h:sm n):CO Gl 137 [I n] (.ret (str (dec n))):=by
 by_cases h1:n<100
 ·exact decimalA S n h.1 h1
 ·have hd:Int.tdiv n 10=n / 10:=Int.tdiv_eq_ediv_of_nonneg h.1
  exact decimal2 S n (by omega) h.2 (by rw [hd];exact decimalA S _ (by omega) (by have:=h.2;omega))
theorem tdiv_neg10 (n:Int) (h:n<=0):Int.tdiv n 10=-(-n / 10):=by
 have:Int.tdiv (-(-n)) 10=-(Int.tdiv (-n) 10):=Int.neg_tdiv ..
 rw [Int.neg_neg] at this
 rw [this,Int.tdiv_eq_ediv_of_nonneg (by omega)]
theorem decimalB {Gl} (S:SP Gl) (n:Int) (h0:-100<n) (h1:n<0):CO Gl 137 [I n] (.ret (str (45::dec (-n)))):=by
 by_cases h:-10<n
 ·exact decimalm1 S n h h1
 ·refine decimalm2 S n (by omega) (by omega) ?_
  have:=decimalm1 S (-(-n / 10)) (by omega) (by omega)
  rw [Int.neg_neg] at this
  rw [tdiv_neg10 n (by omega)]
  exact this
theorem decimal137I {Gl} (S:SP Gl) (n:Int) (h:si n):CO Gl 137 [I n] (.ret (str (decI n))):=by
 obtain ⟨h0,h1⟩:=h
 by_cases hn:n<0
 ·rw [decI_neg hn]
  by_cases h2:-100<n
  ·exact decimalB S n h2 hn
  ·refine decimalm2 S n (by omega) (by omega) ?_
   have:=decimalB S (-(-n / 10)) (by omega) (by omega)
   rw [Int.neg_neg] at this
   rw [tdiv_neg10 n (by omega)]
   exact this
 ·rw [decI_pos (by omega)]
  exact decimal137 S n ⟨by omega,h1⟩
def nums3 (l:List Int):List UInt8:=l.flatMap fun n=>32::decI n
theorem nums3_len:∀ {l:List Int},(∀ n∈l,si n)->(nums3 l).length<=5*l.length
 | [],_=>Nat.zero_le _
 |n::l,h=>by
  have ih:=nums3_len (l:=l) fun x hx=>h x (List.mem_cons_of_mem _ hx)
  have:=decI_len (h n List.mem_cons_self)
  simp only [nums3,List.flatMap_cons,List.length_append,List.length_cons] at ih ⊢
  omega
theorem nums3_take {l:List Int} {k:Nat} (h:k<l.length):nums3 (l.take (k+1))=nums3 (l.take k)++32::decI (nth l k):=by
 rw [take_succ h]
 simp [nums3]
theorem row111 {Gl} (S:SP Gl) (w:List UInt8) (l:List Int) (hw:w.length<=100) (hl:l.length<=1000) (hn:∀ n∈l,si n):CO Gl 111 [str w,L eI l] (.ret (str (w++nums3 l))):=by
 refine fn_iq S (let A0:=fun (k0:Nat)=>(w++nums3 (List.take k0 l));((.loop l.length (fun k=>[v 5 (I k),v 1 (L eI l),v 0 (str (w++nums3 (List.take k l)))]) fun k0=>.br (.r (.ret (str (decI (nth l k0)))) .nil) .nil),((0=(↑(0:Nat):Int)/\(sR eI l)/\bs w=bs (w++nums3 (List.take (0:Nat) l)))/\∀ (k0:Nat),k0<=l.length->l.length<=maxLen->(decide ((k0:Int)<(l.length:Int))=true->(↑(ByteArray.size (bs (A0 k0))+ByteArray.size (ByteArray.mk #[(32:UInt8)])):Int)<=IntKind.max IntKind.i64/\(0<=(k0:Int)/\(k0:Int)<(l.length:Int))/\CO Gl 137 [I (nth l k0)] (.ret (str (decI (nth l k0))))/\(↑(ByteArray.size (bs (A0 k0)++ByteArray.mk #[(32:UInt8)])+ByteArray.size (bs (decI (nth l k0)))):Int)<=IntKind.max IntKind.i64/\iR ((k0:Int)+1)/\k0<l.length/\(k0:Int)+1=(↑(k0+1):Int)/\(sR eI l)/\bs (A0 k0)++ByteArray.mk #[(32:UInt8)]++bs (decI (nth l k0))=bs (w++nums3 (List.take (k0+1) l)))/\(decide ((k0:Int)<(l.length:Int))=false->bs (A0 k0)=bs (w++nums3 l))))) Tryz.func111 (by kernel_rfl) (by kernel_rfl) ?_
 dsimp only
 have hlen:∀ k,(nums3 (l.take k)).length<=5*l.length:=fun k=>by
  have:=nums3_len (l:=l.take k) fun x hx=>hn x (List.mem_of_mem_take hx)
  rw [List.length_take] at this
  omega
 have e32:({ data:=#[32] }:ByteArray)=bs [32]:=rfl
 simp only [stdS,imp_self,implies_true,and_true,e32]
 refine ⟨by simp [nums3],fun k hk _=>⟨fun hlt=>?_,fun hlt=>?_⟩⟩
 ·have hlt:k<l.length:=by simpa using hlt
  have hs:=hn (nth l k) (nth_mem hlt)
  have hd:=decI_len hs
  have h1:=hlen k
  refine ⟨?_,⟨by omega,by omega⟩,decimal137I S _ hs,?_,(rng_iff _).2 (by omega),hlt,rfl,?_⟩
  ·rw [max_eq,bs_size,bs_size]
   simp only [List.length_append,List.length_singleton]
   omega
  ·rw [bs_app,max_eq,bs_size,bs_size]
   simp only [List.length_append,List.length_singleton]
   omega
  ·rw [bs_app,bs_app,nums3_take hlt]
   simp
 ·have hlt:¬ k<l.length:=by simpa using hlt
  rw [List.take_of_length_le (by omega)]
def chkW (w:List UInt8) (i:Nat):Nat->Int
 |0=>0
 |k+1=>chkW w i k+((nth w k).toNat:Int)*((k:Int)+1)*((i:Int)+1)
def checkTo (rows:List (List UInt8)):Nat->Int
 |0=>0
 |i+1=>checkTo rows i+chkW (nth rows i) i (nth rows i).length
def outTo (rows:List (List UInt8)):Nat->List UInt8
 |0=>[]
 |i+1=>outTo rows i++(nth rows i++[10])
def lEnd:List UInt8:=[101,110,100,32]
def checkOf (rows:List (List UInt8)):Int:=Int.tmod (checkTo rows rows.length) 229
def sealed (rows:List (List UInt8)):List UInt8:=outTo rows rows.length++lEnd++dec (Int.tdiv (checkOf rows) 100)++dec (Int.tmod (Int.tdiv (checkOf rows) 10) 10)++dec (Int.tmod (checkOf rows) 10)++[10]
theorem byteAt_bs {w:List UInt8} {k:Nat} (h:k<w.length):byteAt (bs w) k=((nth w k).toNat:Int):=by
 unfold byteAt
 rw [bs_list,nth_eq h]
 simp [List.getD,h]
theorem term_le {x:UInt8} {k i:Nat} (hk:k<=300) (hi:i<=901):0<=(x.toNat:Int)*((k:Int)+1)/\(x.toNat:Int)*((k:Int)+1)<=76755/\0<=(x.toNat:Int)*((k:Int)+1)*((i:Int)+1)/\(x.toNat:Int)*((k:Int)+1)*((i:Int)+1)<=70000000:=by
 have hx:x.toNat<=255:=by have:=x.toNat_lt;omega
 have h1:x.toNat*(k+1)<=255*301:=Nat.mul_le_mul hx (by omega)
 have h2:x.toNat*(k+1)*(i+1)<=255*301*902:=Nat.mul_le_mul h1 (by omega)
 have e1:(x.toNat:Int)*((k:Int)+1)=((x.toNat*(k+1):Nat):Int):=by push_cast;rfl
 have e2:(x.toNat:Int)*((k:Int)+1)*((i:Int)+1)=((x.toNat*(k+1)*(i+1):Nat):Int):=by push_cast;rfl
 rw [e2,e1]
 omega
theorem chkW_le {w:List UInt8} {i:Nat} (hi:i<=901):∀ k,k<=301->0<=chkW w i k/\chkW w i k<=70000000*k
 |0,_=>by unfold chkW;omega
 |k+1,hk=>by
  have ih:=chkW_le (w:=w) hi k (by omega)
  have:=term_le (x:=nth w k) (k:=k) (i:=i) (by omega) hi
  unfold chkW
  push_cast
  omega
theorem checkTo_le {rows:List (List UInt8)} (h:∀ i,i<rows.length->(nth rows i).length<=300):∀ i,i<=rows.length->i<=901->0<=checkTo rows i/\checkTo rows i<=21000000000*i
 |0,_,_=>by unfold checkTo;omega
 |i+1,hi,hi2=>by
  have ih:=checkTo_le h i (by omega) (by omega)
  have hl:=h i (by omega)
  have:=chkW_le (w:=nth rows i) (i:=i) (by omega) (nth rows i).length (by omega)
  unfold checkTo
  push_cast
  omega
theorem outTo_le {rows:List (List UInt8)} (h:∀ i,i<rows.length->(nth rows i).length<=300):∀ i,i<=rows.length->(outTo rows i).length<=301*i
 |0,_=>by unfold outTo;simp
 |i+1,hi=>by
  have ih:=outTo_le h i (by omega)
  have hl:=h i (by omega)
  unfold outTo
  simp only [List.length_append,List.length_singleton]
  omega
theorem sealed112 {Gl} (S:SP Gl) (rows:List (List UInt8)) (hn:rows.length<=901) (hrl:∀ i,i<rows.length->(nth rows i).length<=300):CO Gl 112 [L eS rows,I 229] (.ret (str (sealed rows))):=by
 refine fn_iq S (let A0:=fun (k0:Nat)=>(Int.tmod (checkTo rows k0) (229:Int));let A1:=fun (k0:Nat)=>(Int.tmod (Int.tdiv (A0 k0) (10:Int)) (10:Int));let A2:=fun (k0:Nat)=>(Int.tdiv (A0 k0) (100:Int));let A3:=fun (k0:Nat)=>(outTo rows k0);let A4:=fun (k0:Nat)=>(dec (Int.tmod (A0 k0) (10:Int)));let A5:=fun (k0:Nat)=>(nth rows k0);let A6:=fun (k0:Nat)=>(0<=(k0:Int)/\(k0:Int)<(rows.length:Int));((.loop rows.length (fun i=>[v 7 (I i),v 6 (I (checkTo rows i)),v 5 (str (outTo rows i)),v 1 (I 229),v 0 (L eS rows)]) fun k0=>.br (.loop (List.length (A5 k0)) (fun k=>[v 8 (I k),v 7 (I k0),v 6 (I (checkTo rows k0+chkW (A5 k0) k0 k)),v 5 (str (A3 k0)),v 1 (I 229),v 0 (L eS rows)]) fun k1=>.br .nil .nil) (.r (.ret (str (dec (A2 k0)))) (.r (.ret (str (dec (A1 k0)))) (.r (.ret (str (A4 k0))) .nil)))),((0=(↑(0:Nat):Int)/\(0:Int)=checkTo rows (0:Nat)/\ByteArray.mk #[]=bs (outTo rows (0:Nat))/\(229:Int)=229/\sR eS rows)/\∀ (k0:Nat),k0<=rows.length->rows.length<=maxLen->(decide ((k0:Int)<(rows.length:Int))=true->(0=(↑(0:Nat):Int)/\(k0:Int)=(k0:Int)/\checkTo rows k0=checkTo rows k0+chkW (A5 k0) k0 (0:Nat)/\bs (A3 k0)=bs (A3 k0)/\(229:Int)=229/\sR eS rows)/\∀ (k1:Nat),k1<=List.length (A5 k0)->(A6 k0)/\(decide ((k1:Int)<(↑(ByteArray.size (bs (nth rows k0))):Int))=true->(A6 k0)/\(0<=(k1:Int)/\(k1:Int)<(↑(ByteArray.size (bs (A5 k0))):Int))/\iR (byteAt (bs (A5 k0)) k1)/\iR ((k1:Int)+1)/\iR (byteAt (bs (A5 k0)) k1*((k1:Int)+1))/\iR ((k0:Int)+1)/\iR (byteAt (bs (A5 k0)) k1*((k1:Int)+1)*((k0:Int)+1))/\iR (checkTo rows k0+chkW (A5 k0) k0 k1+byteAt (bs (A5 k0)) k1*((k1:Int)+1)*((k0:Int)+1))/\iR ((k1:Int)+1)/\k1<List.length (A5 k0)/\(k1:Int)+1=(↑(k1+1):Int)/\(k0:Int)=(k0:Int)/\checkTo rows k0+chkW (A5 k0) k0 k1+byteAt (bs (A5 k0)) k1*((k1:Int)+1)*((k0:Int)+1)=checkTo rows k0+chkW (A5 k0) k0 (k1+1)/\bs (A3 k0)=bs (A3 k0)/\(229:Int)=229/\sR eS rows)/\(decide ((k1:Int)<(↑(ByteArray.size (bs (nth rows k0))):Int))=false->(A6 k0)/\(↑(ByteArray.size (bs (A3 k0))+ByteArray.size (bs (A5 k0))):Int)<=IntKind.max IntKind.i64/\(↑(ByteArray.size (bs (A3 k0)++bs (A5 k0))+ByteArray.size (ByteArray.mk #[(10:UInt8)])):Int)<=IntKind.max IntKind.i64/\iR ((k0:Int)+1)/\k0<rows.length/\(k0:Int)+1=(↑(k0+1):Int)/\checkTo rows k0+chkW (A5 k0) k0 k1=checkTo rows (k0+1)/\bs (A3 k0)++bs (A5 k0)++ByteArray.mk #[(10:UInt8)]=bs (outTo rows (k0+1))/\(229:Int)=229/\sR eS rows))/\(decide ((k0:Int)<(rows.length:Int))=false->(229:Int)≠(0:Int)/\(↑(ByteArray.size (bs (A3 k0))+ByteArray.size (ByteArray.mk #[(101:UInt8),(110:UInt8),(100:UInt8),(32:UInt8)])):Int)<=IntKind.max IntKind.i64/\((100:Int)≠(0:Int)/\iR (A2 k0))/\CO Gl 137 [I (A2 k0)] (.ret (str (dec (A2 k0))))/\(↑(ByteArray.size (bs (A3 k0)++ByteArray.mk #[(101:UInt8),(110:UInt8),(100:UInt8),(32:UInt8)])+ByteArray.size (bs (dec (A2 k0)))):Int)<=IntKind.max IntKind.i64/\((10:Int)≠(0:Int)/\iR (Int.tdiv (A0 k0) (10:Int)))/\(10:Int)≠(0:Int)/\CO Gl 137 [I (A1 k0)] (.ret (str (dec (A1 k0))))/\(↑(ByteArray.size (bs (A3 k0)++ByteArray.mk #[(101:UInt8),(110:UInt8),(100:UInt8),(32:UInt8)]++bs (dec (A2 k0)))+ByteArray.size (bs (dec (A1 k0)))):Int)<=IntKind.max IntKind.i64/\(10:Int)≠(0:Int)/\CO Gl 137 [I (Int.tmod (A0 k0) (10:Int))] (.ret (str (A4 k0)))/\(↑(ByteArray.size (bs (A3 k0)++ByteArray.mk #[(101:UInt8),(110:UInt8),(100:UInt8),(32:UInt8)]++bs (dec (A2 k0))++bs (dec (A1 k0)))+ByteArray.size (bs (A4 k0))):Int)<=IntKind.max IntKind.i64/\(↑(ByteArray.size (bs (A3 k0)++ByteArray.mk #[(101:UInt8),(110:UInt8),(100:UInt8),(32:UInt8)]++bs (dec (A2 k0))++bs (dec (A1 k0))++bs (A4 k0))+ByteArray.size (ByteArray.mk #[(10:UInt8)])):Int)<=IntKind.max IntKind.i64/\bs (A3 k0)++ByteArray.mk #[(101:UInt8),(110:UInt8),(100:UInt8),(32:UInt8)]++bs (dec (A2 k0))++bs (dec (A1 k0))++bs (A4 k0)++ByteArray.mk #[(10:UInt8)]=bs (sealed rows))))) Tryz.func112 (by kernel_rfl) (by kernel_rfl) ?_
 have e10:({ data:=#[10] }:ByteArray)=bs [10]:=rfl
 have e0:({ data:=#[] }:ByteArray)=bs []:=rfl
 have eE:({ data:=#[101,110,100,32] }:ByteArray)=bs lEnd:=rfl
 simp only [stdS,imp_self,implies_true,and_true,e10,e0,eE,bs_size,bs_app,decide_eq_true_eq,decide_eq_false_iff_not]
 refine ⟨⟨rfl,rfl,trivial⟩,fun k3 hk3 hmx=>⟨fun hlt=>?_,fun hlt=>?_⟩⟩
 ·have hlt:k3<rows.length:=by omega
  have hw:=hrl k3 hlt
  have hco:=checkTo_le hrl k3 (by omega) (by omega)
  have hou:=outTo_le hrl k3 (by omega)
  have e1:checkTo rows (k3+1)=checkTo rows k3+chkW (nth rows k3) k3 (nth rows k3).length:=rfl
  have e2:outTo rows (k3+1)=outTo rows k3++(nth rows k3++[10]):=rfl
  generalize nth rows k3=w at *
  refine ⟨⟨by unfold chkW;omega,trivial⟩,fun k4 hk4=>⟨⟨by omega,by omega⟩,fun hl4=>?_,fun hl4=>?_⟩⟩
  ·have hl4:k4<w.length:=by omega
   have ht:=term_le (x:=nth w k4) (k:=k4) (i:=k3) (by omega) (by omega)
   have hsu:=chkW_le (w:=w) (i:=k3) (by omega) k4 (by omega)
   have hx:((nth w k4).toNat:Int)<256:=by have:=(nth w k4).toNat_lt;omega
   rw [byteAt_bs hl4]
   refine ⟨⟨by omega,by omega⟩,⟨by omega,by omega⟩,(rng_iff _).2 (by omega),(rng_iff _).2 (by omega),(rng_iff _).2 (by omega),(rng_iff _).2 (by omega),(rng_iff _).2 (by omega),(rng_iff _).2 (by omega),(rng_iff _).2 (by omega),hl4,rfl,?_,trivial⟩
   rw [chkW,Int.add_assoc]
  ·have hl4:k4=w.length:=by omega
   subst hl4
   refine ⟨⟨by omega,by omega⟩,by rw [max_eq];omega,by rw [max_eq];simp only [List.length_append,List.length_singleton];omega,(rng_iff _).2 (by omega),hlt,rfl,e1.symm,?_,trivial⟩
   rw [e2,List.append_assoc]
 ·obtain rfl:k3=rows.length:=by omega
  have hco:=checkTo_le hrl rows.length (by omega) (by omega)
  have hou:=outTo_le hrl rows.length (by omega)
  have htx:sealed rows=outTo rows rows.length++lEnd++dec (Int.tdiv (Int.tmod (checkTo rows rows.length) 229) 100)++dec (Int.tmod (Int.tdiv (Int.tmod (checkTo rows rows.length) 229) 10) 10)++dec (Int.tmod (Int.tmod (checkTo rows rows.length) 229) 10)++[10]:=by
   unfold sealed checkOf
   rfl
  rw [htx]
  have hM:0<=Int.tmod (checkTo rows rows.length) 229/\Int.tmod (checkTo rows rows.length) 229<229:=by
   rw [Int.tmod_eq_emod_of_nonneg hco.1]
   omega
  generalize Int.tmod (checkTo rows rows.length) 229=M at *
  have h1':Int.tdiv M 100=M / 100:=Int.tdiv_eq_ediv_of_nonneg hM.1
  have h2':Int.tdiv M 10=M / 10:=Int.tdiv_eq_ediv_of_nonneg hM.1
  have h3':Int.tmod (M / 10) 10=M / 10 % 10:=Int.tmod_eq_emod_of_nonneg (by omega)
  have h4':Int.tmod M 10=M % 10:=Int.tmod_eq_emod_of_nonneg hM.1
  rw [h1',h2',h3',h4']
  have s1:sm (M / 100):=⟨by omega,by omega⟩
  have s2:sm (M / 10 % 10):=⟨by omega,by omega⟩
  have s3:sm (M % 10):=⟨by omega,by omega⟩
  have l1:=dec_len s1
  have l2:=dec_len s2
  have l3:=dec_len s3
  have lE:lEnd.length=4:=rfl
  refine ⟨by decide,?_,⟨by decide,(rng_iff _).2 (by omega)⟩,decimal137 S _ s1,?_,⟨by decide,(rng_iff _).2 (by omega)⟩,by decide,decimal137 S _ s2,?_,by decide,decimal137 S _ s3,?_,?_,rfl⟩
  all_goals
   rw [max_eq]
   try simp only [List.length_append,List.length_singleton]
   omega
def isDig (c:UInt8):Bool:=decide (48<=c.toNat)&&decide (c.toNat<=57)
def dval (w:List UInt8):Nat->Int
 |0=>0
 |k+1=>10*dval w k+(((nth w k).toNat:Int) - 48)
def digs (w:List UInt8):Bool:=w.all isDig&&decide (w.length<=3)
def valW (w:List UInt8):Int:=dval w w.length
theorem bs_tl (w:List UInt8):(bs w).toList=w:=ByteArray.toList_mk w
theorem bs_get {w:List UInt8} {k:Nat} (h:k<w.length) (h':k<(bs w).size):(bs w)[k]'h'=nth w k:=by
 rw [nth_eq h]
 rfl
theorem rune_dig {w:List UInt8} {k:Nat} (h:k<w.length) (hd:isDig (nth w k)=true):runeAt (bs w) k=((nth w k).toNat:Int)/\widthAt (bs w) k=1/\48<=(nth w k).toNat/\(nth w k).toNat<=57:=by
 have h':k<(bs w).size:=by rw [bs_size];exact h
 unfold isDig at hd
 simp only [Bool.and_eq_true,decide_eq_true_eq] at hd
 have:=decode_ascii (bs w) k h' (by rw [bs_get h];omega)
 unfold runeAt widthAt
 rw [this,bs_get h]
 exact ⟨rfl,rfl,hd⟩
theorem val_le {w:List UInt8} {k:Nat} (hk:k<=3) (hd:∀ i,i<k->isDig (nth w i)=true):0<=dval w k/\dval w k<1000/\(k<=2->dval w k<100):=by
 have hb:∀ i,i<k->48<=(nth w i).toNat/\(nth w i).toNat<=57:=fun i hi=>by
  have:=hd i hi
  unfold isDig at this
  simpa using this
 match k,hk with
 |0,_=>simp [dval]
 |1,_=>
  have:=hb 0 (by omega)
  simp only [dval]
  omega
 |2,_=>
  have h0:=hb 0 (by omega)
  have h1:=hb 1 (by omega)
  simp only [dval]
  omega
 |3,_=>
  have h0:=hb 0 (by omega)
  have h1:=hb 1 (by omega)
  have h2:=hb 2 (by omega)
  simp only [dval]
  omega
theorem digs_spec {w:List UInt8} (h:digs w=true):w.length<=3/\∀ i,i<w.length->isDig (nth w i)=true:=by
 unfold digs at h
 simp only [Bool.and_eq_true,decide_eq_true_eq,List.all_eq_true] at h
 exact ⟨h.2,fun i hi=>h.1 _ (nth_mem hi)⟩
theorem step_ok {w:List UInt8} {k:Nat} (hl:w.length<=3) (hk:k<w.length) (hd:∀ i,i<=k->isDig (nth w i)=true):
  (decide (48<=runeAt (bs w) k)&&(decide (runeAt (bs w) k<=57)&&decide (((bs w).size:Int)<=3)))=true/\iR (10*dval w k)/\inRange IntKind.i32 (runeAt (bs w) k - 48)/\iR (runeAt (bs w) k - 48)/\
   iR (10*dval w k+(runeAt (bs w) k - 48))/\(bif k.blt (bs w).size then k+widthAt (bs w) k else k)=k+1/\10*dval w k+(runeAt (bs w) k - 48)=dval w (k+1):=by
 obtain ⟨h1,h2,h3,h4⟩:=rune_dig hk (hd k (Nat.le_refl _))
 have hv:=val_le (w:=w) (k:=k) (by omega) (fun i hi=>hd i (by omega))
 have hb:k.blt (bs w).size=true:=by rw [bs_size];exact Nat.ble_eq_true_of_le hk
 have h32:∀ n:Int,0<=n->n<=9->inRange IntKind.i32 n:=fun n h0 h9=>⟨by show (-2147483648:Int)<=n;omega,by show n<=2147483647;omega⟩
 rw [h1,h2,hb,bs_size]
 refine ⟨?_,(rng_iff _).2 (by omega),h32 _ (by omega) (by omega),(rng_iff _).2 (by omega),(rng_iff _).2 (by omega),rfl,rfl⟩
 simp only [Bool.and_eq_true,decide_eq_true_eq]
 omega
def minus (w:List UInt8):Bool:=decide (0<w.length)&&(nth w 0==45)
def sgOf (w:List UInt8):Int:=bif minus w then -1 else 1
def bodyOf (w:List UInt8):List UInt8:=bif minus w then w.drop 1 else w
def isS (w:List UInt8):Bool:=decide (1<=(bodyOf w).length)&&digs (bodyOf w)
def numS (w:List UInt8):Int:=bif isS w then sgOf w*valW (bodyOf w) else 0
def okS (w:List UInt8):Bool:=isS w&&(decI (sgOf w*valW (bodyOf w))==w)
def lHands:List UInt8:=[104,97,110,100,115]
def lRow:List UInt8:=[114,111,119]
def headT (s:Sheet):List UInt8:=lHands++nums3 s.errs
def rowT (s:Sheet) (r:Nat):List UInt8:=lRow++nums3 (numbersL s r)
def rowsTo (s:Sheet) (k:Nat):List (List UInt8):=headT s::(List.range k).map (rowT s)
def rowsS (s:Sheet):List (List UInt8):=rowsTo s (rows s)
def textS (s:Sheet):List UInt8:=sealed (rowsS s)
structure Sheet.low (s:Sheet):Prop where
 c:s.cols.length<=300
 r:rows s<=300
 e:s.errs.length<=300
 eq:∀ i,i<s.cols.length->(nth s.cols i).length=rows s
 ne:∀ n∈s.errs,si n
 nc:∀ r,r<rows s->∀ n∈numbersL s r,si n
 th:(headT s).length<=300
 tr:∀ r,r<rows s->(rowT s r).length<=300
theorem rowsTo_len (s:Sheet) (k:Nat):(rowsTo s k).length=k+1:=by unfold rowsTo;rw [List.length_cons,List.length_map,List.length_range]
theorem rowsTo_succ (s:Sheet) (k:Nat):rowsTo s (k+1)=rowsTo s k++[rowT s k]:=by
 unfold rowsTo
 rw [List.range_succ,List.map_append]
 rfl
theorem rowsTo_nth {s:Sheet} {k i:Nat} (h:i<k):nth (rowsTo s k) (i+1)=rowT s i:=by
 show nth ((List.range k).map (rowT s)) i=_
 rw [nth_map (by rw [List.length_range];exact h),nth_range h]
theorem rowsS_len {s:Sheet} (h:s.low):(rowsS s).length<=901/\∀ i,i<(rowsS s).length->(nth (rowsS s) i).length<=300:=by
 have:=h.r
 refine ⟨by unfold rowsS;rw [rowsTo_len];omega,fun i hi=>?_⟩
 unfold rowsS at hi ⊢
 rw [rowsTo_len] at hi
 cases i with
 |zero=>exact h.th
 |succ i=>rw [rowsTo_nth (by omega)];exact h.tr i (by omega)
theorem numbersL_len (s:Sheet) (r:Nat):(numbersL s r).length=s.cols.length:=List.length_map ..
theorem print67 {Gl} (S:SP Gl) (s:Sheet) (h:s.low):CO Gl 67 [tSheet s] (.ret (str (textS s))):=by
 refine fn_iq S (let A0:=fun (k0 k1:Nat)=>(List.take k1 (numbersL s k0));let A1:=(eqB (decide (0<(s.1.length:Int))) true=true->eqB (decide (0<(s.1.length:Int))) true=true);let A2:=fun (k0:Nat)=>(rowsTo s k0);let A3:=fun (k0:Nat)=>(bif decide (0<(s.1.length:Int)) then isRow s (k0:Int) else false);((.r (.ret (str (lHands++nums3 (Sheet.errs s)))) (.loop (rows s) (fun k=>v 4 (I k)::v 1 (ad 1)::tk 100 9::v 3 (Lt 100 eS (rowsTo s k))::bx 1 (cSheet s)) fun k0=>.r (.ret (B (isRow s (k0:Int)))) (.br (.loop (List.length (Sheet.cols s)) (fun i=>v 6 (I i)::tk 101 3::v 5 (Lt 101 eI (List.take i (numbersL s k0)))::v 4 (I k0)::v 1 (ad 1)::tk 100 9::v 3 (Lt 100 eS (A2 k0))::bx 1 (cSheet s)) fun k1=>.br .nil (.r (.ret (str (lRow++nums3 (A0 k0 k1)))) .nil)) (.r (.ret (str (sealed (A2 k0)))) .nil)))),(CO Gl 111 [str lHands,L eI (Sheet.errs s)] (.ret (str (lHands++nums3 (Sheet.errs s))))/\(0=(↑(0:Nat):Int)/\(SEq (1:Nat) (fun i=>List.getD [List.map C.dem [C.v (Value.string (bs (lHands++nums3 s.2)))]] i []) (List.length (rowsTo s (0:Nat))) fun i=>eS (nth (rowsTo s (0:Nat)) i))/\(sR eCol s.1)/\sR eI s.2)/\∀ (k0:Nat),k0<=rows s->s.1.length<=maxLen->A1/\A1/\(eqB (decide (0<(s.1.length:Int))) true=true->CO Gl 42 [tSheet s,I k0] (.ret (B (isRow s (k0:Int)))))/\(decide (0<(s.1.length:Int))=true->eqB (decide (0<(s.1.length:Int))) true=true)/\((A3 k0)=true->(0=(↑(0:Nat):Int)/\(0:Nat)=(0:Nat)/\(k0:Int)=(k0:Int)/\(sR eS (A2 k0))/\(sR eCol s.1)/\sR eI s.2)/\∀ (k1:Nat),k1<=List.length (Sheet.cols s)->s.1.length<=maxLen->(decide ((k1:Int)<(s.1.length:Int))=true->(0<=(k1:Int)/\(k1:Int)<(s.1.length:Int))/\(0<=(k0:Int)/\(k0:Int)<(List.length (nth s.1 k1):Int))/\(List.length (A0 k0 k1)+1)*8<=140737488355328/\List.length (A0 k0 k1)+1<=140737488355328/\iR ((k1:Int)+1)/\k1<List.length (Sheet.cols s)/\(k1:Int)+1=(↑(k1+1):Int)/\(SEq (List.length (A0 k0 k1)+1) (catF (List.length (A0 k0 k1)) (fun i=>eI (nth (A0 k0 k1) i)) fun i=>List.getD [List.map C.dem [C.v (Value.int IntKind.i64 (nth (nth s.1 k1) k0))]] i []) (List.length (List.take (k1+1) (numbersL s k0))) fun i=>eI (nth (List.take (k1+1) (numbersL s k0)) i))/\(k0:Int)=(k0:Int)/\(sR eS (A2 k0))/\(sR eCol s.1)/\sR eI s.2)/\(decide ((k1:Int)<(s.1.length:Int))=false->CO Gl 111 [str lRow,L eI (A0 k0 k1)] (.ret (str (lRow++nums3 (A0 k0 k1))))/\(List.length (A2 k0)+1)*16<=140737488355328/\List.length (A2 k0)+1<=140737488355328/\iR ((k0:Int)+1)/\k0<rows s/\(k0:Int)+1=(↑(k0+1):Int)/\(SEq (List.length (A2 k0)+1) (catF (List.length (A2 k0)) (fun i=>eS (nth (A2 k0) i)) fun i=>List.getD [List.map C.dem [C.v (Value.string (bs (lRow++nums3 (A0 k0 k1))))]] i []) (List.length (rowsTo s (k0+1))) fun i=>eS (nth (rowsTo s (k0+1)) i))/\(sR eCol s.1)/\sR eI s.2))/\((A3 k0)=false->CO Gl 112 [L eS (A2 k0),I 229] (.ret (str (sealed (A2 k0))))/\bs (sealed (A2 k0))=bs (textS s))))) Tryz.func67 (by kernel_rfl) (by kernel_rfl) ?_
 simp only [stdS,imp_self,implies_true,and_true]
 have g1:=h.c
 have g2:=h.r
 have hl1:=rowsS_len h
 refine ⟨row111 S lHands s.errs (by decide) (by have:=h.e;omega) h.ne,⟨.of ⟨rfl,fun i hi=>by
  have:i=0:=by omega
  subst this
  rfl⟩,trivial⟩,fun k0 hk0 hm=>⟨fun hp=>row42 S s k0 (by have:=of_decide_eq_true hp;omega) (by omega),fun hc=>?_,fun hc=>?_⟩⟩
 ·rw [Bool.and_eq_true,decide_eq_true_eq] at hc
  have hkr:k0<rows s:=by have:=inR_iff.1 hc.2;omega
  have hnl:=numbersL_len s k0
  have hrl:=rowsTo_len s k0
  refine fun k1 hk1 hm2=>⟨fun hd=>?_,fun hd=>?_⟩
  ·have hlt:k1<s.cols.length:=by have:=of_decide_eq_true hd;omega
   have hcl:=h.eq k1 hlt
   have ht:((numbersL s k0).take k1).length<=1000:=by rw [List.length_take];omega
   exact ⟨⟨by omega,by omega⟩,⟨by omega,by omega⟩,by omega,by omega,(rng_iff _).2 (by omega),hlt,by omega,SEq_push (by omega) (by unfold numbersL;rw [nth_map hlt];rfl),trivial⟩
  ·have hke:k1=s.cols.length:=by have:=of_decide_eq_false hd;omega
   have ht:(numbersL s k0).take k1=numbersL s k0:=List.take_of_length_le (by omega)
   rw [ht]
   exact ⟨row111 S lRow (numbersL s k0) (by decide) (by omega) (h.nc k0 hkr),by omega,by omega,(rng_iff _).2 (by omega),hkr,by omega,SEq_push1 (f:=eS) (rowsTo_succ s k0) rfl,trivial⟩
 ·have hke:k0=rows s:=by
   rcases Nat.lt_or_ge k0 (rows s) with h1|h1
   ·have h0:0<s.cols.length:=by
     rcases Nat.eq_zero_or_pos s.cols.length with hz|hz
     ·have:rows s=0:=by
       unfold rows col
       rw [List.eq_nil_of_length_eq_zero hz]
       rfl
      omega
     ·exact hz
    have:isRow s k0=true:=inR_iff.2 ⟨by omega,by omega⟩
    rw [this,Bool.and_true] at hc
    have:=of_decide_eq_false hc
    omega
   ·omega
  subst hke
  exact ⟨sealed112 S (rowsS s) hl1.1 hl1.2,rfl⟩
open Go Go.Vc
theorem mk_ok {s:Sheet} (h1:1<=s.cols.length) (h2:s.cols.length<=3) (h3:s.errs.length=s.cols.length) (h4:1<=rows s) (h5:rows s<=6)
  (h6:∀ i,i<s.cols.length->(nth s.cols i).length=rows s/\(nth s.cols i).all num=true/\0<=nth s.errs i/\nth s.errs i<=2):s.ok=true:=by
 unfold Sheet.ok
 simp only [Bool.and_eq_true,beq_iff_eq,inR_iff,List.all_eq_true,List.mem_range]
 refine ⟨by omega,h3,fun i hi=>?_⟩
 obtain ⟨g1,g2,g3,g4⟩:=h6 i hi
 unfold colOK isCol col
 simp only [Bool.and_eq_true,beq_iff_eq,inR_iff]
 exact ⟨⟨g2,by omega⟩,g1,g3,g4⟩
theorem ok_all {s:Sheet} (hs:s.ok=true):1<=s.cols.length/\s.cols.length<=3/\s.errs.length=s.cols.length/\1<=rows s/\rows s<=6/\
  ∀ i,i<s.cols.length->(nth s.cols i).length=rows s/\(nth s.cols i).all num=true/\0<=nth s.errs i/\nth s.errs i<=2:=by
 obtain ⟨l1,l2,l3,l4⟩:=ok_len hs
 obtain ⟨c1,c2,c3,c4,c5,c6⟩:=col_len (l4 0 (by omega))
 exact ⟨l1,l2,l3,c3,c4,fun i hi=>by
  obtain ⟨c1,c2,c3,c4,c5,c6⟩:=col_len (l4 i hi)
  exact ⟨c1,c2,c5,c6⟩⟩
/-! a hand more -/
section
variable {s:Sheet} {w:List Int} {e:Int}
theorem sure_iff (s:Sheet) (l:List (List Int)) (r:Nat):sureAt s l r=true↔isOpen s l r=false/\(valL l r).length=1:=by
 unfold sureAt
 rw [Bool.and_eq_true,Bool.not_eq_true',beq_iff_eq]
 constructor
 ·rintro ⟨h1,h2⟩;exact ⟨h1,by omega⟩
 ·rintro ⟨h1,h2⟩;exact ⟨h1,by omega⟩
end
/-! hands in another order -/
section
variable {s:Sheet} {a b:Nat}
structure Mix (s x:Sheet) (f:Nat->Nat):Prop where
 len:x.cols.length=s.cols.length
 lt:∀ h,h<s.cols.length->f h<s.cols.length
 inv:∀ h,f (f h)=h
 col:∀ h,h<s.cols.length->nth x.cols h=nth s.cols (f h)
 err:∀ h,h<s.cols.length->nth x.errs h=nth s.errs (f h)
end
section
variable {s x:Sheet} {f:Nat->Nat}
theorem Mix.symm (M:Mix s x f):Mix x s f:=
 ⟨M.len.symm,fun h hh=>by rw [M.len] at hh ⊢;exact M.lt h hh,M.inv,fun h hh=>by rw [M.len] at hh;rw [M.col _ (M.lt h hh),M.inv],fun h hh=>by rw [M.len] at hh;rw [M.err _ (M.lt h hh),M.inv]⟩
theorem Mix.rows (M:Mix s x f) (hs:s.ok=true):Hn.rows x=Hn.rows s:=by
 obtain ⟨l1,l2,l3,l4,l5,l6⟩:=ok_all hs
 unfold Hn.rows Hn.col
 rw [M.col 0 (by omega),(l6 _ (M.lt 0 (by omega))).1]
 rfl
theorem Mix.ok (M:Mix s x f) (hs:s.ok=true) (hl:x.errs.length=x.cols.length):x.ok=true:=by
 obtain ⟨l1,l2,l3,l4,l5,l6⟩:=ok_all hs
 have hr:=M.rows hs
 refine mk_ok (by rw [M.len];omega) (by rw [M.len];omega) hl (by omega) (by omega) fun i hi=>?_
 rw [M.len] at hi
 rw [M.col i hi,M.err i hi,hr]
 exact l6 _ (M.lt i hi)
theorem Mix.agrees (M:Mix s x f) (hs:s.ok=true) {c:List Int} (hc:c.length=Hn.rows s) (h:Hn.agrees s c=true):Hn.agrees x c=true:=by
 have hr:=M.rows hs
 rw [agrees_iff (by rw [hr];exact hc)]
 intro i hi
 rw [M.len] at hi
 rw [M.col i hi,M.err i hi,hr]
 exact (agrees_iff hc).1 h _ (M.lt i hi)
theorem Mix.isR (M:Mix s x f) (hs:s.ok=true) {c:List Int} (h:Hn.isR s c):Hn.isR x c:=
 ⟨by rw [M.rows hs];exact h.1,h.2.1,M.agrees hs h.1 h.2.2⟩
theorem Mix.cell (M:Mix s x f) {h:Nat} (hh:h<s.cols.length) (i:Nat):Hn.cell x h i=Hn.cell s (f h) i:=by unfold Hn.cell;rw [M.col h hh]
theorem Mix.cands1 (M:Mix s x f) {r:Nat} {y:Int} (h:y∈cands x r):y∈cands s r:=by
 obtain ⟨j,hj,h⟩:=(mem_cands x r y).1 h
 rw [M.len] at hj
 refine (mem_cands s r y).2 ⟨f j,M.lt j hj,?_⟩
 unfold inCand at h ⊢
 rw [M.cell hj,M.cell hj] at h
 exact h
theorem Mix.cands (M:Mix s x f) (r:Nat):Hn.cands x r=Hn.cands s r:=sorted_ext (cands_sorted x r) (cands_sorted s r) fun _=>⟨M.cands1,M.symm.cands1⟩
theorem Mix.listAt (M:Mix s x f) (r:Nat):Hn.listAt x r=Hn.listAt s r:=by unfold Hn.listAt;rw [M.cands]
theorem Mix.mem (M:Mix s x f) (hs:s.ok=true) (hx:x.ok=true) (c:List Int):c∈allR x↔c∈allR s:=by
 have hr:=M.rows hs
 rw [mem_allR hs,mem_allR hx,hr]
 constructor
 ·rintro ⟨h1,h2,h3⟩
  exact ⟨h1,fun i hi=>by rw [<-M.listAt];exact h2 i hi,M.symm.agrees hx (by rw [hr];exact h1) h3⟩
 ·rintro ⟨h1,h2,h3⟩
  exact ⟨h1,fun i hi=>by rw [M.listAt];exact h2 i hi,M.agrees hs h1 h3⟩
theorem Mix.pos (M:Mix s x f) (hs:s.ok=true) (hx:x.ok=true) (h:0<(allR s).length):0<(allR x).length:=List.length_pos_of_mem ((M.mem hs hx _).2 (nth_mem h))
theorem Mix.first (M:Mix s x f) (hs:s.ok=true) (hx:x.ok=true) (h:0<(allR s).length):firstL (allR x)=firstL (allR s):=by
 have h2:=M.pos hs hx h
 exact ltL_total (firstL_min h ((M.mem hs hx _).1 (firstL_mem h2))) (firstL_min h2 ((M.mem hs hx _).2 (firstL_mem h)))
theorem Mix.val (M:Mix s x f) (hs:s.ok=true) (hx:x.ok=true) (r:Nat):valL (allR x) r=valL (allR s) r:=by
 refine sorted_ext (valL_sorted _ r) (valL_sorted _ r) fun y=>?_
 rw [mem_valL,mem_valL]
 exact ⟨fun ⟨c,h1,h2⟩=>⟨c,(M.mem hs hx c).1 h1,h2⟩,fun ⟨c,h1,h2⟩=>⟨c,(M.mem hs hx c).2 h1,h2⟩⟩
theorem Mix.open (M:Mix s x f) (hs:s.ok=true) (hx:x.ok=true) (r:Nat):isOpen x (allR x) r=isOpen s (allR s) r:=by
 unfold isOpen
 rw [M.val hs hx,M.cands]
theorem Mix.wrongAt (M:Mix s x f) (hs:s.ok=true) (hx:x.ok=true) (h0:0<(allR s).length) {h r:Nat} (hh:h<s.cols.length):Hn.wrongAt x (allR x) h r=Hn.wrongAt s (allR s) (f h) r:=by
 rw [wrongAt_word,wrongAt_word,M.cell hh]
 have hm:=M.mem hs hx
 exact word_eq (M.pos hs hx h0) h0 ⟨fun g c hc=>g c ((hm c).2 hc),fun g c hc=>g c ((hm c).1 hc)⟩ ⟨fun g c hc=>g c ((hm c).2 hc),fun g c hc=>g c ((hm c).1 hc)⟩
theorem Mix.sameR (M:Mix s x f) {r:Nat} (h:Hn.sameR s r s.cols.length=true):Hn.sameR x r x.cols.length=true:=by
 have h1:=sameR_iff.1 h
 rw [sameR_iff,M.len]
 intro i hi
 rw [M.cell hi,M.cell (by omega),h1 _ (M.lt i hi),h1 _ (M.lt 0 (by omega))]
end
/-! the other sign -/
def negL (l:List Int):List Int:=l.map fun x=>-x
def negS (s:Sheet):Sheet:=⟨s.cols.map negL,s.errs⟩
theorem negL_at (l:List Int) (i:Nat):nth (negL l) i=-nth l i:=by
 unfold negL
 rcases Nat.lt_or_ge i l.length with h|h
 ·rw [nth_map h]
 ·unfold nth
  rw [List.getD_eq_getElem?_getD,List.getD_eq_getElem?_getD,List.getElem?_eq_none (by rw [List.length_map];exact h),List.getElem?_eq_none h]
  rfl
theorem negL_len (l:List Int):(negL l).length=l.length:=by unfold negL;rw [List.length_map]
theorem negL_neg (l:List Int):negL (negL l)=l:=by
 unfold negL
 rw [List.map_map]
 have:((fun x:Int=>-x)∘fun x=>-x)=id:=by funext x;simp
 rw [this,List.map_id]
theorem negS_neg (s:Sheet):negS (negS s)=s:=by
 unfold negS
 dsimp only
 rw [List.map_map]
 have:negL∘negL=id:=by funext l;exact negL_neg l
 rw [this,List.map_id]
theorem num_neg (x:Int):num (-x)=num x:=by
 rw [Bool.eq_iff_iff,num_iff,num_iff]
 omega
theorem negL_num (l:List Int):(negL l).all num=l.all num:=by
 unfold negL
 rw [List.all_map]
 congr 1
 funext x
 exact num_neg x
theorem ab_neg (x:Int):ab (-x)=ab x:=by unfold ab;omega
theorem fA_neg (x:Int):fA (-x)=fA x:=by unfold fA;rw [ab_neg]
theorem fB_neg (x:Int):fB (-x)=fB x:=by unfold fB;rw [ab_neg]
theorem fC_neg (x:Int):fC (-x)=fC x:=by unfold fC;rw [ab_neg]
theorem sg_opp {x:Int} (hx:x≠0) (p q r:Int):sg (-x) p q r=-sg x p q r:=by
 unfold sg
 by_cases h:x<0
 ·rw [if_pos h,if_neg (by omega)];omega
 ·rw [if_neg h,if_pos (by omega)]
theorem beq_neg (x y:Int):(-x==-y)=(x==y):=by
 rw [Bool.eq_iff_iff,beq_iff_eq,beq_iff_eq]
 omega
theorem turned_neg (r n:Int):isTurned (-r) (-n)=isTurned r n:=by
 unfold isTurned
 rw [fA_neg,fB_neg,fC_neg]
 by_cases h:r=0
 ·subst h
  have e:∀ p q r,p=0->q=0->r=0->sg 0 p q r=0:=fun p q r h1 h2 h3=>by subst h1 h2 h3;rfl
  have e1:fA 0=0:=rfl
  have e2:fB 0=0:=rfl
  have e3:fC 0=0:=rfl
  show (-n==sg 0 _ _ _||-n==sg 0 _ _ _)=_
  rw [e _ _ _ e2 e1 e3,e _ _ _ e1 e3 e2,show (-n==0)=(n==0) by rw [Bool.eq_iff_iff,beq_iff_eq,beq_iff_eq];omega]
 ·rw [sg_opp h,sg_opp h,beq_neg,beq_neg]
theorem carried_neg (r n:Int):isCarried (-r) (-n)=isCarried r n:=by
 unfold isCarried
 rw [fA_neg,fB_neg,fC_neg]
 by_cases h:r=0
 ·subst h
  rfl
 ·rw [sg_opp h,sg_opp h,beq_neg,beq_neg]
theorem alone_neg (r n:Int):alone (-r) (-n)=alone r n:=by
 unfold alone
 rw [turned_neg,carried_neg,beq_neg]
theorem src_neg (c x:Int):isSrc (-c) (-x)=isSrc c x:=by
 unfold isSrc
 rw [alone_neg,num_neg]
theorem rt_neg (l:List Int) (i:Nat) (n:Int):(rtOf (negL l) i).kind (-n)=(rtOf l i).kind n:=by
 unfold rtOf
 rw [negL_len,negL_at,negL_at]
 unfold Rt.kind
 cases (i+1).beq l.length<;>simp only [cond_true,cond_false,turned_neg,carried_neg,beq_neg]
 rfl
theorem okRow_neg (c own:List Int) (i:Nat):okRow (negL c) (negL own) i=okRow c own i:=by
 unfold okRow
 rw [negL_at,negL_at,beq_neg,rt_neg]
theorem wrongTo_neg (c own:List Int):∀ k,wrongTo (negL c) (negL own) k=wrongTo c own k
 |0=>rfl
 |k+1=>by
  show wrongTo (negL c) (negL own) k+(bif nth (negL own) k != nth (negL c) k then 1 else 0)=wrongTo c own k+bif nth own k != nth c k then 1 else 0
  unfold bne
  rw [wrongTo_neg c own k,negL_at,negL_at,beq_neg]
section
variable {s:Sheet}
theorem neg_len:(negS s).cols.length=s.cols.length:=by unfold negS;simp
theorem neg_col {h:Nat} (hh:h<s.cols.length):nth (negS s).cols h=negL (nth s.cols h):=nth_map hh
theorem neg_rows (hs:s.ok=true):rows (negS s)=rows s:=by
 unfold rows col
 rw [neg_col (by have:=(ok_len hs).1;omega),negL_len]
theorem neg_ok (hs:s.ok=true):(negS s).ok=true:=by
 obtain ⟨l1,l2,l3,l4,l5,l6⟩:=ok_all hs
 have hr:=neg_rows hs
 refine mk_ok (by rw [neg_len];omega) (by rw [neg_len];omega) (by rw [neg_len];exact l3) (by omega) (by omega) fun i hi=>?_
 rw [neg_len] at hi
 rw [neg_col hi,negL_len,negL_num,hr]
 exact l6 i hi
theorem neg_agrees (hs:s.ok=true) {c:List Int} (hc:c.length=rows s) (h:agrees s c=true):agrees (negS s) (negL c)=true:=by
 have hr:=neg_rows hs
 rw [agrees_iff (by rw [hr,negL_len];exact hc)]
 intro i hi
 rw [neg_len] at hi
 obtain ⟨h1,h2⟩:=(agrees_iff hc).1 h i hi
 rw [neg_col hi,hr]
 exact ⟨fun j hj=>by rw [okRow_neg];exact h1 j hj,by rw [wrongTo_neg];exact h2⟩
theorem neg_isR (hs:s.ok=true) {c:List Int} (h:isR s c):isR (negS s) (negL c):=
 ⟨by rw [neg_rows hs,negL_len];exact h.1,by rw [negL_num];exact h.2.1,neg_agrees hs h.1 h.2.2⟩
theorem neg_back (hs:s.ok=true) {c:List Int} (h:isR (negS s) c):isR s (negL c):=by
 have:=neg_isR (neg_ok hs) h
 rw [negS_neg] at this
 exact this
theorem neg_agrees_eq (hs:s.ok=true) {c:List Int} (hc:c.length=rows s):agrees (negS s) (negL c)=agrees s c:=by
 rw [Bool.eq_iff_iff]
 refine ⟨fun h=>?_,neg_agrees hs hc⟩
 have:=neg_agrees (neg_ok hs) (by rw [neg_rows hs,negL_len];exact hc) h
 rw [negS_neg,negL_neg] at this
 exact this
theorem neg_cell {h:Nat} (hh:h<s.cols.length) (i:Nat):cell (negS s) h i=-cell s h i:=by unfold cell;rw [neg_col hh,negL_at]
theorem neg_cands1 {r:Nat} {x:Int} (h:x∈cands s r):-x∈cands (negS s) r:=by
 obtain ⟨j,hj,h⟩:=(mem_cands s r x).1 h
 refine (mem_cands _ r _).2 ⟨j,by rw [neg_len];exact hj,(inCand_iff ..).2 ?_⟩
 rw [neg_cell hj,neg_cell hj,src_neg]
 rcases (inCand_iff ..).1 h with h|⟨h0,h⟩|h
 ·exact .inl (by omega)
 ·exact .inr (.inl ⟨h0,by omega⟩)
 ·exact .inr (.inr h)
theorem neg_cands {r:Nat} {x:Int}:-x∈cands (negS s) r↔x∈cands s r:=by
 refine ⟨fun h=>?_,neg_cands1⟩
 have:=neg_cands1 h
 rw [negS_neg,Int.neg_neg] at this
 exact this
theorem neg_some (hs:s.ok=true):0<(allR (negS s)).length↔0<(allR s).length:=by
 rw [some_iff hs,some_iff (neg_ok hs)]
 exact ⟨fun ⟨c,h⟩=>⟨_,neg_back hs h⟩,fun ⟨c,h⟩=>⟨_,neg_isR hs h⟩⟩
theorem neg_open (hs:s.ok=true) {r:Nat} (hr:r<rows s):isOpen (negS s) (allR (negS s)) r=isOpen s (allR s) r:=by
 rw [Bool.eq_iff_iff,open_iff hs hr,open_iff (neg_ok hs) (by rw [neg_rows hs];exact hr)]
 constructor
 ·rintro ⟨c,h1,h2⟩
  refine ⟨negL c,neg_back hs h1,fun h=>h2 ?_⟩
  rw [negL_at] at h
  have:=neg_cands1 h
  rw [Int.neg_neg] at this
  exact this
 ·rintro ⟨c,h1,h2⟩
  refine ⟨negL c,neg_isR hs h1,fun h=>h2 ?_⟩
  rw [negL_at] at h
  exact neg_cands.1 h
theorem neg_val (hs:s.ok=true) {r:Nat} (hr:r<rows s) (ho:isOpen s (allR s) r=false):valL (allR s) r=(negL (valL (allR (negS s)) r)).reverse:=by
 have ho2:isOpen (negS s) (allR (negS s)) r=false:=by rw [neg_open hs hr];exact ho
 refine sorted_ext (valL_sorted _ r) ?_ fun y=>?_
 ·rw [List.pairwise_reverse]
  unfold negL
  rw [List.pairwise_map]
  exact List.Pairwise.imp (fun h=>by omega) (valL_sorted (allR (negS s)) r)
 ·rw [List.mem_reverse,val_iff hs hr ho]
  unfold negL
  rw [List.mem_map]
  constructor
  ·rintro ⟨c,h1,h2⟩
   refine ⟨-y,(val_iff (neg_ok hs) (by rw [neg_rows hs];exact hr) ho2).2 ⟨negL c,neg_isR hs h1,by rw [negL_at,h2]⟩,Int.neg_neg _⟩
  ·rintro ⟨x,h1,h2⟩
   obtain ⟨c,h3,h4⟩:=(val_iff (neg_ok hs) (by rw [neg_rows hs];exact hr) ho2).1 h1
   exact ⟨negL c,neg_back hs h3,by rw [negL_at,h4,h2]⟩
theorem neg_sure (hs:s.ok=true) {r:Nat} (hr:r<rows s):sureAt (negS s) (allR (negS s)) r=sureAt s (allR s) r:=by
 rw [Bool.eq_iff_iff,sure_iff,sure_iff,neg_open hs hr]
 constructor
 ·rintro ⟨h1,h2⟩
  refine ⟨h1,?_⟩
  rw [neg_val hs hr h1,List.length_reverse,negL_len]
  exact h2
 ·rintro ⟨h1,h2⟩
  refine ⟨h1,?_⟩
  rw [neg_val hs hr h1,List.length_reverse,negL_len] at h2
  exact h2
theorem sureTo_ext {s t:Sheet} {l m:List (List Int)}:∀ {k:Nat},(∀ r,r<k->sureAt s l r=sureAt t m r)->sureTo s l k=sureTo t m k
 |0,_=>rfl
 |k+1,h=>by
  show sureTo s l k++(bif sureAt s l k then [(k:Int)] else [])=sureTo t m k++bif sureAt t m k then [(k:Int)] else []
  rw [h k (by omega),sureTo_ext fun r hr=>h r (by omega)]
theorem neg_sures (hs:s.ok=true):sureL (negS s) (allR (negS s))=sureL s (allR s):=by
 unfold sureL
 rw [neg_rows hs]
 exact sureTo_ext fun r hr=>neg_sure hs hr
theorem neg_total (hs:s.ok=true) (c:List Int):∀ h,h<=s.cols.length->totalTo (negS s) (negL c) h=totalTo s c h
 |0,_=>rfl
 |h+1,hh=>by
  show totalTo (negS s) (negL c) h+(wrongN (negL c) (nth (negS s).cols h):Int)=totalTo s c h+(wrongN c (nth s.cols h):Int)
  unfold wrongN
  rw [neg_total hs c h (by omega),neg_col (by omega),negL_len,wrongTo_neg]
theorem neg_least (hs:s.ok=true) (h0:0<(allR s).length):leastA (negS s)=leastA s:=by
 obtain ⟨c,hc,h1⟩:=least_is hs h0
 obtain ⟨d,hd,h2⟩:=least_is (neg_ok hs) ((neg_some hs).2 h0)
 have h3:=least_le (neg_ok hs) (neg_isR hs hc)
 have h4:=least_le hs (neg_back hs hd)
 rw [neg_len] at h2 h3
 rw [neg_total hs c _ (Nat.le_refl _)] at h3
 have h5:=neg_total hs (negL d) _ (Nat.le_refl _)
 rw [negL_neg] at h5
 omega
theorem neg_hand (hs:s.ok=true) (h0:0<(allR s).length) {h:Nat} (hh:h<s.cols.length):handAt (negS s) h=handAt s h:=by
 have hx:=neg_ok hs
 have hr:=neg_rows hs
 have hh2:h<(negS s).cols.length:=by rw [neg_len];exact hh
 have key:∀ c:List Int,(∀ i,i<rows s->nth (negL c) i=cell (negS s) h i)↔∀ i,i<rows s->nth c i=cell s h i:=fun c=>
  ⟨fun g i hi=>by have:=g i hi;rw [negL_at,neg_cell hh] at this;omega,fun g i hi=>by rw [negL_at,neg_cell hh,g i hi]⟩
 have e0:handAt (negS s) h=1↔handAt s h=1:=by
  rw [hand_never hs hh,hand_never hx hh2,hr]
  exact ⟨fun g c hc=>(key c).1 (g _ (neg_isR hs hc)),fun g c hc=>by have:=(key (negL c)).2 (g _ (neg_back hs hc));rw [negL_neg] at this;exact this⟩
 have e1:handAt (negS s) h=3↔handAt s h=3:=by
  rw [hand_sure hs hh h0,hand_sure hx hh2 ((neg_some hs).2 h0),hr]
  exact ⟨fun g c hc hb=>g _ (neg_isR hs hc) ((key c).2 hb),fun g c hc hb=>g _ (neg_back hs hc) ((key (negL c)).1 (by rw [negL_neg];exact hb))⟩
 have a:=inR_iff.1 (word_in (erred s h) (allR s))
 have b:=inR_iff.1 (word_in (erred (negS s) h) (allR (negS s)))
 unfold handAt at *
 omega
end
/-! the decimals -/
/-! lines -/
def headW (l:List Int):List UInt8:=lHands++nums3 l
def rowW (l:List Int):List UInt8:=lRow++nums3 l
def tl (r:List UInt8):List (List UInt8):=(splitL 32 r).drop 1
def nsR (r:List UInt8):List Int:=(tl r).map numS
def okR (r:List UInt8):Bool:=(tl r).all okS
def linesT:List (List Int)->List (List UInt8)
 | []=>[]
 |l::r=>headW l::r.map rowW
/-! the seal -/
/-! reading -/
def mid (s:List UInt8):List (List UInt8):=(splitL 10 s).take ((splitL 10 s).length - 2)
def colsT (n:Nat) (rs:List (List Int)):List (List Int):=(List.range n).map fun h=>rs.map fun l=>nth l h
def shT:List (List Int)->Sheet
 | []=>⟨[],[]⟩
 |l::r=>⟨colsT l.length r,l⟩
def fits:List (List Int)->Bool
 | []=>false
 |l::r=>decide (0<l.length)&&(l.all (fun n=>decide (0<=n))&&r.all fun x=>x.length==l.length)
def parse (s:List UInt8):Option Sheet:=bif decide (3<=(splitL 10 s).length)&&((mid s).all okR&&(fits ((mid s).map nsR)&&(sealed (linesT ((mid s).map nsR))==s))) then some (shT ((mid s).map nsR)) else none
theorem colsT_at {n:Nat} {rs:List (List Int)} {h:Nat} (hh:h<n):nth (colsT n rs) h=rs.map fun l=>nth l h:=by
 unfold colsT
 rw [nth_map (by rw [List.length_range];exact hh),nth_range hh]
theorem colsT_len (n:Nat) (rs:List (List Int)):(colsT n rs).length=n:=by unfold colsT;rw [List.length_map,List.length_range]
theorem numbersL_at {s:Sheet} {r h:Nat} (hh:h<s.cols.length):nth (numbersL s r) h=nth (nth s.cols h) r:=by
 unfold numbersL
 rw [nth_map hh]
theorem fits_spec {l:List Int} {r:List (List Int)} (h:fits (l::r)=true):0<l.length/\(∀ n∈l,0<=n)/\∀ x∈r,x.length=l.length:=by
 unfold fits at h
 rw [Bool.and_eq_true,Bool.and_eq_true,decide_eq_true_eq,List.all_eq_true,List.all_eq_true] at h
 exact ⟨h.1,fun n hn=>of_decide_eq_true (h.2.1 n hn),fun x hx=>eq_of_beq (h.2.2 x hx)⟩
theorem parse_spec {s:List UInt8} {x:Sheet} (h:parse s=some x):3<=(splitL 10 s).length/\(mid s).all okR=true/\fits ((mid s).map nsR)=true/\sealed (linesT ((mid s).map nsR))=s/\x=shT ((mid s).map nsR):=by
 unfold parse at h
 cases hc:decide (3<=(splitL 10 s).length)&&((mid s).all okR&&(fits ((mid s).map nsR)&&(sealed (linesT ((mid s).map nsR))==s))) with
 |false=>rw [hc] at h;cases h
 |true=>
  rw [hc] at h
  obtain rfl:=Option.some.inj h
  simp only [Bool.and_eq_true,beq_iff_eq,decide_eq_true_eq] at hc
  exact ⟨hc.1,hc.2.1,hc.2.2.1,hc.2.2.2,rfl⟩
structure Sheet.txt (s:Sheet):Prop where
 c:0<s.cols.length
 l:s.errs.length=s.cols.length
 eq:∀ i,i<s.cols.length->(nth s.cols i).length=rows s
 pos:∀ n∈s.errs,0<=n
 ne:∀ n∈s.errs,si n
 nc:∀ r,r<rows s->∀ n∈numbersL s r,si n
/-! what the words give is small -/
theorem valW_le {w:List UInt8} (h:digs w=true):0<=valW w/\valW w<1000:=by
 obtain ⟨h1,h2⟩:=digs_spec h
 have:=val_le (w:=w) (k:=w.length) h1 h2
 exact ⟨this.1,this.2.1⟩
theorem numS_si (w:List UInt8):si (numS w):=by
 unfold numS
 cases h:isS w with
 |false=>exact ⟨(by decide:(-1000:Int)<0),(by decide:(0:Int)<1000)⟩
 |true=>
  unfold isS at h
  rw [Bool.and_eq_true] at h
  have:=valW_le h.2
  show si (sgOf w*valW (bodyOf w))
  unfold sgOf si
  cases minus w<;>simp only [cond_true,cond_false]<;>omega
theorem ok_txt {s:Sheet} (hs:s.ok=true):s.txt:=by
 obtain ⟨l1,l2,l3,l4,l5,l6⟩:=ok_all hs
 refine ⟨by omega,l3,fun i hi=>(l6 i hi).1,fun n hn=>?_,fun n hn=>?_,fun r hr n hn=>?_⟩
 ·obtain ⟨i,hi,rfl⟩:=mem_nth hn
  exact (l6 i (by omega)).2.2.1
 ·obtain ⟨i,hi,rfl⟩:=mem_nth hn
  have:=(l6 i (by omega)).2.2
  exact ⟨by omega,by omega⟩
 ·obtain ⟨i,hi,rfl⟩:=mem_nth hn
  rw [numbersL_len] at hi
  rw [numbersL_at hi]
  have h:=l6 i hi
  have:=num_iff.1 (num_nth h.2.1 r (by rw [h.1];exact hr))
  exact ⟨by omega,by omega⟩
structure GlOK (Gl:World->Prop):Prop where
 len:∀ w,Gl w->∃ m,w.cell? ⟨1,0,none⟩=some (.int .i64 m)
 tab:∀ w,Gl w->Lib.TabIs Tryz.prog w "internal/strconv.uint64pow10" .u64 Lib.pow10Tab
theorem itoa_decI (n:Int):Lib.itoa n=decI n:=by
 unfold Lib.itoa decI dec
 by_cases h:n<0
 ·rw [if_pos h,decide_eq_true h,cond_true,show n.natAbs=(-n).toNat by omega]
 ·rw [if_neg h,decide_eq_false h,cond_false]
theorem itoaN {Gl:World->Prop} (hG:GlOK Gl) (n:Int) (h:si n):CO Gl 133 [I n] (.ret (str (decI n))):=by
 refine ⟨fn133,fun vis w vs hvis hgl hargs=>?_⟩
 rw [args1 hargs]
 refine (Tryz.strconv_Itoa n (by have:=h.1;omega) (by have:=h.2;omega) w (hG.tab w hgl)).mono fun e w' he=>?_
 obtain ⟨rfl,k,os,rfl⟩:=he
 rw [itoa_decI]
 have hs:w.heap.size<=(Sort.grow (w.drewN k) os).heap.size:=by
  show w.heap.size<=(w.heap++os).size
  rw [Array.size_append];omega
 exact ⟨⟨rfl,rfl,rfl,hs,fun j hj=>by
  show (w.heap++os)[j]?=w.heap[j]?
  exact Array.getElem?_append_left hj⟩,.string (bs (decI n)),vis,rfl,fun _ _=>rfl,fun b hb=>hvis b (by omega),.v _ rfl⟩
theorem words154 {Gl} (S:SP Gl)  :CO Gl 154 [] (.ret (.d (.agg [.v (.string (bs lHands)),.v (.string (bs lRow))]))):=by
 refine fn_is S (.nil) Tryz.func154 (by kernel_rfl) (ByteArray.mk #[(104:UInt8),(97:UInt8),(110:UInt8),(100:UInt8),(115:UInt8)]=bs lHands/\ByteArray.mk #[(114:UInt8),(111:UInt8),(119:UInt8)]=bs lRow) (by kernel_rfl) ?_
 exact ⟨rfl,rfl⟩
theorem headN220 {Gl} (S:SP Gl) (l:List Int):CO Gl 220 [.d (.agg [.l eI l])] (.ret (L eI l)):=by
 refine fn_is S (.nil) Tryz.func220 (by kernel_rfl) (sR eI l) (by kernel_rfl) ?_
 exact SEq_whole rfl
theorem rowN221 {Gl} (S:SP Gl) (l:List Int):CO Gl 221 [.d (.agg [.l eI l])] (.ret (L eI l)):=by
 refine fn_is S (.nil) Tryz.func221 (by kernel_rfl) (sR eI l) (by kernel_rfl) ?_
 exact SEq_whole rfl
theorem written132h {Gl} (S:SP Gl) (hG:GlOK Gl) (l:List Int) (hl:l.length<=1000) (hn:∀ n∈l,si n):CO Gl 132 [.d (.c (.i 121 true [.l eI l]))] (.ret (str (headW l))):=by
 refine fn_iq S (let A0:=(T.d (D.agg [C.v (Value.string (bs lHands)),C.v (Value.string (bs lRow))]));((.ff (.r (.ret A0) (.r (.ret (L eI l)) (.loop l.length (fun k=>[v 17 (I k),v 16 (I l.length),v 15 (L eI l),v 4 (str (lHands++nums3 (List.take k l)))]) fun k0=>.br (.r (.ret (str (decI (nth l k0)))) .nil) .nil)))),(false=false/\CO Gl 154 [] (.ret A0)/\((0:Int)<=0/\0<(↑(2:Nat):Int))/\CO Gl 220 [T.d (D.agg [C.l eI l])] (.ret (L eI l))/\(l.length<=maxLen->(0=(↑(0:Nat):Int)/\(l.length:Int)=(l.length:Int)/\(sR eI l)/\bs lHands=bs (lHands++nums3 (List.take (0:Nat) l)))/\∀ (k0:Nat),k0<=l.length->(decide ((k0:Int)<(l.length:Int))=true->(0<=(k0:Int)/\(k0:Int)<(l.length:Int))/\CO Gl 133 [I (nth l k0)] (.ret (str (decI (nth l k0))))/\(↑(ByteArray.size (ByteArray.mk #[(32:UInt8)])+ByteArray.size (bs (decI (nth l k0)))):Int)<=IntKind.max IntKind.i64/\(↑(ByteArray.size (bs (lHands++nums3 (List.take k0 l)))+ByteArray.size (ByteArray.mk #[(32:UInt8)]++bs (decI (nth l k0)))):Int)<=IntKind.max IntKind.i64/\iR ((k0:Int)+1)/\k0<l.length/\(k0:Int)+1=(↑(k0+1):Int)/\(l.length:Int)=(l.length:Int)/\(sR eI l)/\bs (lHands++nums3 (List.take k0 l))++(ByteArray.mk #[(32:UInt8)]++bs (decI (nth l k0)))=bs (lHands++nums3 (List.take (k0+1) l)))/\(decide ((k0:Int)<(l.length:Int))=false->bs (lHands++nums3 (List.take k0 l))=bs (headW l)))))) Tryz.func132 (by kernel_rfl) (by kernel_rfl) ?_
 dsimp only
 have hlen:∀ k,(nums3 (l.take k)).length<=5*l.length:=fun k=>by
  have:=nums3_len (l:=l.take k) fun x hx=>hn x (List.mem_of_mem_take hx)
  rw [List.length_take] at this
  omega
 have hw:lHands.length<=5:=by decide
 have e32:({ data:=#[32] }:ByteArray)=bs [32]:=rfl
 simp only [stdS,imp_self,implies_true,and_true,e32]
 refine ⟨words154 S,by decide,headN220 S l,fun hm=>⟨by simp [nums3],fun k hk=>⟨fun hlt=>?_,fun hlt=>?_⟩⟩⟩
 ·have hlt:k<l.length:=by simpa using hlt
  have hs:=hn (nth l k) (nth_mem hlt)
  have hd:=decI_len hs
  have h1:=hlen k
  refine ⟨⟨by omega,by omega⟩,itoaN hG _ hs,?_,?_,(rng_iff _).2 (by omega),hlt,rfl,?_⟩
  ·rw [max_eq,bs_size,bs_size]
   simp only [List.length_singleton]
   omega
  ·rw [bs_app,max_eq,bs_size,bs_size]
   simp only [List.length_append,List.length_singleton]
   omega
  ·rw [bs_app,bs_app,nums3_take hlt]
   simp
 ·have hlt:¬ k<l.length:=by simpa using hlt
  rw [List.take_of_length_le (by omega)]
  rfl
theorem written132r {Gl} (S:SP Gl) (hG:GlOK Gl) (l:List Int) (hl:l.length<=1000) (hn:∀ n∈l,si n):CO Gl 132 [.d (.c (.i 124 true [.l eI l]))] (.ret (str (rowW l))):=by
 refine fn_iq S (let A0:=(T.d (D.agg [C.v (Value.string (bs lHands)),C.v (Value.string (bs lRow))]));((.tt (.r (.ret A0) (.r (.ret (L eI l)) (.loop l.length (fun k=>[v 17 (I k),v 16 (I l.length),v 15 (L eI l),v 4 (str (lRow++nums3 (List.take k l)))]) fun k0=>.br (.r (.ret (str (decI (nth l k0)))) .nil) .nil)))),(true=true/\CO Gl 154 [] (.ret A0)/\((0:Int)<=1/\1<(↑(2:Nat):Int))/\CO Gl 221 [T.d (D.agg [C.l eI l])] (.ret (L eI l))/\(l.length<=maxLen->(0=(↑(0:Nat):Int)/\(l.length:Int)=(l.length:Int)/\(sR eI l)/\bs lRow=bs (lRow++nums3 (List.take (0:Nat) l)))/\∀ (k0:Nat),k0<=l.length->(decide ((k0:Int)<(l.length:Int))=true->(0<=(k0:Int)/\(k0:Int)<(l.length:Int))/\CO Gl 133 [I (nth l k0)] (.ret (str (decI (nth l k0))))/\(↑(ByteArray.size (ByteArray.mk #[(32:UInt8)])+ByteArray.size (bs (decI (nth l k0)))):Int)<=IntKind.max IntKind.i64/\(↑(ByteArray.size (bs (lRow++nums3 (List.take k0 l)))+ByteArray.size (ByteArray.mk #[(32:UInt8)]++bs (decI (nth l k0)))):Int)<=IntKind.max IntKind.i64/\iR ((k0:Int)+1)/\k0<l.length/\(k0:Int)+1=(↑(k0+1):Int)/\(l.length:Int)=(l.length:Int)/\(sR eI l)/\bs (lRow++nums3 (List.take k0 l))++(ByteArray.mk #[(32:UInt8)]++bs (decI (nth l k0)))=bs (lRow++nums3 (List.take (k0+1) l)))/\(decide ((k0:Int)<(l.length:Int))=false->bs (lRow++nums3 (List.take k0 l))=bs (rowW l)))))) Tryz.func132 (by kernel_rfl) (by kernel_rfl) ?_
 dsimp only
 have hlen:∀ k,(nums3 (l.take k)).length<=5*l.length:=fun k=>by
  have:=nums3_len (l:=l.take k) fun x hx=>hn x (List.mem_of_mem_take hx)
  rw [List.length_take] at this
  omega
 have hw:lRow.length<=5:=by decide
 have e32:({ data:=#[32] }:ByteArray)=bs [32]:=rfl
 simp only [stdS,imp_self,implies_true,and_true,e32]
 refine ⟨words154 S,by decide,rowN221 S l,fun hm=>⟨by simp [nums3],fun k hk=>⟨fun hlt=>?_,fun hlt=>?_⟩⟩⟩
 ·have hlt:k<l.length:=by simpa using hlt
  have hs:=hn (nth l k) (nth_mem hlt)
  have hd:=decI_len hs
  have h1:=hlen k
  refine ⟨⟨by omega,by omega⟩,itoaN hG _ hs,?_,?_,(rng_iff _).2 (by omega),hlt,rfl,?_⟩
  ·rw [max_eq,bs_size,bs_size]
   simp only [List.length_singleton]
   omega
  ·rw [bs_app,max_eq,bs_size,bs_size]
   simp only [List.length_append,List.length_singleton]
   omega
  ·rw [bs_app,bs_app,nums3_take hlt]
   simp
 ·have hlt:¬ k<l.length:=by simpa using hlt
  rw [List.take_of_length_le (by omega)]
  rfl
abbrev Ln:=Bool×List Int
def lnT (p:Ln):List UInt8:=bif p.1 then headW p.2 else rowW p.2
def eLn (p:Ln):List C:=[.i (bif p.1 then 121 else 124) true [.l eI p.2]]
structure lnOK (p:Ln):Prop where
 len:p.2.length<=1000
 num:∀ n∈p.2,si n
 txt:(lnT p).length<=300
theorem written132 {Gl} (S:SP Gl) (hG:GlOK Gl) (p:Ln) (h:lnOK p):CO Gl 132 [.d (.c (.i (bif p.1 then 121 else 124) true [.l eI p.2]))] (.ret (str (lnT p))):=by
 obtain ⟨b,l⟩:=p
 cases b
 ·exact written132r S hG l h.len h.num
 ·exact written132h S hG l h.len h.num
theorem text108 {Gl} (S:SP Gl) (hG:GlOK Gl) (ls:List Ln) (hn:ls.length<=900) (h:∀ p∈ls,lnOK p):CO Gl 108 [.d (.c (.l eLn ls))] (.ret (str (sealed (ls.map lnT)))):=by
 refine fn_iq S (let A0:=fun (k0:Nat)=>(Int.tmod (checkTo (List.map lnT ls) k0) (229:Int));let A1:=(List.map lnT ls);let A2:=fun (k0:Nat)=>(lnT (nth ls k0));let A3:=fun (k0:Nat)=>(Int.tmod (Int.tdiv (A0 k0) (10:Int)) (10:Int));let A4:=fun (k0:Nat)=>(Int.tdiv (A0 k0) (100:Int));let A5:=fun (k0:Nat)=>(decI (Int.tmod (A0 k0) (10:Int)));let A6:=(ls.length:Int);let A7:=fun (k0:Nat)=>(outTo A1 k0);let A8:=fun (k0:Nat)=>(↑(List.length (A2 k0)):Int);((.loop ls.length (fun i=>[v 11 (I i),v 10 (I ls.length),v 9 (T.d (D.c (C.l eLn ls))),v 4 (I (checkTo A1 i)),v 3 (str (outTo A1 i))]) fun k0=>.br (.r (.ret (str (A2 k0))) (.loop (List.length (A2 k0)) (fun k=>[v 20 (I k),v 19 (I (A8 k0)),v 11 (I k0),v 10 (I ls.length),v 9 (T.d (D.c (C.l eLn ls))),v 7 (str (A2 k0)),v 5 (I k0),v 4 (I (checkTo A1 k0+chkW (A2 k0) k0 k)),v 3 (str (A7 k0))]) fun k1=>.br .nil .nil)) (.r (.ret (str (decI (A4 k0)))) (.r (.ret (str (decI (A3 k0)))) (.r (.ret (str (A5 k0))) .nil)))),(ls.length<=maxLen->(0=(↑(0:Nat):Int)/\A6=A6/\(sR eLn ls)/\(0:Int)=checkTo A1 (0:Nat)/\ByteArray.mk #[]=bs (outTo A1 (0:Nat)))/\∀ (k0:Nat),k0<=ls.length->(decide ((k0:Int)<(ls.length:Int))=true->(0<=(k0:Int)/\(k0:Int)<A6)/\CO Gl 132 [T.d (D.c (C.i (bif Prod.fst (nth ls k0) then (121:TypeId) else (124:TypeId)) true [C.l eI (Prod.snd (nth ls k0))]))] (.ret (str (A2 k0)))/\(0=(↑(0:Nat):Int)/\(↑(ByteArray.size (bs (A2 k0))):Int)=(A8 k0)/\(k0:Int)=(k0:Int)/\A6=A6/\(sR eLn ls)/\bs (A2 k0)=bs (A2 k0)/\(k0:Int)=(k0:Int)/\checkTo A1 k0=checkTo A1 k0+chkW (A2 k0) k0 (0:Nat)/\bs (A7 k0)=bs (A7 k0))/\∀ (k1:Nat),k1<=List.length (A2 k0)->(decide ((k1:Int)<(↑(List.length (lnT (nth ls k0))):Int))=true->(0<=(k1:Int)/\(k1:Int)<(↑(ByteArray.size (bs (A2 k0))):Int))/\iR (byteAt (bs (A2 k0)) k1)/\iR ((k1:Int)+1)/\iR (byteAt (bs (A2 k0)) k1*((k1:Int)+1))/\iR ((k0:Int)+1)/\iR (byteAt (bs (A2 k0)) k1*((k1:Int)+1)*((k0:Int)+1))/\iR (checkTo A1 k0+chkW (A2 k0) k0 k1+byteAt (bs (A2 k0)) k1*((k1:Int)+1)*((k0:Int)+1))/\iR ((k1:Int)+1)/\k1<List.length (A2 k0)/\(k1:Int)+1=(↑(k1+1):Int)/\(A8 k0)=(A8 k0)/\(k0:Int)=(k0:Int)/\A6=A6/\(sR eLn ls)/\bs (A2 k0)=bs (A2 k0)/\(k0:Int)=(k0:Int)/\checkTo A1 k0+chkW (A2 k0) k0 k1+byteAt (bs (A2 k0)) k1*((k1:Int)+1)*((k0:Int)+1)=checkTo A1 k0+chkW (A2 k0) k0 (k1+1)/\bs (A7 k0)=bs (A7 k0))/\(decide ((k1:Int)<(↑(List.length (lnT (nth ls k0))):Int))=false->(↑(ByteArray.size (bs (A2 k0))+ByteArray.size (ByteArray.mk #[(10:UInt8)])):Int)<=IntKind.max IntKind.i64/\(↑(ByteArray.size (bs (A7 k0))+ByteArray.size (bs (A2 k0)++ByteArray.mk #[(10:UInt8)])):Int)<=IntKind.max IntKind.i64/\iR ((k0:Int)+1)/\k0<ls.length/\(k0:Int)+1=(↑(k0+1):Int)/\A6=A6/\(sR eLn ls)/\checkTo A1 k0+chkW (A2 k0) k0 k1=checkTo A1 (k0+1)/\bs (A7 k0)++(bs (A2 k0)++ByteArray.mk #[(10:UInt8)])=bs (outTo A1 (k0+1))))/\(decide ((k0:Int)<(ls.length:Int))=false->(229:Int)≠(0:Int)/\(↑(ByteArray.size (bs (A7 k0))+ByteArray.size (ByteArray.mk #[(101:UInt8),(110:UInt8),(100:UInt8),(32:UInt8)])):Int)<=IntKind.max IntKind.i64/\((100:Int)≠(0:Int)/\iR (A4 k0))/\CO Gl 133 [I (A4 k0)] (.ret (str (decI (A4 k0))))/\(↑(ByteArray.size (bs (A7 k0)++ByteArray.mk #[(101:UInt8),(110:UInt8),(100:UInt8),(32:UInt8)])+ByteArray.size (bs (decI (A4 k0)))):Int)<=IntKind.max IntKind.i64/\((10:Int)≠(0:Int)/\iR (Int.tdiv (A0 k0) (10:Int)))/\(10:Int)≠(0:Int)/\CO Gl 133 [I (A3 k0)] (.ret (str (decI (A3 k0))))/\(↑(ByteArray.size (bs (A7 k0)++ByteArray.mk #[(101:UInt8),(110:UInt8),(100:UInt8),(32:UInt8)]++bs (decI (A4 k0)))+ByteArray.size (bs (decI (A3 k0)))):Int)<=IntKind.max IntKind.i64/\(10:Int)≠(0:Int)/\CO Gl 133 [I (Int.tmod (A0 k0) (10:Int))] (.ret (str (A5 k0)))/\(↑(ByteArray.size (bs (A7 k0)++ByteArray.mk #[(101:UInt8),(110:UInt8),(100:UInt8),(32:UInt8)]++bs (decI (A4 k0))++bs (decI (A3 k0)))+ByteArray.size (bs (A5 k0))):Int)<=IntKind.max IntKind.i64/\(↑(ByteArray.size (bs (A7 k0)++ByteArray.mk #[(101:UInt8),(110:UInt8),(100:UInt8),(32:UInt8)]++bs (decI (A4 k0))++bs (decI (A3 k0))++bs (A5 k0))+ByteArray.size (ByteArray.mk #[(10:UInt8)])):Int)<=IntKind.max IntKind.i64/\bs (A7 k0)++ByteArray.mk #[(101:UInt8),(110:UInt8),(100:UInt8),(32:UInt8)]++bs (decI (A4 k0))++bs (decI (A3 k0))++bs (A5 k0)++ByteArray.mk #[(10:UInt8)]=bs (sealed A1))))) Tryz.func108 (by kernel_rfl) (by kernel_rfl) ?_
 dsimp only
 have e10:({ data:=#[10] }:ByteArray)=bs [10]:=rfl
 have e0:({ data:=#[] }:ByteArray)=bs []:=rfl
 have eE:({ data:=#[101,110,100,32] }:ByteArray)=bs lEnd:=rfl
 have hat:∀ i,i<ls.length->nth (ls.map lnT) i=lnT (nth ls i):=fun i hi=>nth_map hi
 have hR:(ls.map lnT).length=ls.length:=List.length_map ..
 have hrl:∀ i,i<(ls.map lnT).length->(nth (ls.map lnT) i).length<=300:=fun i hi=>by
  rw [hat i (by omega)]
  exact (h _ (nth_mem (show i<ls.length by omega))).txt
 simp only [stdS,imp_self,implies_true,and_true,e10,e0,eE,bs_size,bs_app,decide_eq_true_eq,decide_eq_false_iff_not]
 refine fun hm=>⟨⟨rfl,rfl⟩,fun k3 hk3=>⟨fun hlt=>?_,fun hlt=>?_⟩⟩
 ·have hlt:k3<ls.length:=by omega
  have hw:=hrl k3 (by omega)
  have hco:=checkTo_le hrl k3 (by omega) (by omega)
  have hou:=outTo_le hrl k3 (by omega)
  have e1:checkTo (ls.map lnT) (k3+1)=checkTo (ls.map lnT) k3+chkW (nth (ls.map lnT) k3) k3 (nth (ls.map lnT) k3).length:=rfl
  have e2:outTo (ls.map lnT) (k3+1)=outTo (ls.map lnT) k3++(nth (ls.map lnT) k3++[10]):=rfl
  rw [hat k3 hlt] at hw e1 e2
  refine ⟨⟨by omega,by omega⟩,written132 S hG _ (h _ (nth_mem hlt)),⟨by unfold chkW;omega,trivial⟩,fun k4 hk4=>⟨fun hl4=>?_,fun hl4=>?_⟩⟩
  ·have hl4:k4<(lnT (nth ls k3)).length:=by omega
   generalize lnT (nth ls k3)=w at *
   have ht:=term_le (x:=nth w k4) (k:=k4) (i:=k3) (by omega) (by omega)
   have hsu:=chkW_le (w:=w) (i:=k3) (by omega) k4 (by omega)
   have hx:((nth w k4).toNat:Int)<256:=by have:=(nth w k4).toNat_lt;omega
   rw [byteAt_bs hl4]
   refine ⟨⟨by omega,by omega⟩,(rng_iff _).2 (by omega),(rng_iff _).2 (by omega),(rng_iff _).2 (by omega),(rng_iff _).2 (by omega),(rng_iff _).2 (by omega),(rng_iff _).2 (by omega),(rng_iff _).2 (by omega),hl4,by omega,?_,trivial⟩
   rw [chkW,Int.add_assoc]
  ·have hl4:k4=(lnT (nth ls k3)).length:=by omega
   subst hl4
   refine ⟨by rw [max_eq];simp only [List.length_singleton];omega,by rw [max_eq];simp only [List.length_append,List.length_singleton];omega,(rng_iff _).2 (by omega),hlt,by omega,e1.symm,?_⟩
   rw [e2]
 ·obtain rfl:k3=ls.length:=by omega
  have hco:=checkTo_le hrl ls.length (by omega) (by omega)
  have hou:=outTo_le hrl ls.length (by omega)
  have htx:sealed (ls.map lnT)=outTo (ls.map lnT) ls.length++lEnd++dec (Int.tdiv (Int.tmod (checkTo (ls.map lnT) ls.length) 229) 100)++dec (Int.tmod (Int.tdiv (Int.tmod (checkTo (ls.map lnT) ls.length) 229) 10) 10)++dec (Int.tmod (Int.tmod (checkTo (ls.map lnT) ls.length) 229) 10)++[10]:=by
   unfold sealed checkOf
   rw [hR]
  rw [htx]
  have hM:0<=Int.tmod (checkTo (ls.map lnT) ls.length) 229/\Int.tmod (checkTo (ls.map lnT) ls.length) 229<229:=by
   rw [Int.tmod_eq_emod_of_nonneg hco.1]
   omega
  generalize Int.tmod (checkTo (ls.map lnT) ls.length) 229=M at *
  have h1':Int.tdiv M 100=M / 100:=Int.tdiv_eq_ediv_of_nonneg hM.1
  have h2':Int.tdiv M 10=M / 10:=Int.tdiv_eq_ediv_of_nonneg hM.1
  have h3':Int.tmod (M / 10) 10=M / 10 % 10:=Int.tmod_eq_emod_of_nonneg (by omega)
  have h4':Int.tmod M 10=M % 10:=Int.tmod_eq_emod_of_nonneg hM.1
  rw [h1',h2',h3',h4']
  have s1:sm (M / 100):=⟨by omega,by omega⟩
  have s2:sm (M / 10 % 10):=⟨by omega,by omega⟩
  have s3:sm (M % 10):=⟨by omega,by omega⟩
  have i1:si (M / 100):=⟨by omega,by omega⟩
  have i2:si (M / 10 % 10):=⟨by omega,by omega⟩
  have i3:si (M % 10):=⟨by omega,by omega⟩
  have d1:decI (M / 100)=dec (M / 100):=decI_pos s1.1
  have d2:decI (M / 10 % 10)=dec (M / 10 % 10):=decI_pos s2.1
  have d3:decI (M % 10)=dec (M % 10):=decI_pos s3.1
  have t1:=itoaN hG _ i1
  have t2:=itoaN hG _ i2
  have t3:=itoaN hG _ i3
  rw [d1] at t1 ⊢
  rw [d2] at t2 ⊢
  rw [d3] at t3 ⊢
  have l1:=dec_len s1
  have l2:=dec_len s2
  have l3:=dec_len s3
  have lE:lEnd.length=4:=rfl
  refine ⟨by decide,?_,⟨by decide,(rng_iff _).2 (by omega)⟩,t1,?_,⟨by decide,(rng_iff _).2 (by omega)⟩,by decide,t2,?_,by decide,t3,?_,?_,rfl⟩
  all_goals
   rw [max_eq]
   try simp only [List.length_append,List.length_singleton]
   omega
end Go.Vc.Hn
set_option maxRecDepth 100000
namespace Go.Vc.Hn
open Go Go.Proofs Go.Vc Go.Proofs.YtncmcnpjmdpnaaaGreatDoor Go.ChangeShapes Go.WideShapes Go.ChangeAt Go.RowKit Go.Deep
theorem own:ownKnob Tryz.prog.godebug=none:=by kernel_rfl
theorem row1:(((begin Tryz.prog (fun _ _=>0) default).world.heap[1]?).bind Obj.row?)=some (#[.int .i64 0],3):=by kernel_rfl
theorem cells3:Tryz.prog.cellTypes Tryz.prog.depth 3=some [3]:=by kernel_rfl
theorem build3:Tryz.prog.buildable 3=true:=by kernel_rfl
theorem globs:1<Tryz.prog.globals.size:=Nat.le_of_ble_eq_true (by kernel_rfl)
theorem glL {W:World} (h:W.ShapedOpen Tryz.prog):∃ m,W.cell? ⟨1,0,none⟩=some (.int .i64 m):=by
 obtain ⟨cs,hc,hsz,hrow⟩:=h.1 1 _ _ globs row1
 obtain ⟨ts,hts,_,hall⟩:=hrow build3
 rw [cells3] at hts
 obtain rfl:=Option.some.inj hts
 have hsz:cs.size=1:=hsz
 have h0:cs[0]?=some cs[0]:=Array.getElem?_eq_getElem (by omega)
 obtain ⟨u,hu,hok⟩:=hall 0 _ h0
 obtain rfl:u=3:=(Option.some.inj hu).symm
 unfold Cell.ok at hok
 rw [Tryz.underlying3] at hok
 have hcell:W.cell? ⟨1,0,none⟩=some cs[0]:=by
  unfold World.cell?
  simp [hc]
 generalize cs[0]=v at hok hcell
 cases v with
 |int k n=>obtain ⟨rfl,_⟩:=hok;exact ⟨n,hcell⟩
 |_=>exact absurd hok (by simp)
def flatD:Nat->DataW Unit->List Value
 |n+1,.lit (.int k z)=>[.int k z]
 |n+1,.agg l=>l.flatMap (flatD n)
 |_,_=>[]
def layOne (x:DataW Unit):Obj->Obj
 | .cells _ t frozen=>.cells (flatD 4 x).toArray t frozen
 |o=>o
noncomputable def laidWorld (os:Os):World:=
 { World.holding Tryz.prog os ⟨#[],#[],[]⟩ with heap:=(((((World.holding Tryz.prog os ⟨#[],#[],[]⟩).heap.modify 4 (layOne Rows.laid_math_bits_deBruijn32tab)).modify 5 (layOne Rows.laid_math_bits_deBruijn64tab)).modify 0 (layOne Rows.laid_internal_strconv_uint64pow10)).modify 3 (layOne Rows.laid_unicode_utf8_acceptRanges)).modify 2 (layOne Rows.laid_unicode_utf8_first) }
def argS:Value:=.agg #[.slice none 0 0,.slice none 0 0]
def GlW (w:World):Prop:=(∃ m,w.cell? ⟨1,0,none⟩=some (.int .i64 m))/\Lib.TabIs Tryz.prog w "internal/strconv.uint64pow10" .u64 Lib.pow10Tab
theorem glOK:GlOK GlW:=⟨fun _ h=>h.1,fun _ h=>h.2⟩
theorem glob0:Tryz.prog.globalNamed "internal/strconv.uint64pow10"=some 0:=by kernel_rfl
theorem tab_keep {w w':World} (hB:Below w.heap.size w w') (h:Lib.TabIs Tryz.prog w "internal/strconv.uint64pow10" .u64 Lib.pow10Tab):Lib.TabIs Tryz.prog w' "internal/strconv.uint64pow10" .u64 Lib.pow10Tab:=by
 unfold Lib.TabIs at h ⊢
 rw [<-h]
 have h0:0<w.heap.size:=by
  rcases Nat.eq_zero_or_pos w.heap.size with h1|h1
  ·exfalso
   have hn:w.heap[0]?=none:=Array.getElem?_eq_none (by omega)
   unfold World.var? at h
   rw [glob0] at h
   simp [hn] at h
  ·exact h1
 unfold World.var?
 rw [glob0]
 have:=hB.block 0 h0
 simp only [Option.bind_some,this]
theorem setW:Set Tryz.prog Y GlW:=⟨yok,fun w w' ⟨⟨m,h⟩,ht⟩ hB=>⟨⟨m,by rw [hB.cell (World.block_lt_of_cell? w _ h)];exact h⟩,tab_keep hB ht⟩,mixed⟩
theorem laid3:Rows.handsTrueRow.laid=("math/bits.deBruijn32tab",Rows.laid_math_bits_deBruijn32tab)::("math/bits.deBruijn64tab",Rows.laid_math_bits_deBruijn64tab)::("internal/strconv.uint64pow10",Lib.tabData .u64 Lib.pow10Tab)::Rows.handsTrueRow.laid.drop 3:=by kernel_rfl
theorem tabW {W:World} (h:laidMet Tryz.prog Rows.handsTrueRow.laid W):Lib.TabIs Tryz.prog W "internal/strconv.uint64pow10" .u64 Lib.pow10Tab:=by
 rw [laid3] at h
 exact Lib.tabIs_of_head (g:=0) (t:=213) (e:=191) (n:=20) glob0 (by kernel_rfl) (by kernel_rfl) (by kernel_rfl) (by kernel_rfl) (by kernel_rfl) h.tail.tail
theorem handleless:(Rows.handsTrueRow.laid.filter fun x=>x.2.handleName?.isSome)=[]:=by kernel_rfl
theorem glW {W:World} (h:W.ShapedOpen Tryz.prog) (hl:laidMetH Tryz.prog Rows.handsTrueRow.laid W):GlW W:=⟨glL h,tabW (by unfold laidMetH at hl;rw [handleless] at hl;exact hl)⟩
end Go.Vc.Hn
set_option maxRecDepth 100000
namespace Go.Vc.Hn
open Go Go.Proofs Go.Proofs.YtncmcnpjmdpnaaaGreatDoor
def chs (l:List Nat):List Char:=l.map Char.ofNat
def kfHar:List Char:=chs [104,97,114,110,101,115,115]
def kfSum:List Char:=chs [55,55,57,48,98,98,97,57,100,53,98,53,51,51,49,53,99,57,98,97,101,57,57,48,101,55,101,55,56,52,49,50,101,56,54,49,98,50,57,50,55,100,100,55,57,49,98,55,53,51,97,53,50,97,97,97,102,99,99,48,52,53,54,97]
def kfCut:List Char:=chs [99,117,116]
def kfRest:List (List Char):=chs [97,116]::([[69,114,114,111,114,115],[77,97,100,101],[70,105,114,115,116,115],[86,97,108,117,101,115],[84,114,117,101],[76,101,97,115,116],[78,101,120,116,115],[87,114,111,110,103,115],[66,111,116,104],[65,108,105,107,101],[77,111,114,101],[79,114,100,101,114],[83,105,103,110,115],[65,103,114,101,101,115],[80,114,105,110,116,115],[82,101,97,100,115],[83,112,111,105,108,116]]:List (List Nat)).map fun l=>chs ([101,112,104,101,109,101,114,105,115,116,47,101,112,104,101,109,101,114,105,115,116,108,97,119,48,50,46,72,97,110,100,115]++l)
def headCs:List Char:=kfHar++(kfSum::kfCut::kfRest).flatMap fun l=>Char.ofNat 32::l
theorem io:Tryz.prog.initOrder=String.ofList headCs:=by kernel_rfl
theorem io2:Tryz.prog.initOrder.toList=headCs:=by rw [io,String.toList_ofList]
theorem words:wordsSigns Tryz.prog.initOrder.toList=kfHar::kfSum::kfCut::kfRest:=by rw [io2];kernel_rfl
theorem sumOK:isSumSigns kfSum=true:=by kernel_rfl
theorem harOK:(kfHar== "harness".toList)=true:=by kernel_rfl
theorem sumEq:kfSum=("7790bba9d5b53315c9bae990e7e78412e861b2927dd791b753a52aaafcc0456a":String).toList:=by kernel_rfl
theorem words2:behindMainWord (wordsSigns Tryz.prog.initOrder.toList)=kfCut::kfRest:=by
 rw [words]
 show (if ((kfHar== "harness".toList||kfHar== "ownmain".toList)&&isSumSigns kfSum)=true then kfCut::kfRest else kfHar::kfSum::kfCut::kfRest)=_
 rw [harOK,sumOK]
 rfl
theorem mainIs_of {P:Program} {h s:List Char} {r:List (List Char)} (hw:wordsSigns P.initOrder.toList=h::s::r) (h1:isSumSigns s=true) (h2:(h== "harness".toList)=true):P.mainIs=some (true,s):=by
 unfold Program.mainIs
 rw [hw]
 simp only [h1,h2,Bool.not_true,Bool.false_eq_true,if_false,if_true]
theorem make_of {P:Program} {c:List Char} {r:List (List Char)} (hw:behindMainWord (wordsSigns P.initOrder.toList)=c::r) (h1:(c== "gc".toList)=false) (h2:(c== "spec".toList)=false) (h3:(c== "cut".toList)=true):P.make=some .cut:=by
 unfold Program.make
 rw [hw]
 simp only [h1,h2,h3,Bool.or_false,Bool.true_or,Bool.false_eq_true,if_false,if_true]
theorem enters_of {P:Program} {c:List Char} {r:List (List Char)} (hw:behindMainWord (wordsSigns P.initOrder.toList)=c::r) (h1:((stripLifts liftWords (c::r)).2.head?==some "cut".toList)=true) (h2:P.laysLater=false) (h3:P.bearsReflect=false)
  (h4:(stripLifts liftWords (c::r)).1.contains "leanrows"=false) (h5:P.doorFits (stripLifts liftWords (c::r)).1=true):P.mayEnter=true:=by
 unfold Program.mayEnter
 rw [hw]
 simp only [h1,h2,h3,h4,h5,Bool.not_false,Bool.or_true,Bool.and_self]
theorem enters:Tryz.prog.mayEnter=true:=enters_of words2 (by kernel_rfl) (by kernel_rfl) (by kernel_rfl) (by kernel_rfl) (by kernel_rfl)
theorem makes:Tryz.prog.make=some .cut:=make_of words2 (by kernel_rfl) (by kernel_rfl) (by kernel_rfl)
theorem mainIs:Tryz.pinned.checked.prog.mainIs=some (true,("7790bba9d5b53315c9bae990e7e78412e861b2927dd791b753a52aaafcc0456a":String).toList):=by
 rw [<-sumEq]
 exact mainIs_of (P:=Tryz.prog) words sumOK harOK
theorem lifts:Tryz.prog.headLifts.contains "finals"=false:=by
 unfold Program.headLifts
 rw [io2]
 kernel_rfl
theorem final:Tryz.prog.liftsFinal=false:=by
 unfold Program.liftsFinal
 rw [lifts,io2]
 kernel_rfl
theorem looks:Tryz.pinned.checked.prog.looks []=true:=by kernel_rfl
open Go Go.Proofs Go.Vc
theorem dec_len1 {n:Int} (h0:0<=n) (h1:n<10):(dec n).length=1:=by rw [dec_one h0 h1];rfl
/-! what a text's parts are as long as -/
theorem splitL_sum (c:UInt8):∀ l:List UInt8,((splitL c l).map fun w=>w.length+1).sum=l.length+1
 | []=>rfl
 |x::r=>by
  have ih:=splitL_sum c r
  unfold splitL
  cases hx:x==c with
  |true=>
   simp only [cond_true,List.map_cons,List.sum_cons,List.length_nil,List.length_cons]
   omega
  |false=>
   simp only [cond_false]
   cases hs:splitL c r with
   |nil=>exact absurd hs (splitL_ne c r)
   |cons p q=>
    rw [hs] at ih
    simp only [List.map_cons,List.sum_cons,List.length_cons] at ih ⊢
    omega
theorem okS_dec {w:List UInt8} (h:okS w=true):decI (numS w)=w:=by
 unfold okS at h
 rw [Bool.and_eq_true,beq_iff_eq] at h
 unfold numS
 rw [h.1,cond_true]
 exact h.2
theorem nums3_words:∀ {ws:List (List UInt8)},ws.all okS=true->(nums3 (ws.map numS)).length=(ws.map fun w=>w.length+1).sum
 | [],_=>rfl
 |w::ws,h=>by
  rw [List.all_cons,Bool.and_eq_true] at h
  have ih:=nums3_words h.2
  have e:nums3 ((w::ws).map numS)=32::(decI (numS w)++nums3 (ws.map numS)):=by unfold nums3;simp
  rw [e,okS_dec h.1,List.length_cons,List.length_append,ih,List.map_cons,List.sum_cons]
  omega
theorem row_nums_len {r:List UInt8} (h:okR r=true):(nums3 (nsR r)).length<=r.length:=by
 have h1:=splitL_sum 32 r
 have h2:(nums3 (nsR r)).length=((tl r).map fun w=>w.length+1).sum:=nums3_words h
 unfold tl at h2
 cases hs:splitL 32 r with
 |nil=>exact absurd hs (splitL_ne 32 r)
 |cons p q=>
  rw [hs] at h1 h2
  simp only [List.map_cons,List.sum_cons,List.drop_succ_cons,List.drop_zero] at h1 h2
  omega
theorem piece_len (c:UInt8):∀ (l p:List UInt8),p∈splitL c l->p.length<=l.length
 | [],p,h=>by
  simp only [splitL,List.mem_singleton] at h
  subst h;simp
 |x::r,p,h=>by
  unfold splitL at h
  cases hx:x==c with
  |true=>
   rw [hx,cond_true] at h
   rcases List.mem_cons.1 h with rfl|h
   ·simp
   ·have:=piece_len c r p h
    simp only [List.length_cons];omega
  |false=>
   rw [hx,cond_false] at h
   cases hs:splitL c r with
   |nil=>exact absurd hs (splitL_ne c r)
   |cons a q=>
    rw [hs] at h
    rcases List.mem_cons.1 h with rfl|h
    ·have:=piece_len c r a (by rw [hs];exact List.mem_cons_self)
     simp only [List.length_cons];omega
    ·have:=piece_len c r p (by rw [hs];exact List.mem_cons_of_mem _ h)
     simp only [List.length_cons];omega
theorem split_pos (c:UInt8) (l:List UInt8):1<=(splitL c l).length/\(splitL c l).length<=l.length+1:=by
 rw [splitL_len]
 have:=List.count_le_length (a:=c) (l:=l)
 omega
theorem mid_len {s:List UInt8}:(mid s).length=(splitL 10 s).length - 2:=by
 unfold mid
 rw [List.length_take]
 omega
theorem mid_nth {s:List UInt8} {i:Nat} (h:i<(mid s).length):nth (mid s) i=nth (splitL 10 s) i:=by
 rw [mid_len] at h
 unfold mid
 exact nth_take h
theorem row_len {s:List UInt8} {i:Nat} (h:i<(mid s).length):(nth (mid s) i).length<=s.length:=by
 rw [mid_nth h]
 rw [mid_len] at h
 exact piece_len 10 s _ (nth_mem (by omega))
theorem tl_len {r:List UInt8}:(tl r).length=(splitL 32 r).length - 1:=by
 unfold tl
 rw [List.length_drop]
theorem tl_nth {r:List UInt8} {i:Nat} (h:i<(tl r).length):nth (tl r) i=nth (splitL 32 r) (1+i):=by
 unfold tl
 rw [nth_drop]
theorem nsR_len (r:List UInt8):(nsR r).length=(tl r).length:=by unfold nsR;rw [List.length_map]
theorem nsR_le (r:List UInt8):(nsR r).length<=r.length:=by
 rw [nsR_len,tl_len]
 have:=split_pos 32 r
 omega
/-! a sheet's text -/
theorem nums_len1:∀ {l:List Int},(∀ n∈l,0<=n/\n<10)->(nums3 l).length=2*l.length
 | [],_=>rfl
 |n::l,h=>by
  have ih:=nums_len1 (l:=l) fun x hx=>h x (List.mem_cons_of_mem _ hx)
  have e:nums3 (n::l)=32::(decI n++nums3 l):=by unfold nums3;simp
  obtain ⟨h0,h1⟩:=h n List.mem_cons_self
  rw [e,List.length_cons,List.length_append,ih,decI_pos h0,dec_len1 h0 h1,List.length_cons]
  omega
theorem headT_len {s:Sheet} (hs:s.ok=true):(headT s).length<=11:=by
 obtain ⟨l1,l2,l3,l4,l5,l6⟩:=ok_all hs
 unfold headT
 rw [List.length_append,nums_len1 fun n hn=>by
  obtain ⟨i,hi,rfl⟩:=mem_nth hn
  have:=(l6 i (by omega)).2.2
  omega]
 rw [show lHands.length=5 from rfl]
 omega
theorem rowT_len {s:Sheet} (hs:s.ok=true) {r:Nat} (hr:r<rows s):(rowT s r).length<=18:=by
 have h1:=nums3_len (l:=numbersL s r) ((ok_txt hs).nc r hr)
 have h2:=numbersL_len s r
 have h3:=(ok_len hs).2.1
 unfold rowT
 rw [List.length_append,show lRow.length=3 from rfl]
 omega
theorem ok_low {s:Sheet} (hs:s.ok=true):s.low:=by
 obtain ⟨l1,l2,l3,l4,l5,l6⟩:=ok_all hs
 have ht:=ok_txt hs
 exact ⟨by omega,by omega,by omega,ht.eq,ht.ne,ht.nc,by have:=headT_len hs;omega,fun r hr=>by have:=rowT_len hs hr;omega⟩
/-! another digit -/
open Go Go.Proofs Go.Vc Go.RowKit
theorem sure135 {Gl} (S:SP Gl) (s:ByteArray):CO Gl 135 [B true,.d (.c (.v (.string s)))] (.ret (.tup [])):=by
 refine fn_is S (.ff .nil) Tryz.func135 (by kernel_rfl) (false=false/\True) (by kernel_rfl) ?_
 exact ⟨rfl,trivial⟩
theorem sureT {Gl} (S:SP Gl) (x:Bool) (s:ByteArray) (h:x=true):CO Gl 135 [B x,.d (.c (.v (.string s)))] (.ret (.tup [])):=by subst h;exact sure135 S s
theorem fn157:FnOK Tryz.prog 157:=⟨Tryz.f157,by kernel_rfl,by kernel_rfl,by kernel_rfl⟩
theorem trim_body (w:List UInt8):Lib.trimPrefix w [45]=bodyOf w:=by
 unfold Lib.trimPrefix bodyOf minus Lib.hasPrefix
 cases w with
 |nil=>rfl
 |cons x w=>
  by_cases h:x=45
  ·subst h;rfl
  ·have h1:(nth (x::w) 0==45)=false:=beq_eq_false_iff_ne.2 h
   rw [h1,Bool.and_false,cond_false,if_neg]
   simp [List.isPrefixOf,Ne.symm h]
theorem trim157 {Gl:World->Prop} (w:List UInt8):CO Gl 157 [str w,str [45]] (.ret (str (bodyOf w))):=by
 refine computes_same fn157 fun vis wd vs _ ha=>⟨.string (bs (bodyOf w)),.v _ rfl,?_⟩
 rw [args2 ha]
 have:=Tryz.strings_TrimPrefix (bs w) (bs [45]) wd
 rw [bs_list,bs_list,trim_body] at this
 exact this
theorem body_same (w:List UInt8):(bodyOf w==w)=!minus w:=by
 unfold bodyOf
 cases h:minus w
 ·simp
 ·rw [cond_true,Bool.not_true,beq_eq_false_iff_ne]
  intro he
  have hl:=congrArg List.length he
  unfold minus at h
  rw [Bool.and_eq_true,decide_eq_true_eq] at h
  rw [List.length_drop] at hl
  omega
theorem sg_val (w:List UInt8):(minus w=true->sgOf w*valW (bodyOf w)=-dval (bodyOf w) (bodyOf w).length)/\(minus w=false->sgOf w*valW (bodyOf w)=dval (bodyOf w) (bodyOf w).length):=by
 unfold sgOf valW
 refine ⟨fun h=>?_,fun h=>?_⟩
 ·rw [h,cond_true];omega
 ·rw [h,cond_false];omega
theorem ne_len (l:List UInt8):(!(l==[]))=decide (1<=l.length):=by cases l<;>rfl
theorem number136 {Gl} (S:SP Gl) (hG:GlOK Gl) (w:List UInt8) (h1:1<=(bodyOf w).length) (h2:digs (bodyOf w)=true) (h3:(decI (sgOf w*valW (bodyOf w))==w)=true):CO Gl 136 [str w] (.ret (I (sgOf w*valW (bodyOf w)))):=by
 refine fn_iq S (let A0:=(!ByteArray.toList (bs (bodyOf w))==ByteArray.toList (ByteArray.mk #[]));let A1:=fun (k0:Nat)=>(bif decide ((48:Int)<=runeAt (bs (bodyOf w)) k0) then decide (runeAt (bs (bodyOf w)) k0<=(57:Int)) else false);let A2:=(bodyOf w);let A3:=(eqB A0 true=true->eqB A0 true=true);let A4:=(ByteArray.size (bs A2));let A5:=(D.c (C.v (Value.string (bs w))));let A6:=fun (k0:Nat)=>(runeAt (bs A2) k0-(48:Int));let A7:=(!ByteArray.toList (bs A2)==ByteArray.toList (bs w));((.r (.ret (str A2)) (.loop (List.length A2) (fun k=>[v 10 (T.it (10:Nat)),((2:Nat),(10:Nat),T.itc (bs A2) k),v 4 (I (dval A2 k)),v 3 (str A2),v 0 (str w)]) fun k0=>.br (.r (.ret (.tup [])) .nil) (.br (.r (.ret (str (decI (-dval A2 k0)))) (.r (.ret (.tup [])) .nil)) (.r (.ret (str (decI (dval A2 k0)))) (.r (.ret (.tup [])) .nil))))),(CO Gl 157 [str w,str [(45:UInt8)]] (.ret (str A2))/\(bs A2=bs A2/\(0:Nat)=(0:Nat)/\(0:Int)=dval A2 (0:Nat)/\bs A2=bs A2/\bs w=bs w)/\∀ (k0:Nat),k0<=List.length A2->(Nat.blt k0 A4=true->Nat.blt k0 A4=true/\(eqB (decide ((48:Int)<=runeAt (bs (bodyOf w)) k0)) true=true->eqB (decide ((48:Int)<=runeAt (bs (bodyOf w)) k0)) true=true)/\(decide ((48:Int)<=runeAt (bs (bodyOf w)) k0)=true->eqB (decide ((48:Int)<=runeAt (bs (bodyOf w)) k0)) true=true)/\(eqB (A1 k0) true=true->eqB (A1 k0) true=true)/\(eqB (A1 k0) true=true->eqB (A1 k0) true=true)/\((A1 k0)=true->eqB (A1 k0) true=true)/\CO Gl 135 [B (bif bif decide ((48:Int)<=runeAt (bs (bodyOf w)) k0) then decide (runeAt (bs (bodyOf w)) k0<=(57:Int)) else false then decide ((↑(ByteArray.size (bs (bodyOf w))):Int)<=3) else false),T.d A5] (.ret (.tup []))/\iR ((10:Int)*dval A2 k0)/\inRange IntKind.i32 (A6 k0)/\iR (A6 k0)/\iR ((10:Int)*dval A2 k0+(A6 k0))/\k0<List.length A2/\bs A2=bs A2/\(bif Nat.blt k0 A4 then k0+widthAt (bs A2) k0 else k0)=k0+(1:Nat)/\(10:Int)*dval A2 k0+(A6 k0)=dval A2 (k0+1)/\bs A2=bs A2/\bs w=bs w)/\(Nat.blt k0 A4=false->(A7=true->iR (-dval A2 k0)/\A3/\(eqB A0 true=true->CO Gl 133 [I (-dval A2 k0)] (.ret (str (decI (-dval A2 k0)))))/\A3/\A3/\(A0=true->eqB A0 true=true)/\CO Gl 135 [B (bif !ByteArray.toList (bs A2)==ByteArray.toList (ByteArray.mk #[]) then ByteArray.toList (bs (decI (-dval A2 k0)))==ByteArray.toList (bs w) else false),T.d A5] (.ret (.tup []))/\-dval A2 k0=sgOf w*valW A2)/\(A7=false->A3/\(eqB A0 true=true->CO Gl 133 [I (dval A2 k0)] (.ret (str (decI (dval A2 k0)))))/\A3/\A3/\(A0=true->eqB A0 true=true)/\CO Gl 135 [B (bif !ByteArray.toList (bs A2)==ByteArray.toList (ByteArray.mk #[]) then ByteArray.toList (bs (decI (dval A2 k0)))==ByteArray.toList (bs w) else false),T.d A5] (.ret (.tup []))/\dval A2 k0=sgOf w*valW A2))))) Tryz.func136 (by kernel_rfl) (by kernel_rfl) ?_
 obtain ⟨hl,hdig⟩:=digs_spec h2
 have hv:=val_le (w:=bodyOf w) (k:=(bodyOf w).length) hl hdig
 obtain ⟨hv1,hv2⟩:=sg_val w
 have e0:({ data:=#[] }:ByteArray).toList=[]:=bs_tl []
 simp only [stdS,imp_self,implies_true,and_true,bs_tl,e0,body_same,ne_len,Bool.not_not]
 refine ⟨trim157 w,⟨rfl,trivial⟩,fun k hk=>⟨fun hb=>?_,fun hb=>?_⟩⟩
 ·have hlt:k<(bodyOf w).length:=by
   rw [bs_size] at hb
   exact Nat.le_of_ble_eq_true hb
  obtain ⟨q1,q2,q3,q4,q5,q6,q7⟩:=step_ok hl hlt (fun i hi=>hdig i (by omega))
  exact ⟨hb,sureT S _ _ q1,q2,q3,q4,q5,hlt,q6,q7,trivial⟩
 ·have hge:k=(bodyOf w).length:=by
   rw [bs_size] at hb
   rcases Nat.lt_or_ge k (bodyOf w).length with hh|hh
   ·have:k.blt (bodyOf w).length=true:=Nat.ble_eq_true_of_le hh
    rw [this] at hb;cases hb
   ·omega
  subst hge
  refine ⟨fun hm=>⟨(rng_iff _).2 (by omega),fun _=>itoaN hG _ ⟨by omega,by omega⟩,sureT S _ _ ?_,(hv1 hm).symm⟩,fun hm=>⟨fun _=>itoaN hG _ ⟨by omega,by omega⟩,sureT S _ _ ?_,(hv2 hm).symm⟩⟩
  ·rw [hv1 hm] at h3;rw [h3,decide_eq_true h1];rfl
  ·rw [hv2 hm] at h3;rw [h3,decide_eq_true h1];rfl
theorem number136T {Gl} (S:SP Gl) (hG:GlOK Gl) (w:List UInt8) (h:okS w=true):CO Gl 136 [str w] (.ret (I (numS w))):=by
 unfold okS isS at h
 rw [Bool.and_eq_true,Bool.and_eq_true,decide_eq_true_eq] at h
 have hi:isS w=true:=by unfold isS;rw [decide_eq_true h.1.1,h.1.2];rfl
 unfold numS
 rw [hi]
 exact number136 S hG w h.1.1 h.1.2 h.2
end Go.Vc.Hn
