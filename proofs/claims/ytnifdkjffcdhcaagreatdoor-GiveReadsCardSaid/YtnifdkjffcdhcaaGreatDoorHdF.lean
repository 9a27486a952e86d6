/- A part of the proofs over layer 6 (give): the program and the specification; no condition. -/
import Derived.Test.YtnifdkjffcdhcaaGreatDoorHdE
set_option linter.all false
set_option linter.unusedSimpArgs false
set_option linter.unusedVariables false
namespace Go.Vc.Gd
open Go Go.Proofs Go.Vc
variable {Gl : World → Prop}
theorem plain113n (S : Set Tryz.prog Y Gl) (ws : List (List UInt8)) (hn : ws.length ≤ 1000000) (hs : ∀ w ∈ ws, w.length ≤ 1000000) (hall : ws.all okS = false) : Computes Tryz.prog Gl 113 [L eS ws, I 2] (.ret (.tup [.c (.l eI []), .c (Cb false)])) := by
 refine fn_is S (.r (.ret (.tup [D.c (C.v (Value.slice none 0 0)),D.c (Cb false)])) (.loop (0:Nat) (fun k=>[v 8 (I ↑k),v 7 (B false),v 6 (T.d (D.c (C.v (Value.slice none 0 0))))]) fun k0=>.ff .nil)) Tryz.func113 (by kernel_rfl) (Computes Tryz.prog Gl 138 [L eS ws,I 2] (.ret (.tup [D.c (C.v (Value.slice none 0 0)),D.c (Cb false)]))∧(0=(↑(0:Nat):Int)∧false=false∧Value.slice none 0 0=Value.slice none 0 0)∧∀ (k0:Nat),k0≤(0:Nat)→(0:Nat)≤maxLen→false=false∧(0:Nat)=(0:Nat)∧false=false) (by kernel_rfl) ?_
 simp only [stdS, imp_self, implies_true, and_true]
 exact ⟨numbers138b S ws hn hs hall, by trivial⟩
def plainL (ws : List (List UInt8)) : List Int := bif ws.all okS then ws.map numS else []
def plainB (ws : List (List UInt8)) : Bool := ws.all okS && posTo (ws.map numS) (ws.map numS).length
theorem plainC (S : Set Tryz.prog Y Gl) (ws : List (List UInt8)) (hn : ws.length ≤ 1000000) (hs : ∀ w ∈ ws, w.length ≤ 1000000) : Computes Tryz.prog Gl 113 [L eS ws, I 2] (.ret (.tup [.c (.l eI (plainL ws)), .c (Cb (plainB ws))])) := by
 unfold plainL plainB
 cases h : ws.all okS with
 | true => exact plain113 S ws hn hs h
 | false => exact plain113n S ws hn hs h
theorem plainR (S : Set Tryz.prog Y Gl) (ws : List (List UInt8)) (hn : ws.length ≤ 1000000) (hs : ∀ w ∈ ws, w.length ≤ 1000000) (n : Nat) (f : Nat → List C) (h : SEq n f ws.length (fun i => eS (nth ws i))) : Computes Tryz.prog Gl 113 [.d (.c (.s .n n f)), I 2] (.ret (.tup [.c (.l eI (plainL ws)), .c (Cb (plainB ws))])) :=
 (plainC S ws hn hs).args (show SEq n f ws.length (fun i => eS (nth ws i)) ∧ (2 : Int) = 2 from ⟨h, rfl⟩)
end Go.Vc.Gd
namespace Go.Vc.Gd
open Go Go.Proofs Go.Vc
variable {Gl : World → Prop}
def rowN (r : List UInt8) : List Int := plainL (tl r)
def rowK (r : List UInt8) : Bool := plainB (tl r)
def rowBs (b : Book) (r : List UInt8) : Book :=
 bif (rowN r).length == 7 then ⟨b.comps ++ [compOf (rowN r)], b.dues, b.sheets⟩ else bif hd r == lTable then ⟨b.comps, b.dues ++ [nth (rowN r) 0], b.sheets⟩ else ⟨b.comps, b.dues, b.sheets ++ [nth (rowN r) 0]⟩
def rowOKs (r : List UInt8) : Bool := rowK r && ((rowN r).length == 7 || (rowN r).length == 1)
def bookTos (rows : List (List UInt8)) : Nat → Book
 | 0 => ⟨[], [], []⟩
 | k + 1 => rowBs (bookTos rows k) (nth rows k)
theorem numS_sm {w : List UInt8} (h : okS w = true) (h0 : 0 ≤ numS w) : sm (numS w) := by
 unfold okS at h
 rw [Bool.and_eq_true] at h
 have h1 := h.1
 unfold numS at h0 ⊢
 rw [h1, cond_true] at h0 ⊢
 unfold isS at h1
 rw [Bool.and_eq_true] at h1
 obtain ⟨hl, hd⟩ := digs_spec h1.2
 have hv := val_le (w := bodyOf w) (k := (bodyOf w).length) hl hd
 have e : val (bodyOf w) = valTo (bodyOf w) (bodyOf w).length := rfl
 rw [e] at h0 ⊢
 unfold sgOf at h0 ⊢
 revert h0
 cases minus w with
 | true => intro h0; simp only [cond_true] at h0 ⊢; exact ⟨h0, by omega⟩
 | false => intro h0; simp only [cond_false] at h0 ⊢; exact ⟨h0, by omega⟩
theorem rowN_sm {r : List UInt8} (h : rowK r = true) (i : Nat) : sm (nth (rowN r) i) := by
 rcases Nat.lt_or_ge i (rowN r).length with hi | hi
 ·unfold rowK plainB at h
  rw [Bool.and_eq_true] at h
  unfold rowN plainL at hi ⊢
  rw [h.1, cond_true] at hi ⊢
  have h0 : 0 ≤ nth ((tl r).map numS) i := by
   have key : ∀ k, posTo ((tl r).map numS) k = true → ∀ j, j < k → 0 ≤ nth ((tl r).map numS) j := by
    intro k
    induction k with
    | zero => intro _ j hj; omega
    | succ k ih =>
     intro hk j hj
     unfold posTo at hk
     rw [Bool.and_eq_true, decide_eq_true_eq] at hk
     by_cases hjk : j < k
     ·exact ih hk.1 j hjk
     ·have : j = k := by omega
      rw [this]; exact hk.2
   exact key _ h.2 i hi
  have hm := nth_mem hi
  obtain ⟨w, hw, he⟩ := List.mem_map.1 hm
  rw [← he] at h0 ⊢
  exact numS_sm (List.all_eq_true.1 h.1 w hw) h0
 ·have : nth (rowN r) i = 0 := by
   unfold nth
   rw [List.getD_eq_getElem?_getD, List.getElem?_eq_none hi]
   rfl
  rw [this]
  exact ⟨by decide, by decide⟩
theorem rowBs_c {b : Book} {r : List UInt8} (h : ((rowN r).length == 7) = true) : rowBs b r = ⟨b.comps ++ [compOf (rowN r)], b.dues, b.sheets⟩ := by
 unfold rowBs
 rw [h]; rfl
theorem rowBs_d {b : Book} {r : List UInt8} (h : ((rowN r).length == 7) = false) (h2 : (hd r == lTable) = true) : rowBs b r = ⟨b.comps, b.dues ++ [nth (rowN r) 0], b.sheets⟩ := by
 unfold rowBs
 rw [h, h2]; rfl
theorem rowBs_s {b : Book} {r : List UInt8} (h : ((rowN r).length == 7) = false) (h2 : (hd r == lTable) = false) : rowBs b r = ⟨b.comps, b.dues, b.sheets ++ [nth (rowN r) 0]⟩ := by
 unfold rowBs
 rw [h, h2]; rfl
theorem rowBs_len (b : Book) (r : List UInt8) : (rowBs b r).comps.length + (rowBs b r).dues.length + (rowBs b r).sheets.length = b.comps.length + b.dues.length + b.sheets.length + 1 := by
 cases h7 : ((rowN r).length == 7) with
 | true => rw [rowBs_c h7]; simp only [List.length_append, List.length_singleton]; omega
 | false =>
  cases ht : (hd r == lTable) with
  | true => rw [rowBs_d h7 ht]; simp only [List.length_append, List.length_singleton]; omega
  | false => rw [rowBs_s h7 ht]; simp only [List.length_append, List.length_singleton]; omega
theorem rowBs_sm {b : Book} (h : SmB b) {r : List UInt8} (hr : rowK r = true) : SmB (rowBs b r) := by
 obtain ⟨h1, h2, h3⟩ := h
 cases h7 : ((rowN r).length == 7) with
 | true =>
  rw [rowBs_c h7]
  refine ⟨fun c hc n hn => ?_, h2, h3⟩
  rcases List.mem_append.1 hc with hc | hc
  ·exact h1 c hc n hn
  ·rw [List.mem_singleton.1 hc] at hn
   simp only [lnN, compOf, List.mem_cons, List.not_mem_nil, or_false] at hn
   rcases hn with rfl | rfl | rfl | rfl | rfl | rfl | rfl <;> exact rowN_sm hr _
 | false =>
  cases ht : (hd r == lTable) with
  | true =>
   rw [rowBs_d h7 ht]
   refine ⟨h1, fun n hn => ?_, h3⟩
   rcases List.mem_append.1 hn with hn | hn
   ·exact h2 n hn
   ·rw [List.mem_singleton.1 hn]; exact rowN_sm hr _
  | false =>
   rw [rowBs_s h7 ht]
   refine ⟨h1, h2, fun n hn => ?_⟩
   rcases List.mem_append.1 hn with hn | hn
   ·exact h3 n hn
   ·rw [List.mem_singleton.1 hn]; exact rowN_sm hr _
theorem bookTos_cnt (rows : List (List UInt8)) : ∀ k, (bookTos rows k).comps.length + (bookTos rows k).dues.length + (bookTos rows k).sheets.length = k
 | 0 => rfl
 | k + 1 => by
  have h1 := bookTos_cnt rows k
  have h2 := rowBs_len (bookTos rows k) (nth rows k)
  unfold bookTos; omega
theorem bookTos_sm (rows : List (List UInt8)) : ∀ k, (∀ i, i < k → rowOKs (nth rows i) = true) → SmB (bookTos rows k) ∧ (bookTos rows k).comps.length + (bookTos rows k).dues.length + (bookTos rows k).sheets.length = k
 | 0, _ => ⟨⟨fun c hc => (by cases hc), fun n hn => (by cases hn), fun n hn => (by cases hn)⟩, rfl⟩
 | k + 1, h => by
  obtain ⟨h1, _⟩ := bookTos_sm rows k fun i hi => h i (by omega)
  have hk := h k (by omega)
  unfold rowOKs at hk
  rw [Bool.and_eq_true] at hk
  exact ⟨rowBs_sm h1 hk.1, bookTos_cnt rows (k + 1)⟩
theorem read73 (S : Set Tryz.prog Y Gl) (s : List UInt8) (hs : s.length ≤ 290) (hall : (mid s).all rowOKs = true) (hlow : (bookTos (mid s) (mid s).length).low) (ht : (bookTos (mid s) (mid s).length).text = s) : Computes Tryz.prog Gl 73 [str s] (.ret (.tup [.agg (cBook (bookTos (mid s) (mid s).length)), .c (Cb true)])) := by
 refine fn_is S (.r (.ret (L eS (splitL (10:UInt8) s))) (.loop (List.length (mid s)) (fun k=>v 6 (I (↑((1:Nat)+k):Int))::v 5 (L eS (splitL (10:UInt8) s))::v 4 (ad 4)::v 2 (ad 2)::v 0 (str s)::tk 100 39::tk 101 3::tk 102 3::(bx 2 [C.v (Value.slice none 0 0),C.v (Value.slice none 0 0),C.v (Value.slice none 0 0)] ++ bx 4 [C.lt (100:Nat) eComp (Book.comps (bookTos (mid s) k)),C.lt (101:Nat) eI (Book.dues (bookTos (mid s) k)),C.lt (102:Nat) eI (Book.sheets (bookTos (mid s) k))])) fun k0=>.br (.r (.ret (L eS (splitL (32:UInt8) (nth (splitL (10:UInt8) s) ((1:Nat)+k0))))) (.r (.ret (.tup [D.c (C.l eI (plainL (tl (nth (splitL (10:UInt8) s) ((1:Nat)+k0))))),D.c (Cb (plainB (tl (nth (splitL (10:UInt8) s) ((1:Nat)+k0)))))])) (.br .nil (.br .nil (.br .nil .nil))))) (.r (.ret (str (Book.text (bookTos (mid s) k0)))) (.br .nil .nil)))) Tryz.func73 (by kernel_rfl) (let A0:=fun (k0:Nat)=>(tl (nth (splitL (10:UInt8) s) ((1:Nat)+k0)));let A1:=fun (k0:Nat)=>(↑(List.length (plainL (A0 k0))):Int);let A2:=(splitL (10:UInt8) s);let A3:=fun (k0:Nat)=>(bookTos (mid s) k0);let A4:=(bookTos (mid s) (List.length (mid s)));let A5:=fun (k0:Nat)=>(bif plainB (A0 k0) then (A1 k0)==1 else false);let A6:=fun (k0:Nat)=>(eqB (plainB (A0 k0)) true=true→eqB (plainB (A0 k0)) true=true);let A7:=fun (k0:Nat)=>(bookTos (mid s) (k0+1));let A8:=fun (k0:Nat)=>(splitL (32:UInt8) (nth A2 ((1:Nat)+k0)));let A9:=(SEq (List.length A2) (fun i=>eS (nth A2 i)) (List.length A2) fun i=>eS (nth A2 i));let A10:=fun (k0:Nat)=>(eqB (plainB (A0 k0)) true=true→List.length (plainL (A0 k0))≤maxLen);let A11:=fun (k0:Nat)=>(Value.int IntKind.i64 (nth (plainL (A0 k0)) (Int.toNat (0:Int))));let A12:=fun (k0:Nat)=>(plainB (A0 k0)=true→eqB (plainB (A0 k0)) true=true);let A13:=fun (k0:Nat)=>(↑((1:Nat)+k0):Int);let A14:=fun (k0:Nat)=>(↑(List.length (A8 k0)):Int);let A15:=fun (k0:Nat)=>(eqB (A5 k0) true=true→eqB (A5 k0) true=true);Computes Tryz.prog Gl 112 [str s,T.d (D.c (C.v (Value.int IntKind.u8 (↑(UInt8.toNat (10:UInt8)):Int))))] (.ret (L eS A2))∧(1=(↑((1:Nat)+0):Int)∧A9∧bs s=bs s∧Value.slice none 0 0=Value.slice none 0 0∧Value.slice none 0 0=Value.slice none 0 0∧Value.slice none 0 0=Value.slice none 0 0∧(0:Nat)=(0:Nat)∧(0:Nat)=(0:Nat)∧(0:Nat)=(0:Nat))∧∀ (k0:Nat),k0≤List.length (mid s)→List.length A2≤maxLen→inRange IntKind.i64 ((↑(List.length A2):Int)-2)∧(decide ((↑((1:Nat)+k0):Int)<(↑(List.length (splitL (10:UInt8) s)):Int)-2)=true→(0≤(A13 k0)∧(A13 k0)<(↑(List.length A2):Int))∧Computes Tryz.prog Gl 112 [str (nth A2 ((1:Nat)+k0)),T.d (D.c (C.v (Value.int IntKind.u8 (↑(UInt8.toNat (32:UInt8)):Int))))] (.ret (L eS (A8 k0)))∧((0:Int)≤1∧1≤(A14 k0)∧(A14 k0)≤(A14 k0))∧Computes Tryz.prog Gl 113 [T.d (D.c (C.s Tag.n (Int.toNat ((A14 k0)-1)) fun i=>eS (nth (A8 k0) (Int.toNat (1:Int)+i)))),I 2] (.ret (.tup [D.c (C.l eI (plainL (A0 k0))),D.c (Cb (plainB (A0 k0)))]))∧(A6 k0)∧((A10 k0)→(A6 k0)∧(A12 k0)∧((bif plainB (A0 k0) then (A1 k0)==7 else false)=true→((0:Int)≤0∧0<(A1 k0))∧((0:Int)≤1∧1<(A1 k0))∧((0:Int)≤2∧2<(A1 k0))∧((0:Int)≤3∧3<(A1 k0))∧((0:Int)≤4∧4<(A1 k0))∧((0:Int)≤5∧5<(A1 k0))∧((0:Int)≤6∧6<(A1 k0))∧(List.length (A3 k0).1+1)*56≤140737488355328∧List.length (A3 k0).1+1≤140737488355328∧inRange IntKind.i64 ((A13 k0)+1)∧k0<List.length (mid s)∧(A13 k0)+1=(↑((1:Nat)+(k0+1)):Int)∧A9∧bs s=bs s∧Value.slice none 0 0=Value.slice none 0 0∧Value.slice none 0 0=Value.slice none 0 0∧Value.slice none 0 0=Value.slice none 0 0∧(SEq (List.length (A3 k0).1+1) (catF (List.length (A3 k0).1) (fun i=>eComp (nth (A3 k0).1 i)) fun i=>List.getD [List.map C.dem (List.map C.dem [C.v (A11 k0),C.v (Value.int IntKind.i64 (nth (plainL (A0 k0)) (Int.toNat (1:Int)))),C.v (Value.int IntKind.i64 (nth (plainL (A0 k0)) (Int.toNat (2:Int)))),C.v (Value.int IntKind.i64 (nth (plainL (A0 k0)) (Int.toNat (3:Int)))),C.v (Value.int IntKind.i64 (nth (plainL (A0 k0)) (Int.toNat (4:Int)))),C.v (Value.int IntKind.i64 (nth (plainL (A0 k0)) (Int.toNat (5:Int)))),C.v (Value.int IntKind.i64 (nth (plainL (A0 k0)) (Int.toNat (6:Int))))])] i []) (List.length (A7 k0).1) fun i=>eComp (nth (A7 k0).1 i))∧(SEq (List.length (A3 k0).2) (fun i=>eI (nth (A3 k0).2 i)) (List.length (A7 k0).2) fun i=>eI (nth (A7 k0).2 i))∧SEq (List.length (A3 k0).3) (fun i=>eI (nth (A3 k0).3 i)) (List.length (A7 k0).3) fun i=>eI (nth (A7 k0).3 i))∧((bif plainB (A0 k0) then (A1 k0)==7 else false)=false→(A6 k0)∧((A10 k0)→(A6 k0)∧(A12 k0)∧(A15 k0)∧(eqB (A5 k0) true=true→(0:Int)≤0∧0<(A14 k0))∧(A15 k0)∧(A15 k0)∧((A5 k0)=true→eqB (A5 k0) true=true)∧((bif bif plainB (A0 k0) then (A1 k0)==1 else false then ByteArray.toList (bs (nth (A8 k0) (Int.toNat (0:Int))))==ByteArray.toList (ByteArray.mk #[(116:UInt8),(97:UInt8),(98:UInt8),(108:UInt8),(101:UInt8)]) else false)=true→((0:Int)≤0∧0<(A1 k0))∧(List.length (A3 k0).2+1)*8≤140737488355328∧List.length (A3 k0).2+1≤140737488355328∧inRange IntKind.i64 ((A13 k0)+1)∧k0<List.length (mid s)∧(A13 k0)+1=(↑((1:Nat)+(k0+1)):Int)∧A9∧bs s=bs s∧Value.slice none 0 0=Value.slice none 0 0∧Value.slice none 0 0=Value.slice none 0 0∧Value.slice none 0 0=Value.slice none 0 0∧(SEq (List.length (A3 k0).1) (fun i=>eComp (nth (A3 k0).1 i)) (List.length (A7 k0).1) fun i=>eComp (nth (A7 k0).1 i))∧(SEq (List.length (A3 k0).2+1) (catF (List.length (A3 k0).2) (fun i=>eI (nth (A3 k0).2 i)) fun i=>List.getD [List.map C.dem [C.v (A11 k0)]] i []) (List.length (A7 k0).2) fun i=>eI (nth (A7 k0).2 i))∧SEq (List.length (A3 k0).3) (fun i=>eI (nth (A3 k0).3 i)) (List.length (A7 k0).3) fun i=>eI (nth (A7 k0).3 i))∧((bif bif plainB (A0 k0) then (A1 k0)==1 else false then ByteArray.toList (bs (nth (A8 k0) (Int.toNat (0:Int))))==ByteArray.toList (ByteArray.mk #[(116:UInt8),(97:UInt8),(98:UInt8),(108:UInt8),(101:UInt8)]) else false)=false→(A6 k0)∧((A10 k0)→(A6 k0)∧(A12 k0)∧((A5 k0)=true→((0:Int)≤0∧0<(A1 k0))∧(List.length (A3 k0).3+1)*8≤140737488355328∧List.length (A3 k0).3+1≤140737488355328∧inRange IntKind.i64 ((A13 k0)+1)∧k0<List.length (mid s)∧(A13 k0)+1=(↑((1:Nat)+(k0+1)):Int)∧A9∧bs s=bs s∧Value.slice none 0 0=Value.slice none 0 0∧Value.slice none 0 0=Value.slice none 0 0∧Value.slice none 0 0=Value.slice none 0 0∧(SEq (List.length (A3 k0).1) (fun i=>eComp (nth (A3 k0).1 i)) (List.length (A7 k0).1) fun i=>eComp (nth (A7 k0).1 i))∧(SEq (List.length (A3 k0).2) (fun i=>eI (nth (A3 k0).2 i)) (List.length (A7 k0).2) fun i=>eI (nth (A7 k0).2 i))∧SEq (List.length (A3 k0).3+1) (catF (List.length (A3 k0).3) (fun i=>eI (nth (A3 k0).3 i)) fun i=>List.getD [List.map C.dem [C.v (A11 k0)]] i []) (List.length (A7 k0).3) fun i=>eI (nth (A7 k0).3 i))∧((A5 k0)=false→List.length A4.1=(0:Nat)∧List.length A4.2=(0:Nat)∧List.length A4.3=(0:Nat)∧false=true)))))))∧(decide ((↑((1:Nat)+k0):Int)<(↑(List.length (splitL (10:UInt8) s)):Int)-2)=false→Computes Tryz.prog Gl 71 [tBook (A3 k0)] (.ret (str (Book.text (A3 k0))))∧((!ByteArray.toList (bs (Book.text (A3 k0)))==ByteArray.toList (bs s))=true→List.length A4.1=(0:Nat)∧List.length A4.2=(0:Nat)∧List.length A4.3=(0:Nat)∧false=true)∧((!ByteArray.toList (bs (Book.text (A3 k0)))==ByteArray.toList (bs s))=false→(SEq (List.length (A3 k0).1) (fun i=>eComp (nth (A3 k0).1 i)) (List.length A4.1) fun i=>eComp (nth A4.1 i))∧(SEq (List.length (A3 k0).2) (fun i=>eI (nth (A3 k0).2 i)) (List.length A4.2) fun i=>eI (nth A4.2 i))∧(SEq (List.length (A3 k0).3) (fun i=>eI (nth (A3 k0).3 i)) (List.length A4.3) fun i=>eI (nth A4.3 i))∧true=true))) (by kernel_rfl) ?_
 have hsp := split_pos 10 s
 have hml := mid_len (s := s)
 have eT : ({ data := #[116, 97, 98, 108, 101] } : ByteArray) = bs lTable := rfl
 simp only [stdS, imp_self, implies_true, and_true, eT]
 refine ⟨split112 S s 10 (by omega), ⟨rfl, trivial⟩, fun k0 hk0 _ => ⟨(rng_iff _).2 (by omega), fun hlt => ?_, fun hlt => ?_⟩⟩
 ·have hlt : k0 < (mid s).length := by
   have := of_decide_eq_true hlt
   omega
  have hok : rowOKs (nth (mid s) k0) = true := List.all_eq_true.1 hall _ (nth_mem hlt)
  have hr := row_len hlt
  have hB1 : bookTos (mid s) (k0 + 1) = rowBs (bookTos (mid s) k0) (nth (mid s) k0) := rfl
  have hcnt := bookTos_cnt (mid s) k0
  rw [← mid_nth hlt]
  generalize nth (mid s) k0 = R0 at *
  have hsr := split_pos 32 R0
  have htl := tl_len (r := R0)
  have c7 : (((rowN R0).length : Int) == 7) = ((rowN R0).length == 7) := cast_beq _ 7
  have c1 : (((rowN R0).length : Int) == 1) = ((rowN R0).length == 1) := cast_beq _ 1
  have hn : plainL (tl R0) = rowN R0 := rfl
  have hkk : plainB (tl R0) = rowK R0 := rfl
  unfold rowOKs at hok
  simp only [hd_eq, hn, hkk, c7, c1]
  refine ⟨⟨by omega, by omega⟩, split112 S R0 32 (by omega), ⟨by decide, by omega, by omega⟩, plainR S (tl R0) (by omega) (fun w hw => ?_) _ _ ⟨by omega, fun i hi => .inl ?_⟩, fun _ => ?_⟩
  ·have := piece_len 32 R0 w (List.mem_of_mem_drop hw)
   omega
  ·show eS (nth (splitL 32 R0) (1 + i)) = eS (nth (tl R0) i)
   rw [tl_nth (by omega)]
  rw [Bool.and_eq_true, Bool.or_eq_true] at hok
  simp only [hok.1, Bool.true_and]
  refine ⟨fun h7 => ?_, fun h7 _ => ⟨fun _ => ⟨by omega, by omega⟩, fun ht => ?_, fun ht _ => ⟨fun h1 => ?_, fun h1 => ?_⟩⟩⟩
  ·rw [rowBs_c h7] at hB1
   have h7' : (rowN R0).length = 7 := by simpa using h7
   exact ⟨⟨by omega, by omega⟩, ⟨by omega, by omega⟩, ⟨by omega, by omega⟩, ⟨by omega, by omega⟩, ⟨by omega, by omega⟩, ⟨by omega, by omega⟩, ⟨by omega, by omega⟩, by omega, by omega, (rng_iff _).2 (by omega), hlt, by omega, SEq_push1 (x := compOf (rowN R0)) (by rw [hB1]) rfl, SEq_whole (by rw [hB1]), SEq_whole (by rw [hB1])⟩
  ·rw [Bool.and_eq_true] at ht
   have h1' : (rowN R0).length = 1 := by simpa using ht.1
   rw [rowBs_d h7 ht.2] at hB1
   exact ⟨⟨by omega, by omega⟩, by omega, by omega, (rng_iff _).2 (by omega), hlt, by omega, SEq_whole (by rw [hB1]), SEq_push1 (x := nth (rowN R0) 0) (by rw [hB1]) rfl, SEq_whole (by rw [hB1])⟩
  ·have h1' : (rowN R0).length = 1 := by simpa using h1
   have hnt : (hd R0 == lTable) = false := by
    rw [h1, Bool.true_and] at ht; exact ht
   rw [rowBs_s h7 hnt] at hB1
   exact ⟨⟨by omega, by omega⟩, by omega, by omega, (rng_iff _).2 (by omega), hlt, by omega, SEq_whole (by rw [hB1]), SEq_whole (by rw [hB1]), SEq_push1 (x := nth (rowN R0) 0) (by rw [hB1]) rfl⟩
  ·rw [h7, h1] at hok; simp at hok
 ·have hk : k0 = (mid s).length := by
   have := of_decide_eq_false hlt
   omega
  subst hk
  refine ⟨print71 S _ hlow, fun h => ?_, fun _ => ⟨SEq_whole rfl, SEq_whole rfl, SEq_whole rfl, trivial⟩⟩
  rw [bs_tl, bs_tl, ht, beq_self_eq_true] at h; cases h
theorem read73r (S : Set Tryz.prog Y Gl) (s : List UInt8) (hs : s.length ≤ 290) (hall : (mid s).all rowOKs = true → (bookTos (mid s) (mid s).length).low ∧ (bookTos (mid s) (mid s).length).text ≠ s) : Computes Tryz.prog Gl 73 [str s] (.ret (.tup [.agg [.v (.slice none 0 0), .v (.slice none 0 0), .v (.slice none 0 0)], .c (Cb false)])) := by
 refine fn_is S (.r (.ret (L eS (splitL (10:UInt8) s))) (.loop (upto rowOKs (mid s)) (fun k=>v 6 (I (↑((1:Nat)+k):Int))::v 5 (L eS (splitL (10:UInt8) s))::v 4 (ad 4)::v 2 (ad 2)::v 0 (str s)::tk 100 39::tk 101 3::tk 102 3::(bx 2 [C.v (Value.slice none 0 0),C.v (Value.slice none 0 0),C.v (Value.slice none 0 0)] ++ bx 4 [C.lt (100:Nat) eComp (Book.comps (bookTos (mid s) k)),C.lt (101:Nat) eI (Book.dues (bookTos (mid s) k)),C.lt (102:Nat) eI (Book.sheets (bookTos (mid s) k))])) fun k0=>.br (.r (.ret (L eS (splitL (32:UInt8) (nth (splitL (10:UInt8) s) ((1:Nat)+k0))))) (.r (.ret (.tup [D.c (C.l eI (plainL (tl (nth (splitL (10:UInt8) s) ((1:Nat)+k0))))),D.c (Cb (plainB (tl (nth (splitL (10:UInt8) s) ((1:Nat)+k0)))))])) (.br .nil (.br .nil (.br .nil .nil))))) (.r (.ret (str (Book.text (bookTos (mid s) k0)))) (.br .nil .nil)))) Tryz.func73 (by kernel_rfl) (let A0:=fun (k0:Nat)=>(tl (nth (splitL (10:UInt8) s) ((1:Nat)+k0)));let A1:=fun (k0:Nat)=>(↑(List.length (plainL (A0 k0))):Int);let A2:=(splitL (10:UInt8) s);let A3:=fun (k0:Nat)=>(bif plainB (A0 k0) then (A1 k0)==1 else false);let A4:=fun (k0:Nat)=>(bookTos (mid s) k0);let A5:=fun (k0:Nat)=>(eqB (plainB (A0 k0)) true=true→eqB (plainB (A0 k0)) true=true);let A6:=fun (k0:Nat)=>(bookTos (mid s) (k0+1));let A7:=fun (k0:Nat)=>(splitL (32:UInt8) (nth A2 ((1:Nat)+k0)));let A8:=(SEq (List.length A2) (fun i=>eS (nth A2 i)) (List.length A2) fun i=>eS (nth A2 i));let A9:=fun (k0:Nat)=>(eqB (plainB (A0 k0)) true=true→List.length (plainL (A0 k0))≤maxLen);let A10:=fun (k0:Nat)=>(Value.int IntKind.i64 (nth (plainL (A0 k0)) (Int.toNat (0:Int))));let A11:=fun (k0:Nat)=>(plainB (A0 k0)=true→eqB (plainB (A0 k0)) true=true);let A12:=fun (k0:Nat)=>(↑((1:Nat)+k0):Int);let A13:=fun (k0:Nat)=>(↑(List.length (A7 k0)):Int);let A14:=fun (k0:Nat)=>(eqB (A3 k0) true=true→eqB (A3 k0) true=true);Computes Tryz.prog Gl 112 [str s,T.d (D.c (C.v (Value.int IntKind.u8 (↑(UInt8.toNat (10:UInt8)):Int))))] (.ret (L eS A2))∧(1=(↑((1:Nat)+0):Int)∧A8∧bs s=bs s∧Value.slice none 0 0=Value.slice none 0 0∧Value.slice none 0 0=Value.slice none 0 0∧Value.slice none 0 0=Value.slice none 0 0∧(0:Nat)=(0:Nat)∧(0:Nat)=(0:Nat)∧(0:Nat)=(0:Nat))∧∀ (k0:Nat),k0≤upto rowOKs (mid s)→List.length A2≤maxLen→inRange IntKind.i64 ((↑(List.length A2):Int)-2)∧(decide ((↑((1:Nat)+k0):Int)<(↑(List.length (splitL (10:UInt8) s)):Int)-2)=true→(0≤(A12 k0)∧(A12 k0)<(↑(List.length A2):Int))∧Computes Tryz.prog Gl 112 [str (nth A2 ((1:Nat)+k0)),T.d (D.c (C.v (Value.int IntKind.u8 (↑(UInt8.toNat (32:UInt8)):Int))))] (.ret (L eS (A7 k0)))∧((0:Int)≤1∧1≤(A13 k0)∧(A13 k0)≤(A13 k0))∧Computes Tryz.prog Gl 113 [T.d (D.c (C.s Tag.n (Int.toNat ((A13 k0)-1)) fun i=>eS (nth (A7 k0) (Int.toNat (1:Int)+i)))),I 2] (.ret (.tup [D.c (C.l eI (plainL (A0 k0))),D.c (Cb (plainB (A0 k0)))]))∧(A5 k0)∧((A9 k0)→(A5 k0)∧(A11 k0)∧((bif plainB (A0 k0) then (A1 k0)==7 else false)=true→((0:Int)≤0∧0<(A1 k0))∧((0:Int)≤1∧1<(A1 k0))∧((0:Int)≤2∧2<(A1 k0))∧((0:Int)≤3∧3<(A1 k0))∧((0:Int)≤4∧4<(A1 k0))∧((0:Int)≤5∧5<(A1 k0))∧((0:Int)≤6∧6<(A1 k0))∧(List.length (A4 k0).1+1)*56≤140737488355328∧List.length (A4 k0).1+1≤140737488355328∧inRange IntKind.i64 ((A12 k0)+1)∧k0<upto rowOKs (mid s)∧(A12 k0)+1=(↑((1:Nat)+(k0+1)):Int)∧A8∧bs s=bs s∧Value.slice none 0 0=Value.slice none 0 0∧Value.slice none 0 0=Value.slice none 0 0∧Value.slice none 0 0=Value.slice none 0 0∧(SEq (List.length (A4 k0).1+1) (catF (List.length (A4 k0).1) (fun i=>eComp (nth (A4 k0).1 i)) fun i=>List.getD [List.map C.dem (List.map C.dem [C.v (A10 k0),C.v (Value.int IntKind.i64 (nth (plainL (A0 k0)) (Int.toNat (1:Int)))),C.v (Value.int IntKind.i64 (nth (plainL (A0 k0)) (Int.toNat (2:Int)))),C.v (Value.int IntKind.i64 (nth (plainL (A0 k0)) (Int.toNat (3:Int)))),C.v (Value.int IntKind.i64 (nth (plainL (A0 k0)) (Int.toNat (4:Int)))),C.v (Value.int IntKind.i64 (nth (plainL (A0 k0)) (Int.toNat (5:Int)))),C.v (Value.int IntKind.i64 (nth (plainL (A0 k0)) (Int.toNat (6:Int))))])] i []) (List.length (A6 k0).1) fun i=>eComp (nth (A6 k0).1 i))∧(SEq (List.length (A4 k0).2) (fun i=>eI (nth (A4 k0).2 i)) (List.length (A6 k0).2) fun i=>eI (nth (A6 k0).2 i))∧SEq (List.length (A4 k0).3) (fun i=>eI (nth (A4 k0).3 i)) (List.length (A6 k0).3) fun i=>eI (nth (A6 k0).3 i))∧((bif plainB (A0 k0) then (A1 k0)==7 else false)=false→(A5 k0)∧((A9 k0)→(A5 k0)∧(A11 k0)∧(A14 k0)∧(eqB (A3 k0) true=true→(0:Int)≤0∧0<(A13 k0))∧(A14 k0)∧(A14 k0)∧((A3 k0)=true→eqB (A3 k0) true=true)∧((bif bif plainB (A0 k0) then (A1 k0)==1 else false then ByteArray.toList (bs (nth (A7 k0) (Int.toNat (0:Int))))==ByteArray.toList (ByteArray.mk #[(116:UInt8),(97:UInt8),(98:UInt8),(108:UInt8),(101:UInt8)]) else false)=true→((0:Int)≤0∧0<(A1 k0))∧(List.length (A4 k0).2+1)*8≤140737488355328∧List.length (A4 k0).2+1≤140737488355328∧inRange IntKind.i64 ((A12 k0)+1)∧k0<upto rowOKs (mid s)∧(A12 k0)+1=(↑((1:Nat)+(k0+1)):Int)∧A8∧bs s=bs s∧Value.slice none 0 0=Value.slice none 0 0∧Value.slice none 0 0=Value.slice none 0 0∧Value.slice none 0 0=Value.slice none 0 0∧(SEq (List.length (A4 k0).1) (fun i=>eComp (nth (A4 k0).1 i)) (List.length (A6 k0).1) fun i=>eComp (nth (A6 k0).1 i))∧(SEq (List.length (A4 k0).2+1) (catF (List.length (A4 k0).2) (fun i=>eI (nth (A4 k0).2 i)) fun i=>List.getD [List.map C.dem [C.v (A10 k0)]] i []) (List.length (A6 k0).2) fun i=>eI (nth (A6 k0).2 i))∧SEq (List.length (A4 k0).3) (fun i=>eI (nth (A4 k0).3 i)) (List.length (A6 k0).3) fun i=>eI (nth (A6 k0).3 i))∧((bif bif plainB (A0 k0) then (A1 k0)==1 else false then ByteArray.toList (bs (nth (A7 k0) (Int.toNat (0:Int))))==ByteArray.toList (ByteArray.mk #[(116:UInt8),(97:UInt8),(98:UInt8),(108:UInt8),(101:UInt8)]) else false)=false→(A5 k0)∧((A9 k0)→(A5 k0)∧(A11 k0)∧((A3 k0)=true→((0:Int)≤0∧0<(A1 k0))∧(List.length (A4 k0).3+1)*8≤140737488355328∧List.length (A4 k0).3+1≤140737488355328∧inRange IntKind.i64 ((A12 k0)+1)∧k0<upto rowOKs (mid s)∧(A12 k0)+1=(↑((1:Nat)+(k0+1)):Int)∧A8∧bs s=bs s∧Value.slice none 0 0=Value.slice none 0 0∧Value.slice none 0 0=Value.slice none 0 0∧Value.slice none 0 0=Value.slice none 0 0∧(SEq (List.length (A4 k0).1) (fun i=>eComp (nth (A4 k0).1 i)) (List.length (A6 k0).1) fun i=>eComp (nth (A6 k0).1 i))∧(SEq (List.length (A4 k0).2) (fun i=>eI (nth (A4 k0).2 i)) (List.length (A6 k0).2) fun i=>eI (nth (A6 k0).2 i))∧SEq (List.length (A4 k0).3+1) (catF (List.length (A4 k0).3) (fun i=>eI (nth (A4 k0).3 i)) fun i=>List.getD [List.map C.dem [C.v (A10 k0)]] i []) (List.length (A6 k0).3) fun i=>eI (nth (A6 k0).3 i))∧((A3 k0)=false→Value.slice none 0 0=Value.slice none 0 0∧Value.slice none 0 0=Value.slice none 0 0∧Value.slice none 0 0=Value.slice none 0 0∧false=false)))))))∧(decide ((↑((1:Nat)+k0):Int)<(↑(List.length (splitL (10:UInt8) s)):Int)-2)=false→Computes Tryz.prog Gl 71 [tBook (A4 k0)] (.ret (str (Book.text (A4 k0))))∧((!ByteArray.toList (bs (Book.text (A4 k0)))==ByteArray.toList (bs s))=true→Value.slice none 0 0=Value.slice none 0 0∧Value.slice none 0 0=Value.slice none 0 0∧Value.slice none 0 0=Value.slice none 0 0∧false=false)∧((!ByteArray.toList (bs (Book.text (A4 k0)))==ByteArray.toList (bs s))=false→False∧False∧False∧true=false))) (by kernel_rfl) ?_
 have hule : upto rowOKs (mid s) ≤ (mid s).length := upto_le
 have hatbad : upto rowOKs (mid s) < (mid s).length → rowOKs (nth (mid s) (upto rowOKs (mid s))) = false := fun hbad => upto_at hbad
 have hsp := split_pos 10 s
 have hml := mid_len (s := s)
 have eT : ({ data := #[116, 97, 98, 108, 101] } : ByteArray) = bs lTable := rfl
 simp only [stdS, imp_self, implies_true, and_true, eT]
 refine ⟨split112 S s 10 (by omega), ⟨rfl, trivial⟩, fun k0 hk0 _ => ⟨(rng_iff _).2 (by omega), fun hlt => ?_, fun hlt => ?_⟩⟩
 ·have hlt : k0 < (mid s).length := by
   have := of_decide_eq_true hlt
   omega
  have hok0 : k0 < upto rowOKs (mid s) → rowOKs (nth (mid s) k0) = true := fun h => upto_before h
  have hbd0 : ¬ k0 < upto rowOKs (mid s) → rowOKs (nth (mid s) k0) = false := fun h => by
   have : k0 = upto rowOKs (mid s) := by omega
   rw [this]; exact hatbad (by omega)
  have hok : rowOKs (nth (mid s) k0) = rowOKs (nth (mid s) k0) := rfl
  have hr := row_len hlt
  have hB1 : bookTos (mid s) (k0 + 1) = rowBs (bookTos (mid s) k0) (nth (mid s) k0) := rfl
  have hcnt := bookTos_cnt (mid s) k0
  rw [← mid_nth hlt]
  generalize nth (mid s) k0 = R0 at *
  have hsr := split_pos 32 R0
  have htl := tl_len (r := R0)
  have c7 : (((rowN R0).length : Int) == 7) = ((rowN R0).length == 7) := cast_beq _ 7
  have c1 : (((rowN R0).length : Int) == 1) = ((rowN R0).length == 1) := cast_beq _ 1
  have hn : plainL (tl R0) = rowN R0 := rfl
  have hkk : plainB (tl R0) = rowK R0 := rfl
  simp only [hd_eq, hn, hkk, c7, c1]
  refine ⟨⟨by omega, by omega⟩, split112 S R0 32 (by omega), ⟨by decide, by omega, by omega⟩, plainR S (tl R0) (by omega) (fun w hw => ?_) _ _ ⟨by omega, fun i hi => .inl ?_⟩, fun _ => ?_⟩
  ·have := piece_len 32 R0 w (List.mem_of_mem_drop hw)
   omega
  ·show eS (nth (splitL 32 R0) (1 + i)) = eS (nth (tl R0) i)
   rw [tl_nth (by omega)]
  by_cases hku : k0 < upto rowOKs (mid s)
  ·have hok := hok0 hku
   unfold rowOKs at hok
   rw [Bool.and_eq_true, Bool.or_eq_true] at hok
   simp only [hok.1, Bool.true_and]
   refine ⟨fun h7 => ?_, fun h7 _ => ⟨fun _ => ⟨by omega, by omega⟩, fun ht => ?_, fun ht _ => ⟨fun h1 => ?_, trivial⟩⟩⟩
   ·rw [rowBs_c h7] at hB1
    have h7' : (rowN R0).length = 7 := by simpa using h7
    exact ⟨⟨by omega, by omega⟩, ⟨by omega, by omega⟩, ⟨by omega, by omega⟩, ⟨by omega, by omega⟩, ⟨by omega, by omega⟩, ⟨by omega, by omega⟩, ⟨by omega, by omega⟩, by omega, by omega, (rng_iff _).2 (by omega), hku, by omega, SEq_push1 (x := compOf (rowN R0)) (by rw [hB1]) rfl, SEq_whole (by rw [hB1]), SEq_whole (by rw [hB1])⟩
   ·rw [Bool.and_eq_true] at ht
    have h1' : (rowN R0).length = 1 := by simpa using ht.1
    rw [rowBs_d h7 ht.2] at hB1
    exact ⟨⟨by omega, by omega⟩, by omega, by omega, (rng_iff _).2 (by omega), hku, by omega, SEq_whole (by rw [hB1]), SEq_push1 (x := nth (rowN R0) 0) (by rw [hB1]) rfl, SEq_whole (by rw [hB1])⟩
   ·have h1' : (rowN R0).length = 1 := by simpa using h1
    have hnt : (hd R0 == lTable) = false := by
     rw [h1, Bool.true_and] at ht; exact ht
    rw [rowBs_s h7 hnt] at hB1
    exact ⟨⟨by omega, by omega⟩, by omega, by omega, (rng_iff _).2 (by omega), hku, by omega, SEq_whole (by rw [hB1]), SEq_whole (by rw [hB1]), SEq_push1 (x := nth (rowN R0) 0) (by rw [hB1]) rfl⟩
  ·have hbd := hbd0 hku
   unfold rowOKs at hbd
   refine ⟨fun h => ?_, fun _ _ => ⟨fun h => ?_, fun h => ?_, fun _ _ => ⟨fun h => ?_, trivial⟩⟩⟩
   ·rw [Bool.and_eq_true] at h
    rw [h.1, h.2] at hbd; simp at hbd
   ·omega
   ·rw [Bool.and_eq_true, Bool.and_eq_true] at h
    rw [h.1, h.2.1] at hbd; simp at hbd
   ·rw [Bool.and_eq_true] at h
    rw [h.1, h.2] at hbd; simp at hbd
 ·have hk : k0 = (mid s).length := by
   have := of_decide_eq_false hlt
   omega
  subst hk
  obtain ⟨hlow, ht⟩ := hall (upto_all hk0)
  refine ⟨print71 S _ hlow, fun h => ?_⟩
  rw [bs_tl, bs_tl] at h
  exact absurd (beq_iff_eq.1 h) ht
end Go.Vc.Gd
namespace Go.Vc.Gd
open Go Go.Proofs Go.Vc
variable {Gl : World → Prop}
def exA : Book := ⟨[⟨0, ⟨1, 2⟩, ⟨2, 3⟩, ⟨1, 1⟩⟩, ⟨1, ⟨0, 1⟩, ⟨1, 2⟩, ⟨1, 2⟩⟩, ⟨0, ⟨0, 0⟩, ⟨3, 3⟩, ⟨1, 1⟩⟩], [12, 9], [0, 1]⟩
theorem task75 (S : Set Tryz.prog Y Gl) (x y z : Int) : Computes Tryz.prog Gl 75 [I x, I y, I z] (.ret (.d (.agg [Ci x, Ci y, Ci z]))) := by
 refine fn_is S (.nil) Tryz.func75 (by kernel_rfl) (x=x∧y=y∧z=z) (by kernel_rfl) ?_
 simp only [stdS, imp_self, implies_true, and_true]
theorem span39 (S : Set Tryz.prog Y Gl) (x y : Int) : Computes Tryz.prog Gl 39 [I x, I y] (.ret (.d (.agg [Ci x, Ci y]))) := by
 refine fn_is S (.nil) Tryz.func39 (by kernel_rfl) (x=x∧y=y) (by kernel_rfl) ?_
 simp only [stdS, imp_self, implies_true, and_true]
end Go.Vc.Gd
namespace Go.Vc.Gd
open Go Go.Proofs Go.Vc
variable {Gl : World → Prop}
theorem a74 (S : Set Tryz.prog Y Gl)  : Computes Tryz.prog Gl 74 [] (.ret (tBook exA)) := by
 refine fn_is S (.r (.ret (T.d (D.agg [Ci 1,Ci 2]))) (.r (.ret (T.d (D.agg [Ci 2,Ci 3]))) (.r (.ret (T.d (D.agg [Ci 1,Ci 1]))) (.r (.ret (T.d (D.agg [Ci 0,Ci 1]))) (.r (.ret (T.d (D.agg [Ci 1,Ci 2]))) (.r (.ret (T.d (D.agg [Ci 1,Ci 2]))) (.r (.ret (T.d (D.agg [Ci 3,Ci 3]))) (.r (.ret (T.d (D.agg [Ci 1,Ci 1]))) .nil)))))))) Tryz.func74 (by kernel_rfl) (Computes Tryz.prog Gl 39 [I 1,I 2] (.ret (T.d (D.agg [Ci 1,Ci 2])))∧Computes Tryz.prog Gl 39 [I 2,I 3] (.ret (T.d (D.agg [Ci 2,Ci 3])))∧Computes Tryz.prog Gl 39 [I 1,I 1] (.ret (T.d (D.agg [Ci 1,Ci 1])))∧Computes Tryz.prog Gl 39 [I 0,I 1] (.ret (T.d (D.agg [Ci 0,Ci 1])))∧Computes Tryz.prog Gl 39 [I 1,I 2] (.ret (T.d (D.agg [Ci 1,Ci 2])))∧Computes Tryz.prog Gl 39 [I 1,I 2] (.ret (T.d (D.agg [Ci 1,Ci 2])))∧Computes Tryz.prog Gl 39 [I 3,I 3] (.ret (T.d (D.agg [Ci 3,Ci 3])))∧Computes Tryz.prog Gl 39 [I 1,I 1] (.ret (T.d (D.agg [Ci 1,Ci 1])))∧(SEq (3:Nat) (fun i=>List.getD [List.map C.dem (List.map C.dem [C.v (Value.int IntKind.i64 (0:Int)),C.v (Value.int IntKind.i64 (1:Int)),C.v (Value.int IntKind.i64 (2:Int)),C.v (Value.int IntKind.i64 (2:Int)),C.v (Value.int IntKind.i64 (3:Int)),C.v (Value.int IntKind.i64 (1:Int)),C.v (Value.int IntKind.i64 (1:Int))]),List.map C.dem (List.map C.dem [C.v (Value.int IntKind.i64 (1:Int)),C.v (Value.int IntKind.i64 (0:Int)),C.v (Value.int IntKind.i64 (1:Int)),C.v (Value.int IntKind.i64 (1:Int)),C.v (Value.int IntKind.i64 (2:Int)),C.v (Value.int IntKind.i64 (1:Int)),C.v (Value.int IntKind.i64 (2:Int))]),List.map C.dem (List.map C.dem [C.v (Value.int IntKind.i64 (0:Int)),C.v (Value.int IntKind.i64 (0:Int)),C.v (Value.int IntKind.i64 (0:Int)),C.v (Value.int IntKind.i64 (3:Int)),C.v (Value.int IntKind.i64 (3:Int)),C.v (Value.int IntKind.i64 (1:Int)),C.v (Value.int IntKind.i64 (1:Int))])] i []) (List.length [Comp.mk (0:Int) (Span.mk (1:Int) (2:Int)) (Span.mk (2:Int) (3:Int)) (Span.mk (1:Int) (1:Int)),Comp.mk (1:Int) (Span.mk (0:Int) (1:Int)) (Span.mk (1:Int) (2:Int)) (Span.mk (1:Int) (2:Int)),Comp.mk (0:Int) (Span.mk (0:Int) (0:Int)) (Span.mk (3:Int) (3:Int)) (Span.mk (1:Int) (1:Int))]) fun i=>eComp (nth [Comp.mk (0:Int) (Span.mk (1:Int) (2:Int)) (Span.mk (2:Int) (3:Int)) (Span.mk (1:Int) (1:Int)),Comp.mk (1:Int) (Span.mk (0:Int) (1:Int)) (Span.mk (1:Int) (2:Int)) (Span.mk (1:Int) (2:Int)),Comp.mk (0:Int) (Span.mk (0:Int) (0:Int)) (Span.mk (3:Int) (3:Int)) (Span.mk (1:Int) (1:Int))] i))∧(SEq (2:Nat) (fun i=>List.getD [List.map C.dem [C.v (Value.int IntKind.i64 (12:Int))],List.map C.dem [C.v (Value.int IntKind.i64 (9:Int))]] i []) (List.length [(12:Int),(9:Int)]) fun i=>eI (nth [(12:Int),(9:Int)] i))∧SEq (2:Nat) (fun i=>List.getD [List.map C.dem [C.v (Value.int IntKind.i64 (0:Int))],List.map C.dem [C.v (Value.int IntKind.i64 (1:Int))]] i []) (List.length [(0:Int),(1:Int)]) fun i=>eI (nth [(0:Int),(1:Int)] i)) (by kernel_rfl) ?_
 have three : ∀ i, i < 3 → i = 0 ∨ i = 1 ∨ i = 2 := fun i h => by omega
 have two : ∀ i, i < 2 → i = 0 ∨ i = 1 := fun i h => by omega
 refine ⟨span39 S _ _, span39 S _ _, span39 S _ _, span39 S _ _, span39 S _ _, span39 S _ _, span39 S _ _, span39 S _ _, ⟨rfl, fun i hi => ?_⟩, ⟨rfl, fun i hi => ?_⟩, ⟨rfl, fun i hi => ?_⟩⟩
 ·rcases three i hi with rfl | rfl | rfl <;> exact .inl rfl
 ·rcases two i hi with rfl | rfl <;> exact .inl rfl
 ·rcases two i hi with rfl | rfl <;> exact .inl rfl
end Go.Vc.Gd
namespace Go.Vc.Gd
open Go Go.Proofs Go.Vc
variable {Gl : World → Prop}
def exP : List Task := [⟨0, 1, 2⟩, ⟨1, 2, 0⟩]
def exR : List Task := [⟨1, 2, 0⟩, ⟨0, 1, 2⟩]
theorem p76 (S : Set Tryz.prog Y Gl)  : Computes Tryz.prog Gl 76 [] (.ret (L eTask exP)) := by
 refine fn_is S (.r (.ret (T.d (D.agg [Ci 0,Ci 1,Ci 2]))) (.r (.ret (T.d (D.agg [Ci 1,Ci 2,Ci 0]))) .nil)) Tryz.func76 (by kernel_rfl) (Computes Tryz.prog Gl 75 [I 0,I 1,I 2] (.ret (T.d (D.agg [Ci 0,Ci 1,Ci 2])))∧Computes Tryz.prog Gl 75 [I 1,I 2,I 0] (.ret (T.d (D.agg [Ci 1,Ci 2,Ci 0])))∧SEq (2:Nat) (fun i=>List.getD [List.map C.dem (List.map C.dem [C.v (Value.int IntKind.i64 (0:Int)),C.v (Value.int IntKind.i64 (1:Int)),C.v (Value.int IntKind.i64 (2:Int))]),List.map C.dem (List.map C.dem [C.v (Value.int IntKind.i64 (1:Int)),C.v (Value.int IntKind.i64 (2:Int)),C.v (Value.int IntKind.i64 (0:Int))])] i []) exP.length fun i=>eTask (nth exP i)) (by kernel_rfl) ?_
 have two : ∀ i, i < 2 → i = 0 ∨ i = 1 := fun i h => by omega
 refine ⟨task75 S _ _ _, task75 S _ _ _, ⟨rfl, fun i hi => ?_⟩⟩
 rcases two i hi with rfl | rfl <;> exact .inl rfl
theorem r77 (S : Set Tryz.prog Y Gl)  : Computes Tryz.prog Gl 77 [] (.ret (L eTask exR)) := by
 refine fn_is S (.r (.ret (T.d (D.agg [Ci 1,Ci 2,Ci 0]))) (.r (.ret (T.d (D.agg [Ci 0,Ci 1,Ci 2]))) .nil)) Tryz.func77 (by kernel_rfl) (Computes Tryz.prog Gl 75 [I 1,I 2,I 0] (.ret (T.d (D.agg [Ci 1,Ci 2,Ci 0])))∧Computes Tryz.prog Gl 75 [I 0,I 1,I 2] (.ret (T.d (D.agg [Ci 0,Ci 1,Ci 2])))∧SEq (2:Nat) (fun i=>List.getD [List.map C.dem (List.map C.dem [C.v (Value.int IntKind.i64 (1:Int)),C.v (Value.int IntKind.i64 (2:Int)),C.v (Value.int IntKind.i64 (0:Int))]),List.map C.dem (List.map C.dem [C.v (Value.int IntKind.i64 (0:Int)),C.v (Value.int IntKind.i64 (1:Int)),C.v (Value.int IntKind.i64 (2:Int))])] i []) exR.length fun i=>eTask (nth exR i)) (by kernel_rfl) ?_
 have two : ∀ i, i < 2 → i = 0 ∨ i = 1 := fun i h => by omega
 refine ⟨task75 S _ _ _, task75 S _ _ _, ⟨rfl, fun i hi => ?_⟩⟩
 rcases two i hi with rfl | rfl <;> exact .inl rfl
end Go.Vc.Gd
namespace Go.Vc.Gd
open Go Go.Proofs Go.Vc
variable {Gl : World → Prop}
end Go.Vc.Gd
namespace Go.Vc.Gd
open Go Go.Proofs Go.Vc
variable {Gl : World → Prop}
def Book.right (b : Book) : Bool := bif decide (b.comps.length ≤ 6) && (decide (b.dues.length ≤ 4) && decide (b.sheets.length ≤ 5)) then b.ok else false
end Go.Vc.Gd
namespace Go.Vc.Gd
open Go Go.Proofs Go.Vc
variable {Gl : World → Prop}
end Go.Vc.Gd
namespace Go.Vc.Gd
open Go Go.Proofs Go.Vc
end Go.Vc.Gd
namespace Go.Vc.Gd
open Go Go.Proofs Go.Vc
end Go.Vc.Gd
namespace Go.Vc.Gd
open Go Go.Proofs Go.Vc
theorem outTo_eq (rows : List (List UInt8)) : ∀ k, k ≤ rows.length → outTo rows k = (rows.take k).flatMap fun r => r ++ [10]
 | 0, _ => by simp [outTo]
 | k + 1, h => by
  rw [outTo, outTo_eq rows k (by omega), take_succ (by omega), List.flatMap_append]
  simp
theorem outTo_all (rows : List (List UInt8)) : outTo rows rows.length = rows.flatMap fun r => r ++ [10] := by
 rw [outTo_eq rows _ (Nat.le_refl _), List.take_length]
theorem splitL_rows (c : UInt8) (e : List UInt8) : ∀ (rows : List (List UInt8)), (∀ r ∈ rows, c ∉ r) → splitL c ((rows.flatMap fun r => r ++ [c]) ++ e) = rows ++ splitL c e
 | [], _ => rfl
 | r :: rows, h => by
  have ih := splitL_rows c e rows fun x hx => h x (List.mem_cons_of_mem _ hx)
  rw [List.flatMap_cons, List.append_assoc, List.append_assoc, List.singleton_append, splitL_app c _ _ (h r List.mem_cons_self), ih]
  rfl
theorem dec_small {n : Int} (h : sm n) : dec n = decS n.toNat := by
 obtain ⟨m, rfl⟩ := Int.eq_ofNat_of_zero_le h.1
 have hm : m < 100 := by have := h.2; omega
 exact dec_eq hm
theorem decS_bytes : ∀ n : Nat, n < 100 → (decS n).all isDig = true := by decide
theorem dec_bytes {n : Int} (h : sm n) {c : UInt8} (hc : c ∈ dec n) : isDig c = true := by
 rw [dec_small h] at hc
 exact List.all_eq_true.1 (decS_bytes n.toNat (by have := h.2; have := h.1; omega)) c hc
theorem dec_none {n : Int} (h : sm n) {c : UInt8} (hc : isDig c = false) : c ∉ dec n := fun hh => by
 rw [dec_bytes h hh] at hc; cases hc
theorem splitL_nums (w : List UInt8) (hw : (32 : UInt8) ∉ w) : ∀ (l : List Int), (∀ n ∈ l, sm n) → splitL 32 (w ++ nums l) = w :: l.map dec
 | [], _ => by rw [show nums [] = [] from rfl, List.append_nil, splitL_none 32 w hw]; rfl
 | n :: l, h => by
  have ih := splitL_nums (dec n) (dec_none (h n List.mem_cons_self) rfl) l fun x hx => h x (List.mem_cons_of_mem _ hx)
  have e : nums (n :: l) = 32 :: (dec n ++ nums l) := by unfold nums; simp
  rw [e, splitL_app 32 w _ hw, ih]
  rfl
theorem lnW_no : ∀ l : Ln, (32 : UInt8) ∉ lnW l ∧ (10 : UInt8) ∉ lnW l
 | .head => by show (32 : UInt8) ∉ lGive ∧ (10 : UInt8) ∉ lGive; decide
 | .comp _ => by show (32 : UInt8) ∉ lComputer ∧ (10 : UInt8) ∉ lComputer; decide
 | .due _ => by show (32 : UInt8) ∉ lTable ∧ (10 : UInt8) ∉ lTable; decide
 | .sheet _ => by show (32 : UInt8) ∉ lSheet ∧ (10 : UInt8) ∉ lSheet; decide
theorem nums_no10 : ∀ {l : List Int}, (∀ n ∈ l, sm n) → (10 : UInt8) ∉ nums l
 | [], _ => by simp [nums]
 | n :: l, h => by
  have ih := nums_no10 (l := l) fun x hx => h x (List.mem_cons_of_mem _ hx)
  have e : nums (n :: l) = 32 :: (dec n ++ nums l) := by unfold nums; simp
  have h1 := dec_none (h n List.mem_cons_self) (c := 10) rfl
  rw [e]
  simp only [List.mem_cons, List.mem_append, not_or]
  exact ⟨by decide, h1, ih⟩
theorem lnT_no10 {l : Ln} (h : ∀ n ∈ lnN l, sm n) : (10 : UInt8) ∉ lnT l := by
 unfold lnT
 simp only [List.mem_append, not_or]
 exact ⟨(lnW_no l).2, nums_no10 h⟩
theorem lnT_split {l : Ln} (h : ∀ n ∈ lnN l, sm n) : splitL 32 (lnT l) = lnW l :: (lnN l).map dec := splitL_nums _ (lnW_no l).1 _ h
theorem lnT_tl {l : Ln} (h : ∀ n ∈ lnN l, sm n) : tl (lnT l) = (lnN l).map dec := by unfold tl; rw [lnT_split h]; rfl
theorem lnT_hd {l : Ln} (h : ∀ n ∈ lnN l, sm n) : hd (lnT l) = lnW l := by unfold hd; rw [lnT_split h]; rfl
theorem numV_dec {n : Int} (h : sm n) : numV (dec n) = n := by unfold numV; rw [numOf_dec h]; rfl
theorem isNum_dec {n : Int} (h : sm n) : isNum (dec n) = true := by unfold isNum; rw [numOf_dec h]; rfl
theorem map_numV : ∀ {l : List Int}, (∀ n ∈ l, sm n) → (l.map dec).map numV = l
 | [], _ => rfl
 | n :: l, h => by
  rw [List.map_cons, List.map_cons, numV_dec (h n List.mem_cons_self), map_numV (l := l) fun x hx => h x (List.mem_cons_of_mem _ hx)]
theorem lnT_ns {l : Ln} (h : ∀ n ∈ lnN l, sm n) : ns (lnT l) = lnN l := by
 unfold ns nsTo
 rw [List.take_length, lnT_tl h, map_numV h]
def addLn (b : Book) : Ln → Book
 | .head => b
 | .comp c => ⟨b.comps ++ [c], b.dues, b.sheets⟩
 | .due n => ⟨b.comps, b.dues ++ [n], b.sheets⟩
 | .sheet n => ⟨b.comps, b.dues, b.sheets ++ [n]⟩
def Ln.isHead : Ln → Bool
 | .head => true
 | _ => false
theorem rowOK_ln {l : Ln} (h : ∀ n ∈ lnN l, sm n) (hh : l.isHead = false) : rowOK (lnT l) = true := by
 unfold rowOK rowShape
 rw [lnT_ns h, lnT_hd h, lnT_tl h, Bool.and_eq_true]
 constructor
 ·rw [List.all_eq_true]
  intro x hx
  obtain ⟨n, hn, rfl⟩ := List.mem_map.1 hx
  exact isNum_dec (h n hn)
 ·cases l with
  | head => cases hh
  | comp c => rfl
  | due n => rfl
  | sheet n => rfl
theorem rowB_ln {b : Book} {l : Ln} (h : ∀ n ∈ lnN l, sm n) (hh : l.isHead = false) : rowB b (lnT l) = addLn b l := by
 unfold rowB
 rw [lnT_ns h, lnT_hd h]
 cases l with
 | head => cases hh
 | comp c => rfl
 | due n => rfl
 | sheet n => rfl
theorem bookTo_ln (ls : List Ln) (h : ∀ l ∈ ls, (∀ n ∈ lnN l, sm n) ∧ l.isHead = false) : ∀ k, k ≤ ls.length → bookTo (ls.map lnT) k = (ls.take k).foldl addLn ⟨[], [], []⟩
 | 0, _ => by simp [bookTo]
 | k + 1, hk => by
  have hm := h _ (nth_mem (l := ls) (k := k) (by omega))
  rw [bookTo, bookTo_ln ls h k (by omega), nth_map (by omega), rowB_ln hm.1 hm.2, take_succ (by omega), List.foldl_append]
  rfl
theorem fold_comp : ∀ (l : List Comp) (b : Book), (l.map Ln.comp).foldl addLn b = ⟨b.comps ++ l, b.dues, b.sheets⟩
 | [], b => by simp
 | c :: l, b => by rw [List.map_cons, List.foldl_cons, fold_comp l]; simp [addLn]
theorem fold_due : ∀ (l : List Int) (b : Book), (l.map Ln.due).foldl addLn b = ⟨b.comps, b.dues ++ l, b.sheets⟩
 | [], b => by simp
 | c :: l, b => by rw [List.map_cons, List.foldl_cons, fold_due l]; simp [addLn]
theorem fold_sheet : ∀ (l : List Int) (b : Book), (l.map Ln.sheet).foldl addLn b = ⟨b.comps, b.dues, b.sheets ++ l⟩
 | [], b => by simp
 | c :: l, b => by rw [List.map_cons, List.foldl_cons, fold_sheet l]; simp [addLn]
theorem sumTo_nonneg (w : List UInt8) (i : Nat) : ∀ k, 0 ≤ sumTo w i k
 | 0 => Int.le_refl _
 | k + 1 => by
  have := sumTo_nonneg w i k
  unfold sumTo
  have h2 : (0 : Int) ≤ ((nth w k).toNat : Int) * ((k : Int) + 1) * ((i : Int) + 1) := by
   have : ((nth w k).toNat : Int) * ((k : Int) + 1) * ((i : Int) + 1) = (((nth w k).toNat * (k + 1) * (i + 1) : Nat) : Int) := by push_cast; rfl
   rw [this]; exact Int.natCast_nonneg _
  omega
theorem checkTo_nonneg (rows : List (List UInt8)) : ∀ i, 0 ≤ checkTo rows i
 | 0 => Int.le_refl _
 | i + 1 => by
  have h1 := checkTo_nonneg rows i
  have h2 := sumTo_nonneg (nth rows i) i (nth rows i).length
  unfold checkTo
  omega
theorem checkOf_range (rows : List (List UInt8)) : 0 ≤ checkOf rows ∧ checkOf rows < 251 := by
 have h := checkTo_nonneg rows rows.length
 unfold checkOf
 rw [Int.tmod_eq_emod_of_nonneg h]
 omega
theorem check_digits (rows : List (List UInt8)) : sm (Int.tdiv (checkOf rows) 100) ∧ sm (Int.tmod (Int.tdiv (checkOf rows) 10) 10) ∧ sm (Int.tmod (checkOf rows) 10) := by
 have h := checkOf_range rows
 have h2 : 0 ≤ checkOf rows / 10 := by omega
 unfold sm
 rw [Int.tdiv_eq_ediv_of_nonneg h.1, Int.tdiv_eq_ediv_of_nonneg h.1, Int.tmod_eq_emod_of_nonneg h2, Int.tmod_eq_emod_of_nonneg h.1]
 omega
def sealLn (rows : List (List UInt8)) : List UInt8 := lEnd ++ dec (Int.tdiv (checkOf rows) 100) ++ dec (Int.tmod (Int.tdiv (checkOf rows) 10) 10) ++ dec (Int.tmod (checkOf rows) 10)
theorem sealLn_no (rows : List (List UInt8)) : (10 : UInt8) ∉ sealLn rows := by
 obtain ⟨h1, h2, h3⟩ := check_digits rows
 unfold sealLn
 simp only [List.mem_append, not_or]
 exact ⟨⟨⟨by decide, dec_none h1 rfl⟩, dec_none h2 rfl⟩, dec_none h3 rfl⟩
theorem sealed_split (rows : List (List UInt8)) (h : ∀ r ∈ rows, (10 : UInt8) ∉ r) : splitL 10 (sealed rows) = rows ++ [sealLn rows, []] := by
 have e : sealed rows = (rows.flatMap fun r => r ++ [10]) ++ (sealLn rows ++ 10 :: []) := by
  unfold sealed sealLn
  rw [outTo_all]
  simp only [List.append_assoc]
 rw [e, splitL_rows 10 _ rows h, splitL_app 10 _ _ (sealLn_no rows)]
 rfl
theorem rows_no10 {b : Book} (hb : b.low) : ∀ r ∈ b.rows, (10 : UInt8) ∉ r := by
 intro r hr
 unfold Book.rows at hr
 obtain ⟨l, hl, rfl⟩ := List.mem_map.1 hr
 exact lnT_no10 (hb.n l hl)
def Book.body (b : Book) : List Ln := b.comps.map .comp ++ b.dues.map .due ++ b.sheets.map .sheet
theorem body_head {b : Book} : ∀ l ∈ b.body, l.isHead = false := by
 intro l hl
 unfold Book.body at hl
 simp only [List.mem_append, List.mem_map] at hl
 rcases hl with (⟨_, _, rfl⟩ | ⟨_, _, rfl⟩) | ⟨_, _, rfl⟩ <;> rfl
theorem body_fold (b : Book) : b.body.foldl addLn ⟨[], [], []⟩ = b := by
 unfold Book.body
 rw [List.foldl_append, List.foldl_append, fold_comp, fold_due, fold_sheet]
 simp
theorem text_split {b : Book} (hb : b.low) : splitL 10 b.text = b.rows ++ [sealLn b.rows, []] := sealed_split _ (rows_no10 hb)
theorem rows_cons (b : Book) : b.rows = lnT .head :: b.body.map lnT := rfl
theorem text_mid {b : Book} (hb : b.low) : mid b.text = b.body.map lnT := by
 unfold mid
 rw [text_split hb, rows_cons]
 simp
theorem parse_of_text {b : Book} (hb : b.low) : parse b.text = some b := by
 have hn : ∀ l ∈ b.body, (∀ n ∈ lnN l, sm n) ∧ l.isHead = false := fun l hl => ⟨hb.n l (List.mem_cons_of_mem _ hl), body_head l hl⟩
 have hbook : bookTo (b.body.map lnT) (b.body.map lnT).length = b := by
  rw [List.length_map, bookTo_ln _ hn _ (Nat.le_refl _), List.take_length, body_fold]
 have hall : (b.body.map lnT).all rowOK = true := by
  rw [List.all_eq_true]
  intro r hr
  obtain ⟨l, hl, rfl⟩ := List.mem_map.1 hr
  exact rowOK_ln (hn l hl).1 (hn l hl).2
 have h3 : 3 ≤ (splitL 10 b.text).length := by
  rw [text_split hb, rows_cons]; simp
 unfold parse
 rw [text_mid hb, hbook, hall, decide_eq_true h3, beq_self_eq_true]
 rfl
def numsS (l : List Int) : List UInt8 := l.flatMap fun n => 32 :: decS n.toNat
def Book.rowsS (b : Book) : List (List UInt8) := b.lns.map fun l => lnW l ++ numsS (lnN l)
def sealedS (rows : List (List UInt8)) : List UInt8 := outTo rows rows.length ++ lEnd ++ decS (Int.tdiv (checkOf rows) 100).toNat ++ decS (Int.tmod (Int.tdiv (checkOf rows) 10) 10).toNat ++ decS (Int.tmod (checkOf rows) 10).toNat ++ [10]
theorem nums_S : ∀ {l : List Int}, (∀ n ∈ l, sm n) → nums l = numsS l
 | [], _ => rfl
 | n :: l, h => by
  have ih := nums_S (l := l) fun x hx => h x (List.mem_cons_of_mem _ hx)
  unfold nums numsS at ih ⊢
  rw [List.flatMap_cons, List.flatMap_cons, ih, dec_small (h n List.mem_cons_self)]
theorem rows_S {b : Book} (hb : b.low) : b.rows = b.rowsS := by
 unfold Book.rows Book.rowsS
 refine List.map_congr_left fun l hl => ?_
 unfold lnT
 rw [nums_S (hb.n l hl)]
theorem text_S {b : Book} (hb : b.low) : b.text = sealedS b.rowsS := by
 obtain ⟨h1, h2, h3⟩ := check_digits b.rowsS
 unfold Book.text sealed sealedS
 rw [rows_S hb, dec_small h1, dec_small h2, dec_small h3]
def exT : Book := ⟨[⟨0, ⟨0, 0⟩, ⟨1, 1⟩, ⟨1, 1⟩⟩], [0], [0]⟩
def txT : List UInt8 := [103, 105, 118, 101, 10, 99, 111, 109, 112, 117, 116, 101, 114, 32, 48, 32, 48, 32, 48, 32, 49, 32, 49, 32, 49, 32, 49, 10, 116, 97, 98, 108, 101, 32, 48, 10, 115, 104, 101, 101, 116, 32, 48, 10, 101, 110, 100, 32, 48, 51, 49, 10]
theorem exT_ok : exT.ok = true := by kernel_rfl
theorem exT_low : exT.low := ok_low exT_ok
theorem exT_text : exT.text = txT := by rw [text_S exT_low]; kernel_rfl
theorem parse_txT : parse txT = some exT := by rw [← exT_text]; exact parse_of_text exT_low
end Go.Vc.Gd
namespace Go.Vc.Gd
open Go Go.Proofs Go.Vc
def exW : List Task := [⟨0, 1, 2⟩, ⟨0, 2, 1⟩]
def exTruth : Truth := ⟨[1, 0, 0], [3, 1, 3], [1, 1, 1]⟩
theorem exA_ok : exA.ok = true := by kernel_rfl
theorem exP_good : exA.good exP = true := by kernel_rfl
theorem exR_good : exA.good exR = true := by kernel_rfl
theorem exTruth_ok : exTruth.ok exA = true := by kernel_rfl
theorem exA_sheet0 : exA.isSheet 0 = true := by kernel_rfl
theorem exA_sheet1 : exA.isSheet 1 = true := by kernel_rfl
theorem exA_comp1 : exA.isComp 1 = true := by kernel_rfl
theorem exR_hand : hand (nth exR (Int.toNat 0)) 1 = true := by kernel_rfl
theorem ex_whyS : whyS exA exW = 1 := by kernel_rfl
theorem ex_whyF : whyF exA exW = 4 := by kernel_rfl
theorem ex_whyErr : whyErr exA exW = 0 := by kernel_rfl
theorem ex_days : days exP exTruth (-1) (-1) = [6, 6] := by kernel_rfl
theorem ex_backs : backs exA exP = [⟨5, 8⟩, ⟨6, 11⟩] := by kernel_rfl
theorem ex_tables : tables exA exP = [3, 2] := by kernel_rfl
theorem ex_proof1 : proof1 exA exP = 1 := by kernel_rfl
theorem ex_proof2 : proof2 exA exP = 1 := by kernel_rfl
theorem ex_proof3 : proof3 exA exP = 11 := by kernel_rfl
theorem ex_isProof : isProof exA exP = true := by kernel_rfl
theorem ex_idle : idleTo exP exA.comps.length = [] := by kernel_rfl
theorem ex_losts : losts exA exR 0 1 = [⟨6, 13⟩, ⟨5, 8⟩] := by kernel_rfl
theorem ex_plans : (allPlans exA).length = 4 := by kernel_rfl
theorem ex_first : firstPlan exA = exR := by kernel_rfl
theorem ex_noFirst : noFirst exA = false := by kernel_rfl
theorem ex_count : countTo exA (allPlans exA).length = 1 := by kernel_rfl
theorem ex_best : soonest exA = ⟨exR, 9⟩ := by kernel_rfl
theorem ex_hands : handsTo exA 1 (allPlans exA).length = [0, 1] := by kernel_rfl
theorem ex_plans1 : (allPlans (exA.withOne 1)).length = 64 := by kernel_rfl
theorem ex_best1 : (soonest (exA.withOne 1)).day = 8 := by kernel_rfl
theorem ex_who : sortedOnce (handsTo exA 1 (allPlans exA).length) = [0, 1] := by
 rw [ex_hands]
 unfold sortedOnce
 rw [List.mergeSort_of_pairwise (by decide)]
 rfl
end Go.Vc.Gd
namespace Go.Vc.Gd
open Go Go.Proofs Go.Vc
section
variable {α : Type} [Inhabited α]
end
end Go.Vc.Gd
namespace Go.Vc
theorem Computes.weak {P : Program} {Gl : World → Prop} {f : FuncId} {args : List T} {xs ys : List D} (h : Computes P Gl f args (.ret (.tup xs))) (hl : conjT (leDs xs ys)) : Computes P Gl f args (.ret (.tup ys)) :=
 ⟨h.1, fun vis w vs h1 h2 h3 => (h.2 vis w vs h1 h2 h3).mono fun _ _ ⟨hb, v, vis', he, e1, e2, us, hu, hr⟩ => ⟨hb, v, vis', he, e1, e2, us, hu, leDs_rel (conjT_iff hl) hr⟩⟩
end Go.Vc
namespace Go.Vc.Gd
open Go Go.Proofs Go.Vc
variable {Gl : World → Prop}
section
variable {α : Type} [Inhabited α]
end
end Go.Vc.Gd
namespace Go.Vc.Gd
open Go Go.Proofs Go.Vc
structure LeTr (t t' : Truth) : Prop where
 len : t.post.length = t'.post.length
 post : ∀ i, nth t.post i ≤ nth t'.post i
 sheet : ∀ i, nth t.sheet i ≤ nth t'.sheet i
 look : ∀ i, nth t.look i ≤ nth t'.look i
theorem LeTr.refl (t : Truth) : LeTr t t := ⟨rfl, fun _ => Int.le_refl _, fun _ => Int.le_refl _, fun _ => Int.le_refl _⟩
end Go.Vc.Gd
namespace Go.Vc.Gd
open Go Go.Proofs Go.Vc
section
variable {α : Type} [Inhabited α]
end
end Go.Vc.Gd
namespace Go.Vc.Gd
open Go Go.Proofs Go.Vc
end Go.Vc.Gd
namespace Go.Vc.Gd
open Go Go.Proofs Go.Vc
structure SameTr (n : Nat) (t t' : Truth) : Prop where
 l1 : n ≤ t.post.length
 l2 : n ≤ t'.post.length
 post : ∀ i, i < n → nth t.post i = nth t'.post i
 sheet : ∀ i, i < n → nth t.sheet i = nth t'.sheet i
 look : ∀ i, i < n → nth t.look i = nth t'.look i
end Go.Vc.Gd
namespace Go.Vc.Gd
open Go Go.Proofs Go.Vc
theorem eqL_refl : ∀ l : List Int, eqL l l = true
 | [] => rfl
 | x :: l => by unfold eqL; rw [eqL_refl l]; simp
theorem sameL_refl {α : Type} [Inhabited α] {eq : α → α → Bool} (h : ∀ x, eq x x = true) (l : List α) : sameL eq l l = true := by
 unfold sameL
 rw [beq_self_eq_true, Bool.true_and, List.all_eq_true]
 exact fun i _ => h _
theorem sameI_refl (l : List Int) : sameL (· == ·) l l = true := sameL_refl (fun x => beq_self_eq_true x) l
theorem sameBooks_refl (b : Book) : sameBooks b b = true := by
 unfold sameBooks
 rw [beq_self_eq_true, sameI_refl, sameI_refl, Bool.true_and, Bool.true_and, Bool.true_and, List.all_eq_true]
 exact fun i _ => eqL_refl _
end Go.Vc.Gd
namespace Go.Vc.Gd
open Go Go.Proofs Go.Vc
theorem parse_sm {s : List UInt8} {b : Book} (h : parse s = some b) : SmB b ∧ b.comps.length + b.dues.length + b.sheets.length ≤ (splitL 10 s).length := by
 unfold parse at h
 cases hc : decide (3 ≤ (splitL 10 s).length) && ((mid s).all rowOK && ((bookTo (mid s) (mid s).length).text == s)) with
 | false => rw [hc] at h; cases h
 | true =>
  rw [hc] at h
  obtain rfl := Option.some.inj h
  obtain ⟨h1, h2⟩ := bookTo_sm (mid s) (mid s).length
  refine ⟨h1, ?_⟩
  rw [h2]
  unfold mid
  simp only [List.length_take, List.length_drop]
  omega
end Go.Vc.Gd
namespace Go.Vc.Gd
open Go Go.Proofs Go.Vc
theorem decS_read : ∀ m : Nat, m < 100 → (isS (decS m) && (sgOf (decS m) * val (bodyOf (decS m)) == (m : Int))) = true := by decide
theorem okS_dec {n : Int} (h : sm n) : okS (dec n) = true ∧ numS (dec n) = n := by
 have h2 := decS_read n.toNat (by have := h.2; have := h.1; omega)
 have hn : ((n.toNat : Nat) : Int) = n := by have := h.1; omega
 rw [hn, Bool.and_eq_true, beq_iff_eq, ← dec_small h] at h2
 unfold okS numS
 rw [h2.1, h2.2, decI_pos h.1, beq_self_eq_true]
 exact ⟨rfl, rfl⟩
theorem all_okS {l : List Int} (h : ∀ n ∈ l, sm n) : (l.map dec).all okS = true := by
 rw [List.all_eq_true]
 intro x hx
 obtain ⟨n, hn, rfl⟩ := List.mem_map.1 hx
 exact (okS_dec (h n hn)).1
theorem map_numS : ∀ {l : List Int}, (∀ n ∈ l, sm n) → (l.map dec).map numS = l
 | [], _ => rfl
 | n :: l, h => by
  rw [List.map_cons, List.map_cons, (okS_dec (h n List.mem_cons_self)).2, map_numS (l := l) fun x hx => h x (List.mem_cons_of_mem _ hx)]
theorem posTo_iff (l : List Int) : ∀ k, k ≤ l.length → (posTo l k = true ↔ ∀ i, i < k → 0 ≤ nth l i)
 | 0, _ => by simp [posTo]
 | k + 1, hk => by
  unfold posTo
  rw [Bool.and_eq_true, posTo_iff l k (by omega), decide_eq_true_eq]
  refine ⟨fun h i hi => ?_, fun h => ⟨fun i hi => h i (by omega), h k (by omega)⟩⟩
  by_cases hik : i < k
  ·exact h.1 i hik
  ·have : i = k := by omega
   rw [this]; exact h.2
theorem pos_sm {l : List Int} (h : ∀ n ∈ l, sm n) : posTo l l.length = true := by
 rw [posTo_iff l _ (Nat.le_refl _)]
 exact fun i hi => (h _ (nth_mem hi)).1
theorem lnT_rowN {l : Ln} (h : ∀ n ∈ lnN l, sm n) : rowN (lnT l) = lnN l := by
 unfold rowN plainL
 rw [lnT_tl h, all_okS h, map_numS h]; rfl
theorem lnT_rowK {l : Ln} (h : ∀ n ∈ lnN l, sm n) : rowK (lnT l) = true := by
 unfold rowK plainB
 rw [lnT_tl h, all_okS h, map_numS h, pos_sm h]; rfl
theorem rowOKs_ln {l : Ln} (h : ∀ n ∈ lnN l, sm n) (hh : l.isHead = false) : rowOKs (lnT l) = true := by
 unfold rowOKs
 rw [lnT_rowN h, lnT_rowK h]
 cases l with
 | head => cases hh
 | comp c => rfl
 | due n => rfl
 | sheet n => rfl
theorem rowBs_ln {b : Book} {l : Ln} (h : ∀ n ∈ lnN l, sm n) (hh : l.isHead = false) : rowBs b (lnT l) = addLn b l := by
 unfold rowBs
 rw [lnT_rowN h, lnT_hd h]
 cases l with
 | head => cases hh
 | comp c => rfl
 | due n => rfl
 | sheet n => rfl
theorem bookTos_ln (ls : List Ln) (h : ∀ l ∈ ls, (∀ n ∈ lnN l, sm n) ∧ l.isHead = false) : ∀ k, k ≤ ls.length → bookTos (ls.map lnT) k = (ls.take k).foldl addLn ⟨[], [], []⟩
 | 0, _ => by simp [bookTos]
 | k + 1, hk => by
  have hm := h _ (nth_mem (l := ls) (k := k) (by omega))
  rw [bookTos, bookTos_ln ls h k (by omega), nth_map (by omega), rowBs_ln hm.1 hm.2, take_succ (by omega), List.foldl_append]
  rfl
def readS (s : List UInt8) : Option Book :=
 bif (mid s).all rowOKs && ((bookTos (mid s) (mid s).length).text == s) then some (bookTos (mid s) (mid s).length) else none
theorem readS_of_text {b : Book} (hb : b.low) : readS b.text = some b := by
 have hn : ∀ l ∈ b.body, (∀ n ∈ lnN l, sm n) ∧ l.isHead = false := fun l hl => ⟨hb.n l (List.mem_cons_of_mem _ hl), body_head l hl⟩
 have hbook : bookTos (b.body.map lnT) (b.body.map lnT).length = b := by
  rw [List.length_map, bookTos_ln _ hn _ (Nat.le_refl _), List.take_length, body_fold]
 have hall : (b.body.map lnT).all rowOKs = true := by
  rw [List.all_eq_true]
  intro r hr
  obtain ⟨l, hl, rfl⟩ := List.mem_map.1 hr
  exact rowOKs_ln (hn l hl).1 (hn l hl).2
 unfold readS
 rw [text_mid hb, hbook, hall, beq_self_eq_true]
 rfl
theorem readS_text {s : List UInt8} {b : Book} (h : readS s = some b) : b.text = s ∧ (mid s).all rowOKs = true ∧ b = bookTos (mid s) (mid s).length := by
 unfold readS at h
 cases hc : (mid s).all rowOKs && ((bookTos (mid s) (mid s).length).text == s) with
 | false => rw [hc] at h; cases h
 | true =>
  rw [hc] at h
  obtain rfl := Option.some.inj h
  simp only [Bool.and_eq_true, beq_iff_eq] at hc
  exact ⟨hc.2, hc.1, rfl⟩
theorem parse_eq_readS {s : List UInt8} (hs : s.length ≤ 290) : parse s = readS s := by
 have hsp := split_pos 10 s
 cases hp : parse s with
 | some b =>
  obtain ⟨s1, s2⟩ := parse_sm hp
  have ht := parse_text hp
  have := readS_of_text (s1.low (by omega))
  rw [ht] at this
  exact this.symm
 | none =>
  cases hr : readS s with
  | none => rfl
  | some b =>
   obtain ⟨ht, ha, rfl⟩ := readS_text hr
   obtain ⟨s1, s2⟩ := bookTos_sm (mid s) (mid s).length fun i hi => List.all_eq_true.1 ha _ (nth_mem hi)
   have hml := mid_len (s := s)
   have := parse_of_text (s1.low (by omega))
   rw [ht, hp] at this
   cases this
end Go.Vc.Gd
namespace Go.Vc.Gd
open Go Go.Proofs Go.Vc
variable {Gl : World → Prop}
set_option maxRecDepth 100000
theorem Srf (n : Nat) (f : Nat → List C) : SEq n f n f := (SEq_refl n f).2 trivial
theorem kWhy (S : Set Tryz.prog Y Gl) (f : Nat → List C) (h : SEq 2 f exW.length fun i => eTask (nth exW i)) : Computes Tryz.prog Gl 23 [tBook exA, .d (.c (.s .n 2 f))] (.ret (.tup [.c (Ci 1), .c (Ci 4), .c (Ci 0)])) := by
 have h1 := why23 S exA exW
 rw [ex_whyS, ex_whyF, ex_whyErr] at h1
 exact h1.args ⟨Srf _ _, Srf _ _, Srf _ _, h⟩
theorem kWhen (S : Set Tryz.prog Y Gl) (f g h : Nat → List C) (hf : SEq 3 f exTruth.post.length fun i => eI (nth exTruth.post i)) (hg : SEq 3 g exTruth.sheet.length fun i => eI (nth exTruth.sheet i)) (hh : SEq 3 h exTruth.look.length fun i => eI (nth exTruth.look i)) : Computes Tryz.prog Gl 29 [tBook exA, L eTask exP, .d (.agg [.s .n 3 f, .s .n 3 g, .s .n 3 h])] (.ret (.tup [.c (.l eI [6, 6]), .c (Ci 0)])) := by
 have h1 := when29 S exA exP exTruth exA_ok exP_good exTruth_ok
 rw [ex_days] at h1
 exact h1.args ⟨Srf _ _, Srf _ _, Srf _ _, Srf _ _, hf, hg, hh⟩
theorem kBack (S : Set Tryz.prog Y Gl) : Computes Tryz.prog Gl 28 [tBook exA, L eTask exP] (.ret (.tup [.c (.l eSpan [⟨5, 8⟩, ⟨6, 11⟩]), .c (Ci 0)])) := by
 have h1 := back28 S exA exP exA_ok exP_good
 rw [ex_backs] at h1
 exact h1
theorem kTables (S : Set Tryz.prog Y Gl) : Computes Tryz.prog Gl 38 [tBook exA, L eTask exP] (.ret (.tup [.c (.l eI [3, 2]), .c (Ci 0)])) := by
 have h1 := tables38 S exA exP exA_ok exP_good
 rw [ex_tables] at h1
 exact h1
theorem kProof (S : Set Tryz.prog Y Gl) : Computes Tryz.prog Gl 40 [tBook exA, L eTask exP] (.ret (.tup [.c (Ci 1), .c (Ci 1), .c (Ci 11), .c (Ci 0)])) := by
 have h1 := proof40 S exA exP exA_ok exP_good
 rw [ex_proof1, ex_proof2, ex_proof3, ex_isProof] at h1
 exact h1
theorem kIdle (S : Set Tryz.prog Y Gl) : Computes Tryz.prog Gl 45 [tBook exA, L eTask exP] (.ret (.tup [.c (.l eI []), .c (Ci 0)])) := by
 have h1 := idle45 S exA exP exA_ok exP_good
 rw [ex_idle] at h1
 exact h1
theorem kLost (S : Set Tryz.prog Y Gl) : Computes Tryz.prog Gl 46 [tBook exA, L eTask exR, I 0, I 1] (.ret (.tup [.c (.l eSpan [⟨6, 13⟩, ⟨5, 8⟩]), .c (Ci 0)])) := by
 have h1 := lost46 S exA exR 0 1 exA_ok exR_good exA_sheet0 exA_comp1 exR_hand
 rw [ex_losts] at h1
 exact h1
theorem kFirst (S : Set Tryz.prog Y Gl) : Computes Tryz.prog Gl 49 [tBook exA] (.ret (.tup [.c (.l eTask exR), .c (Ci 0)])) := by
 have h1 := first49 S exA exA_ok
 rw [ex_first, ex_noFirst] at h1
 exact h1
theorem kCount (S : Set Tryz.prog Y Gl) : Computes Tryz.prog Gl 50 [tBook exA] (.ret (.tup [.c (Ci 1), .c (Ci 0)])) := by
 have h1 := count50 S exA exA_ok
 rw [ex_count] at h1
 exact h1
theorem kBest (S : Set Tryz.prog Y Gl) : Computes Tryz.prog Gl 51 [tBook exA] (.ret (.tup [.c (.l eTask exR), .c (Ci 9), .c (Ci 0)])) := by
 have h1 := best51 S exA exA_ok
 rw [ex_best, ex_plans] at h1
 exact h1
theorem kWho (S : Set Tryz.prog Y Gl) : Computes Tryz.prog Gl 57 [tBook exA, I 1] (.ret (.tup [.c (.l eI [0, 1]), .c (Ci 0)])) := by
 have h1 := who57 S exA 1 exA_ok exA_sheet1
 rw [ex_who] at h1
 exact h1
theorem kMore (S : Set Tryz.prog Y Gl) : Computes Tryz.prog Gl 64 [tBook exA, I 1] (.ret (.tup [.c (Ci 8), .c (Ci 0)])) := by
 have h1 := more64 S exA 1 exA_ok exA_comp1 (by decide)
 rw [ex_best1, ex_plans1] at h1
 exact h1
theorem kRead (S : Set Tryz.prog Y Gl) (hG : GlOK Gl) : Computes Tryz.prog Gl 70 [str [103, 105, 118, 101, 10, 99, 111, 109, 112, 117, 116, 101, 114, 32, 48, 32, 48, 32, 48, 32, 49, 32, 49, 32, 49, 32, 49, 10, 116, 97, 98, 108, 101, 32, 48, 10, 115, 104, 101, 101, 116, 32, 48, 10, 101, 110, 100, 32, 48, 51, 49, 10]] (.ret (.tup [.agg (cBook exT), .c (Ci 0)])) := by
 have h1 := read70 S txT exT (by decide) (parsed109some S hG txT (by decide) parse_txT) exT_ok
 exact h1
theorem kSame (S : Set Tryz.prog Y Gl) (f : Nat → List C) (h : SEq 2 f [(6 : Int), 6].length fun i => eI (nth [6, 6] i)) : Computes Tryz.prog Gl 34 [L eI [6, 6], .d (.c (.s .n 2 f))] (.ret (B true)) :=
 (show Computes Tryz.prog Gl 34 [L eI [6, 6], L eI [6, 6]] (.ret (B true)) from same34 S [6, 6] [6, 6]).args ⟨Srf _ _, h⟩
theorem kSame2 (S : Set Tryz.prog Y Gl) (f : Nat → List C) (h : SEq 2 f [(0 : Int), 1].length fun i => eI (nth [0, 1] i)) : Computes Tryz.prog Gl 34 [L eI [0, 1], .d (.c (.s .n 2 f))] (.ret (B true)) :=
 (show Computes Tryz.prog Gl 34 [L eI [0, 1], L eI [0, 1]] (.ret (B true)) from same34 S [0, 1] [0, 1]).args ⟨Srf _ _, h⟩
theorem kSpans (S : Set Tryz.prog Y Gl) (f : Nat → List C) (h : SEq 2 f [(⟨5, 8⟩ : Span), ⟨6, 11⟩].length fun i => eSpan (nth [⟨5, 8⟩, ⟨6, 11⟩] i)) : Computes Tryz.prog Gl 31 [L eSpan [⟨5, 8⟩, ⟨6, 11⟩], .d (.c (.s .n 2 f))] (.ret (B true)) :=
 (show Computes Tryz.prog Gl 31 [L eSpan [⟨5, 8⟩, ⟨6, 11⟩], L eSpan [⟨5, 8⟩, ⟨6, 11⟩]] (.ret (B true)) from sameSpans31 S [⟨5, 8⟩, ⟨6, 11⟩] [⟨5, 8⟩, ⟨6, 11⟩]).args ⟨Srf _ _, h⟩
theorem kSpans2 (S : Set Tryz.prog Y Gl) (f : Nat → List C) (h : SEq 2 f [(⟨6, 13⟩ : Span), ⟨5, 8⟩].length fun i => eSpan (nth [⟨6, 13⟩, ⟨5, 8⟩] i)) : Computes Tryz.prog Gl 31 [L eSpan [⟨6, 13⟩, ⟨5, 8⟩], .d (.c (.s .n 2 f))] (.ret (B true)) :=
 (show Computes Tryz.prog Gl 31 [L eSpan [⟨6, 13⟩, ⟨5, 8⟩], L eSpan [⟨6, 13⟩, ⟨5, 8⟩]] (.ret (B true)) from sameSpans31 S [⟨6, 13⟩, ⟨5, 8⟩] [⟨6, 13⟩, ⟨5, 8⟩]).args ⟨Srf _ _, h⟩
theorem kWords (S : Set Tryz.prog Y Gl) (f : Nat → List C) (h : SEq 2 f [(3 : Int), 2].length fun i => eI (nth [3, 2] i)) : Computes Tryz.prog Gl 41 [L eI [3, 2], .d (.c (.s .n 2 f))] (.ret (B true)) :=
 (show Computes Tryz.prog Gl 41 [L eI [3, 2], L eI [3, 2]] (.ret (B true)) from sameWords41 S [3, 2] [3, 2]).args ⟨Srf _ _, h⟩
theorem kPlans (S : Set Tryz.prog Y Gl) : Computes Tryz.prog Gl 54 [L eTask exR, L eTask exR] (.ret (B true)) := samePlans54 S exR exR
theorem kPrint (S : Set Tryz.prog Y Gl) : Computes Tryz.prog Gl 71 [tBook exT] (.ret (str txT)) := by
 have h1 := print71 S exT exT_low
 rw [exT_text] at h1
 exact h1
theorem known22 (S : Set Tryz.prog Y Gl) (hG : GlOK Gl) : Computes Tryz.prog Gl 22 [] (.ret (B true)) := by
 refine fn_is S (.r (.ret (tBook exA)) (.r (.ret (T.d (D.agg [Ci 0,Ci 1,Ci 2]))) (.r (.ret (T.d (D.agg [Ci 0,Ci 2,Ci 1]))) (.r (.ret (.tup [D.c (Ci 1),D.c (Ci 4),D.c (Ci 0)])) (.r (.ret (tBook exA)) (.r (.ret (L eTask exP)) (.r (.ret (.tup [D.c (C.l eI [(6:Int),(6:Int)]),D.c (Ci 0)])) (.r (.ret (tBook exA)) (.r (.ret (L eTask exP)) (.r (.ret (.tup [D.c (C.l eSpan [Span.mk (5:Int) (8:Int),Span.mk (6:Int) (11:Int)]),D.c (Ci 0)])) (.r (.ret (tBook exA)) (.r (.ret (L eTask exP)) (.r (.ret (.tup [D.c (C.l eI [(3:Int),(2:Int)]),D.c (Ci 0)])) (.r (.ret (tBook exA)) (.r (.ret (L eTask exP)) (.r (.ret (.tup [D.c (Ci 1),D.c (Ci 1),D.c (Ci 11),D.c (Ci 0)])) (.r (.ret (tBook exA)) (.r (.ret (L eTask exP)) (.r (.ret (.tup [D.c (C.l eI []),D.c (Ci 0)])) (.r (.ret (tBook exA)) (.r (.ret (L eTask exR)) (.r (.ret (.tup [D.c (C.l eSpan [Span.mk (6:Int) (13:Int),Span.mk (5:Int) (8:Int)]),D.c (Ci 0)])) (.r (.ret (tBook exA)) (.r (.ret (.tup [D.c (C.l eTask exR),D.c (Ci 0)])) (.r (.ret (tBook exA)) (.r (.ret (.tup [D.c (Ci 1),D.c (Ci 0)])) (.r (.ret (tBook exA)) (.r (.ret (.tup [D.c (C.l eTask exR),D.c (Ci 9),D.c (Ci 0)])) (.r (.ret (tBook exA)) (.r (.ret (.tup [D.c (C.l eI [(0:Int),(1:Int)]),D.c (Ci 0)])) (.r (.ret (tBook exA)) (.r (.ret (.tup [D.c (Ci 8),D.c (Ci 0)])) (.r (.ret (.tup [D.agg (cBook exT),D.c (Ci 0)])) (.sure 115 (.sure 116 (.sure 119 (.sure 120 (.sure 123 (.sure 124 (.sure 127 (.sure 128 (.sure 131 (.sure 132 (.sure 135 (.sure 136 (.sure 139 (.sure 140 (.sure 143 (.sure 144 (.sure 147 (.sure 148 (.sure 151 (.sure 152 (.sure 155 (.sure 156 (.sure 159 (.sure 160 (.ff (.sure 165 (.sure 166 (.sure 169 (.sure 170 (.sure 171 (.r (.ret (B true)) (.sure 172 (.sure 175 (.sure 176 (.r (.ret (T.d (D.agg [Ci 5,Ci 8]))) (.sure 177 (.r (.ret (T.d (D.agg [Ci 6,Ci 11]))) (.sure 178 (.sure 179 (.r (.ret (B true)) (.sure 180 (.sure 183 (.sure 184 (.sure 185 (.r (.ret (B true)) (.sure 186 (.sure 189 (.sure 190 (.sure 193 (.sure 194 (.sure 197 (.sure 198 (.sure 201 (.sure 202 (.sure 203 (.ff (.r (.ret (T.d (D.agg [Ci 6,Ci 13]))) (.r (.ret (T.d (D.agg [Ci 5,Ci 8]))) (.r (.ret (B true)) (.sure 211 (.sure 212 (.r (.ret (L eTask exR)) (.sure 213 (.r (.ret (B true)) (.sure 216 (.sure 217 (.sure 220 (.sure 221 (.r (.ret (L eTask exR)) (.sure 222 (.r (.ret (B true)) (.sure 225 (.sure 226 (.sure 229 (.sure 230 (.sure 231 (.r (.ret (B true)) (.sure 234 (.sure 235 (.sure 238 (.sure 239 (.r (.ret (str txT)) (.sure 240 .nil)))))))))))))))))))))))))))))))))))))))))))))))))))))))))))))))))))))))))))))))))))))))))))))))))))))))))))))))))))) Tryz.func22 (by kernel_rfl) (Computes Tryz.prog Gl 74 [] (.ret (tBook exA))∧Computes Tryz.prog Gl 75 [I 0,I 1,I 2] (.ret (T.d (D.agg [Ci 0,Ci 1,Ci 2])))∧Computes Tryz.prog Gl 75 [I 0,I 2,I 1] (.ret (T.d (D.agg [Ci 0,Ci 2,Ci 1])))∧Computes Tryz.prog Gl 23 [tBook exA,T.d (D.c (C.s Tag.n (2:Nat) fun i=>List.getD [List.map C.dem (List.map C.dem [C.v (Value.int IntKind.i64 (0:Int)),C.v (Value.int IntKind.i64 (1:Int)),C.v (Value.int IntKind.i64 (2:Int))]),List.map C.dem (List.map C.dem [C.v (Value.int IntKind.i64 (0:Int)),C.v (Value.int IntKind.i64 (2:Int)),C.v (Value.int IntKind.i64 (1:Int))])] i []))] (.ret (.tup [D.c (Ci 1),D.c (Ci 4),D.c (Ci 0)]))∧Computes Tryz.prog Gl 74 [] (.ret (tBook exA))∧Computes Tryz.prog Gl 76 [] (.ret (L eTask exP))∧Computes Tryz.prog Gl 29 [tBook exA,L eTask exP,T.d (D.agg [C.s Tag.n (3:Nat) fun i=>List.getD [List.map C.dem [C.v (Value.int IntKind.i64 (1:Int))],List.map C.dem [C.v (Value.int IntKind.i64 (0:Int))],List.map C.dem [C.v (Value.int IntKind.i64 (0:Int))]] i [],C.s Tag.n (3:Nat) fun i=>List.getD [List.map C.dem [C.v (Value.int IntKind.i64 (3:Int))],List.map C.dem [C.v (Value.int IntKind.i64 (1:Int))],List.map C.dem [C.v (Value.int IntKind.i64 (3:Int))]] i [],C.s Tag.n (3:Nat) fun i=>List.getD [List.map C.dem [C.v (Value.int IntKind.i64 (1:Int))],List.map C.dem [C.v (Value.int IntKind.i64 (1:Int))],List.map C.dem [C.v (Value.int IntKind.i64 (1:Int))]] i []])] (.ret (.tup [D.c (C.l eI [(6:Int),(6:Int)]),D.c (Ci 0)]))∧Computes Tryz.prog Gl 74 [] (.ret (tBook exA))∧Computes Tryz.prog Gl 76 [] (.ret (L eTask exP))∧Computes Tryz.prog Gl 28 [tBook exA,L eTask exP] (.ret (.tup [D.c (C.l eSpan [Span.mk (5:Int) (8:Int),Span.mk (6:Int) (11:Int)]),D.c (Ci 0)]))∧Computes Tryz.prog Gl 74 [] (.ret (tBook exA))∧Computes Tryz.prog Gl 76 [] (.ret (L eTask exP))∧Computes Tryz.prog Gl 38 [tBook exA,L eTask exP] (.ret (.tup [D.c (C.l eI [(3:Int),(2:Int)]),D.c (Ci 0)]))∧Computes Tryz.prog Gl 74 [] (.ret (tBook exA))∧Computes Tryz.prog Gl 76 [] (.ret (L eTask exP))∧Computes Tryz.prog Gl 40 [tBook exA,L eTask exP] (.ret (.tup [D.c (Ci 1),D.c (Ci 1),D.c (Ci 11),D.c (Ci 0)]))∧Computes Tryz.prog Gl 74 [] (.ret (tBook exA))∧Computes Tryz.prog Gl 76 [] (.ret (L eTask exP))∧Computes Tryz.prog Gl 45 [tBook exA,L eTask exP] (.ret (.tup [D.c (C.l eI []),D.c (Ci 0)]))∧Computes Tryz.prog Gl 74 [] (.ret (tBook exA))∧Computes Tryz.prog Gl 77 [] (.ret (L eTask exR))∧Computes Tryz.prog Gl 46 [tBook exA,L eTask exR,I 0,I 1] (.ret (.tup [D.c (C.l eSpan [Span.mk (6:Int) (13:Int),Span.mk (5:Int) (8:Int)]),D.c (Ci 0)]))∧Computes Tryz.prog Gl 74 [] (.ret (tBook exA))∧Computes Tryz.prog Gl 49 [tBook exA] (.ret (.tup [D.c (C.l eTask exR),D.c (Ci 0)]))∧Computes Tryz.prog Gl 74 [] (.ret (tBook exA))∧Computes Tryz.prog Gl 50 [tBook exA] (.ret (.tup [D.c (Ci 1),D.c (Ci 0)]))∧Computes Tryz.prog Gl 74 [] (.ret (tBook exA))∧Computes Tryz.prog Gl 51 [tBook exA] (.ret (.tup [D.c (C.l eTask exR),D.c (Ci 9),D.c (Ci 0)]))∧Computes Tryz.prog Gl 74 [] (.ret (tBook exA))∧Computes Tryz.prog Gl 57 [tBook exA,I 1] (.ret (.tup [D.c (C.l eI [(0:Int),(1:Int)]),D.c (Ci 0)]))∧Computes Tryz.prog Gl 74 [] (.ret (tBook exA))∧Computes Tryz.prog Gl 64 [tBook exA,I 1] (.ret (.tup [D.c (Ci 8),D.c (Ci 0)]))∧Computes Tryz.prog Gl 70 [str (have y:=have y:=have y:=[(110:UInt8),(100:UInt8),(32:UInt8),(48:UInt8),(51:UInt8),(49:UInt8),(10:UInt8)]; (101:UInt8)::(116:UInt8)::(32:UInt8)::(48:UInt8)::(10:UInt8)::(101:UInt8)::y; have y:=(101:UInt8)::(32:UInt8)::(48:UInt8)::(10:UInt8)::(115:UInt8)::(104:UInt8)::(101:UInt8)::y; (49:UInt8)::(10:UInt8)::(116:UInt8)::(97:UInt8)::(98:UInt8)::(108:UInt8)::y; have y:=have y:=(32:UInt8)::(49:UInt8)::(32:UInt8)::(49:UInt8)::(32:UInt8)::(49:UInt8)::(32:UInt8)::y; (32:UInt8)::(48:UInt8)::(32:UInt8)::(48:UInt8)::(32:UInt8)::(48:UInt8)::y; have y:=(111:UInt8)::(109:UInt8)::(112:UInt8)::(117:UInt8)::(116:UInt8)::(101:UInt8)::(114:UInt8)::y; (103:UInt8)::(105:UInt8)::(118:UInt8)::(101:UInt8)::(10:UInt8)::(99:UInt8)::y)] (.ret (.tup [D.agg (cBook exT),D.c (Ci 0)]))∧true=true∧true=true∧true=true∧true=true∧true=true∧true=true∧true=true∧true=true∧true=true∧true=true∧true=true∧true=true∧true=true∧true=true∧true=true∧true=true∧true=true∧true=true∧true=true∧true=true∧true=true∧true=true∧true=true∧true=true∧false=false∧true=true∧true=true∧true=true∧true=true∧true=true∧Computes Tryz.prog Gl 34 [L eI [(6:Int),(6:Int)],T.d (D.c (C.s Tag.n (2:Nat) fun i=>List.getD [List.map C.dem [C.v (Value.int IntKind.i64 (6:Int))],List.map C.dem [C.v (Value.int IntKind.i64 (6:Int))]] i []))] (.ret (B true))∧true=true∧true=true∧true=true∧Computes Tryz.prog Gl 39 [I 5,I 8] (.ret (T.d (D.agg [Ci 5,Ci 8])))∧true=true∧Computes Tryz.prog Gl 39 [I 6,I 11] (.ret (T.d (D.agg [Ci 6,Ci 11])))∧true=true∧true=true∧Computes Tryz.prog Gl 31 [L eSpan [Span.mk (5:Int) (8:Int),Span.mk (6:Int) (11:Int)],T.d (D.c (C.s Tag.n (2:Nat) fun i=>List.getD [List.map C.dem (List.map C.dem [C.v (Value.int IntKind.i64 (5:Int)),C.v (Value.int IntKind.i64 (8:Int))]),List.map C.dem (List.map C.dem [C.v (Value.int IntKind.i64 (6:Int)),C.v (Value.int IntKind.i64 (11:Int))])] i []))] (.ret (B true))∧true=true∧true=true∧true=true∧true=true∧Computes Tryz.prog Gl 41 [L eI [(3:Int),(2:Int)],T.d (D.c (C.s Tag.n (2:Nat) fun i=>List.getD [List.map C.dem [C.v (Value.int IntKind.i64 (3:Int))],List.map C.dem [C.v (Value.int IntKind.i64 (2:Int))]] i []))] (.ret (B true))∧true=true∧true=true∧true=true∧true=true∧true=true∧true=true∧true=true∧true=true∧true=true∧((0:Nat)≤maxLen→true=true∧false=false∧Computes Tryz.prog Gl 39 [I 6,I 13] (.ret (T.d (D.agg [Ci 6,Ci 13])))∧Computes Tryz.prog Gl 39 [I 5,I 8] (.ret (T.d (D.agg [Ci 5,Ci 8])))∧Computes Tryz.prog Gl 31 [L eSpan [Span.mk (6:Int) (13:Int),Span.mk (5:Int) (8:Int)],T.d (D.c (C.s Tag.n (2:Nat) fun i=>List.getD [List.map C.dem (List.map C.dem [C.v (Value.int IntKind.i64 (6:Int)),C.v (Value.int IntKind.i64 (13:Int))]),List.map C.dem (List.map C.dem [C.v (Value.int IntKind.i64 (5:Int)),C.v (Value.int IntKind.i64 (8:Int))])] i []))] (.ret (B true))∧true=true∧true=true∧Computes Tryz.prog Gl 77 [] (.ret (L eTask exR))∧true=true∧Computes Tryz.prog Gl 54 [L eTask exR,L eTask exR] (.ret (B true))∧true=true∧true=true∧true=true∧true=true∧Computes Tryz.prog Gl 77 [] (.ret (L eTask exR))∧true=true∧Computes Tryz.prog Gl 54 [L eTask exR,L eTask exR] (.ret (B true))∧true=true∧true=true∧true=true∧true=true∧true=true∧Computes Tryz.prog Gl 34 [L eI [(0:Int),(1:Int)],T.d (D.c (C.s Tag.n (2:Nat) fun i=>List.getD [List.map C.dem [C.v (Value.int IntKind.i64 (0:Int))],List.map C.dem [C.v (Value.int IntKind.i64 (1:Int))]] i []))] (.ret (B true))∧true=true∧true=true∧true=true∧true=true∧Computes Tryz.prog Gl 71 [tBook exT] (.ret (str txT))∧true=true∧true=true)) (by kernel_rfl) ?_
 have two : ∀ i, i < 2 → i = 0 ∨ i = 1 := fun i h => by omega
 have three : ∀ i, i < 3 → i = 0 ∨ i = 1 ∨ i = 2 := fun i h => by omega
 have t : (true = true) := rfl
 repeat' first | with_reducible apply And.intro | with_reducible intro _
 all_goals first
  | exact t
  | exact a74 S
  | exact p76 S
  | exact r77 S
  | exact task75 S _ _ _
  | exact span39 S _ _
  | exact kBack S
  | exact kTables S
  | exact kProof S
  | exact kIdle S
  | exact kLost S
  | exact kFirst S
  | exact kCount S
  | exact kBest S
  | exact kWho S
  | exact kMore S
  | exact kRead S hG
  | exact kPlans S
  | exact kPrint S
  | exact kWhy S _ ⟨rfl, fun i hi => by rcases two i hi with rfl | rfl <;> exact .inl rfl⟩
  | exact kWhen S _ _ _ ⟨rfl, fun i hi => by rcases three i hi with rfl | rfl | rfl <;> exact .inl rfl⟩ ⟨rfl, fun i hi => by rcases three i hi with rfl | rfl | rfl <;> exact .inl rfl⟩ ⟨rfl, fun i hi => by rcases three i hi with rfl | rfl | rfl <;> exact .inl rfl⟩
  | exact kSame S _ ⟨rfl, fun i hi => by rcases two i hi with rfl | rfl <;> exact .inl rfl⟩
  | exact kSame2 S _ ⟨rfl, fun i hi => by rcases two i hi with rfl | rfl <;> exact .inl rfl⟩
  | exact kSpans S _ ⟨rfl, fun i hi => by rcases two i hi with rfl | rfl <;> exact .inl rfl⟩
  | exact kSpans2 S _ ⟨rfl, fun i hi => by rcases two i hi with rfl | rfl <;> exact .inl rfl⟩
  | exact kWords S _ ⟨rfl, fun i hi => by rcases two i hi with rfl | rfl <;> exact .inl rfl⟩
  | rfl
  | skip
end Go.Vc.Gd
namespace Go.Vc.Gd
open Go Go.Proofs Go.Vc
variable {Gl : World → Prop}
theorem bookV (S : Set Tryz.prog Y Gl) (b : Book) {x : Bool} (h : b.ok = x) : Computes Tryz.prog Gl 52 [tBook b] (.ret (B x)) := by
 subst h; exact book52 S b
theorem sameB_T (S : Set Tryz.prog Y Gl) (x : Book) : Computes Tryz.prog Gl 72 [tBook x, tBook x] (.ret (B true)) := by
 have h := sameBooks72 S x x
 rw [sameBooks_refl] at h
 exact h
end Go.Vc.Gd
namespace Go.Vc.Gd
open Go Go.Proofs Go.Vc
variable {Gl : World → Prop}
end Go.Vc.Gd
namespace Go.Vc.Gd
open Go Go.Proofs Go.Vc
structure ProofOK (b : Book) (plan : List Task) (n i : Nat) : Prop where
 hn : n < b.dues.length
 hi : i < plan.length
 on : nth b.sheets i = (n : Int)
 late : nth b.dues n < (nth (backs b plan) i).high
 word : wordAt b plan n ≠ 3
 rows : ∀ m, m < n → wordAt b plan m = 3
 before : ∀ j, j < i → nth b.sheets j = (n : Int) → (nth (backs b plan) j).high ≤ nth b.dues n
end Go.Vc.Gd
namespace Go.Vc.Gd
open Go Go.Proofs Go.Vc
variable {Gl : World → Prop}
set_option maxRecDepth 100000
end Go.Vc.Gd
namespace Go.Vc.Gd
open Go Go.Proofs Go.Vc
variable {Gl : World → Prop}
set_option maxRecDepth 100000
end Go.Vc.Gd
namespace Go.Vc.Gd
open Go Go.Proofs Go.Vc
variable {Gl : World → Prop}
set_option maxRecDepth 100000
end Go.Vc.Gd
