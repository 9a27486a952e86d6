/- A part of the proofs over layer 6 (give): the program and the specification; no condition. -/
import Derived.Test.YtnifdkjffcdhcaaGreatDoorHtE
import Derived.Deep.Slices
import Derived.Deep.Modes
import Derived.OpenShut
import Derived.RowKit
import Derived.Test.YtnifdkjffcdhcaaGreatDoorCards
import Derived.Test.YtnifdkjffcdhcaaGreatDoorTie
import Derived.ProofKit
import Derived.Deep.DeepHandedRow
import Derived.Lib.LaidTab
import Derived.JoinedOf
import Derived.SevenTiedAt
set_option linter.all false
set_option linter.unusedSimpArgs false
set_option linter.unusedVariables false
namespace Go.Vc
open Go Go.ChangeShapes Go.WideShapes Go.Deep Go.RowKit
abbrev all : Nat → Bool := fun _ => true
def FlatT (P : Program) (t : TypeId) (g : List C → Prop) : Prop :=
 ∀ (H : Type) (enc : TypeId × Value → H) (w : World) (base : Nat) (sp : Nat → Bool) (hd : Bool) (fuel : Nat) (cs : List Value) (x : DataW H × List MemPlace),
  DataW.trod enc P w base sp hd fuel t cs = some x → ∃ xs, g xs ∧ ∀ vis w', RepL vis w' xs cs
theorem wf_i64 {n : Int} (h : (Lit.int .i64 n).wf = true) : inRange IntKind.i64 n := by
 simp only [Lit.wf, Bool.and_eq_true, decide_eq_true_eq] at h
 exact h
theorem repL_int (vis : Nat → Nat) (w : World) (n : Int) : RepL vis w [Ci n] [.int .i64 n] :=
 ⟨rfl, fun j c v hc hv => by
  match j, hc, hv with
  | 0, hc, hv =>
   obtain rfl := Option.some.inj hc
   obtain rfl := Option.some.inj hv
   exact .v _ rfl
  | j + 1, hc, _ => cases hc⟩
theorem RepL.app {vis : Nat → Nat} {w : World} {a b : List C} {u v : List Value} (h1 : RepL vis w a u) (h2 : RepL vis w b v) : RepL vis w (a ++ b) (u ++ v) := by
 refine ⟨by rw [List.length_append, List.length_append, h1.1, h2.1], fun j c x hc hx => ?_⟩
 rcases Nat.lt_or_ge j a.length with hj | hj
 ·rw [List.getElem?_append_left hj] at hc
  rw [List.getElem?_append_left (by rw [← h1.1]; exact hj)] at hx
  exact h1.2 j c x hc hx
 ·rw [List.getElem?_append_right hj] at hc
  rw [List.getElem?_append_right (by rw [← h1.1]; exact hj), ← h1.1] at hx
  exact h2.2 _ c x hc hx
theorem RepL.nil (vis : Nat → Nat) (w : World) : RepL vis w [] [] := ⟨rfl, fun j c v hc _ => by cases hc⟩
theorem FlatT.int {P : Program} {t : TypeId} (ht : P.underlying t = some (.int .i64)) : FlatT P t fun xs => ∃ n, inRange IntKind.i64 n ∧ xs = [Ci n] := by
 intro H enc w base sp hd fuel cs x h
 obtain ⟨n, rfl, _, hw⟩ := DataW.trod_int ht h
 exact ⟨_, ⟨n, wf_i64 hw, rfl⟩, fun vis w' => repL_int vis w' n⟩
def FlatF (P : Program) : List Field → Nat → (List C → Prop) → Prop
 | [], _, g => ∀ xs, xs = [] → g xs
 | f :: fs, o, g => f.offset = o ∧ ∃ g1 g2, FlatT P f.type g1 ∧ FlatF P fs (o + P.cellsOf f.type) g2 ∧ ∀ a b, g1 a → g2 b → g (a ++ b)
theorem FlatF.rep {P : Program} {H : Type} {enc : TypeId × Value → H} {w : World} {base : Nat} {sp : Nat → Bool} {hd : Bool} {fuel : Nat} {cs : List Value} :
  ∀ (fs : List Field) (o : Nat) (g : List C → Prop), FlatF P fs o g → (∀ f ∈ fs, ∃ x, DataW.trod enc P w base sp hd fuel f.type ((cs.drop f.offset).take (P.cellsOf f.type)) = some x) →
  cs.length = o + (fs.map fun f => P.cellsOf f.type).sum → ∃ xs, g xs ∧ ∀ vis w', RepL vis w' xs (cs.drop o)
 | [], o, g, hg, _, hl => ⟨[], hg [] rfl, fun vis w' => by
   simp at hl
   rw [List.drop_eq_nil_of_le (by omega)]
   exact .nil vis w'⟩
 | f :: fs, o, g, ⟨ho, g1, g2, h1, h2, hg⟩, hx, hl => by
  obtain ⟨x, hx0⟩ := hx f List.mem_cons_self
  obtain ⟨xs, hx1, hr1⟩ := h1 H enc w base sp hd fuel _ x hx0
  obtain ⟨ys, hy1, hr2⟩ := FlatF.rep fs _ g2 h2 (fun f' hf => hx f' (List.mem_cons_of_mem _ hf)) (by rw [hl, List.map_cons, List.sum_cons]; omega)
  refine ⟨xs ++ ys, hg _ _ hx1 hy1, fun vis w' => ?_⟩
  have := (hr1 vis w').app (hr2 vis w')
  rw [ho] at this
  have e : (cs.drop o).take (P.cellsOf f.type) ++ cs.drop (o + P.cellsOf f.type) = cs.drop o := by
   rw [← List.drop_drop, List.take_append_drop]
  rwa [e] at this
theorem FlatT.struct {P : Program} {t : TypeId} {fs : Array Field} (ht : P.underlying t = some (.struct fs)) {g : List C → Prop} (hf : FlatF P fs.toList 0 g) (hc : P.cellsOf t = (fs.toList.map fun f => P.cellsOf f.type).sum) : FlatT P t g := by
 intro H enc w base sp hd fuel cs x h
 obtain ⟨xs, n, _, _, hl, hlen, hx⟩ := DataW.trod_struct ht h
 have := FlatF.rep (enc := enc) (w := w) (base := base) (sp := sp) (hd := hd) (fuel := n) (cs := cs) fs.toList 0 g hf (fun f hf => by
  obtain ⟨i, hi⟩ := List.getElem?_of_mem hf
  have hi' : fs[i]? = some f := by simpa using hi
  have hlt : i < xs.length := by
   have := (Array.getElem?_eq_some_iff.1 hi').1
   omega
  exact ⟨xs[i], by rw [hx i f hi', List.getElem?_eq_getElem hlt]⟩) (by rw [hl, hc]; omega)
 simpa using this
def Again {H : Type} (enc : TypeId × Value → H) (P : Program) (W : World) (t : TypeId) (cs : List Value) (x : DataW H × List MemPlace) : Prop :=
 ∀ W' sp, Below W.heap.size W W' → (∀ p ∈ x.2, sp p.block = true) → ∃ n, DataW.trod enc P W' 0 sp true n t cs = some x
def ArgC (P : Program) (W : World) (t : TypeId) (v : Value) (G : C → Prop) : Prop :=
 ∀ (H : Type) (enc : TypeId × Value → H) (fuel : Nat) (x : DataW H × List MemPlace), DataW.trod enc P W 0 all true fuel t [v] = some x →
  (∃ c, G c ∧ ∃ K, ∀ vis, (∀ b, b < W.heap.size → K ≤ vis b) → Rep vis W c v) ∧ Again enc P W t [v] x
structure Plain (P : Program) (e : TypeId) : Prop where
 l : laidOutB P = true
 r : P.readableRec e = true
 row : e < P.types.size
 s : P.slicesRec e = false
 i : P.ifacesRec e = false
 v : P.veiledRec e = false
theorem sameAt_below {W W' : World} {B : Nat} (hB : Below B W W') {p : MemPlace} (hp : p.block < B) : W.sameAt W' p := by
 cases p with
 | cell b off =>
  have := hB.block b hp
  show W'.cell? _ = W.cell? _
  unfold World.cell?
  rw [this]
 | map b => exact hB.block b hp
theorem again_plain {P : Program} {e : TypeId} (hp : Plain P e) {H : Type} {enc : TypeId × Value → H} {W : World} {sp : Nat → Bool} {hd : Bool} {n : Nat} {cs : List Value} {x : DataW H × List MemPlace}
  (h : DataW.trod enc P W 0 sp hd n e cs = some x) {W' : World} {sp' : Nat → Bool} {hd' : Bool} (hB : Below W.heap.size W W') : DataW.trod enc P W' 0 sp' hd' n e cs = some x :=
 trod_any hp.l hp.r hp.row hp.s hp.i h (fun p hpp => sameAt_below hB (DataW.trod_lt n _ _ _ h p hpp)) hp.v
theorem has_of_ok {P : Program} {W : World} {b0 : Nat} {t e : TypeId} {a : Addr} {len cap : Nat} (ht : P.underlying t = some (.slice e)) (h : Cell.okWide P W .any b0 t (.slice (some a) len cap)) : a.spot = none ∧ a.block < W.heap.size := by
 unfold Cell.okWide at h
 rw [ht] at h
 simp only at h
 unfold Cell.ok at h
 rw [ht] at h
 simp only at h
 obtain ⟨_, hs, row, cells, hsh, _⟩ := h.2.2
 refine ⟨hs, ?_⟩
 unfold World.shape? at hsh
 rcases Nat.lt_or_ge a.block W.heap.size with hlt | hge
 ·exact hlt
 ·rw [Array.getElem?_eq_none hge] at hsh
  cases hsh
theorem ArgC.slice {P : Program} {W : World} {b0 : Nat} {t e : TypeId} {v : Value} {g : List C → Prop} (ht : P.underlying t = some (.slice e)) (he : FlatT P e g) (hpos : 0 < P.cellsOf e) (hp : Plain P e)
  (hok : Cell.okWide P W .any b0 t v) : ArgC P W t v fun c => ∃ n f, n ≤ maxLen ∧ (∀ i, i < n → g (f i)) ∧ c = .s .n n f := by
 intro H enc fuel x h
 rcases open_slice ht h with ⟨hv, rfl⟩ | ⟨a, len, cap, m, n, D, Pl, hv, hb, hl, hcm, hmm, hx, hel⟩
 ·obtain rfl : v = .slice none 0 0 := by simpa using hv
  refine ⟨⟨_, ⟨0, fun _ => [], Nat.zero_le _, fun i hi => absurd hi (Nat.not_lt_zero _), rfl⟩, 0, fun vis _ => .nil _ _⟩, fun W' sp _ _ => ?_⟩
  have := shut_slice_nil (enc := enc) (P := P) (w := W') (base := 0) (spare := sp) (held := true) ht
  obtain ⟨n, hn⟩ := this
  exact ⟨n, by simpa [Value.cells] using hn⟩
 ·obtain rfl : v = .slice (some a) len cap := by simpa using hv
  obtain ⟨hs, hblk⟩ := has_of_ok ht hok
  have hm : m = cap := by rw [hmm]; rfl
  subst hm
  obtain ⟨b, off, spot⟩ := a
  simp only at hs hblk
  subst hs
  have hcells : ∀ i, i < m → ∃ q : List C × List Value, g q.1 ∧ (∀ vis w', RepL vis w' q.1 q.2) ∧ q.2.length = P.cellsOf e ∧ ∀ j, j < P.cellsOf e → W.cell? ⟨b, off + i * P.cellsOf e + j, none⟩ = q.2[j]? := by
   intro i hi
   obtain ⟨cs', h1, h2⟩ := hel i hi
   obtain ⟨_, hlen, hcell⟩ := World.cells?_some h1
   obtain ⟨xs, hg, hr⟩ := he H enc W 0 all true n cs' _ h2
   refine ⟨(xs, cs'), hg, hr, hlen, fun j hj => ?_⟩
   have := hcell j hj
   rw [add_add, add_plain] at this
   rw [Nat.add_assoc]
   exact this
  obtain ⟨q, hq⟩ := choose_lt (α := List C × List Value) hcells
  refine ⟨⟨_, ⟨len, fun i => (q i).1, by omega, fun i hi => (hq i (by omega)).1, rfl⟩, off + len * P.cellsOf e, fun vis hvis => ?_⟩, fun W' sp hB hsp => ?_⟩
  ·refine .s _ _ _ b off m (P.cellsOf e) (fun i j => ((q i).2[j]?).getD undef) hl hcm (fun i hi => ?_) (hvis b hblk) (fun i j c hi hc => ?_) fun i j c hi hc => ?_
   ·obtain ⟨_, h2, h3, _⟩ := hq i (by omega)
    have := (h2 vis W).1
    omega
   ·obtain ⟨_, h2, h3, h4⟩ := hq i (by omega)
    have hlt : j < (q i).1.length := (List.getElem?_eq_some_iff.1 hc).1
    have hj : j < (q i).2.length := by rw [← (h2 vis W).1]; exact hlt
    rw [h4 j (by omega), List.getElem?_eq_getElem hj]
    rfl
   ·obtain ⟨_, h2, h3, h4⟩ := hq i (by omega)
    have hlt : j < (q i).1.length := (List.getElem?_eq_some_iff.1 hc).1
    have hj : j < (q i).2.length := by rw [← (h2 vis W).1]; exact hlt
    have := (h2 vis W).2 j c _ hc (List.getElem?_eq_getElem hj)
    rw [List.getElem?_eq_getElem hj]
    exact this
  ·have hel' : ∀ i, i < m → ∃ cs n, W'.cells? 0 ((⟨b, off, none⟩ : Addr).add (i * P.cellsOf e)) (P.cellsOf e) = some cs ∧ DataW.trod enc P W' 0 sp true n e cs = some (D i, Pl i) := by
    intro i hi
    obtain ⟨cs', h1, h2⟩ := hel i hi
    refine ⟨cs', n, World.cells?_carry h1 fun p hp => ?_, again_plain hp h2 hB⟩
    obtain ⟨j, _, rfl⟩ := MemPlace.mem_row.1 hp
    refine sameAt_below hB ?_
    show (Addr.add _ _).block < _
    unfold Addr.add
    split <;> exact hblk
   subst hx
   cases hsb : sp b with
   | true =>
    exact shut_slice_whole_cells ht hb hl hcm hsb D Pl hel'
   | false =>
    have h0 : m = 0 := by
     rcases Nat.eq_zero_or_pos m with h | h
     ·exact h
     ·have : (MemPlace.cell b off) ∈ (MemPlace.row (⟨b, off, none⟩ : Addr) (m * P.cellsOf e) ++ (List.range m).flatMap Pl) := by
       refine List.mem_append_left _ (MemPlace.mem_row.2 ⟨0, Nat.mul_pos h hpos, rfl⟩)
      have := hsp _ this
      rw [show (MemPlace.cell b off).block = b from rfl, hsb] at this
      cases this
    subst h0
    obtain rfl : len = 0 := by omega
    obtain ⟨k, hk⟩ := shut_slice_cells (enc := enc) (P := P) (w := W') (base := 0) (spare := sp) (held := true) (t := t) (e := e) (a := ⟨b, off, none⟩) (len := 0) (cap := 0) ht hb (Nat.le_refl _) hcm hsb D Pl (fun i hi => absurd hi (Nat.not_lt_zero _))
    exact ⟨k, by simpa using hk⟩
def ArgT (P : Program) (W : World) (t : TypeId) (v : Value) (G : T → Prop) : Prop :=
 ∀ (H : Type) (enc : TypeId × Value → H) (d : DataW H) (ps : List MemPlace), DataW.Trod enc P W 0 all true t v d ps →
  (∃ x, G x ∧ ∃ K, ∀ vis, (∀ b, b < W.heap.size → K ≤ vis b) → RelT (Gh0 vis) W (Lo W.heap.size) x v) ∧
  ∀ W' sp, Below W.heap.size W W' → (∀ p ∈ ps, sp p.block = true) → DataW.Trod enc P W' 0 sp true t v d ps
theorem ArgC.arg {P : Program} {W : World} {t : TypeId} {v : Value} {G : C → Prop} (h : ArgC P W t v G) (hv : v.cells.toList = [v]) : ArgT P W t v fun x => ∃ c, G c ∧ x = .d (.c c) := by
 intro H enc d ps ⟨fuel, hf⟩
 rw [hv] at hf
 obtain ⟨⟨c, hc, K, hK⟩, ha⟩ := h H enc fuel _ hf
 refine ⟨⟨_, ⟨c, hc, rfl⟩, K, fun vis hvis => ?_⟩, fun W' sp hB hsp => ?_⟩
 ·exact hK vis hvis
 ·obtain ⟨n, hn⟩ := ha W' sp hB hsp
  exact ⟨n, by rw [hv]; exact hn⟩
theorem ArgC.int {P : Program} {W : World} {t : TypeId} {v : Value} (ht : P.underlying t = some (.int .i64)) : ArgC P W t v fun c => ∃ n, inRange IntKind.i64 n ∧ c = Ci n := by
 intro H enc fuel x h
 obtain ⟨n, hv, rfl, hw⟩ := DataW.trod_int ht h
 obtain rfl : v = .int .i64 n := by simpa using hv
 exact ⟨⟨_, ⟨n, wf_i64 hw, rfl⟩, 0, fun vis _ => .v _ rfl⟩, fun W' sp _ _ => ⟨1, by simp [DataW.trod, ht, hw]⟩⟩
theorem ArgC.bool {P : Program} {W : World} {t : TypeId} {v : Value} (ht : P.underlying t = some .bool) : ArgC P W t v fun c => ∃ b, c = Cb b := by
 intro H enc fuel x h
 obtain ⟨b, hv, rfl⟩ := DataW.trod_bool ht h
 obtain rfl : v = .bool b := by simpa using hv
 exact ⟨⟨_, ⟨b, rfl⟩, 0, fun vis _ => .v _ rfl⟩, fun W' sp _ _ => ⟨1, by simp [DataW.trod, ht]⟩⟩
theorem ArgC.string {P : Program} {W : World} {t : TypeId} {v : Value} (ht : P.underlying t = some .string) : ArgC P W t v fun c => ∃ s : ByteArray, s.size ≤ maxLen ∧ c = .v (.string s) := by
 intro H enc fuel x h
 obtain ⟨s, hv, rfl, hs⟩ := DataW.trod_string ht h
 obtain rfl : v = .string s := by simpa using hv
 exact ⟨⟨_, ⟨s, hs, rfl⟩, 0, fun vis _ => .v _ rfl⟩, fun W' sp _ _ => ⟨1, by simp [DataW.trod, ht, hs]⟩⟩
theorem ArgT.struct3 {P : Program} {W : World} {t : TypeId} {f0 f1 f2 : Field} {v0 v1 v2 : Value} {G0 G1 G2 : C → Prop} (ht : P.underlying t = some (.struct #[f0, f1, f2])) (hc : P.cellsOf t = 3)
  (o0 : f0.offset = 0) (o1 : f1.offset = 1) (o2 : f2.offset = 2) (c0 : P.cellsOf f0.type = 1) (c1 : P.cellsOf f1.type = 1) (c2 : P.cellsOf f2.type = 1)
  (h0 : ArgC P W f0.type v0 G0) (h1 : ArgC P W f1.type v1 G1) (h2 : ArgC P W f2.type v2 G2) :
  ArgT P W t (.agg #[v0, v1, v2]) fun x => ∃ a b c, G0 a ∧ G1 b ∧ G2 c ∧ x = .d (.agg [a, b, c]) := by
 intro H enc d ps ⟨fuel, hf⟩
 have hv : (Value.agg #[v0, v1, v2]).cells.toList = [v0, v1, v2] := rfl
 rw [hv] at hf
 obtain ⟨xs, n, _, hx, hl, hlen, hg⟩ := DataW.trod_struct ht hf
 match xs, hlen with
 | [y0, y1, y2], _ =>
  have e0 := hg 0 f0 rfl
  have e1 := hg 1 f1 rfl
  have e2 := hg 2 f2 rfl
  simp [o0, o1, o2, c0, c1, c2] at e0 e1 e2
  obtain ⟨⟨a, ha, K0, hK0⟩, A0⟩ := h0 H enc n _ e0
  obtain ⟨⟨b, hb, K1, hK1⟩, A1⟩ := h1 H enc n _ e1
  obtain ⟨⟨c, hcc, K2, hK2⟩, A2⟩ := h2 H enc n _ e2
  simp only [Prod.mk.injEq] at hx
  obtain ⟨rfl, rfl⟩ := hx
  refine ⟨⟨_, ⟨a, b, c, ha, hb, hcc, rfl⟩, max K0 (max K1 K2), fun vis hvis => ?_⟩, fun W' sp hB hsp => ?_⟩
  ·have k0 := hK0 vis fun b hb => by have := hvis b hb; omega
   have k1 := hK1 vis fun b hb => by have := hvis b hb; omega
   have k2 := hK2 vis fun b hb => by have := hvis b hb; omega
   refine ⟨_, rfl, rfl, fun j c v hc hv => ?_⟩
   match j, hc, hv with
   | 0, hc, hv => obtain rfl := Option.some.inj hc; obtain rfl := Option.some.inj hv; exact k0
   | 1, hc, hv => obtain rfl := Option.some.inj hc; obtain rfl := Option.some.inj hv; exact k1
   | 2, hc, hv => obtain rfl := Option.some.inj hc; obtain rfl := Option.some.inj hv; exact k2
   | j + 3, hc, _ => cases hc
  ·obtain ⟨n0, g0⟩ := A0 W' sp hB fun p hp => hsp p (by simp [hp])
   obtain ⟨n1, g1⟩ := A1 W' sp hB fun p hp => hsp p (by simp [hp])
   obtain ⟨n2, g2⟩ := A2 W' sp hB fun p hp => hsp p (by simp [hp])
   have m0 := DataW.trod_le (Nat.le_max_left n0 (max n1 n2)) g0
   have m1 := DataW.trod_le (Nat.le_trans (Nat.le_max_left n1 n2) (Nat.le_max_right n0 (max n1 n2))) g1
   have m2 := DataW.trod_le (Nat.le_trans (Nat.le_max_right n1 n2) (Nat.le_max_right n0 (max n1 n2))) g2
   have := trod_struct_mk (enc := enc) (w := W') (base := 0) (spare := sp) (held := true) (n := max n0 (max n1 n2)) (cs := [v0, v1, v2]) (xs := [y0, y1, y2]) ht hl (by simp [o0, o1, o2, c0, c1, c2, m0, m1, m2])
   exact ⟨_, by rw [hv]; exact this⟩
inductive ArgsT (P : Program) (W : World) : List TypeId → List Value → (List T → Prop) → Prop
 | nil : ArgsT P W [] [] fun xs => xs = []
 | cons {t : TypeId} {ts : List TypeId} {v : Value} {vs : List Value} {G : T → Prop} {Gs : List T → Prop} (h : ArgT P W t v G) (hs : ArgsT P W ts vs Gs) : ArgsT P W (t :: ts) (v :: vs) fun xs => ∃ x ys, G x ∧ Gs ys ∧ xs = x :: ys
theorem ArgsT.open {P : Program} {W : World} {ts : List TypeId} {vs : List Value} {Gs : List T → Prop} (h : ArgsT P W ts vs Gs) :
  ∀ (H : Type) (enc : TypeId × Value → H) (ds : List (DataW H)) (ps : List MemPlace), DataW.TrodAll enc P W 0 all true ts vs ds ps →
  (∃ xs, Gs xs ∧ ∃ K, ∀ vis, (∀ b, b < W.heap.size → K ≤ vis b) → RelTs (Gh0 vis) W (Lo W.heap.size) xs vs) ∧
  ∀ W' sp, Below W.heap.size W W' → (∀ p ∈ ps, sp p.block = true) → DataW.TrodAll enc P W' 0 sp true ts vs ds ps := by
 induction h with
 | nil =>
  intro H enc ds ps h
  obtain ⟨_, rfl, rfl⟩ := trodAll_nil h
  exact ⟨⟨[], rfl, 0, fun vis _ => rfl⟩, fun W' sp _ _ => trodAll_mk0⟩
 | @cons t ts v vs G Gs h hs ih =>
  intro H enc ds ps ht
  obtain ⟨v', vs', d, ds', p, q, hvs, rfl, rfl, h1, h2⟩ := trodAll_cons ht
  obtain ⟨rfl, rfl⟩ := List.cons.inj hvs
  obtain ⟨⟨x, hx, K1, hK1⟩, A1⟩ := h H enc d p h1
  obtain ⟨⟨xs, hxs, K2, hK2⟩, A2⟩ := ih H enc ds' q h2
  refine ⟨⟨_, ⟨x, xs, hx, hxs, rfl⟩, max K1 K2, fun vis hvis => ?_⟩, fun W' sp hB hsp => ?_⟩
  ·exact ⟨_, _, rfl, hK1 vis fun b hb => by have := hvis b hb; omega, hK2 vis fun b hb => by have := hvis b hb; omega⟩
  ·exact trodAll_cons_mk (A1 W' sp hB fun p hp => hsp p (List.mem_append_left _ hp)) (A2 W' sp hB fun p hp => hsp p (List.mem_append_right _ hp))
end Go.Vc
namespace Go.Vc
open Go Go.ChangeShapes Go.WideShapes Go.Deep Go.RowKit
theorem FlatF.none {P : Program} {o : Nat} : FlatF P [] o fun xs => xs = [] := fun _ h => h
theorem FlatF.cons {P : Program} {f : Field} {fs : List Field} {o o' : Nat} {g1 g2 g : List C → Prop} (ho : f.offset = o) (hc : o + P.cellsOf f.type = o') (h1 : FlatT P f.type g1) (h2 : FlatF P fs o' g2) (hg : ∀ a b, g1 a → g2 b → g (a ++ b)) : FlatF P (f :: fs) o g := by
 subst hc
 exact ⟨ho, g1, g2, h1, h2, hg⟩
theorem ArgT.weak {P : Program} {W : World} {t : TypeId} {v : Value} {G G' : T → Prop} (h : ArgT P W t v G) (hw : ∀ x, G x → ∃ y, G' y ∧ ∀ p ∈ leT x y, p) : ArgT P W t v G' := by
 intro H enc d ps hd
 obtain ⟨⟨x, hx, K, hK⟩, ha⟩ := h H enc d ps hd
 obtain ⟨y, hy, hl⟩ := hw x hx
 exact ⟨⟨y, hy, K, fun vis hvis => leT_rel hl (hK vis hvis)⟩, ha⟩
section
variable {α : Type} [Inhabited α]
theorem list_of {enc : α → List C} {n : Nat} {f : Nat → List C} (h : ∀ i, i < n → ∃ a, f i = enc a) : ∃ l : List α, SEq n f l.length fun i => enc (nth l i) := by
 obtain ⟨g, hg⟩ := choose_lt h
 refine ⟨(List.range n).map g, by simp, fun i hi => .inl ?_⟩
 have e : nth ((List.range n).map g) i = g i := by
  unfold nth
  simp [List.getD, hi]
 show f i = enc (nth ((List.range n).map g) i)
 rw [e]
 exact hg i hi
end
theorem contract {P : Program} {Gl : World → Prop} {H : Type} {enc : TypeId × Value → H} {W : World} {args : Array Value} {ds gs : List (DataW H)} {before : List MemPlace} {f : FuncId} {fn : Func} {s : ChangeSpec} {Gs : List T → Prop} {tb : TypeId} {ts : List TypeId}
  (hb : P.underlying tb = some .bool) (hr : fn.resultTypes = #[tb]) (hv : s.vars = []) (hs : ∀ ds : List (DataW H), ds.length = fn.params.size → s.fn H ds = { results := [.lit (.bool true)], args := ds })
  (hW : DataW.Whole enc P fn.params.toList s.vars false W args.toList ds gs before) (ht : fn.params.toList = ts) (hA : ArgsT P W ts args.toList Gs) (hl : ∀ xs, Gs xs → Computes P Gl f xs (.ret (B true))) (hG : Gl W) :
  Calls P f args W fun e W' => ∃ v, e = .returned v ∧ s.post enc P fn false true false false W args v W' := by
 subst ht
 have hW' := hW
 obtain ⟨p, q, hA0, hV, rfl, hfz, hnd⟩ := hW
 rw [hv] at hV
 obtain ⟨rfl, rfl⟩ := trodVars_none hV
 obtain ⟨⟨xs, hxs, K, hK⟩, again⟩ := hA.open H enc ds p hA0
 have hlen : ds.length = fn.params.size := by
  have : ∀ (ts : List TypeId) (vs : List Value) (ds : List (DataW H)) (p : List MemPlace), DataW.TrodAll enc P W 0 all true ts vs ds p → ds.length = ts.length := by
   intro ts
   induction ts with
   | nil => intro vs ds p h; obtain ⟨_, rfl, _⟩ := trodAll_nil h; rfl
   | cons t ts ih =>
    intro vs ds p h
    obtain ⟨v, vs', d, ds', a, b, rfl, rfl, rfl, _, h2⟩ := trodAll_cons h
    rw [List.length_cons, List.length_cons, ih _ _ _ h2]
  rw [this _ _ _ _ hA0]
  simp
 have hsp := hs ds hlen
 have hc := (hl xs hxs).2 (fun b => if b < W.heap.size then K else 0) W args (fun b hb => if_neg (by omega)) hG (hK _ fun b hb => by rw [if_pos hb]; exact Nat.le_refl _)
 refine hc.mono fun e W' ⟨hB, v, vis', he, _, _, hr'⟩ => ?_
 have hv' : v = .bool true := by
  have hr'' : Rep vis' W' (.v (.bool true)) v := hr'
  cases hr''
  rfl
 subst hv'
 refine ⟨_, he, ds, [], p ++ [], [], p, [], hW', ?_, ?_, ?_, ?_, fun h => by cases h⟩
 ·rw [List.append_nil, hsp, hr]
  exact trodAll_cons_mk (shut_bool hb _) trodAll_mk0
 ·rw [List.append_nil, hsp]
  refine again W' _ hB fun x hx => ?_
  have := hW'.lt x (by simpa using hx)
  simpa using this
 ·rw [List.append_nil, hsp, hv]
  rfl
 ·have := hB.frame (fun x => x ∈ p ++ [] ∧ (x ∈ ([] : List MemPlace) ∨ x ∈ p ∨ x ∈ ([] : List MemPlace)))
  exact this
end Go.Vc
set_option maxRecDepth 100000
namespace Go.Vc.Gd
open Go Go.Proofs Go.Vc Go.Proofs.YtnifdkjffcdhcaaGreatDoor Go.ChangeShapes Go.WideShapes Go.ChangeAt Go.RowKit Go.Deep
theorem cell3 : Tryz.prog.cellsOf 3 = 1 := by kernel_rfl
theorem cell22 : Tryz.prog.cellsOf 22 = 1 := by kernel_rfl
theorem cell23 : Tryz.prog.cellsOf 23 = 1 := by kernel_rfl
theorem cell25 : Tryz.prog.cellsOf 25 = 3 := by kernel_rfl
theorem cell37 : Tryz.prog.cellsOf 37 = 2 := by kernel_rfl
theorem cell39 : Tryz.prog.cellsOf 39 = 7 := by kernel_rfl
theorem laidOut : laidOutB Tryz.prog = true := by kernel_rfl
theorem plain3 : Plain Tryz.prog 3 := ⟨laidOut, by kernel_rfl, Nat.le_of_ble_eq_true (by kernel_rfl), by kernel_rfl, by kernel_rfl, by kernel_rfl⟩
theorem plain39 : Plain Tryz.prog 39 := ⟨laidOut, by kernel_rfl, Nat.le_of_ble_eq_true (by kernel_rfl), by kernel_rfl, by kernel_rfl, by kernel_rfl⟩
theorem flatI : FlatT Tryz.prog 3 fun xs => ∃ n, inRange IntKind.i64 n ∧ xs = [Ci n] := .int Tryz.underlying3
theorem flatSpan : FlatT Tryz.prog 37 fun xs => ∃ s : Span, xs = eSpan s :=
 .struct Tryz.underlying37 (.cons (o' := 1) rfl (by rw [cell3]) flatI (.cons (o' := 2) (g := fun xs => ∃ n, xs = [Ci n]) rfl (by rw [cell3]) flatI .none (fun _ _ ⟨n, _, h⟩ h2 => ⟨n, by rw [h, h2]; rfl⟩)) (fun _ _ ⟨n, _, h⟩ ⟨m, h2⟩ => ⟨⟨n, m⟩, by rw [h, h2]; rfl⟩)) (by
  show Tryz.prog.cellsOf 37 = Tryz.prog.cellsOf 3 + (Tryz.prog.cellsOf 3 + 0)
  rw [cell37, cell3])
theorem flatComp : FlatT Tryz.prog 39 fun xs => ∃ c : Comp, xs = eComp c :=
 .struct Tryz.underlying39 (.cons (o' := 1) rfl (by rw [cell3]) flatI (.cons (o' := 3) (g := fun xs => ∃ a b c : Span, xs = eSpan a ++ (eSpan b ++ eSpan c)) rfl (by rw [cell37]) flatSpan
  (.cons (o' := 5) (g := fun xs => ∃ a b : Span, xs = eSpan a ++ eSpan b) rfl (by rw [cell37]) flatSpan (.cons (o' := 7) (g := fun xs => ∃ a : Span, xs = eSpan a) rfl (by rw [cell37]) flatSpan .none (fun _ _ ⟨a, h⟩ h2 => ⟨a, by rw [h, h2]; rfl⟩))
   (fun _ _ ⟨a, h⟩ ⟨b, h2⟩ => ⟨a, b, by rw [h, h2]⟩)) (fun _ _ ⟨a, h⟩ ⟨b, c, h2⟩ => ⟨a, b, c, by rw [h, h2]⟩)) (fun _ _ ⟨n, _, h⟩ ⟨a, b, c, h2⟩ => ⟨⟨n, a, b, c⟩, by rw [h, h2]; rfl⟩)) (by
  show Tryz.prog.cellsOf 39 = Tryz.prog.cellsOf 3 + (Tryz.prog.cellsOf 37 + (Tryz.prog.cellsOf 37 + (Tryz.prog.cellsOf 37 + 0)))
  rw [cell39, cell37, cell3])
section
variable {W : World} {b0 : Nat} {v : Value}
theorem row3 {t u0 u1 u2 : TypeId} {fs : Array Field} (hu : Tryz.prog.underlying t = some (.struct fs)) (hc : Tryz.prog.cellsOf t = 3) (hts : Tryz.prog.cellTypes Tryz.prog.depth t = some [u0, u1, u2]) (h : Value.okWide Tryz.prog W .any b0 t v) :
  ∃ v0 v1 v2, v = .agg #[v0, v1, v2] ∧ Cell.okWide Tryz.prog W .any b0 u0 v0 ∧ Cell.okWide Tryz.prog W .any b0 u1 v1 ∧ Cell.okWide Tryz.prog W .any b0 u2 v2 := by
 unfold Value.okWide at h
 rw [hu] at h
 simp only at h
 obtain ⟨cs, rfl, hsz, ts, hts', _, hall⟩ := h
 rw [hts] at hts'
 obtain rfl := Option.some.inj hts'
 rw [hc] at hsz
 obtain ⟨l⟩ := cs
 match l, hsz with
 | [v0, v1, v2], _ =>
  obtain ⟨w0, e0, k0⟩ := hall 0 v0 rfl
  obtain ⟨w1, e1, k1⟩ := hall 1 v1 rfl
  obtain ⟨w2, e2, k2⟩ := hall 2 v2 rfl
  obtain rfl := Option.some.inj e0
  obtain rfl := Option.some.inj e1
  obtain rfl := Option.some.inj e2
  exact ⟨v0, v1, v2, rfl, k0, k1, k2⟩
theorem argInts (h : Cell.okWide Tryz.prog W .any b0 23 v) : ArgC Tryz.prog W 23 v fun c => ∃ n f, n ≤ maxLen ∧ (∀ i, i < n → ∃ k, inRange IntKind.i64 k ∧ f i = [Ci k]) ∧ c = .s .n n f := .slice Tryz.underlying23 flatI (by rw [cell3]; decide) plain3 h
theorem argComps (h : Cell.okWide Tryz.prog W .any b0 22 v) : ArgC Tryz.prog W 22 v fun c => ∃ n f, n ≤ maxLen ∧ (∀ i, i < n → ∃ k : Comp, f i = eComp k) ∧ c = .s .n n f := .slice Tryz.underlying22 flatComp (by rw [cell39]; decide) plain39 h
theorem intsOf {n : Nat} {f : Nat → List C} (h : ∀ i, i < n → ∃ k, inRange IntKind.i64 k ∧ f i = [Ci k]) : ∃ l : List Int, SEq n f l.length fun i => eI (nth l i) := list_of fun i hi => by
 obtain ⟨k, _, hk⟩ := h i hi
 exact ⟨k, hk⟩
theorem argBook (h : Value.okWide Tryz.prog W .any b0 25 v) : ArgT Tryz.prog W 25 v fun x => ∃ b : Book, x = tBook b := by
 obtain ⟨v0, v1, v2, rfl, k0, k1, k2⟩ := row3 (u0 := 22) (u1 := 23) (u2 := 23) Tryz.underlying25 cell25 (by kernel_rfl) h
 refine (ArgT.struct3 Tryz.underlying25 cell25 rfl rfl rfl cell22 cell23 cell23 (argComps k0) (argInts k1) (argInts k2)).weak ?_
 rintro x ⟨_, _, _, ⟨n, f, _, hf, rfl⟩, ⟨m, g, _, hg, rfl⟩, ⟨k, h, _, hh, rfl⟩, rfl⟩
 obtain ⟨l1, e1⟩ := list_of hf
 obtain ⟨l2, e2⟩ := intsOf hg
 obtain ⟨l3, e3⟩ := intsOf hh
 refine ⟨tBook ⟨l1, l2, l3⟩, ⟨_, rfl⟩, fun p hp => ?_⟩
 change p ∈ [SEq n f l1.length fun i => eComp (nth l1 i), SEq m g l2.length fun i => eI (nth l2 i), SEq k h l3.length fun i => eI (nth l3 i)] at hp
 simp only [List.mem_cons, List.not_mem_nil, or_false] at hp
 rcases hp with rfl | rfl | rfl
 ·exact e1
 ·exact e2
 ·exact e3
theorem cell_ok {t : TypeId} {d : TypeDesc} (hu : Tryz.prog.underlying t = some d) (hd : (∃ e, d = .slice e) ∨ (∃ k, d = .int k) ∨ d = .bool ∨ d = .string) (h : Value.okWide Tryz.prog W .any b0 t v) : Cell.okWide Tryz.prog W .any b0 t v := by
 unfold Value.okWide at h
 rw [hu] at h
 rcases hd with ⟨e, rfl⟩ | ⟨k, rfl⟩ | rfl | rfl <;> exact h
theorem argInt (h : Value.okWide Tryz.prog W .any b0 3 v) : ArgT Tryz.prog W 3 v fun x => ∃ n, inRange IntKind.i64 n ∧ x = I n := by
 have hk := cell_ok Tryz.underlying3 (.inr (.inl ⟨_, rfl⟩)) h
 have hcell : v.cells.toList = [v] := by
  unfold Cell.okWide at hk
  rw [Tryz.underlying3] at hk
  cases v <;> first | rfl | (exfalso; simpa [Cell.ok, Tryz.underlying3] using hk)
 intro H enc d ps hd
 obtain ⟨⟨x, ⟨c, ⟨n, hn, rfl⟩, rfl⟩, K, hK⟩, ha⟩ := (ArgC.int (W := W) (v := v) Tryz.underlying3).arg hcell H enc d ps hd
 exact ⟨⟨_, ⟨n, hn, rfl⟩, K, hK⟩, ha⟩
end
end Go.Vc.Gd
set_option maxRecDepth 100000
namespace Go.Vc.Gd
open Go Go.Proofs Go.Proofs.YtnifdkjffcdhcaaGreatDoor
def headCs : List Char := ([104, 97, 114, 110, 101, 115, 115, 32, 53, 54, 51, 101, 49, 57, 48, 102, 102, 54, 55, 101, 49, 49, 48, 54, 49, 50, 51, 55, 52, 102, 49, 98, 51, 98, 100, 55, 53, 52, 50, 49, 56, 54, 52, 51, 49, 101, 55, 48, 55, 55, 49, 101, 102, 98, 52, 52, 52, 48, 48, 50, 102, 50, 101, 99, 52, 54, 100, 57, 102, 102, 48, 50, 32, 99, 117, 116, 32, 97, 116, 32, 101, 112, 104, 101, 109, 101, 114, 105, 115, 116, 47, 101, 112, 104, 101, 109, 101, 114, 105, 115, 116, 108, 97, 119, 48, 54, 46, 71, 105, 118, 101, 80, 97, 114, 116, 115, 32, 101, 112, 104, 101, 109, 101, 114, 105, 115, 116, 47, 101, 112, 104, 101, 109, 101, 114, 105, 115, 116, 108, 97, 119, 48, 54, 46, 71, 105, 118, 101, 66, 97, 99, 107, 115, 32, 101, 112, 104, 101, 109, 101, 114, 105, 115, 116, 47, 101, 112, 104, 101, 109, 101, 114, 105, 115, 116, 108, 97, 119, 48, 54, 46, 71, 105, 118, 101, 84, 114, 117, 101, 32, 101, 112, 104, 101, 109, 101, 114, 105, 115, 116, 47, 101, 112, 104, 101, 109, 101, 114, 105, 115, 116, 108, 97, 119, 48, 54, 46, 71, 105, 118, 101, 84, 97, 98, 108, 101, 115, 32, 101, 112, 104, 101, 109, 101, 114, 105, 115, 116, 47, 101, 112, 104, 101, 109, 101, 114, 105, 115, 116, 108, 97, 119, 48, 54, 46, 71, 105, 118, 101, 80, 114, 111, 118, 101, 100, 32, 101, 112, 104, 101, 109, 101, 114, 105, 115, 116, 47, 101, 112, 104, 101, 109, 101, 114, 105, 115, 116, 108, 97, 119, 48, 54, 46, 71, 105, 118, 101, 73, 100, 108, 101, 115, 32, 101, 112, 104, 101, 109, 101, 114, 105, 115, 116, 47, 101, 112, 104, 101, 109, 101, 114, 105, 115, 116, 108, 97, 119, 48, 54, 46, 71, 105, 118, 101, 76, 97, 116, 101, 32, 101, 112, 104, 101, 109, 101, 114, 105, 115, 116, 47, 101, 112, 104, 101, 109, 101, 114, 105, 115, 116, 108, 97, 119, 48, 54, 46, 71, 105, 118, 101, 70, 105, 114, 115, 116, 115, 32, 101, 112, 104, 101, 109, 101, 114, 105, 115, 116, 47, 101, 112, 104, 101, 109, 101, 114, 105, 115, 116, 108, 97, 119, 48, 54, 46, 71, 105, 118, 101, 82, 105, 118, 97, 108, 32, 101, 112, 104, 101, 109, 101, 114, 105, 115, 116, 47, 101, 112, 104, 101, 109, 101, 114, 105, 115, 116, 108, 97, 119, 48, 54, 46, 71, 105, 118, 101, 87, 104, 111, 115, 32, 101, 112, 104, 101, 109, 101, 114, 105, 115, 116, 47, 101, 112, 104, 101, 109, 101, 114, 105, 115, 116, 108, 97, 119, 48, 54, 46, 71, 105, 118, 101, 83, 111, 111, 110, 101, 114, 32, 101, 112, 104, 101, 109, 101, 114, 105, 115, 116, 47, 101, 112, 104, 101, 109, 101, 114, 105, 115, 116, 108, 97, 119, 48, 54, 46, 71, 105, 118, 101, 77, 111, 114, 101, 115, 32, 101, 112, 104, 101, 109, 101, 114, 105, 115, 116, 47, 101, 112, 104, 101, 109, 101, 114, 105, 115, 116, 108, 97, 119, 48, 54, 46, 71, 105, 118, 101, 72, 101, 108, 112, 32, 101, 112, 104, 101, 109, 101, 114, 105, 115, 116, 47, 101, 112, 104, 101, 109, 101, 114, 105, 115, 116, 108, 97, 119, 48, 54, 46, 71, 105, 118, 101, 77, 111, 114, 101, 32, 101, 112, 104, 101, 109, 101, 114, 105, 115, 116, 47, 101, 112, 104, 101, 109, 101, 114, 105, 115, 116, 108, 97, 119, 48, 54, 46, 71, 105, 118, 101, 87, 104, 121, 115, 32, 101, 112, 104, 101, 109, 101, 114, 105, 115, 116, 47, 101, 112, 104, 101, 109, 101, 114, 105, 115, 116, 108, 97, 119, 48, 54, 46, 71, 105, 118, 101, 80, 114, 105, 110, 116, 115, 32, 101, 112, 104, 101, 109, 101, 114, 105, 115, 116, 47, 101, 112, 104, 101, 109, 101, 114, 105, 115, 116, 108, 97, 119, 48, 54, 46, 71, 105, 118, 101, 82, 101, 97, 100, 115, 32, 101, 112, 104, 101, 109, 101, 114, 105, 115, 116, 47, 101, 112, 104, 101, 109, 101, 114, 105, 115, 116, 108, 97, 119, 48, 54, 46, 71, 105, 118, 101, 83, 112, 111, 105, 108, 116] : List Nat).map Char.ofNat
theorem io : Tryz.prog.initOrder = String.ofList headCs := by kernel_rfl
theorem io2 : Tryz.prog.initOrder.toList = headCs := by rw [io, String.toList_ofList]
def harW : List Char := ([104, 97, 114, 110, 101, 115, 115] : List Nat).map Char.ofNat
def sumW : List Char := ([53, 54, 51, 101, 49, 57, 48, 102, 102, 54, 55, 101, 49, 49, 48, 54, 49, 50, 51, 55, 52, 102, 49, 98, 51, 98, 100, 55, 53, 52, 50, 49, 56, 54, 52, 51, 49, 101, 55, 48, 55, 55, 49, 101, 102, 98, 52, 52, 52, 48, 48, 50, 102, 50, 101, 99, 52, 54, 100, 57, 102, 102, 48, 50] : List Nat).map Char.ofNat
def cutW : List Char := ([99, 117, 116] : List Nat).map Char.ofNat
def restW : List (List Char) := ([[97, 116], [101, 112, 104, 101, 109, 101, 114, 105, 115, 116, 47, 101, 112, 104, 101, 109, 101, 114, 105, 115, 116, 108, 97, 119, 48, 54, 46, 71, 105, 118, 101, 80, 97, 114, 116, 115], [101, 112, 104, 101, 109, 101, 114, 105, 115, 116, 47, 101, 112, 104, 101, 109, 101, 114, 105, 115, 116, 108, 97, 119, 48, 54, 46, 71, 105, 118, 101, 66, 97, 99, 107, 115], [101, 112, 104, 101, 109, 101, 114, 105, 115, 116, 47, 101, 112, 104, 101, 109, 101, 114, 105, 115, 116, 108, 97, 119, 48, 54, 46, 71, 105, 118, 101, 84, 114, 117, 101], [101, 112, 104, 101, 109, 101, 114, 105, 115, 116, 47, 101, 112, 104, 101, 109, 101, 114, 105, 115, 116, 108, 97, 119, 48, 54, 46, 71, 105, 118, 101, 84, 97, 98, 108, 101, 115], [101, 112, 104, 101, 109, 101, 114, 105, 115, 116, 47, 101, 112, 104, 101, 109, 101, 114, 105, 115, 116, 108, 97, 119, 48, 54, 46, 71, 105, 118, 101, 80, 114, 111, 118, 101, 100], [101, 112, 104, 101, 109, 101, 114, 105, 115, 116, 47, 101, 112, 104, 101, 109, 101, 114, 105, 115, 116, 108, 97, 119, 48, 54, 46, 71, 105, 118, 101, 73, 100, 108, 101, 115], [101, 112, 104, 101, 109, 101, 114, 105, 115, 116, 47, 101, 112, 104, 101, 109, 101, 114, 105, 115, 116, 108, 97, 119, 48, 54, 46, 71, 105, 118, 101, 76, 97, 116, 101], [101, 112, 104, 101, 109, 101, 114, 105, 115, 116, 47, 101, 112, 104, 101, 109, 101, 114, 105, 115, 116, 108, 97, 119, 48, 54, 46, 71, 105, 118, 101, 70, 105, 114, 115, 116, 115], [101, 112, 104, 101, 109, 101, 114, 105, 115, 116, 47, 101, 112, 104, 101, 109, 101, 114, 105, 115, 116, 108, 97, 119, 48, 54, 46, 71, 105, 118, 101, 82, 105, 118, 97, 108], [101, 112, 104, 101, 109, 101, 114, 105, 115, 116, 47, 101, 112, 104, 101, 109, 101, 114, 105, 115, 116, 108, 97, 119, 48, 54, 46, 71, 105, 118, 101, 87, 104, 111, 115], [101, 112, 104, 101, 109, 101, 114, 105, 115, 116, 47, 101, 112, 104, 101, 109, 101, 114, 105, 115, 116, 108, 97, 119, 48, 54, 46, 71, 105, 118, 101, 83, 111, 111, 110, 101, 114], [101, 112, 104, 101, 109, 101, 114, 105, 115, 116, 47, 101, 112, 104, 101, 109, 101, 114, 105, 115, 116, 108, 97, 119, 48, 54, 46, 71, 105, 118, 101, 77, 111, 114, 101, 115], [101, 112, 104, 101, 109, 101, 114, 105, 115, 116, 47, 101, 112, 104, 101, 109, 101, 114, 105, 115, 116, 108, 97, 119, 48, 54, 46, 71, 105, 118, 101, 72, 101, 108, 112], [101, 112, 104, 101, 109, 101, 114, 105, 115, 116, 47, 101, 112, 104, 101, 109, 101, 114, 105, 115, 116, 108, 97, 119, 48, 54, 46, 71, 105, 118, 101, 77, 111, 114, 101], [101, 112, 104, 101, 109, 101, 114, 105, 115, 116, 47, 101, 112, 104, 101, 109, 101, 114, 105, 115, 116, 108, 97, 119, 48, 54, 46, 71, 105, 118, 101, 87, 104, 121, 115], [101, 112, 104, 101, 109, 101, 114, 105, 115, 116, 47, 101, 112, 104, 101, 109, 101, 114, 105, 115, 116, 108, 97, 119, 48, 54, 46, 71, 105, 118, 101, 80, 114, 105, 110, 116, 115], [101, 112, 104, 101, 109, 101, 114, 105, 115, 116, 47, 101, 112, 104, 101, 109, 101, 114, 105, 115, 116, 108, 97, 119, 48, 54, 46, 71, 105, 118, 101, 82, 101, 97, 100, 115], [101, 112, 104, 101, 109, 101, 114, 105, 115, 116, 47, 101, 112, 104, 101, 109, 101, 114, 105, 115, 116, 108, 97, 119, 48, 54, 46, 71, 105, 118, 101, 83, 112, 111, 105, 108, 116]] : List (List Nat)).map fun l => l.map Char.ofNat
theorem words : wordsSigns Tryz.prog.initOrder.toList = harW :: sumW :: cutW :: restW := by rw [io2]; kernel_rfl
theorem sumOK : isSumSigns sumW = true := by kernel_rfl
theorem harOK : (harW == "harness".toList) = true := by kernel_rfl
theorem sumEq : sumW = ("563e190ff67e110612374f1b3bd7542186431e70771efb444002f2ec46d9ff02" : String).toList := by kernel_rfl
theorem words2 : behindMainWord (wordsSigns Tryz.prog.initOrder.toList) = cutW :: restW := by
 rw [words]
 show (if ((harW == "harness".toList || harW == "ownmain".toList) && isSumSigns sumW) = true then cutW :: restW else harW :: sumW :: cutW :: restW) = _
 rw [harOK, sumOK]
 rfl
theorem mainIs_of {P : Program} {h s : List Char} {r : List (List Char)} (hw : wordsSigns P.initOrder.toList = h :: s :: r) (h1 : isSumSigns s = true) (h2 : (h == "harness".toList) = true) : P.mainIs = some (true, s) := by
 unfold Program.mainIs
 rw [hw]
 simp only [h1, h2, Bool.not_true, Bool.false_eq_true, if_false, if_true]
theorem make_of {P : Program} {c : List Char} {r : List (List Char)} (hw : behindMainWord (wordsSigns P.initOrder.toList) = c :: r) (h1 : (c == "gc".toList) = false) (h2 : (c == "spec".toList) = false) (h3 : (c == "cut".toList) = true) : P.make = some .cut := by
 unfold Program.make
 rw [hw]
 simp only [h1, h2, h3, Bool.or_false, Bool.true_or, Bool.false_eq_true, if_false, if_true]
theorem enters_of {P : Program} {c : List Char} {r : List (List Char)} (hw : behindMainWord (wordsSigns P.initOrder.toList) = c :: r) (h1 : ((stripLifts liftWords (c :: r)).2.head? == some "cut".toList) = true) (h2 : P.laysLater = false) (h3 : P.bearsReflect = false)
  (h4 : (stripLifts liftWords (c :: r)).1.contains "leanrows" = false) (h5 : P.doorFits (stripLifts liftWords (c :: r)).1 = true) : P.mayEnter = true := by
 unfold Program.mayEnter
 rw [hw]
 simp only [h1, h2, h3, h4, h5, Bool.not_false, Bool.or_true, Bool.and_self]
theorem enters : Tryz.prog.mayEnter = true := enters_of words2 (by kernel_rfl) (by kernel_rfl) (by kernel_rfl) (by kernel_rfl) (by kernel_rfl)
theorem makes : Tryz.prog.make = some .cut := make_of words2 (by kernel_rfl) (by kernel_rfl) (by kernel_rfl)
theorem mainIs : Tryz.pinned.checked.prog.mainIs = some (true, ("563e190ff67e110612374f1b3bd7542186431e70771efb444002f2ec46d9ff02" : String).toList) := by
 rw [← sumEq]
 exact mainIs_of (P := Tryz.prog) words sumOK harOK
theorem lifts : Tryz.prog.headLifts.contains "finals" = false := by
 unfold Program.headLifts
 rw [io2]
 kernel_rfl
theorem final : Tryz.prog.liftsFinal = false := by
 unfold Program.liftsFinal
 rw [lifts, io2]
 kernel_rfl
theorem looks : Tryz.pinned.checked.prog.looks [] = true := by kernel_rfl
end Go.Vc.Gd
set_option maxRecDepth 100000
namespace Go.Vc.Gd
open Go Go.Proofs Go.Vc Go.Proofs.YtnifdkjffcdhcaaGreatDoor Go.ChangeShapes Go.WideShapes Go.ChangeAt Go.RowKit Go.Deep
theorem own : ownKnob Tryz.prog.godebug = none := by kernel_rfl
def GlW (w : World) : Prop := ∃ m, w.cell? ⟨1, 0, none⟩ = some (.int .i64 m)
theorem setW : Set Tryz.prog Y GlW := ⟨yok, fun w w' ⟨m, h⟩ hB => ⟨m, by rw [hB.cell (World.block_lt_of_cell? w _ h)]; exact h⟩, mixed⟩
theorem row1 : (((begin Tryz.prog (fun _ _ => 0) default).world.heap[1]?).bind Obj.row?) = some (#[.int .i64 0], 3) := by kernel_rfl
theorem cells3 : Tryz.prog.cellTypes Tryz.prog.depth 3 = some [3] := by kernel_rfl
theorem build3 : Tryz.prog.buildable 3 = true := by kernel_rfl
theorem globs : 1 < Tryz.prog.globals.size := Nat.le_of_ble_eq_true (by kernel_rfl)
theorem glW {W : World} (h : W.ShapedOpen Tryz.prog) : GlW W := by
 obtain ⟨cs, hc, hsz, hrow⟩ := h.1 1 _ _ globs row1
 obtain ⟨ts, hts, _, hall⟩ := hrow build3
 rw [cells3] at hts
 obtain rfl := Option.some.inj hts
 have hsz : cs.size = 1 := hsz
 have h0 : cs[0]? = some cs[0] := Array.getElem?_eq_getElem (by omega)
 obtain ⟨u, hu, hok⟩ := hall 0 _ h0
 obtain rfl : u = 3 := (Option.some.inj hu).symm
 unfold Cell.ok at hok
 rw [Tryz.underlying3] at hok
 have hcell : W.cell? ⟨1, 0, none⟩ = some cs[0] := by
  unfold World.cell?
  simp [hc]
 generalize cs[0] = v at hok hcell
 cases v with
 | int k n => obtain ⟨rfl, _⟩ := hok; exact ⟨n, hcell⟩
 | _ => exact absurd hok (by simp)
def flatD : Nat → DataW Unit → List Value
 | n + 1, .lit (.int k z) => [.int k z]
 | n + 1, .agg l => l.flatMap (flatD n)
 | _, _ => []
def layOne (x : DataW Unit) : Obj → Obj
 | .cells _ t frozen => .cells (flatD 4 x).toArray t frozen
 | o => o
noncomputable def laidWorld (os : Os) : World :=
 { World.holding Tryz.prog os ⟨#[], #[], []⟩ with heap := (((((World.holding Tryz.prog os ⟨#[], #[], []⟩).heap.modify 4 (layOne Rows.laid_math_bits_deBruijn32tab)).modify 5 (layOne Rows.laid_math_bits_deBruijn64tab)).modify 0 (layOne Rows.laid_internal_strconv_uint64pow10)).modify 3 (layOne Rows.laid_unicode_utf8_acceptRanges)).modify 2 (layOne Rows.laid_unicode_utf8_first) }
def argB : Value := .agg #[.slice none 0 0, .slice none 0 0, .slice none 0 0]
theorem laid_met (os : Os) : laidMet Tryz.prog Rows.giveBacksRow.laid ((laidWorld os).forCall (fun _ _ => 0) ⟨#[], #[argB, .slice none 0 0, argB], []⟩).memory :=
 laidMet_of_run' 8 (by kernel_rfl) (by kernel_rfl)
theorem reads (os : Os) {H : Type} (enc : TypeId × Value → H) : ∃ places, DataW.whole enc Tryz.prog ((laidWorld os).forCall (fun _ _ => 0) ⟨#[], #[argB, .slice none 0 0, argB], []⟩).memory Tryz.f4.params.toList Rows.giveBacksSpec.vars false #[argB, .slice none 0 0, argB].toList 8 = some ([.agg [.nil, .nil, .nil], .nil, .agg [.nil, .nil, .nil]], [], places) :=
 ⟨[], by kernel_rfl⟩
end Go.Vc.Gd
