/- A part of the proofs over layer 6 (give): the program and the specification; no condition. -/
import Derived.Test.YtnifdkjffcdhcaaGreatDoorHsE
set_option linter.all false
set_option linter.unusedSimpArgs false
set_option linter.unusedVariables false
namespace Go.Vc.Gd
open Go Go.Proofs Go.Vc
theorem outTo_eq (rows : List (List UInt8)) : ∀ k, k ≤ rows.length → outTo rows k = (rows.take k).flatMap fun r => r ++ [10]
  | 0, _ => by simp [outTo]
  | k + 1, h => by
    rw [outTo, outTo_eq rows k (by omega), take_succ (by omega), List.flatMap_append]
    simp
theorem outTo_all (rows : List (List UInt8)) : outTo rows rows.length = rows.flatMap fun r => r ++ [10] := by
  rw [outTo_eq rows _ (Nat.le_refl _), List.take_length]
theorem splitL_rows (c : UInt8) (e : List UInt8) : ∀ (rows : List (List UInt8)), (∀ r ∈ rows, c ∉ r) → splitL c ((rows.flatMap fun r => r ++ [c]) ++ e) = rows ++ splitL c e
  | [], _ => rfl
  | r :: rows, h => by
    have ih := splitL_rows c e rows fun x hx => h x (List.mem_cons_of_mem _ hx)
    rw [List.flatMap_cons, List.append_assoc, List.append_assoc, List.singleton_append, splitL_app c _ _ (h r List.mem_cons_self), ih]
    rfl
theorem dec_small {n : Int} (h : sm n) : dec n = decS n.toNat := by
  obtain ⟨m, rfl⟩ := Int.eq_ofNat_of_zero_le h.1
  have hm : m < 100 := by have := h.2; omega
  exact dec_eq hm
theorem decS_bytes : ∀ n : Nat, n < 100 → (decS n).all isDig = true := by decide
theorem dec_bytes {n : Int} (h : sm n) {c : UInt8} (hc : c ∈ dec n) : isDig c = true := by
  rw [dec_small h] at hc
  exact List.all_eq_true.1 (decS_bytes n.toNat (by have := h.2; have := h.1; omega)) c hc
theorem dec_none {n : Int} (h : sm n) {c : UInt8} (hc : isDig c = false) : c ∉ dec n := fun hh => by
  rw [dec_bytes h hh] at hc; cases hc
theorem splitL_nums (w : List UInt8) (hw : (32 : UInt8) ∉ w) : ∀ (l : List Int), (∀ n ∈ l, sm n) → splitL 32 (w ++ nums l) = w :: l.map dec
  | [], _ => by rw [show nums [] = [] from rfl, List.append_nil, splitL_none 32 w hw]; rfl
  | n :: l, h => by
    have ih := splitL_nums (dec n) (dec_none (h n List.mem_cons_self) rfl) l fun x hx => h x (List.mem_cons_of_mem _ hx)
    have e : nums (n :: l) = 32 :: (dec n ++ nums l) := by unfold nums; simp
    rw [e, splitL_app 32 w _ hw, ih]
    rfl
theorem lnW_no : ∀ l : Ln, (32 : UInt8) ∉ lnW l ∧ (10 : UInt8) ∉ lnW l
  | .head => by show (32 : UInt8) ∉ lGive ∧ (10 : UInt8) ∉ lGive; decide
  | .comp _ => by show (32 : UInt8) ∉ lComputer ∧ (10 : UInt8) ∉ lComputer; decide
  | .due _ => by show (32 : UInt8) ∉ lTable ∧ (10 : UInt8) ∉ lTable; decide
  | .sheet _ => by show (32 : UInt8) ∉ lSheet ∧ (10 : UInt8) ∉ lSheet; decide
theorem nums_no10 : ∀ {l : List Int}, (∀ n ∈ l, sm n) → (10 : UInt8) ∉ nums l
  | [], _ => by simp [nums]
  | n :: l, h => by
    have ih := nums_no10 (l := l) fun x hx => h x (List.mem_cons_of_mem _ hx)
    have e : nums (n :: l) = 32 :: (dec n ++ nums l) := by unfold nums; simp
    have h1 := dec_none (h n List.mem_cons_self) (c := 10) rfl
    rw [e]
    simp only [List.mem_cons, List.mem_append, not_or]
    exact ⟨by decide, h1, ih⟩
theorem lnT_no10 {l : Ln} (h : ∀ n ∈ lnN l, sm n) : (10 : UInt8) ∉ lnT l := by
  unfold lnT
  simp only [List.mem_append, not_or]
  exact ⟨(lnW_no l).2, nums_no10 h⟩
theorem lnT_split {l : Ln} (h : ∀ n ∈ lnN l, sm n) : splitL 32 (lnT l) = lnW l :: (lnN l).map dec := splitL_nums _ (lnW_no l).1 _ h
theorem lnT_tl {l : Ln} (h : ∀ n ∈ lnN l, sm n) : tl (lnT l) = (lnN l).map dec := by unfold tl; rw [lnT_split h]; rfl
theorem lnT_hd {l : Ln} (h : ∀ n ∈ lnN l, sm n) : hd (lnT l) = lnW l := by unfold hd; rw [lnT_split h]; rfl
theorem numV_dec {n : Int} (h : sm n) : numV (dec n) = n := by unfold numV; rw [numOf_dec h]; rfl
theorem isNum_dec {n : Int} (h : sm n) : isNum (dec n) = true := by unfold isNum; rw [numOf_dec h]; rfl
theorem map_numV : ∀ {l : List Int}, (∀ n ∈ l, sm n) → (l.map dec).map numV = l
  | [], _ => rfl
  | n :: l, h => by
    rw [List.map_cons, List.map_cons, numV_dec (h n List.mem_cons_self), map_numV (l := l) fun x hx => h x (List.mem_cons_of_mem _ hx)]
theorem lnT_ns {l : Ln} (h : ∀ n ∈ lnN l, sm n) : ns (lnT l) = lnN l := by
  unfold ns nsTo
  rw [List.take_length, lnT_tl h, map_numV h]
def addLn (b : Book) : Ln → Book
  | .head => b
  | .comp c => ⟨b.comps ++ [c], b.dues, b.sheets⟩
  | .due n => ⟨b.comps, b.dues ++ [n], b.sheets⟩
  | .sheet n => ⟨b.comps, b.dues, b.sheets ++ [n]⟩
def Ln.isHead : Ln → Bool
  | .head => true
  | _ => false
theorem rowOK_ln {l : Ln} (h : ∀ n ∈ lnN l, sm n) (hh : l.isHead = false) : rowOK (lnT l) = true := by
  unfold rowOK rowShape
  rw [lnT_ns h, lnT_hd h, lnT_tl h, Bool.and_eq_true]
  constructor
  · rw [List.all_eq_true]
    intro x hx
    obtain ⟨n, hn, rfl⟩ := List.mem_map.1 hx
    exact isNum_dec (h n hn)
  · cases l with
    | head => cases hh
    | comp c => rfl
    | due n => rfl
    | sheet n => rfl
theorem rowB_ln {b : Book} {l : Ln} (h : ∀ n ∈ lnN l, sm n) (hh : l.isHead = false) : rowB b (lnT l) = addLn b l := by
  unfold rowB
  rw [lnT_ns h, lnT_hd h]
  cases l with
  | head => cases hh
  | comp c => rfl
  | due n => rfl
  | sheet n => rfl
theorem bookTo_ln (ls : List Ln) (h : ∀ l ∈ ls, (∀ n ∈ lnN l, sm n) ∧ l.isHead = false) : ∀ k, k ≤ ls.length → bookTo (ls.map lnT) k = (ls.take k).foldl addLn ⟨[], [], []⟩
  | 0, _ => by simp [bookTo]
  | k + 1, hk => by
    have hm := h _ (nth_mem (l := ls) (k := k) (by omega))
    rw [bookTo, bookTo_ln ls h k (by omega), nth_map (by omega), rowB_ln hm.1 hm.2, take_succ (by omega), List.foldl_append]
    rfl
theorem fold_comp : ∀ (l : List Comp) (b : Book), (l.map Ln.comp).foldl addLn b = ⟨b.comps ++ l, b.dues, b.sheets⟩
  | [], b => by simp
  | c :: l, b => by rw [List.map_cons, List.foldl_cons, fold_comp l]; simp [addLn]
theorem fold_due : ∀ (l : List Int) (b : Book), (l.map Ln.due).foldl addLn b = ⟨b.comps, b.dues ++ l, b.sheets⟩
  | [], b => by simp
  | c :: l, b => by rw [List.map_cons, List.foldl_cons, fold_due l]; simp [addLn]
theorem fold_sheet : ∀ (l : List Int) (b : Book), (l.map Ln.sheet).foldl addLn b = ⟨b.comps, b.dues, b.sheets ++ l⟩
  | [], b => by simp
  | c :: l, b => by rw [List.map_cons, List.foldl_cons, fold_sheet l]; simp [addLn]
theorem sumTo_nonneg (w : List UInt8) (i : Nat) : ∀ k, 0 ≤ sumTo w i k
  | 0 => Int.le_refl _
  | k + 1 => by
    have := sumTo_nonneg w i k
    unfold sumTo
    have h2 : (0 : Int) ≤ ((nth w k).toNat : Int) * ((k : Int) + 1) * ((i : Int) + 1) := by
      have : ((nth w k).toNat : Int) * ((k : Int) + 1) * ((i : Int) + 1) = (((nth w k).toNat * (k + 1) * (i + 1) : Nat) : Int) := by push_cast; rfl
      rw [this]; exact Int.natCast_nonneg _
    omega
theorem checkTo_nonneg (rows : List (List UInt8)) : ∀ i, 0 ≤ checkTo rows i
  | 0 => Int.le_refl _
  | i + 1 => by
    have h1 := checkTo_nonneg rows i
    have h2 := sumTo_nonneg (nth rows i) i (nth rows i).length
    unfold checkTo
    omega
theorem checkOf_range (rows : List (List UInt8)) : 0 ≤ checkOf rows ∧ checkOf rows < 251 := by
  have h := checkTo_nonneg rows rows.length
  unfold checkOf
  rw [Int.tmod_eq_emod_of_nonneg h]
  omega
theorem check_digits (rows : List (List UInt8)) : sm (Int.tdiv (checkOf rows) 100) ∧ sm (Int.tmod (Int.tdiv (checkOf rows) 10) 10) ∧ sm (Int.tmod (checkOf rows) 10) := by
  have h := checkOf_range rows
  have h2 : 0 ≤ checkOf rows / 10 := by omega
  unfold sm
  rw [Int.tdiv_eq_ediv_of_nonneg h.1, Int.tdiv_eq_ediv_of_nonneg h.1, Int.tmod_eq_emod_of_nonneg h2, Int.tmod_eq_emod_of_nonneg h.1]
  omega
def sealLn (rows : List (List UInt8)) : List UInt8 := lEnd ++ dec (Int.tdiv (checkOf rows) 100) ++ dec (Int.tmod (Int.tdiv (checkOf rows) 10) 10) ++ dec (Int.tmod (checkOf rows) 10)
theorem sealLn_no (rows : List (List UInt8)) : (10 : UInt8) ∉ sealLn rows := by
  obtain ⟨h1, h2, h3⟩ := check_digits rows
  unfold sealLn
  simp only [List.mem_append, not_or]
  exact ⟨⟨⟨by decide, dec_none h1 rfl⟩, dec_none h2 rfl⟩, dec_none h3 rfl⟩
theorem sealed_split (rows : List (List UInt8)) (h : ∀ r ∈ rows, (10 : UInt8) ∉ r) : splitL 10 (sealed rows) = rows ++ [sealLn rows, []] := by
  have e : sealed rows = (rows.flatMap fun r => r ++ [10]) ++ (sealLn rows ++ 10 :: []) := by
    unfold sealed sealLn
    rw [outTo_all]
    simp only [List.append_assoc]
  rw [e, splitL_rows 10 _ rows h, splitL_app 10 _ _ (sealLn_no rows)]
  rfl
theorem rows_no10 {b : Book} (hb : b.low) : ∀ r ∈ b.rows, (10 : UInt8) ∉ r := by
  intro r hr
  unfold Book.rows at hr
  obtain ⟨l, hl, rfl⟩ := List.mem_map.1 hr
  exact lnT_no10 (hb.n l hl)
def Book.body (b : Book) : List Ln := b.comps.map .comp ++ b.dues.map .due ++ b.sheets.map .sheet
theorem body_head {b : Book} : ∀ l ∈ b.body, l.isHead = false := by
  intro l hl
  unfold Book.body at hl
  simp only [List.mem_append, List.mem_map] at hl
  rcases hl with (⟨_, _, rfl⟩ | ⟨_, _, rfl⟩) | ⟨_, _, rfl⟩ <;> rfl
theorem body_fold (b : Book) : b.body.foldl addLn ⟨[], [], []⟩ = b := by
  unfold Book.body
  rw [List.foldl_append, List.foldl_append, fold_comp, fold_due, fold_sheet]
  simp
theorem text_split {b : Book} (hb : b.low) : splitL 10 b.text = b.rows ++ [sealLn b.rows, []] := sealed_split _ (rows_no10 hb)
theorem rows_cons (b : Book) : b.rows = lnT .head :: b.body.map lnT := rfl
theorem text_mid {b : Book} (hb : b.low) : mid b.text = b.body.map lnT := by
  unfold mid
  rw [text_split hb, rows_cons]
  simp
theorem parse_of_text {b : Book} (hb : b.low) : parse b.text = some b := by
  have hn : ∀ l ∈ b.body, (∀ n ∈ lnN l, sm n) ∧ l.isHead = false := fun l hl => ⟨hb.n l (List.mem_cons_of_mem _ hl), body_head l hl⟩
  have hbook : bookTo (b.body.map lnT) (b.body.map lnT).length = b := by
    rw [List.length_map, bookTo_ln _ hn _ (Nat.le_refl _), List.take_length, body_fold]
  have hall : (b.body.map lnT).all rowOK = true := by
    rw [List.all_eq_true]
    intro r hr
    obtain ⟨l, hl, rfl⟩ := List.mem_map.1 hr
    exact rowOK_ln (hn l hl).1 (hn l hl).2
  have h3 : 3 ≤ (splitL 10 b.text).length := by
    rw [text_split hb, rows_cons]; simp
  unfold parse
  rw [text_mid hb, hbook, hall, decide_eq_true h3, beq_self_eq_true]
  rfl
def numsS (l : List Int) : List UInt8 := l.flatMap fun n => 32 :: decS n.toNat
def Book.rowsS (b : Book) : List (List UInt8) := b.lns.map fun l => lnW l ++ numsS (lnN l)
def sealedS (rows : List (List UInt8)) : List UInt8 := outTo rows rows.length ++ lEnd ++ decS (Int.tdiv (checkOf rows) 100).toNat ++ decS (Int.tmod (Int.tdiv (checkOf rows) 10) 10).toNat ++ decS (Int.tmod (checkOf rows) 10).toNat ++ [10]
theorem nums_S : ∀ {l : List Int}, (∀ n ∈ l, sm n) → nums l = numsS l
  | [], _ => rfl
  | n :: l, h => by
    have ih := nums_S (l := l) fun x hx => h x (List.mem_cons_of_mem _ hx)
    unfold nums numsS at ih ⊢
    rw [List.flatMap_cons, List.flatMap_cons, ih, dec_small (h n List.mem_cons_self)]
theorem rows_S {b : Book} (hb : b.low) : b.rows = b.rowsS := by
  unfold Book.rows Book.rowsS
  refine List.map_congr_left fun l hl => ?_
  unfold lnT
  rw [nums_S (hb.n l hl)]
theorem text_S {b : Book} (hb : b.low) : b.text = sealedS b.rowsS := by
  obtain ⟨h1, h2, h3⟩ := check_digits b.rowsS
  unfold Book.text sealed sealedS
  rw [rows_S hb, dec_small h1, dec_small h2, dec_small h3]
def exT : Book := ⟨[⟨0, ⟨0, 0⟩, ⟨1, 1⟩, ⟨1, 1⟩⟩], [0], [0]⟩
def txT : List UInt8 := [103, 105, 118, 101, 10, 99, 111, 109, 112, 117, 116, 101, 114, 32, 48, 32, 48, 32, 48, 32, 49, 32, 49, 32, 49, 32, 49, 10, 116, 97, 98, 108, 101, 32, 48, 10, 115, 104, 101, 101, 116, 32, 48, 10, 101, 110, 100, 32, 48, 51, 49, 10]
theorem exT_ok : exT.ok = true := by kernel_rfl
theorem exT_low : exT.low := ok_low exT_ok
theorem exT_text : exT.text = txT := by rw [text_S exT_low]; kernel_rfl
theorem parse_txT : parse txT = some exT := by rw [← exT_text]; exact parse_of_text exT_low
end Go.Vc.Gd
namespace Go.Vc.Gd
open Go Go.Proofs Go.Vc
def exW : List Task := [⟨0, 1, 2⟩, ⟨0, 2, 1⟩]
def exTruth : Truth := ⟨[1, 0, 0], [3, 1, 3], [1, 1, 1]⟩
theorem exA_ok : exA.ok = true := by kernel_rfl
theorem exP_good : exA.good exP = true := by kernel_rfl
theorem exR_good : exA.good exR = true := by kernel_rfl
theorem exTruth_ok : exTruth.ok exA = true := by kernel_rfl
theorem exA_sheet0 : exA.isSheet 0 = true := by kernel_rfl
theorem exA_sheet1 : exA.isSheet 1 = true := by kernel_rfl
theorem exA_comp1 : exA.isComp 1 = true := by kernel_rfl
theorem exR_hand : hand (nth exR (Int.toNat 0)) 1 = true := by kernel_rfl
theorem ex_whyS : whyS exA exW = 1 := by kernel_rfl
theorem ex_whyF : whyF exA exW = 4 := by kernel_rfl
theorem ex_whyErr : whyErr exA exW = 0 := by kernel_rfl
theorem ex_days : days exP exTruth (-1) (-1) = [6, 6] := by kernel_rfl
theorem ex_backs : backs exA exP = [⟨5, 8⟩, ⟨6, 11⟩] := by kernel_rfl
theorem ex_tables : tables exA exP = [3, 2] := by kernel_rfl
theorem ex_proof1 : proof1 exA exP = 1 := by kernel_rfl
theorem ex_proof2 : proof2 exA exP = 1 := by kernel_rfl
theorem ex_proof3 : proof3 exA exP = 11 := by kernel_rfl
theorem ex_isProof : isProof exA exP = true := by kernel_rfl
theorem ex_idle : idleTo exP exA.comps.length = [] := by kernel_rfl
theorem ex_losts : losts exA exR 0 1 = [⟨6, 13⟩, ⟨5, 8⟩] := by kernel_rfl
theorem ex_plans : (allPlans exA).length = 4 := by kernel_rfl
theorem ex_first : firstPlan exA = exR := by kernel_rfl
theorem ex_noFirst : noFirst exA = false := by kernel_rfl
theorem ex_count : countTo exA (allPlans exA).length = 1 := by kernel_rfl
theorem ex_best : soonest exA = ⟨exR, 9⟩ := by kernel_rfl
theorem ex_hands : handsTo exA 1 (allPlans exA).length = [0, 1] := by kernel_rfl
theorem ex_plans1 : (allPlans (exA.withOne 1)).length = 64 := by kernel_rfl
theorem ex_best1 : (soonest (exA.withOne 1)).day = 8 := by kernel_rfl
theorem ex_who : sortedOnce (handsTo exA 1 (allPlans exA).length) = [0, 1] := by
  rw [ex_hands]
  unfold sortedOnce
  rw [List.mergeSort_of_pairwise (by decide)]
  rfl
end Go.Vc.Gd
namespace Go.Vc.Gd
open Go Go.Proofs Go.Vc
section
variable {α : Type} [Inhabited α]
theorem filter_take_succ (p : α → Bool) {l : List α} {k : Nat} (h : k < l.length) : (l.take (k + 1)).filter p = (l.take k).filter p ++ bif p (nth l k) then [nth l k] else [] := by
  rw [take_succ h, List.filter_append]
  cases hp : p (nth l k) <;> simp [hp]
theorem filter_head (p : α → Bool) : ∀ {l : List α}, (l.all fun x => !p x) = false → nth (l.filter p) 0 = nth l (upto (fun x => !p x) l)
  | [], h => by simp at h
  | x :: l, h => by
    cases hp : p x with
    | true =>
      rw [List.filter_cons_of_pos hp]
      unfold upto
      simp only [hp, Bool.not_true, cond_false]
      rfl
    | false =>
      rw [List.all_cons, hp] at h
      have h' : (l.all fun x => !p x) = false := by simpa using h
      rw [List.filter_cons_of_neg (by rw [hp]; simp)]
      unfold upto
      simp only [hp, Bool.not_false, cond_true]
      exact filter_head p h'
theorem filter_none (p : α → Bool) : ∀ {l : List α}, (l.all fun x => !p x) = ((l.filter p).length == 0)
  | [] => rfl
  | x :: l => by
    cases hp : p x with
    | true => rw [List.filter_cons_of_pos hp, List.all_cons, hp]; rfl
    | false => rw [List.filter_cons_of_neg (by rw [hp]; simp), List.all_cons, hp, ← filter_none p]; rfl
theorem filter_congr' {p q : α → Bool} {l : List α} (h : ∀ i, i < l.length → p (nth l i) = q (nth l i)) : l.filter p = l.filter q := by
  refine List.filter_congr fun x hx => ?_
  obtain ⟨i, hi, rfl⟩ := List.getElem_of_mem hx
  have := h i hi
  rw [nth_eq hi] at this
  exact this
end
theorem sureP_eq {b : Book} (hb : b.ok = true) {k : Nat} (hk : k < (allPlans b).length) : sureP b (nth (allPlans b) k) = !isProof b (nth (allPlans b) k) := surely_eq hb (allPlans_good hk)
theorem allTo_eq (b : Book) (l : List (List Task)) : ∀ k, k ≤ l.length → allTo b l k = (l.take k).filter fun p => !isProof b p
  | 0, _ => by simp [allTo]
  | k + 1, h => by
    rw [allTo, allTo_eq b l k (by omega), filter_take_succ _ (by omega)]
    cases isProof b (nth l k) <;> simp
theorem all_eq (b : Book) : b.all = b.plans.filter fun p => !isProof b p := by
  unfold Book.all
  rw [allTo_eq b _ _ (Nat.le_refl _), List.take_length]
theorem all_sure {b : Book} (hb : b.ok = true) : b.all = (allPlans b).filter (sureP b) := by
  rw [all_eq, ← allPlans_eq]
  exact filter_congr' fun i hi => (sureP_eq hb hi).symm
theorem noFirst_eq {b : Book} (hb : b.ok = true) : noFirst b = (b.all.length == 0) := by
  unfold noFirst
  rw [filter_none (sureP b), all_sure hb]
theorem first_eq {b : Book} (hb : b.ok = true) (h : noFirst b = false) : firstPlan b = nth b.all 0 := by
  unfold firstPlan
  rw [h, cond_false, all_sure hb]
  exact (filter_head (sureP b) h).symm
theorem lastL_eq (b : Book) (pl : List Task) : ∀ k, k ≤ pl.length → lastL (days pl (b.ends true) (-1) (-1)) k = lastTo (backs b pl) k
  | 0, _ => rfl
  | k + 1, h => by
    rw [lastL, lastTo, lastL_eq b pl k (by omega), backs_high b pl (by omega)]
theorem lastDay_eq (b : Book) (pl : List Task) : lastDay b pl = lastOf b pl := by
  unfold lastDay lastOf
  rw [days_len, backs_len]
  exact lastL_eq b pl _ (Nat.le_refl _)
theorem nth_mades {b : Book} {k : Nat} (h : k < (allPlans b).length) : nth (mades b) k = ⟨nth (allPlans b) k, lastOf b (nth (allPlans b) k)⟩ := by
  unfold mades
  rw [nth_map h]
  unfold madeOf
  rw [lastDay_eq]
theorem bestM_eq (b : Book) : ∀ k, k < (allPlans b).length → bestM (mades b) k = ⟨bestTo b (allPlans b) (k + 1), lastOf b (bestTo b (allPlans b) (k + 1))⟩
  | 0, h => by
    rw [bestM, nth_mades h, bestTo]
    have : decide (lastOf b (nth (allPlans b) 0) < lastOf b (bestTo b (allPlans b) 0)) = false := by rw [bestTo]; simp
    rw [this]
    rfl
  | k + 1, h => by
    rw [bestM, bestM_eq b k (by omega), nth_mades h]
    conv => rhs; rw [bestTo]
    dsimp only
    cases decide (lastOf b (nth (allPlans b) (k + 1)) < lastOf b (bestTo b (allPlans b) (k + 1))) <;> rfl
theorem soonest_eq {b : Book} (h : ((allPlans b).length == 0) = false) : soonest b = ⟨b.best, lastOf b b.best⟩ := by
  have h0 : (allPlans b).length ≠ 0 := by simpa using h
  unfold soonest
  rw [h, cond_false]
  have hl : (mades b).length = (allPlans b).length := by unfold mades; simp
  rw [hl, bestM_eq b _ (by omega)]
  unfold Book.best
  rw [← allPlans_eq, Nat.sub_add_cancel (by omega)]
theorem plans_none {b : Book} : ((allPlans b).length == 0) = (b.plans.length == 0) := by rw [allPlans_eq]
end Go.Vc.Gd
namespace Go.Vc
theorem Computes.weak {P : Program} {Gl : World → Prop} {f : FuncId} {args : List T} {xs ys : List D} (h : Computes P Gl f args (.ret (.tup xs))) (hl : conjT (leDs xs ys)) : Computes P Gl f args (.ret (.tup ys)) :=
  ⟨h.1, fun vis w vs h1 h2 h3 => (h.2 vis w vs h1 h2 h3).mono fun _ _ ⟨hb, v, vis', he, e1, e2, us, hu, hr⟩ => ⟨hb, v, vis', he, e1, e2, us, hu, leDs_rel (conjT_iff hl) hr⟩⟩
end Go.Vc
namespace Go.Vc.Gd
open Go Go.Proofs Go.Vc
variable {Gl : World → Prop}
section
variable {α : Type} [Inhabited α]
def ifL (c : Bool) (l : List α) : List α := bif c then l else []
end
theorem isWhy_good {b : Book} {plan : List Task} (h : (plan.length == b.sheets.length) = true) : b.good plan = !b.isWhy plan := by
  unfold Book.good
  rw [h, Bool.true_and]
theorem openErr_zero {b : Book} {plan : List Task} (h : openErr b plan = 0) : b.ok = true ∧ b.good plan = true := by
  unfold openErr at h
  cases h1 : b.ok <;> cases h2 : (plan.length == b.sheets.length) <;> cases h3 : b.isWhy plan <;> rw [h1, h2, h3] at h <;> first | exact absurd h (by decide) | exact ⟨rfl, by rw [isWhy_good h2, h3]; rfl⟩
theorem openErr_good {b : Book} {plan : List Task} (hb : b.ok = true) (hg : b.good plan = true) : openErr b plan = 0 := by
  unfold Book.good at hg
  rw [Bool.and_eq_true] at hg
  unfold openErr
  rw [hb, hg.1]
  have : b.isWhy plan = false := by simpa using hg.2
  rw [this]; rfl
theorem goodC (S : Set Tryz.prog Y Gl) (b : Book) (plan : List Task) : Computes Tryz.prog Gl 36 [tBook b, L eTask plan] (.ret (B (b.ok && b.good plan))) := by
  have h := good36 S b plan
  have e : (bif (bif b.ok then decide (plan.length ≤ 5) else false) then b.good plan else false) = (b.ok && b.good plan) := by
    cases h1 : b.ok with
    | false => rfl
    | true =>
      cases h2 : b.good plan with
      | false => cases decide (plan.length ≤ 5) <;> rfl
      | true =>
        have h3 := (good_spec h2).1
        obtain ⟨_, _, o3, _⟩ := ok_spec h1
        have : decide (plan.length ≤ 5) = true := by simp; omega
        rw [this]; rfl
  rw [e] at h
  exact h
def okP (b : Book) (plan : List Task) : Bool := openErr b plan == 0
theorem okP_iff {b : Book} {plan : List Task} : okP b plan = true ↔ b.ok = true ∧ b.good plan = true := by
  unfold okP
  rw [beq_iff_eq]
  exact ⟨openErr_zero, fun h => openErr_good h.1 h.2⟩
theorem okP_eq (b : Book) (plan : List Task) : okP b plan = (b.ok && b.good plan) := by
  rw [Bool.eq_iff_iff, okP_iff, Bool.and_eq_true]
def firstErr (b : Book) : Int := bif b.ok then (bif b.all.length == 0 then 5 else 0) else 2
theorem firstA (S : Set Tryz.prog Y Gl) (b : Book) : Computes Tryz.prog Gl 49 [tBook b] (.ret (.tup [.c (.l eTask (ifL (b.ok && !(b.all.length == 0)) (nth b.all 0))), .c (Ci (firstErr b))])) := by
  unfold ifL firstErr
  cases hb : b.ok with
  | true =>
    have h := first49 S b hb
    cases hn : noFirst b with
    | true =>
      rw [hn] at h
      rw [noFirst_eq hb] at hn
      rw [hn]
      have e : firstPlan b = [] := by unfold firstPlan; rw [noFirst_eq hb, hn]; rfl
      rw [e] at h
      exact h
    | false =>
      rw [first_eq hb hn, hn] at h
      rw [noFirst_eq hb] at hn
      rw [hn]
      exact h
  | false => exact (first49e S b hb).weak ⟨rfl, rfl⟩
end Go.Vc.Gd
namespace Go.Vc.Gd
open Go Go.Proofs Go.Vc
structure LeTr (t t' : Truth) : Prop where
  len : t.post.length = t'.post.length
  post : ∀ i, nth t.post i ≤ nth t'.post i
  sheet : ∀ i, nth t.sheet i ≤ nth t'.sheet i
  look : ∀ i, nth t.look i ≤ nth t'.look i
theorem LeTr.refl (t : Truth) : LeTr t t := ⟨rfl, fun _ => Int.le_refl _, fun _ => Int.le_refl _, fun _ => Int.le_refl _⟩
theorem counts_mono {t : Task} {i : Nat} {s c : Int} {l l' : Bool} (h : l = true → l' = true) (hc : counts t i s c l = true) : counts t i s c l' = true := by
  unfold counts at hc ⊢
  rw [Bool.and_eq_true, Bool.or_eq_true] at hc ⊢
  exact ⟨hc.1, hc.2.imp id h⟩
theorem manyTo_mono {plan : List Task} {s c : Int} {l l' : Bool} (h : l = true → l' = true) : ∀ k, manyTo plan s c l k ≤ manyTo plan s c l' k
  | 0 => Nat.le_refl _
  | k + 1 => by
    have ih := manyTo_mono (plan := plan) (s := s) (c := c) h k
    unfold manyTo
    cases hc : counts (nth plan k) k s c l with
    | true => rw [counts_mono h hc]; simp only [cond_true]; omega
    | false => simp only [cond_false]; omega
theorem many_mono {plan : List Task} {s c : Int} {l l' : Bool} (h : l = true → l' = true) : many plan s c l ≤ many plan s c l' := by
  have := manyTo_mono (plan := plan) (s := s) (c := c) h plan.length
  unfold many
  cases hl : l with
  | true => rw [h hl]; subst hl; rw [h rfl] at this; exact Nat.add_le_add_right this _
  | false => subst hl; simp only [cond_false]; omega
theorem home_mono {plan : List Task} {t t' : Truth} (h : LeTr t t') (hn : ∀ i, 0 ≤ nth t'.sheet i) {s c : Int} {l l' : Bool} (hl : l = true → l' = true) : home plan t s c l ≤ home plan t' s c l' := by
  unfold home
  have h1 := h.post c.toNat
  have h2 := Int.mul_le_mul_of_nonneg_left (h.sheet c.toNat) (Int.natCast_nonneg (many plan s c l))
  have h3 : ((many plan s c l : Nat) : Int) ≤ many plan s c l' := by exact_mod_cast many_mono hl
  have h4 := Int.mul_le_mul_of_nonneg_right h3 (hn c.toNat)
  omega
theorem dayDone_mono {plan : List Task} {t t' : Truth} (h : LeTr t t') (hn : ∀ i, 0 ≤ nth t'.sheet i) {lost c lost' c' : Int} {f f' : List Int} (hf : ∀ m, nth f m ≤ nth f' m) {i : Nat}
    (hl : ∀ x, ((i : Int) == lost && x == c) = true → ((i : Int) == lost' && x == c') = true) : dayDone plan t lost c f i ≤ dayDone plan t' lost' c' f' i := by
  unfold dayDone
  have h1 := home_mono (plan := plan) h hn (s := i) (c := (nth plan i).one) (hl (nth plan i).one)
  have h2 := home_mono (plan := plan) h hn (s := i) (c := (nth plan i).other) (hl (nth plan i).other)
  have h3 := h.post (nth plan i).third.toNat
  have h4 := h.look (nth plan i).third.toNat
  have h5 := hf (nth plan i).third.toNat
  omega
theorem freeTo_mono {plan : List Task} {t t' : Truth} (h : LeTr t t') (hn : ∀ i, 0 ≤ nth t'.sheet i) {lost c lost' c' : Int} :
    ∀ k, (∀ j : Nat, j < k → ∀ x, ((j : Int) == lost && x == c) = true → ((j : Int) == lost' && x == c') = true) → ∀ m, nth (freeTo plan t lost c k) m ≤ nth (freeTo plan t' lost' c' k) m
  | 0, _, m => by
    unfold freeTo
    rw [h.len]
    exact Int.le_refl _
  | k + 1, hl, m => by
    have ih := freeTo_mono h hn (plan := plan) k fun j hj => hl j (by omega)
    have hd := dayDone_mono (plan := plan) h hn ih (hl k (by omega))
    unfold freeTo
    rw [nth_set, nth_set, freeTo_len, freeTo_len, h.len]
    split
    · exact hd
    · exact ih m
theorem dayAt_mono {plan : List Task} {t t' : Truth} (h : LeTr t t') (hn : ∀ i, 0 ≤ nth t'.sheet i) {lost c lost' c' : Int} {i : Nat} (hl : ∀ j : Nat, j ≤ i → ∀ x, ((j : Int) == lost && x == c) = true → ((j : Int) == lost' && x == c') = true) :
    dayAt plan t lost c i ≤ dayAt plan t' lost' c' i := by
  have h1 := dayDone_mono (plan := plan) h hn (freeTo_mono (plan := plan) h hn i fun j hj => hl j (by omega)) (hl i (by omega))
  have h2 := h.post (nth plan i).third.toNat
  unfold dayAt
  omega
theorem days_nth {plan : List Task} {t : Truth} {lost c : Int} {i : Nat} (hi : i < plan.length) : nth (days plan t lost c) i = dayAt plan t lost c i := by
  unfold days
  rw [nth_map (by rw [List.length_range]; exact hi), nth_range hi]
theorem no_lost (j : Nat) (x : Int) (p : Prop) : ((j : Int) == -1 && x == -1) = true → p := by
  intro h
  rw [Bool.and_eq_true, beq_iff_eq] at h
  omega
theorem days_mono {plan : List Task} {t t' : Truth} (h : LeTr t t') (hn : ∀ i, 0 ≤ nth t'.sheet i) {i : Nat} (hi : i < plan.length) : nth (days plan t (-1) (-1)) i ≤ nth (days plan t' (-1) (-1)) i := by
  rw [days_nth hi, days_nth hi]
  exact dayAt_mono h hn fun j _ x => no_lost j x _
theorem nth_map0 {f : Comp → Int} {l : List Comp} {i : Nat} : nth (l.map f) i = if i < l.length then f (nth l i) else 0 := by
  split
  · exact nth_map (by omega)
  · rw [nth_ge (by rw [List.length_map]; omega)]; rfl
theorem comp_spec {b : Book} (hb : b.ok = true) {i : Nat} (hi : i < b.comps.length) : (0 ≤ (nth b.comps i).post.low ∧ (nth b.comps i).post.low ≤ (nth b.comps i).post.high) ∧ (0 ≤ (nth b.comps i).sheet.low ∧ (nth b.comps i).sheet.low ≤ (nth b.comps i).sheet.high) ∧ (0 ≤ (nth b.comps i).look.low ∧ (nth b.comps i).look.low ≤ (nth b.comps i).look.high) := by
  obtain ⟨_, _, _, o4, _⟩ := ok_spec hb
  have := fine_spec (o4 i hi)
  omega
theorem ends_le {b : Book} (hb : b.ok = true) : LeTr (b.ends false) (b.ends true) := by
  unfold Book.ends Book.endP Book.endS Book.endL Span.end
  refine ⟨by simp, fun i => ?_, fun i => ?_, fun i => ?_⟩ <;> dsimp only <;> rw [nth_map0, nth_map0] <;> split
  · exact (comp_spec hb ‹_›).1.2
  · exact Int.le_refl _
  · exact (comp_spec hb ‹_›).2.1.2
  · exact Int.le_refl _
  · exact (comp_spec hb ‹_›).2.2.2
  · exact Int.le_refl _
theorem ends_pos {b : Book} (hb : b.ok = true) (g : Bool) (i : Nat) : 0 ≤ nth (b.ends g).sheet i := (small_ends hb g).2.1 i |>.1
theorem manyTo_pos {plan : List Task} {s c : Int} {l : Bool} {i : Nat} (hc : counts (nth plan i) i s c l = true) : ∀ k, i < k → 1 ≤ manyTo plan s c l k
  | 0, h => absurd h (Nat.not_lt_zero _)
  | k + 1, h => by
    unfold manyTo
    rcases Nat.lt_or_ge i k with hlt | hge
    · have := manyTo_pos hc k hlt; omega
    · have : i = k := by omega
      subst this
      rw [hc]; simp only [cond_true]; omega
theorem home_least {plan : List Task} {t : Truth} (hn : ∀ i, 0 ≤ nth t.sheet i) {i : Nat} {c : Int} {l : Bool} (hi : i < plan.length) (hh : hand (nth plan i) c = true) : 2 * nth t.post c.toNat + nth t.sheet c.toNat ≤ home plan t i c l := by
  have h1 : 1 ≤ many plan i c l := by
    have := manyTo_pos (s := (i : Int)) (c := c) (l := l) (plan := plan) (i := i) (by unfold counts; rw [hh]; simp) plan.length hi
    unfold many
    omega
  have h2 : (1 : Int) ≤ (many plan i c l : Nat) := by exact_mod_cast h1
  have h3 := Int.mul_le_mul_of_nonneg_right h2 (hn c.toNat)
  unfold home
  omega
theorem dayAt_least {plan : List Task} {t : Truth} (hn : ∀ i, 0 ≤ nth t.sheet i) {lost c : Int} {i : Nat} (hi : i < plan.length) :
    max (2 * nth t.post (nth plan i).one.toNat + nth t.sheet (nth plan i).one.toNat) (2 * nth t.post (nth plan i).other.toNat + nth t.sheet (nth plan i).other.toNat) + 2 * nth t.post (nth plan i).third.toNat + nth t.look (nth plan i).third.toNat ≤ dayAt plan t lost c i := by
  have h1 := home_least (plan := plan) hn (l := ((i : Int) == lost && (nth plan i).one == c)) hi (c := (nth plan i).one) (by unfold hand; simp)
  have h2 := home_least (plan := plan) hn (l := ((i : Int) == lost && (nth plan i).other == c)) hi (c := (nth plan i).other) (by unfold hand; simp)
  unfold dayAt dayDone
  omega
end Go.Vc.Gd
namespace Go.Vc.Gd
open Go Go.Proofs Go.Vc
def flat3 (t : Task) : List Int := [t.one, t.other, t.third]
def flatP (p : List Task) : List Int := p.flatMap flat3
theorem flatTo_eq (a : List Task) : ∀ k, k ≤ a.length → flatTo a k = flatP (a.take k)
  | 0, _ => by simp [flatTo, flatP]
  | k + 1, h => by
    rw [flatTo, flatTo_eq a k (by omega), take_succ (by omega)]
    unfold flatP
    rw [List.flatMap_append]
    simp [flat3]
theorem flatTo_all (a : List Task) : flatTo a a.length = flatP a := by rw [flatTo_eq a _ (Nat.le_refl _), List.take_length]
theorem ltL_pre : ∀ (p a b : List Int), ltL (p ++ a) (p ++ b) = ltL a b
  | [], _, _ => rfl
  | x :: p, a, b => by
    rw [List.cons_append, List.cons_append, ltL, beq_self_eq_true, cond_true, ltL_pre p a b]
theorem ltL_irrefl : ∀ a : List Int, ltL a a = false
  | [] => rfl
  | x :: a => by rw [ltL, beq_self_eq_true, cond_true, ltL_irrefl a]
theorem ltL_app : ∀ (a b r s : List Int), a.length = b.length → ltL a b = true → ltL (a ++ r) (b ++ s) = true
  | [], [], _, _, _, h => by cases h
  | [], _ :: _, _, _, hl, _ => by simp at hl
  | _ :: _, [], _, _, hl, _ => by simp at hl
  | x :: a, y :: b, r, s, hl, h => by
    rw [List.cons_append, List.cons_append, ltL]
    rw [ltL] at h
    cases hxy : x == y with
    | true =>
      rw [hxy, cond_true] at h
      rw [cond_true]
      exact ltL_app a b r s (by simpa using hl) h
    | false => rw [hxy, cond_false] at h; rw [cond_false]; exact h
theorem ltL_asymm : ∀ (a b : List Int), ltL a b = true → ltL b a = false
  | [], [], h => by cases h
  | [], _ :: _, _ => rfl
  | _ :: _, [], h => by cases h
  | x :: a, y :: b, h => by
    rw [ltL] at h ⊢
    cases hxy : x == y with
    | true =>
      rw [hxy, cond_true] at h
      have : (y == x) = true := by rw [beq_iff_eq] at hxy ⊢; exact hxy.symm
      rw [this, cond_true]
      exact ltL_asymm a b h
    | false =>
      rw [hxy, cond_false] at h
      have hne := beq_eq_false_iff_ne.1 hxy
      have : (y == x) = false := by rw [beq_eq_false_iff_ne]; exact fun h => hne h.symm
      rw [this, cond_false]
      have := of_decide_eq_true h
      exact decide_eq_false (by omega)
theorem taskNo_lt : ∀ n : Nat, n < 5 → ∀ j : Nat, j < n * n * n → ∀ i : Nat, i < j → ltL (flat3 (taskNo n i)) (flat3 (taskNo n j)) = true := by decide +kernel
theorem mem_tasksTo' {b : Book} {t : Task} : ∀ {k : Nat}, t ∈ tasksTo b k → ∃ i, i < k ∧ t = taskNo b.comps.length i
  | 0, h => by cases h
  | k + 1, h => by
    unfold tasksTo at h
    cases hf : b.fault (taskNo b.comps.length k) == 0 with
    | true =>
      rw [hf, cond_true] at h
      rcases List.mem_append.1 h with h | h
      · obtain ⟨i, hi, he⟩ := mem_tasksTo' h; exact ⟨i, by omega, he⟩
      · exact ⟨k, by omega, List.mem_singleton.1 h⟩
    | false => rw [hf, cond_false] at h; obtain ⟨i, hi, he⟩ := mem_tasksTo' h; exact ⟨i, by omega, he⟩
theorem tasksTo_has {b : Book} {i : Nat} (hf : b.fault (taskNo b.comps.length i) = 0) : ∀ {k : Nat}, i < k → taskNo b.comps.length i ∈ tasksTo b k
  | 0, h => absurd h (Nat.not_lt_zero _)
  | k + 1, h => by
    unfold tasksTo
    rcases Nat.lt_or_ge i k with hlt | hge
    · have := tasksTo_has hf hlt
      cases b.fault (taskNo b.comps.length k) == 0
      · exact this
      · exact List.mem_append_left _ this
    · have : i = k := by omega
      subst this
      rw [hf]
      exact List.mem_append_right _ (List.mem_singleton.2 rfl)
theorem tasks_has {b : Book} {t : Task} (hf : b.fault t = 0) : t ∈ b.tasks := by
  obtain ⟨⟨h1, h2, h3⟩, _⟩ := fault_zero hf
  simp only [Book.isComp, inR_iff] at h1 h2 h3
  obtain ⟨i, hi⟩ := Int.eq_ofNat_of_zero_le h1.1
  obtain ⟨j, hj⟩ := Int.eq_ofNat_of_zero_le h2.1
  obtain ⟨k, hk⟩ := Int.eq_ofNat_of_zero_le h3.1
  have e : t = taskNo b.comps.length (idx3 b.comps.length i j k) := by
    rw [taskNo3 (by omega) (by omega), ← hi, ← hj, ← hk]
  have hlt : idx3 b.comps.length i j k < b.comps.length * b.comps.length * b.comps.length := by
    unfold idx3
    have a1 : i < b.comps.length := by omega
    have a2 : j < b.comps.length := by omega
    have a3 : k < b.comps.length := by omega
    have s1 : (i + 1) * b.comps.length ≤ b.comps.length * b.comps.length := Nat.mul_le_mul_right _ a1
    have s2 : (i * b.comps.length + j + 1) * b.comps.length ≤ b.comps.length * b.comps.length * b.comps.length := Nat.mul_le_mul_right _ (by rw [Nat.add_mul, Nat.one_mul] at s1; omega)
    rw [Nat.add_mul, Nat.one_mul] at s2
    omega
  rw [e] at hf ⊢
  exact tasksTo_has hf hlt
theorem tasksTo_sorted {b : Book} (hb : b.comps.length < 5) : ∀ k, k ≤ b.comps.length * b.comps.length * b.comps.length → (tasksTo b k).Pairwise fun x y => ltL (flat3 x) (flat3 y) = true
  | 0, _ => by simp [tasksTo]
  | k + 1, h => by
    have ih := tasksTo_sorted hb k (by omega)
    unfold tasksTo
    cases b.fault (taskNo b.comps.length k) == 0
    · exact ih
    · simp only [cond_true]
      rw [List.pairwise_append]
      refine ⟨ih, List.pairwise_singleton _ _, fun x hx y hy => ?_⟩
      obtain ⟨i, hi, rfl⟩ := mem_tasksTo' hx
      rw [List.mem_singleton.1 hy]
      exact taskNo_lt _ hb k (by omega) i hi
theorem tasks_sorted {b : Book} (hb : b.ok = true) : b.tasks.Pairwise fun x y => ltL (flat3 x) (flat3 y) = true := by
  obtain ⟨o1, _⟩ := ok_spec hb
  exact tasksTo_sorted (by omega) _ (Nat.le_refl _)
abbrev ltP (a b : List Task) : Prop := ltL (flatP a) (flatP b) = true
theorem plansFrom_pre (l : List Task) : ∀ (d : Nat) (now p : List Task), p ∈ plansFrom l d now → ∃ r, p = now ++ r
  | 0, now, p, h => ⟨[], by rw [List.mem_singleton.1 h, List.append_nil]⟩
  | d + 1, now, p, h => by
    obtain ⟨x, _, hp⟩ := List.mem_flatMap.1 h
    obtain ⟨r, hr⟩ := plansFrom_pre l d _ _ hp
    exact ⟨x :: r, by rw [hr]; simp⟩
theorem plansFrom_sorted {l : List Task} (hl : l.Pairwise fun x y => ltL (flat3 x) (flat3 y) = true) : ∀ (d : Nat) (now : List Task), (plansFrom l d now).Pairwise ltP
  | 0, now => List.pairwise_singleton _ _
  | d + 1, now => by
    have ih := plansFrom_sorted hl d
    unfold plansFrom
    have key : ∀ m : List Task, (m.Pairwise fun x y => ltL (flat3 x) (flat3 y) = true) → (m.flatMap fun x => plansFrom l d (now ++ [x])).Pairwise ltP := by
      intro m
      induction m with
      | nil => intro _; exact .nil
      | cons x m ihm =>
        intro hm
        obtain ⟨h1, h2⟩ := List.pairwise_cons.1 hm
        rw [List.flatMap_cons, List.pairwise_append]
        refine ⟨ih _, ihm h2, fun p hp q hq => ?_⟩
        obtain ⟨y, hy, hq'⟩ := List.mem_flatMap.1 hq
        obtain ⟨r, rfl⟩ := plansFrom_pre l d _ _ hp
        obtain ⟨s, rfl⟩ := plansFrom_pre l d _ _ hq'
        have h3 := h1 y hy
        unfold ltP flatP
        simp only [List.flatMap_append, List.flatMap_cons, List.flatMap_nil, List.append_nil, List.append_assoc]
        rw [ltL_pre]
        exact ltL_app _ _ _ _ rfl h3
    exact key l hl
theorem plans_sorted {b : Book} (hb : b.ok = true) : b.plans.Pairwise ltP := by
  rw [← allPlans_eq]
  exact plansFrom_sorted (tasks_sorted hb) _ _
theorem plansFrom_has {l : List Task} : ∀ (d : Nat) (now p : List Task), p.length = d → (∀ t ∈ p, t ∈ l) → now ++ p ∈ plansFrom l d now
  | 0, now, p, hd, _ => by
    rw [List.length_eq_zero_iff.1 hd, List.append_nil]
    exact List.mem_singleton.2 rfl
  | d + 1, now, [], hd, _ => by simp at hd
  | d + 1, now, x :: p, hd, h => by
    refine List.mem_flatMap.2 ⟨x, h x List.mem_cons_self, ?_⟩
    have := plansFrom_has d (now ++ [x]) p (by simpa using hd) fun t ht => h t (List.mem_cons_of_mem _ ht)
    rw [List.append_assoc, List.singleton_append] at this
    exact this
theorem plans_has {b : Book} {p : List Task} (hg : b.good p = true) : p ∈ b.plans := by
  obtain ⟨h1, h2⟩ := good_spec hg
  rw [← allPlans_eq]
  have := plansFrom_has (l := b.tasks) b.sheets.length [] p h1 fun t ht => by
    obtain ⟨i, hi, rfl⟩ := List.getElem_of_mem ht
    have := h2 i hi
    rw [nth_eq hi] at this
    exact tasks_has this
  exact this
theorem mem_plans {b : Book} {p : List Task} : p ∈ b.plans ↔ b.good p = true := by
  refine ⟨fun h => ?_, plans_has⟩
  rw [← allPlans_eq] at h
  obtain ⟨i, hi, rfl⟩ := List.getElem_of_mem h
  have := allPlans_good hi
  rw [nth_eq hi] at this
  exact this
theorem mem_all {b : Book} {p : List Task} : p ∈ b.all ↔ b.good p = true ∧ isProof b p = false := by
  rw [all_eq, List.mem_filter, mem_plans]
  simp
section
variable {α : Type} [Inhabited α]
theorem pairwise_nth {R : α → α → Prop} {l : List α} (h : l.Pairwise R) {i j : Nat} (hij : i < j) (hj : j < l.length) : R (nth l i) (nth l j) := by
  rw [nth_eq hj, nth_eq (show i < l.length by omega)]
  exact List.pairwise_iff_getElem.1 h i j _ hj hij
theorem mem_nth {l : List α} {x : α} (h : x ∈ l) : ∃ i, i < l.length ∧ nth l i = x := by
  obtain ⟨i, hi, rfl⟩ := List.getElem_of_mem h
  exact ⟨i, hi, nth_eq hi⟩
end
theorem bestTo_spec (b : Book) (l : List (List Task)) : ∀ k, 0 < k → k ≤ l.length → ∃ i, i < k ∧ bestTo b l k = nth l i ∧ (∀ j, j < k → lastOf b (nth l i) ≤ lastOf b (nth l j)) ∧ ∀ j, j < i → lastOf b (nth l i) < lastOf b (nth l j)
  | 0, h, _ => absurd h (Nat.lt_irrefl _)
  | k + 1, _, hk => by
    rcases Nat.eq_zero_or_pos k with h0 | h0
    · subst h0
      refine ⟨0, by omega, ?_, fun j hj => ?_, fun j hj => absurd hj (Nat.not_lt_zero _)⟩
      · unfold bestTo
        cases decide (lastOf b (nth l 0) < lastOf b (bestTo b l 0)) <;> rfl
      · have : j = 0 := by omega
        subst this; exact Int.le_refl _
    · obtain ⟨i, hi, he, h1, h2⟩ := bestTo_spec b l k h0 (by omega)
      unfold bestTo
      cases hd : decide (lastOf b (nth l k) < lastOf b (bestTo b l k)) with
      | true =>
        have hd := of_decide_eq_true hd
        rw [he] at hd
        refine ⟨k, by omega, rfl, fun j hj => ?_, fun j hj => ?_⟩
        · rcases Nat.lt_or_ge j k with hlt | hge
          · have := h1 j hlt; omega
          · have : j = k := by omega
            subst this; exact Int.le_refl _
        · have := h1 j hj; omega
      | false =>
        have hd := of_decide_eq_false hd
        rw [he] at hd
        refine ⟨i, by omega, he, fun j hj => ?_, h2⟩
        rcases Nat.lt_or_ge j k with hlt | hge
        · exact h1 j hlt
        · have : j = k := by omega
          subst this; omega
theorem best_spec {b : Book} (hb : b.ok = true) (hn : b.plans.length ≠ 0) : b.good b.best = true ∧ ∀ p, b.good p = true → lastOf b b.best ≤ lastOf b p ∧ (lastOf b p = lastOf b b.best → ltL (flatP p) (flatP b.best) = false) := by
  obtain ⟨i, hi, he, h1, h2⟩ := bestTo_spec b b.plans b.plans.length (by omega) (Nat.le_refl _)
  have hbest : b.best = nth b.plans i := he
  rw [hbest]
  refine ⟨mem_plans.1 (nth_mem hi), fun p hp => ?_⟩
  obtain ⟨j, hj, rfl⟩ := mem_nth (plans_has hp)
  refine ⟨h1 j hj, fun heq => ?_⟩
  rcases Nat.lt_trichotomy i j with h | h | h
  · exact ltL_asymm _ _ (pairwise_nth (plans_sorted hb) h hj)
  · subst h; exact ltL_irrefl _
  · have := h2 j h; omega
end Go.Vc.Gd
namespace Go.Vc.Gd
open Go Go.Proofs Go.Vc
theorem ends_small {b : Book} (hb : b.ok = true) (g : Bool) (i : Nat) : (0 ≤ nth (b.ends g).post i ∧ nth (b.ends g).post i ≤ 5) ∧ (0 ≤ nth (b.ends g).sheet i ∧ nth (b.ends g).sheet i ≤ 5) ∧ (0 ≤ nth (b.ends g).look i ∧ nth (b.ends g).look i ≤ 3) := by
  obtain ⟨_, _, _, o4, _⟩ := ok_spec hb
  have key : ∀ f : Comp → Span, ∀ m : Int, 0 ≤ m → (∀ j, j < b.comps.length → 0 ≤ (f (nth b.comps j)).low ∧ (f (nth b.comps j)).low ≤ (f (nth b.comps j)).high ∧ (f (nth b.comps j)).high ≤ m) → 0 ≤ nth (b.comps.map fun c => (f c).end g) i ∧ nth (b.comps.map fun c => (f c).end g) i ≤ m := by
    intro f m hm hf
    rw [nth_map0]
    split
    · exact end_le (hf i ‹_›)
    · omega
  have hf := fun j hj => fine_spec (o4 j hj)
  exact ⟨key Comp.post 5 (by omega) fun j hj => by have := hf j hj; omega, key Comp.sheet 5 (by omega) fun j hj => by have := hf j hj; omega, key Comp.look 3 (by omega) fun j hj => by have := hf j hj; omega⟩
theorem home_le {b : Book} (hb : b.ok = true) {plan : List Task} (hp : plan.length ≤ 3) (g : Bool) (s c : Int) : home plan (b.ends g) s c false ≤ 25 := by
  have h1 := ends_small hb g c.toNat
  have h2 : many plan s c false ≤ 3 := by
    have := manyTo_le (plan := plan) (sheet := s) (c := c) (lost := false) plan.length
    unfold many
    simp only [cond_false]
    omega
  have h3 : ((many plan s c false : Nat) : Int) * nth (b.ends g).sheet c.toNat ≤ 3 * nth (b.ends g).sheet c.toNat := Int.mul_le_mul_of_nonneg_right (by exact_mod_cast h2) h1.2.1.1
  unfold home
  omega
theorem not_lost (i : Nat) (x : Int) : ((i : Int) == -1 && x == -1) = false := by
  rw [Bool.and_eq_false_iff]
  left
  rw [beq_eq_false_iff_ne]
  omega
theorem dayDone_le {b : Book} (hb : b.ok = true) {plan : List Task} (hp : plan.length ≤ 3) (g : Bool) {f : List Int} {i : Nat} {m : Int} (h30 : 30 ≤ m) (hf : ∀ j, nth f j ≤ m) : dayDone plan (b.ends g) (-1) (-1) f i ≤ m + 3 := by
  unfold dayDone
  rw [not_lost, not_lost]
  have h1 := home_le hb hp g i (nth plan i).one
  have h2 := home_le hb hp g i (nth plan i).other
  have h3 := ends_small hb g (nth plan i).third.toNat
  have h4 := hf (nth plan i).third.toNat
  omega
theorem nth_zeros (n j : Nat) : nth (List.replicate n (0 : Int)) j = 0 := by
  unfold nth
  rw [List.getD_eq_getElem?_getD, List.getElem?_replicate]
  split <;> rfl
theorem freeTo_le {b : Book} (hb : b.ok = true) {plan : List Task} (hp : plan.length ≤ 3) (g : Bool) : ∀ k j, nth (freeTo plan (b.ends g) (-1) (-1) k) j ≤ 30 + 3 * k
  | 0, j => by unfold freeTo; rw [nth_zeros]; omega
  | k + 1, j => by
    have ih := freeTo_le hb hp g k
    have hd := dayDone_le hb hp g (f := freeTo plan (b.ends g) (-1) (-1) k) (i := k) (m := 30 + 3 * k) (by omega) ih
    unfold freeTo
    rw [nth_set]
    split
    · push_cast; omega
    · have := ih j; push_cast; omega
theorem dayAt_le {b : Book} (hb : b.ok = true) {plan : List Task} (hp : plan.length ≤ 3) (g : Bool) {i : Nat} (hi : i < 3) : dayAt plan (b.ends g) (-1) (-1) i ≤ 47 := by
  have h1 := dayDone_le hb hp g (f := freeTo plan (b.ends g) (-1) (-1) i) (i := i) (m := 30 + 3 * i) (by omega) (freeTo_le hb hp g i)
  have h2 := ends_small hb g (nth plan i).third.toNat
  unfold dayAt
  omega
theorem lastTo_ge (l : List Span) : ∀ k i, i < k → (nth l i).high ≤ lastTo l k
  | 0, i, h => absurd h (Nat.not_lt_zero _)
  | k + 1, i, h => by
    unfold lastTo
    rcases Nat.lt_or_ge i k with hlt | hge
    · have := lastTo_ge l k i hlt; omega
    · have : i = k := by omega
      subst this; omega
theorem lastTo_le (l : List Span) {m : Int} (hm : 0 ≤ m) : ∀ k, (∀ i, i < k → (nth l i).high ≤ m) → lastTo l k ≤ m
  | 0, _ => hm
  | k + 1, h => by
    have := lastTo_le l hm k fun i hi => h i (by omega)
    have := h k (by omega)
    unfold lastTo
    omega
theorem good_len {b : Book} {p : List Task} (hb : b.ok = true) (hg : b.good p = true) : 1 ≤ p.length ∧ p.length ≤ 3 := by
  obtain ⟨_, _, o3, _⟩ := ok_spec hb
  have := (good_spec hg).1
  omega
theorem backs_rng {b : Book} {p : List Task} (hb : b.ok = true) (hg : b.good p = true) {i : Nat} (hi : i < p.length) : 2 ≤ (nth (backs b p) i).low ∧ (nth (backs b p) i).low ≤ (nth (backs b p) i).high ∧ (nth (backs b p) i).high ≤ 47 := by
  obtain ⟨l1, l2⟩ := good_len hb hg
  rw [backs_nth hi]
  dsimp only
  refine ⟨?_, days_mono (ends_le hb) (ends_pos hb true) hi, ?_⟩
  · rw [days_nth hi]
    have h1 := dayAt_least (plan := p) (t := b.ends false) (ends_pos hb false) (lost := -1) (c := -1) hi
    have hin := good_in hg i hi
    obtain ⟨_, _, _, o4, _⟩ := ok_spec hb
    have f1 := fine_spec (o4 (nth p i).one.toNat (by omega))
    have f3 := fine_spec (o4 (nth p i).third.toNat (by omega))
    have e1 : nth (b.ends false).sheet (nth p i).one.toNat = (nth b.comps (nth p i).one.toNat).sheet.low := by
      unfold Book.ends Book.endS; rw [nth_map (by omega)]; rfl
    have e3 : nth (b.ends false).look (nth p i).third.toNat = (nth b.comps (nth p i).third.toNat).look.low := by
      unfold Book.ends Book.endL; rw [nth_map (by omega)]; rfl
    have g1 := ends_small hb false (nth p i).one.toNat
    have g3 := ends_small hb false (nth p i).third.toNat
    omega
  · rw [days_nth hi]
    exact dayAt_le hb l2 true (by omega)
theorem last_rng {b : Book} {p : List Task} (hb : b.ok = true) (hg : b.good p = true) : 1 ≤ lastOf b p ∧ lastOf b p ≤ 47 := by
  obtain ⟨l1, l2⟩ := good_len hb hg
  unfold lastOf
  rw [backs_len]
  have h0 := backs_rng hb hg (i := 0) (by omega)
  have h1 := lastTo_ge (backs b p) p.length 0 (by omega)
  exact ⟨by omega, lastTo_le _ (by omega) _ fun i hi => (backs_rng hb hg hi).2.2⟩
theorem isProof_iff {b : Book} {p : List Task} (hb : b.ok = true) (hg : b.good p = true) : isProof b p = false ↔ ∀ i, i < p.length → (nth (backs b p) i).high ≤ nth b.dues (nth b.sheets i).toNat := by
  obtain ⟨_, _, _, _, o5, o6⟩ := ok_spec hb
  have hl := (good_spec hg).1
  unfold isProof
  rw [Bool.not_eq_false', List.all_eq_true]
  simp only [List.mem_range]
  constructor
  · intro h i hi
    have hs := o6 i (by omega)
    have := h (nth b.sheets i).toNat (by omega)
    rw [row_late, List.all_eq_true] at this
    have := this i (List.mem_range.2 (by rw [backs_len]; exact hi))
    unfold lateAt at this
    rw [Bool.not_eq_true', Bool.and_eq_false_iff, beq_eq_false_iff_ne, decide_eq_false_iff_not] at this
    rcases this with h | h
    · exact absurd (by omega) h
    · omega
  · intro h n hn
    rw [row_late, List.all_eq_true]
    intro i hi
    rw [List.mem_range, backs_len] at hi
    unfold lateAt
    rw [Bool.not_eq_true', Bool.and_eq_false_iff, beq_eq_false_iff_ne, decide_eq_false_iff_not]
    have := h i hi
    by_cases he : nth b.sheets i = (n : Int)
    · right
      rw [he] at this
      simpa using this
    · left; exact he
end Go.Vc.Gd
namespace Go.Vc.Gd
open Go Go.Proofs Go.Vc
def Book.dueAll (b : Book) (d : Int) : Book := ⟨b.comps, List.replicate b.dues.length d, b.sheets⟩
theorem dueAll_ok {b : Book} {d : Int} (hb : b.ok = true) (h0 : 0 ≤ d) (h1 : d ≤ 99) : (b.dueAll d).ok = true := by
  unfold Book.ok at hb ⊢
  simp only [Bool.and_eq_true, List.all_eq_true, inR_iff] at hb ⊢
  unfold Book.dueAll
  refine ⟨hb.1, ?_, hb.2.2.1, hb.2.2.2.1, fun x hx => ?_, fun x hx => ?_⟩
  · rw [List.length_replicate]; exact hb.2.1
  · rw [(List.mem_replicate.1 hx).2]; exact ⟨h0, h1⟩
  · have := hb.2.2.2.2.2 x hx
    unfold Book.isTable at this ⊢
    rw [List.length_replicate]
    exact this
theorem nth_replicate {n i : Nat} (d : Int) (h : i < n) : nth (List.replicate n d) i = d := by
  rw [nth_eq (by rw [List.length_replicate]; exact h), List.getElem_replicate]
theorem dueAll_sure {b : Book} {p : List Task} {d : Int} (hb : b.ok = true) (hg : b.good p = true) (h0 : 0 ≤ d) (h1 : d ≤ 99) : isProof (b.dueAll d) p = false ↔ lastOf b p ≤ d := by
  have hl := (good_spec hg).1
  obtain ⟨_, _, _, _, _, o6⟩ := ok_spec hb
  rw [isProof_iff (dueAll_ok hb h0 h1) hg]
  have hdue : ∀ i, i < p.length → nth (b.dueAll d).dues (nth (b.dueAll d).sheets i).toNat = d := by
    intro i hi
    have := o6 i (by omega)
    exact nth_replicate d (by show (nth b.sheets i).toNat < b.dues.length; omega)
  constructor
  · intro h
    unfold lastOf
    rw [backs_len]
    refine lastTo_le _ h0 _ fun i hi => ?_
    have := h i hi
    rw [hdue i hi] at this
    exact this
  · intro h i hi
    rw [hdue i hi]
    unfold lastOf at h
    rw [backs_len] at h
    have := lastTo_ge (backs b p) p.length i hi
    exact Int.le_trans this h
theorem plans_ne {b : Book} {p : List Task} (hg : b.good p = true) : b.plans.length ≠ 0 := by
  have := plans_has hg
  intro h
  rw [List.length_eq_zero_iff.1 h] at this
  cases this
theorem soon_first {b : Book} (hb : b.ok = true) (hn : b.plans.length ≠ 0) : (b.dueAll (lastOf b b.best)).all.length ≠ 0 := by
  obtain ⟨hg, _⟩ := best_spec hb hn
  have hr := last_rng hb hg
  have : b.best ∈ (b.dueAll (lastOf b b.best)).all := mem_all.2 ⟨hg, (dueAll_sure hb hg (by omega) (by omega)).2 (Int.le_refl _)⟩
  intro h
  rw [List.length_eq_zero_iff.1 h] at this
  cases this
theorem soon_none {b : Book} (hb : b.ok = true) (hn : b.plans.length ≠ 0) : (b.dueAll (lastOf b b.best - 1)).all.length = 0 := by
  obtain ⟨hg, hbest⟩ := best_spec hb hn
  have hr := last_rng hb hg
  rcases Nat.eq_zero_or_pos (b.dueAll (lastOf b b.best - 1)).all.length with h | h
  · exact h
  · have hm := nth_mem h
    obtain ⟨h1, h2⟩ := mem_all.1 hm
    have h1' : b.good (nth (b.dueAll (lastOf b b.best - 1)).all 0) = true := h1
    have := (dueAll_sure hb h1' (by omega) (by omega)).1 h2
    have := (hbest _ h1').1
    omega
structure SameTr (n : Nat) (t t' : Truth) : Prop where
  l1 : n ≤ t.post.length
  l2 : n ≤ t'.post.length
  post : ∀ i, i < n → nth t.post i = nth t'.post i
  sheet : ∀ i, i < n → nth t.sheet i = nth t'.sheet i
  look : ∀ i, i < n → nth t.look i = nth t'.look i
end Go.Vc.Gd
namespace Go.Vc.Gd
open Go Go.Proofs Go.Vc
end Go.Vc.Gd
namespace Go.Vc.Gd
open Go Go.Proofs Go.Vc
variable {Gl : World → Prop}
set_option maxRecDepth 100000
theorem Srf (n : Nat) (f : Nat → List C) : SEq n f n f := (SEq_refl n f).2 trivial
theorem kWhy (S : Set Tryz.prog Y Gl) (f : Nat → List C) (h : SEq 2 f exW.length fun i => eTask (nth exW i)) : Computes Tryz.prog Gl 23 [tBook exA, .d (.c (.s .n 2 f))] (.ret (.tup [.c (Ci 1), .c (Ci 4), .c (Ci 0)])) := by
  have h1 := why23 S exA exW
  rw [ex_whyS, ex_whyF, ex_whyErr] at h1
  exact h1.args ⟨Srf _ _, Srf _ _, Srf _ _, h⟩
theorem kWhen (S : Set Tryz.prog Y Gl) (f g h : Nat → List C) (hf : SEq 3 f exTruth.post.length fun i => eI (nth exTruth.post i)) (hg : SEq 3 g exTruth.sheet.length fun i => eI (nth exTruth.sheet i)) (hh : SEq 3 h exTruth.look.length fun i => eI (nth exTruth.look i)) : Computes Tryz.prog Gl 29 [tBook exA, L eTask exP, .d (.agg [.s .n 3 f, .s .n 3 g, .s .n 3 h])] (.ret (.tup [.c (.l eI [6, 6]), .c (Ci 0)])) := by
  have h1 := when29 S exA exP exTruth exA_ok exP_good exTruth_ok
  rw [ex_days] at h1
  exact h1.args ⟨Srf _ _, Srf _ _, Srf _ _, Srf _ _, hf, hg, hh⟩
theorem kBack (S : Set Tryz.prog Y Gl) : Computes Tryz.prog Gl 28 [tBook exA, L eTask exP] (.ret (.tup [.c (.l eSpan [⟨5, 8⟩, ⟨6, 11⟩]), .c (Ci 0)])) := by
  have h1 := back28 S exA exP exA_ok exP_good
  rw [ex_backs] at h1
  exact h1
theorem kTables (S : Set Tryz.prog Y Gl) : Computes Tryz.prog Gl 38 [tBook exA, L eTask exP] (.ret (.tup [.c (.l eI [3, 2]), .c (Ci 0)])) := by
  have h1 := tables38 S exA exP exA_ok exP_good
  rw [ex_tables] at h1
  exact h1
theorem kProof (S : Set Tryz.prog Y Gl) : Computes Tryz.prog Gl 40 [tBook exA, L eTask exP] (.ret (.tup [.c (Ci 1), .c (Ci 1), .c (Ci 11), .c (Ci 0)])) := by
  have h1 := proof40 S exA exP exA_ok exP_good
  rw [ex_proof1, ex_proof2, ex_proof3, ex_isProof] at h1
  exact h1
theorem kIdle (S : Set Tryz.prog Y Gl) : Computes Tryz.prog Gl 45 [tBook exA, L eTask exP] (.ret (.tup [.c (.l eI []), .c (Ci 0)])) := by
  have h1 := idle45 S exA exP exA_ok exP_good
  rw [ex_idle] at h1
  exact h1
theorem kLost (S : Set Tryz.prog Y Gl) : Computes Tryz.prog Gl 46 [tBook exA, L eTask exR, I 0, I 1] (.ret (.tup [.c (.l eSpan [⟨6, 13⟩, ⟨5, 8⟩]), .c (Ci 0)])) := by
  have h1 := lost46 S exA exR 0 1 exA_ok exR_good exA_sheet0 exA_comp1 exR_hand
  rw [ex_losts] at h1
  exact h1
theorem kFirst (S : Set Tryz.prog Y Gl) : Computes Tryz.prog Gl 49 [tBook exA] (.ret (.tup [.c (.l eTask exR), .c (Ci 0)])) := by
  have h1 := first49 S exA exA_ok
  rw [ex_first, ex_noFirst] at h1
  exact h1
theorem kCount (S : Set Tryz.prog Y Gl) : Computes Tryz.prog Gl 50 [tBook exA] (.ret (.tup [.c (Ci 1), .c (Ci 0)])) := by
  have h1 := count50 S exA exA_ok
  rw [ex_count] at h1
  exact h1
theorem kBest (S : Set Tryz.prog Y Gl) : Computes Tryz.prog Gl 51 [tBook exA] (.ret (.tup [.c (.l eTask exR), .c (Ci 9), .c (Ci 0)])) := by
  have h1 := best51 S exA exA_ok
  rw [ex_best, ex_plans] at h1
  exact h1
theorem kWho (S : Set Tryz.prog Y Gl) : Computes Tryz.prog Gl 57 [tBook exA, I 1] (.ret (.tup [.c (.l eI [0, 1]), .c (Ci 0)])) := by
  have h1 := who57 S exA 1 exA_ok exA_sheet1
  rw [ex_who] at h1
  exact h1
theorem kMore (S : Set Tryz.prog Y Gl) : Computes Tryz.prog Gl 64 [tBook exA, I 1] (.ret (.tup [.c (Ci 8), .c (Ci 0)])) := by
  have h1 := more64 S exA 1 exA_ok exA_comp1 (by decide)
  rw [ex_best1, ex_plans1] at h1
  exact h1
theorem kRead (S : Set Tryz.prog Y Gl) (hG : GlOK Gl) : Computes Tryz.prog Gl 70 [str [103, 105, 118, 101, 10, 99, 111, 109, 112, 117, 116, 101, 114, 32, 48, 32, 48, 32, 48, 32, 49, 32, 49, 32, 49, 32, 49, 10, 116, 97, 98, 108, 101, 32, 48, 10, 115, 104, 101, 101, 116, 32, 48, 10, 101, 110, 100, 32, 48, 51, 49, 10]] (.ret (.tup [.agg (cBook exT), .c (Ci 0)])) := by
  have h1 := read70 S txT exT (by decide) (parsed109some S hG txT (by decide) parse_txT) exT_ok
  exact h1
theorem kSame (S : Set Tryz.prog Y Gl) (f : Nat → List C) (h : SEq 2 f [(6 : Int), 6].length fun i => eI (nth [6, 6] i)) : Computes Tryz.prog Gl 34 [L eI [6, 6], .d (.c (.s .n 2 f))] (.ret (B true)) :=
  (show Computes Tryz.prog Gl 34 [L eI [6, 6], L eI [6, 6]] (.ret (B true)) from same34 S [6, 6] [6, 6]).args ⟨Srf _ _, h⟩
theorem kSame2 (S : Set Tryz.prog Y Gl) (f : Nat → List C) (h : SEq 2 f [(0 : Int), 1].length fun i => eI (nth [0, 1] i)) : Computes Tryz.prog Gl 34 [L eI [0, 1], .d (.c (.s .n 2 f))] (.ret (B true)) :=
  (show Computes Tryz.prog Gl 34 [L eI [0, 1], L eI [0, 1]] (.ret (B true)) from same34 S [0, 1] [0, 1]).args ⟨Srf _ _, h⟩
theorem kSpans (S : Set Tryz.prog Y Gl) (f : Nat → List C) (h : SEq 2 f [(⟨5, 8⟩ : Span), ⟨6, 11⟩].length fun i => eSpan (nth [⟨5, 8⟩, ⟨6, 11⟩] i)) : Computes Tryz.prog Gl 31 [L eSpan [⟨5, 8⟩, ⟨6, 11⟩], .d (.c (.s .n 2 f))] (.ret (B true)) :=
  (show Computes Tryz.prog Gl 31 [L eSpan [⟨5, 8⟩, ⟨6, 11⟩], L eSpan [⟨5, 8⟩, ⟨6, 11⟩]] (.ret (B true)) from sameSpans31 S [⟨5, 8⟩, ⟨6, 11⟩] [⟨5, 8⟩, ⟨6, 11⟩]).args ⟨Srf _ _, h⟩
theorem kSpans2 (S : Set Tryz.prog Y Gl) (f : Nat → List C) (h : SEq 2 f [(⟨6, 13⟩ : Span), ⟨5, 8⟩].length fun i => eSpan (nth [⟨6, 13⟩, ⟨5, 8⟩] i)) : Computes Tryz.prog Gl 31 [L eSpan [⟨6, 13⟩, ⟨5, 8⟩], .d (.c (.s .n 2 f))] (.ret (B true)) :=
  (show Computes Tryz.prog Gl 31 [L eSpan [⟨6, 13⟩, ⟨5, 8⟩], L eSpan [⟨6, 13⟩, ⟨5, 8⟩]] (.ret (B true)) from sameSpans31 S [⟨6, 13⟩, ⟨5, 8⟩] [⟨6, 13⟩, ⟨5, 8⟩]).args ⟨Srf _ _, h⟩
theorem kWords (S : Set Tryz.prog Y Gl) (f : Nat → List C) (h : SEq 2 f [(3 : Int), 2].length fun i => eI (nth [3, 2] i)) : Computes Tryz.prog Gl 41 [L eI [3, 2], .d (.c (.s .n 2 f))] (.ret (B true)) :=
  (show Computes Tryz.prog Gl 41 [L eI [3, 2], L eI [3, 2]] (.ret (B true)) from sameWords41 S [3, 2] [3, 2]).args ⟨Srf _ _, h⟩
theorem kPlans (S : Set Tryz.prog Y Gl) : Computes Tryz.prog Gl 54 [L eTask exR, L eTask exR] (.ret (B true)) := samePlans54 S exR exR
theorem kPrint (S : Set Tryz.prog Y Gl) : Computes Tryz.prog Gl 71 [tBook exT] (.ret (str txT)) := by
  have h1 := print71 S exT exT_low
  rw [exT_text] at h1
  exact h1
theorem known22 (S : Set Tryz.prog Y Gl) (hG : GlOK Gl) : Computes Tryz.prog Gl 22 [] (.ret (B true)) := by
  refine fn_is S (.r (.ret (tBook exA)) (.r (.ret (T.d (D.agg [Ci 0,Ci 1,Ci 2]))) (.r (.ret (T.d (D.agg [Ci 0,Ci 2,Ci 1]))) (.r (.ret (.tup [D.c (Ci 1),D.c (Ci 4),D.c (Ci 0)])) (.r (.ret (tBook exA)) (.r (.ret (L eTask exP)) (.r (.ret (.tup [D.c (C.l eI [(6:Int),(6:Int)]),D.c (Ci 0)])) (.r (.ret (tBook exA)) (.r (.ret (L eTask exP)) (.r (.ret (.tup [D.c (C.l eSpan [Span.mk (5:Int) (8:Int),Span.mk (6:Int) (11:Int)]),D.c (Ci 0)])) (.r (.ret (tBook exA)) (.r (.ret (L eTask exP)) (.r (.ret (.tup [D.c (C.l eI [(3:Int),(2:Int)]),D.c (Ci 0)])) (.r (.ret (tBook exA)) (.r (.ret (L eTask exP)) (.r (.ret (.tup [D.c (Ci 1),D.c (Ci 1),D.c (Ci 11),D.c (Ci 0)])) (.r (.ret (tBook exA)) (.r (.ret (L eTask exP)) (.r (.ret (.tup [D.c (C.l eI []),D.c (Ci 0)])) (.r (.ret (tBook exA)) (.r (.ret (L eTask exR)) (.r (.ret (.tup [D.c (C.l eSpan [Span.mk (6:Int) (13:Int),Span.mk (5:Int) (8:Int)]),D.c (Ci 0)])) (.r (.ret (tBook exA)) (.r (.ret (.tup [D.c (C.l eTask exR),D.c (Ci 0)])) (.r (.ret (tBook exA)) (.r (.ret (.tup [D.c (Ci 1),D.c (Ci 0)])) (.r (.ret (tBook exA)) (.r (.ret (.tup [D.c (C.l eTask exR),D.c (Ci 9),D.c (Ci 0)])) (.r (.ret (tBook exA)) (.r (.ret (.tup [D.c (C.l eI [(0:Int),(1:Int)]),D.c (Ci 0)])) (.r (.ret (tBook exA)) (.r (.ret (.tup [D.c (Ci 8),D.c (Ci 0)])) (.r (.ret (.tup [D.agg (cBook exT),D.c (Ci 0)])) (.sure 115 (.sure 116 (.sure 119 (.sure 120 (.sure 123 (.sure 124 (.sure 127 (.sure 128 (.sure 131 (.sure 132 (.sure 135 (.sure 136 (.sure 139 (.sure 140 (.sure 143 (.sure 144 (.sure 147 (.sure 148 (.sure 151 (.sure 152 (.sure 155 (.sure 156 (.sure 159 (.sure 160 (.ff (.sure 165 (.sure 166 (.sure 169 (.sure 170 (.sure 171 (.r (.ret (B true)) (.sure 172 (.sure 175 (.sure 176 (.r (.ret (T.d (D.agg [Ci 5,Ci 8]))) (.sure 177 (.r (.ret (T.d (D.agg [Ci 6,Ci 11]))) (.sure 178 (.sure 179 (.r (.ret (B true)) (.sure 180 (.sure 183 (.sure 184 (.sure 185 (.r (.ret (B true)) (.sure 186 (.sure 189 (.sure 190 (.sure 193 (.sure 194 (.sure 197 (.sure 198 (.sure 201 (.sure 202 (.sure 203 (.ff (.r (.ret (T.d (D.agg [Ci 6,Ci 13]))) (.r (.ret (T.d (D.agg [Ci 5,Ci 8]))) (.r (.ret (B true)) (.sure 211 (.sure 212 (.r (.ret (L eTask exR)) (.sure 213 (.r (.ret (B true)) (.sure 216 (.sure 217 (.sure 220 (.sure 221 (.r (.ret (L eTask exR)) (.sure 222 (.r (.ret (B true)) (.sure 225 (.sure 226 (.sure 229 (.sure 230 (.sure 231 (.r (.ret (B true)) (.sure 234 (.sure 235 (.sure 238 (.sure 239 (.r (.ret (str txT)) (.sure 240 .nil)))))))))))))))))))))))))))))))))))))))))))))))))))))))))))))))))))))))))))))))))))))))))))))))))))))))))))))))))))) Tryz.func22 (by kernel_rfl) (Computes Tryz.prog Gl 74 [] (.ret (tBook exA))∧Computes Tryz.prog Gl 75 [I 0,I 1,I 2] (.ret (T.d (D.agg [Ci 0,Ci 1,Ci 2])))∧Computes Tryz.prog Gl 75 [I 0,I 2,I 1] (.ret (T.d (D.agg [Ci 0,Ci 2,Ci 1])))∧Computes Tryz.prog Gl 23 [tBook exA,T.d (D.c (C.s Tag.n (2:Nat) fun i=>List.getD [List.map C.dem (List.map C.dem [C.v (Value.int IntKind.i64 (0:Int)),C.v (Value.int IntKind.i64 (1:Int)),C.v (Value.int IntKind.i64 (2:Int))]),List.map C.dem (List.map C.dem [C.v (Value.int IntKind.i64 (0:Int)),C.v (Value.int IntKind.i64 (2:Int)),C.v (Value.int IntKind.i64 (1:Int))])] i []))] (.ret (.tup [D.c (Ci 1),D.c (Ci 4),D.c (Ci 0)]))∧Computes Tryz.prog Gl 74 [] (.ret (tBook exA))∧Computes Tryz.prog Gl 76 [] (.ret (L eTask exP))∧Computes Tryz.prog Gl 29 [tBook exA,L eTask exP,T.d (D.agg [C.s Tag.n (3:Nat) fun i=>List.getD [List.map C.dem [C.v (Value.int IntKind.i64 (1:Int))],List.map C.dem [C.v (Value.int IntKind.i64 (0:Int))],List.map C.dem [C.v (Value.int IntKind.i64 (0:Int))]] i [],C.s Tag.n (3:Nat) fun i=>List.getD [List.map C.dem [C.v (Value.int IntKind.i64 (3:Int))],List.map C.dem [C.v (Value.int IntKind.i64 (1:Int))],List.map C.dem [C.v (Value.int IntKind.i64 (3:Int))]] i [],C.s Tag.n (3:Nat) fun i=>List.getD [List.map C.dem [C.v (Value.int IntKind.i64 (1:Int))],List.map C.dem [C.v (Value.int IntKind.i64 (1:Int))],List.map C.dem [C.v (Value.int IntKind.i64 (1:Int))]] i []])] (.ret (.tup [D.c (C.l eI [(6:Int),(6:Int)]),D.c (Ci 0)]))∧Computes Tryz.prog Gl 74 [] (.ret (tBook exA))∧Computes Tryz.prog Gl 76 [] (.ret (L eTask exP))∧Computes Tryz.prog Gl 28 [tBook exA,L eTask exP] (.ret (.tup [D.c (C.l eSpan [Span.mk (5:Int) (8:Int),Span.mk (6:Int) (11:Int)]),D.c (Ci 0)]))∧Computes Tryz.prog Gl 74 [] (.ret (tBook exA))∧Computes Tryz.prog Gl 76 [] (.ret (L eTask exP))∧Computes Tryz.prog Gl 38 [tBook exA,L eTask exP] (.ret (.tup [D.c (C.l eI [(3:Int),(2:Int)]),D.c (Ci 0)]))∧Computes Tryz.prog Gl 74 [] (.ret (tBook exA))∧Computes Tryz.prog Gl 76 [] (.ret (L eTask exP))∧Computes Tryz.prog Gl 40 [tBook exA,L eTask exP] (.ret (.tup [D.c (Ci 1),D.c (Ci 1),D.c (Ci 11),D.c (Ci 0)]))∧Computes Tryz.prog Gl 74 [] (.ret (tBook exA))∧Computes Tryz.prog Gl 76 [] (.ret (L eTask exP))∧Computes Tryz.prog Gl 45 [tBook exA,L eTask exP] (.ret (.tup [D.c (C.l eI []),D.c (Ci 0)]))∧Computes Tryz.prog Gl 74 [] (.ret (tBook exA))∧Computes Tryz.prog Gl 77 [] (.ret (L eTask exR))∧Computes Tryz.prog Gl 46 [tBook exA,L eTask exR,I 0,I 1] (.ret (.tup [D.c (C.l eSpan [Span.mk (6:Int) (13:Int),Span.mk (5:Int) (8:Int)]),D.c (Ci 0)]))∧Computes Tryz.prog Gl 74 [] (.ret (tBook exA))∧Computes Tryz.prog Gl 49 [tBook exA] (.ret (.tup [D.c (C.l eTask exR),D.c (Ci 0)]))∧Computes Tryz.prog Gl 74 [] (.ret (tBook exA))∧Computes Tryz.prog Gl 50 [tBook exA] (.ret (.tup [D.c (Ci 1),D.c (Ci 0)]))∧Computes Tryz.prog Gl 74 [] (.ret (tBook exA))∧Computes Tryz.prog Gl 51 [tBook exA] (.ret (.tup [D.c (C.l eTask exR),D.c (Ci 9),D.c (Ci 0)]))∧Computes Tryz.prog Gl 74 [] (.ret (tBook exA))∧Computes Tryz.prog Gl 57 [tBook exA,I 1] (.ret (.tup [D.c (C.l eI [(0:Int),(1:Int)]),D.c (Ci 0)]))∧Computes Tryz.prog Gl 74 [] (.ret (tBook exA))∧Computes Tryz.prog Gl 64 [tBook exA,I 1] (.ret (.tup [D.c (Ci 8),D.c (Ci 0)]))∧Computes Tryz.prog Gl 70 [str (have y:=have y:=have y:=[(110:UInt8),(100:UInt8),(32:UInt8),(48:UInt8),(51:UInt8),(49:UInt8),(10:UInt8)]; (101:UInt8)::(116:UInt8)::(32:UInt8)::(48:UInt8)::(10:UInt8)::(101:UInt8)::y; have y:=(101:UInt8)::(32:UInt8)::(48:UInt8)::(10:UInt8)::(115:UInt8)::(104:UInt8)::(101:UInt8)::y; (49:UInt8)::(10:UInt8)::(116:UInt8)::(97:UInt8)::(98:UInt8)::(108:UInt8)::y; have y:=have y:=(32:UInt8)::(49:UInt8)::(32:UInt8)::(49:UInt8)::(32:UInt8)::(49:UInt8)::(32:UInt8)::y; (32:UInt8)::(48:UInt8)::(32:UInt8)::(48:UInt8)::(32:UInt8)::(48:UInt8)::y; have y:=(111:UInt8)::(109:UInt8)::(112:UInt8)::(117:UInt8)::(116:UInt8)::(101:UInt8)::(114:UInt8)::y; (103:UInt8)::(105:UInt8)::(118:UInt8)::(101:UInt8)::(10:UInt8)::(99:UInt8)::y)] (.ret (.tup [D.agg (cBook exT),D.c (Ci 0)]))∧true=true∧true=true∧true=true∧true=true∧true=true∧true=true∧true=true∧true=true∧true=true∧true=true∧true=true∧true=true∧true=true∧true=true∧true=true∧true=true∧true=true∧true=true∧true=true∧true=true∧true=true∧true=true∧true=true∧true=true∧false=false∧true=true∧true=true∧true=true∧true=true∧true=true∧Computes Tryz.prog Gl 34 [L eI [(6:Int),(6:Int)],T.d (D.c (C.s Tag.n (2:Nat) fun i=>List.getD [List.map C.dem [C.v (Value.int IntKind.i64 (6:Int))],List.map C.dem [C.v (Value.int IntKind.i64 (6:Int))]] i []))] (.ret (B true))∧true=true∧true=true∧true=true∧Computes Tryz.prog Gl 39 [I 5,I 8] (.ret (T.d (D.agg [Ci 5,Ci 8])))∧true=true∧Computes Tryz.prog Gl 39 [I 6,I 11] (.ret (T.d (D.agg [Ci 6,Ci 11])))∧true=true∧true=true∧Computes Tryz.prog Gl 31 [L eSpan [Span.mk (5:Int) (8:Int),Span.mk (6:Int) (11:Int)],T.d (D.c (C.s Tag.n (2:Nat) fun i=>List.getD [List.map C.dem (List.map C.dem [C.v (Value.int IntKind.i64 (5:Int)),C.v (Value.int IntKind.i64 (8:Int))]),List.map C.dem (List.map C.dem [C.v (Value.int IntKind.i64 (6:Int)),C.v (Value.int IntKind.i64 (11:Int))])] i []))] (.ret (B true))∧true=true∧true=true∧true=true∧true=true∧Computes Tryz.prog Gl 41 [L eI [(3:Int),(2:Int)],T.d (D.c (C.s Tag.n (2:Nat) fun i=>List.getD [List.map C.dem [C.v (Value.int IntKind.i64 (3:Int))],List.map C.dem [C.v (Value.int IntKind.i64 (2:Int))]] i []))] (.ret (B true))∧true=true∧true=true∧true=true∧true=true∧true=true∧true=true∧true=true∧true=true∧true=true∧((0:Nat)≤maxLen→true=true∧false=false∧Computes Tryz.prog Gl 39 [I 6,I 13] (.ret (T.d (D.agg [Ci 6,Ci 13])))∧Computes Tryz.prog Gl 39 [I 5,I 8] (.ret (T.d (D.agg [Ci 5,Ci 8])))∧Computes Tryz.prog Gl 31 [L eSpan [Span.mk (6:Int) (13:Int),Span.mk (5:Int) (8:Int)],T.d (D.c (C.s Tag.n (2:Nat) fun i=>List.getD [List.map C.dem (List.map C.dem [C.v (Value.int IntKind.i64 (6:Int)),C.v (Value.int IntKind.i64 (13:Int))]),List.map C.dem (List.map C.dem [C.v (Value.int IntKind.i64 (5:Int)),C.v (Value.int IntKind.i64 (8:Int))])] i []))] (.ret (B true))∧true=true∧true=true∧Computes Tryz.prog Gl 77 [] (.ret (L eTask exR))∧true=true∧Computes Tryz.prog Gl 54 [L eTask exR,L eTask exR] (.ret (B true))∧true=true∧true=true∧true=true∧true=true∧Computes Tryz.prog Gl 77 [] (.ret (L eTask exR))∧true=true∧Computes Tryz.prog Gl 54 [L eTask exR,L eTask exR] (.ret (B true))∧true=true∧true=true∧true=true∧true=true∧true=true∧Computes Tryz.prog Gl 34 [L eI [(0:Int),(1:Int)],T.d (D.c (C.s Tag.n (2:Nat) fun i=>List.getD [List.map C.dem [C.v (Value.int IntKind.i64 (0:Int))],List.map C.dem [C.v (Value.int IntKind.i64 (1:Int))]] i []))] (.ret (B true))∧true=true∧true=true∧true=true∧true=true∧Computes Tryz.prog Gl 71 [tBook exT] (.ret (str txT))∧true=true∧true=true)) (by kernel_rfl) ?_
  have two : ∀ i, i < 2 → i = 0 ∨ i = 1 := fun i h => by omega
  have three : ∀ i, i < 3 → i = 0 ∨ i = 1 ∨ i = 2 := fun i h => by omega
  have t : (true = true) := rfl
  repeat' first | with_reducible apply And.intro | with_reducible intro _
  all_goals first
    | exact t
    | exact a74 S
    | exact p76 S
    | exact r77 S
    | exact task75 S _ _ _
    | exact span39 S _ _
    | exact kBack S
    | exact kTables S
    | exact kProof S
    | exact kIdle S
    | exact kLost S
    | exact kFirst S
    | exact kCount S
    | exact kBest S
    | exact kWho S
    | exact kMore S
    | exact kRead S hG
    | exact kPlans S
    | exact kPrint S
    | exact kWhy S _ ⟨rfl, fun i hi => by rcases two i hi with rfl | rfl <;> exact .inl rfl⟩
    | exact kWhen S _ _ _ ⟨rfl, fun i hi => by rcases three i hi with rfl | rfl | rfl <;> exact .inl rfl⟩ ⟨rfl, fun i hi => by rcases three i hi with rfl | rfl | rfl <;> exact .inl rfl⟩ ⟨rfl, fun i hi => by rcases three i hi with rfl | rfl | rfl <;> exact .inl rfl⟩
    | exact kSame S _ ⟨rfl, fun i hi => by rcases two i hi with rfl | rfl <;> exact .inl rfl⟩
    | exact kSame2 S _ ⟨rfl, fun i hi => by rcases two i hi with rfl | rfl <;> exact .inl rfl⟩
    | exact kSpans S _ ⟨rfl, fun i hi => by rcases two i hi with rfl | rfl <;> exact .inl rfl⟩
    | exact kSpans2 S _ ⟨rfl, fun i hi => by rcases two i hi with rfl | rfl <;> exact .inl rfl⟩
    | exact kWords S _ ⟨rfl, fun i hi => by rcases two i hi with rfl | rfl <;> exact .inl rfl⟩
    | rfl
    | skip
end Go.Vc.Gd
namespace Go.Vc.Gd
open Go Go.Proofs Go.Vc
variable {Gl : World → Prop}
theorem goodV (S : Set Tryz.prog Y Gl) (b : Book) (plan : List Task) {x : Bool} (h : okP b plan = x) : Computes Tryz.prog Gl 36 [tBook b, L eTask plan] (.ret (B x)) := by
  subst h; rw [okP_eq]; exact goodC S b plan
theorem goodRefV (S : Set Tryz.prog Y Gl) (b : Book) (plan : List Task) {x : Bool} (h : b.good plan = x) : Computes Tryz.prog Gl 59 [tBook b, L eTask plan] (.ret (B x)) := by
  subst h; exact good59 S b plan
end Go.Vc.Gd
namespace Go.Vc.Gd
open Go Go.Proofs Go.Vc
variable {Gl : World → Prop}
theorem firstT (S : Set Tryz.prog Y Gl) (b : Book) (hb : b.ok = true) (hn : b.all.length ≠ 0) : Computes Tryz.prog Gl 49 [tBook b] (.ret (.tup [.c (.l eTask (nth b.all 0)), .c (Ci 0)])) := by
  have h1 := firstA S b
  unfold ifL firstErr at h1
  have hn' : (b.all.length == 0) = false := beq_eq_false_iff_ne.2 hn
  rw [hb, hn'] at h1
  exact h1
theorem firstN' (S : Set Tryz.prog Y Gl) (b : Book) (hb : b.ok = true) (hn : b.all.length = 0) : Computes Tryz.prog Gl 49 [tBook b] (.ret (.tup [.c (.l eTask []), .c (Ci 5)])) := by
  have h1 := firstA S b
  unfold ifL firstErr at h1
  rw [hb, hn] at h1
  exact h1
theorem bestT (S : Set Tryz.prog Y Gl) (b : Book) (hb : b.ok = true) (hn : b.plans.length ≠ 0) : Computes Tryz.prog Gl 51 [tBook b] (.ret (.tup [.c (.l eTask b.best), .c (Ci (lastOf b b.best)), .c (Ci 0)])) := by
  have h1 := best51 S b hb
  have hn' : (b.plans.length == 0) = false := beq_eq_false_iff_ne.2 hn
  rw [plans_none, hn', soonest_eq (by rw [plans_none]; exact hn')] at h1
  exact h1
end Go.Vc.Gd
namespace Go.Vc.Gd
open Go Go.Proofs Go.Vc
structure ProofOK (b : Book) (plan : List Task) (n i : Nat) : Prop where
  hn : n < b.dues.length
  hi : i < plan.length
  on : nth b.sheets i = (n : Int)
  late : nth b.dues n < (nth (backs b plan) i).high
  word : wordAt b plan n ≠ 3
  rows : ∀ m, m < n → wordAt b plan m = 3
  before : ∀ j, j < i → nth b.sheets j = (n : Int) → (nth (backs b plan) j).high ≤ nth b.dues n
end Go.Vc.Gd
namespace Go.Vc.Gd
open Go Go.Proofs Go.Vc
variable {Gl : World → Prop}
set_option maxRecDepth 100000
end Go.Vc.Gd
namespace Go.Vc.Gd
open Go Go.Proofs Go.Vc
variable {Gl : World → Prop}
set_option maxRecDepth 100000
theorem last63 (S : Set Tryz.prog Y Gl) (b : Book) (plan : List Task) (hb : b.ok = true) (hg : b.good plan = true) (e1 : (((backs b plan).length : Int) != (plan.length : Int)) = false) : Computes Tryz.prog Gl 63 [tBook b, L eTask plan] (.ret (I (lastOf b plan))) := by
  refine fn_is S (.r (.ret (.tup [D.c (C.l eSpan (backs b plan)),D.c (Ci 0)])) (.sure 18 (.sure 19 (.sure 20 (.sure 21 (.val 22 false (.sure 22 (.ff (.loop (List.length (backs b plan)) (fun k=>[v 8 (I ↑k),v 7 (I (lastTo (backs b plan) k)),v 5 (L eSpan (backs b plan))]) fun k0=>.br .nil .nil))))))))) Tryz.func63 (by kernel_rfl) (Computes Tryz.prog Gl 28 [tBook b,L eTask plan] (.ret (.tup [D.c (C.l eSpan (backs b plan)),D.c (Ci 0)]))∧true=true∧true=true∧(List.length (backs b plan)≤maxLen→true=true∧true=true∧(plan.length≤maxLen→((↑(List.length (backs b plan)):Int) != (↑plan.length:Int))=false∧true=true∧false=false∧((0:Int)=(↑(0:Nat):Int)∧(0:Int)=lastTo (backs b plan) (0:Nat)∧SEq (List.length (backs b plan)) (fun i=>eSpan (nth (backs b plan) i)) (List.length (backs b plan)) fun i=>eSpan (nth (backs b plan) i))∧∀ (k0:Nat),k0≤List.length (backs b plan)→List.length (backs b plan)≤maxLen→(decide ((↑k0:Int)<(↑(List.length (backs b plan)):Int))=true→((0:Int)≤(↑k0:Int)∧(↑k0:Int)<(↑(List.length (backs b plan)):Int))∧inRange IntKind.i64 ((↑k0:Int)+(1:Int))∧k0<List.length (backs b plan)∧(↑k0:Int)+(1:Int)=(↑(k0+(1:Nat)):Int)∧max (lastTo (backs b plan) k0) (nth (backs b plan) k0).2=lastTo (backs b plan) (k0+(1:Nat))∧SEq (List.length (backs b plan)) (fun i=>eSpan (nth (backs b plan) i)) (List.length (backs b plan)) fun i=>eSpan (nth (backs b plan) i))∧(decide ((↑k0:Int)<(↑(List.length (backs b plan)):Int))=false→lastTo (backs b plan) k0=lastOf b plan)))) (by kernel_rfl) ?_
  simp only [stdS, imp_self, implies_true, and_true, Bool.false_and, Bool.true_and, Bool.and_true, Bool.and_false, Bool.false_or, Bool.true_or, Bool.or_false, Bool.or_true, Bool.false_eq_true, false_implies, true_implies, e1, decide_eq_true_eq, decide_eq_false_iff_not, maxLen_eq, rng_iff]
  refine ⟨back28 S b plan hb hg, fun _ _ => ⟨⟨rfl, trivial⟩, fun k hk hl0 => ⟨fun hl => ⟨by omega, by omega, by omega, by omega, rfl, trivial⟩, fun hl => ?_⟩⟩⟩
  have hke : k = (backs b plan).length := by omega
  rw [hke]; rfl
theorem lastT (S : Set Tryz.prog Y Gl) (b : Book) (plan : List Task) (hb : b.ok = true) (hg : b.good plan = true) : Computes Tryz.prog Gl 63 [tBook b, L eTask plan] (.ret (I (lastOf b plan))) :=
  last63 S b plan hb hg (by rw [backs_len]; simp)
end Go.Vc.Gd
