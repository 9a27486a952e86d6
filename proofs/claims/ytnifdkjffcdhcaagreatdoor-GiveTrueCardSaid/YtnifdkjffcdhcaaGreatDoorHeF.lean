/- A part of the proofs over layer 6 (give): the program and the specification; no condition. -/
import Derived.Test.YtnifdkjffcdhcaaGreatDoorHeE
set_option linter.all false
set_option linter.unusedSimpArgs false
set_option linter.unusedVariables false
namespace Go.Vc.Gd
open Go Go.Proofs Go.Vc
theorem outTo_eq (rows : List (List UInt8)) : ∀ k, k ≤ rows.length → outTo rows k = (rows.take k).flatMap fun r => r ++ [10]
  | 0, _ => by simp [outTo]
  | k + 1, h => by
    rw [outTo, outTo_eq rows k (by omega), take_succ (by omega), List.flatMap_append]
    simp
theorem outTo_all (rows : List (List UInt8)) : outTo rows rows.length = rows.flatMap fun r => r ++ [10] := by
  rw [outTo_eq rows _ (Nat.le_refl _), List.take_length]
theorem splitL_rows (c : UInt8) (e : List UInt8) : ∀ (rows : List (List UInt8)), (∀ r ∈ rows, c ∉ r) → splitL c ((rows.flatMap fun r => r ++ [c]) ++ e) = rows ++ splitL c e
  | [], _ => rfl
  | r :: rows, h => by
    have ih := splitL_rows c e rows fun x hx => h x (List.mem_cons_of_mem _ hx)
    rw [List.flatMap_cons, List.append_assoc, List.append_assoc, List.singleton_append, splitL_app c _ _ (h r List.mem_cons_self), ih]
    rfl
theorem dec_small {n : Int} (h : sm n) : dec n = decS n.toNat := by
  obtain ⟨m, rfl⟩ := Int.eq_ofNat_of_zero_le h.1
  have hm : m < 100 := by have := h.2; omega
  exact dec_eq hm
theorem decS_bytes : ∀ n : Nat, n < 100 → (decS n).all isDig = true := by decide
theorem dec_bytes {n : Int} (h : sm n) {c : UInt8} (hc : c ∈ dec n) : isDig c = true := by
  rw [dec_small h] at hc
  exact List.all_eq_true.1 (decS_bytes n.toNat (by have := h.2; have := h.1; omega)) c hc
theorem dec_none {n : Int} (h : sm n) {c : UInt8} (hc : isDig c = false) : c ∉ dec n := fun hh => by
  rw [dec_bytes h hh] at hc; cases hc
theorem splitL_nums (w : List UInt8) (hw : (32 : UInt8) ∉ w) : ∀ (l : List Int), (∀ n ∈ l, sm n) → splitL 32 (w ++ nums l) = w :: l.map dec
  | [], _ => by rw [show nums [] = [] from rfl, List.append_nil, splitL_none 32 w hw]; rfl
  | n :: l, h => by
    have ih := splitL_nums (dec n) (dec_none (h n List.mem_cons_self) rfl) l fun x hx => h x (List.mem_cons_of_mem _ hx)
    have e : nums (n :: l) = 32 :: (dec n ++ nums l) := by unfold nums; simp
    rw [e, splitL_app 32 w _ hw, ih]
    rfl
theorem lnW_no : ∀ l : Ln, (32 : UInt8) ∉ lnW l ∧ (10 : UInt8) ∉ lnW l
  | .head => by show (32 : UInt8) ∉ lGive ∧ (10 : UInt8) ∉ lGive; decide
  | .comp _ => by show (32 : UInt8) ∉ lComputer ∧ (10 : UInt8) ∉ lComputer; decide
  | .due _ => by show (32 : UInt8) ∉ lTable ∧ (10 : UInt8) ∉ lTable; decide
  | .sheet _ => by show (32 : UInt8) ∉ lSheet ∧ (10 : UInt8) ∉ lSheet; decide
theorem nums_no10 : ∀ {l : List Int}, (∀ n ∈ l, sm n) → (10 : UInt8) ∉ nums l
  | [], _ => by simp [nums]
  | n :: l, h => by
    have ih := nums_no10 (l := l) fun x hx => h x (List.mem_cons_of_mem _ hx)
    have e : nums (n :: l) = 32 :: (dec n ++ nums l) := by unfold nums; simp
    have h1 := dec_none (h n List.mem_cons_self) (c := 10) rfl
    rw [e]
    simp only [List.mem_cons, List.mem_append, not_or]
    exact ⟨by decide, h1, ih⟩
theorem lnT_no10 {l : Ln} (h : ∀ n ∈ lnN l, sm n) : (10 : UInt8) ∉ lnT l := by
  unfold lnT
  simp only [List.mem_append, not_or]
  exact ⟨(lnW_no l).2, nums_no10 h⟩
theorem lnT_split {l : Ln} (h : ∀ n ∈ lnN l, sm n) : splitL 32 (lnT l) = lnW l :: (lnN l).map dec := splitL_nums _ (lnW_no l).1 _ h
theorem lnT_tl {l : Ln} (h : ∀ n ∈ lnN l, sm n) : tl (lnT l) = (lnN l).map dec := by unfold tl; rw [lnT_split h]; rfl
theorem lnT_hd {l : Ln} (h : ∀ n ∈ lnN l, sm n) : hd (lnT l) = lnW l := by unfold hd; rw [lnT_split h]; rfl
theorem numV_dec {n : Int} (h : sm n) : numV (dec n) = n := by unfold numV; rw [numOf_dec h]; rfl
theorem isNum_dec {n : Int} (h : sm n) : isNum (dec n) = true := by unfold isNum; rw [numOf_dec h]; rfl
theorem map_numV : ∀ {l : List Int}, (∀ n ∈ l, sm n) → (l.map dec).map numV = l
  | [], _ => rfl
  | n :: l, h => by
    rw [List.map_cons, List.map_cons, numV_dec (h n List.mem_cons_self), map_numV (l := l) fun x hx => h x (List.mem_cons_of_mem _ hx)]
theorem lnT_ns {l : Ln} (h : ∀ n ∈ lnN l, sm n) : ns (lnT l) = lnN l := by
  unfold ns nsTo
  rw [List.take_length, lnT_tl h, map_numV h]
def addLn (b : Book) : Ln → Book
  | .head => b
  | .comp c => ⟨b.comps ++ [c], b.dues, b.sheets⟩
  | .due n => ⟨b.comps, b.dues ++ [n], b.sheets⟩
  | .sheet n => ⟨b.comps, b.dues, b.sheets ++ [n]⟩
def Ln.isHead : Ln → Bool
  | .head => true
  | _ => false
theorem rowOK_ln {l : Ln} (h : ∀ n ∈ lnN l, sm n) (hh : l.isHead = false) : rowOK (lnT l) = true := by
  unfold rowOK rowShape
  rw [lnT_ns h, lnT_hd h, lnT_tl h, Bool.and_eq_true]
  constructor
  · rw [List.all_eq_true]
    intro x hx
    obtain ⟨n, hn, rfl⟩ := List.mem_map.1 hx
    exact isNum_dec (h n hn)
  · cases l with
    | head => cases hh
    | comp c => rfl
    | due n => rfl
    | sheet n => rfl
theorem rowB_ln {b : Book} {l : Ln} (h : ∀ n ∈ lnN l, sm n) (hh : l.isHead = false) : rowB b (lnT l) = addLn b l := by
  unfold rowB
  rw [lnT_ns h, lnT_hd h]
  cases l with
  | head => cases hh
  | comp c => rfl
  | due n => rfl
  | sheet n => rfl
theorem bookTo_ln (ls : List Ln) (h : ∀ l ∈ ls, (∀ n ∈ lnN l, sm n) ∧ l.isHead = false) : ∀ k, k ≤ ls.length → bookTo (ls.map lnT) k = (ls.take k).foldl addLn ⟨[], [], []⟩
  | 0, _ => by simp [bookTo]
  | k + 1, hk => by
    have hm := h _ (nth_mem (l := ls) (k := k) (by omega))
    rw [bookTo, bookTo_ln ls h k (by omega), nth_map (by omega), rowB_ln hm.1 hm.2, take_succ (by omega), List.foldl_append]
    rfl
theorem fold_comp : ∀ (l : List Comp) (b : Book), (l.map Ln.comp).foldl addLn b = ⟨b.comps ++ l, b.dues, b.sheets⟩
  | [], b => by simp
  | c :: l, b => by rw [List.map_cons, List.foldl_cons, fold_comp l]; simp [addLn]
theorem fold_due : ∀ (l : List Int) (b : Book), (l.map Ln.due).foldl addLn b = ⟨b.comps, b.dues ++ l, b.sheets⟩
  | [], b => by simp
  | c :: l, b => by rw [List.map_cons, List.foldl_cons, fold_due l]; simp [addLn]
theorem fold_sheet : ∀ (l : List Int) (b : Book), (l.map Ln.sheet).foldl addLn b = ⟨b.comps, b.dues, b.sheets ++ l⟩
  | [], b => by simp
  | c :: l, b => by rw [List.map_cons, List.foldl_cons, fold_sheet l]; simp [addLn]
theorem sumTo_nonneg (w : List UInt8) (i : Nat) : ∀ k, 0 ≤ sumTo w i k
  | 0 => Int.le_refl _
  | k + 1 => by
    have := sumTo_nonneg w i k
    unfold sumTo
    have h2 : (0 : Int) ≤ ((nth w k).toNat : Int) * ((k : Int) + 1) * ((i : Int) + 1) := by
      have : ((nth w k).toNat : Int) * ((k : Int) + 1) * ((i : Int) + 1) = (((nth w k).toNat * (k + 1) * (i + 1) : Nat) : Int) := by push_cast; rfl
      rw [this]; exact Int.natCast_nonneg _
    omega
theorem checkTo_nonneg (rows : List (List UInt8)) : ∀ i, 0 ≤ checkTo rows i
  | 0 => Int.le_refl _
  | i + 1 => by
    have h1 := checkTo_nonneg rows i
    have h2 := sumTo_nonneg (nth rows i) i (nth rows i).length
    unfold checkTo
    omega
theorem checkOf_range (rows : List (List UInt8)) : 0 ≤ checkOf rows ∧ checkOf rows < 251 := by
  have h := checkTo_nonneg rows rows.length
  unfold checkOf
  rw [Int.tmod_eq_emod_of_nonneg h]
  omega
theorem check_digits (rows : List (List UInt8)) : sm (Int.tdiv (checkOf rows) 100) ∧ sm (Int.tmod (Int.tdiv (checkOf rows) 10) 10) ∧ sm (Int.tmod (checkOf rows) 10) := by
  have h := checkOf_range rows
  have h2 : 0 ≤ checkOf rows / 10 := by omega
  unfold sm
  rw [Int.tdiv_eq_ediv_of_nonneg h.1, Int.tdiv_eq_ediv_of_nonneg h.1, Int.tmod_eq_emod_of_nonneg h2, Int.tmod_eq_emod_of_nonneg h.1]
  omega
def sealLn (rows : List (List UInt8)) : List UInt8 := lEnd ++ dec (Int.tdiv (checkOf rows) 100) ++ dec (Int.tmod (Int.tdiv (checkOf rows) 10) 10) ++ dec (Int.tmod (checkOf rows) 10)
theorem sealLn_no (rows : List (List UInt8)) : (10 : UInt8) ∉ sealLn rows := by
  obtain ⟨h1, h2, h3⟩ := check_digits rows
  unfold sealLn
  simp only [List.mem_append, not_or]
  exact ⟨⟨⟨by decide, dec_none h1 rfl⟩, dec_none h2 rfl⟩, dec_none h3 rfl⟩
theorem sealed_split (rows : List (List UInt8)) (h : ∀ r ∈ rows, (10 : UInt8) ∉ r) : splitL 10 (sealed rows) = rows ++ [sealLn rows, []] := by
  have e : sealed rows = (rows.flatMap fun r => r ++ [10]) ++ (sealLn rows ++ 10 :: []) := by
    unfold sealed sealLn
    rw [outTo_all]
    simp only [List.append_assoc]
  rw [e, splitL_rows 10 _ rows h, splitL_app 10 _ _ (sealLn_no rows)]
  rfl
theorem rows_no10 {b : Book} (hb : b.low) : ∀ r ∈ b.rows, (10 : UInt8) ∉ r := by
  intro r hr
  unfold Book.rows at hr
  obtain ⟨l, hl, rfl⟩ := List.mem_map.1 hr
  exact lnT_no10 (hb.n l hl)
def Book.body (b : Book) : List Ln := b.comps.map .comp ++ b.dues.map .due ++ b.sheets.map .sheet
theorem body_head {b : Book} : ∀ l ∈ b.body, l.isHead = false := by
  intro l hl
  unfold Book.body at hl
  simp only [List.mem_append, List.mem_map] at hl
  rcases hl with (⟨_, _, rfl⟩ | ⟨_, _, rfl⟩) | ⟨_, _, rfl⟩ <;> rfl
theorem body_fold (b : Book) : b.body.foldl addLn ⟨[], [], []⟩ = b := by
  unfold Book.body
  rw [List.foldl_append, List.foldl_append, fold_comp, fold_due, fold_sheet]
  simp
theorem text_split {b : Book} (hb : b.low) : splitL 10 b.text = b.rows ++ [sealLn b.rows, []] := sealed_split _ (rows_no10 hb)
theorem rows_cons (b : Book) : b.rows = lnT .head :: b.body.map lnT := rfl
theorem text_mid {b : Book} (hb : b.low) : mid b.text = b.body.map lnT := by
  unfold mid
  rw [text_split hb, rows_cons]
  simp
theorem parse_of_text {b : Book} (hb : b.low) : parse b.text = some b := by
  have hn : ∀ l ∈ b.body, (∀ n ∈ lnN l, sm n) ∧ l.isHead = false := fun l hl => ⟨hb.n l (List.mem_cons_of_mem _ hl), body_head l hl⟩
  have hbook : bookTo (b.body.map lnT) (b.body.map lnT).length = b := by
    rw [List.length_map, bookTo_ln _ hn _ (Nat.le_refl _), List.take_length, body_fold]
  have hall : (b.body.map lnT).all rowOK = true := by
    rw [List.all_eq_true]
    intro r hr
    obtain ⟨l, hl, rfl⟩ := List.mem_map.1 hr
    exact rowOK_ln (hn l hl).1 (hn l hl).2
  have h3 : 3 ≤ (splitL 10 b.text).length := by
    rw [text_split hb, rows_cons]; simp
  unfold parse
  rw [text_mid hb, hbook, hall, decide_eq_true h3, beq_self_eq_true]
  rfl
def numsS (l : List Int) : List UInt8 := l.flatMap fun n => 32 :: decS n.toNat
def Book.rowsS (b : Book) : List (List UInt8) := b.lns.map fun l => lnW l ++ numsS (lnN l)
def sealedS (rows : List (List UInt8)) : List UInt8 := outTo rows rows.length ++ lEnd ++ decS (Int.tdiv (checkOf rows) 100).toNat ++ decS (Int.tmod (Int.tdiv (checkOf rows) 10) 10).toNat ++ decS (Int.tmod (checkOf rows) 10).toNat ++ [10]
theorem nums_S : ∀ {l : List Int}, (∀ n ∈ l, sm n) → nums l = numsS l
  | [], _ => rfl
  | n :: l, h => by
    have ih := nums_S (l := l) fun x hx => h x (List.mem_cons_of_mem _ hx)
    unfold nums numsS at ih ⊢
    rw [List.flatMap_cons, List.flatMap_cons, ih, dec_small (h n List.mem_cons_self)]
theorem rows_S {b : Book} (hb : b.low) : b.rows = b.rowsS := by
  unfold Book.rows Book.rowsS
  refine List.map_congr_left fun l hl => ?_
  unfold lnT
  rw [nums_S (hb.n l hl)]
theorem text_S {b : Book} (hb : b.low) : b.text = sealedS b.rowsS := by
  obtain ⟨h1, h2, h3⟩ := check_digits b.rowsS
  unfold Book.text sealed sealedS
  rw [rows_S hb, dec_small h1, dec_small h2, dec_small h3]
def exT : Book := ⟨[⟨0, ⟨0, 0⟩, ⟨1, 1⟩, ⟨1, 1⟩⟩], [0], [0]⟩
def txT : List UInt8 := [103, 105, 118, 101, 10, 99, 111, 109, 112, 117, 116, 101, 114, 32, 48, 32, 48, 32, 48, 32, 49, 32, 49, 32, 49, 32, 49, 10, 116, 97, 98, 108, 101, 32, 48, 10, 115, 104, 101, 101, 116, 32, 48, 10, 101, 110, 100, 32, 48, 51, 49, 10]
theorem exT_ok : exT.ok = true := by kernel_rfl
theorem exT_low : exT.low := ok_low exT_ok
theorem exT_text : exT.text = txT := by rw [text_S exT_low]; kernel_rfl
theorem parse_txT : parse txT = some exT := by rw [← exT_text]; exact parse_of_text exT_low
end Go.Vc.Gd
namespace Go.Vc.Gd
open Go Go.Proofs Go.Vc
def exW : List Task := [⟨0, 1, 2⟩, ⟨0, 2, 1⟩]
def exTruth : Truth := ⟨[1, 0, 0], [3, 1, 3], [1, 1, 1]⟩
theorem exA_ok : exA.ok = true := by kernel_rfl
theorem exP_good : exA.good exP = true := by kernel_rfl
theorem exR_good : exA.good exR = true := by kernel_rfl
theorem exTruth_ok : exTruth.ok exA = true := by kernel_rfl
theorem exA_sheet0 : exA.isSheet 0 = true := by kernel_rfl
theorem exA_sheet1 : exA.isSheet 1 = true := by kernel_rfl
theorem exA_comp1 : exA.isComp 1 = true := by kernel_rfl
theorem exR_hand : hand (nth exR (Int.toNat 0)) 1 = true := by kernel_rfl
theorem ex_whyS : whyS exA exW = 1 := by kernel_rfl
theorem ex_whyF : whyF exA exW = 4 := by kernel_rfl
theorem ex_whyErr : whyErr exA exW = 0 := by kernel_rfl
theorem ex_days : days exP exTruth (-1) (-1) = [6, 6] := by kernel_rfl
theorem ex_backs : backs exA exP = [⟨5, 8⟩, ⟨6, 11⟩] := by kernel_rfl
theorem ex_tables : tables exA exP = [3, 2] := by kernel_rfl
theorem ex_proof1 : proof1 exA exP = 1 := by kernel_rfl
theorem ex_proof2 : proof2 exA exP = 1 := by kernel_rfl
theorem ex_proof3 : proof3 exA exP = 11 := by kernel_rfl
theorem ex_isProof : isProof exA exP = true := by kernel_rfl
theorem ex_idle : idleTo exP exA.comps.length = [] := by kernel_rfl
theorem ex_losts : losts exA exR 0 1 = [⟨6, 13⟩, ⟨5, 8⟩] := by kernel_rfl
theorem ex_plans : (allPlans exA).length = 4 := by kernel_rfl
theorem ex_first : firstPlan exA = exR := by kernel_rfl
theorem ex_noFirst : noFirst exA = false := by kernel_rfl
theorem ex_count : countTo exA (allPlans exA).length = 1 := by kernel_rfl
theorem ex_best : soonest exA = ⟨exR, 9⟩ := by kernel_rfl
theorem ex_hands : handsTo exA 1 (allPlans exA).length = [0, 1] := by kernel_rfl
theorem ex_plans1 : (allPlans (exA.withOne 1)).length = 64 := by kernel_rfl
theorem ex_best1 : (soonest (exA.withOne 1)).day = 8 := by kernel_rfl
theorem ex_who : sortedOnce (handsTo exA 1 (allPlans exA).length) = [0, 1] := by
  rw [ex_hands]
  unfold sortedOnce
  rw [List.mergeSort_of_pairwise (by decide)]
  rfl
end Go.Vc.Gd
namespace Go.Vc.Gd
open Go Go.Proofs Go.Vc
section
variable {α : Type} [Inhabited α]
end
theorem isSheet_iff {b : Book} {s : Int} : b.isSheet s = true ↔ 0 ≤ s ∧ s < b.sheets.length := by
  unfold Book.isSheet
  rw [inR_iff]
  omega
end Go.Vc.Gd
namespace Go.Vc
theorem Computes.weak {P : Program} {Gl : World → Prop} {f : FuncId} {args : List T} {xs ys : List D} (h : Computes P Gl f args (.ret (.tup xs))) (hl : conjT (leDs xs ys)) : Computes P Gl f args (.ret (.tup ys)) :=
  ⟨h.1, fun vis w vs h1 h2 h3 => (h.2 vis w vs h1 h2 h3).mono fun _ _ ⟨hb, v, vis', he, e1, e2, us, hu, hr⟩ => ⟨hb, v, vis', he, e1, e2, us, hu, leDs_rel (conjT_iff hl) hr⟩⟩
end Go.Vc
namespace Go.Vc.Gd
open Go Go.Proofs Go.Vc
variable {Gl : World → Prop}
section
variable {α : Type} [Inhabited α]
end
theorem isWhy_good {b : Book} {plan : List Task} (h : (plan.length == b.sheets.length) = true) : b.good plan = !b.isWhy plan := by
  unfold Book.good
  rw [h, Bool.true_and]
theorem openErr_zero {b : Book} {plan : List Task} (h : openErr b plan = 0) : b.ok = true ∧ b.good plan = true := by
  unfold openErr at h
  cases h1 : b.ok <;> cases h2 : (plan.length == b.sheets.length) <;> cases h3 : b.isWhy plan <;> rw [h1, h2, h3] at h <;> first | exact absurd h (by decide) | exact ⟨rfl, by rw [isWhy_good h2, h3]; rfl⟩
theorem openErr_good {b : Book} {plan : List Task} (hb : b.ok = true) (hg : b.good plan = true) : openErr b plan = 0 := by
  unfold Book.good at hg
  rw [Bool.and_eq_true] at hg
  unfold openErr
  rw [hb, hg.1]
  have : b.isWhy plan = false := by simpa using hg.2
  rw [this]; rfl
theorem goodC (S : Set Tryz.prog Y Gl) (b : Book) (plan : List Task) : Computes Tryz.prog Gl 36 [tBook b, L eTask plan] (.ret (B (b.ok && b.good plan))) := by
  have h := good36 S b plan
  have e : (bif (bif b.ok then decide (plan.length ≤ 5) else false) then b.good plan else false) = (b.ok && b.good plan) := by
    cases h1 : b.ok with
    | false => rfl
    | true =>
      cases h2 : b.good plan with
      | false => cases decide (plan.length ≤ 5) <;> rfl
      | true =>
        have h3 := (good_spec h2).1
        obtain ⟨_, _, o3, _⟩ := ok_spec h1
        have : decide (plan.length ≤ 5) = true := by simp; omega
        rw [this]; rfl
  rw [e] at h
  exact h
def okP (b : Book) (plan : List Task) : Bool := openErr b plan == 0
theorem okP_iff {b : Book} {plan : List Task} : okP b plan = true ↔ b.ok = true ∧ b.good plan = true := by
  unfold okP
  rw [beq_iff_eq]
  exact ⟨openErr_zero, fun h => openErr_good h.1 h.2⟩
theorem okP_eq (b : Book) (plan : List Task) : okP b plan = (b.ok && b.good plan) := by
  rw [Bool.eq_iff_iff, okP_iff, Bool.and_eq_true]
end Go.Vc.Gd
namespace Go.Vc.Gd
open Go Go.Proofs Go.Vc
structure LeTr (t t' : Truth) : Prop where
  len : t.post.length = t'.post.length
  post : ∀ i, nth t.post i ≤ nth t'.post i
  sheet : ∀ i, nth t.sheet i ≤ nth t'.sheet i
  look : ∀ i, nth t.look i ≤ nth t'.look i
theorem LeTr.refl (t : Truth) : LeTr t t := ⟨rfl, fun _ => Int.le_refl _, fun _ => Int.le_refl _, fun _ => Int.le_refl _⟩
theorem counts_mono {t : Task} {i : Nat} {s c : Int} {l l' : Bool} (h : l = true → l' = true) (hc : counts t i s c l = true) : counts t i s c l' = true := by
  unfold counts at hc ⊢
  rw [Bool.and_eq_true, Bool.or_eq_true] at hc ⊢
  exact ⟨hc.1, hc.2.imp id h⟩
theorem manyTo_mono {plan : List Task} {s c : Int} {l l' : Bool} (h : l = true → l' = true) : ∀ k, manyTo plan s c l k ≤ manyTo plan s c l' k
  | 0 => Nat.le_refl _
  | k + 1 => by
    have ih := manyTo_mono (plan := plan) (s := s) (c := c) h k
    unfold manyTo
    cases hc : counts (nth plan k) k s c l with
    | true => rw [counts_mono h hc]; simp only [cond_true]; omega
    | false => simp only [cond_false]; omega
theorem many_mono {plan : List Task} {s c : Int} {l l' : Bool} (h : l = true → l' = true) : many plan s c l ≤ many plan s c l' := by
  have := manyTo_mono (plan := plan) (s := s) (c := c) h plan.length
  unfold many
  cases hl : l with
  | true => rw [h hl]; subst hl; rw [h rfl] at this; exact Nat.add_le_add_right this _
  | false => subst hl; simp only [cond_false]; omega
theorem home_mono {plan : List Task} {t t' : Truth} (h : LeTr t t') (hn : ∀ i, 0 ≤ nth t'.sheet i) {s c : Int} {l l' : Bool} (hl : l = true → l' = true) : home plan t s c l ≤ home plan t' s c l' := by
  unfold home
  have h1 := h.post c.toNat
  have h2 := Int.mul_le_mul_of_nonneg_left (h.sheet c.toNat) (Int.natCast_nonneg (many plan s c l))
  have h3 : ((many plan s c l : Nat) : Int) ≤ many plan s c l' := by exact_mod_cast many_mono hl
  have h4 := Int.mul_le_mul_of_nonneg_right h3 (hn c.toNat)
  omega
theorem dayDone_mono {plan : List Task} {t t' : Truth} (h : LeTr t t') (hn : ∀ i, 0 ≤ nth t'.sheet i) {lost c lost' c' : Int} {f f' : List Int} (hf : ∀ m, nth f m ≤ nth f' m) {i : Nat}
    (hl : ∀ x, ((i : Int) == lost && x == c) = true → ((i : Int) == lost' && x == c') = true) : dayDone plan t lost c f i ≤ dayDone plan t' lost' c' f' i := by
  unfold dayDone
  have h1 := home_mono (plan := plan) h hn (s := i) (c := (nth plan i).one) (hl (nth plan i).one)
  have h2 := home_mono (plan := plan) h hn (s := i) (c := (nth plan i).other) (hl (nth plan i).other)
  have h3 := h.post (nth plan i).third.toNat
  have h4 := h.look (nth plan i).third.toNat
  have h5 := hf (nth plan i).third.toNat
  omega
theorem freeTo_mono {plan : List Task} {t t' : Truth} (h : LeTr t t') (hn : ∀ i, 0 ≤ nth t'.sheet i) {lost c lost' c' : Int} :
    ∀ k, (∀ j : Nat, j < k → ∀ x, ((j : Int) == lost && x == c) = true → ((j : Int) == lost' && x == c') = true) → ∀ m, nth (freeTo plan t lost c k) m ≤ nth (freeTo plan t' lost' c' k) m
  | 0, _, m => by
    unfold freeTo
    rw [h.len]
    exact Int.le_refl _
  | k + 1, hl, m => by
    have ih := freeTo_mono h hn (plan := plan) k fun j hj => hl j (by omega)
    have hd := dayDone_mono (plan := plan) h hn ih (hl k (by omega))
    unfold freeTo
    rw [nth_set, nth_set, freeTo_len, freeTo_len, h.len]
    split
    · exact hd
    · exact ih m
theorem dayAt_mono {plan : List Task} {t t' : Truth} (h : LeTr t t') (hn : ∀ i, 0 ≤ nth t'.sheet i) {lost c lost' c' : Int} {i : Nat} (hl : ∀ j : Nat, j ≤ i → ∀ x, ((j : Int) == lost && x == c) = true → ((j : Int) == lost' && x == c') = true) :
    dayAt plan t lost c i ≤ dayAt plan t' lost' c' i := by
  have h1 := dayDone_mono (plan := plan) h hn (freeTo_mono (plan := plan) h hn i fun j hj => hl j (by omega)) (hl i (by omega))
  have h2 := h.post (nth plan i).third.toNat
  unfold dayAt
  omega
theorem days_nth {plan : List Task} {t : Truth} {lost c : Int} {i : Nat} (hi : i < plan.length) : nth (days plan t lost c) i = dayAt plan t lost c i := by
  unfold days
  rw [nth_map (by rw [List.length_range]; exact hi), nth_range hi]
theorem no_lost (j : Nat) (x : Int) (p : Prop) : ((j : Int) == -1 && x == -1) = true → p := by
  intro h
  rw [Bool.and_eq_true, beq_iff_eq] at h
  omega
theorem days_mono {plan : List Task} {t t' : Truth} (h : LeTr t t') (hn : ∀ i, 0 ≤ nth t'.sheet i) {i : Nat} (hi : i < plan.length) : nth (days plan t (-1) (-1)) i ≤ nth (days plan t' (-1) (-1)) i := by
  rw [days_nth hi, days_nth hi]
  exact dayAt_mono h hn fun j _ x => no_lost j x _
theorem nth_map0 {f : Comp → Int} {l : List Comp} {i : Nat} : nth (l.map f) i = if i < l.length then f (nth l i) else 0 := by
  split
  · exact nth_map (by omega)
  · rw [nth_ge (by rw [List.length_map]; omega)]; rfl
theorem truth_spec {b : Book} {t : Truth} (h : t.ok b = true) : (t.post.length = b.comps.length ∧ t.sheet.length = b.comps.length ∧ t.look.length = b.comps.length) ∧
    ∀ i, i < b.comps.length → ((nth b.comps i).post.low ≤ nth t.post i ∧ nth t.post i ≤ (nth b.comps i).post.high) ∧ ((nth b.comps i).sheet.low ≤ nth t.sheet i ∧ nth t.sheet i ≤ (nth b.comps i).sheet.high) ∧ ((nth b.comps i).look.low ≤ nth t.look i ∧ nth t.look i ≤ (nth b.comps i).look.high) := by
  unfold Truth.ok at h
  simp only [Bool.and_eq_true, beq_iff_eq, List.all_eq_true, List.mem_range] at h
  obtain ⟨h1, h2, h3, h4⟩ := h
  refine ⟨⟨h1, h2, h3⟩, fun i hi => ?_⟩
  have := h4 i hi
  unfold truthAt at this
  simp only [Bool.and_eq_true, inR_iff] at this
  exact this
theorem low_le {b : Book} {t : Truth} (h : t.ok b = true) : LeTr (b.ends false) t := by
  obtain ⟨⟨h1, h2, h3⟩, h4⟩ := truth_spec h
  unfold Book.ends Book.endP Book.endS Book.endL Span.end
  refine ⟨by simp [h1], fun i => ?_, fun i => ?_, fun i => ?_⟩ <;> dsimp only <;> rw [nth_map0] <;> split
  · exact (h4 i ‹_›).1.1
  · rw [nth_ge (l := t.post) (by omega)]; exact Int.le_refl _
  · exact (h4 i ‹_›).2.1.1
  · rw [nth_ge (l := t.sheet) (by omega)]; exact Int.le_refl _
  · exact (h4 i ‹_›).2.2.1
  · rw [nth_ge (l := t.look) (by omega)]; exact Int.le_refl _
theorem high_le {b : Book} {t : Truth} (h : t.ok b = true) : LeTr t (b.ends true) := by
  obtain ⟨⟨h1, h2, h3⟩, h4⟩ := truth_spec h
  unfold Book.ends Book.endP Book.endS Book.endL Span.end
  refine ⟨by simp [h1], fun i => ?_, fun i => ?_, fun i => ?_⟩ <;> dsimp only <;> rw [nth_map0] <;> split
  · exact (h4 i ‹_›).1.2
  · rw [nth_ge (l := t.post) (by omega)]; exact Int.le_refl _
  · exact (h4 i ‹_›).2.1.2
  · rw [nth_ge (l := t.sheet) (by omega)]; exact Int.le_refl _
  · exact (h4 i ‹_›).2.2.2
  · rw [nth_ge (l := t.look) (by omega)]; exact Int.le_refl _
theorem comp_spec {b : Book} (hb : b.ok = true) {i : Nat} (hi : i < b.comps.length) : (0 ≤ (nth b.comps i).post.low ∧ (nth b.comps i).post.low ≤ (nth b.comps i).post.high) ∧ (0 ≤ (nth b.comps i).sheet.low ∧ (nth b.comps i).sheet.low ≤ (nth b.comps i).sheet.high) ∧ (0 ≤ (nth b.comps i).look.low ∧ (nth b.comps i).look.low ≤ (nth b.comps i).look.high) := by
  obtain ⟨_, _, _, o4, _⟩ := ok_spec hb
  have := fine_spec (o4 i hi)
  omega
theorem ends_pos {b : Book} (hb : b.ok = true) (g : Bool) (i : Nat) : 0 ≤ nth (b.ends g).sheet i := (small_ends hb g).2.1 i |>.1
theorem manyTo_pos {plan : List Task} {s c : Int} {l : Bool} {i : Nat} (hc : counts (nth plan i) i s c l = true) : ∀ k, i < k → 1 ≤ manyTo plan s c l k
  | 0, h => absurd h (Nat.not_lt_zero _)
  | k + 1, h => by
    unfold manyTo
    rcases Nat.lt_or_ge i k with hlt | hge
    · have := manyTo_pos hc k hlt; omega
    · have : i = k := by omega
      subst this
      rw [hc]; simp only [cond_true]; omega
theorem home_least {plan : List Task} {t : Truth} (hn : ∀ i, 0 ≤ nth t.sheet i) {i : Nat} {c : Int} {l : Bool} (hi : i < plan.length) (hh : hand (nth plan i) c = true) : 2 * nth t.post c.toNat + nth t.sheet c.toNat ≤ home plan t i c l := by
  have h1 : 1 ≤ many plan i c l := by
    have := manyTo_pos (s := (i : Int)) (c := c) (l := l) (plan := plan) (i := i) (by unfold counts; rw [hh]; simp) plan.length hi
    unfold many
    omega
  have h2 : (1 : Int) ≤ (many plan i c l : Nat) := by exact_mod_cast h1
  have h3 := Int.mul_le_mul_of_nonneg_right h2 (hn c.toNat)
  unfold home
  omega
theorem dayAt_least {plan : List Task} {t : Truth} (hn : ∀ i, 0 ≤ nth t.sheet i) {lost c : Int} {i : Nat} (hi : i < plan.length) :
    max (2 * nth t.post (nth plan i).one.toNat + nth t.sheet (nth plan i).one.toNat) (2 * nth t.post (nth plan i).other.toNat + nth t.sheet (nth plan i).other.toNat) + 2 * nth t.post (nth plan i).third.toNat + nth t.look (nth plan i).third.toNat ≤ dayAt plan t lost c i := by
  have h1 := home_least (plan := plan) hn (l := ((i : Int) == lost && (nth plan i).one == c)) hi (c := (nth plan i).one) (by unfold hand; simp)
  have h2 := home_least (plan := plan) hn (l := ((i : Int) == lost && (nth plan i).other == c)) hi (c := (nth plan i).other) (by unfold hand; simp)
  unfold dayAt dayDone
  omega
end Go.Vc.Gd
namespace Go.Vc.Gd
open Go Go.Proofs Go.Vc
section
variable {α : Type} [Inhabited α]
end
end Go.Vc.Gd
namespace Go.Vc.Gd
open Go Go.Proofs Go.Vc
end Go.Vc.Gd
namespace Go.Vc.Gd
open Go Go.Proofs Go.Vc
structure SameTr (n : Nat) (t t' : Truth) : Prop where
  l1 : n ≤ t.post.length
  l2 : n ≤ t'.post.length
  post : ∀ i, i < n → nth t.post i = nth t'.post i
  sheet : ∀ i, i < n → nth t.sheet i = nth t'.sheet i
  look : ∀ i, i < n → nth t.look i = nth t'.look i
end Go.Vc.Gd
namespace Go.Vc.Gd
open Go Go.Proofs Go.Vc
theorem eqL_refl : ∀ l : List Int, eqL l l = true
  | [] => rfl
  | x :: l => by unfold eqL; rw [eqL_refl l]; simp
end Go.Vc.Gd
namespace Go.Vc.Gd
open Go Go.Proofs Go.Vc
variable {Gl : World → Prop}
set_option maxRecDepth 100000
theorem Srf (n : Nat) (f : Nat → List C) : SEq n f n f := (SEq_refl n f).2 trivial
theorem kWhy (S : Set Tryz.prog Y Gl) (f : Nat → List C) (h : SEq 2 f exW.length fun i => eTask (nth exW i)) : Computes Tryz.prog Gl 23 [tBook exA, .d (.c (.s .n 2 f))] (.ret (.tup [.c (Ci 1), .c (Ci 4), .c (Ci 0)])) := by
  have h1 := why23 S exA exW
  rw [ex_whyS, ex_whyF, ex_whyErr] at h1
  exact h1.args ⟨Srf _ _, Srf _ _, Srf _ _, h⟩
theorem kWhen (S : Set Tryz.prog Y Gl) (f g h : Nat → List C) (hf : SEq 3 f exTruth.post.length fun i => eI (nth exTruth.post i)) (hg : SEq 3 g exTruth.sheet.length fun i => eI (nth exTruth.sheet i)) (hh : SEq 3 h exTruth.look.length fun i => eI (nth exTruth.look i)) : Computes Tryz.prog Gl 29 [tBook exA, L eTask exP, .d (.agg [.s .n 3 f, .s .n 3 g, .s .n 3 h])] (.ret (.tup [.c (.l eI [6, 6]), .c (Ci 0)])) := by
  have h1 := when29 S exA exP exTruth exA_ok exP_good exTruth_ok
  rw [ex_days] at h1
  exact h1.args ⟨Srf _ _, Srf _ _, Srf _ _, Srf _ _, hf, hg, hh⟩
theorem kBack (S : Set Tryz.prog Y Gl) : Computes Tryz.prog Gl 28 [tBook exA, L eTask exP] (.ret (.tup [.c (.l eSpan [⟨5, 8⟩, ⟨6, 11⟩]), .c (Ci 0)])) := by
  have h1 := back28 S exA exP exA_ok exP_good
  rw [ex_backs] at h1
  exact h1
theorem kTables (S : Set Tryz.prog Y Gl) : Computes Tryz.prog Gl 38 [tBook exA, L eTask exP] (.ret (.tup [.c (.l eI [3, 2]), .c (Ci 0)])) := by
  have h1 := tables38 S exA exP exA_ok exP_good
  rw [ex_tables] at h1
  exact h1
theorem kProof (S : Set Tryz.prog Y Gl) : Computes Tryz.prog Gl 40 [tBook exA, L eTask exP] (.ret (.tup [.c (Ci 1), .c (Ci 1), .c (Ci 11), .c (Ci 0)])) := by
  have h1 := proof40 S exA exP exA_ok exP_good
  rw [ex_proof1, ex_proof2, ex_proof3, ex_isProof] at h1
  exact h1
theorem kIdle (S : Set Tryz.prog Y Gl) : Computes Tryz.prog Gl 45 [tBook exA, L eTask exP] (.ret (.tup [.c (.l eI []), .c (Ci 0)])) := by
  have h1 := idle45 S exA exP exA_ok exP_good
  rw [ex_idle] at h1
  exact h1
theorem kLost (S : Set Tryz.prog Y Gl) : Computes Tryz.prog Gl 46 [tBook exA, L eTask exR, I 0, I 1] (.ret (.tup [.c (.l eSpan [⟨6, 13⟩, ⟨5, 8⟩]), .c (Ci 0)])) := by
  have h1 := lost46 S exA exR 0 1 exA_ok exR_good exA_sheet0 exA_comp1 exR_hand
  rw [ex_losts] at h1
  exact h1
theorem kFirst (S : Set Tryz.prog Y Gl) : Computes Tryz.prog Gl 49 [tBook exA] (.ret (.tup [.c (.l eTask exR), .c (Ci 0)])) := by
  have h1 := first49 S exA exA_ok
  rw [ex_first, ex_noFirst] at h1
  exact h1
theorem kCount (S : Set Tryz.prog Y Gl) : Computes Tryz.prog Gl 50 [tBook exA] (.ret (.tup [.c (Ci 1), .c (Ci 0)])) := by
  have h1 := count50 S exA exA_ok
  rw [ex_count] at h1
  exact h1
theorem kBest (S : Set Tryz.prog Y Gl) : Computes Tryz.prog Gl 51 [tBook exA] (.ret (.tup [.c (.l eTask exR), .c (Ci 9), .c (Ci 0)])) := by
  have h1 := best51 S exA exA_ok
  rw [ex_best, ex_plans] at h1
  exact h1
theorem kWho (S : Set Tryz.prog Y Gl) : Computes Tryz.prog Gl 57 [tBook exA, I 1] (.ret (.tup [.c (.l eI [0, 1]), .c (Ci 0)])) := by
  have h1 := who57 S exA 1 exA_ok exA_sheet1
  rw [ex_who] at h1
  exact h1
theorem kMore (S : Set Tryz.prog Y Gl) : Computes Tryz.prog Gl 64 [tBook exA, I 1] (.ret (.tup [.c (Ci 8), .c (Ci 0)])) := by
  have h1 := more64 S exA 1 exA_ok exA_comp1 (by decide)
  rw [ex_best1, ex_plans1] at h1
  exact h1
theorem kRead (S : Set Tryz.prog Y Gl) (hG : GlOK Gl) : Computes Tryz.prog Gl 70 [str [103, 105, 118, 101, 10, 99, 111, 109, 112, 117, 116, 101, 114, 32, 48, 32, 48, 32, 48, 32, 49, 32, 49, 32, 49, 32, 49, 10, 116, 97, 98, 108, 101, 32, 48, 10, 115, 104, 101, 101, 116, 32, 48, 10, 101, 110, 100, 32, 48, 51, 49, 10]] (.ret (.tup [.agg (cBook exT), .c (Ci 0)])) := by
  have h1 := read70 S txT exT (by decide) (parsed109some S hG txT (by decide) parse_txT) exT_ok
  exact h1
theorem kSame (S : Set Tryz.prog Y Gl) (f : Nat → List C) (h : SEq 2 f [(6 : Int), 6].length fun i => eI (nth [6, 6] i)) : Computes Tryz.prog Gl 34 [L eI [6, 6], .d (.c (.s .n 2 f))] (.ret (B true)) :=
  (show Computes Tryz.prog Gl 34 [L eI [6, 6], L eI [6, 6]] (.ret (B true)) from same34 S [6, 6] [6, 6]).args ⟨Srf _ _, h⟩
theorem kSame2 (S : Set Tryz.prog Y Gl) (f : Nat → List C) (h : SEq 2 f [(0 : Int), 1].length fun i => eI (nth [0, 1] i)) : Computes Tryz.prog Gl 34 [L eI [0, 1], .d (.c (.s .n 2 f))] (.ret (B true)) :=
  (show Computes Tryz.prog Gl 34 [L eI [0, 1], L eI [0, 1]] (.ret (B true)) from same34 S [0, 1] [0, 1]).args ⟨Srf _ _, h⟩
theorem kSpans (S : Set Tryz.prog Y Gl) (f : Nat → List C) (h : SEq 2 f [(⟨5, 8⟩ : Span), ⟨6, 11⟩].length fun i => eSpan (nth [⟨5, 8⟩, ⟨6, 11⟩] i)) : Computes Tryz.prog Gl 31 [L eSpan [⟨5, 8⟩, ⟨6, 11⟩], .d (.c (.s .n 2 f))] (.ret (B true)) :=
  (show Computes Tryz.prog Gl 31 [L eSpan [⟨5, 8⟩, ⟨6, 11⟩], L eSpan [⟨5, 8⟩, ⟨6, 11⟩]] (.ret (B true)) from sameSpans31 S [⟨5, 8⟩, ⟨6, 11⟩] [⟨5, 8⟩, ⟨6, 11⟩]).args ⟨Srf _ _, h⟩
theorem kSpans2 (S : Set Tryz.prog Y Gl) (f : Nat → List C) (h : SEq 2 f [(⟨6, 13⟩ : Span), ⟨5, 8⟩].length fun i => eSpan (nth [⟨6, 13⟩, ⟨5, 8⟩] i)) : Computes Tryz.prog Gl 31 [L eSpan [⟨6, 13⟩, ⟨5, 8⟩], .d (.c (.s .n 2 f))] (.ret (B true)) :=
  (show Computes Tryz.prog Gl 31 [L eSpan [⟨6, 13⟩, ⟨5, 8⟩], L eSpan [⟨6, 13⟩, ⟨5, 8⟩]] (.ret (B true)) from sameSpans31 S [⟨6, 13⟩, ⟨5, 8⟩] [⟨6, 13⟩, ⟨5, 8⟩]).args ⟨Srf _ _, h⟩
theorem kWords (S : Set Tryz.prog Y Gl) (f : Nat → List C) (h : SEq 2 f [(3 : Int), 2].length fun i => eI (nth [3, 2] i)) : Computes Tryz.prog Gl 41 [L eI [3, 2], .d (.c (.s .n 2 f))] (.ret (B true)) :=
  (show Computes Tryz.prog Gl 41 [L eI [3, 2], L eI [3, 2]] (.ret (B true)) from sameWords41 S [3, 2] [3, 2]).args ⟨Srf _ _, h⟩
theorem kPlans (S : Set Tryz.prog Y Gl) : Computes Tryz.prog Gl 54 [L eTask exR, L eTask exR] (.ret (B true)) := samePlans54 S exR exR
theorem kPrint (S : Set Tryz.prog Y Gl) : Computes Tryz.prog Gl 71 [tBook exT] (.ret (str txT)) := by
  have h1 := print71 S exT exT_low
  rw [exT_text] at h1
  exact h1
theorem known22 (S : Set Tryz.prog Y Gl) (hG : GlOK Gl) : Computes Tryz.prog Gl 22 [] (.ret (B true)) := by
  refine fn_is S (.r (.ret (tBook exA)) (.r (.ret (T.d (D.agg [Ci 0,Ci 1,Ci 2]))) (.r (.ret (T.d (D.agg [Ci 0,Ci 2,Ci 1]))) (.r (.ret (.tup [D.c (Ci 1),D.c (Ci 4),D.c (Ci 0)])) (.r (.ret (tBook exA)) (.r (.ret (L eTask exP)) (.r (.ret (.tup [D.c (C.l eI [(6:Int),(6:Int)]),D.c (Ci 0)])) (.r (.ret (tBook exA)) (.r (.ret (L eTask exP)) (.r (.ret (.tup [D.c (C.l eSpan [Span.mk (5:Int) (8:Int),Span.mk (6:Int) (11:Int)]),D.c (Ci 0)])) (.r (.ret (tBook exA)) (.r (.ret (L eTask exP)) (.r (.ret (.tup [D.c (C.l eI [(3:Int),(2:Int)]),D.c (Ci 0)])) (.r (.ret (tBook exA)) (.r (.ret (L eTask exP)) (.r (.ret (.tup [D.c (Ci 1),D.c (Ci 1),D.c (Ci 11),D.c (Ci 0)])) (.r (.ret (tBook exA)) (.r (.ret (L eTask exP)) (.r (.ret (.tup [D.c (C.l eI []),D.c (Ci 0)])) (.r (.ret (tBook exA)) (.r (.ret (L eTask exR)) (.r (.ret (.tup [D.c (C.l eSpan [Span.mk (6:Int) (13:Int),Span.mk (5:Int) (8:Int)]),D.c (Ci 0)])) (.r (.ret (tBook exA)) (.r (.ret (.tup [D.c (C.l eTask exR),D.c (Ci 0)])) (.r (.ret (tBook exA)) (.r (.ret (.tup [D.c (Ci 1),D.c (Ci 0)])) (.r (.ret (tBook exA)) (.r (.ret (.tup [D.c (C.l eTask exR),D.c (Ci 9),D.c (Ci 0)])) (.r (.ret (tBook exA)) (.r (.ret (.tup [D.c (C.l eI [(0:Int),(1:Int)]),D.c (Ci 0)])) (.r (.ret (tBook exA)) (.r (.ret (.tup [D.c (Ci 8),D.c (Ci 0)])) (.r (.ret (.tup [D.agg (cBook exT),D.c (Ci 0)])) (.sure 115 (.sure 116 (.sure 119 (.sure 120 (.sure 123 (.sure 124 (.sure 127 (.sure 128 (.sure 131 (.sure 132 (.sure 135 (.sure 136 (.sure 139 (.sure 140 (.sure 143 (.sure 144 (.sure 147 (.sure 148 (.sure 151 (.sure 152 (.sure 155 (.sure 156 (.sure 159 (.sure 160 (.ff (.sure 165 (.sure 166 (.sure 169 (.sure 170 (.sure 171 (.r (.ret (B true)) (.sure 172 (.sure 175 (.sure 176 (.r (.ret (T.d (D.agg [Ci 5,Ci 8]))) (.sure 177 (.r (.ret (T.d (D.agg [Ci 6,Ci 11]))) (.sure 178 (.sure 179 (.r (.ret (B true)) (.sure 180 (.sure 183 (.sure 184 (.sure 185 (.r (.ret (B true)) (.sure 186 (.sure 189 (.sure 190 (.sure 193 (.sure 194 (.sure 197 (.sure 198 (.sure 201 (.sure 202 (.sure 203 (.ff (.r (.ret (T.d (D.agg [Ci 6,Ci 13]))) (.r (.ret (T.d (D.agg [Ci 5,Ci 8]))) (.r (.ret (B true)) (.sure 211 (.sure 212 (.r (.ret (L eTask exR)) (.sure 213 (.r (.ret (B true)) (.sure 216 (.sure 217 (.sure 220 (.sure 221 (.r (.ret (L eTask exR)) (.sure 222 (.r (.ret (B true)) (.sure 225 (.sure 226 (.sure 229 (.sure 230 (.sure 231 (.r (.ret (B true)) (.sure 234 (.sure 235 (.sure 238 (.sure 239 (.r (.ret (str txT)) (.sure 240 .nil)))))))))))))))))))))))))))))))))))))))))))))))))))))))))))))))))))))))))))))))))))))))))))))))))))))))))))))))))))) Tryz.func22 (by kernel_rfl) (Computes Tryz.prog Gl 74 [] (.ret (tBook exA))∧Computes Tryz.prog Gl 75 [I 0,I 1,I 2] (.ret (T.d (D.agg [Ci 0,Ci 1,Ci 2])))∧Computes Tryz.prog Gl 75 [I 0,I 2,I 1] (.ret (T.d (D.agg [Ci 0,Ci 2,Ci 1])))∧Computes Tryz.prog Gl 23 [tBook exA,T.d (D.c (C.s Tag.n (2:Nat) fun i=>List.getD [List.map C.dem (List.map C.dem [C.v (Value.int IntKind.i64 (0:Int)),C.v (Value.int IntKind.i64 (1:Int)),C.v (Value.int IntKind.i64 (2:Int))]),List.map C.dem (List.map C.dem [C.v (Value.int IntKind.i64 (0:Int)),C.v (Value.int IntKind.i64 (2:Int)),C.v (Value.int IntKind.i64 (1:Int))])] i []))] (.ret (.tup [D.c (Ci 1),D.c (Ci 4),D.c (Ci 0)]))∧Computes Tryz.prog Gl 74 [] (.ret (tBook exA))∧Computes Tryz.prog Gl 76 [] (.ret (L eTask exP))∧Computes Tryz.prog Gl 29 [tBook exA,L eTask exP,T.d (D.agg [C.s Tag.n (3:Nat) fun i=>List.getD [List.map C.dem [C.v (Value.int IntKind.i64 (1:Int))],List.map C.dem [C.v (Value.int IntKind.i64 (0:Int))],List.map C.dem [C.v (Value.int IntKind.i64 (0:Int))]] i [],C.s Tag.n (3:Nat) fun i=>List.getD [List.map C.dem [C.v (Value.int IntKind.i64 (3:Int))],List.map C.dem [C.v (Value.int IntKind.i64 (1:Int))],List.map C.dem [C.v (Value.int IntKind.i64 (3:Int))]] i [],C.s Tag.n (3:Nat) fun i=>List.getD [List.map C.dem [C.v (Value.int IntKind.i64 (1:Int))],List.map C.dem [C.v (Value.int IntKind.i64 (1:Int))],List.map C.dem [C.v (Value.int IntKind.i64 (1:Int))]] i []])] (.ret (.tup [D.c (C.l eI [(6:Int),(6:Int)]),D.c (Ci 0)]))∧Computes Tryz.prog Gl 74 [] (.ret (tBook exA))∧Computes Tryz.prog Gl 76 [] (.ret (L eTask exP))∧Computes Tryz.prog Gl 28 [tBook exA,L eTask exP] (.ret (.tup [D.c (C.l eSpan [Span.mk (5:Int) (8:Int),Span.mk (6:Int) (11:Int)]),D.c (Ci 0)]))∧Computes Tryz.prog Gl 74 [] (.ret (tBook exA))∧Computes Tryz.prog Gl 76 [] (.ret (L eTask exP))∧Computes Tryz.prog Gl 38 [tBook exA,L eTask exP] (.ret (.tup [D.c (C.l eI [(3:Int),(2:Int)]),D.c (Ci 0)]))∧Computes Tryz.prog Gl 74 [] (.ret (tBook exA))∧Computes Tryz.prog Gl 76 [] (.ret (L eTask exP))∧Computes Tryz.prog Gl 40 [tBook exA,L eTask exP] (.ret (.tup [D.c (Ci 1),D.c (Ci 1),D.c (Ci 11),D.c (Ci 0)]))∧Computes Tryz.prog Gl 74 [] (.ret (tBook exA))∧Computes Tryz.prog Gl 76 [] (.ret (L eTask exP))∧Computes Tryz.prog Gl 45 [tBook exA,L eTask exP] (.ret (.tup [D.c (C.l eI []),D.c (Ci 0)]))∧Computes Tryz.prog Gl 74 [] (.ret (tBook exA))∧Computes Tryz.prog Gl 77 [] (.ret (L eTask exR))∧Computes Tryz.prog Gl 46 [tBook exA,L eTask exR,I 0,I 1] (.ret (.tup [D.c (C.l eSpan [Span.mk (6:Int) (13:Int),Span.mk (5:Int) (8:Int)]),D.c (Ci 0)]))∧Computes Tryz.prog Gl 74 [] (.ret (tBook exA))∧Computes Tryz.prog Gl 49 [tBook exA] (.ret (.tup [D.c (C.l eTask exR),D.c (Ci 0)]))∧Computes Tryz.prog Gl 74 [] (.ret (tBook exA))∧Computes Tryz.prog Gl 50 [tBook exA] (.ret (.tup [D.c (Ci 1),D.c (Ci 0)]))∧Computes Tryz.prog Gl 74 [] (.ret (tBook exA))∧Computes Tryz.prog Gl 51 [tBook exA] (.ret (.tup [D.c (C.l eTask exR),D.c (Ci 9),D.c (Ci 0)]))∧Computes Tryz.prog Gl 74 [] (.ret (tBook exA))∧Computes Tryz.prog Gl 57 [tBook exA,I 1] (.ret (.tup [D.c (C.l eI [(0:Int),(1:Int)]),D.c (Ci 0)]))∧Computes Tryz.prog Gl 74 [] (.ret (tBook exA))∧Computes Tryz.prog Gl 64 [tBook exA,I 1] (.ret (.tup [D.c (Ci 8),D.c (Ci 0)]))∧Computes Tryz.prog Gl 70 [str (have y:=have y:=have y:=[(110:UInt8),(100:UInt8),(32:UInt8),(48:UInt8),(51:UInt8),(49:UInt8),(10:UInt8)]; (101:UInt8)::(116:UInt8)::(32:UInt8)::(48:UInt8)::(10:UInt8)::(101:UInt8)::y; have y:=(101:UInt8)::(32:UInt8)::(48:UInt8)::(10:UInt8)::(115:UInt8)::(104:UInt8)::(101:UInt8)::y; (49:UInt8)::(10:UInt8)::(116:UInt8)::(97:UInt8)::(98:UInt8)::(108:UInt8)::y; have y:=have y:=(32:UInt8)::(49:UInt8)::(32:UInt8)::(49:UInt8)::(32:UInt8)::(49:UInt8)::(32:UInt8)::y; (32:UInt8)::(48:UInt8)::(32:UInt8)::(48:UInt8)::(32:UInt8)::(48:UInt8)::y; have y:=(111:UInt8)::(109:UInt8)::(112:UInt8)::(117:UInt8)::(116:UInt8)::(101:UInt8)::(114:UInt8)::y; (103:UInt8)::(105:UInt8)::(118:UInt8)::(101:UInt8)::(10:UInt8)::(99:UInt8)::y)] (.ret (.tup [D.agg (cBook exT),D.c (Ci 0)]))∧true=true∧true=true∧true=true∧true=true∧true=true∧true=true∧true=true∧true=true∧true=true∧true=true∧true=true∧true=true∧true=true∧true=true∧true=true∧true=true∧true=true∧true=true∧true=true∧true=true∧true=true∧true=true∧true=true∧true=true∧false=false∧true=true∧true=true∧true=true∧true=true∧true=true∧Computes Tryz.prog Gl 34 [L eI [(6:Int),(6:Int)],T.d (D.c (C.s Tag.n (2:Nat) fun i=>List.getD [List.map C.dem [C.v (Value.int IntKind.i64 (6:Int))],List.map C.dem [C.v (Value.int IntKind.i64 (6:Int))]] i []))] (.ret (B true))∧true=true∧true=true∧true=true∧Computes Tryz.prog Gl 39 [I 5,I 8] (.ret (T.d (D.agg [Ci 5,Ci 8])))∧true=true∧Computes Tryz.prog Gl 39 [I 6,I 11] (.ret (T.d (D.agg [Ci 6,Ci 11])))∧true=true∧true=true∧Computes Tryz.prog Gl 31 [L eSpan [Span.mk (5:Int) (8:Int),Span.mk (6:Int) (11:Int)],T.d (D.c (C.s Tag.n (2:Nat) fun i=>List.getD [List.map C.dem (List.map C.dem [C.v (Value.int IntKind.i64 (5:Int)),C.v (Value.int IntKind.i64 (8:Int))]),List.map C.dem (List.map C.dem [C.v (Value.int IntKind.i64 (6:Int)),C.v (Value.int IntKind.i64 (11:Int))])] i []))] (.ret (B true))∧true=true∧true=true∧true=true∧true=true∧Computes Tryz.prog Gl 41 [L eI [(3:Int),(2:Int)],T.d (D.c (C.s Tag.n (2:Nat) fun i=>List.getD [List.map C.dem [C.v (Value.int IntKind.i64 (3:Int))],List.map C.dem [C.v (Value.int IntKind.i64 (2:Int))]] i []))] (.ret (B true))∧true=true∧true=true∧true=true∧true=true∧true=true∧true=true∧true=true∧true=true∧true=true∧((0:Nat)≤maxLen→true=true∧false=false∧Computes Tryz.prog Gl 39 [I 6,I 13] (.ret (T.d (D.agg [Ci 6,Ci 13])))∧Computes Tryz.prog Gl 39 [I 5,I 8] (.ret (T.d (D.agg [Ci 5,Ci 8])))∧Computes Tryz.prog Gl 31 [L eSpan [Span.mk (6:Int) (13:Int),Span.mk (5:Int) (8:Int)],T.d (D.c (C.s Tag.n (2:Nat) fun i=>List.getD [List.map C.dem (List.map C.dem [C.v (Value.int IntKind.i64 (6:Int)),C.v (Value.int IntKind.i64 (13:Int))]),List.map C.dem (List.map C.dem [C.v (Value.int IntKind.i64 (5:Int)),C.v (Value.int IntKind.i64 (8:Int))])] i []))] (.ret (B true))∧true=true∧true=true∧Computes Tryz.prog Gl 77 [] (.ret (L eTask exR))∧true=true∧Computes Tryz.prog Gl 54 [L eTask exR,L eTask exR] (.ret (B true))∧true=true∧true=true∧true=true∧true=true∧Computes Tryz.prog Gl 77 [] (.ret (L eTask exR))∧true=true∧Computes Tryz.prog Gl 54 [L eTask exR,L eTask exR] (.ret (B true))∧true=true∧true=true∧true=true∧true=true∧true=true∧Computes Tryz.prog Gl 34 [L eI [(0:Int),(1:Int)],T.d (D.c (C.s Tag.n (2:Nat) fun i=>List.getD [List.map C.dem [C.v (Value.int IntKind.i64 (0:Int))],List.map C.dem [C.v (Value.int IntKind.i64 (1:Int))]] i []))] (.ret (B true))∧true=true∧true=true∧true=true∧true=true∧Computes Tryz.prog Gl 71 [tBook exT] (.ret (str txT))∧true=true∧true=true)) (by kernel_rfl) ?_
  have two : ∀ i, i < 2 → i = 0 ∨ i = 1 := fun i h => by omega
  have three : ∀ i, i < 3 → i = 0 ∨ i = 1 ∨ i = 2 := fun i h => by omega
  have t : (true = true) := rfl
  repeat' first | with_reducible apply And.intro | with_reducible intro _
  all_goals first
    | exact t
    | exact a74 S
    | exact p76 S
    | exact r77 S
    | exact task75 S _ _ _
    | exact span39 S _ _
    | exact kBack S
    | exact kTables S
    | exact kProof S
    | exact kIdle S
    | exact kLost S
    | exact kFirst S
    | exact kCount S
    | exact kBest S
    | exact kWho S
    | exact kMore S
    | exact kRead S hG
    | exact kPlans S
    | exact kPrint S
    | exact kWhy S _ ⟨rfl, fun i hi => by rcases two i hi with rfl | rfl <;> exact .inl rfl⟩
    | exact kWhen S _ _ _ ⟨rfl, fun i hi => by rcases three i hi with rfl | rfl | rfl <;> exact .inl rfl⟩ ⟨rfl, fun i hi => by rcases three i hi with rfl | rfl | rfl <;> exact .inl rfl⟩ ⟨rfl, fun i hi => by rcases three i hi with rfl | rfl | rfl <;> exact .inl rfl⟩
    | exact kSame S _ ⟨rfl, fun i hi => by rcases two i hi with rfl | rfl <;> exact .inl rfl⟩
    | exact kSame2 S _ ⟨rfl, fun i hi => by rcases two i hi with rfl | rfl <;> exact .inl rfl⟩
    | exact kSpans S _ ⟨rfl, fun i hi => by rcases two i hi with rfl | rfl <;> exact .inl rfl⟩
    | exact kSpans2 S _ ⟨rfl, fun i hi => by rcases two i hi with rfl | rfl <;> exact .inl rfl⟩
    | exact kWords S _ ⟨rfl, fun i hi => by rcases two i hi with rfl | rfl <;> exact .inl rfl⟩
    | rfl
    | skip
end Go.Vc.Gd
namespace Go.Vc.Gd
open Go Go.Proofs Go.Vc
variable {Gl : World → Prop}
theorem truthV (S : Set Tryz.prog Y Gl) (b : Book) (t : Truth) {x : Bool} (h : t.ok b = x) : Computes Tryz.prog Gl 33 [tBook b, tTruth t] (.ret (B x)) := by
  subst h; exact truth33 S b t
theorem sheetV (S : Set Tryz.prog Y Gl) (b : Book) (n : Int) {x : Bool} (h : b.isSheet n = x) : Computes Tryz.prog Gl 24 [tBook b, I n] (.ret (B x)) := by
  subst h; exact sheet24 S b n
theorem goodV (S : Set Tryz.prog Y Gl) (b : Book) (plan : List Task) {x : Bool} (h : okP b plan = x) : Computes Tryz.prog Gl 36 [tBook b, L eTask plan] (.ret (B x)) := by
  subst h; rw [okP_eq]; exact goodC S b plan
end Go.Vc.Gd
namespace Go.Vc.Gd
open Go Go.Proofs Go.Vc
variable {Gl : World → Prop}
end Go.Vc.Gd
namespace Go.Vc.Gd
open Go Go.Proofs Go.Vc
theorem word3_iff {b : Book} {plan : List Task} {n : Nat} : wordAt b plan n = 3 ↔ (spanTo b (backs b plan) n plan.length).high ≤ nth b.dues n := by
  unfold wordAt wordOf
  rw [backs_len]
  cases hc : decide ((spanTo b (backs b plan) n plan.length).high ≤ nth b.dues n) with
  | true => simp only [cond_true, true_iff]; exact of_decide_eq_true hc
  | false =>
    have := of_decide_eq_false hc
    cases decide (nth b.dues n < (spanTo b (backs b plan) n plan.length).low) <;> simp [this]
theorem word_rng (b : Book) (plan : List Task) (n : Nat) : 1 ≤ wordAt b plan n ∧ wordAt b plan n ≤ 3 := by
  unfold wordAt wordOf
  cases decide ((spanTo b (backs b plan) n (backs b plan).length).high ≤ nth b.dues n) <;> cases decide (nth b.dues n < (spanTo b (backs b plan) n (backs b plan).length).low) <;> simp
theorem word1 {b : Book} {plan : List Task} {n : Nat} (h : wordAt b plan n = 1) : nth b.dues n < (spanTo b (backs b plan) n plan.length).low := by
  unfold wordAt wordOf at h
  rw [backs_len] at h
  cases hc : decide ((spanTo b (backs b plan) n plan.length).high ≤ nth b.dues n) <;> cases hd : decide (nth b.dues n < (spanTo b (backs b plan) n plan.length).low) <;> rw [hc, hd] at h <;> first | exact of_decide_eq_true hd | (simp at h)
theorem tables_nth {b : Book} {plan : List Task} {n : Nat} (h : n < b.dues.length) : nth (tables b plan) n = wordAt b plan n := by
  unfold tables
  rw [nth_map (by rw [List.length_range]; exact h), nth_range h]
theorem tables_len (b : Book) (plan : List Task) : (tables b plan).length = b.dues.length := by unfold tables; simp
structure ProofOK (b : Book) (plan : List Task) (n i : Nat) : Prop where
  hn : n < b.dues.length
  hi : i < plan.length
  on : nth b.sheets i = (n : Int)
  late : nth b.dues n < (nth (backs b plan) i).high
  word : wordAt b plan n ≠ 3
  rows : ∀ m, m < n → wordAt b plan m = 3
  before : ∀ j, j < i → nth b.sheets j = (n : Int) → (nth (backs b plan) j).high ≤ nth b.dues n
theorem tabTo_mono {s : List Int} {n : Int} {d d' : List Int} : ∀ k, (∀ i, i < k → nth d i ≤ nth d' i) → tabTo s n d k ≤ tabTo s n d' k
  | 0, _ => Int.le_refl _
  | k + 1, h => by
    have ih := tabTo_mono (s := s) (n := n) k fun i hi => h i (by omega)
    have := h k (by omega)
    unfold tabTo
    cases nth s k == n
    · exact ih
    · simp only [cond_true]; omega
end Go.Vc.Gd
namespace Go.Vc.Gd
open Go Go.Proofs Go.Vc
variable {Gl : World → Prop}
set_option maxRecDepth 100000
end Go.Vc.Gd
namespace Go.Vc.Gd
open Go Go.Proofs Go.Vc
variable {Gl : World → Prop}
set_option maxRecDepth 100000
end Go.Vc.Gd
