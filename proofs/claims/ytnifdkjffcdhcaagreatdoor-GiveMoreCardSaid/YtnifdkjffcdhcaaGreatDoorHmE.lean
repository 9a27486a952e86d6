/- A part of the proofs over layer 6 (give): the program and the specification; no condition. -/
import Derived.Test.YtnifdkjffcdhcaaGreatDoorHmD
import Derived.Shelf.Small.Bits
import Derived.Shelf.Small.Wraps
import Derived.Shelf.Strconv.Itoa0
import Derived.Shelf.Strconv.Itoa1
import Derived.Shelf.LaysM
import Derived.Shelf.Strconv.Itoa2
import Derived.Shelf.Strconv.Itoa3
import Derived.Shelf.Strings.Search1
import Derived.Shelf.Strings.Search2
import Derived.Shelf.Strings.Search3
import Derived.Shelf.Strings.Count
import Derived.Shelf.Strings.Shaped
import Derived.Shelf.Sort.Plain
import Derived.Shelf.Strings.Split
import Derived.Shelf.Unicode.DecodeSlow
import Derived.Ground.Names2Prog
import Derived.Shelf.Slices.CompactI
import Derived.Shelf.Slices.Cells
import Derived.Shelf.Slices.In.SortNone
set_option linter.all false
set_option linter.unusedSimpArgs false
set_option linter.unusedVariables false
namespace Go.Vc.Gd
open Go Go.Proofs Go.Vc
variable {Gl : World → Prop}
def idx3 (n i j k : Nat) : Nat := (i * n + j) * n + k
theorem taskNo3 {n i j k : Nat} (hj : j < n) (hk : k < n) : taskNo n (idx3 n i j k) = ⟨i, j, k⟩ := by
  have hn : 0 < n := by omega
  have d1 : (((idx3 n i j k : Nat) : Int)).tdiv (n : Int) = ((idx3 n i j k / n : Nat) : Int) := rfl
  have e1 : idx3 n i j k / n = i * n + j := by
    unfold idx3
    rw [Nat.mul_comm, Nat.mul_add_div hn, Nat.div_eq_of_lt hk, Nat.add_zero]
  have d2 : (((i * n + j : Nat) : Int)).tdiv (n : Int) = (((i * n + j) / n : Nat) : Int) := rfl
  have e2 : (i * n + j) / n = i := by
    rw [Nat.mul_comm, Nat.mul_add_div hn, Nat.div_eq_of_lt hj, Nat.add_zero]
  have m1 : (((i * n + j : Nat) : Int)).tmod (n : Int) = (((i * n + j) % n : Nat) : Int) := rfl
  have e3 : (i * n + j) % n = j := by
    rw [Nat.mul_comm, Nat.mul_add_mod, Nat.mod_eq_of_lt hj]
  have m2 : (((idx3 n i j k : Nat) : Int)).tmod (n : Int) = ((idx3 n i j k % n : Nat) : Int) := rfl
  have e4 : idx3 n i j k % n = k := by
    unfold idx3
    rw [Nat.mul_comm, Nat.mul_add_mod, Nat.mod_eq_of_lt hk]
  unfold taskNo
  rw [d1, e1, d2, e2, m1, e3, m2, e4]
theorem tasks122 (S : Set Tryz.prog Y Gl) (b : Book) (hb : b.ok = true) : Computes Tryz.prog Gl 122 [tBook b] (.ret (L eTask b.tasks)) := by
  refine fn_is S (.loop (List.length (Book.comps b)) (fun k0=>v 13 (I ↑k0)::v 12 (I (↑(List.length (Book.comps b)):Int))::v 1 (ad 1)::tk 100 35::v 3 (Lt 100 eTask (tasksTo b (idx3 (List.length (Book.comps b)) k0 (0:Nat) (0:Nat))))::bx 1 (cBook b)) fun k0=>.br (.loop (List.length (Book.comps b)) (fun k1=>v 19 (I ↑k1)::v 18 (I (↑(List.length (Book.comps b)):Int))::v 4 (I ↑k0)::v 13 (I ↑k0)::v 12 (I (↑(List.length (Book.comps b)):Int))::v 1 (ad 1)::tk 100 35::v 3 (Lt 100 eTask (tasksTo b (idx3 (List.length (Book.comps b)) k0 k1 (0:Nat))))::bx 1 (cBook b)) fun k1=>.br (.loop (List.length (Book.comps b)) (fun k2=>v 25 (I ↑k2)::v 24 (I (↑(List.length (Book.comps b)):Int))::v 5 (I ↑k1)::v 19 (I ↑k1)::v 18 (I (↑(List.length (Book.comps b)):Int))::v 4 (I ↑k0)::v 13 (I ↑k0)::v 12 (I (↑(List.length (Book.comps b)):Int))::v 1 (ad 1)::tk 100 35::v 3 (Lt 100 eTask (tasksTo b (idx3 (List.length (Book.comps b)) k0 k1 k2)))::bx 1 (cBook b)) fun k2=>.br (.r (.ret (.tup [D.agg [Ci 0,Ci (Book.fault b {one:=↑k0,other:=↑k1,third:=↑k2})],D.c (Ci (chkErr (Book.fault b {one:=↑k0,other:=↑k1,third:=↑k2})))])) (.br .nil .nil)) .nil) .nil) .nil) Tryz.func122 (by kernel_rfl) (b.1.length≤maxLen→((0:Int)=(↑(0:Nat):Int)∧(↑b.1.length:Int)=(↑b.1.length:Int)∧List.length (tasksTo b (idx3 b.1.length (0:Nat) (0:Nat) (0:Nat)))=(0:Nat)∧(SEq b.1.length (fun i=>eComp (nth b.1 i)) b.1.length fun i=>eComp (nth b.1 i))∧(SEq b.2.length (fun i=>eI (nth b.2 i)) b.2.length fun i=>eI (nth b.2 i))∧SEq b.3.length (fun i=>eI (nth b.3 i)) b.3.length fun i=>eI (nth b.3 i))∧∀ (k0:Nat),k0≤List.length (Book.comps b)→(decide ((↑k0:Int)<(↑b.1.length:Int))=true→b.1.length≤maxLen→((0:Int)=(↑(0:Nat):Int)∧(↑b.1.length:Int)=(↑b.1.length:Int)∧(↑k0:Int)=(↑k0:Int)∧(↑k0:Int)=(↑k0:Int)∧(↑b.1.length:Int)=(↑b.1.length:Int)∧(SEq (List.length (tasksTo b (idx3 b.1.length k0 (0:Nat) (0:Nat)))) (fun i=>eTask (nth (tasksTo b (idx3 b.1.length k0 (0:Nat) (0:Nat))) i)) (List.length (tasksTo b (idx3 b.1.length k0 (0:Nat) (0:Nat)))) fun i=>eTask (nth (tasksTo b (idx3 b.1.length k0 (0:Nat) (0:Nat))) i))∧(SEq b.1.length (fun i=>eComp (nth b.1 i)) b.1.length fun i=>eComp (nth b.1 i))∧(SEq b.2.length (fun i=>eI (nth b.2 i)) b.2.length fun i=>eI (nth b.2 i))∧SEq b.3.length (fun i=>eI (nth b.3 i)) b.3.length fun i=>eI (nth b.3 i))∧∀ (k1:Nat),k1≤List.length (Book.comps b)→(decide ((↑k1:Int)<(↑b.1.length:Int))=true→b.1.length≤maxLen→((0:Int)=(↑(0:Nat):Int)∧(↑b.1.length:Int)=(↑b.1.length:Int)∧(↑k1:Int)=(↑k1:Int)∧(↑k1:Int)=(↑k1:Int)∧(↑b.1.length:Int)=(↑b.1.length:Int)∧(↑k0:Int)=(↑k0:Int)∧(↑k0:Int)=(↑k0:Int)∧(↑b.1.length:Int)=(↑b.1.length:Int)∧(SEq (List.length (tasksTo b (idx3 b.1.length k0 k1 (0:Nat)))) (fun i=>eTask (nth (tasksTo b (idx3 b.1.length k0 k1 (0:Nat))) i)) (List.length (tasksTo b (idx3 b.1.length k0 k1 (0:Nat)))) fun i=>eTask (nth (tasksTo b (idx3 b.1.length k0 k1 (0:Nat))) i))∧(SEq b.1.length (fun i=>eComp (nth b.1 i)) b.1.length fun i=>eComp (nth b.1 i))∧(SEq b.2.length (fun i=>eI (nth b.2 i)) b.2.length fun i=>eI (nth b.2 i))∧SEq b.3.length (fun i=>eI (nth b.3 i)) b.3.length fun i=>eI (nth b.3 i))∧∀ (k2:Nat),k2≤List.length (Book.comps b)→(decide ((↑k2:Int)<(↑b.1.length:Int))=true→Computes Tryz.prog Gl 107 [T.fn (149:FuncId) [] [T.d (D.rd (cBook b)),T.d (D.rd (eTask {one:=↑k0,other:=↑k1,third:=↑k2}))]] (.ret (.tup [D.agg [Ci 0,Ci (Book.fault b {one:=↑k0,other:=↑k1,third:=↑k2})],D.c (Ci (chkErr (Book.fault b {one:=↑k0,other:=↑k1,third:=↑k2})))]))∧((chkErr (Book.fault b {one:=↑k0,other:=↑k1,third:=↑k2})==(0:Int))=true→(List.length (tasksTo b (idx3 b.1.length k0 k1 k2))+(1:Nat))*(24:Nat)≤(140737488355328:Nat)∧List.length (tasksTo b (idx3 b.1.length k0 k1 k2))+(1:Nat)≤(140737488355328:Nat)∧inRange IntKind.i64 ((↑k2:Int)+(1:Int))∧k2<List.length (Book.comps b)∧(↑k2:Int)+(1:Int)=(↑(k2+(1:Nat)):Int)∧(↑b.1.length:Int)=(↑b.1.length:Int)∧(↑k1:Int)=(↑k1:Int)∧(↑k1:Int)=(↑k1:Int)∧(↑b.1.length:Int)=(↑b.1.length:Int)∧(↑k0:Int)=(↑k0:Int)∧(↑k0:Int)=(↑k0:Int)∧(↑b.1.length:Int)=(↑b.1.length:Int)∧(SEq (List.length (tasksTo b (idx3 b.1.length k0 k1 k2))+(1:Nat)) (catF (List.length (tasksTo b (idx3 b.1.length k0 k1 k2))) (fun i=>eTask (nth (tasksTo b (idx3 b.1.length k0 k1 k2)) i)) fun i=>List.getD [List.map C.dem (List.map C.dem [C.v (Value.int IntKind.i64 (↑k0:Int)),C.v (Value.int IntKind.i64 (↑k1:Int)),C.v (Value.int IntKind.i64 (↑k2:Int))])] i []) (List.length (tasksTo b (idx3 b.1.length k0 k1 (k2+(1:Nat))))) fun i=>eTask (nth (tasksTo b (idx3 b.1.length k0 k1 (k2+(1:Nat)))) i))∧(SEq b.1.length (fun i=>eComp (nth b.1 i)) b.1.length fun i=>eComp (nth b.1 i))∧(SEq b.2.length (fun i=>eI (nth b.2 i)) b.2.length fun i=>eI (nth b.2 i))∧SEq b.3.length (fun i=>eI (nth b.3 i)) b.3.length fun i=>eI (nth b.3 i))∧((chkErr (Book.fault b {one:=↑k0,other:=↑k1,third:=↑k2})==(0:Int))=false→inRange IntKind.i64 ((↑k2:Int)+(1:Int))∧k2<List.length (Book.comps b)∧(↑k2:Int)+(1:Int)=(↑(k2+(1:Nat)):Int)∧(↑b.1.length:Int)=(↑b.1.length:Int)∧(↑k1:Int)=(↑k1:Int)∧(↑k1:Int)=(↑k1:Int)∧(↑b.1.length:Int)=(↑b.1.length:Int)∧(↑k0:Int)=(↑k0:Int)∧(↑k0:Int)=(↑k0:Int)∧(↑b.1.length:Int)=(↑b.1.length:Int)∧(SEq (List.length (tasksTo b (idx3 b.1.length k0 k1 k2))) (fun i=>eTask (nth (tasksTo b (idx3 b.1.length k0 k1 k2)) i)) (List.length (tasksTo b (idx3 b.1.length k0 k1 (k2+(1:Nat))))) fun i=>eTask (nth (tasksTo b (idx3 b.1.length k0 k1 (k2+(1:Nat)))) i))∧(SEq b.1.length (fun i=>eComp (nth b.1 i)) b.1.length fun i=>eComp (nth b.1 i))∧(SEq b.2.length (fun i=>eI (nth b.2 i)) b.2.length fun i=>eI (nth b.2 i))∧SEq b.3.length (fun i=>eI (nth b.3 i)) b.3.length fun i=>eI (nth b.3 i)))∧(decide ((↑k2:Int)<(↑b.1.length:Int))=false→inRange IntKind.i64 ((↑k1:Int)+(1:Int))∧k1<List.length (Book.comps b)∧(↑k1:Int)+(1:Int)=(↑(k1+(1:Nat)):Int)∧(↑b.1.length:Int)=(↑b.1.length:Int)∧(↑k0:Int)=(↑k0:Int)∧(↑k0:Int)=(↑k0:Int)∧(↑b.1.length:Int)=(↑b.1.length:Int)∧(SEq (List.length (tasksTo b (idx3 b.1.length k0 k1 k2))) (fun i=>eTask (nth (tasksTo b (idx3 b.1.length k0 k1 k2)) i)) (List.length (tasksTo b (idx3 b.1.length k0 (k1+(1:Nat)) (0:Nat)))) fun i=>eTask (nth (tasksTo b (idx3 b.1.length k0 (k1+(1:Nat)) (0:Nat))) i))∧(SEq b.1.length (fun i=>eComp (nth b.1 i)) b.1.length fun i=>eComp (nth b.1 i))∧(SEq b.2.length (fun i=>eI (nth b.2 i)) b.2.length fun i=>eI (nth b.2 i))∧SEq b.3.length (fun i=>eI (nth b.3 i)) b.3.length fun i=>eI (nth b.3 i)))∧(decide ((↑k1:Int)<(↑b.1.length:Int))=false→inRange IntKind.i64 ((↑k0:Int)+(1:Int))∧k0<List.length (Book.comps b)∧(↑k0:Int)+(1:Int)=(↑(k0+(1:Nat)):Int)∧(↑b.1.length:Int)=(↑b.1.length:Int)∧(SEq (List.length (tasksTo b (idx3 b.1.length k0 k1 (0:Nat)))) (fun i=>eTask (nth (tasksTo b (idx3 b.1.length k0 k1 (0:Nat))) i)) (List.length (tasksTo b (idx3 b.1.length (k0+(1:Nat)) (0:Nat) (0:Nat)))) fun i=>eTask (nth (tasksTo b (idx3 b.1.length (k0+(1:Nat)) (0:Nat) (0:Nat))) i))∧(SEq b.1.length (fun i=>eComp (nth b.1 i)) b.1.length fun i=>eComp (nth b.1 i))∧(SEq b.2.length (fun i=>eI (nth b.2 i)) b.2.length fun i=>eI (nth b.2 i))∧SEq b.3.length (fun i=>eI (nth b.3 i)) b.3.length fun i=>eI (nth b.3 i)))∧(decide ((↑k0:Int)<(↑b.1.length:Int))=false→SEq (List.length (tasksTo b (idx3 b.1.length k0 (0:Nat) (0:Nat)))) (fun i=>eTask (nth (tasksTo b (idx3 b.1.length k0 (0:Nat) (0:Nat))) i)) (List.length (Book.tasks b)) fun i=>eTask (nth (Book.tasks b) i))) (by kernel_rfl) ?_
  simp only [stdS, imp_self, implies_true, and_true, decide_eq_true_eq, decide_eq_false_iff_not, maxLen_eq, rng_iff]
  obtain ⟨o1, _⟩ := ok_spec hb
  have hle : ∀ i j k, i < b.comps.length → j < b.comps.length → k < b.comps.length → (tasksTo b (idx3 b.comps.length i j k)).length ≤ 64 := fun i j k hi hj hk => by
    have h1 := tasksTo_len b (idx3 b.comps.length i j k)
    have h2 : i * b.comps.length ≤ 3 * 4 := Nat.mul_le_mul (by omega) o1.2
    have h3 : (i * b.comps.length + j) * b.comps.length ≤ 15 * 4 := Nat.mul_le_mul (by omega) o1.2
    unfold idx3 at *
    omega
  have hstep : ∀ i j k, j < b.comps.length → k < b.comps.length → tasksTo b (idx3 b.comps.length i j (k + 1)) = bif b.fault ⟨i, j, k⟩ == 0 then tasksTo b (idx3 b.comps.length i j k) ++ [⟨i, j, k⟩] else tasksTo b (idx3 b.comps.length i j k) := fun i j k hj hk => by
    have : idx3 b.comps.length i j (k + 1) = idx3 b.comps.length i j k + 1 := rfl
    rw [this, tasksTo, taskNo3 hj hk]
  refine fun _ => ⟨⟨by simp [idx3, tasksTo], trivial⟩, fun k0 hk0 => ⟨fun h0 _ k1 hk1 => ⟨fun h1 _ k2 hk2 => ⟨fun h2 => ⟨attTask S b _, fun he => ?_, fun he => ?_⟩, fun h2 => ?_⟩, fun h1 => ?_⟩, fun h0 => ?_⟩⟩
  · have hl := hle k0 k1 k2 (by omega) (by omega) (by omega)
    have hf : (b.fault ⟨k0, k1, k2⟩ == 0) = true := by
      unfold chkErr at he
      cases h : (b.fault ⟨k0, k1, k2⟩ == 0) with
      | true => rfl
      | false => rw [h] at he; cases he
    exact ⟨by omega, by omega, by omega, by omega, by omega, SEq_push1 (x := ⟨k0, k1, k2⟩) (by rw [hstep _ _ _ (by omega) (by omega), hf]; rfl) rfl, trivial⟩
  · have hf : (b.fault ⟨k0, k1, k2⟩ == 0) = false := by
      unfold chkErr at he
      cases h : (b.fault ⟨k0, k1, k2⟩ == 0) with
      | true => rw [h] at he; cases he
      | false => rfl
    exact ⟨by omega, by omega, by omega, SEq_whole (by rw [hstep _ _ _ (by omega) (by omega), hf]; rfl), trivial⟩
  · have e : k2 = b.comps.length := by omega
    refine ⟨by omega, by omega, by omega, SEq_whole ?_, trivial⟩
    rw [e]
    congr 1
    unfold idx3
    rw [← Nat.add_assoc, Nat.succ_mul, Nat.add_zero]
  · have e : k1 = b.comps.length := by omega
    refine ⟨by omega, by omega, by omega, SEq_whole ?_, trivial⟩
    rw [e]
    congr 1
    unfold idx3
    rw [Nat.succ_mul]
    simp only [Nat.add_zero]
  · have e : k0 = b.comps.length := by omega
    refine SEq_whole ?_
    rw [e]
    rfl
end Go.Vc.Gd
namespace Go.Vc.Gd
open Go Go.Proofs Go.Vc
variable {Gl : World → Prop}
theorem plans95 (S : Set Tryz.prog Y Gl) (b : Book) : Computes Tryz.prog Gl 95 [tBook b] (.ret (.fn 121 [] [.d (.c (.p (cBook b)))])) := by
  refine fn_ptr S (t:=2) (id:=1) .nil Tryz.func95 (by kernel_rfl) Tryz.results95 (by decide) (by decide) (T.fn 121 [] [.addr 1 0]=T.fn 121 [] [.addr 1 0]∧live=live∧(.d (.c (.l eComp b.comps)):T)=.d (.c (.l eComp b.comps))∧(.d (.c (.l eI b.dues)):T)=.d (.c (.l eI b.dues))∧(.d (.c (.l eI b.sheets)):T)=.d (.c (.l eI b.sheets))∧True) (by kernel_rfl) ?_
  exact ⟨rfl, rfl, rfl, rfl, rfl, trivial⟩
def plansFrom (all : List Task) : Nat → List Task → List (List Task)
  | 0, now => [now]
  | d + 1, now => all.flatMap fun x => plansFrom all d (now ++ [x])
theorem plansFrom_len (all : List Task) : ∀ d now, (plansFrom all d now).length = all.length ^ d
  | 0, _ => rfl
  | d + 1, now => by
    unfold plansFrom
    rw [List.length_flatMap]
    have : (all.map fun x => (plansFrom all d (now ++ [x])).length) = all.map fun _ => all.length ^ d := by
      apply List.map_congr_left
      intro x _
      exact plansFrom_len all d _
    rw [this, List.map_const', List.sum_replicate_nat, Nat.pow_succ, Nat.mul_comm]
def fromPre (b : Book) (all : List Task) (l p : Nat) : Env :=
  [(0, BIG, .tr p), (2, FAR, live), (FAR + 3, 0, .yl l), (2, FAR + 1, live), (FAR + 4, 0, L eTask all), (2, FAR + 2, live), (FAR + 5, 0, .fn 123 [] [.d (.c (.p (cBook b))), .addr FAR 0, .addr (FAR + 1) 0, .addr (FAR + 2) 0])]
def fromYd (b : Book) (P : List (List Task)) (l m s : Nat) : Yd := ⟨l, m, s, fun q => [tWork ⟨b, nth P q⟩]⟩
theorem from123base (S : Set Tryz.prog Y Gl) (b : Book) (all now : List Task) (P : List (List Task)) (l m s p : Nat) (hd : now.length = b.sheets.length) (hm : p < m) (hs : p ≤ s) (hP : nth P p = now) : Does Tryz.prog Y Gl (fromYd b P l m s) 123 [L eTask now, .d (.c (.p (cBook b))), .addr FAR 0, .addr (FAR + 1) 0, .addr (FAR + 2) 0] (fromPre b all l p) (.ret (B (decide (p + 1 ≤ s)))) [(0, BIG, .tr (p + 1))] := by
  refine fn_is2 S (.br .nil (.loop (0:Nat) (fun k=>[]) fun k0=>.nil)) Tryz.func123 (by kernel_rfl) (now.length≤maxLen→b.3.length≤maxLen→(((↑now.length:Int)==(↑b.3.length:Int))=true→l=l∧p<m∧p≤s∧(SEq b.1.length (fun i=>eComp (nth b.1 i)) b.1.length fun i=>eComp (nth b.1 i))∧(SEq b.2.length (fun i=>eI (nth b.2 i)) b.2.length fun i=>eI (nth b.2 i))∧(SEq b.3.length (fun i=>eI (nth b.3 i)) b.3.length fun i=>eI (nth b.3 i))∧(SEq now.length (fun i=>eTask (nth now i)) (List.length (nth P p)) fun i=>eTask (nth (nth P p) i))∧(p != s)=decide (p+(1:Nat)≤s)∧p+(1:Nat)=p+(1:Nat)∧l=l∧(SEq all.length (fun i=>eTask (nth all i)) all.length fun i=>eTask (nth all i))∧(123:Nat)=(123:Nat)∧[C.l eComp b.1,C.l eI b.2,C.l eI b.3]=[C.l eComp b.1,C.l eI b.2,C.l eI b.3])∧(((↑now.length:Int)==(↑b.3.length:Int))=false→all.length≤maxLen→False∧∀ (k0:Nat),k0≤(0:Nat)→False)) (by kernel_rfl) ?_
  refine fun h1 h2 => ⟨fun _ => ⟨rfl, hm, hs, SEq_whole rfl, SEq_whole rfl, SEq_whole rfl, ?_, ?_, rfl, rfl, SEq_whole rfl, rfl, rfl⟩, fun h => ?_⟩
  · rw [hP]; exact SEq_whole rfl
  · rw [Bool.eq_iff_iff]
    simp only [bne_iff_ne, ne_eq, decide_eq_true_eq]
    omega
  · rw [hd] at h; simp at h
theorem from123step (S : Set Tryz.prog Y Gl) (b : Book) (all now : List Task) (P : List (List Task)) (l m s p c : Nat) (hb : b.ok = true) (hd : now.length < b.sheets.length) (hs : p ≤ s) (ih : ∀ (n : Nat) (f : Nat → List C) (k : Nat), k < all.length → p + k * c ≤ s → SEq n f (now ++ [nth all k]).length (fun i => eTask (nth (now ++ [nth all k]) i)) → Does Tryz.prog Y Gl (fromYd b P l m s) 123 [.d (.c (.s .n n f)), .d (.c (.p (cBook b))), .addr FAR 0, .addr (FAR + 1) 0, .addr (FAR + 2) 0] (fromPre b all l (p + k * c)) (.ret (B (decide (p + k * c + c ≤ s)))) [(0, BIG, .tr (min (p + k * c + c) (s + 1)))]) : Does Tryz.prog Y Gl (fromYd b P l m s) 123 [L eTask now, .d (.c (.p (cBook b))), .addr FAR 0, .addr (FAR + 1) 0, .addr (FAR + 2) 0] (fromPre b all l p) (.ret (B (decide (p + all.length * c ≤ s)))) [(0, BIG, .tr (min (p + all.length * c) (s + 1)))] := by
  refine fn_is2 S (.br .nil (.loop (upto (fun k=>decide (p+(k+(1:Nat))*c≤s)) (List.range all.length)) (fun k=>v 22 (I ↑k)::v 21 (I ↑all.length)::v 20 (L eTask all)::v 0 (L eTask now)::v 1 (T.d (D.c (C.p (cBook b))))::v 2 (T.addr FAR (0:Nat))::v 3 (T.addr (FAR+(1:Nat)) (0:Nat))::v 4 (T.addr (FAR+(2:Nat)) (0:Nat))::fromPre b all l (p+k*c)) fun k0=>.br (.w [(nat_lit 100000,nat_lit 100000),(nat_lit 100001,nat_lit 100001),(nat_lit 100002,nat_lit 100002)] [T.d (D.c (C.s Tag.n (Int.toNat ((↑now.length:Int)-(0:Int))+(1:Nat)) (catF (Int.toNat ((↑now.length:Int)-(0:Int))) (fun i=>eTask (nth now (Int.toNat (0:Int)+i))) fun i=>List.getD [List.map C.dem (List.map C.dem [C.v (Value.int IntKind.i64 (nth all k0).1),C.v (Value.int IntKind.i64 (nth all k0).2),C.v (Value.int IntKind.i64 (nth all k0).3)])] i []))),T.d (D.c (C.p (cBook b))),T.addr FAR (0:Nat),T.addr (FAR+(1:Nat)) (0:Nat),T.addr (FAR+(2:Nat)) (0:Nat)] (fromPre b all l (p+k0*c)) (.ret (B (decide (p+k0*c+c≤s)))) [((0:Nat),BIG,T.tr (min (p+k0*c+c) (s+(1:Nat))))] (.br .nil .nil)) .nil)) Tryz.func123 (by kernel_rfl) (now.length≤maxLen→b.3.length≤maxLen→(((↑now.length:Int)==(↑b.3.length:Int))=true→l=l∧p<m∧p≤s∧(SEq b.1.length (fun i=>eComp (nth b.1 i)) b.1.length fun i=>eComp (nth b.1 i))∧(SEq b.2.length (fun i=>eI (nth b.2 i)) b.2.length fun i=>eI (nth b.2 i))∧(SEq b.3.length (fun i=>eI (nth b.3 i)) b.3.length fun i=>eI (nth b.3 i))∧(SEq now.length (fun i=>eTask (nth now i)) (List.length (nth P p)) fun i=>eTask (nth (nth P p) i))∧(p != s)=decide (p+all.length*c≤s)∧p+(1:Nat)=min (p+all.length*c) (s+(1:Nat))∧l=l∧(SEq all.length (fun i=>eTask (nth all i)) all.length fun i=>eTask (nth all i))∧(123:Nat)=(123:Nat)∧[C.l eComp b.1,C.l eI b.2,C.l eI b.3]=[C.l eComp b.1,C.l eI b.2,C.l eI b.3])∧(((↑now.length:Int)==(↑b.3.length:Int))=false→all.length≤maxLen→((0:Int)=(↑(0:Nat):Int)∧(↑all.length:Int)=(↑all.length:Int)∧(SEq all.length (fun i=>eTask (nth all i)) all.length fun i=>eTask (nth all i))∧(SEq now.length (fun i=>eTask (nth now i)) now.length fun i=>eTask (nth now i))∧[C.l eComp b.1,C.l eI b.2,C.l eI b.3]=[C.l eComp b.1,C.l eI b.2,C.l eI b.3]∧p=p+(0:Nat)*c∧l=l∧(SEq all.length (fun i=>eTask (nth all i)) all.length fun i=>eTask (nth all i))∧(123:Nat)=(123:Nat)∧[C.l eComp b.1,C.l eI b.2,C.l eI b.3]=[C.l eComp b.1,C.l eI b.2,C.l eI b.3])∧∀ (k0:Nat),k0≤upto (fun k=>decide (p+(k+(1:Nat))*c≤s)) (List.range all.length)→(decide ((↑k0:Int)<(↑all.length:Int))=true→((0:Int)≤(↑k0:Int)∧(↑k0:Int)<(↑all.length:Int))∧(now.length≤maxLen→now.length≤maxLen→(0:Int)≤(0:Int)∧(0:Int)≤(↑now.length:Int)∧(↑now.length:Int)=(↑now.length:Int)∧(↑now.length:Int)≤(↑now.length:Int)∧(Int.toNat ((↑now.length:Int)-(0:Int))+(1:Nat))*(24:Nat)≤(140737488355328:Nat)∧Int.toNat ((↑now.length:Int)-(0:Int))+(1:Nat)≤(140737488355328:Nat)∧SEq (Int.toNat ((↑now.length:Int)-(0:Int))+(1:Nat)) (catF (Int.toNat ((↑now.length:Int)-(0:Int))) (fun i=>eTask (nth now (Int.toNat (0:Int)+i))) fun i=>List.getD [List.map C.dem (List.map C.dem [C.v (Value.int IntKind.i64 (nth all k0).1),C.v (Value.int IntKind.i64 (nth all k0).2),C.v (Value.int IntKind.i64 (nth all k0).3)])] i []) (Int.toNat ((↑now.length:Int)-(0:Int))+(1:Nat)) (catF (Int.toNat ((↑now.length:Int)-(0:Int))) (fun i=>eTask (nth now (Int.toNat (0:Int)+i))) fun i=>List.getD [List.map C.dem (List.map C.dem [C.v (Value.int IntKind.i64 (nth all k0).1),C.v (Value.int IntKind.i64 (nth all k0).2),C.v (Value.int IntKind.i64 (nth all k0).3)])] i [])∧[C.l eComp b.1,C.l eI b.2,C.l eI b.3]=[C.l eComp b.1,C.l eI b.2,C.l eI b.3]∧p+k0*c=p+k0*c∧l=l∧(SEq all.length (fun i=>eTask (nth all i)) all.length fun i=>eTask (nth all i))∧(123:Nat)=(123:Nat)∧[C.l eComp b.1,C.l eI b.2,C.l eI b.3]=[C.l eComp b.1,C.l eI b.2,C.l eI b.3]∧Does Tryz.prog Y Gl (fromYd b P l m s) (123:FuncId) [T.d (D.c (C.s Tag.n (Int.toNat ((↑now.length:Int)-(0:Int))+(1:Nat)) (catF (Int.toNat ((↑now.length:Int)-(0:Int))) (fun i=>eTask (nth now (Int.toNat (0:Int)+i))) fun i=>List.getD [List.map C.dem (List.map C.dem [C.v (Value.int IntKind.i64 (nth all k0).1),C.v (Value.int IntKind.i64 (nth all k0).2),C.v (Value.int IntKind.i64 (nth all k0).3)])] i []))),T.d (D.c (C.p (cBook b))),T.addr FAR (0:Nat),T.addr (FAR+(1:Nat)) (0:Nat),T.addr (FAR+(2:Nat)) (0:Nat)] (fromPre b all l (p+k0*c)) (.ret (B (decide (p+k0*c+c≤s)))) [((0:Nat),BIG,T.tr (min (p+k0*c+c) (s+(1:Nat))))]∧((!decide (p+k0*c+c≤s))=true→false=decide (p+all.length*c≤s)∧min (p+k0*c+c) (s+(1:Nat))=min (p+all.length*c) (s+(1:Nat))∧l=l∧(SEq all.length (fun i=>eTask (nth all i)) all.length fun i=>eTask (nth all i))∧(123:Nat)=(123:Nat)∧[C.l eComp b.1,C.l eI b.2,C.l eI b.3]=[C.l eComp b.1,C.l eI b.2,C.l eI b.3])∧((!decide (p+k0*c+c≤s))=false→inRange IntKind.i64 ((↑k0:Int)+(1:Int))∧k0<upto (fun k=>decide (p+(k+(1:Nat))*c≤s)) (List.range all.length)∧(↑k0:Int)+(1:Int)=(↑(k0+(1:Nat)):Int)∧(↑all.length:Int)=(↑all.length:Int)∧(SEq all.length (fun i=>eTask (nth all i)) all.length fun i=>eTask (nth all i))∧(SEq now.length (fun i=>eTask (nth now i)) now.length fun i=>eTask (nth now i))∧[C.l eComp b.1,C.l eI b.2,C.l eI b.3]=[C.l eComp b.1,C.l eI b.2,C.l eI b.3]∧min (p+k0*c+c) (s+(1:Nat))=p+(k0+(1:Nat))*c∧l=l∧(SEq all.length (fun i=>eTask (nth all i)) all.length fun i=>eTask (nth all i))∧(123:Nat)=(123:Nat)∧[C.l eComp b.1,C.l eI b.2,C.l eI b.3]=[C.l eComp b.1,C.l eI b.2,C.l eI b.3])))∧(decide ((↑k0:Int)<(↑all.length:Int))=false→true=decide (p+all.length*c≤s)∧p+k0*c=min (p+all.length*c) (s+(1:Nat))∧l=l∧(SEq all.length (fun i=>eTask (nth all i)) all.length fun i=>eTask (nth all i))∧(123:Nat)=(123:Nat)∧[C.l eComp b.1,C.l eI b.2,C.l eI b.3]=[C.l eComp b.1,C.l eI b.2,C.l eI b.3]))) (by kernel_rfl) ?_
  obtain ⟨_, _, o3, _⟩ := ok_spec hb
  have hup : ∀ k, k ≤ upto (fun k => decide (p + (k + 1) * c ≤ s)) (List.range all.length) → k ≤ all.length ∧ p + k * c ≤ s := fun k hk => by
    have h1 := upto_le (p := fun k => decide (p + (k + 1) * c ≤ s)) (l := List.range all.length)
    rw [List.length_range] at h1
    refine ⟨by omega, ?_⟩
    cases k with
    | zero => simpa using hs
    | succ k =>
      have := upto_before (p := fun k => decide (p + (k + 1) * c ≤ s)) (l := List.range all.length) (i := k) (by omega)
      rw [nth_range (by omega)] at this
      exact of_decide_eq_true this
  have hpush : ∀ k, SEq (((now.length : Int) - 0).toNat + 1) (catF ((now.length : Int) - 0).toNat (fun i => eTask (nth now (Int.toNat 0 + i))) fun i => [List.map C.dem (List.map C.dem [C.v (Value.int IntKind.i64 (nth all k).one), C.v (Value.int IntKind.i64 (nth all k).other), C.v (Value.int IntKind.i64 (nth all k).third)])].getD i []) (now ++ [nth all k]).length (fun i => eTask (nth (now ++ [nth all k]) i)) := fun k => by
    have e1 : ((now.length : Int) - 0).toNat = now.length := by omega
    have e2 : ∀ i, Int.toNat 0 + i = i := fun i => by simp
    simp only [e1, e2]
    exact SEq_push1 rfl rfl
  refine fun h1 h2 => ⟨fun h => ?_, fun _ h3 => ⟨⟨rfl, rfl, SEq_whole rfl, SEq_whole rfl, rfl, by rw [Nat.zero_mul, Nat.add_zero], rfl, SEq_whole rfl, rfl, rfl⟩, fun k hk => ⟨fun hl => ⟨?_, fun _ _ => ⟨by omega, by omega, rfl, by omega, by omega, by omega, ⟨rfl, fun _ _ => .inl rfl⟩, rfl, rfl, rfl, SEq_whole rfl, rfl, rfl, ?_, fun hr => ?_, fun hr => ?_⟩⟩, fun hl => ?_⟩⟩⟩
  · have := eq_of_beq h
    omega
  · have hl := of_decide_eq_true hl
    omega
  · have hl := of_decide_eq_true hl
    exact ih _ _ k (by omega) (hup k hk).2 (hpush k)
  · have hl := of_decide_eq_true hl
    simp only [Bool.not_eq_eq_eq_not, Bool.not_true, decide_eq_false_iff_not] at hr
    have hm : (k + 1) * c ≤ all.length * c := Nat.mul_le_mul_right _ (by omega)
    rw [Nat.succ_mul] at hm
    exact ⟨(decide_eq_false (by omega)).symm, by omega, rfl, SEq_whole rfl, rfl, rfl⟩
  · have hl := of_decide_eq_true hl
    simp only [Bool.not_eq_eq_eq_not, Bool.not_false, decide_eq_true_eq] at hr
    have hm : (k + 1) * c = k * c + c := Nat.succ_mul _ _
    refine ⟨(rng_iff _).2 ?_, upto_lt hk (by rw [List.length_range]; omega) (by rw [nth_range (by omega)]; exact decide_eq_true (by omega)), by omega, rfl, SEq_whole rfl, SEq_whole rfl, rfl, by omega, rfl, SEq_whole rfl, rfl, rfl⟩
    rw [maxLen_eq] at h3
    omega
  · have hl := of_decide_eq_false hl
    obtain ⟨u1, u2⟩ := hup k hk
    have hke : k = all.length := by omega
    subst hke
    exact ⟨(decide_eq_true u2).symm, by omega, rfl, SEq_whole rfl, rfl, rfl⟩
theorem nth_flat {f : Task → List (List Task)} {c : Nat} : ∀ {all : List Task}, (∀ x ∈ all, (f x).length = c) → ∀ k i, k < all.length → i < c → nth (all.flatMap f) (k * c + i) = nth (f (nth all k)) i
  | [], _, k, i, hk, _ => by simp at hk
  | x :: all, hf, k, i, hk, hi => by
    rw [List.flatMap_cons]
    have hx := hf x List.mem_cons_self
    cases k with
    | zero =>
      rw [Nat.zero_mul, Nat.zero_add, nth_append_lt (by omega)]
      rfl
    | succ k =>
      have e : (k + 1) * c + i = c + (k * c + i) := by rw [Nat.succ_mul]; omega
      rw [e, nth_append_ge (by omega), hx, Nat.add_sub_cancel_left, nth_flat (fun y hy => hf y (List.mem_cons_of_mem _ hy)) k i (by simpa using hk) hi]
      rfl
theorem from123 (S : Set Tryz.prog Y Gl) (b : Book) (hb : b.ok = true) (all : List Task) (P : List (List Task)) (l m s : Nat) : ∀ (d : Nat) (now : List Task) (p : Nat), now.length + d = b.sheets.length → p ≤ s →
    (∀ i, i < (plansFrom all d now).length → p + i < m ∧ nth P (p + i) = nth (plansFrom all d now) i) →
    Does Tryz.prog Y Gl (fromYd b P l m s) 123 [L eTask now, .d (.c (.p (cBook b))), .addr FAR 0, .addr (FAR + 1) 0, .addr (FAR + 2) 0] (fromPre b all l p) (.ret (B (decide (p + (plansFrom all d now).length ≤ s)))) [(0, BIG, .tr (min (p + (plansFrom all d now).length) (s + 1)))]
  | 0, now, p, hd, hs, hP => by
    obtain ⟨h1, h2⟩ := hP 0 (by simp [plansFrom])
    have := from123base S b all now P l m s p (by omega) (by omega) hs h2
    have e : (plansFrom all 0 now).length = 1 := rfl
    have e2 : min (p + 1) (s + 1) = p + 1 := by omega
    rw [e, e2]
    exact this
  | d + 1, now, p, hd, hs, hP => by
    have hlen := plansFrom_len all
    have e : (plansFrom all (d + 1) now).length = all.length * all.length ^ d := by rw [hlen, Nat.pow_succ, Nat.mul_comm]
    rw [e]
    refine from123step S b all now P l m s p (all.length ^ d) hb (by omega) hs fun n f k hk hks hseq => ?_
    have ih := from123 S b hb all P l m s d (now ++ [nth all k]) (p + k * all.length ^ d) (by simp; omega) hks fun i hi => ?_
    · rw [hlen] at ih
      exact ih.args (show SEq n f (now ++ [nth all k]).length (fun i => eTask (nth (now ++ [nth all k]) i)) ∧ cBook b = cBook b from ⟨hseq, rfl⟩)
    · rw [hlen] at hi
      have hm : (k + 1) * all.length ^ d ≤ all.length * all.length ^ d := Nat.mul_le_mul_right _ (by omega)
      rw [Nat.succ_mul] at hm
      obtain ⟨h1, h2⟩ := hP (k * all.length ^ d + i) (by rw [e]; omega)
      refine ⟨by omega, ?_⟩
      rw [Nat.add_assoc, h2]
      have e3 : plansFrom all (d + 1) now = all.flatMap fun x => plansFrom all d (now ++ [x]) := rfl
      rw [e3]
      exact nth_flat (fun x _ => hlen d _) k i hk hi
def allPlans (b : Book) : List (List Task) := plansFrom b.tasks b.sheets.length []
theorem from123nil (S : Set Tryz.prog Y Gl) (b : Book) (hb : b.ok = true) (l s : Nat) :
    Does Tryz.prog Y Gl (fromYd b (allPlans b) l (allPlans b).length s) 123 [.d (.c (.v (.slice none 0 0))), .d (.c (.p (cBook b))), .addr FAR 0, .addr (FAR + 1) 0, .addr (FAR + 2) 0] (fromPre b b.tasks l 0) (.ret (B (decide (0 + (allPlans b).length ≤ s)))) [(0, BIG, .tr (min (0 + (allPlans b).length) (s + 1)))] := by
  have := from123 S b hb b.tasks (allPlans b) l (allPlans b).length s b.sheets.length [] 0 (by simp) (Nat.zero_le _) fun i hi => ⟨by rw [Nat.zero_add]; exact hi, by rw [Nat.zero_add]; rfl⟩
  exact this.args (show ([] : List Task).length = 0 ∧ cBook b = cBook b from ⟨rfl, rfl⟩)
theorem plans121 (S : Set Tryz.prog Y Gl) (b : Book) (l s : Nat) (hb : b.ok = true) : Does Tryz.prog Y Gl (fromYd b (allPlans b) l (allPlans b).length s) 121 [.yl l, .d (.c (.p (cBook b)))] [(0, BIG, .tr 0)] (.ret (.tup [])) [(0, BIG, .tr (min (allPlans b).length (s + 1)))] := by
  refine fn_is2 S (.r (.ret (L eTask (Book.tasks b))) (.w [(nat_lit 100000,nat_lit 2),(nat_lit 100001,nat_lit 3),(nat_lit 100002,nat_lit 4)] [T.d (D.c (C.v (Value.slice none 0 0))),T.d (D.c (C.p (cBook b))),T.addr FAR (0:Nat),T.addr (FAR+(1:Nat)) (0:Nat),T.addr (FAR+(2:Nat)) (0:Nat)] (fromPre b (Book.tasks b) l (0:Nat)) (.ret (B (decide ((0:Nat)+List.length (allPlans b)≤s)))) [((0:Nat),BIG,T.tr (min ((0:Nat)+List.length (allPlans b)) (s+(1:Nat))))] .nil)) Tryz.func121 (by kernel_rfl) (Computes Tryz.prog Gl 122 [tBook b] (.ret (L eTask (Book.tasks b)))∧Value.slice none 0 0=Value.slice none 0 0∧[C.l eComp b.1,C.l eI b.2,C.l eI b.3]=[C.l eComp b.1,C.l eI b.2,C.l eI b.3]∧(0:Nat)=(0:Nat)∧l=l∧(SEq (List.length (Book.tasks b)) (fun i=>eTask (nth (Book.tasks b) i)) (List.length (Book.tasks b)) fun i=>eTask (nth (Book.tasks b) i))∧(123:Nat)=(123:Nat)∧[C.l eComp b.1,C.l eI b.2,C.l eI b.3]=[C.l eComp b.1,C.l eI b.2,C.l eI b.3]∧Does Tryz.prog Y Gl (fromYd b (allPlans b) l (List.length (allPlans b)) s) (123:FuncId) [T.d (D.c (C.v (Value.slice none 0 0))),T.d (D.c (C.p (cBook b))),T.addr FAR (0:Nat),T.addr (FAR+(1:Nat)) (0:Nat),T.addr (FAR+(2:Nat)) (0:Nat)] (fromPre b (Book.tasks b) l (0:Nat)) (.ret (B (decide ((0:Nat)+List.length (allPlans b)≤s)))) [((0:Nat),BIG,T.tr (min ((0:Nat)+List.length (allPlans b)) (s+(1:Nat))))]∧True∧min ((0:Nat)+List.length (allPlans b)) (s+(1:Nat))=min (List.length (allPlans b)) (s+(1:Nat))) (by kernel_rfl) ?_
  exact ⟨tasks122 S b hb, rfl, rfl, rfl, rfl, SEq_whole rfl, rfl, rfl, from123nil S b hb l s, trivial, by rw [Nat.zero_add]⟩
end Go.Vc.Gd
namespace Go.Vc.Gd
open Go Go.Proofs Go.Vc
variable {Gl : World → Prop}
theorem fineT (S : Set Tryz.prog Y Gl) (b : Book) (hb : b.ok = true) : Computes Tryz.prog Gl 94 [tBook b] (.ret (B true)) := by have := fine94 S b; rw [hb] at this; exact this
def sureP (b : Book) (pl : List Task) : Bool := Work.surely ⟨b, pl⟩
def firstN (b : Book) : Nat := upto (fun pl => !sureP b pl) (allPlans b)
def noFirst (b : Book) : Bool := (allPlans b).all fun pl => !sureP b pl
def firstPlan (b : Book) : List Task := bif noFirst b then [] else nth (allPlans b) (firstN b)
def countTo (b : Book) : Nat → Int
  | 0 => 0
  | p + 1 => bif sureP b (nth (allPlans b) p) then countTo b p + 1 else countTo b p
theorem plansFrom_good {b : Book} : ∀ {d : Nat} {now p : List Task}, p ∈ plansFrom b.tasks d now → (∀ t ∈ now, b.fault t = 0) → p.length = now.length + d ∧ ∀ t ∈ p, b.fault t = 0
  | 0, now, p, h, hn => by
    rw [List.mem_singleton.1 h]
    exact ⟨rfl, hn⟩
  | d + 1, now, p, h, hn => by
    obtain ⟨x, hx, hp⟩ := List.mem_flatMap.1 h
    obtain ⟨h1, h2⟩ := plansFrom_good hp fun t ht => by
      rcases List.mem_append.1 ht with ht | ht
      · exact hn t ht
      · rw [List.mem_singleton.1 ht]; exact mem_tasksTo hx
    refine ⟨?_, h2⟩
    rw [h1, List.length_append, List.length_singleton]
    omega
theorem allPlans_good {b : Book} {k : Nat} (hk : k < (allPlans b).length) : b.good (nth (allPlans b) k) = true := by
  obtain ⟨h1, h2⟩ := plansFrom_good (nth_mem hk) (fun t ht => (by cases ht))
  have h1 : (nth (allPlans b) k).length = b.sheets.length := by
    have : (nth (allPlans b) k).length = ([] : List Task).length + b.sheets.length := h1
    simpa using this
  unfold Book.good Book.isWhy
  rw [h1]
  simp only [beq_self_eq_true, Bool.true_and, Bool.not_not, List.all_eq_true, beq_iff_eq]
  exact h2
theorem allPlans_len {b : Book} (hb : b.ok = true) : (allPlans b).length ≤ 262144 := by
  obtain ⟨_, _, o3, _⟩ := ok_spec hb
  unfold allPlans
  rw [plansFrom_len]
  exact pow_le (tasks_len hb) o3.2
theorem countTo_le (b : Book) : ∀ k, 0 ≤ countTo b k ∧ countTo b k ≤ k
  | 0 => ⟨Int.le_refl _, Int.le_refl _⟩
  | k + 1 => by
    have := countTo_le b k
    unfold countTo
    cases sureP b (nth (allPlans b) k) <;> simp only [cond_true, cond_false] <;> omega
theorem first49 (S : Set Tryz.prog Y Gl) (b : Book) (hb : b.ok = true) : Computes Tryz.prog Gl 49 [tBook b] (.ret (.tup [.c (.l eTask (firstPlan b)), .c (Ci (bif noFirst b then 5 else 0))])) := by
  refine fn_is S (.r (.ret (B true)) (.ff (.r (.ret (T.fn (121:FuncId) [] [T.d (D.c (C.p (cBook b)))])) (.rf (List.length (allPlans b)) (firstN b) (fun p=>[tWork {book:=b,plan:=nth (allPlans b) p}]) (fun p=>v 1 (ad 1)::v 4 (ad 4)::(bx 1 (cBook b) ++ bx 4 [C.v (Value.slice none 0 0)])) (fun k0=>.r (.ret (B (Work.surely {book:=b,plan:=nth (allPlans b) k0}))) (.br (.ff .nil) .nil)) (.tt .nil))))) Tryz.func49 (by kernel_rfl) (Computes Tryz.prog Gl 94 [tBook b] (.ret (B true))∧false=false∧Computes Tryz.prog Gl 95 [tBook b] (.ret (T.fn (121:FuncId) [] [T.d (D.c (C.p (cBook b)))]))∧Yd.m yd0=(0:Nat)∧ydOf (Does Tryz.prog Y Gl) (121:Nat) [] [T.d (D.c (C.p [C.l eComp b.1,C.l eI b.2,C.l eI b.3]))] (fun l=>{l:=l,m:=List.length (allPlans b),s:=firstN b,ys:=fun p=>[tWork {book:=b,plan:=nth (allPlans b) p}]}) (List.length (allPlans b)) (firstN b)∧((SEq b.1.length (fun i=>eComp (nth b.1 i)) b.1.length fun i=>eComp (nth b.1 i))∧(SEq b.2.length (fun i=>eI (nth b.2 i)) b.2.length fun i=>eI (nth b.2 i))∧(SEq b.3.length (fun i=>eI (nth b.3 i)) b.3.length fun i=>eI (nth b.3 i))∧Value.slice none 0 0=Value.slice none 0 0)∧(∀ (k0:Nat),k0<List.length (allPlans b)→k0≤firstN b→Computes Tryz.prog Gl 96 [tWork {book:=b,plan:=nth (allPlans b) k0}] (.ret (B (Work.surely {book:=b,plan:=nth (allPlans b) k0})))∧(Work.surely {book:=b,plan:=nth (allPlans b) k0}=true→k0=firstN b∧(0:Nat)<List.length (nth (allPlans b) k0)∧false=false∧(SEq (List.length (nth (allPlans b) k0)) (fun i=>eTask (nth (nth (allPlans b) k0) i)) (List.length (firstPlan b)) fun i=>eTask (nth (firstPlan b) i))∧(0:Int)=bif noFirst b then (5:Int) else (0:Int))∧(Work.surely {book:=b,plan:=nth (allPlans b) k0}=false→k0<firstN b∧(SEq b.1.length (fun i=>eComp (nth b.1 i)) b.1.length fun i=>eComp (nth b.1 i))∧(SEq b.2.length (fun i=>eI (nth b.2 i)) b.2.length fun i=>eI (nth b.2 i))∧(SEq b.3.length (fun i=>eI (nth b.3 i)) b.3.length fun i=>eI (nth b.3 i))∧Value.slice none 0 0=Value.slice none 0 0))∧(List.length (allPlans b)≤firstN b→true=true∧List.length (firstPlan b)=(0:Nat)∧(5:Int)=bif noFirst b then (5:Int) else (0:Int))) (by kernel_rfl) ?_
  refine ⟨fineT S b hb, rfl, plans95 S b, rfl, fun l => plans121 S b l _ hb, ⟨SEq_whole rfl, SEq_whole rfl, SEq_whole rfl, rfl⟩, fun p hm hs => ⟨surely96 S _ hb (allPlans_good hm), fun h => ?_, fun h => ?_⟩, fun h => ?_⟩
  · have hN : firstN b = p := by
      rcases Nat.lt_or_ge p (firstN b) with h2 | h2
      · have := upto_before (p := fun pl => !sureP b pl) h2
        unfold sureP at this
        rw [h] at this
        cases this
      · omega
    have hno : noFirst b = false := upto_some (p := fun pl => !sureP b pl) hm (by unfold sureP; rw [h]; rfl)
    have hg := allPlans_good hm
    obtain ⟨g1, _⟩ := good_spec hg
    obtain ⟨_, _, o3, _⟩ := ok_spec hb
    have hfp : firstPlan b = nth (allPlans b) p := by unfold firstPlan; rw [hno, hN]; rfl
    exact ⟨hN.symm, by omega, rfl, by rw [hfp]; exact SEq_whole rfl, by rw [hno]; rfl⟩
  · exact ⟨upto_lt (p := fun pl => !sureP b pl) hs hm (by unfold sureP; rw [h]; rfl), SEq_whole rfl, SEq_whole rfl, SEq_whole rfl, rfl⟩
  · have hno : noFirst b = true := upto_all h
    have hfp : firstPlan b = [] := by unfold firstPlan; rw [hno]; rfl
    exact ⟨rfl, by rw [hfp]; rfl, by rw [hno]; rfl⟩
theorem count50 (S : Set Tryz.prog Y Gl) (b : Book) (hb : b.ok = true) : Computes Tryz.prog Gl 50 [tBook b] (.ret (.tup [.c (Ci (countTo b (allPlans b).length)), .c (Ci 0)])) := by
  refine fn_is S (.r (.ret (B true)) (.ff (.r (.ret (T.fn (121:FuncId) [] [T.d (D.c (C.p (cBook b)))])) (.rf (List.length (allPlans b)) (List.length (allPlans b)) (fun p=>[tWork {book:=b,plan:=nth (allPlans b) p}]) (fun p=>v 1 (ad 1)::v 4 (ad 4)::(bx 1 (cBook b) ++ bx 4 [Ci (countTo b p)])) (fun k0=>.r (.ret (B (Work.surely {book:=b,plan:=nth (allPlans b) k0}))) (.br .nil .nil)) .nil)))) Tryz.func50 (by kernel_rfl) (Computes Tryz.prog Gl 94 [tBook b] (.ret (B true))∧false=false∧Computes Tryz.prog Gl 95 [tBook b] (.ret (T.fn (121:FuncId) [] [T.d (D.c (C.p (cBook b)))]))∧Yd.m yd0=(0:Nat)∧ydOf (Does Tryz.prog Y Gl) (121:Nat) [] [T.d (D.c (C.p [C.l eComp b.1,C.l eI b.2,C.l eI b.3]))] (fun l=>{l:=l,m:=List.length (allPlans b),s:=List.length (allPlans b),ys:=fun p=>[tWork {book:=b,plan:=nth (allPlans b) p}]}) (List.length (allPlans b)) (List.length (allPlans b))∧((SEq b.1.length (fun i=>eComp (nth b.1 i)) b.1.length fun i=>eComp (nth b.1 i))∧(SEq b.2.length (fun i=>eI (nth b.2 i)) b.2.length fun i=>eI (nth b.2 i))∧(SEq b.3.length (fun i=>eI (nth b.3 i)) b.3.length fun i=>eI (nth b.3 i))∧(0:Int)=countTo b (0:Nat))∧(∀ (k0:Nat),k0<List.length (allPlans b)→k0≤List.length (allPlans b)→Computes Tryz.prog Gl 96 [tWork {book:=b,plan:=nth (allPlans b) k0}] (.ret (B (Work.surely {book:=b,plan:=nth (allPlans b) k0})))∧(Work.surely {book:=b,plan:=nth (allPlans b) k0}=true→inRange IntKind.i64 (countTo b k0+(1:Int))∧k0<List.length (allPlans b)∧(SEq b.1.length (fun i=>eComp (nth b.1 i)) b.1.length fun i=>eComp (nth b.1 i))∧(SEq b.2.length (fun i=>eI (nth b.2 i)) b.2.length fun i=>eI (nth b.2 i))∧(SEq b.3.length (fun i=>eI (nth b.3 i)) b.3.length fun i=>eI (nth b.3 i))∧countTo b k0+(1:Int)=countTo b (k0+(1:Nat)))∧(Work.surely {book:=b,plan:=nth (allPlans b) k0}=false→k0<List.length (allPlans b)∧(SEq b.1.length (fun i=>eComp (nth b.1 i)) b.1.length fun i=>eComp (nth b.1 i))∧(SEq b.2.length (fun i=>eI (nth b.2 i)) b.2.length fun i=>eI (nth b.2 i))∧(SEq b.3.length (fun i=>eI (nth b.3 i)) b.3.length fun i=>eI (nth b.3 i))∧countTo b k0=countTo b (k0+(1:Nat))))∧(List.length (allPlans b)≤List.length (allPlans b)→countTo b (List.length (allPlans b))=countTo b (List.length (allPlans b))∧(0:Int)=(0:Int))) (by kernel_rfl) ?_
  have hl := allPlans_len hb
  refine ⟨fineT S b hb, rfl, plans95 S b, rfl, fun l => plans121 S b l _ hb, ⟨SEq_whole rfl, SEq_whole rfl, SEq_whole rfl, rfl⟩, fun p hm hs => ⟨surely96 S _ hb (allPlans_good hm), fun h => ?_, fun h => ?_⟩, fun h => ⟨rfl, rfl⟩⟩
  · have hc := countTo_le b p
    have h' : sureP b (nth (allPlans b) p) = true := h
    exact ⟨(rng_iff _).2 (by omega), hm, SEq_whole rfl, SEq_whole rfl, SEq_whole rfl, by rw [countTo, h']; rfl⟩
  · have h' : sureP b (nth (allPlans b) p) = false := h
    exact ⟨hm, SEq_whole rfl, SEq_whole rfl, SEq_whole rfl, by rw [countTo, h']; rfl⟩
structure Made where
  plan : List Task
  day : Int
instance : Inhabited Made := ⟨⟨[], 0⟩⟩
def eMade (x : Made) : List C := [.l eTask x.plan, Ci x.day]
def lastDay (b : Book) (pl : List Task) : Int := lastL (days pl (b.ends true) (-1) (-1)) (days pl (b.ends true) (-1) (-1)).length
def madeOf (b : Book) (pl : List Task) : Made := ⟨pl, lastDay b pl⟩
def mades (b : Book) : List Made := (allPlans b).map (madeOf b)
def bestM (l : List Made) : Nat → Made
  | 0 => nth l 0
  | k + 1 => bif decide ((nth l (k + 1)).day < (bestM l k).day) then nth l (k + 1) else bestM l k
def soonest (b : Book) : Made := bif (allPlans b).length == 0 then ⟨[], 0⟩ else bestM (mades b) ((mades b).length - 1)
theorem less125 (S : Set Tryz.prog Y Gl) (x y : Made) : Computes Tryz.prog Gl 125 [.d (.agg (eMade x)), .d (.agg (eMade y))] (.ret (B (decide (x.day < y.day)))) := by
  refine fn_is S (.nil) Tryz.func125 (by kernel_rfl) (decide (x.2<y.2)=decide (x.2<y.2)) (by kernel_rfl) ?_
  rfl
theorem best124 (S : Set Tryz.prog Y Gl) (l : List Made) (hl : 1 ≤ l.length) (hm : l.length ≤ 1000000) : Computes Tryz.prog Gl 124 [L eMade l, .fn 125 [] []] (.ret (.d (.agg (eMade (bestM l (l.length - 1)))))) := by
  refine fn_is S (.loop (List.length l-(1:Nat)) (fun k=>v 14 (I ↑k)::v 13 (I ((↑l.length:Int)-(1:Int)))::v 12 (T.d (D.c (C.s Tag.n (List.length l-(1:Nat)) fun i=>eMade (nth l ((1:Nat)+i)))))::v 1 (T.fn (125:FuncId) [] [])::v 5 (ad 5)::v 4 (ad 4)::(bx 5 (eMade (bestM l k)) ++ bx 4 [C.v (Value.slice none 0 0),Ci 0])) fun k0=>.br (.r (.ret (B (decide (Made.day {plan:=(nth l ((1:Nat)+k0)).1,day:=(nth l ((1:Nat)+k0)).2}<Made.day {plan:=(bestM l k0).1,day:=(bestM l k0).2})))) (.br .nil .nil)) .nil) Tryz.func124 (by kernel_rfl) (((0:Int)≤(0:Int)∧(0:Int)<(↑l.length:Int))∧((0:Int)≤(1:Int)∧(1:Int)≤(↑l.length:Int)∧(↑l.length:Int)≤(↑l.length:Int))∧(Int.toNat ((↑l.length:Int)-(1:Int))≤maxLen→((0:Int)=(↑(0:Nat):Int)∧(↑(Int.toNat ((↑l.length:Int)-(1:Int))):Int)=(↑l.length:Int)-(1:Int)∧(SEq (Int.toNat ((↑l.length:Int)-(1:Int))) (fun i=>eMade (nth l (Int.toNat (1:Int)+i))) (List.length l-(1:Nat)) fun i=>eMade (nth l ((1:Nat)+i)))∧(125:Nat)=(125:Nat)∧(SEq (List.length (nth l (Int.toNat (0:Int))).1) (fun i=>eTask (nth (nth l (Int.toNat (0:Int))).1 i)) (List.length (bestM l (0:Nat)).1) fun i=>eTask (nth (bestM l (0:Nat)).1 i))∧(nth l (Int.toNat (0:Int))).2=(bestM l (0:Nat)).2∧Value.slice none 0 0=Value.slice none 0 0∧(0:Int)=(0:Int))∧∀ (k0:Nat),k0≤List.length l-(1:Nat)→(decide ((↑k0:Int)<(↑l.length:Int)-(1:Int))=true→((0:Int)≤(↑k0:Int)∧(↑k0:Int)<(↑(List.length l-(1:Nat)):Int))∧Computes Tryz.prog Gl 125 [T.d (D.agg (eMade {plan:=(nth l ((1:Nat)+k0)).1,day:=(nth l ((1:Nat)+k0)).2})),T.d (D.agg (eMade {plan:=(bestM l k0).1,day:=(bestM l k0).2}))] (.ret (B (decide (Made.day {plan:=(nth l ((1:Nat)+k0)).1,day:=(nth l ((1:Nat)+k0)).2}<Made.day {plan:=(bestM l k0).1,day:=(bestM l k0).2}))))∧(decide ((nth l ((1:Nat)+k0)).2<(bestM l k0).2)=true→inRange IntKind.i64 ((↑k0:Int)+(1:Int))∧k0<List.length l-(1:Nat)∧(↑k0:Int)+(1:Int)=(↑(k0+(1:Nat)):Int)∧(↑l.length:Int)-(1:Int)=(↑l.length:Int)-(1:Int)∧(SEq (List.length l-(1:Nat)) (fun i=>eMade (nth l ((1:Nat)+i))) (List.length l-(1:Nat)) fun i=>eMade (nth l ((1:Nat)+i)))∧(125:Nat)=(125:Nat)∧(SEq (List.length (nth l ((1:Nat)+k0)).1) (fun i=>eTask (nth (nth l ((1:Nat)+k0)).1 i)) (List.length (bestM l (k0+(1:Nat))).1) fun i=>eTask (nth (bestM l (k0+(1:Nat))).1 i))∧(nth l ((1:Nat)+k0)).2=(bestM l (k0+(1:Nat))).2∧Value.slice none 0 0=Value.slice none 0 0∧(0:Int)=(0:Int))∧(decide ((nth l ((1:Nat)+k0)).2<(bestM l k0).2)=false→inRange IntKind.i64 ((↑k0:Int)+(1:Int))∧k0<List.length l-(1:Nat)∧(↑k0:Int)+(1:Int)=(↑(k0+(1:Nat)):Int)∧(↑l.length:Int)-(1:Int)=(↑l.length:Int)-(1:Int)∧(SEq (List.length l-(1:Nat)) (fun i=>eMade (nth l ((1:Nat)+i))) (List.length l-(1:Nat)) fun i=>eMade (nth l ((1:Nat)+i)))∧(125:Nat)=(125:Nat)∧(SEq (List.length (bestM l k0).1) (fun i=>eTask (nth (bestM l k0).1 i)) (List.length (bestM l (k0+(1:Nat))).1) fun i=>eTask (nth (bestM l (k0+(1:Nat))).1 i))∧(bestM l k0).2=(bestM l (k0+(1:Nat))).2∧Value.slice none 0 0=Value.slice none 0 0∧(0:Int)=(0:Int)))∧(decide ((↑k0:Int)<(↑l.length:Int)-(1:Int))=false→(SEq (List.length (bestM l k0).1) (fun i=>eTask (nth (bestM l k0).1 i)) (List.length (bestM l (List.length l-(1:Nat))).1) fun i=>eTask (nth (bestM l (List.length l-(1:Nat))).1 i))∧(bestM l k0).2=(bestM l (List.length l-(1:Nat))).2))) (by kernel_rfl) ?_
  have e1 : ((l.length : Int) - 1).toNat = l.length - 1 := by omega
  refine ⟨by omega, by omega, fun _ => ⟨⟨rfl, by omega, ⟨e1, fun i _ => .inl rfl⟩, rfl, SEq_whole rfl, rfl, rfl, rfl⟩, fun k hk => ⟨fun hl => ⟨?_, less125 S _ _, fun h => ?_, fun h => ?_⟩, fun hl => ?_⟩⟩⟩
  · have := of_decide_eq_true hl
    omega
  · have := of_decide_eq_true hl
    have e : bestM l (k + 1) = nth l (1 + k) := by rw [bestM, Nat.add_comm k 1, h]; rfl
    exact ⟨(rng_iff _).2 (by omega), by omega, by omega, rfl, ⟨rfl, fun _ _ => .inl rfl⟩, rfl, by rw [e]; exact SEq_whole rfl, by rw [e], rfl, rfl⟩
  · have := of_decide_eq_true hl
    have e : bestM l (k + 1) = bestM l k := by rw [bestM, Nat.add_comm k 1, h]; rfl
    exact ⟨(rng_iff _).2 (by omega), by omega, by omega, rfl, ⟨rfl, fun _ _ => .inl rfl⟩, rfl, by rw [e]; exact SEq_whole rfl, by rw [e], rfl, rfl⟩
  · have := of_decide_eq_false hl
    have hke : k = l.length - 1 := by omega
    rw [hke]
    exact ⟨SEq_whole rfl, rfl⟩
theorem soonest97 (S : Set Tryz.prog Y Gl) (b : Book) (hb : b.ok = true) : Computes Tryz.prog Gl 97 [tBook b] (.ret (.tup [.agg (eMade (soonest b)), .c (Ci (bif (allPlans b).length == 0 then 5 else 0))])) := by
  refine fn_is S (.r (.ret (T.fn (121:FuncId) [] [T.d (D.c (C.p (cBook b)))])) (.rf (List.length (allPlans b)) (List.length (allPlans b)) (fun p=>[tWork {book:=b,plan:=nth (allPlans b) p}]) (fun p=>tk 100 138::v 1 (ad 1)::v 2 (ad 2)::v 4 (ad 4)::(bx 1 (cBook b) ++ bx 2 [C.v (Value.slice none 0 0),Ci 0] ++ bx 4 [C.lt (100:Nat) eMade (List.take p (mades b))])) (fun k0=>.r (.ret (tTruth (Book.ends b true))) (.r (.ret (tLost (-1:Int) (-1:Int))) (.r (.ret (L eI (days (Work.plan {book:=b,plan:=nth (allPlans b) k0}) (Book.ends b true) (-1:Int) (-1:Int)))) (.r (.ret (I (lastL (days (nth (allPlans b) k0) (Book.ends b true) (-1:Int) (-1:Int)) (List.length (days (nth (allPlans b) k0) (Book.ends b true) (-1:Int) (-1:Int)))))) .nil)))) (.br .nil (.r (.ret (T.d (D.agg (eMade (bestM (List.take (List.length (allPlans b)) (mades b)) (List.length (List.take (List.length (allPlans b)) (mades b))-(1:Nat))))))) .nil)))) Tryz.func97 (by kernel_rfl) (Computes Tryz.prog Gl 95 [tBook b] (.ret (T.fn (121:FuncId) [] [T.d (D.c (C.p (cBook b)))]))∧Yd.m yd0=(0:Nat)∧ydOf (Does Tryz.prog Y Gl) (121:Nat) [] [T.d (D.c (C.p [C.l eComp b.1,C.l eI b.2,C.l eI b.3]))] (fun l=>{l:=l,m:=List.length (allPlans b),s:=List.length (allPlans b),ys:=fun p=>[tWork {book:=b,plan:=nth (allPlans b) p}]}) (List.length (allPlans b)) (List.length (allPlans b))∧((SEq b.1.length (fun i=>eComp (nth b.1 i)) b.1.length fun i=>eComp (nth b.1 i))∧(SEq b.2.length (fun i=>eI (nth b.2 i)) b.2.length fun i=>eI (nth b.2 i))∧(SEq b.3.length (fun i=>eI (nth b.3 i)) b.3.length fun i=>eI (nth b.3 i))∧Value.slice none 0 0=Value.slice none 0 0∧(0:Int)=(0:Int)∧(0:Nat)=(0:Nat))∧(∀ (k0:Nat),k0<List.length (allPlans b)→k0≤List.length (allPlans b)→Computes Tryz.prog Gl 87 [tBook b] (.ret (tTruth (Book.ends b true)))∧Computes Tryz.prog Gl 81 [] (.ret (tLost (-1:Int) (-1:Int)))∧Computes Tryz.prog Gl 83 [tWork {book:=b,plan:=nth (allPlans b) k0},tTruth (Book.ends b true),tLost (-1:Int) (-1:Int)] (.ret (L eI (days (Work.plan {book:=b,plan:=nth (allPlans b) k0}) (Book.ends b true) (-1:Int) (-1:Int))))∧Computes Tryz.prog Gl 116 [L eI (days (nth (allPlans b) k0) (Book.ends b true) (-1:Int) (-1:Int))] (.ret (I (lastL (days (nth (allPlans b) k0) (Book.ends b true) (-1:Int) (-1:Int)) (List.length (days (nth (allPlans b) k0) (Book.ends b true) (-1:Int) (-1:Int))))))∧(List.length (List.take k0 (mades b))+(1:Nat))*(32:Nat)≤(140737488355328:Nat)∧List.length (List.take k0 (mades b))+(1:Nat)≤(140737488355328:Nat)∧k0<List.length (allPlans b)∧(SEq b.1.length (fun i=>eComp (nth b.1 i)) b.1.length fun i=>eComp (nth b.1 i))∧(SEq b.2.length (fun i=>eI (nth b.2 i)) b.2.length fun i=>eI (nth b.2 i))∧(SEq b.3.length (fun i=>eI (nth b.3 i)) b.3.length fun i=>eI (nth b.3 i))∧Value.slice none 0 0=Value.slice none 0 0∧(0:Int)=(0:Int)∧SEq (List.length (List.take k0 (mades b))+(1:Nat)) (catF (List.length (List.take k0 (mades b))) (fun i=>eMade (nth (List.take k0 (mades b)) i)) fun i=>List.getD [List.map C.dem (List.map C.dem [C.s Tag.n (List.length (nth (allPlans b) k0)) fun i=>eTask (nth (nth (allPlans b) k0) i),C.v (Value.int IntKind.i64 (lastL (days (nth (allPlans b) k0) (Book.ends b true) (-1:Int) (-1:Int)) (List.length (days (nth (allPlans b) k0) (Book.ends b true) (-1:Int) (-1:Int)))))])] i []) (List.length (List.take (k0+(1:Nat)) (mades b))) fun i=>eMade (nth (List.take (k0+(1:Nat)) (mades b)) i))∧(List.length (allPlans b)≤List.length (allPlans b)→List.length (List.take (List.length (allPlans b)) (mades b))≤maxLen→(((↑(List.length (List.take (List.length (allPlans b)) (mades b))):Int)==(0:Int))=true→List.length (soonest b).1=(0:Nat)∧(0:Int)=(soonest b).2∧(5:Int)=bif List.length (allPlans b)==(0:Nat) then (5:Int) else (0:Int))∧(((↑(List.length (List.take (List.length (allPlans b)) (mades b))):Int)==(0:Int))=false→Computes Tryz.prog Gl 124 [L eMade (List.take (List.length (allPlans b)) (mades b)),T.fn (125:FuncId) [] []] (.ret (T.d (D.agg (eMade (bestM (List.take (List.length (allPlans b)) (mades b)) (List.length (List.take (List.length (allPlans b)) (mades b))-(1:Nat)))))))∧(SEq (List.length (bestM (List.take (List.length (allPlans b)) (mades b)) (List.length (List.take (List.length (allPlans b)) (mades b))-(1:Nat))).1) (fun i=>eTask (nth (bestM (List.take (List.length (allPlans b)) (mades b)) (List.length (List.take (List.length (allPlans b)) (mades b))-(1:Nat))).1 i)) (List.length (soonest b).1) fun i=>eTask (nth (soonest b).1 i))∧(bestM (List.take (List.length (allPlans b)) (mades b)) (List.length (List.take (List.length (allPlans b)) (mades b))-(1:Nat))).2=(soonest b).2∧(0:Int)=bif List.length (allPlans b)==(0:Nat) then (5:Int) else (0:Int)))) (by kernel_rfl) ?_
  have hl := allPlans_len hb
  obtain ⟨o1, o2, o3, _⟩ := ok_spec hb
  have hml : (mades b).length = (allPlans b).length := List.length_map _
  have htk : (mades b).take (allPlans b).length = mades b := List.take_of_length_le (by omega)
  have hc := best124 S ((mades b).take (allPlans b).length)
  rw [htk] at hc ⊢
  refine ⟨plans95 S b, rfl, fun l => plans121 S b l _ hb, ⟨SEq_whole rfl, SEq_whole rfl, SEq_whole rfl, rfl, rfl, rfl⟩, fun p hm hs => ?_, fun _ _ => ⟨fun h => ?_, fun h => ?_⟩⟩
  · have hg := allPlans_good hm
    obtain ⟨g1, _⟩ := good_spec hg
    have hd := days83 S ⟨b, nth (allPlans b) p⟩ (b.ends true) (-1) (-1) (small_ends hb true) (show (nth (allPlans b) p).length ≤ 1000 by omega) b.comps.length (by omega) (fits_ends b true) (good_in hg)
    have hlen : ((mades b).take p).length ≤ 262144 := by rw [List.length_take]; omega
    refine ⟨greatest87 S b (by omega), none81 S, hd, last116 S _, by omega, by omega, hm, SEq_whole rfl, SEq_whole rfl, SEq_whole rfl, rfl, rfl, SEq_push (by omega) ?_⟩
    unfold mades
    rw [nth_map hm]
    rfl
  · have h0 : (mades b).length = 0 := by have := eq_of_beq h; omega
    have h1 : ((allPlans b).length == 0) = true := beq_iff_eq.2 (by omega)
    have hs : soonest b = ⟨[], 0⟩ := by unfold soonest; rw [h1]; rfl
    rw [hs, h1]
    exact ⟨rfl, rfl, rfl⟩
  · have h0 : (mades b).length ≠ 0 := by
      have := ne_of_beq_false h
      omega
    have h1 : ((allPlans b).length == 0) = false := beq_eq_false_iff_ne.2 (by omega)
    have hs : soonest b = bestM (mades b) ((mades b).length - 1) := by unfold soonest; rw [h1]; rfl
    rw [hs, h1]
    exact ⟨hc (by omega) (by omega), SEq_whole rfl, rfl, rfl⟩
theorem best51 (S : Set Tryz.prog Y Gl) (b : Book) (hb : b.ok = true) : Computes Tryz.prog Gl 51 [tBook b] (.ret (.tup [.c (.l eTask (soonest b).plan), .c (Ci (soonest b).day), .c (Ci (bif (allPlans b).length == 0 then 5 else 0))])) := by
  refine fn_is S (.r (.ret (B true)) (.ff (.r (.ret (.tup [D.agg (eMade (soonest b)),D.c (Ci (bif List.length (allPlans b)==(0:Nat) then (5:Int) else (0:Int)))])) .nil))) Tryz.func51 (by kernel_rfl) (Computes Tryz.prog Gl 94 [tBook b] (.ret (B true))∧false=false∧Computes Tryz.prog Gl 97 [tBook b] (.ret (.tup [D.agg (eMade (soonest b)),D.c (Ci (bif List.length (allPlans b)==(0:Nat) then (5:Int) else (0:Int)))]))∧(SEq (List.length (soonest b).1) (fun i=>eTask (nth (soonest b).1 i)) (List.length (soonest b).1) fun i=>eTask (nth (soonest b).1 i))∧(soonest b).2=(soonest b).2∧(bif List.length (allPlans b)==(0:Nat) then (5:Int) else (0:Int))=bif List.length (allPlans b)==(0:Nat) then (5:Int) else (0:Int)) (by kernel_rfl) ?_
  exact ⟨fineT S b hb, rfl, soonest97 S b hb, SEq_whole rfl, rfl, rfl⟩
end Go.Vc.Gd
namespace Go.Vc.Gd
open Go Go.Proofs Go.Vc
variable {Gl : World → Prop}
theorem clone104 (S : Set Tryz.prog Y Gl) (l : List Comp) (h1 : 1 ≤ l.length) (h2 : l.length ≤ 1000) : Computes Tryz.prog Gl 104 [L eComp l] (.ret (.tkd 39 7 l.length fun i => eComp (nth l i))) := by
  refine fn_is S (.ff .nil) Tryz.func104 (by kernel_rfl) ((0:Nat)<l.length∧false=false∧((0:Nat)+l.length)*(56:Nat)≤(140737488355328:Nat)∧(0:Nat)+l.length≤(140737488355328:Nat)∧SEq ((0:Nat)+l.length) (catF 0 (fun x=>[]) fun i=>eComp (nth l i)) l.length fun i=>eComp (nth l i)) (by kernel_rfl) ?_
  refine ⟨by omega, rfl, by omega, by omega, ⟨by omega, fun i hi => .inl ?_⟩⟩
  unfold catF
  rfl
def Book.withOne (b : Book) (like : Int) : Book := ⟨b.comps ++ [nth b.comps like.toNat], b.dues, b.sheets⟩
theorem soonestW (S : Set Tryz.prog Y Gl) (b b' : Book) (hb : b'.ok = true) (hd : b'.dues = b.dues) (hs : b'.sheets = b.sheets) (n : Nat) (f : Nat → List C) (h : SEq n f b'.comps.length (fun i => eComp (nth b'.comps i))) :
    Computes Tryz.prog Gl 97 [.d (.agg [.s .n n f, .l eI b.dues, .l eI b.sheets])] (.ret (.tup [.agg (eMade (soonest b')), .c (Ci (bif (allPlans b').length == 0 then 5 else 0))])) := by
  refine (soonest97 S b' hb).args (show SEq n f b'.comps.length (fun i => eComp (nth b'.comps i)) ∧ SEq b.dues.length _ b'.dues.length _ ∧ SEq b.sheets.length _ b'.sheets.length _ from ⟨h, ?_, ?_⟩)
  · rw [hd]; exact SEq_whole rfl
  · rw [hs]; exact SEq_whole rfl
theorem with_ok {b : Book} {like : Int} (hb : b.ok = true) (hc : b.isComp like = true) (hl : b.comps.length ≤ 3) : (b.withOne like).ok = true := by
  unfold Book.isComp at hc
  rw [inR_iff] at hc
  unfold Book.ok at hb ⊢
  simp only [Bool.and_eq_true, inR_iff, List.all_eq_true] at hb ⊢
  obtain ⟨h1, h2, h3, h4, h5, h6⟩ := hb
  unfold Book.withOne
  refine ⟨⟨by simp; omega, by simp; omega⟩, h2, h3, fun c hcm => ?_, h5, h6⟩
  rcases List.mem_append.1 hcm with h | h
  · exact h4 c h
  · rw [List.mem_singleton.1 h]
    exact h4 _ (nth_mem (by omega))
theorem more64 (S : Set Tryz.prog Y Gl) (b : Book) (like : Int) (hb : b.ok = true) (hc : b.isComp like = true) (hl : b.comps.length ≤ 3) : Computes Tryz.prog Gl 64 [tBook b, I like] (.ret (.tup [.c (Ci (soonest (b.withOne like)).day), .c (Ci (bif (allPlans (b.withOne like)).length == 0 then 5 else 0))])) := by
  refine fn_is S (.r (.ret (B true)) (.r (.ret (B (Book.isComp b like))) (.br .nil (.br .nil (.r (.ret (T.tkd (39:Nat) (7:Nat) (List.length (Book.comps b)) fun i=>eComp (nth (Book.comps b) i))) (.r (.ret (.tup [D.agg (eMade (soonest (Book.withOne b like))),D.c (Ci (bif List.length (allPlans (Book.withOne b like))==(0:Nat) then (5:Int) else (0:Int)))])) .nil)))))) Tryz.func64 (by kernel_rfl) (Computes Tryz.prog Gl 94 [tBook b] (.ret (B true))∧(true=true→true=true)∧(true=true→true=true)∧(true=true→Computes Tryz.prog Gl 92 [tBook b,I like] (.ret (B (Book.isComp b like))))∧(true=true→true=true)∧(false=false→true=true)∧((bif false then true else !Book.isComp b like)=true→(0:Int)=(soonest (Book.withOne b like)).2∧(2:Int)=bif List.length (allPlans (Book.withOne b like))==(0:Nat) then (5:Int) else (0:Int))∧((bif false then true else !Book.isComp b like)=false→b.1.length≤maxLen→(((↑b.1.length:Int)==(4:Int))=true→(0:Int)=(soonest (Book.withOne b like)).2∧(3:Int)=bif List.length (allPlans (Book.withOne b like))==(0:Nat) then (5:Int) else (0:Int))∧(((↑b.1.length:Int)==(4:Int))=false→Computes Tryz.prog Gl 104 [L eComp (Book.comps b)] (.ret (T.tkd (39:Nat) (7:Nat) (List.length (Book.comps b)) fun i=>eComp (nth (Book.comps b) i)))∧((0:Int)≤like∧like<(↑b.1.length:Int))∧(b.1.length+(1:Nat))*(56:Nat)≤(140737488355328:Nat)∧b.1.length+(1:Nat)≤(140737488355328:Nat)∧Computes Tryz.prog Gl 97 [T.d (D.agg [C.s Tag.n (b.1.length+(1:Nat)) (catF b.1.length (fun i=>eComp (nth b.1 i)) fun i=>List.getD [List.map C.dem (List.map C.dem [C.v (Value.int IntKind.i64 (nth b.1 (Int.toNat like)).1),C.v (Value.int IntKind.i64 (nth b.1 (Int.toNat like)).2.1),C.v (Value.int IntKind.i64 (nth b.1 (Int.toNat like)).2.2),C.v (Value.int IntKind.i64 (nth b.1 (Int.toNat like)).3.1),C.v (Value.int IntKind.i64 (nth b.1 (Int.toNat like)).3.2),C.v (Value.int IntKind.i64 (nth b.1 (Int.toNat like)).4.1),C.v (Value.int IntKind.i64 (nth b.1 (Int.toNat like)).4.2)])] i []),C.l eI (Book.dues b),C.l eI (Book.sheets b)])] (.ret (.tup [D.agg (eMade (soonest (Book.withOne b like))),D.c (Ci (bif List.length (allPlans (Book.withOne b like))==(0:Nat) then (5:Int) else (0:Int)))]))∧(soonest (Book.withOne b like)).2=(soonest (Book.withOne b like)).2∧(bif List.length (allPlans (Book.withOne b like))==(0:Nat) then (5:Int) else (0:Int))=bif List.length (allPlans (Book.withOne b like))==(0:Nat) then (5:Int) else (0:Int)))) (by kernel_rfl) ?_
  have hcr : 0 ≤ like ∧ like < (b.comps.length : Int) := by
    have := hc
    unfold Book.isComp at this
    rw [inR_iff] at this
    omega
  obtain ⟨o1, _⟩ := ok_spec hb
  have hpush : SEq (b.comps.length + 1) (catF b.comps.length (fun i => eComp (nth b.comps i)) fun i => [List.map C.dem (List.map C.dem [C.v (Value.int IntKind.i64 (nth b.comps like.toNat).room), C.v (Value.int IntKind.i64 (nth b.comps like.toNat).post.low), C.v (Value.int IntKind.i64 (nth b.comps like.toNat).post.high), C.v (Value.int IntKind.i64 (nth b.comps like.toNat).sheet.low), C.v (Value.int IntKind.i64 (nth b.comps like.toNat).sheet.high), C.v (Value.int IntKind.i64 (nth b.comps like.toNat).look.low), C.v (Value.int IntKind.i64 (nth b.comps like.toNat).look.high)])].getD i [])
      (b.withOne like).comps.length (fun i => eComp (nth (b.withOne like).comps i)) := SEq_push1 rfl rfl
  have c92 := comp92 S b like
  simp only [stdS, imp_self, implies_true, and_true, hc]
  rw [hc] at c92
  refine ⟨fineT S b hb, fun _ => c92, fun h => (by cases h), fun _ _ => ⟨fun h => ?_, fun h => ⟨clone104 S b.comps (by omega) (by omega), hcr, by omega, by omega, soonestW S b (b.withOne like) (with_ok hb hc hl) rfl rfl _ _ hpush, trivial⟩⟩⟩
  have := eq_of_beq h
  omega
end Go.Vc.Gd
namespace Go.Proofs
open Go.Shelf
open Go.RowKit in
open Go.Lib in
open Go.Lib in
open Go.Lib in
open Go.Lib in
open Go.RowKit Go.Sort Go.Lib in
open Go.RowKit Go.Sort Go.Lib in
open Go.RowKit Go.Sort Go.Lib in
open Go.RowKit Go.Sort Go.Lib in
open Go.RowKit Go.Sort Go.Lib in
open Go.RowKit Go.Sort Go.Lib in
def Tryz.lays171_ren : Go.Shelf.Ren := ⟨fun | 171 => 131 | 243 => 162 | 246 => 173 | 283 => 178 | 284 => 179 | 285 => 180 | 286 => 181 | 129 => 160 | 317 => 186 | 318 => 187 | 319 => 188 | 320 => 189 | 337 => 195 | 338 => 196 | n => n, fun | 3 => 3 | 9 => 9 | 2 => 2 | 4 => 4 | 171 => 225 | 0 => 0 | 53 => 207 | 37 => 110 | 5 => 5 | 173 => 227 | 212 => 234 | 51 => 205 | 20 => 20 | 213 => 235 | 46 => 170 | 232 => 242 | 233 => 243 | n => n, fun | 17 => 0 | 18 => 4 | 19 => 5 | n => n⟩
theorem Tryz.lays171 : Go.Proofs.Lays.n171 Tryz.prog Tryz.lays171_ren := {
  mixed := by kernel_rfl
  f129 := Tryz.func160.trans (congrArg some (by kernel_rfl))
  f171 := Tryz.func131.trans (congrArg some (by kernel_rfl))
  f243 := Tryz.func162.trans (congrArg some (by kernel_rfl))
  f246 := Tryz.func173.trans (congrArg some (by kernel_rfl))
  f283 := Tryz.func178.trans (congrArg some (by kernel_rfl))
  f284 := Tryz.func179.trans (congrArg some (by kernel_rfl))
  f285 := Tryz.func180.trans (congrArg some (by kernel_rfl))
  f286 := Tryz.func181.trans (congrArg some (by kernel_rfl))
  f317 := Tryz.func186.trans (congrArg some (by kernel_rfl))
  f318 := Tryz.func187.trans (congrArg some (by kernel_rfl))
  f319 := Tryz.func188.trans (congrArg some (by kernel_rfl))
  f320 := Tryz.func189.trans (congrArg some (by kernel_rfl))
  f337 := Tryz.func195.trans (congrArg some (by kernel_rfl))
  f338 := Tryz.func196.trans (congrArg some (by kernel_rfl))
  t0 := Tryz.underlying0
  a0 := Tryz.isAgg0
  z0 := Tryz.sizeOf0
  v0 := Tryz.zeroValue0
  t2 := Tryz.underlying2
  a2 := Tryz.isAgg2
  z2 := Tryz.sizeOf2
  v2 := Tryz.zeroValue2
  t3 := Tryz.underlying3
  a3 := Tryz.isAgg3
  z3 := Tryz.sizeOf3
  v3 := Tryz.zeroValue3
  t4 := Tryz.underlying4
  a4 := Tryz.isAgg4
  z4 := Tryz.sizeOf4
  v4 := Tryz.zeroValue4
  t5 := Tryz.underlying5
  a5 := Tryz.isAgg5
  z5 := Tryz.sizeOf5
  v5 := Tryz.zeroValue5
  t9 := Tryz.underlying9
  a9 := Tryz.isAgg9
  z9 := Tryz.sizeOf9
  v9 := Tryz.zeroValue9
  t20 := Tryz.underlying20
  a20 := Tryz.isAgg20
  z20 := Tryz.sizeOf20
  v20 := Tryz.zeroValue20
  t37 := Tryz.underlying110
  a37 := Tryz.isAgg110
  z37 := Tryz.sizeOf110
  v37 := Tryz.zeroValue110
  t46 := Tryz.underlying170
  a46 := Tryz.isAgg170
  z46 := Tryz.sizeOf170
  v46 := Tryz.zeroValue170
  t51 := Tryz.underlying205
  a51 := Tryz.isAgg205
  z51 := Tryz.sizeOf205
  v51 := Tryz.zeroValue205
  t53 := Tryz.underlying207
  a53 := Tryz.isAgg207
  z53 := Tryz.sizeOf207
  v53 := Tryz.zeroValue207
  t171 := Tryz.underlying225
  a171 := Tryz.isAgg225
  z171 := Tryz.sizeOf225
  v171 := Tryz.zeroValue225
  t173 := Tryz.underlying227
  a173 := Tryz.isAgg227
  z173 := Tryz.sizeOf227
  v173 := Tryz.zeroValue227
  t212 := Tryz.underlying234
  a212 := Tryz.isAgg234
  z212 := Tryz.sizeOf234
  v212 := Tryz.zeroValue234
  t213 := Tryz.underlying235
  a213 := Tryz.isAgg235
  z213 := Tryz.sizeOf235
  t232 := Tryz.underlying242
  a232 := Tryz.isAgg242
  z232 := Tryz.sizeOf242
  v232 := Tryz.zeroValue242
  t233 := Tryz.underlying243
  a233 := Tryz.isAgg243
  z233 := Tryz.sizeOf243
  v233 := Tryz.zeroValue243
  g17 := by kernel_rfl
  g18 := by kernel_rfl
  g19 := by kernel_rfl }
open Go.RowKit Go.Sort Go.Lib in
theorem Tryz.strconv_Itoa_small (i : Nat) (hi : i < 100) (w : World) :
    Calls Tryz.prog 131 #[.int .i64 i] w fun e w' => e = .returned (.string ⟨(Lib.decDigits i).toArray⟩) ∧ w' = w := Any.strconv_Itoa_small Tryz.lays171 i hi w
open Go.RowKit Go.Lib in
open Go.RowKit Go.Lib in
open Go.RowKit Go.Lib in
open Go.RowKit Go.Lib in
open Go.RowKit Go.Lib in
open Go.RowKit Go.Lib in
open Go.RowKit Go.Lib in
open Go.RowKit Go.Lib in
open Go.RowKit Go.Lib in
open Go.RowKit Go.Lib in
open Go.RowKit Go.Lib in
open Go.RowKit Go.Lib in
open Go.RowKit Go.Lib in
def Tryz.lays189_ren : Go.Shelf.Ren := ⟨fun | 189 => 101 | 125 => 129 | 257 => 128 | 128 => 159 | 129 => 160 | 294 => 150 | 295 => 151 | 296 => 152 | 297 => 153 | 298 => 154 | 299 => 155 | 216 => 156 | 300 => 157 | 301 => 158 | 328 => 167 | 329 => 168 | 330 => 169 | 331 => 170 | 332 => 171 | 215 => 172 | 343 => 177 | n => n, fun | 28 => 23 | 3 => 3 | 46 => 170 | 0 => 0 | 51 => 205 | 53 => 207 | 4 => 4 | 183 => 197 | 182 => 196 | 131 => 202 | 5 => 5 | 9 => 9 | 218 => 213 | 222 => 217 | 228 => 222 | 229 => 223 | n => n, fun | n => n⟩
theorem Tryz.lays189 : Go.Proofs.Lays.n189 Tryz.prog Tryz.lays189_ren := {
  mixed := by kernel_rfl
  f125 := Tryz.func129.trans (congrArg some (by kernel_rfl))
  f128 := Tryz.func159.trans (congrArg some (by kernel_rfl))
  f129 := Tryz.func160.trans (congrArg some (by kernel_rfl))
  f189 := Tryz.func101.trans (congrArg some (by kernel_rfl))
  f215 := Tryz.func172.trans (congrArg some (by kernel_rfl))
  f216 := Tryz.func156.trans (congrArg some (by kernel_rfl))
  f257 := Tryz.func128.trans (congrArg some (by kernel_rfl))
  f294 := Tryz.func150.trans (congrArg some (by kernel_rfl))
  f295 := Tryz.func151.trans (congrArg some (by kernel_rfl))
  f296 := Tryz.func152.trans (congrArg some (by kernel_rfl))
  f297 := Tryz.func153.trans (congrArg some (by kernel_rfl))
  f298 := Tryz.func154.trans (congrArg some (by kernel_rfl))
  f299 := Tryz.func155.trans (congrArg some (by kernel_rfl))
  f300 := Tryz.func157.trans (congrArg some (by kernel_rfl))
  f301 := Tryz.func158.trans (congrArg some (by kernel_rfl))
  f328 := Tryz.func167.trans (congrArg some (by kernel_rfl))
  f329 := Tryz.func168.trans (congrArg some (by kernel_rfl))
  f330 := Tryz.func169.trans (congrArg some (by kernel_rfl))
  f331 := Tryz.func170.trans (congrArg some (by kernel_rfl))
  f332 := Tryz.func171.trans (congrArg some (by kernel_rfl))
  f343 := Tryz.func177.trans (congrArg some (by kernel_rfl))
  t0 := Tryz.underlying0
  a0 := Tryz.isAgg0
  z0 := Tryz.sizeOf0
  v0 := Tryz.zeroValue0
  t3 := Tryz.underlying3
  a3 := Tryz.isAgg3
  z3 := Tryz.sizeOf3
  v3 := Tryz.zeroValue3
  t4 := Tryz.underlying4
  a4 := Tryz.isAgg4
  z4 := Tryz.sizeOf4
  v4 := Tryz.zeroValue4
  t5 := Tryz.underlying5
  a5 := Tryz.isAgg5
  z5 := Tryz.sizeOf5
  v5 := Tryz.zeroValue5
  t9 := Tryz.underlying9
  a9 := Tryz.isAgg9
  z9 := Tryz.sizeOf9
  v9 := Tryz.zeroValue9
  t28 := Tryz.underlying23
  a28 := Tryz.isAgg23
  z28 := Tryz.sizeOf23
  v28 := Tryz.zeroValue23
  t46 := Tryz.underlying170
  a46 := Tryz.isAgg170
  z46 := Tryz.sizeOf170
  v46 := Tryz.zeroValue170
  t51 := Tryz.underlying205
  a51 := Tryz.isAgg205
  z51 := Tryz.sizeOf205
  v51 := Tryz.zeroValue205
  t53 := Tryz.underlying207
  a53 := Tryz.isAgg207
  z53 := Tryz.sizeOf207
  v53 := Tryz.zeroValue207
  t131 := Tryz.underlying202
  a131 := Tryz.isAgg202
  z131 := Tryz.sizeOf202
  v131 := Tryz.zeroValue202
  t182 := Tryz.underlying196
  a182 := Tryz.isAgg196
  z182 := Tryz.sizeOf196
  v182 := Tryz.zeroValue196
  t183 := Tryz.underlying197
  a183 := Tryz.isAgg197
  z183 := Tryz.sizeOf197
  v183 := Tryz.zeroValue197
  t218 := Tryz.underlying213
  a218 := Tryz.isAgg213
  z218 := Tryz.sizeOf213
  v218 := Tryz.zeroValue213
  t222 := Tryz.underlying217
  a222 := Tryz.isAgg217
  z222 := Tryz.sizeOf217
  v222 := Tryz.zeroValue217
  t228 := Tryz.underlying222
  a228 := Tryz.isAgg222
  z228 := Tryz.sizeOf222
  v228 := Tryz.zeroValue222
  t229 := Tryz.underlying223
  a229 := Tryz.isAgg223
  z229 := Tryz.sizeOf223
  v229 := Tryz.zeroValue223 }
open Go.Sort Go.RowKit in
theorem Tryz.slices_Sort_int (blk off cap : Nat) (zs : List Int) (w : World) (hH : Holds (Value.int .i64) w blk off zs.toArray) (hblk : blk < w.heap.size) (hsz : zs.length < 4611686018427387904) :
    Calls Tryz.prog 101 #[.slice (some ⟨blk, off, none⟩) zs.length cap] w fun e w' =>
      e = .returned (.tuple #[]) ∧ ∃ n os, w' = grow (putRow (Value.int .i64) (Sort.ahead w n) blk off (zs.mergeSort fun x y => decide (x ≤ y)).toArray) os := Any.slices_Sort_int Tryz.lays189 blk off cap zs w hH hblk hsz
open Go.RowKit Go.Lib in
open Go.RowKit Go.Lib in
def Tryz.lays146_ren : Go.Shelf.Ren := ⟨fun | 146 => 133 | 221 => 163 | 268 => 174 | 138 => 175 | 143 => 176 | 195 => 182 | 197 => 183 | 218 => 184 | 219 => 185 | 260 => 190 | 217 => 191 | 225 => 192 | 224 => 193 | 267 => 194 | 266 => 197 | 314 => 198 | n => n, fun | 9 => 9 | 31 => 149 | 3 => 3 | 4 => 4 | 0 => 0 | 105 => 229 | 21 => 21 | 5 => 5 | 46 => 170 | 119 => 236 | 139 => 239 | 138 => 238 | 146 => 240 | 51 => 205 | n => n, fun | 1 => 1 | 3 => 2 | 4 => 3 | n => n⟩
theorem Tryz.lays146 : Go.Proofs.Lays.n146 Tryz.prog Tryz.lays146_ren := {
  mixed := by kernel_rfl
  f138 := Tryz.func175.trans (congrArg some (by kernel_rfl))
  f143 := Tryz.func176.trans (congrArg some (by kernel_rfl))
  f146 := Tryz.func133.trans (congrArg some (by kernel_rfl))
  f195 := Tryz.func182.trans (congrArg some (by kernel_rfl))
  f197 := Tryz.func183.trans (congrArg some (by kernel_rfl))
  f217 := Tryz.func191.trans (congrArg some (by kernel_rfl))
  f218 := Tryz.func184.trans (congrArg some (by kernel_rfl))
  f219 := Tryz.func185.trans (congrArg some (by kernel_rfl))
  f221 := Tryz.func163.trans (congrArg some (by kernel_rfl))
  f224 := Tryz.func193.trans (congrArg some (by kernel_rfl))
  f225 := Tryz.func192.trans (congrArg some (by kernel_rfl))
  f260 := Tryz.func190.trans (congrArg some (by kernel_rfl))
  f266 := Tryz.func197.trans (congrArg some (by kernel_rfl))
  f267 := Tryz.func194.trans (congrArg some (by kernel_rfl))
  f268 := Tryz.func174.trans (congrArg some (by kernel_rfl))
  f314 := Tryz.func198.trans (congrArg some (by kernel_rfl))
  t0 := Tryz.underlying0
  a0 := Tryz.isAgg0
  z0 := Tryz.sizeOf0
  v0 := Tryz.zeroValue0
  t3 := Tryz.underlying3
  a3 := Tryz.isAgg3
  z3 := Tryz.sizeOf3
  v3 := Tryz.zeroValue3
  t4 := Tryz.underlying4
  a4 := Tryz.isAgg4
  z4 := Tryz.sizeOf4
  v4 := Tryz.zeroValue4
  t5 := Tryz.underlying5
  a5 := Tryz.isAgg5
  z5 := Tryz.sizeOf5
  v5 := Tryz.zeroValue5
  t9 := Tryz.underlying9
  a9 := Tryz.isAgg9
  z9 := Tryz.sizeOf9
  v9 := Tryz.zeroValue9
  t21 := Tryz.underlying21
  a21 := Tryz.isAgg21
  z21 := Tryz.sizeOf21
  v21 := Tryz.zeroValue21
  t31 := Tryz.underlying149
  a31 := Tryz.isAgg149
  z31 := Tryz.sizeOf149
  v31 := Tryz.zeroValue149
  t46 := Tryz.underlying170
  a46 := Tryz.isAgg170
  z46 := Tryz.sizeOf170
  v46 := Tryz.zeroValue170
  t51 := Tryz.underlying205
  a51 := Tryz.isAgg205
  z51 := Tryz.sizeOf205
  v51 := Tryz.zeroValue205
  t105 := Tryz.underlying229
  a105 := Tryz.isAgg229
  z105 := Tryz.sizeOf229
  v105 := Tryz.zeroValue229
  t119 := Tryz.underlying236
  a119 := Tryz.isAgg236
  z119 := Tryz.sizeOf236
  t138 := Tryz.underlying238
  a138 := Tryz.isAgg238
  z138 := Tryz.sizeOf238
  v138 := Tryz.zeroValue238
  t139 := Tryz.underlying239
  a139 := Tryz.isAgg239
  z139 := Tryz.sizeOf239
  v139 := Tryz.zeroValue239
  t146 := Tryz.underlying240
  a146 := Tryz.isAgg240
  z146 := Tryz.sizeOf240
  v146 := Tryz.zeroValue240
  g1 := by kernel_rfl
  g3 := by kernel_rfl
  g4 := by kernel_rfl }
open Go.RowKit Go.Lib in
theorem Tryz.strings_Split (s sep : ByteArray) (m : Int) (w : World) (hs : s.size < 4294967281) (hm : w.cell? ⟨1, 0, none⟩ = some (.int .i64 m)) (h1 : 1 ≤ sep.size) :
    Calls Tryz.prog 133 #[.string s, .string sep] w fun e w' =>
      e = .returned (.slice (some ⟨w.heap.size, 0, none⟩) (Lib.countB s sep + 1) (Lib.countB s sep + 1)) ∧ w' = w.alloc (.cells ((Lib.splitB sep 0 (Lib.countB s sep) s).map Value.string).toArray 9) := Any.strings_Split Tryz.lays146 (by kernel_rfl) s sep m w hs hm h1
open Go.RowKit Go.Lib in
def Tryz.laysNm220_ren : Go.Shelf.Ren := ⟨fun | 20 => 102 | n => n, fun | 22 => 23 | 3 => 3 | 4 => 4 | 0 => 0 | n => n, fun | n => n⟩
theorem Tryz.laysNm220 : Go.Proofs.Lays2.n20 Tryz.prog Tryz.laysNm220_ren := {
  mixed := by kernel_rfl
  f20 := Tryz.func102.trans (congrArg some (by kernel_rfl))
  t0 := Tryz.underlying0
  a0 := Tryz.isAgg0
  z0 := Tryz.sizeOf0
  v0 := Tryz.zeroValue0
  t3 := Tryz.underlying3
  a3 := Tryz.isAgg3
  z3 := Tryz.sizeOf3
  v3 := Tryz.zeroValue3
  t4 := Tryz.underlying4
  a4 := Tryz.isAgg4
  z4 := Tryz.sizeOf4
  v4 := Tryz.zeroValue4
  t22 := Tryz.underlying23
  a22 := Tryz.isAgg23
  z22 := Tryz.sizeOf23
  v22 := Tryz.zeroValue23
  i3 := by kernel_rfl }
open Go.RowKit Go.Lib Go.Sort in
open Go.RowKit Go.Lib Go.Sort in
theorem Tryz.slices_Compact_int (blk off cap : Nat) (zs : List Int) (w : World) (hH : Holds (Value.int .i64) w blk off zs.toArray) (hsz : zs.length ≤ 9223372036854775807) (hcap : zs.length ≤ cap) :
    Calls Tryz.prog 102 #[.slice (some ⟨blk, off, none⟩) zs.length cap] w fun e w' => e = .returned (.slice (some ⟨blk, off, none⟩) (Lib.compact zs).length cap) ∧ ∃ q, w' = putRow (Value.int .i64) (Sort.ahead w q) blk off (Lib.compact zs ++ List.replicate (zs.length - (Lib.compact zs).length) 0).toArray := Any.slices_Compact_int Tryz.laysNm220 blk off cap zs w hH hsz hcap
open Go.RowKit Go.Lib Go.Sort in
theorem Tryz.slices_Compact_int_empty (a : Option Addr) (cap : Nat) (w : World) :
    Calls Tryz.prog 102 #[.slice a 0 cap] w fun e w' => e = .returned (.slice a 0 cap) ∧ w' = w := Any.slices_Compact_int_empty Tryz.laysNm220 a cap w
open Go.RowKit Go.Lib Go.Sort in
open Go.RowKit Go.Sort in
theorem Tryz.slices_Sort_int_none (p : Option Addr) (cap : Nat) (w : World) :
    Calls Tryz.prog 101 #[.slice p 0 cap] w fun e w' => e = .returned (.tuple #[]) ∧ w' = w := Any.slices_Sort_int_none Tryz.lays189 p cap w
end Go.Proofs
namespace Go.Vc
open Go Go.RowKit
section
variable {P : Program} {Y : TypeId → Ty} {a : Act} {w : World}
theorem raw_load1 (hY : YOK P Y) {o : Oper} {p : Operand} {t : TypeId} {b k : Nat} {u : Value} (ho : o.op = .load t p) (hag : (Y t).agg = some false) (hp : a.eval p = .pointer (some ⟨b, k, none⟩)) (hu : w.cell? ⟨b, k, none⟩ = some u) :
    (execOp a.eval o).run P w = .ok (.value u) w := by
  have := run_load1 hY hag hu
  simp [execOp, ho, hp, Instr.loadAt, Instr.sureAddr, this]
end
end Go.Vc
namespace Go.Vc.Gd
open Go Go.Proofs Go.Vc Go.RowKit
def handsTo (b : Book) (sheet : Int) : Nat → List Int
  | 0 => []
  | p + 1 => bif sureP b (nth (allPlans b) p) then handsTo b sheet p ++ [(nth (nth (allPlans b) p) sheet.toNat).one, (nth (nth (allPlans b) p) sheet.toNat).other] else handsTo b sheet p
theorem handsTo_len (b : Book) (sheet : Int) : ∀ k, (handsTo b sheet k).length ≤ 2 * k
  | 0 => Nat.le_refl _
  | k + 1 => by
    have := handsTo_len b sheet k
    unfold handsTo
    cases sureP b (nth (allPlans b) k) <;> simp <;> omega
def sortedOnce (zs : List Int) : List Int := Lib.compact (zs.mergeSort fun x y => decide (x ≤ y))
theorem compact_len (zs : List Int) : (Lib.compact zs).length ≤ zs.length := by
  unfold Lib.compact Lib.compactUpTo
  rw [List.length_map]
  have := List.length_filter_le (Lib.keeps zs.toArray) (List.range zs.length)
  simpa using this
theorem heap_putRow {α : Type} [Inhabited α] (enc : α → Value) (w : World) (blk off : Nat) (d : Array α) {b : Nat} (h : b ≠ blk) : (Sort.putRow enc w blk off d).heap[b]? = w.heap[b]? := by
  simp only [Sort.putRow, Sort.mapBlock, Array.getElem?_modify]
  rw [if_neg (fun hh => h hh.symm)]
theorem ints_holds {vis : Nat → Nat} {w : World} {b off cap : Nat} {zs : List Int} {g : Tag} {n : Nat} {f : Nat → List C} (hn : n = zs.length) (hf : f = fun i => eI (nth zs i)) (hrep : Rep vis w (.s g n f) (.slice (some ⟨b, off, none⟩) n cap)) {cs : Array Value} {t : TypeId} (hh : w.heap[b]? = some (.cells cs t (0, 0))) :
    Sort.Holds (Value.int .i64) w b off zs.toArray := by
  intro j hj
  have hj : j < zs.length := by simpa using hj
  rw [← hn] at hj
  cases hrep with
  | s _ n f b off cap sz u a1 a2 a3 a4 a5 a6 =>
    subst hf
    have hsz : sz = 1 := (a3 j hj).symm
    subst hsz
    have h5 := a5 j 0 _ hj rfl
    have h6 := a6 j 0 _ hj rfl
    rw [Nat.mul_one, Nat.add_zero] at h5
    refine ⟨?_, by simp [World.frozen?, hh]⟩
    rw [h5]
    have hnth : zs.toArray[j]! = nth zs j := by
      rw [nth_eq (by omega), getElem!_pos _ j (by simp; omega)]
      simp
    rw [hnth]
    generalize u j 0 = uv at h6
    cases h6
    rfl
structure Once (X : Cx) (w w3 : World) (zs : List Int) (u : Value) (vis' : Nat → Nat) : Prop where
  size : w.heap.size ≤ w3.heap.size
  os : w3.os = w.os
  tape : w3.tape = w.tape
  output : w3.output = w.output
  mark : ∀ D : Nat, w.heap[D]? = some (.deferred (some [])) → w3.heap[D]? = w.heap[D]?
  old : ∀ b : Nat, b < X.base → w3.heap[b]? = w.heap[b]?
  vold : ∀ b, b < X.base → vis' b = X.vis b
  fresh : ∀ b, w3.heap.size ≤ b → vis' b = 0
  rep : Rep vis' w3 (.l eI (sortedOnce zs)) u
variable {X : Cx} {a : Act} {w : World} {G : Gh} {e : Env} {nt : Nat}
theorem sort_compact (R : Rel Y X nt [] e a w G) {zs : List Int} {u : Value} {bx' : Nat} {k : Nat} (hk : k < FAR) (hlen : zs.length ≤ 1000000) (hbox : ∀ b, G.tk k = some b → bx' ≠ b) (hbl : bx' < w.heap.size)
    (hrep : Rep G.vis w (.s (.t k) zs.length fun i => eI (nth zs i)) u) (hown : Own G w Y k 3 zs.length (fun i => eI (nth zs i)) u) :
    ∃ Q : World → Prop, Calls Tryz.prog 101 #[u] w (fun en w1 => en = .returned (.tuple #[]) ∧ Q w1) ∧ ∀ w1, Q w1 → w1.heap[bx']? = w.heap[bx']? ∧
      Calls Tryz.prog 102 #[u] w1 (fun en w3 => ∃ u' vis', en = .returned u' ∧ Once X w w3 zs u' vis') := by
  have triv : ∀ (p : Option Addr) (cap : Nat), zs = [] → u = .slice p 0 cap → (∃ vis' : Nat → Nat, vis' = G.vis) → ∃ Q : World → Prop, Calls Tryz.prog 101 #[u] w (fun en w1 => en = .returned (.tuple #[]) ∧ Q w1) ∧ ∀ w1, Q w1 → w1.heap[bx']? = w.heap[bx']? ∧
      Calls Tryz.prog 102 #[u] w1 (fun en w3 => ∃ u' vis', en = .returned u' ∧ Once X w w3 zs u' vis') := by
    intro p cap hz hu _
    subst hz
    subst hu
    refine ⟨fun w1 => w1 = w, (Tryz.slices_Sort_int_none p cap w).mono fun en w1 h => h, fun w1 hw => ?_⟩
    subst hw
    refine ⟨rfl, (Tryz.slices_Compact_int_empty p cap w1).mono fun en w3 h => ?_⟩
    obtain ⟨h1, rfl⟩ := h
    refine ⟨_, G.vis, h1, Nat.le_refl _, rfl, rfl, rfl, fun _ _ => rfl, fun _ _ => rfl, R.old, R.fresh, ?_⟩
    have h1 : sortedOnce [] = [] := by unfold sortedOnce; rw [List.mergeSort_nil]; rfl
    rw [h1]
    exact Rep.dem hrep
  rcases hown.2 with h | ⟨h, p, hu⟩ | ⟨b, xs, hb, hob, hrow, hvis⟩
  · have hz : zs = [] := by
      subst h
      generalize hn : zs.length = n at hrep
      cases hrep
      exact List.eq_nil_of_length_eq_zero hn
    subst hz
    exact triv none 0 rfl h ⟨_, rfl⟩
  · have hz : zs = [] := by
      rcases h with h | h
      · exact List.eq_nil_of_length_eq_zero h
      · omega
    subst hz
    exact triv p 0 rfl hu ⟨_, rfl⟩
  · obtain ⟨cap, cur, rfl, hcell, hnc, hcm, hcs⟩ : ∃ cap cur, u = .slice (some ⟨b, 0, none⟩) zs.length cap ∧ w.heap[b]? = some (.cells cur 3 (0, 0)) ∧ zs.length ≤ cap ∧ cap ≤ maxLen ∧ cur.size = cap * (Y 3).size := by
      rcases hrow.2 with ⟨h, _⟩ | ⟨g, cap, cur, hu, _, h2, h3, h4, h5, _⟩
      · rw [h] at hob; cases hob
      · rw [hu] at hob
        simp only [Value.ownBlock, Option.some.injEq] at hob
        subst hob
        exact ⟨cap, cur, hu, h2, h3, h4, h5⟩
    obtain ⟨t1, t2, t3, t4, t5⟩ := R.tks k b hb
    have hH := ints_holds rfl rfl hrep hcell
    refine ⟨fun w1 => ∃ n os, w1 = Sort.grow (Sort.putRow (Value.int .i64) (Sort.ahead w n) b 0 (zs.mergeSort fun x y => decide (x ≤ y)).toArray) os, (Tryz.slices_Sort_int b 0 cap zs w hH t2 (by omega)).mono fun en w1 h => h, fun w1 hw => ?_⟩
    obtain ⟨n, os, rfl⟩ := hw
    generalize hys : (zs.mergeSort fun x y => decide (x ≤ y)) = ys
    have hyl : ys.length = zs.length := by rw [← hys, List.length_mergeSort]
    have hne : ∀ b' : Nat, b' ≠ b → b' < w.heap.size → (Sort.grow (Sort.putRow (Value.int .i64) (Sort.ahead w n) b 0 ys.toArray) os).heap[b']? = w.heap[b']? := fun b' h1 h2 => by
      rw [Sort.heap_grow_old _ _ (by simpa using h2), heap_putRow _ _ _ _ _ h1]
      rfl
    refine ⟨hne _ (hbox b hb) hbl, ?_⟩
    have hH1 : Sort.Holds (Value.int .i64) (Sort.grow (Sort.putRow (Value.int .i64) (Sort.ahead w n) b 0 ys.toArray) os) b 0 ys.toArray :=
      Sort.holds_grow _ _ _ _ _ _ (by simpa using t2) (Sort.holds_putRow _ _ _ _ zs.toArray _ (Sort.holds_ahead _ _ _ _ _ _ hH) (by simpa using hyl))
    rw [← hyl]
    refine (Tryz.slices_Compact_int b 0 cap ys _ hH1 (by omega) (by omega)).mono fun en w3 h => ?_
    obtain ⟨h1, q, h2⟩ := h
    generalize hW : Sort.grow (Sort.putRow (Value.int .i64) (Sort.ahead w n) b 0 ys.toArray) os = W at *
    have hWs : w.heap.size ≤ W.heap.size := by rw [← hW]; simp
    have hne3 : ∀ b' : Nat, b' ≠ b → b' < w.heap.size → w3.heap[b']? = w.heap[b']? := fun b' g1 g2 => by
      rw [h2, heap_putRow _ _ _ _ _ g1]
      exact hne b' g1 g2
    have hcl := compact_len ys
    have h3s : w3.heap.size = W.heap.size := by rw [h2]; simp
    refine ⟨_, fun x => if x = b then (Lib.compact ys).length else G.vis x, h1, ⟨by omega, ?_, ?_, ?_, fun D hD => ?_, fun b' hb' => hne3 b' (by omega) (by have := R.base; omega), fun b' hb' => ?_, fun b' hb' => ?_, ?_⟩⟩
    · rw [h2, ← hW]; rfl
    · rw [h2, ← hW]; rfl
    · rw [h2, ← hW]; rfl
    · refine hne3 D (fun hh => ?_) (by have := (Array.getElem?_eq_some_iff.1 hD).1; exact this)
      rw [hh, hcell] at hD
      cases hD
    · rw [if_neg (by omega)]
      exact R.old b' hb'
    · rw [if_neg (by omega)]
      exact R.fresh b' (by omega)
    · unfold sortedOnce
      rw [hys]
      have hrow : ∀ i, i < (Lib.compact ys).length → w3.cell? ⟨b, 0 + i, none⟩ = some (.int .i64 (nth (Lib.compact ys) i)) := fun i hi => by
        have := Sort.cell?_putRow (Value.int .i64) (Sort.ahead W q) b 0 ys.toArray (Lib.compact ys ++ List.replicate (ys.length - (Lib.compact ys).length) 0).toArray (Sort.holds_ahead _ _ _ _ _ _ hH1) (by simp; omega) i (by simp; omega)
        rw [← h2] at this
        rw [this, getElem!_pos _ i (by simp; omega), nth_eq hi]
        simp [hi]
      refine .s _ _ _ b 0 cap 1 (fun i _ => .int .i64 (nth (Lib.compact ys) i)) (by omega) hcm (fun i hi => rfl) (by simp) (fun i j c hi hj => ?_) (fun i j c hi hj => ?_)
      · have hj0 : j = 0 := by
          have := (List.getElem?_eq_some_iff.1 hj).1
          have h1 : (eI (nth (Lib.compact ys) i)).length = 1 := rfl
          omega
        subst hj0
        rw [Nat.mul_one, Nat.add_zero]
        exact hrow i hi
      · have hj0 : j = 0 := by
          have := (List.getElem?_eq_some_iff.1 hj).1
          have h1 : (eI (nth (Lib.compact ys) i)).length = 1 := rfl
          omega
        subst hj0
        obtain rfl : C.v (.int .i64 (nth (Lib.compact ys) i)) = c := Option.some.inj hj
        exact .v _ rfl
end Go.Vc.Gd
namespace Go.Vc.Gd
open Go Go.Proofs Go.Vc Go.RowKit
variable {Gl : World → Prop}
noncomputable def whoC : List Code × Code := match Tryz.f57.body with | some c => cutSeq 4 c | none => ([], .skip)
noncomputable def whoOps : Nat → Array Oper
  | 0 => match whoC.2 with | .seq (.region _ o _) _ => o | _ => #[]
  | _ => match whoC.2 with | .seq _ (.seq (.region _ o _) _) => o | _ => #[]
theorem whoC_eq : whoC.2 = .seq (.region 8 (whoOps 0) false) (.seq (.region 9 (whoOps 1) false) .ret) := by kernel_rfl
theorem whoBody : Tryz.f57.body = some (seqs whoC.1 whoC.2) := by kernel_rfl
noncomputable def whoOp (r i : Nat) : Oper := ((whoOps r)[i]?).getD default
theorem whoOp00 : (whoOps 0)[0]? = some (whoOp 0 0) ∧ (whoOp 0 0).guard = none ∧ (whoOp 0 0).op = .load 23 (.tmp 6) ∧ (whoOp 0 0).dst = some 40 := ⟨by kernel_rfl, by kernel_rfl, by kernel_rfl, by kernel_rfl⟩
theorem whoOp01 : (whoOps 0)[1]? = some (whoOp 0 1) ∧ (whoOp 0 1).guard = none ∧ (whoOp 0 1).op = .call { callee := .value (.func 101), args := #[.tmp 40], argTypes := #[23] } ∧ (whoOp 0 1).dst = some 41 := ⟨by kernel_rfl, by kernel_rfl, by kernel_rfl, by kernel_rfl⟩
theorem whoOp10 : (whoOps 1)[0]? = some (whoOp 1 0) ∧ (whoOp 1 0).guard = none ∧ (whoOp 1 0).op = .load 23 (.tmp 6) ∧ (whoOp 1 0).dst = some 42 := ⟨by kernel_rfl, by kernel_rfl, by kernel_rfl, by kernel_rfl⟩
theorem whoOp11 : (whoOps 1)[1]? = some (whoOp 1 1) ∧ (whoOp 1 1).guard = none ∧ (whoOp 1 1).op = .call { callee := .value (.func 102), args := #[.tmp 42], argTypes := #[23] } ∧ (whoOp 1 1).dst = some 43 := ⟨by kernel_rfl, by kernel_rfl, by kernel_rfl, by kernel_rfl⟩
theorem whoOp12 : (whoOps 1)[2]? = some (whoOp 1 2) ∧ (whoOp 1 2).guard = none ∧ (whoOp 1 2).op = .assign (.tmp 43) ∧ (whoOp 1 2).dst = some 4 := ⟨by kernel_rfl, by kernel_rfl, by kernel_rfl, by kernel_rfl⟩
theorem whoOp13 : (whoOps 1)[3]? = some (whoOp 1 3) ∧ (whoOp 1 3).guard = none ∧ (whoOp 1 3).op = .assign (.const (.int .i64 0)) ∧ (whoOp 1 3).dst = some 5 := ⟨by kernel_rfl, by kernel_rfl, by kernel_rfl, by kernel_rfl⟩
theorem whoR0 : List.range (whoOps 0).size = [0, 1] := by kernel_rfl
theorem whoR1 : List.range (whoOps 1).size = [0, 1, 2, 3] := by kernel_rfl
theorem fn101 : FnOK Tryz.prog 101 := ⟨Tryz.f101, by kernel_rfl, by kernel_rfl, by kernel_rfl⟩
theorem fn102 : FnOK Tryz.prog 102 := ⟨Tryz.f102, by kernel_rfl, by kernel_rfl, by kernel_rfl⟩
theorem exec_call1 {P : Program} {a : Act} {n : Nat} {f : Nat → Value} {ds : List Deferred} {w : World} {o : Oper} {g : FuncId} {t : Nat} {tys : Array TypeId} (S : SL a n f ds) (ho : o.op = .call { callee := .value (.func g), args := #[.tmp t], argTypes := tys }) (ht : t < n) (hfn : FnOK P g) :
    (execOp a.eval o).run P w = .ok (.enter g #[f t]) w := by
  have := exec_call (P := P) (w := w) (a := a) ho (us := #[]) (cvs := #[]) rfl hfn
  have he : #[Operand.tmp t].map a.eval = #[f t] := by simp [S.eval ht]
  rw [he] at this
  simpa using this
def whoE (zs : List Int) : Env := v 6 (ad 6) :: tk 100 3 :: bx 6 [.lt 100 eI zs]
theorem who_tail (S : Set Tryz.prog Y Gl) {zs : List Int} (hz : zs.length ≤ 1000000) {X : Cx} {vis : Nat → Nat} {w0 : World} {a : Act} {w : World} {G : Gh} (Tl : Tail Tryz.prog Gl Y X Tryz.f57 (whoE zs) vis w0 a w G) :
    whoC.2.wpIn (Fr none) 0 Tryz.prog (bodyPostM (Fr none) 0 Tryz.prog Tryz.f57 fun en w' => Below w0.heap.size w0 w' ∧ Answers vis w0 en w' (.ret (.tup [.c (.l eI (sortedOnce zs)), .c (Ci 0)]))) a w := by
  have R := Tl.rel
  obtain ⟨b1, b2, _⟩ := R.mem.box 6 (by show live ≠ .any; exact live_ne)
  obtain ⟨_, _, u, hu, hvok⟩ := R.mem.cells 6 0 (by show (T.d (.c (.lt 100 eI zs))) ≠ .any; intro hh; cases hh)
  have hsl := (R.slots 6).rel
  have hslot : a.tmps.getD 6 undef = .pointer (some ⟨G.bk 6, 0, none⟩) := by
    unfold slotV at hsl
    rw [if_pos (by decide)] at hsl
    exact hsl
  have hrep : Rep G.vis w (.s (.t 100) zs.length fun i => eI (nth zs i)) u := hvok.reld
  have hown : Own G w Y 100 3 zs.length (fun i => eI (nth zs i)) u := hvok.own 3 rfl
  obtain ⟨Q, hsort, hcomp⟩ := sort_compact R (by decide) hz (fun b hb => (R.tks 100 b hb).2.2.2.2 6 (by show live ≠ .any; exact live_ne)) b2 hrep hown
  have hsz : a.tmps.size = 44 := R.size
  have S0 : SL a 44 (fun t => a.tmps.getD t undef) a.defers := ⟨hsz, rfl, fun _ _ => rfl⟩
  rw [whoC_eq]
  refine wpIn_seq (wpIn_region ?_)
  rw [whoR0]
  obtain ⟨o1, o2, o3, o4⟩ := whoOp00
  refine ops_val o1 o2 (by rw [o3]; intro c hc; cases hc) (raw_load1 yok (b := G.bk 6) (k := 0) (u := u) o3 rfl (by rw [S0.eval (by decide)]; exact hslot) hu) ?_
  rw [o4]
  have S1 := S0.put (d := 40) (by decide) u
  obtain ⟨o1, o2, o3, o4⟩ := whoOp01
  refine ops_call o1 o2 (by rw [o3]; intro c hc; cases hc) (exec_call1 S1 o3 (by decide) fn101) hsort ?_
  rintro _ w1 ⟨rfl, hQ⟩
  refine ⟨_, rfl, ?_⟩
  rw [o4]
  have S2 := S1.put (d := 41) (by decide) (.tuple #[])
  obtain ⟨hb1, hc⟩ := hcomp w1 hQ
  have hu1 : w1.cell? ⟨G.bk 6, 0, none⟩ = some u := by rw [World.cell?_of_block hb1]; exact hu
  show (Code.seq (.region 9 (whoOps 1) false) .ret).wpIn (Fr none) 0 Tryz.prog _ _ w1
  refine wpIn_seq (wpIn_region ?_)
  rw [whoR1]
  obtain ⟨o1, o2, o3, o4⟩ := whoOp10
  refine ops_val o1 o2 (by rw [o3]; intro c hc; cases hc) (raw_load1 yok (b := G.bk 6) (k := 0) (u := u) o3 rfl (by rw [S2.eval (by decide)]; exact hslot) hu1) ?_
  rw [o4]
  have S3 := S2.put (d := 42) (by decide) u
  obtain ⟨o1, o2, o3, o4⟩ := whoOp11
  refine ops_call o1 o2 (by rw [o3]; intro c hc; cases hc) (exec_call1 S3 o3 (by decide) fn102) hc ?_
  rintro _ w3 ⟨u', vis', rfl, hO⟩
  refine ⟨_, rfl, ?_⟩
  rw [o4]
  have S4 := S3.put (d := 43) (by decide) u'
  obtain ⟨o1, o2, o3, o4⟩ := whoOp12
  refine ops_val o1 o2 (by rw [o3]; intro c hc; cases hc) (v := u') (w' := w3) (by simp [execOp, o3, S4.eval, upd]) ?_
  rw [o4]
  have S5 := S4.put (d := 4) (by decide) u'
  obtain ⟨o1, o2, o3, o4⟩ := whoOp13
  refine ops_val o1 o2 (by rw [o3]; intro c hc; cases hc) (v := .int .i64 0) (w' := w3) (by simp [execOp, o3, Act.eval]) ?_
  rw [o4]
  have S6 := S5.put (d := 5) (by decide) (.int .i64 0)
  refine wpIn_ret ?_
  have hj := R.jj
  rw [Tl.J] at hj
  have R' := R.anew (a' := Act.put (Act.put (Act.put (Act.put (Act.put (Act.put a (some 40) u) (some 41) (.tuple #[])) (some 42) u) (some 43) u') (some 4) u') (some 5) (.int .i64 0)) (w' := w3) (vis' := vis') (e' := [(0, 4, .d (.c (.l eI (sortedOnce zs)))), (0, 5, I 0)]) (fun _ => rfl) (fun _ => rfl) (fun _ _ => rfl)
    (by rw [S6.size, hsz]) S6.defers hO.size (fun D hD => hO.mark D (R.marks D hD).2.1) (fun t ht => ?_) hO.fresh hO.vold (by
      rw [Tl.J]
      refine ⟨hj.1, hj.2.trans ⟨hO.os, hO.tape, hO.output, hO.size, fun b hb => hO.old b (by rw [Tl.base]; exact hb)⟩⟩)
  · exact Tl.leave S R' ⟨SEq_whole rfl, rfl⟩
  · by_cases h4 : t = 4
    · subst h4
      refine VOK.dem (x := .c (.l eI (sortedOnce zs))) ?_
      have := S6.get 4 (by decide)
      unfold slotV
      rw [if_pos (by decide), this]
      exact hO.rep
    · by_cases h5 : t = 5
      · subst h5
        refine VOK.dem (x := .c (Ci 0)) ?_
        have := S6.get 5 (by decide)
        unfold slotV
        rw [if_pos (by decide), this]
        exact .v _ rfl
      · refine absurd ?_ ht
        rw [get_cons_ne (fun hh => h4 hh.2.symm), get_cons_ne (fun hh => h5 hh.2.symm)]
        rfl
theorem who57 (S : Set Tryz.prog Y Gl) (b : Book) (sheet : Int) (hb : b.ok = true) (hs : b.isSheet sheet = true) : Computes Tryz.prog Gl 57 [tBook b, I sheet] (.ret (.tup [.c (.l eI (sortedOnce (handsTo b sheet (allPlans b).length))), .c (Ci 0)])) := by
  have hl := handsTo_len b sheet
  have hpl := allPlans_len hb
  have hls := hl (allPlans b).length
  refine fn_tail S (E:=whoE (handsTo b sheet (allPlans b).length)) (xs:=whoC.1) (tl:=whoC.2) (.r (.ret (B true)) (.r (.ret (B (inR sheet (0:Int) ((↑(List.length (Book.sheets b)):Int)-(1:Int))))) (.br .nil (.r (.ret (T.fn (121:FuncId) [] [T.d (D.c (C.p (cBook b)))])) (.rf (List.length (allPlans b)) (List.length (allPlans b)) (fun p=>[tWork {book:=b,plan:=nth (allPlans b) p}]) (fun p=>v 6 (ad 6)::tk 100 3::v 3 (ad 3)::(bx 3 [Ci sheet] ++ bx 6 [C.lt (100:Nat) eI (handsTo b sheet p)])) (fun k0=>.r (.ret (B (Work.surely {book:=b,plan:=nth (allPlans b) k0}))) (.br .nil .nil)) .nil))))) Tryz.func57 (by kernel_rfl) whoBody rfl (Computes Tryz.prog Gl 94 [tBook b] (.ret (B true))∧(true=true→true=true)∧(true=true→true=true)∧((true=true→b.3.length≤maxLen)→(true=true→true=true)∧(true=true→inRange IntKind.i64 ((↑b.3.length:Int)-(1:Int)))∧(true=true→true=true)∧(true=true→true=true)∧(true=true→Computes Tryz.prog Gl 91 [I sheet,I 0,I ((↑(List.length (Book.sheets b)):Int)-(1:Int))] (.ret (B (inR sheet (0:Int) ((↑(List.length (Book.sheets b)):Int)-(1:Int))))))∧(true=true→true=true)∧(false=false→true=true)∧((bif false then true else !inR sheet (0:Int) ((↑b.3.length:Int)-(1:Int)))=true→False)∧((bif false then true else !inR sheet (0:Int) ((↑b.3.length:Int)-(1:Int)))=false→Computes Tryz.prog Gl 95 [tBook b] (.ret (T.fn (121:FuncId) [] [T.d (D.c (C.p (cBook b)))]))∧Yd.m yd0=(0:Nat)∧ydOf (Does Tryz.prog Y Gl) (121:Nat) [] [T.d (D.c (C.p [C.l eComp b.1,C.l eI b.2,C.l eI b.3]))] (fun l=>{l:=l,m:=List.length (allPlans b),s:=List.length (allPlans b),ys:=fun p=>[tWork {book:=b,plan:=nth (allPlans b) p}]}) (List.length (allPlans b)) (List.length (allPlans b))∧(sheet=sheet∧(0:Nat)=(0:Nat))∧(∀ (k0:Nat),k0<List.length (allPlans b)→k0≤List.length (allPlans b)→Computes Tryz.prog Gl 96 [tWork {book:=b,plan:=nth (allPlans b) k0}] (.ret (B (Work.surely {book:=b,plan:=nth (allPlans b) k0})))∧(Work.surely {book:=b,plan:=nth (allPlans b) k0}=true→((0:Int)≤sheet∧sheet<(↑(List.length (nth (allPlans b) k0)):Int))∧((0:Int)≤sheet∧sheet<(↑(List.length (nth (allPlans b) k0)):Int))∧(List.length (handsTo b sheet k0)+(2:Nat))*(8:Nat)≤(140737488355328:Nat)∧List.length (handsTo b sheet k0)+(2:Nat)≤(140737488355328:Nat)∧k0<List.length (allPlans b)∧sheet=sheet∧SEq (List.length (handsTo b sheet k0)+(2:Nat)) (catF (List.length (handsTo b sheet k0)) (fun i=>eI (nth (handsTo b sheet k0) i)) fun i=>List.getD [List.map C.dem [C.v (Value.int IntKind.i64 (nth (nth (allPlans b) k0) (Int.toNat sheet)).1)],List.map C.dem [C.v (Value.int IntKind.i64 (nth (nth (allPlans b) k0) (Int.toNat sheet)).2)]] i []) (List.length (handsTo b sheet (k0+(1:Nat)))) fun i=>eI (nth (handsTo b sheet (k0+(1:Nat))) i))∧(Work.surely {book:=b,plan:=nth (allPlans b) k0}=false→k0<List.length (allPlans b)∧sheet=sheet∧SEq (List.length (handsTo b sheet k0)) (fun i=>eI (nth (handsTo b sheet k0) i)) (List.length (handsTo b sheet (k0+(1:Nat)))) fun i=>eI (nth (handsTo b sheet (k0+(1:Nat))) i)))∧(List.length (allPlans b)≤List.length (allPlans b)→SEq (List.length (handsTo b sheet (List.length (allPlans b)))) (fun i=>eI (nth (handsTo b sheet (List.length (allPlans b))) i)) (List.length (handsTo b sheet (List.length (allPlans b)))) fun i=>eI (nth (handsTo b sheet (List.length (allPlans b))) i))))) (by kernel_rfl) ?_ (fun X vis w0 a w G T=>who_tail S (by omega) T)
  have hs' := hs
  unfold Book.isSheet at hs'
  have hr := inR_iff.1 hs'
  obtain ⟨_, _, o3, _⟩ := ok_spec hb
  have hne : (bif false then true else !inR sheet (0 : Int) ((b.3.length : Int) - 1)) = false := by
    show (!inR sheet 0 ((b.sheets.length : Int) - 1)) = false
    rw [hs']; rfl
  refine ⟨fineT S b hb, fun _ => rfl, fun _ => rfl, fun _ => ⟨fun _ => rfl, fun _ => (rng_iff _).2 (by show _ ≤ ((b.sheets.length : Int) - 1) ∧ _; omega), fun _ => rfl, fun _ => rfl, fun _ => in91 S _ _ _, fun _ => rfl, fun _ => rfl, fun h => ?_, fun _ => ⟨plans95 S b, rfl, fun l => plans121 S b l _ hb, ⟨rfl, rfl⟩, fun k h1 h2 => ⟨surely96 S _ hb (allPlans_good h1), fun h => ?_, fun h => ?_⟩, fun _ => SEq_whole rfl⟩⟩⟩
  · rw [hne] at h; cases h
  · have hlk : (nth (allPlans b) k).length = b.sheets.length := (good_spec (allPlans_good h1)).1
    have := hl k
    refine ⟨by omega, by omega, by omega, by omega, h1, rfl, SEq_snoc (m := [(nth (nth (allPlans b) k) sheet.toNat).one, (nth (nth (allPlans b) k) sheet.toNat).other]) ?_ rfl⟩
    show handsTo b sheet (k + 1) = _
    have h' : sureP b (nth (allPlans b) k) = true := h
    rw [handsTo, h']; rfl
  · refine ⟨h1, rfl, SEq_whole ?_⟩
    have h' : sureP b (nth (allPlans b) k) = false := h
    rw [handsTo, h']; rfl
end Go.Vc.Gd
namespace Go.Vc
open Go Go.RowKit
section
variable {P : Program} {Gl : World → Prop}
theorem computes_same {f : FuncId} {args : List T} {x : D} (hf : FnOK P f) (h : ∀ vis w (vs : Array Value), Gl w → RelTs (Gh0 vis) w (Lo w.heap.size) args vs.toList → ∃ v, RelD vis w (fun _ => False) x v ∧ Calls P f vs w fun e w' => e = .returned v ∧ w' = w) : Computes P Gl f args (.ret (.d x)) := by
  refine ⟨hf, fun vis w vs hvis hgl hargs => ?_⟩
  obtain ⟨v, hx, hc⟩ := h vis w vs hgl hargs
  refine hc.mono fun e w' he => ?_
  obtain ⟨rfl, rfl⟩ := he
  exact ⟨.refl _ _, v, vis, rfl, fun _ _ => rfl, hvis, hx⟩
theorem args1 {G : Gh} {w : World} {O : Nat → Prop} {u : Value} {vs : Array Value} (h : RelTs G w O [.d (.c (.v u))] vs.toList) : vs = #[u] := by
  simp only [RelTs] at h
  obtain ⟨v, us, hv, h1, rfl⟩ := h
  simp only [RelT, RelD] at h1
  cases h1
  apply Array.ext'
  rw [hv]
theorem args2 {G : Gh} {w : World} {O : Nat → Prop} {u u' : Value} {vs : Array Value} (h : RelTs G w O [.d (.c (.v u)), .d (.c (.v u'))] vs.toList) : vs = #[u, u'] := by
  simp only [RelTs] at h
  obtain ⟨v, us, hv, h1, v', us', rfl, h2, rfl⟩ := h
  simp only [RelT, RelD] at h1 h2
  cases h1
  cases h2
  apply Array.ext'
  rw [hv]
end
end Go.Vc
namespace Go.Vc.Gd
open Go Go.Proofs Go.Vc Go.RowKit
def bs (l : List UInt8) : ByteArray := ⟨l.toArray⟩
theorem bs_app (a b : List UInt8) : bs a ++ bs b = bs (a ++ b) := by
  apply ByteArray.ext
  rw [ByteArray.data_append]
  simp [bs]
theorem bs_size (a : List UInt8) : (bs a).size = a.length := by simp [bs, ByteArray.size]
theorem bs_list (a : List UInt8) : (bs a).data.toList = a := by simp [bs]
def str (l : List UInt8) : T := .d (.c (.v (.string (bs l))))
def eS (l : List UInt8) : List C := [.v (.string (bs l))]
def dec (n : Int) : List UInt8 := Lib.decDigits n.toNat
theorem fn131 : FnOK Tryz.prog 131 := ⟨Tryz.f131, by kernel_rfl, by kernel_rfl, by kernel_rfl⟩
theorem fn133 : FnOK Tryz.prog 133 := ⟨Tryz.f133, by kernel_rfl, by kernel_rfl, by kernel_rfl⟩
theorem itoa131 {Gl : World → Prop} (n : Int) (h0 : 0 ≤ n) (h1 : n < 100) : Computes Tryz.prog Gl 131 [I n] (.ret (str (dec n))) := by
  refine computes_same fn131 fun vis w vs _ ha => ⟨.string (bs (dec n)), .v _ rfl, ?_⟩
  rw [args1 ha]
  have := Tryz.strconv_Itoa_small n.toNat (by omega) w
  rw [Int.toNat_of_nonneg h0] at this
  exact this
def splitL (c : UInt8) : List UInt8 → List (List UInt8)
  | [] => [[]]
  | x :: r => bif x == c then [] :: splitL c r else match splitL c r with
    | [] => [[x]]
    | p :: q => (x :: p) :: q
theorem splitL_ne (c : UInt8) : ∀ l, splitL c l ≠ []
  | [] => by simp [splitL]
  | x :: r => by
    unfold splitL
    cases x == c with
    | true => simp
    | false =>
      simp only [cond_false]
      split <;> simp
theorem splitL_len (c : UInt8) : ∀ l, (splitL c l).length = l.count c + 1
  | [] => rfl
  | x :: r => by
    have ih := splitL_len c r
    have hne := splitL_ne c r
    unfold splitL
    rw [List.count_cons]
    cases hx : x == c with
    | true => simp [ih]
    | false =>
      simp only [cond_false]
      cases hs : splitL c r with
      | nil => exact absurd hs hne
      | cons p q => rw [hs] at ih; simpa using ih
theorem splitL_app (c : UInt8) : ∀ (a : List UInt8) (b : List UInt8), c ∉ a → splitL c (a ++ c :: b) = a :: splitL c b
  | [], b, _ => by simp [splitL]
  | x :: a, b, h => by
    have hx : (x == c) = false := by rw [beq_eq_false_iff_ne]; intro hh; exact h (by rw [hh]; exact List.mem_cons_self)
    have ih := splitL_app c a b (fun hh => h (List.mem_cons_of_mem _ hh))
    rw [List.cons_append, splitL, hx, cond_false, ih]
theorem splitL_none (c : UInt8) : ∀ (a : List UInt8), c ∉ a → splitL c a = [a]
  | [], _ => rfl
  | x :: a, h => by
    have hx : (x == c) = false := by rw [beq_eq_false_iff_ne]; intro hh; exact h (by rw [hh]; exact List.mem_cons_self)
    have ih := splitL_none c a (fun hh => h (List.mem_cons_of_mem _ hh))
    unfold splitL
    rw [hx, cond_false, ih]
theorem splitK_one (c : UInt8) : ∀ s : List UInt8, Lib.splitK [c] 0 (s.count c) s = splitL c s
  | [] => rfl
  | b :: l => by
    have ih := splitK_one c l
    unfold splitL
    cases hb : b == c with
    | true =>
      obtain rfl := beq_iff_eq.1 hb
      have hix : Lib.index (b :: l) [b] = 0 := by rw [Lib.index]; simp [List.isPrefixOf]
      rw [List.count_cons_self, Lib.splitK, hix]
      simp only [cond_true]
      rw [← ih]
      rfl
    | false =>
      have hne : b ≠ c := beq_eq_false_iff_ne.1 hb
      have hp : ([c] : List UInt8).isPrefixOf (b :: l) = false := by simp [List.isPrefixOf, Ne.symm hne]
      have hix : Lib.index (b :: l) [c] = if Lib.index l [c] == -1 then -1 else Lib.index l [c] + 1 := by rw [Lib.index, hp]; simp
      rw [List.count_cons_of_ne hne, cond_false, ← ih]
      by_cases hm : Lib.index l [c] = -1
      · have h0 : l.count c = 0 := by rw [← Lib.count_one, Lib.count_miss hm]
        rw [h0]
        rfl
      · have hge := Lib.index_ge l [c]
        obtain ⟨j, hj⟩ : ∃ j : Nat, Lib.index l [c] = j := ⟨(Lib.index l [c]).toNat, by omega⟩
        have hcnt : l.count c = Lib.count (l.drop (j + 1)) [c] + 1 := by
          rw [← Lib.count_one, Lib.count_hit (by simp) hj]
          simp; omega
        rw [hcnt]
        unfold Lib.splitK
        have e1 : (Lib.index l [c] == -1) = false := by rw [beq_eq_false_iff_ne]; exact hm
        have e2 : Lib.index (b :: l) [c] = ((j + 1 : Nat) : Int) := by rw [hix, e1, hj]; simp
        have e3 : (Lib.index (b :: l) [c] == -1) = false := by rw [e2, beq_eq_false_iff_ne]; omega
        rw [e1, e3, e2, hj]
        simp
theorem splitB_one (c : UInt8) (s : List UInt8) : Lib.splitB (bs [c]) 0 (Lib.countB (bs s) (bs [c])) (bs s) = (splitL c s).map bs := by
  have h := Lib.splitB_data (bs [c]) 0 (Lib.countB (bs s) (bs [c])) (bs s)
  have hc : Lib.countB (bs s) (bs [c]) = s.count c := by
    show Lib.count (bs s).data.toList (bs [c]).data.toList = _
    rw [bs_list, bs_list, Lib.count_one]
  rw [hc] at h ⊢
  rw [bs_list, bs_list, splitK_one] at h
  rw [← h, List.map_map]
  have : (bs ∘ fun x : ByteArray => x.data.toList) = id := by funext x; rfl
  rw [this, List.map_id]
theorem split133 {Gl : World → Prop} (hG : ∀ w, Gl w → ∃ m, w.cell? ⟨1, 0, none⟩ = some (.int .i64 m)) (s : List UInt8) (c : UInt8) (hs : s.length < 4294967281) : Computes Tryz.prog Gl 133 [str s, str [c]] (.ret (L eS (splitL c s))) := by
  refine ⟨fn133, fun vis w vs hvis hgl hargs => ?_⟩
  rw [args2 hargs]
  obtain ⟨m, hm⟩ := hG w hgl
  have hsp := splitB_one c s
  have hc : Lib.countB (bs s) (bs [c]) + 1 = (splitL c s).length := by
    rw [splitL_len]
    show Lib.count (bs s).data.toList (bs [c]).data.toList + 1 = _
    rw [bs_list, bs_list, Lib.count_one]
  have hlen : (splitL c s).length ≤ 4294967282 := by
    rw [splitL_len]
    have := List.count_le_length (a := c) (l := s)
    omega
  refine (Tryz.strings_Split (bs s) (bs [c]) m w (by rw [bs_size]; exact hs) hm (by rw [bs_size]; simp)).mono fun e w' he => ?_
  obtain ⟨rfl, rfl⟩ := he
  rw [hsp, hc]
  refine ⟨(Below.refl _ _).alloc (Nat.le_refl _) _, _, fun b => if b = w.heap.size then (splitL c s).length else vis b, rfl, fun b hb => ?_, fun b hb => ?_, ?_⟩
  · dsimp only
    rw [if_neg (by omega)]
  · rw [World.size_alloc] at hb
    dsimp only
    rw [if_neg (by omega)]
    exact hvis b (by omega)
  · refine .s _ _ _ w.heap.size 0 (splitL c s).length 1 (fun i _ => .string (bs (nth (splitL c s) i))) (Nat.le_refl _) (by unfold maxLen; omega) (fun i hi => rfl) (by simp) (fun i j c' hi hj => ?_) (fun i j c' hi hj => ?_)
    · have hj0 : j = 0 := by
        have := (List.getElem?_eq_some_iff.1 hj).1
        have h1 : (eS (nth (splitL c s) i)).length = 1 := rfl
        omega
      subst hj0
      rw [World.cell?_alloc_new]
      simp [nth_eq hi, hi]
    · have hj0 : j = 0 := by
        have := (List.getElem?_eq_some_iff.1 hj).1
        have h1 : (eS (nth (splitL c s) i)).length = 1 := rfl
        omega
      subst hj0
      obtain rfl : C.v (.string (bs (nth (splitL c s) i))) = c' := Option.some.inj hj
      exact .v _ rfl
end Go.Vc.Gd
namespace Go.Vc.Gd
open Go Go.Proofs Go.Vc
variable {Gl : World → Prop}
def lGive : List UInt8 := [103, 105, 118, 101]
def lComputer : List UInt8 := [99, 111, 109, 112, 117, 116, 101, 114]
def lTable : List UInt8 := [116, 97, 98, 108, 101]
def lSheet : List UInt8 := [115, 104, 101, 101, 116]
theorem words136 (S : Set Tryz.prog Y Gl)  : Computes Tryz.prog Gl 136 [] (.ret (.d (.agg [.v (.string (bs lGive)), .v (.string (bs lComputer)), .v (.string (bs lTable)), .v (.string (bs lSheet))]))) := by
  refine fn_is S (.nil) Tryz.func136 (by kernel_rfl) ({data:=#[(103:UInt8),(105:UInt8),(118:UInt8),(101:UInt8)]}=bs lGive∧{data:=#[(99:UInt8),(111:UInt8),(109:UInt8),(112:UInt8),(117:UInt8),(116:UInt8),(101:UInt8),(114:UInt8)]}=bs lComputer∧{data:=#[(116:UInt8),(97:UInt8),(98:UInt8),(108:UInt8),(101:UInt8)]}=bs lTable∧{data:=#[(115:UInt8),(104:UInt8),(101:UInt8),(101:UInt8),(116:UInt8)]}=bs lSheet) (by kernel_rfl) ?_
  exact ⟨rfl, rfl, rfl, rfl⟩
theorem sure134 (S : Set Tryz.prog Y Gl) (s : ByteArray) : Computes Tryz.prog Gl 134 [B true, .d (.c (.v (.string s)))] (.ret (.tup [])) := by
  refine fn_is S (.ff .nil) Tryz.func134 (by kernel_rfl) (false=false∧True) (by kernel_rfl) ?_
  exact ⟨rfl, trivial⟩
def nums (l : List Int) : List UInt8 := l.flatMap fun n => 32 :: dec n
def sm (n : Int) : Prop := 0 ≤ n ∧ n < 100
theorem dec_len {n : Int} (h : sm n) : 1 ≤ (dec n).length ∧ (dec n).length ≤ 2 := by
  obtain ⟨h0, h1⟩ := h
  unfold dec
  have h2 : n.toNat < 100 := by omega
  by_cases h : n.toNat < 10
  · rw [Lib.decDigits, dif_pos h]; simp
  · rw [Lib.decDigits, dif_neg h, Lib.decDigits, dif_pos (by omega)]; simp
theorem nums_len : ∀ {l : List Int}, (∀ n ∈ l, sm n) → (nums l).length ≤ 3 * l.length
  | [], _ => Nat.zero_le _
  | n :: l, h => by
    have ih := nums_len (l := l) fun x hx => h x (List.mem_cons_of_mem _ hx)
    have := dec_len (h n List.mem_cons_self)
    simp only [nums, List.flatMap_cons, List.length_append, List.length_cons] at ih ⊢
    omega
theorem nums_take {l : List Int} {k : Nat} (h : k < l.length) : nums (l.take (k + 1)) = nums (l.take k) ++ 32 :: dec (nth l k) := by
  rw [take_succ h]
  simp [nums]
theorem numbers161 (S : Set Tryz.prog Y Gl) (l : List Int) (hl : l.length ≤ 1000) (hn : ∀ n ∈ l, sm n) : Computes Tryz.prog Gl 161 [L eI l] (.ret (str (nums l))) := by
  refine fn_is S (.loop l.length (fun k=>[v 8 (I ↑k),v 7 (I ↑l.length),v 6 (L eI l),v 3 (str (nums (List.take k l)))]) fun k0=>.br (.r (.ret (str (dec (nth l k0)))) .nil) .nil) Tryz.func161 (by kernel_rfl) (l.length≤maxLen→((0:Int)=(↑(0:Nat):Int)∧(↑l.length:Int)=(↑l.length:Int)∧(SEq l.length (fun i=>eI (nth l i)) l.length fun i=>eI (nth l i))∧{data:=#[]}=bs (nums (List.take (0:Nat) l)))∧∀ (k0:Nat),k0≤l.length→(decide ((↑k0:Int)<(↑l.length:Int))=true→((0:Int)≤(↑k0:Int)∧(↑k0:Int)<(↑l.length:Int))∧Computes Tryz.prog Gl 131 [I (nth l k0)] (.ret (str (dec (nth l k0))))∧(↑(ByteArray.size {data:=#[(32:UInt8)]}+ByteArray.size (bs (dec (nth l k0)))):Int)≤IntKind.max IntKind.i64∧(↑(ByteArray.size (bs (nums (List.take k0 l)))+ByteArray.size ({data:=#[(32:UInt8)]} ++ bs (dec (nth l k0)))):Int)≤IntKind.max IntKind.i64∧inRange IntKind.i64 ((↑k0:Int)+(1:Int))∧k0<l.length∧(↑k0:Int)+(1:Int)=(↑(k0+(1:Nat)):Int)∧(↑l.length:Int)=(↑l.length:Int)∧(SEq l.length (fun i=>eI (nth l i)) l.length fun i=>eI (nth l i))∧bs (nums (List.take k0 l)) ++ ({data:=#[(32:UInt8)]} ++ bs (dec (nth l k0)))=bs (nums (List.take (k0+(1:Nat)) l)))∧(decide ((↑k0:Int)<(↑l.length:Int))=false→bs (nums (List.take k0 l))=bs (nums l))) (by kernel_rfl) ?_
  have hlen : ∀ k, (nums (l.take k)).length ≤ 3 * l.length := fun k => by
    have := nums_len (l := l.take k) fun x hx => hn x (List.mem_of_mem_take hx)
    rw [List.length_take] at this
    omega
  simp only [stdS, imp_self, implies_true, and_true]
  refine fun h => ⟨rfl, fun k hk => ⟨fun hlt => ?_, fun hlt => ?_⟩⟩
  · have hlt : k < l.length := by simpa using hlt
    have hs := hn (nth l k) (nth_mem hlt)
    have hd := dec_len hs
    have h1 := hlen k
    have e1 : (bs [32]).size = 1 := rfl
    have e2 : ({ data := #[32] } : ByteArray) = bs [32] := rfl
    have hmax : IntKind.i64.max = 9223372036854775807 := rfl
    refine ⟨⟨by omega, by omega⟩, itoa131 _ hs.1 hs.2, ?_, ?_, (rng_iff _).2 (by omega), hlt, rfl, ?_⟩
    · rw [e2, e1, bs_size, hmax]; omega
    · rw [e2, bs_app, bs_size, bs_size, hmax, List.length_append]
      simp only [List.length_singleton]
      omega
    · rw [e2, bs_app, bs_app, nums_take hlt]; rfl
  · have hlt : ¬ k < l.length := by simpa using hlt
    rw [List.take_of_length_le (by omega)]
theorem numbersR (S : Set Tryz.prog Y Gl) (l : List Int) (hl : l.length ≤ 1000) (hn : ∀ n ∈ l, sm n) (n : Nat) (f : Nat → List C) (h : SEq n f l.length (fun i => eI (nth l i))) : Computes Tryz.prog Gl 161 [.d (.c (.s .n n f))] (.ret (str (nums l))) :=
  (numbers161 S l hl hn).args (show SEq n f l.length (fun i => eI (nth l i)) from h)
theorem seq1 {n : Int} {f : Nat → List C} (h : f 0 = eI n) : SEq 1 f [n].length (fun i => eI (nth [n] i)) := ⟨rfl, fun i hi => .inl (by
  have : i = 0 := by omega
  subst this
  exact h)⟩
theorem size_le {a b : List UInt8} {n : Nat} (ha : a.length ≤ 100) (hb : b.length ≤ 3 * n) (hn : n ≤ 7) : (((bs a).size + (bs b).size : Nat) : Int) ≤ IntKind.i64.max := by
  have hmax : IntKind.i64.max = 9223372036854775807 := rfl
  rw [bs_size, bs_size, hmax]
  omega
inductive Ln | head | comp (c : Comp) | due (n : Int) | sheet (n : Int)
  deriving Inhabited
def lnV : Ln → Value
  | .head => .nilIface
  | .comp c => .iface 173 (.agg #[.int .i64 c.room, .int .i64 c.post.low, .int .i64 c.post.high, .int .i64 c.sheet.low, .int .i64 c.sheet.high, .int .i64 c.look.low, .int .i64 c.look.high])
  | .due n => .iface 175 (.agg #[.int .i64 n])
  | .sheet n => .iface 177 (.agg #[.int .i64 n])
def lnN : Ln → List Int
  | .head => []
  | .comp c => [c.room, c.post.low, c.post.high, c.sheet.low, c.sheet.high, c.look.low, c.look.high]
  | .due n => [n]
  | .sheet n => [n]
def lnW : Ln → List UInt8
  | .head => lGive
  | .comp _ => lComputer
  | .due _ => lTable
  | .sheet _ => lSheet
def lnT (l : Ln) : List UInt8 := lnW l ++ nums (lnN l)
theorem written130h (S : Set Tryz.prog Y Gl)  : Computes Tryz.prog Gl 130 [.d (.c (.v .nilIface))] (.ret (str lGive)) := by
  refine fn_is S (.ff (.ff (.ff (.r (.ret (T.d (D.agg [C.v (Value.string (bs lGive)),C.v (Value.string (bs lComputer)),C.v (Value.string (bs lTable)),C.v (Value.string (bs lSheet))]))) .nil)))) Tryz.func130 (by kernel_rfl) (false=false∧false=false∧false=false∧Computes Tryz.prog Gl 136 [] (.ret (T.d (D.agg [C.v (Value.string (bs lGive)),C.v (Value.string (bs lComputer)),C.v (Value.string (bs lTable)),C.v (Value.string (bs lSheet))])))∧((0:Int)≤(0:Int)∧(0:Int)<(↑(4:Nat):Int))∧bs lGive=bs lGive) (by kernel_rfl) ?_
  simp only [stdS, imp_self, implies_true, and_true]
  exact ⟨words136 S, ⟨by decide, by decide⟩, trivial⟩
theorem written130c (S : Set Tryz.prog Y Gl) (c : Comp) (hn : ∀ n ∈ lnN (.comp c), sm n) : Computes Tryz.prog Gl 130 [.d (.c (.v (.iface 173 (.agg #[.int .i64 c.room, .int .i64 c.post.low, .int .i64 c.post.high, .int .i64 c.sheet.low, .int .i64 c.sheet.high, .int .i64 c.look.low, .int .i64 c.look.high]))))] (.ret (str (lComputer ++ nums (lnN (.comp c))))) := by
  refine fn_is S (.tt (.r (.ret (T.d (D.agg [C.v (Value.string (bs lGive)),C.v (Value.string (bs lComputer)),C.v (Value.string (bs lTable)),C.v (Value.string (bs lSheet))]))) (.r (.ret (str (nums (lnN (Ln.comp c))))) .nil))) Tryz.func130 (by kernel_rfl) (true=true∧Computes Tryz.prog Gl 136 [] (.ret (T.d (D.agg [C.v (Value.string (bs lGive)),C.v (Value.string (bs lComputer)),C.v (Value.string (bs lTable)),C.v (Value.string (bs lSheet))])))∧((0:Int)≤(1:Int)∧(1:Int)<(↑(4:Nat):Int))∧Computes Tryz.prog Gl 161 [T.d (D.c (C.s Tag.n (7:Nat) fun i=>List.getD [List.map C.dem [C.v (Value.int IntKind.i64 c.1)],List.map C.dem [C.v (Value.int IntKind.i64 c.2.1)],List.map C.dem [C.v (Value.int IntKind.i64 c.2.2)],List.map C.dem [C.v (Value.int IntKind.i64 c.3.1)],List.map C.dem [C.v (Value.int IntKind.i64 c.3.2)],List.map C.dem [C.v (Value.int IntKind.i64 c.4.1)],List.map C.dem [C.v (Value.int IntKind.i64 c.4.2)]] i []))] (.ret (str (nums (lnN (Ln.comp c)))))∧(↑(ByteArray.size (bs lComputer)+ByteArray.size (bs (nums (lnN (Ln.comp c))))):Int)≤IntKind.max IntKind.i64∧bs lComputer ++ bs (nums (lnN (Ln.comp c)))=bs (lComputer ++ nums (lnN (Ln.comp c)))) (by kernel_rfl) ?_
  simp only [stdS, imp_self, implies_true, and_true]
  refine ⟨words136 S, ⟨by decide, by decide⟩, numbersR S (lnN (.comp c)) (by show 7 ≤ 1000; decide) hn 7 _ ⟨rfl, fun i hi => ?_⟩, size_le (n := 7) (by decide) (nums_len hn) (by decide), bs_app _ _⟩
  have : i = 0 ∨ i = 1 ∨ i = 2 ∨ i = 3 ∨ i = 4 ∨ i = 5 ∨ i = 6 := by omega
  rcases this with rfl | rfl | rfl | rfl | rfl | rfl | rfl <;> exact .inl rfl
theorem written130d (S : Set Tryz.prog Y Gl) (n : Int) (hn : sm n) : Computes Tryz.prog Gl 130 [.d (.c (.v (.iface 175 (.agg #[.int .i64 n]))))] (.ret (str (lTable ++ nums [n]))) := by
  refine fn_is S (.ff (.tt (.r (.ret (T.d (D.agg [C.v (Value.string (bs lGive)),C.v (Value.string (bs lComputer)),C.v (Value.string (bs lTable)),C.v (Value.string (bs lSheet))]))) (.r (.ret (str (nums [n]))) .nil)))) Tryz.func130 (by kernel_rfl) (false=false∧true=true∧Computes Tryz.prog Gl 136 [] (.ret (T.d (D.agg [C.v (Value.string (bs lGive)),C.v (Value.string (bs lComputer)),C.v (Value.string (bs lTable)),C.v (Value.string (bs lSheet))])))∧((0:Int)≤(2:Int)∧(2:Int)<(↑(4:Nat):Int))∧Computes Tryz.prog Gl 161 [T.d (D.c (C.s Tag.n (1:Nat) fun i=>List.getD [List.map C.dem [C.v (Value.int IntKind.i64 n)]] i []))] (.ret (str (nums [n])))∧(↑(ByteArray.size (bs lTable)+ByteArray.size (bs (nums [n]))):Int)≤IntKind.max IntKind.i64∧bs lTable ++ bs (nums [n])=bs (lTable ++ nums [n])) (by kernel_rfl) ?_
  have hn' : ∀ x ∈ [n], sm x := by intro x hx; rw [List.mem_singleton.1 hx]; exact hn
  simp only [stdS, imp_self, implies_true, and_true]
  exact ⟨words136 S, ⟨by decide, by decide⟩, numbersR S [n] (by show 1 ≤ 1000; decide) hn' 1 _ (seq1 rfl), size_le (n := 1) (by decide) (nums_len hn') (by decide), bs_app _ _⟩
theorem written130s (S : Set Tryz.prog Y Gl) (n : Int) (hn : sm n) : Computes Tryz.prog Gl 130 [.d (.c (.v (.iface 177 (.agg #[.int .i64 n]))))] (.ret (str (lSheet ++ nums [n]))) := by
  refine fn_is S (.ff (.ff (.tt (.r (.ret (T.d (D.agg [C.v (Value.string (bs lGive)),C.v (Value.string (bs lComputer)),C.v (Value.string (bs lTable)),C.v (Value.string (bs lSheet))]))) (.r (.ret (str (nums [n]))) .nil))))) Tryz.func130 (by kernel_rfl) (false=false∧false=false∧true=true∧Computes Tryz.prog Gl 136 [] (.ret (T.d (D.agg [C.v (Value.string (bs lGive)),C.v (Value.string (bs lComputer)),C.v (Value.string (bs lTable)),C.v (Value.string (bs lSheet))])))∧((0:Int)≤(3:Int)∧(3:Int)<(↑(4:Nat):Int))∧Computes Tryz.prog Gl 161 [T.d (D.c (C.s Tag.n (1:Nat) fun i=>List.getD [List.map C.dem [C.v (Value.int IntKind.i64 n)]] i []))] (.ret (str (nums [n])))∧(↑(ByteArray.size (bs lSheet)+ByteArray.size (bs (nums [n]))):Int)≤IntKind.max IntKind.i64∧bs lSheet ++ bs (nums [n])=bs (lSheet ++ nums [n])) (by kernel_rfl) ?_
  have hn' : ∀ x ∈ [n], sm x := by intro x hx; rw [List.mem_singleton.1 hx]; exact hn
  simp only [stdS, imp_self, implies_true, and_true]
  exact ⟨words136 S, ⟨by decide, by decide⟩, numbersR S [n] (by show 1 ≤ 1000; decide) hn' 1 _ (seq1 rfl), size_le (n := 1) (by decide) (nums_len hn') (by decide), bs_app _ _⟩
theorem written130 (S : Set Tryz.prog Y Gl) (l : Ln) (hn : ∀ n ∈ lnN l, sm n) : Computes Tryz.prog Gl 130 [.d (.c (.v (lnV l)))] (.ret (str (lnT l))) := by
  cases l with
  | head => exact written130h S
  | comp c => exact written130c S c hn
  | due n => exact written130d S n (hn n List.mem_cons_self)
  | sheet n => exact written130s S n (hn n List.mem_cons_self)
end Go.Vc.Gd
namespace Go.Vc.Gd
open Go Go.Proofs Go.Vc
variable {Gl : World → Prop}
def lnsTo (b : Book) (i j k : Nat) : List Ln := .head :: ((b.comps.take i).map .comp ++ (b.dues.take j).map .due ++ (b.sheets.take k).map .sheet)
def Book.lns (b : Book) : List Ln := .head :: (b.comps.map .comp ++ b.dues.map .due ++ b.sheets.map .sheet)
def eLn (l : Ln) : List C := [.v (lnV l)]
def Book.rows (b : Book) : List (List UInt8) := b.lns.map lnT
def sumTo (w : List UInt8) (i : Nat) : Nat → Int
  | 0 => 0
  | k + 1 => sumTo w i k + ((nth w k).toNat : Int) * ((k : Int) + 1) * ((i : Int) + 1)
def checkTo (rows : List (List UInt8)) : Nat → Int
  | 0 => 0
  | i + 1 => checkTo rows i + sumTo (nth rows i) i (nth rows i).length
def outTo (rows : List (List UInt8)) : Nat → List UInt8
  | 0 => []
  | i + 1 => outTo rows i ++ (nth rows i ++ [10])
def lEnd : List UInt8 := [101, 110, 100, 32]
def checkOf (rows : List (List UInt8)) : Int := Int.tmod (checkTo rows rows.length) 251
def sealed (rows : List (List UInt8)) : List UInt8 := outTo rows rows.length ++ lEnd ++ dec (Int.tdiv (checkOf rows) 100) ++ dec (Int.tmod (Int.tdiv (checkOf rows) 10) 10) ++ dec (Int.tmod (checkOf rows) 10) ++ [10]
def Book.text (b : Book) : List UInt8 := sealed b.rows
structure Book.low (b : Book) : Prop where
  c : b.comps.length ≤ 300
  d : b.dues.length ≤ 300
  s : b.sheets.length ≤ 300
  n : ∀ l ∈ b.lns, ∀ n ∈ lnN l, sm n
theorem lnsTo_c {b : Book} {k : Nat} (h : k < b.comps.length) : lnsTo b (k + 1) 0 0 = lnsTo b k 0 0 ++ [.comp (nth b.comps k)] := by
  unfold lnsTo
  rw [take_succ h]
  simp
theorem lnsTo_d {b : Book} {k : Nat} (h : k < b.dues.length) : lnsTo b b.comps.length (k + 1) 0 = lnsTo b b.comps.length k 0 ++ [.due (nth b.dues k)] := by
  unfold lnsTo
  rw [take_succ h]
  simp
theorem lnsTo_s {b : Book} {k : Nat} (h : k < b.sheets.length) : lnsTo b b.comps.length b.dues.length (k + 1) = lnsTo b b.comps.length b.dues.length k ++ [.sheet (nth b.sheets k)] := by
  unfold lnsTo
  rw [take_succ h]
  simp
theorem lnsTo_all (b : Book) : lnsTo b b.comps.length b.dues.length b.sheets.length = b.lns := by
  unfold lnsTo Book.lns
  rw [List.take_length, List.take_length, List.take_length]
theorem lnsTo_len (b : Book) (i j k : Nat) : (lnsTo b i j k).length ≤ 1 + i + j + k := by
  unfold lnsTo
  simp only [List.length_cons, List.length_append, List.length_map, List.length_take]
  omega
theorem lns_len {b : Book} (hb : b.low) : b.lns.length ≤ 901 := by
  obtain ⟨h1, h2, h3, _⟩ := hb
  unfold Book.lns
  simp only [List.length_cons, List.length_append, List.length_map]
  omega
theorem ln_len {l : Ln} (h : ∀ n ∈ lnN l, sm n) : (lnT l).length ≤ 29 := by
  have := nums_len h
  unfold lnT
  rw [List.length_append]
  cases l <;> simp only [lnN, lnW, lGive, lComputer, lTable, lSheet, List.length_cons, List.length_nil] at this ⊢ <;> omega
theorem byteAt_bs {w : List UInt8} {k : Nat} (h : k < w.length) : byteAt (bs w) k = ((nth w k).toNat : Int) := by
  unfold byteAt
  rw [bs_list, nth_eq h]
  simp [List.getD, h]
theorem term_le {x : UInt8} {k i : Nat} (hk : k ≤ 29) (hi : i ≤ 901) : 0 ≤ (x.toNat : Int) * ((k : Int) + 1) ∧ (x.toNat : Int) * ((k : Int) + 1) ≤ 7650 ∧ 0 ≤ (x.toNat : Int) * ((k : Int) + 1) * ((i : Int) + 1) ∧ (x.toNat : Int) * ((k : Int) + 1) * ((i : Int) + 1) ≤ 7000000 := by
  have hx : x.toNat ≤ 255 := by have := x.toNat_lt; omega
  have h1 : x.toNat * (k + 1) ≤ 255 * 30 := Nat.mul_le_mul hx (by omega)
  have h2 : x.toNat * (k + 1) * (i + 1) ≤ 255 * 30 * 902 := Nat.mul_le_mul h1 (by omega)
  have e1 : (x.toNat : Int) * ((k : Int) + 1) = ((x.toNat * (k + 1) : Nat) : Int) := by push_cast; rfl
  have e2 : (x.toNat : Int) * ((k : Int) + 1) * ((i : Int) + 1) = ((x.toNat * (k + 1) * (i + 1) : Nat) : Int) := by push_cast; rfl
  rw [e2, e1]
  omega
theorem sumTo_le {w : List UInt8} {i : Nat} (hi : i ≤ 901) : ∀ k, k ≤ 30 → 0 ≤ sumTo w i k ∧ sumTo w i k ≤ 7000000 * k
  | 0, _ => by unfold sumTo; omega
  | k + 1, hk => by
    have ih := sumTo_le (w := w) hi k (by omega)
    have := term_le (x := nth w k) (k := k) (i := i) (by omega) hi
    unfold sumTo
    push_cast
    omega
theorem checkTo_le {rows : List (List UInt8)} (h : ∀ i, i < rows.length → (nth rows i).length ≤ 29) : ∀ i, i ≤ rows.length → i ≤ 901 → 0 ≤ checkTo rows i ∧ checkTo rows i ≤ 210000000 * i
  | 0, _, _ => by unfold checkTo; omega
  | i + 1, hi, hi2 => by
    have ih := checkTo_le h i (by omega) (by omega)
    have hl := h i (by omega)
    have := sumTo_le (w := nth rows i) (i := i) (by omega) (nth rows i).length (by omega)
    unfold checkTo
    push_cast
    omega
theorem outTo_le {rows : List (List UInt8)} (h : ∀ i, i < rows.length → (nth rows i).length ≤ 29) : ∀ i, i ≤ rows.length → (outTo rows i).length ≤ 30 * i
  | 0, _ => by unfold outTo; simp
  | i + 1, hi => by
    have ih := outTo_le h i (by omega)
    have hl := h i (by omega)
    unfold outTo
    simp only [List.length_append, List.length_singleton]
    omega
theorem rows_nth {b : Book} {i : Nat} (h : i < b.lns.length) : nth b.rows i = lnT (nth b.lns i) := by
  unfold Book.rows
  rw [nth_eq (by rw [List.length_map]; exact h), nth_eq h, List.getElem_map]
theorem rows_len (b : Book) : b.rows.length = b.lns.length := List.length_map ..
theorem text106 (S : Set Tryz.prog Y Gl) (b : Book) (hb : b.low) : Computes Tryz.prog Gl 106 [tBook b] (.ret (str b.text)) := by
  refine fn_is S (.loop (List.length (Book.comps b)) (fun k=>tk 100 179::v 20 (I ↑k)::v 19 (I (↑(List.length (Book.comps b)):Int))::v 18 (L eComp (Book.comps b))::v 3 (Lt 100 eLn (lnsTo b k (0:Nat) (0:Nat)))::v 1 (ad 1)::bx 1 (cBook b)) fun k0=>.br .nil (.loop (List.length (Book.dues b)) (fun k=>tk 100 179::v 34 (I ↑k)::v 33 (I (↑(List.length (Book.dues b)):Int))::v 32 (L eI (Book.dues b))::v 3 (Lt 100 eLn (lnsTo b (List.length (Book.comps b)) k (0:Nat)))::v 1 (ad 1)::bx 1 (cBook b)) fun k1=>.br .nil (.loop (List.length (Book.sheets b)) (fun k=>tk 100 179::v 48 (I ↑k)::v 47 (I (↑(List.length (Book.sheets b)):Int))::v 46 (L eI (Book.sheets b))::v 3 (Lt 100 eLn (lnsTo b (List.length (Book.comps b)) (List.length (Book.dues b)) k))::v 1 (ad 1)::bx 1 (cBook b)) fun k2=>.br .nil (.loop (List.length (Book.lns b)) (fun i=>[v 61 (I ↑i),v 60 (I (↑(List.length (Book.lns b)):Int)),v 59 (L eLn (Book.lns b)),v 10 (str (outTo (Book.rows b) i)),v 11 (I (checkTo (Book.rows b) i))]) fun k3=>.br (.r (.ret (str (lnT (nth (Book.lns b) k3)))) (.loop (List.length (lnT (nth (Book.lns b) k3))) (fun k=>[v 70 (I ↑k),v 69 (I (↑(List.length (lnT (nth (Book.lns b) k3))):Int)),v 14 (str (lnT (nth (Book.lns b) k3))),v 12 (I ↑k3),v 11 (I (checkTo (Book.rows b) k3+sumTo (lnT (nth (Book.lns b) k3)) k3 k)),v 61 (I ↑k3),v 60 (I (↑(List.length (Book.lns b)):Int)),v 59 (L eLn (Book.lns b)),v 10 (str (outTo (Book.rows b) k3))]) fun k4=>.br .nil .nil)) (.r (.ret (str (dec (Int.tdiv (Int.tmod (checkTo (Book.rows b) k3) (251:Int)) (100:Int))))) (.r (.ret (str (dec (Int.tmod (Int.tdiv (Int.tmod (checkTo (Book.rows b) k3) (251:Int)) (10:Int)) (10:Int))))) (.r (.ret (str (dec (Int.tmod (Int.tmod (checkTo (Book.rows b) k3) (251:Int)) (10:Int))))) .nil))))))) Tryz.func106 (by kernel_rfl) (b.1.length≤maxLen→((0:Int)=(↑(0:Nat):Int)∧(↑b.1.length:Int)=(↑b.1.length:Int)∧(SEq b.1.length (fun i=>eComp (nth b.1 i)) b.1.length fun i=>eComp (nth b.1 i))∧(SEq (1:Nat) (fun i=>List.getD [List.map C.dem [C.v Value.nilIface]] i []) (List.length (lnsTo b (0:Nat) (0:Nat) (0:Nat))) fun i=>eLn (nth (lnsTo b (0:Nat) (0:Nat) (0:Nat)) i))∧(SEq b.1.length (fun i=>eComp (nth b.1 i)) b.1.length fun i=>eComp (nth b.1 i))∧(SEq b.2.length (fun i=>eI (nth b.2 i)) b.2.length fun i=>eI (nth b.2 i))∧SEq b.3.length (fun i=>eI (nth b.3 i)) b.3.length fun i=>eI (nth b.3 i))∧∀ (k0:Nat),k0≤List.length (Book.comps b)→(decide ((↑k0:Int)<(↑b.1.length:Int))=true→((0:Int)≤(↑k0:Int)∧(↑k0:Int)<(↑b.1.length:Int))∧(List.length (lnsTo b k0 (0:Nat) (0:Nat))+(1:Nat))*(16:Nat)≤(140737488355328:Nat)∧List.length (lnsTo b k0 (0:Nat) (0:Nat))+(1:Nat)≤(140737488355328:Nat)∧inRange IntKind.i64 ((↑k0:Int)+(1:Int))∧k0<List.length (Book.comps b)∧(↑k0:Int)+(1:Int)=(↑(k0+(1:Nat)):Int)∧(↑b.1.length:Int)=(↑b.1.length:Int)∧(SEq b.1.length (fun i=>eComp (nth b.1 i)) b.1.length fun i=>eComp (nth b.1 i))∧(SEq (List.length (lnsTo b k0 (0:Nat) (0:Nat))+(1:Nat)) (catF (List.length (lnsTo b k0 (0:Nat) (0:Nat))) (fun i=>eLn (nth (lnsTo b k0 (0:Nat) (0:Nat)) i)) fun i=>List.getD [List.map C.dem [C.v (Value.iface (173:Nat) (Value.agg {toList:=[Value.int IntKind.i64 (nth b.1 k0).1,Value.int IntKind.i64 (nth b.1 k0).2.1,Value.int IntKind.i64 (nth b.1 k0).2.2,Value.int IntKind.i64 (nth b.1 k0).3.1,Value.int IntKind.i64 (nth b.1 k0).3.2,Value.int IntKind.i64 (nth b.1 k0).4.1,Value.int IntKind.i64 (nth b.1 k0).4.2]}))]] i []) (List.length (lnsTo b (k0+(1:Nat)) (0:Nat) (0:Nat))) fun i=>eLn (nth (lnsTo b (k0+(1:Nat)) (0:Nat) (0:Nat)) i))∧(SEq b.1.length (fun i=>eComp (nth b.1 i)) b.1.length fun i=>eComp (nth b.1 i))∧(SEq b.2.length (fun i=>eI (nth b.2 i)) b.2.length fun i=>eI (nth b.2 i))∧SEq b.3.length (fun i=>eI (nth b.3 i)) b.3.length fun i=>eI (nth b.3 i))∧(decide ((↑k0:Int)<(↑b.1.length:Int))=false→b.2.length≤maxLen→((0:Int)=(↑(0:Nat):Int)∧(↑b.2.length:Int)=(↑b.2.length:Int)∧(SEq b.2.length (fun i=>eI (nth b.2 i)) b.2.length fun i=>eI (nth b.2 i))∧(SEq (List.length (lnsTo b k0 (0:Nat) (0:Nat))) (fun i=>eLn (nth (lnsTo b k0 (0:Nat) (0:Nat)) i)) (List.length (lnsTo b b.1.length (0:Nat) (0:Nat))) fun i=>eLn (nth (lnsTo b b.1.length (0:Nat) (0:Nat)) i))∧(SEq b.1.length (fun i=>eComp (nth b.1 i)) b.1.length fun i=>eComp (nth b.1 i))∧(SEq b.2.length (fun i=>eI (nth b.2 i)) b.2.length fun i=>eI (nth b.2 i))∧SEq b.3.length (fun i=>eI (nth b.3 i)) b.3.length fun i=>eI (nth b.3 i))∧∀ (k1:Nat),k1≤List.length (Book.dues b)→(decide ((↑k1:Int)<(↑b.2.length:Int))=true→((0:Int)≤(↑k1:Int)∧(↑k1:Int)<(↑b.2.length:Int))∧(List.length (lnsTo b b.1.length k1 (0:Nat))+(1:Nat))*(16:Nat)≤(140737488355328:Nat)∧List.length (lnsTo b b.1.length k1 (0:Nat))+(1:Nat)≤(140737488355328:Nat)∧inRange IntKind.i64 ((↑k1:Int)+(1:Int))∧k1<List.length (Book.dues b)∧(↑k1:Int)+(1:Int)=(↑(k1+(1:Nat)):Int)∧(↑b.2.length:Int)=(↑b.2.length:Int)∧(SEq b.2.length (fun i=>eI (nth b.2 i)) b.2.length fun i=>eI (nth b.2 i))∧(SEq (List.length (lnsTo b b.1.length k1 (0:Nat))+(1:Nat)) (catF (List.length (lnsTo b b.1.length k1 (0:Nat))) (fun i=>eLn (nth (lnsTo b b.1.length k1 (0:Nat)) i)) fun i=>List.getD [List.map C.dem [C.v (Value.iface (175:Nat) (Value.agg {toList:=[Value.int IntKind.i64 (nth b.2 k1)]}))]] i []) (List.length (lnsTo b b.1.length (k1+(1:Nat)) (0:Nat))) fun i=>eLn (nth (lnsTo b b.1.length (k1+(1:Nat)) (0:Nat)) i))∧(SEq b.1.length (fun i=>eComp (nth b.1 i)) b.1.length fun i=>eComp (nth b.1 i))∧(SEq b.2.length (fun i=>eI (nth b.2 i)) b.2.length fun i=>eI (nth b.2 i))∧SEq b.3.length (fun i=>eI (nth b.3 i)) b.3.length fun i=>eI (nth b.3 i))∧(decide ((↑k1:Int)<(↑b.2.length:Int))=false→b.3.length≤maxLen→((0:Int)=(↑(0:Nat):Int)∧(↑b.3.length:Int)=(↑b.3.length:Int)∧(SEq b.3.length (fun i=>eI (nth b.3 i)) b.3.length fun i=>eI (nth b.3 i))∧(SEq (List.length (lnsTo b b.1.length k1 (0:Nat))) (fun i=>eLn (nth (lnsTo b b.1.length k1 (0:Nat)) i)) (List.length (lnsTo b b.1.length b.2.length (0:Nat))) fun i=>eLn (nth (lnsTo b b.1.length b.2.length (0:Nat)) i))∧(SEq b.1.length (fun i=>eComp (nth b.1 i)) b.1.length fun i=>eComp (nth b.1 i))∧(SEq b.2.length (fun i=>eI (nth b.2 i)) b.2.length fun i=>eI (nth b.2 i))∧SEq b.3.length (fun i=>eI (nth b.3 i)) b.3.length fun i=>eI (nth b.3 i))∧∀ (k2:Nat),k2≤List.length (Book.sheets b)→(decide ((↑k2:Int)<(↑b.3.length:Int))=true→((0:Int)≤(↑k2:Int)∧(↑k2:Int)<(↑b.3.length:Int))∧(List.length (lnsTo b b.1.length b.2.length k2)+(1:Nat))*(16:Nat)≤(140737488355328:Nat)∧List.length (lnsTo b b.1.length b.2.length k2)+(1:Nat)≤(140737488355328:Nat)∧inRange IntKind.i64 ((↑k2:Int)+(1:Int))∧k2<List.length (Book.sheets b)∧(↑k2:Int)+(1:Int)=(↑(k2+(1:Nat)):Int)∧(↑b.3.length:Int)=(↑b.3.length:Int)∧(SEq b.3.length (fun i=>eI (nth b.3 i)) b.3.length fun i=>eI (nth b.3 i))∧(SEq (List.length (lnsTo b b.1.length b.2.length k2)+(1:Nat)) (catF (List.length (lnsTo b b.1.length b.2.length k2)) (fun i=>eLn (nth (lnsTo b b.1.length b.2.length k2) i)) fun i=>List.getD [List.map C.dem [C.v (Value.iface (177:Nat) (Value.agg {toList:=[Value.int IntKind.i64 (nth b.3 k2)]}))]] i []) (List.length (lnsTo b b.1.length b.2.length (k2+(1:Nat)))) fun i=>eLn (nth (lnsTo b b.1.length b.2.length (k2+(1:Nat))) i))∧(SEq b.1.length (fun i=>eComp (nth b.1 i)) b.1.length fun i=>eComp (nth b.1 i))∧(SEq b.2.length (fun i=>eI (nth b.2 i)) b.2.length fun i=>eI (nth b.2 i))∧SEq b.3.length (fun i=>eI (nth b.3 i)) b.3.length fun i=>eI (nth b.3 i))∧(decide ((↑k2:Int)<(↑b.3.length:Int))=false→List.length (lnsTo b b.1.length b.2.length k2)≤maxLen→((0:Int)=(↑(0:Nat):Int)∧(↑(List.length (lnsTo b b.1.length b.2.length k2)):Int)=(↑(List.length (Book.lns b)):Int)∧(SEq (List.length (lnsTo b b.1.length b.2.length k2)) (fun i=>eLn (nth (lnsTo b b.1.length b.2.length k2) i)) (List.length (Book.lns b)) fun i=>eLn (nth (Book.lns b) i))∧{data:=#[]}=bs (outTo (Book.rows b) (0:Nat))∧(0:Int)=checkTo (Book.rows b) (0:Nat))∧∀ (k3:Nat),k3≤List.length (Book.lns b)→(decide ((↑k3:Int)<(↑(List.length (Book.lns b)):Int))=true→((0:Int)≤(↑k3:Int)∧(↑k3:Int)<(↑(List.length (Book.lns b)):Int))∧Computes Tryz.prog Gl 130 [T.d (D.c (C.v (lnV (nth (Book.lns b) k3))))] (.ret (str (lnT (nth (Book.lns b) k3))))∧((0:Int)=(↑(0:Nat):Int)∧(↑(ByteArray.size (bs (lnT (nth (Book.lns b) k3)))):Int)=(↑(List.length (lnT (nth (Book.lns b) k3))):Int)∧bs (lnT (nth (Book.lns b) k3))=bs (lnT (nth (Book.lns b) k3))∧(↑k3:Int)=(↑k3:Int)∧checkTo (Book.rows b) k3=checkTo (Book.rows b) k3+sumTo (lnT (nth (Book.lns b) k3)) k3 (0:Nat)∧(↑k3:Int)=(↑k3:Int)∧(↑(List.length (Book.lns b)):Int)=(↑(List.length (Book.lns b)):Int)∧(SEq (List.length (Book.lns b)) (fun i=>eLn (nth (Book.lns b) i)) (List.length (Book.lns b)) fun i=>eLn (nth (Book.lns b) i))∧bs (outTo (Book.rows b) k3)=bs (outTo (Book.rows b) k3))∧∀ (k4:Nat),k4≤List.length (lnT (nth (Book.lns b) k3))→(decide ((↑k4:Int)<(↑(List.length (lnT (nth (Book.lns b) k3))):Int))=true→((0:Int)≤(↑k4:Int)∧(↑k4:Int)<(↑(ByteArray.size (bs (lnT (nth (Book.lns b) k3)))):Int))∧inRange IntKind.i64 (byteAt (bs (lnT (nth (Book.lns b) k3))) k4)∧inRange IntKind.i64 ((↑k4:Int)+(1:Int))∧inRange IntKind.i64 (byteAt (bs (lnT (nth (Book.lns b) k3))) k4*((↑k4:Int)+(1:Int)))∧inRange IntKind.i64 ((↑k3:Int)+(1:Int))∧inRange IntKind.i64 (byteAt (bs (lnT (nth (Book.lns b) k3))) k4*((↑k4:Int)+(1:Int))*((↑k3:Int)+(1:Int)))∧inRange IntKind.i64 (checkTo (Book.rows b) k3+sumTo (lnT (nth (Book.lns b) k3)) k3 k4+byteAt (bs (lnT (nth (Book.lns b) k3))) k4*((↑k4:Int)+(1:Int))*((↑k3:Int)+(1:Int)))∧inRange IntKind.i64 ((↑k4:Int)+(1:Int))∧k4<List.length (lnT (nth (Book.lns b) k3))∧(↑k4:Int)+(1:Int)=(↑(k4+(1:Nat)):Int)∧(↑(List.length (lnT (nth (Book.lns b) k3))):Int)=(↑(List.length (lnT (nth (Book.lns b) k3))):Int)∧bs (lnT (nth (Book.lns b) k3))=bs (lnT (nth (Book.lns b) k3))∧(↑k3:Int)=(↑k3:Int)∧checkTo (Book.rows b) k3+sumTo (lnT (nth (Book.lns b) k3)) k3 k4+byteAt (bs (lnT (nth (Book.lns b) k3))) k4*((↑k4:Int)+(1:Int))*((↑k3:Int)+(1:Int))=checkTo (Book.rows b) k3+sumTo (lnT (nth (Book.lns b) k3)) k3 (k4+(1:Nat))∧(↑k3:Int)=(↑k3:Int)∧(↑(List.length (Book.lns b)):Int)=(↑(List.length (Book.lns b)):Int)∧(SEq (List.length (Book.lns b)) (fun i=>eLn (nth (Book.lns b) i)) (List.length (Book.lns b)) fun i=>eLn (nth (Book.lns b) i))∧bs (outTo (Book.rows b) k3)=bs (outTo (Book.rows b) k3))∧(decide ((↑k4:Int)<(↑(List.length (lnT (nth (Book.lns b) k3))):Int))=false→(↑(ByteArray.size (bs (lnT (nth (Book.lns b) k3)))+ByteArray.size {data:=#[(10:UInt8)]}):Int)≤IntKind.max IntKind.i64∧(↑(ByteArray.size (bs (outTo (Book.rows b) k3))+ByteArray.size (bs (lnT (nth (Book.lns b) k3)) ++ {data:=#[(10:UInt8)]})):Int)≤IntKind.max IntKind.i64∧inRange IntKind.i64 ((↑k3:Int)+(1:Int))∧k3<List.length (Book.lns b)∧(↑k3:Int)+(1:Int)=(↑(k3+(1:Nat)):Int)∧(↑(List.length (Book.lns b)):Int)=(↑(List.length (Book.lns b)):Int)∧(SEq (List.length (Book.lns b)) (fun i=>eLn (nth (Book.lns b) i)) (List.length (Book.lns b)) fun i=>eLn (nth (Book.lns b) i))∧bs (outTo (Book.rows b) k3) ++ (bs (lnT (nth (Book.lns b) k3)) ++ {data:=#[(10:UInt8)]})=bs (outTo (Book.rows b) (k3+(1:Nat)))∧checkTo (Book.rows b) k3+sumTo (lnT (nth (Book.lns b) k3)) k3 k4=checkTo (Book.rows b) (k3+(1:Nat))))∧(decide ((↑k3:Int)<(↑(List.length (Book.lns b)):Int))=false→(251:Int) ≠ (0:Int)∧(↑(ByteArray.size (bs (outTo (Book.rows b) k3))+ByteArray.size {data:=#[(101:UInt8),(110:UInt8),(100:UInt8),(32:UInt8)]}):Int)≤IntKind.max IntKind.i64∧((100:Int) ≠ (0:Int)∧inRange IntKind.i64 (Int.tdiv (Int.tmod (checkTo (Book.rows b) k3) (251:Int)) (100:Int)))∧Computes Tryz.prog Gl 131 [I (Int.tdiv (Int.tmod (checkTo (Book.rows b) k3) (251:Int)) (100:Int))] (.ret (str (dec (Int.tdiv (Int.tmod (checkTo (Book.rows b) k3) (251:Int)) (100:Int)))))∧(↑(ByteArray.size (bs (outTo (Book.rows b) k3) ++ {data:=#[(101:UInt8),(110:UInt8),(100:UInt8),(32:UInt8)]})+ByteArray.size (bs (dec (Int.tdiv (Int.tmod (checkTo (Book.rows b) k3) (251:Int)) (100:Int))))):Int)≤IntKind.max IntKind.i64∧((10:Int) ≠ (0:Int)∧inRange IntKind.i64 (Int.tdiv (Int.tmod (checkTo (Book.rows b) k3) (251:Int)) (10:Int)))∧(10:Int) ≠ (0:Int)∧Computes Tryz.prog Gl 131 [I (Int.tmod (Int.tdiv (Int.tmod (checkTo (Book.rows b) k3) (251:Int)) (10:Int)) (10:Int))] (.ret (str (dec (Int.tmod (Int.tdiv (Int.tmod (checkTo (Book.rows b) k3) (251:Int)) (10:Int)) (10:Int)))))∧(↑(ByteArray.size (bs (outTo (Book.rows b) k3) ++ {data:=#[(101:UInt8),(110:UInt8),(100:UInt8),(32:UInt8)]} ++ bs (dec (Int.tdiv (Int.tmod (checkTo (Book.rows b) k3) (251:Int)) (100:Int))))+ByteArray.size (bs (dec (Int.tmod (Int.tdiv (Int.tmod (checkTo (Book.rows b) k3) (251:Int)) (10:Int)) (10:Int))))):Int)≤IntKind.max IntKind.i64∧(10:Int) ≠ (0:Int)∧Computes Tryz.prog Gl 131 [I (Int.tmod (Int.tmod (checkTo (Book.rows b) k3) (251:Int)) (10:Int))] (.ret (str (dec (Int.tmod (Int.tmod (checkTo (Book.rows b) k3) (251:Int)) (10:Int)))))∧(↑(ByteArray.size (bs (outTo (Book.rows b) k3) ++ {data:=#[(101:UInt8),(110:UInt8),(100:UInt8),(32:UInt8)]} ++ bs (dec (Int.tdiv (Int.tmod (checkTo (Book.rows b) k3) (251:Int)) (100:Int))) ++ bs (dec (Int.tmod (Int.tdiv (Int.tmod (checkTo (Book.rows b) k3) (251:Int)) (10:Int)) (10:Int))))+ByteArray.size (bs (dec (Int.tmod (Int.tmod (checkTo (Book.rows b) k3) (251:Int)) (10:Int))))):Int)≤IntKind.max IntKind.i64∧(↑(ByteArray.size (bs (outTo (Book.rows b) k3) ++ {data:=#[(101:UInt8),(110:UInt8),(100:UInt8),(32:UInt8)]} ++ bs (dec (Int.tdiv (Int.tmod (checkTo (Book.rows b) k3) (251:Int)) (100:Int))) ++ bs (dec (Int.tmod (Int.tdiv (Int.tmod (checkTo (Book.rows b) k3) (251:Int)) (10:Int)) (10:Int))) ++ bs (dec (Int.tmod (Int.tmod (checkTo (Book.rows b) k3) (251:Int)) (10:Int))))+ByteArray.size {data:=#[(10:UInt8)]}):Int)≤IntKind.max IntKind.i64∧bs (outTo (Book.rows b) k3) ++ {data:=#[(101:UInt8),(110:UInt8),(100:UInt8),(32:UInt8)]} ++ bs (dec (Int.tdiv (Int.tmod (checkTo (Book.rows b) k3) (251:Int)) (100:Int))) ++ bs (dec (Int.tmod (Int.tdiv (Int.tmod (checkTo (Book.rows b) k3) (251:Int)) (10:Int)) (10:Int))) ++ bs (dec (Int.tmod (Int.tmod (checkTo (Book.rows b) k3) (251:Int)) (10:Int))) ++ {data:=#[(10:UInt8)]}=bs (Book.text b)))))) (by kernel_rfl) ?_
  obtain ⟨hc, hd, hs, hn⟩ := id hb
  have hln := lns_len hb
  have hl29 : ∀ i, i < b.lns.length → (lnT (nth b.lns i)).length ≤ 29 := fun i hi => ln_len (hn _ (nth_mem hi))
  have hr29 : ∀ i, i < b.rows.length → (nth b.rows i).length ≤ 29 := fun i hi => by
    rw [rows_len] at hi
    rw [rows_nth hi]; exact hl29 i hi
  have hmax : IntKind.i64.max = 9223372036854775807 := rfl
  have e10 : ({ data := #[10] } : ByteArray) = bs [10] := rfl
  have e0 : ({ data := #[] } : ByteArray) = bs [] := rfl
  have eE : ({ data := #[101, 110, 100, 32] } : ByteArray) = bs lEnd := rfl
  have eB : ∀ {w : List UInt8} {k : Nat}, decide ((k : Int) < (w.length : Int)) = true → k < w.length := fun h => by simpa using h
  simp only [stdS, imp_self, implies_true, and_true, e10, e0, eE, bs_size, bs_app, decide_eq_true_eq, decide_eq_false_iff_not]
  have q0 : SEq 1 (fun i => [List.map C.dem [C.v Value.nilIface]].getD i []) (lnsTo b 0 0 0).length (fun i => eLn (nth (lnsTo b 0 0 0) i)) := by
    refine ⟨rfl, fun i hi => .inl ?_⟩
    have : i = 0 := by omega
    subst this
    rfl
  refine fun h => ⟨⟨q0, trivial⟩, fun k0 hk0 => ⟨fun hlt => ?_, fun hlt h1 => ?_⟩⟩
  · have hlt : k0 < b.comps.length := by omega
    have := lnsTo_len b k0 0 0
    exact ⟨⟨by omega, by omega⟩, by omega, by omega, (rng_iff _).2 (by omega), hlt, rfl, SEq_push1 (lnsTo_c hlt) rfl, trivial⟩
  obtain rfl : k0 = b.comps.length := by omega
  refine ⟨⟨SEq_whole rfl, trivial⟩, fun k1 hk1 => ⟨fun hlt => ?_, fun hlt h2 => ?_⟩⟩
  · have hlt : k1 < b.dues.length := by omega
    have := lnsTo_len b b.comps.length k1 0
    exact ⟨⟨by omega, by omega⟩, by omega, by omega, (rng_iff _).2 (by omega), hlt, rfl, SEq_push1 (lnsTo_d hlt) rfl, trivial⟩
  obtain rfl : k1 = b.dues.length := by omega
  refine ⟨⟨SEq_whole rfl, trivial⟩, fun k2 hk2 => ⟨fun hlt => ?_, fun hlt h3 => ?_⟩⟩
  · have hlt : k2 < b.sheets.length := by omega
    have := lnsTo_len b b.comps.length b.dues.length k2
    exact ⟨⟨by omega, by omega⟩, by omega, by omega, (rng_iff _).2 (by omega), hlt, rfl, SEq_push1 (lnsTo_s hlt) rfl, trivial⟩
  obtain rfl : k2 = b.sheets.length := by omega
  refine ⟨⟨by rw [lnsTo_all], SEq_whole (by rw [lnsTo_all]), rfl, rfl⟩, fun k3 hk3 => ⟨fun hlt => ?_, fun hlt => ?_⟩⟩
  · have hlt : k3 < b.lns.length := by omega
    have hw := hl29 k3 hlt
    have hco := checkTo_le hr29 k3 (by rw [rows_len]; omega) (by omega)
    have hou := outTo_le hr29 k3 (by rw [rows_len]; omega)
    have hrn := rows_nth hlt
    have hwr := written130 S (nth b.lns k3) (hn _ (nth_mem hlt))
    generalize lnT (nth b.lns k3) = w at *
    refine ⟨⟨by omega, by omega⟩, hwr, ⟨by unfold sumTo; omega, trivial⟩, fun k4 hk4 => ⟨fun hl4 => ?_, fun hl4 => ?_⟩⟩
    · have hl4 : k4 < w.length := by omega
      have ht := term_le (x := nth w k4) (k := k4) (i := k3) (by omega) (by omega)
      have hsu := sumTo_le (w := w) (i := k3) (by omega) k4 (by omega)
      have hx : ((nth w k4).toNat : Int) < 256 := by have := (nth w k4).toNat_lt; omega
      rw [byteAt_bs hl4]
      refine ⟨⟨by omega, by omega⟩, (rng_iff _).2 (by omega), (rng_iff _).2 (by omega), (rng_iff _).2 (by omega), (rng_iff _).2 (by omega), (rng_iff _).2 (by omega), (rng_iff _).2 (by omega), (rng_iff _).2 (by omega), hl4, rfl, ?_, trivial⟩
      rw [sumTo, Int.add_assoc]
    · have hl4 : k4 = w.length := by omega
      subst hl4
      refine ⟨by rw [hmax]; simp only [List.length_singleton]; omega, by rw [hmax]; simp only [List.length_append, List.length_singleton]; omega, (rng_iff _).2 (by omega), hlt, rfl, ?_, ?_⟩
      · rw [outTo, hrn]
      · rw [checkTo, hrn]
  · obtain rfl : k3 = b.lns.length := by omega
    have hco := checkTo_le hr29 b.lns.length (by rw [rows_len]; omega) (by omega)
    have hou := outTo_le hr29 b.lns.length (by rw [rows_len]; omega)
    have htx : b.text = outTo b.rows b.lns.length ++ lEnd ++ dec (Int.tdiv (Int.tmod (checkTo b.rows b.lns.length) 251) 100) ++ dec (Int.tmod (Int.tdiv (Int.tmod (checkTo b.rows b.lns.length) 251) 10) 10) ++ dec (Int.tmod (Int.tmod (checkTo b.rows b.lns.length) 251) 10) ++ [10] := by
      unfold Book.text sealed checkOf
      rw [rows_len]
    rw [htx]
    have hM : 0 ≤ Int.tmod (checkTo b.rows b.lns.length) 251 ∧ Int.tmod (checkTo b.rows b.lns.length) 251 < 251 := by
      rw [Int.tmod_eq_emod_of_nonneg hco.1]
      omega
    generalize Int.tmod (checkTo b.rows b.lns.length) 251 = M at *
    have h1' : Int.tdiv M 100 = M / 100 := Int.tdiv_eq_ediv_of_nonneg hM.1
    have h2' : Int.tdiv M 10 = M / 10 := Int.tdiv_eq_ediv_of_nonneg hM.1
    have h3' : Int.tmod (M / 10) 10 = M / 10 % 10 := Int.tmod_eq_emod_of_nonneg (by omega)
    have h4' : Int.tmod M 10 = M % 10 := Int.tmod_eq_emod_of_nonneg hM.1
    rw [h1', h2', h3', h4']
    have s1 : sm (M / 100) := ⟨by omega, by omega⟩
    have s2 : sm (M / 10 % 10) := ⟨by omega, by omega⟩
    have s3 : sm (M % 10) := ⟨by omega, by omega⟩
    have l1 := dec_len s1
    have l2 := dec_len s2
    have l3 := dec_len s3
    have lE : lEnd.length = 4 := rfl
    refine ⟨by decide, ?_, ⟨by decide, (rng_iff _).2 (by omega)⟩, itoa131 _ s1.1 s1.2, ?_, ⟨by decide, (rng_iff _).2 (by omega)⟩, by decide, itoa131 _ s2.1 s2.2, ?_, by decide, itoa131 _ s3.1 s3.2, ?_, ?_, rfl⟩
    all_goals
      rw [hmax]
      try simp only [List.length_append, List.length_singleton]
      omega
theorem ok_low {b : Book} (hb : b.ok = true) : b.low := by
  obtain ⟨o1, o2, o3, o4, o5, o6⟩ := ok_spec hb
  refine ⟨by omega, by omega, by omega, fun l hl n hn => ?_⟩
  unfold Book.lns at hl
  simp only [List.mem_cons, List.mem_append, List.mem_map] at hl
  rcases hl with rfl | (⟨c, hc, rfl⟩ | ⟨d, hd, rfl⟩) | ⟨d, hd, rfl⟩
  · cases hn
  · obtain ⟨i, hi, rfl⟩ := List.mem_iff_getElem.1 hc
    have := o4 i hi
    rw [nth_eq hi] at this
    unfold Comp.fine Span.isIn at this
    simp only [Bool.and_eq_true, inR_iff] at this
    simp only [lnN, List.mem_cons, List.not_mem_nil, or_false] at hn
    unfold sm
    rcases hn with rfl | rfl | rfl | rfl | rfl | rfl | rfl <;> omega
  · obtain ⟨i, hi, rfl⟩ := List.mem_iff_getElem.1 hd
    have := o5 i hi
    rw [nth_eq hi] at this
    rw [List.mem_singleton.1 hn]
    unfold sm
    omega
  · obtain ⟨i, hi, rfl⟩ := List.mem_iff_getElem.1 hd
    have := o6 i hi
    rw [nth_eq hi] at this
    rw [List.mem_singleton.1 hn]
    unfold sm
    omega
end Go.Vc.Gd
namespace Go.Vc.Gd
open Go Go.Proofs Go.Vc
variable {Gl : World → Prop}
def isDig (c : UInt8) : Bool := decide (48 ≤ c.toNat) && decide (c.toNat ≤ 57)
def valTo (w : List UInt8) : Nat → Int
  | 0 => 0
  | k + 1 => 10 * valTo w k + (((nth w k).toNat : Int) - 48)
def digs (w : List UInt8) : Bool := w.all isDig && decide (w.length ≤ 2)
def val (w : List UInt8) : Int := valTo w w.length
theorem sureT (S : Set Tryz.prog Y Gl) (x : Bool) (s : ByteArray) (h : x = true) : Computes Tryz.prog Gl 134 [B x, .d (.c (.v (.string s)))] (.ret (.tup [])) := by subst h; exact sure134 S s
theorem bs_tl (w : List UInt8) : (bs w).toList = w := ByteArray.toList_mk w
theorem bs_get {w : List UInt8} {k : Nat} (h : k < w.length) (h' : k < (bs w).size) : (bs w)[k]'h' = nth w k := by
  rw [nth_eq h]
  rfl
theorem rune_dig {w : List UInt8} {k : Nat} (h : k < w.length) (hd : isDig (nth w k) = true) : runeAt (bs w) k = ((nth w k).toNat : Int) ∧ widthAt (bs w) k = 1 ∧ 48 ≤ (nth w k).toNat ∧ (nth w k).toNat ≤ 57 := by
  have h' : k < (bs w).size := by rw [bs_size]; exact h
  unfold isDig at hd
  simp only [Bool.and_eq_true, decide_eq_true_eq] at hd
  have := decode_ascii (bs w) k h' (by rw [bs_get h]; omega)
  unfold runeAt widthAt
  rw [this, bs_get h]
  exact ⟨rfl, rfl, hd⟩
theorem val_le {w : List UInt8} {k : Nat} (hk : k ≤ 2) (hd : ∀ i, i < k → isDig (nth w i) = true) : 0 ≤ valTo w k ∧ valTo w k < 100 ∧ (k ≤ 1 → valTo w k < 10) := by
  have hb : ∀ i, i < k → 48 ≤ (nth w i).toNat ∧ (nth w i).toNat ≤ 57 := fun i hi => by
    have := hd i hi
    unfold isDig at this
    simpa using this
  match k, hk with
  | 0, _ => simp [valTo]
  | 1, _ =>
    have := hb 0 (by omega)
    simp only [valTo]
    omega
  | 2, _ =>
    have h0 := hb 0 (by omega)
    have h1 := hb 1 (by omega)
    simp only [valTo]
    omega
theorem digs_spec {w : List UInt8} (h : digs w = true) : w.length ≤ 2 ∧ ∀ i, i < w.length → isDig (nth w i) = true := by
  unfold digs at h
  simp only [Bool.and_eq_true, decide_eq_true_eq, List.all_eq_true] at h
  exact ⟨h.2, fun i hi => h.1 _ (nth_mem hi)⟩
theorem step_ok {w : List UInt8} {k : Nat} (hl : w.length ≤ 2) (hk : k < w.length) (hd : ∀ i, i ≤ k → isDig (nth w i) = true) :
    (decide (48 ≤ runeAt (bs w) k) && (decide (runeAt (bs w) k ≤ 57) && decide (((bs w).size : Int) ≤ 2))) = true ∧ inRange IntKind.i64 (10 * valTo w k) ∧ inRange IntKind.i32 (runeAt (bs w) k - 48) ∧ inRange IntKind.i64 (runeAt (bs w) k - 48) ∧
      inRange IntKind.i64 (10 * valTo w k + (runeAt (bs w) k - 48)) ∧ (bif k.blt (bs w).size then k + widthAt (bs w) k else k) = k + 1 ∧ 10 * valTo w k + (runeAt (bs w) k - 48) = valTo w (k + 1) := by
  obtain ⟨h1, h2, h3, h4⟩ := rune_dig hk (hd k (Nat.le_refl _))
  have hv := val_le (w := w) (k := k) (by omega) (fun i hi => hd i (by omega))
  have hb : k.blt (bs w).size = true := by rw [bs_size]; exact Nat.ble_eq_true_of_le hk
  have h32 : ∀ n : Int, 0 ≤ n → n ≤ 9 → inRange IntKind.i32 n := fun n h0 h9 => ⟨by show (-2147483648 : Int) ≤ n; omega, by show n ≤ 2147483647; omega⟩
  rw [h1, h2, hb, bs_size]
  refine ⟨?_, (rng_iff _).2 (by omega), h32 _ (by omega) (by omega), (rng_iff _).2 (by omega), (rng_iff _).2 (by omega), rfl, rfl⟩
  simp only [Bool.and_eq_true, decide_eq_true_eq]
  omega
theorem number135 (S : Set Tryz.prog Y Gl) (w : List UInt8) (h : digs w = true) (hne : w ≠ []) (hd : dec (val w) = w) : Computes Tryz.prog Gl 135 [str w] (.ret (I (val w))) := by
  refine fn_is S (.loop w.length (fun k=>[v 7 (T.it (7:Nat)),((2:Nat),(7:Nat),T.itc (bs w) k),v 3 (I (valTo w k)),v 0 (str w)]) fun k0=>.br (.r (.ret (.tup [])) .nil) (.r (.ret (str (dec (valTo w k0)))) (.r (.ret (.tup [])) .nil))) Tryz.func135 (by kernel_rfl) ((bs w=bs w∧(0:Nat)=(0:Nat)∧(0:Int)=valTo w (0:Nat)∧bs w=bs w)∧∀ (k0:Nat),k0≤w.length→(Nat.blt k0 (ByteArray.size (bs w))=true→Nat.blt k0 (ByteArray.size (bs w))=true∧(eqB (decide ((48:Int)≤runeAt (bs w) k0)) true=true→eqB (decide ((48:Int)≤runeAt (bs w) k0)) true=true)∧(decide ((48:Int)≤runeAt (bs w) k0)=true→eqB (decide ((48:Int)≤runeAt (bs w) k0)) true=true)∧(eqB (bif decide ((48:Int)≤runeAt (bs w) k0) then decide (runeAt (bs w) k0≤(57:Int)) else false) true=true→eqB (bif decide ((48:Int)≤runeAt (bs w) k0) then decide (runeAt (bs w) k0≤(57:Int)) else false) true=true)∧(eqB (bif decide ((48:Int)≤runeAt (bs w) k0) then decide (runeAt (bs w) k0≤(57:Int)) else false) true=true→eqB (bif decide ((48:Int)≤runeAt (bs w) k0) then decide (runeAt (bs w) k0≤(57:Int)) else false) true=true)∧((bif decide ((48:Int)≤runeAt (bs w) k0) then decide (runeAt (bs w) k0≤(57:Int)) else false)=true→eqB (bif decide ((48:Int)≤runeAt (bs w) k0) then decide (runeAt (bs w) k0≤(57:Int)) else false) true=true)∧Computes Tryz.prog Gl 134 [B (bif bif decide ((48:Int)≤runeAt (bs w) k0) then decide (runeAt (bs w) k0≤(57:Int)) else false then decide ((↑(ByteArray.size (bs w)):Int)≤(2:Int)) else false),T.d (D.c (C.v (Value.string (bs w))))] (.ret (.tup []))∧inRange IntKind.i64 ((10:Int)*valTo w k0)∧inRange IntKind.i32 (runeAt (bs w) k0-(48:Int))∧inRange IntKind.i64 (runeAt (bs w) k0-(48:Int))∧inRange IntKind.i64 ((10:Int)*valTo w k0+(runeAt (bs w) k0-(48:Int)))∧k0<w.length∧bs w=bs w∧(bif Nat.blt k0 (ByteArray.size (bs w)) then k0+widthAt (bs w) k0 else k0)=k0+(1:Nat)∧(10:Int)*valTo w k0+(runeAt (bs w) k0-(48:Int))=valTo w (k0+(1:Nat))∧bs w=bs w)∧(Nat.blt k0 (ByteArray.size (bs w))=false→(eqB (!ByteArray.toList (bs w)==ByteArray.toList {data:=#[]}) true=true→eqB (!ByteArray.toList (bs w)==ByteArray.toList {data:=#[]}) true=true)∧(eqB (!ByteArray.toList (bs w)==ByteArray.toList {data:=#[]}) true=true→Computes Tryz.prog Gl 131 [I (valTo w k0)] (.ret (str (dec (valTo w k0)))))∧(eqB (!ByteArray.toList (bs w)==ByteArray.toList {data:=#[]}) true=true→eqB (!ByteArray.toList (bs w)==ByteArray.toList {data:=#[]}) true=true)∧(eqB (!ByteArray.toList (bs w)==ByteArray.toList {data:=#[]}) true=true→eqB (!ByteArray.toList (bs w)==ByteArray.toList {data:=#[]}) true=true)∧((!ByteArray.toList (bs w)==ByteArray.toList {data:=#[]})=true→eqB (!ByteArray.toList (bs w)==ByteArray.toList {data:=#[]}) true=true)∧Computes Tryz.prog Gl 134 [B (bif !ByteArray.toList (bs w)==ByteArray.toList {data:=#[]} then ByteArray.toList (bs (dec (valTo w k0)))==ByteArray.toList (bs w) else false),T.d (D.c (C.v (Value.string (bs w))))] (.ret (.tup []))∧valTo w k0=val w)) (by kernel_rfl) ?_
  obtain ⟨hl, hdig⟩ := digs_spec h
  simp only [stdS, imp_self, implies_true, and_true]
  refine ⟨⟨rfl, trivial⟩, fun k hk => ⟨fun hb => ?_, fun hb => ?_⟩⟩
  · have hlt : k < w.length := by
      rw [bs_size] at hb
      exact Nat.le_of_ble_eq_true hb
    obtain ⟨q1, q2, q3, q4, q5, q6, q7⟩ := step_ok hl hlt (fun i hi => hdig i (by omega))
    exact ⟨hb, sureT S _ _ q1, q2, q3, q4, q5, hlt, q6, q7, trivial⟩
  · have hge : k = w.length := by
      rw [bs_size] at hb
      rcases Nat.lt_or_ge k w.length with hh | hh
      · have : k.blt w.length = true := Nat.ble_eq_true_of_le hh
        rw [this] at hb; cases hb
      · omega
    subst hge
    have hv := val_le (w := w) (k := w.length) hl hdig
    refine ⟨fun _ => itoa131 _ hv.1 hv.2.1, sureT S _ _ ?_, rfl⟩
    have hd' : dec (valTo w w.length) = w := hd
    rw [bs_tl, bs_tl, hd']
    have : ({ data := #[] } : ByteArray).toList = [] := bs_tl []
    rw [this]
    simpa using hne
def numOf (w : List UInt8) : Option Int := bif digs w && (!(w == []) && (dec (val w) == w)) then some (val w) else none
theorem number135some (S : Set Tryz.prog Y Gl) (w : List UInt8) {n : Int} (h : numOf w = some n) : Computes Tryz.prog Gl 135 [str w] (.ret (I n)) := by
  unfold numOf at h
  cases hc : digs w && (!(w == []) && (dec (val w) == w)) with
  | false => rw [hc] at h; cases h
  | true =>
    rw [hc] at h
    obtain rfl := Option.some.inj h
    simp only [Bool.and_eq_true, Bool.not_eq_true', beq_eq_false_iff_ne, beq_iff_eq] at hc
    exact number135 S w hc.1 hc.2.1 hc.2.2
theorem numOf_spec {w : List UInt8} {n : Int} (h : numOf w = some n) : sm n ∧ dec n = w := by
  unfold numOf at h
  cases hc : digs w && (!(w == []) && (dec (val w) == w)) with
  | false => rw [hc] at h; cases h
  | true =>
    rw [hc] at h
    obtain rfl := Option.some.inj h
    simp only [Bool.and_eq_true, Bool.not_eq_true', beq_eq_false_iff_ne, beq_iff_eq] at hc
    obtain ⟨hl, hdig⟩ := digs_spec hc.1
    have := val_le (w := w) (k := w.length) hl hdig
    exact ⟨⟨this.1, this.2.1⟩, hc.2.2⟩
def decS (n : Nat) : List UInt8 := bif Nat.blt n 10 then [UInt8.ofNat (48 + n)] else [UInt8.ofNat (48 + n / 10), UInt8.ofNat (48 + n % 10)]
theorem dec_eq {n : Nat} (h : n < 100) : dec n = decS n := by
  unfold dec decS
  rw [Int.toNat_natCast]
  by_cases h2 : n < 10
  · have : Nat.blt n 10 = true := Nat.ble_eq_true_of_le h2
    rw [Lib.decDigits, dif_pos h2, this]; rfl
  · have : Nat.blt n 10 = false := by
      cases hb : Nat.blt n 10 with
      | false => rfl
      | true => exact absurd (Nat.le_of_ble_eq_true hb) h2
    rw [Lib.decDigits, dif_neg h2, Lib.decDigits, dif_pos (by omega), this]; rfl
theorem decS_all : ∀ n : Nat, n < 100 → (digs (decS n) && (!(decS n == []) && (val (decS n) == (n : Int)))) = true := by decide
theorem numOf_dec {n : Int} (h : sm n) : numOf (dec n) = some n := by
  obtain ⟨m, rfl⟩ := Int.eq_ofNat_of_zero_le h.1
  have hm : m < 100 := by have := h.2; omega
  have := decS_all m hm
  simp only [Bool.and_eq_true, beq_iff_eq] at this
  obtain ⟨h1, h2, h3⟩ := this
  have he := dec_eq hm
  show numOf (dec (m : Int)) = some (m : Int)
  unfold numOf
  rw [he, h1, h2, h3, he]
  simp
end Go.Vc.Gd
namespace Go.Vc.Gd
open Go Go.Proofs Go.Vc
variable {Gl : World → Prop}
def isNum (w : List UInt8) : Bool := (numOf w).isSome
def numV (w : List UInt8) : Int := (numOf w).getD 0
def tl (r : List UInt8) : List (List UInt8) := (splitL 32 r).drop 1
def hd (r : List UInt8) : List UInt8 := nth (splitL 32 r) 0
def nsTo (r : List UInt8) (j : Nat) : List Int := ((tl r).take j).map numV
def ns (r : List UInt8) : List Int := nsTo r (tl r).length
def compOf (l : List Int) : Comp := ⟨nth l 0, ⟨nth l 1, nth l 2⟩, ⟨nth l 3, nth l 4⟩, ⟨nth l 5, nth l 6⟩⟩
def rowB (b : Book) (r : List UInt8) : Book :=
  bif (ns r).length == 7 then ⟨b.comps ++ [compOf (ns r)], b.dues, b.sheets⟩ else bif hd r == lTable then ⟨b.comps, b.dues ++ [nth (ns r) 0], b.sheets⟩ else ⟨b.comps, b.dues, b.sheets ++ [nth (ns r) 0]⟩
def rowShape (r : List UInt8) : Bool := (ns r).length == 7 || (hd r == lTable && (ns r).length == 1) || (hd r == lSheet && (ns r).length == 1)
def rowOK (r : List UInt8) : Bool := (tl r).all isNum && rowShape r
def bookTo (rows : List (List UInt8)) : Nat → Book
  | 0 => ⟨[], [], []⟩
  | k + 1 => rowB (bookTo rows k) (nth rows k)
def mid (s : List UInt8) : List (List UInt8) := ((splitL 10 s).drop 1).take ((splitL 10 s).length - 3)
theorem number135V (S : Set Tryz.prog Y Gl) (w : List UInt8) (h : isNum w = true) : Computes Tryz.prog Gl 135 [str w] (.ret (I (numV w))) := by
  unfold isNum at h
  obtain ⟨n, hn⟩ := Option.isSome_iff_exists.1 h
  unfold numV
  rw [hn]
  exact number135some S w hn
theorem piece_len (c : UInt8) : ∀ (l p : List UInt8), p ∈ splitL c l → p.length ≤ l.length
  | [], p, h => by
    simp only [splitL, List.mem_singleton] at h
    subst h; simp
  | x :: r, p, h => by
    unfold splitL at h
    cases hx : x == c with
    | true =>
      rw [hx, cond_true] at h
      rcases List.mem_cons.1 h with rfl | h
      · simp
      · have := piece_len c r p h
        simp only [List.length_cons]; omega
    | false =>
      rw [hx, cond_false] at h
      cases hs : splitL c r with
      | nil => exact absurd hs (splitL_ne c r)
      | cons a q =>
        rw [hs] at h
        rcases List.mem_cons.1 h with rfl | h
        · have := piece_len c r a (by rw [hs]; exact List.mem_cons_self)
          simp only [List.length_cons]; omega
        · have := piece_len c r p (by rw [hs]; exact List.mem_cons_of_mem _ h)
          simp only [List.length_cons]; omega
theorem mid_len {s : List UInt8} : (mid s).length = (splitL 10 s).length - 3 := by
  unfold mid
  rw [List.length_take, List.length_drop]
  omega
theorem mid_nth {s : List UInt8} {i : Nat} (h : i < (mid s).length) : nth (mid s) i = nth (splitL 10 s) (1 + i) := by
  have h2 := h
  rw [mid_len] at h2
  unfold mid nth
  rw [List.getD_eq_getElem?_getD, List.getD_eq_getElem?_getD, List.getElem?_take, if_pos (by omega), List.getElem?_drop]
theorem tl_len {r : List UInt8} : (tl r).length = (splitL 32 r).length - 1 := by
  unfold tl
  rw [List.length_drop]
theorem tl_nth {r : List UInt8} {i : Nat} (h : i < (tl r).length) : nth (tl r) i = nth (splitL 32 r) (1 + i) := by
  have h2 := h
  rw [tl_len] at h2
  unfold tl nth
  rw [List.getD_eq_getElem?_getD, List.getD_eq_getElem?_getD, List.getElem?_drop]
theorem split_pos (c : UInt8) (l : List UInt8) : 1 ≤ (splitL c l).length ∧ (splitL c l).length ≤ l.length + 1 := by
  rw [splitL_len]
  have := List.count_le_length (a := c) (l := l)
  omega
theorem row_len {s : List UInt8} {i : Nat} (h : i < (mid s).length) : (nth (mid s) i).length ≤ s.length := by
  rw [mid_nth h]
  rw [mid_len] at h
  exact piece_len 10 s _ (nth_mem (by omega))
theorem nsTo_len {r : List UInt8} {j : Nat} : (nsTo r j).length ≤ (tl r).length := by
  unfold nsTo
  rw [List.length_map, List.length_take]
  omega
theorem nsTo_succ {r : List UInt8} {j : Nat} (h : j < (tl r).length) : nsTo r (j + 1) = nsTo r j ++ [numV (nth (tl r) j)] := by
  unfold nsTo
  rw [take_succ h]
  simp
theorem numV_sm (w : List UInt8) : sm (numV w) := by
  unfold numV
  cases h : numOf w with
  | none => exact ⟨by decide, by decide⟩
  | some n => exact (numOf_spec h).1
theorem ns_sm (r : List UInt8) (i : Nat) : sm (nth (ns r) i) := by
  rcases Nat.lt_or_ge i (ns r).length with h | h
  · have := nth_mem h
    unfold ns nsTo at this
    obtain ⟨w, _, hw⟩ := List.mem_map.1 this
    have e : nth (ns r) i = numV w := hw.symm
    rw [e]
    exact numV_sm w
  · have : nth (ns r) i = 0 := by
      unfold nth
      rw [List.getD_eq_getElem?_getD, List.getElem?_eq_none h]
      rfl
    rw [this]
    exact ⟨by decide, by decide⟩
theorem rowB_c {b : Book} {r : List UInt8} (h : ((ns r).length == 7) = true) : rowB b r = ⟨b.comps ++ [compOf (ns r)], b.dues, b.sheets⟩ := by
  unfold rowB
  rw [h]; rfl
theorem rowB_d {b : Book} {r : List UInt8} (h : ((ns r).length == 7) = false) (h2 : (hd r == lTable) = true) : rowB b r = ⟨b.comps, b.dues ++ [nth (ns r) 0], b.sheets⟩ := by
  unfold rowB
  rw [h, h2]; rfl
theorem rowB_s {b : Book} {r : List UInt8} (h : ((ns r).length == 7) = false) (h2 : (hd r == lTable) = false) : rowB b r = ⟨b.comps, b.dues, b.sheets ++ [nth (ns r) 0]⟩ := by
  unfold rowB
  rw [h, h2]; rfl
structure SmB (b : Book) : Prop where
  c : ∀ c ∈ b.comps, ∀ n ∈ lnN (.comp c), sm n
  d : ∀ n ∈ b.dues, sm n
  s : ∀ n ∈ b.sheets, sm n
theorem rowB_sm {b : Book} (h : SmB b) (r : List UInt8) : SmB (rowB b r) ∧ (rowB b r).comps.length + (rowB b r).dues.length + (rowB b r).sheets.length = b.comps.length + b.dues.length + b.sheets.length + 1 := by
  obtain ⟨h1, h2, h3⟩ := h
  cases h7 : ((ns r).length == 7) with
  | true =>
    rw [rowB_c h7]
    refine ⟨⟨fun c hc n hn => ?_, h2, h3⟩, by simp only [List.length_append, List.length_singleton]; omega⟩
    rcases List.mem_append.1 hc with hc | hc
    · exact h1 c hc n hn
    · rw [List.mem_singleton.1 hc] at hn
      simp only [lnN, compOf, List.mem_cons, List.not_mem_nil, or_false] at hn
      rcases hn with rfl | rfl | rfl | rfl | rfl | rfl | rfl <;> exact ns_sm r _
  | false =>
    cases ht : (hd r == lTable) with
    | true =>
      rw [rowB_d h7 ht]
      refine ⟨⟨h1, fun n hn => ?_, h3⟩, by simp only [List.length_append, List.length_singleton]; omega⟩
      rcases List.mem_append.1 hn with hn | hn
      · exact h2 n hn
      · rw [List.mem_singleton.1 hn]; exact ns_sm r _
    | false =>
      rw [rowB_s h7 ht]
      refine ⟨⟨h1, h2, fun n hn => ?_⟩, by simp only [List.length_append, List.length_singleton]; omega⟩
      rcases List.mem_append.1 hn with hn | hn
      · exact h3 n hn
      · rw [List.mem_singleton.1 hn]; exact ns_sm r _
theorem bookTo_sm (rows : List (List UInt8)) : ∀ k, SmB (bookTo rows k) ∧ (bookTo rows k).comps.length + (bookTo rows k).dues.length + (bookTo rows k).sheets.length = k
  | 0 => ⟨⟨fun c hc => (by cases hc), fun n hn => (by cases hn), fun n hn => (by cases hn)⟩, rfl⟩
  | k + 1 => by
    obtain ⟨h1, h2⟩ := bookTo_sm rows k
    obtain ⟨h3, h4⟩ := rowB_sm h1 (nth rows k)
    exact ⟨h3, by unfold bookTo; omega⟩
theorem SmB.low {b : Book} (h : SmB b) (hn : b.comps.length + b.dues.length + b.sheets.length ≤ 300) : b.low := by
  obtain ⟨h1, h2, h3⟩ := h
  refine ⟨by omega, by omega, by omega, fun l hl n hn => ?_⟩
  unfold Book.lns at hl
  simp only [List.mem_cons, List.mem_append, List.mem_map] at hl
  rcases hl with rfl | (⟨c, hc, rfl⟩ | ⟨d, hd, rfl⟩) | ⟨d, hd, rfl⟩
  · cases hn
  · exact h1 c hc n hn
  · rw [List.mem_singleton.1 hn]; exact h2 d hd
  · rw [List.mem_singleton.1 hn]; exact h3 d hd
theorem hd_eq (r : List UInt8) (l : List UInt8) : ((bs (nth (splitL 32 r) (Int.toNat 0))).toList == (bs l).toList) = (hd r == l) := by
  rw [bs_tl, bs_tl]; rfl
theorem cast_beq (n m : Nat) : (((n : Int)) == (m : Int)) = (n == m) := by
  rw [Bool.eq_iff_iff, beq_iff_eq, beq_iff_eq]; omega
theorem parsed109 (S : Set Tryz.prog Y Gl) (s : List UInt8) (hG : ∀ w, Gl w → ∃ m, w.cell? ⟨1, 0, none⟩ = some (.int .i64 m)) (hs : s.length ≤ 170) (hR : 3 ≤ (splitL 10 s).length) (hall : (mid s).all rowOK = true) (ht : (bookTo (mid s) (mid s).length).text = s) : Computes Tryz.prog Gl 109 [str s] (.ret (tBook (bookTo (mid s) (mid s).length))) := by
  refine fn_is S (.r (.ret (L eS (splitL (10:UInt8) s))) (.r (.ret (.tup [])) (.loop (List.length (mid s)) (fun k=>v 24 (I ↑k)::v 23 (I (↑(List.length (mid s)):Int))::v 22 (L eS (mid s))::v 4 (ad 4)::v 2 (ad 2)::v 0 (str s)::tk 100 39::tk 101 3::tk 102 3::(bx 2 [C.v (Value.slice none 0 0),C.v (Value.slice none 0 0),C.v (Value.slice none 0 0)] ++ bx 4 [C.lt (100:Nat) eComp (Book.comps (bookTo (mid s) k)),C.lt (101:Nat) eI (Book.dues (bookTo (mid s) k)),C.lt (102:Nat) eI (Book.sheets (bookTo (mid s) k))])) fun k0=>.br (.r (.ret (L eS (splitL (32:UInt8) (nth (mid s) k0)))) (.loop (List.length (tl (nth (mid s) k0))) (fun j=>v 33 (I ↑j)::v 32 (I (↑(List.length (tl (nth (mid s) k0))):Int))::v 31 (L eS (tl (nth (mid s) k0)))::v 8 (Lt 103 eI (nsTo (nth (mid s) k0) j))::tk 103 3::v 7 (L eS (splitL (32:UInt8) (nth (mid s) k0)))::v 6 (str (nth (mid s) k0))::v 24 (I ↑k0)::v 23 (I (↑(List.length (mid s)):Int))::v 22 (L eS (mid s))::v 4 (ad 4)::v 2 (ad 2)::v 0 (str s)::tk 100 39::tk 101 3::tk 102 3::(bx 2 [C.v (Value.slice none 0 0),C.v (Value.slice none 0 0),C.v (Value.slice none 0 0)] ++ bx 4 [C.lt (100:Nat) eComp (Book.comps (bookTo (mid s) k0)),C.lt (101:Nat) eI (Book.dues (bookTo (mid s) k0)),C.lt (102:Nat) eI (Book.sheets (bookTo (mid s) k0))])) fun k1=>.br (.r (.ret (I (numV (nth (tl (nth (mid s) k0)) k1)))) .nil) (.br .nil (.r (.ret (T.d (D.agg [C.v (Value.string (bs lGive)),C.v (Value.string (bs lComputer)),C.v (Value.string (bs lTable)),C.v (Value.string (bs lSheet))]))) (.br .nil (.r (.ret (T.d (D.agg [C.v (Value.string (bs lGive)),C.v (Value.string (bs lComputer)),C.v (Value.string (bs lTable)),C.v (Value.string (bs lSheet))]))) (.br .nil (.r (.ret (.tup [])) .nil)))))))) (.r (.ret (str (Book.text (bookTo (mid s) k0)))) (.r (.ret (.tup [])) .nil))))) Tryz.func109 (by kernel_rfl) (Computes Tryz.prog Gl 133 [str s,str [(10:UInt8)]] (.ret (L eS (splitL (10:UInt8) s)))∧(List.length (splitL (10:UInt8) s)≤maxLen→Computes Tryz.prog Gl 134 [B (decide ((3:Int)≤(↑(List.length (splitL (10:UInt8) s)):Int))),T.d (D.c (C.v (Value.string (bs s))))] (.ret (.tup []))∧(List.length (splitL (10:UInt8) s)≤maxLen→inRange IntKind.i64 ((↑(List.length (splitL (10:UInt8) s)):Int)-(2:Int))∧((0:Int)≤(1:Int)∧(1:Int)≤(↑(List.length (splitL (10:UInt8) s)):Int)-(2:Int)∧(↑(List.length (splitL (10:UInt8) s)):Int)-(2:Int)≤(↑(List.length (splitL (10:UInt8) s)):Int))∧(Int.toNat ((↑(List.length (splitL (10:UInt8) s)):Int)-(2:Int)-(1:Int))≤maxLen→((0:Int)=(↑(0:Nat):Int)∧(↑(Int.toNat ((↑(List.length (splitL (10:UInt8) s)):Int)-(2:Int)-(1:Int))):Int)=(↑(List.length (mid s)):Int)∧(SEq (Int.toNat ((↑(List.length (splitL (10:UInt8) s)):Int)-(2:Int)-(1:Int))) (fun i=>eS (nth (splitL (10:UInt8) s) (Int.toNat (1:Int)+i))) (List.length (mid s)) fun i=>eS (nth (mid s) i))∧bs s=bs s∧Value.slice none 0 0=Value.slice none 0 0∧Value.slice none 0 0=Value.slice none 0 0∧Value.slice none 0 0=Value.slice none 0 0∧(0:Nat)=(0:Nat)∧(0:Nat)=(0:Nat)∧(0:Nat)=(0:Nat))∧∀ (k0:Nat),k0≤List.length (mid s)→(decide ((↑k0:Int)<(↑(List.length (mid s)):Int))=true→((0:Int)≤(↑k0:Int)∧(↑k0:Int)<(↑(List.length (mid s)):Int))∧Computes Tryz.prog Gl 133 [str (nth (mid s) k0),str [(32:UInt8)]] (.ret (L eS (splitL (32:UInt8) (nth (mid s) k0))))∧((0:Int)≤(1:Int)∧(1:Int)≤(↑(List.length (splitL (32:UInt8) (nth (mid s) k0))):Int)∧(↑(List.length (splitL (32:UInt8) (nth (mid s) k0))):Int)≤(↑(List.length (splitL (32:UInt8) (nth (mid s) k0))):Int))∧(Int.toNat ((↑(List.length (splitL (32:UInt8) (nth (mid s) k0))):Int)-(1:Int))≤maxLen→((0:Int)=(↑(0:Nat):Int)∧(↑(Int.toNat ((↑(List.length (splitL (32:UInt8) (nth (mid s) k0))):Int)-(1:Int))):Int)=(↑(List.length (tl (nth (mid s) k0))):Int)∧(SEq (Int.toNat ((↑(List.length (splitL (32:UInt8) (nth (mid s) k0))):Int)-(1:Int))) (fun i=>eS (nth (splitL (32:UInt8) (nth (mid s) k0)) (Int.toNat (1:Int)+i))) (List.length (tl (nth (mid s) k0))) fun i=>eS (nth (tl (nth (mid s) k0)) i))∧(0:Nat)=(0:Nat)∧(SEq (List.length (splitL (32:UInt8) (nth (mid s) k0))) (fun i=>eS (nth (splitL (32:UInt8) (nth (mid s) k0)) i)) (List.length (splitL (32:UInt8) (nth (mid s) k0))) fun i=>eS (nth (splitL (32:UInt8) (nth (mid s) k0)) i))∧bs (nth (mid s) k0)=bs (nth (mid s) k0)∧(↑k0:Int)=(↑k0:Int)∧(↑(List.length (mid s)):Int)=(↑(List.length (mid s)):Int)∧(SEq (List.length (mid s)) (fun i=>eS (nth (mid s) i)) (List.length (mid s)) fun i=>eS (nth (mid s) i))∧bs s=bs s∧Value.slice none 0 0=Value.slice none 0 0∧Value.slice none 0 0=Value.slice none 0 0∧Value.slice none 0 0=Value.slice none 0 0∧(SEq (List.length (bookTo (mid s) k0).1) (fun i=>eComp (nth (bookTo (mid s) k0).1 i)) (List.length (bookTo (mid s) k0).1) fun i=>eComp (nth (bookTo (mid s) k0).1 i))∧(SEq (List.length (bookTo (mid s) k0).2) (fun i=>eI (nth (bookTo (mid s) k0).2 i)) (List.length (bookTo (mid s) k0).2) fun i=>eI (nth (bookTo (mid s) k0).2 i))∧SEq (List.length (bookTo (mid s) k0).3) (fun i=>eI (nth (bookTo (mid s) k0).3 i)) (List.length (bookTo (mid s) k0).3) fun i=>eI (nth (bookTo (mid s) k0).3 i))∧∀ (k1:Nat),k1≤List.length (tl (nth (mid s) k0))→(decide ((↑k1:Int)<(↑(List.length (tl (nth (mid s) k0))):Int))=true→((0:Int)≤(↑k1:Int)∧(↑k1:Int)<(↑(List.length (tl (nth (mid s) k0))):Int))∧Computes Tryz.prog Gl 135 [str (nth (tl (nth (mid s) k0)) k1)] (.ret (I (numV (nth (tl (nth (mid s) k0)) k1))))∧(List.length (nsTo (nth (mid s) k0) k1)+(1:Nat))*(8:Nat)≤(140737488355328:Nat)∧List.length (nsTo (nth (mid s) k0) k1)+(1:Nat)≤(140737488355328:Nat)∧inRange IntKind.i64 ((↑k1:Int)+(1:Int))∧k1<List.length (tl (nth (mid s) k0))∧(↑k1:Int)+(1:Int)=(↑(k1+(1:Nat)):Int)∧(↑(List.length (tl (nth (mid s) k0))):Int)=(↑(List.length (tl (nth (mid s) k0))):Int)∧(SEq (List.length (tl (nth (mid s) k0))) (fun i=>eS (nth (tl (nth (mid s) k0)) i)) (List.length (tl (nth (mid s) k0))) fun i=>eS (nth (tl (nth (mid s) k0)) i))∧(SEq (List.length (nsTo (nth (mid s) k0) k1)+(1:Nat)) (catF (List.length (nsTo (nth (mid s) k0) k1)) (fun i=>eI (nth (nsTo (nth (mid s) k0) k1) i)) fun i=>List.getD [List.map C.dem [C.v (Value.int IntKind.i64 (numV (nth (tl (nth (mid s) k0)) k1)))]] i []) (List.length (nsTo (nth (mid s) k0) (k1+(1:Nat)))) fun i=>eI (nth (nsTo (nth (mid s) k0) (k1+(1:Nat))) i))∧(SEq (List.length (splitL (32:UInt8) (nth (mid s) k0))) (fun i=>eS (nth (splitL (32:UInt8) (nth (mid s) k0)) i)) (List.length (splitL (32:UInt8) (nth (mid s) k0))) fun i=>eS (nth (splitL (32:UInt8) (nth (mid s) k0)) i))∧bs (nth (mid s) k0)=bs (nth (mid s) k0)∧(↑k0:Int)=(↑k0:Int)∧(↑(List.length (mid s)):Int)=(↑(List.length (mid s)):Int)∧(SEq (List.length (mid s)) (fun i=>eS (nth (mid s) i)) (List.length (mid s)) fun i=>eS (nth (mid s) i))∧bs s=bs s∧Value.slice none 0 0=Value.slice none 0 0∧Value.slice none 0 0=Value.slice none 0 0∧Value.slice none 0 0=Value.slice none 0 0∧(SEq (List.length (bookTo (mid s) k0).1) (fun i=>eComp (nth (bookTo (mid s) k0).1 i)) (List.length (bookTo (mid s) k0).1) fun i=>eComp (nth (bookTo (mid s) k0).1 i))∧(SEq (List.length (bookTo (mid s) k0).2) (fun i=>eI (nth (bookTo (mid s) k0).2 i)) (List.length (bookTo (mid s) k0).2) fun i=>eI (nth (bookTo (mid s) k0).2 i))∧SEq (List.length (bookTo (mid s) k0).3) (fun i=>eI (nth (bookTo (mid s) k0).3 i)) (List.length (bookTo (mid s) k0).3) fun i=>eI (nth (bookTo (mid s) k0).3 i))∧(decide ((↑k1:Int)<(↑(List.length (tl (nth (mid s) k0))):Int))=false→List.length (nsTo (nth (mid s) k0) k1)≤maxLen→(((↑(List.length (nsTo (nth (mid s) k0) k1)):Int)==(7:Int))=true→((0:Int)≤(0:Int)∧(0:Int)<(↑(List.length (nsTo (nth (mid s) k0) k1)):Int))∧((0:Int)≤(1:Int)∧(1:Int)<(↑(List.length (nsTo (nth (mid s) k0) k1)):Int))∧((0:Int)≤(2:Int)∧(2:Int)<(↑(List.length (nsTo (nth (mid s) k0) k1)):Int))∧((0:Int)≤(3:Int)∧(3:Int)<(↑(List.length (nsTo (nth (mid s) k0) k1)):Int))∧((0:Int)≤(4:Int)∧(4:Int)<(↑(List.length (nsTo (nth (mid s) k0) k1)):Int))∧((0:Int)≤(5:Int)∧(5:Int)<(↑(List.length (nsTo (nth (mid s) k0) k1)):Int))∧((0:Int)≤(6:Int)∧(6:Int)<(↑(List.length (nsTo (nth (mid s) k0) k1)):Int))∧(List.length (bookTo (mid s) k0).1+(1:Nat))*(56:Nat)≤(140737488355328:Nat)∧List.length (bookTo (mid s) k0).1+(1:Nat)≤(140737488355328:Nat)∧inRange IntKind.i64 ((↑k0:Int)+(1:Int))∧k0<List.length (mid s)∧(↑k0:Int)+(1:Int)=(↑(k0+(1:Nat)):Int)∧(↑(List.length (mid s)):Int)=(↑(List.length (mid s)):Int)∧(SEq (List.length (mid s)) (fun i=>eS (nth (mid s) i)) (List.length (mid s)) fun i=>eS (nth (mid s) i))∧bs s=bs s∧Value.slice none 0 0=Value.slice none 0 0∧Value.slice none 0 0=Value.slice none 0 0∧Value.slice none 0 0=Value.slice none 0 0∧(SEq (List.length (bookTo (mid s) k0).1+(1:Nat)) (catF (List.length (bookTo (mid s) k0).1) (fun i=>eComp (nth (bookTo (mid s) k0).1 i)) fun i=>List.getD [List.map C.dem (List.map C.dem [C.v (Value.int IntKind.i64 (nth (nsTo (nth (mid s) k0) k1) (Int.toNat (0:Int)))),C.v (Value.int IntKind.i64 (nth (nsTo (nth (mid s) k0) k1) (Int.toNat (1:Int)))),C.v (Value.int IntKind.i64 (nth (nsTo (nth (mid s) k0) k1) (Int.toNat (2:Int)))),C.v (Value.int IntKind.i64 (nth (nsTo (nth (mid s) k0) k1) (Int.toNat (3:Int)))),C.v (Value.int IntKind.i64 (nth (nsTo (nth (mid s) k0) k1) (Int.toNat (4:Int)))),C.v (Value.int IntKind.i64 (nth (nsTo (nth (mid s) k0) k1) (Int.toNat (5:Int)))),C.v (Value.int IntKind.i64 (nth (nsTo (nth (mid s) k0) k1) (Int.toNat (6:Int))))])] i []) (List.length (bookTo (mid s) (k0+(1:Nat))).1) fun i=>eComp (nth (bookTo (mid s) (k0+(1:Nat))).1 i))∧(SEq (List.length (bookTo (mid s) k0).2) (fun i=>eI (nth (bookTo (mid s) k0).2 i)) (List.length (bookTo (mid s) (k0+(1:Nat))).2) fun i=>eI (nth (bookTo (mid s) (k0+(1:Nat))).2 i))∧SEq (List.length (bookTo (mid s) k0).3) (fun i=>eI (nth (bookTo (mid s) k0).3 i)) (List.length (bookTo (mid s) (k0+(1:Nat))).3) fun i=>eI (nth (bookTo (mid s) (k0+(1:Nat))).3 i))∧(((↑(List.length (nsTo (nth (mid s) k0) k1)):Int)==(7:Int))=false→((0:Int)≤(0:Int)∧(0:Int)<(↑(List.length (splitL (32:UInt8) (nth (mid s) k0))):Int))∧Computes Tryz.prog Gl 136 [] (.ret (T.d (D.agg [C.v (Value.string (bs lGive)),C.v (Value.string (bs lComputer)),C.v (Value.string (bs lTable)),C.v (Value.string (bs lSheet))])))∧((0:Int)≤(2:Int)∧(2:Int)<(↑(4:Nat):Int))∧(eqB (ByteArray.toList (bs (nth (splitL (32:UInt8) (nth (mid s) k0)) (Int.toNat (0:Int))))==ByteArray.toList (bs lTable)) true=true→eqB (ByteArray.toList (bs (nth (splitL (32:UInt8) (nth (mid s) k0)) (Int.toNat (0:Int))))==ByteArray.toList (bs lTable)) true=true)∧((eqB (ByteArray.toList (bs (nth (splitL (32:UInt8) (nth (mid s) k0)) (Int.toNat (0:Int))))==ByteArray.toList (bs lTable)) true=true→List.length (nsTo (nth (mid s) k0) k1)≤maxLen)→(eqB (ByteArray.toList (bs (nth (splitL (32:UInt8) (nth (mid s) k0)) (Int.toNat (0:Int))))==ByteArray.toList (bs lTable)) true=true→eqB (ByteArray.toList (bs (nth (splitL (32:UInt8) (nth (mid s) k0)) (Int.toNat (0:Int))))==ByteArray.toList (bs lTable)) true=true)∧((ByteArray.toList (bs (nth (splitL (32:UInt8) (nth (mid s) k0)) (Int.toNat (0:Int))))==ByteArray.toList (bs lTable))=true→eqB (ByteArray.toList (bs (nth (splitL (32:UInt8) (nth (mid s) k0)) (Int.toNat (0:Int))))==ByteArray.toList (bs lTable)) true=true)∧((bif ByteArray.toList (bs (nth (splitL (32:UInt8) (nth (mid s) k0)) (Int.toNat (0:Int))))==ByteArray.toList (bs lTable) then (↑(List.length (nsTo (nth (mid s) k0) k1)):Int)==(1:Int) else false)=true→((0:Int)≤(0:Int)∧(0:Int)<(↑(List.length (nsTo (nth (mid s) k0) k1)):Int))∧(List.length (bookTo (mid s) k0).2+(1:Nat))*(8:Nat)≤(140737488355328:Nat)∧List.length (bookTo (mid s) k0).2+(1:Nat)≤(140737488355328:Nat)∧inRange IntKind.i64 ((↑k0:Int)+(1:Int))∧k0<List.length (mid s)∧(↑k0:Int)+(1:Int)=(↑(k0+(1:Nat)):Int)∧(↑(List.length (mid s)):Int)=(↑(List.length (mid s)):Int)∧(SEq (List.length (mid s)) (fun i=>eS (nth (mid s) i)) (List.length (mid s)) fun i=>eS (nth (mid s) i))∧bs s=bs s∧Value.slice none 0 0=Value.slice none 0 0∧Value.slice none 0 0=Value.slice none 0 0∧Value.slice none 0 0=Value.slice none 0 0∧(SEq (List.length (bookTo (mid s) k0).1) (fun i=>eComp (nth (bookTo (mid s) k0).1 i)) (List.length (bookTo (mid s) (k0+(1:Nat))).1) fun i=>eComp (nth (bookTo (mid s) (k0+(1:Nat))).1 i))∧(SEq (List.length (bookTo (mid s) k0).2+(1:Nat)) (catF (List.length (bookTo (mid s) k0).2) (fun i=>eI (nth (bookTo (mid s) k0).2 i)) fun i=>List.getD [List.map C.dem [C.v (Value.int IntKind.i64 (nth (nsTo (nth (mid s) k0) k1) (Int.toNat (0:Int))))]] i []) (List.length (bookTo (mid s) (k0+(1:Nat))).2) fun i=>eI (nth (bookTo (mid s) (k0+(1:Nat))).2 i))∧SEq (List.length (bookTo (mid s) k0).3) (fun i=>eI (nth (bookTo (mid s) k0).3 i)) (List.length (bookTo (mid s) (k0+(1:Nat))).3) fun i=>eI (nth (bookTo (mid s) (k0+(1:Nat))).3 i))∧((bif ByteArray.toList (bs (nth (splitL (32:UInt8) (nth (mid s) k0)) (Int.toNat (0:Int))))==ByteArray.toList (bs lTable) then (↑(List.length (nsTo (nth (mid s) k0) k1)):Int)==(1:Int) else false)=false→((0:Int)≤(0:Int)∧(0:Int)<(↑(List.length (splitL (32:UInt8) (nth (mid s) k0))):Int))∧Computes Tryz.prog Gl 136 [] (.ret (T.d (D.agg [C.v (Value.string (bs lGive)),C.v (Value.string (bs lComputer)),C.v (Value.string (bs lTable)),C.v (Value.string (bs lSheet))])))∧((0:Int)≤(3:Int)∧(3:Int)<(↑(4:Nat):Int))∧(eqB (ByteArray.toList (bs (nth (splitL (32:UInt8) (nth (mid s) k0)) (Int.toNat (0:Int))))==ByteArray.toList (bs lSheet)) true=true→eqB (ByteArray.toList (bs (nth (splitL (32:UInt8) (nth (mid s) k0)) (Int.toNat (0:Int))))==ByteArray.toList (bs lSheet)) true=true)∧((eqB (ByteArray.toList (bs (nth (splitL (32:UInt8) (nth (mid s) k0)) (Int.toNat (0:Int))))==ByteArray.toList (bs lSheet)) true=true→List.length (nsTo (nth (mid s) k0) k1)≤maxLen)→(eqB (ByteArray.toList (bs (nth (splitL (32:UInt8) (nth (mid s) k0)) (Int.toNat (0:Int))))==ByteArray.toList (bs lSheet)) true=true→eqB (ByteArray.toList (bs (nth (splitL (32:UInt8) (nth (mid s) k0)) (Int.toNat (0:Int))))==ByteArray.toList (bs lSheet)) true=true)∧((ByteArray.toList (bs (nth (splitL (32:UInt8) (nth (mid s) k0)) (Int.toNat (0:Int))))==ByteArray.toList (bs lSheet))=true→eqB (ByteArray.toList (bs (nth (splitL (32:UInt8) (nth (mid s) k0)) (Int.toNat (0:Int))))==ByteArray.toList (bs lSheet)) true=true)∧((bif ByteArray.toList (bs (nth (splitL (32:UInt8) (nth (mid s) k0)) (Int.toNat (0:Int))))==ByteArray.toList (bs lSheet) then (↑(List.length (nsTo (nth (mid s) k0) k1)):Int)==(1:Int) else false)=true→((0:Int)≤(0:Int)∧(0:Int)<(↑(List.length (nsTo (nth (mid s) k0) k1)):Int))∧(List.length (bookTo (mid s) k0).3+(1:Nat))*(8:Nat)≤(140737488355328:Nat)∧List.length (bookTo (mid s) k0).3+(1:Nat)≤(140737488355328:Nat)∧inRange IntKind.i64 ((↑k0:Int)+(1:Int))∧k0<List.length (mid s)∧(↑k0:Int)+(1:Int)=(↑(k0+(1:Nat)):Int)∧(↑(List.length (mid s)):Int)=(↑(List.length (mid s)):Int)∧(SEq (List.length (mid s)) (fun i=>eS (nth (mid s) i)) (List.length (mid s)) fun i=>eS (nth (mid s) i))∧bs s=bs s∧Value.slice none 0 0=Value.slice none 0 0∧Value.slice none 0 0=Value.slice none 0 0∧Value.slice none 0 0=Value.slice none 0 0∧(SEq (List.length (bookTo (mid s) k0).1) (fun i=>eComp (nth (bookTo (mid s) k0).1 i)) (List.length (bookTo (mid s) (k0+(1:Nat))).1) fun i=>eComp (nth (bookTo (mid s) (k0+(1:Nat))).1 i))∧(SEq (List.length (bookTo (mid s) k0).2) (fun i=>eI (nth (bookTo (mid s) k0).2 i)) (List.length (bookTo (mid s) (k0+(1:Nat))).2) fun i=>eI (nth (bookTo (mid s) (k0+(1:Nat))).2 i))∧SEq (List.length (bookTo (mid s) k0).3+(1:Nat)) (catF (List.length (bookTo (mid s) k0).3) (fun i=>eI (nth (bookTo (mid s) k0).3 i)) fun i=>List.getD [List.map C.dem [C.v (Value.int IntKind.i64 (nth (nsTo (nth (mid s) k0) k1) (Int.toNat (0:Int))))]] i []) (List.length (bookTo (mid s) (k0+(1:Nat))).3) fun i=>eI (nth (bookTo (mid s) (k0+(1:Nat))).3 i))∧((bif ByteArray.toList (bs (nth (splitL (32:UInt8) (nth (mid s) k0)) (Int.toNat (0:Int))))==ByteArray.toList (bs lSheet) then (↑(List.length (nsTo (nth (mid s) k0) k1)):Int)==(1:Int) else false)=false→Computes Tryz.prog Gl 134 [B false,T.d (D.c (C.v (Value.string (bs (nth (mid s) k0)))))] (.ret (.tup []))∧inRange IntKind.i64 ((↑k0:Int)+(1:Int))∧k0<List.length (mid s)∧(↑k0:Int)+(1:Int)=(↑(k0+(1:Nat)):Int)∧(↑(List.length (mid s)):Int)=(↑(List.length (mid s)):Int)∧(SEq (List.length (mid s)) (fun i=>eS (nth (mid s) i)) (List.length (mid s)) fun i=>eS (nth (mid s) i))∧bs s=bs s∧Value.slice none 0 0=Value.slice none 0 0∧Value.slice none 0 0=Value.slice none 0 0∧Value.slice none 0 0=Value.slice none 0 0∧(SEq (List.length (bookTo (mid s) k0).1) (fun i=>eComp (nth (bookTo (mid s) k0).1 i)) (List.length (bookTo (mid s) (k0+(1:Nat))).1) fun i=>eComp (nth (bookTo (mid s) (k0+(1:Nat))).1 i))∧(SEq (List.length (bookTo (mid s) k0).2) (fun i=>eI (nth (bookTo (mid s) k0).2 i)) (List.length (bookTo (mid s) (k0+(1:Nat))).2) fun i=>eI (nth (bookTo (mid s) (k0+(1:Nat))).2 i))∧SEq (List.length (bookTo (mid s) k0).3) (fun i=>eI (nth (bookTo (mid s) k0).3 i)) (List.length (bookTo (mid s) (k0+(1:Nat))).3) fun i=>eI (nth (bookTo (mid s) (k0+(1:Nat))).3 i)))))))))∧(decide ((↑k0:Int)<(↑(List.length (mid s)):Int))=false→Computes Tryz.prog Gl 106 [tBook (bookTo (mid s) k0)] (.ret (str (Book.text (bookTo (mid s) k0))))∧Computes Tryz.prog Gl 134 [B (ByteArray.toList (bs (Book.text (bookTo (mid s) k0)))==ByteArray.toList (bs s)),T.d (D.c (C.v (Value.string (bs s))))] (.ret (.tup []))∧(SEq (List.length (bookTo (mid s) k0).1) (fun i=>eComp (nth (bookTo (mid s) k0).1 i)) (List.length (bookTo (mid s) (List.length (mid s))).1) fun i=>eComp (nth (bookTo (mid s) (List.length (mid s))).1 i))∧(SEq (List.length (bookTo (mid s) k0).2) (fun i=>eI (nth (bookTo (mid s) k0).2 i)) (List.length (bookTo (mid s) (List.length (mid s))).2) fun i=>eI (nth (bookTo (mid s) (List.length (mid s))).2 i))∧SEq (List.length (bookTo (mid s) k0).3) (fun i=>eI (nth (bookTo (mid s) k0).3 i)) (List.length (bookTo (mid s) (List.length (mid s))).3) fun i=>eI (nth (bookTo (mid s) (List.length (mid s))).3 i)))))) (by kernel_rfl) ?_
  have hsp := split_pos 10 s
  have hml := mid_len (s := s)
  have hrow : ∀ i, i < (mid s).length → (nth (mid s) i).length ≤ 170 := fun i hi => by have := row_len hi; omega
  simp only [stdS, imp_self, implies_true, and_true]
  refine ⟨split133 hG s 10 (by omega), fun _ => ⟨sureT S _ _ (by simp; omega), fun _ => ⟨(rng_iff _).2 (by omega), ⟨by decide, by omega, by omega⟩, fun _ => ⟨⟨by omega, ⟨by omega, fun i hi => .inl ?_⟩, trivial⟩, fun k0 hk0 => ⟨fun hlt => ?_, fun hlt => ?_⟩⟩⟩⟩⟩
  · have hi : i < (mid s).length := by omega
    show eS (nth (splitL 10 s) (1 + i)) = eS (nth (mid s) i)
    rw [mid_nth hi]
  · have hlt : k0 < (mid s).length := by simpa using hlt
    have hr := hrow k0 hlt
    have hok : rowOK (nth (mid s) k0) = true := List.all_eq_true.1 hall _ (nth_mem hlt)
    have hB1 : bookTo (mid s) (k0 + 1) = rowB (bookTo (mid s) k0) (nth (mid s) k0) := rfl
    have hcnt := (bookTo_sm (mid s) k0).2
    generalize nth (mid s) k0 = R0 at *
    have hsr := split_pos 32 R0
    have htl := tl_len (r := R0)
    unfold rowOK at hok
    rw [Bool.and_eq_true] at hok
    refine ⟨⟨by omega, by omega⟩, split133 hG R0 32 (by omega), ⟨by decide, by omega, by omega⟩, fun _ => ⟨⟨by omega, ⟨by omega, fun i hi => .inl ?_⟩, trivial⟩, fun k1 hk1 => ⟨fun h1 => ?_, fun h1 hmx => ?_⟩⟩⟩
    · have hi : i < (tl R0).length := by omega
      show eS (nth (splitL 32 R0) (1 + i)) = eS (nth (tl R0) i)
      rw [tl_nth hi]
    · have h1 : k1 < (tl R0).length := by simpa using h1
      have hnl := nsTo_len (r := R0) (j := k1)
      exact ⟨⟨by omega, by omega⟩, number135V S _ (List.all_eq_true.1 hok.1 _ (nth_mem h1)), by omega, by omega, (rng_iff _).2 (by omega), h1, rfl, SEq_push1 (nsTo_succ h1) rfl, trivial⟩
    · have h1 : k1 = (tl R0).length := by
        have : ¬ k1 < (tl R0).length := by simpa using h1
        omega
      subst h1
      have hns : nsTo R0 (tl R0).length = ns R0 := rfl
      rw [hns] at hmx ⊢
      have hsh := hok.2
      unfold rowShape at hsh
      simp only [hd_eq]
      have c7 : (((ns R0).length : Int) == 7) = ((ns R0).length == 7) := cast_beq _ 7
      have c1 : (((ns R0).length : Int) == 1) = ((ns R0).length == 1) := cast_beq _ 1
      rw [c7, c1]
      refine ⟨fun h7 => ?_, fun h7 => ⟨⟨by decide, by omega⟩, words136 S, ⟨by decide, by decide⟩, fun _ => ⟨fun ht => ?_, fun ht => ⟨⟨by decide, by omega⟩, words136 S, ⟨by decide, by decide⟩, fun _ => ⟨fun hs => ?_, fun hs => ?_⟩⟩⟩⟩⟩
      · rw [rowB_c h7] at hB1
        have h7' : (ns R0).length = 7 := by simpa using h7
        exact ⟨⟨by omega, by omega⟩, ⟨by omega, by omega⟩, ⟨by omega, by omega⟩, ⟨by omega, by omega⟩, ⟨by omega, by omega⟩, ⟨by omega, by omega⟩, ⟨by omega, by omega⟩, by omega, by omega, (rng_iff _).2 (by omega), hlt, rfl, SEq_push1 (by rw [hB1]) rfl, SEq_whole (by rw [hB1]), SEq_whole (by rw [hB1])⟩
      · rw [Bool.and_eq_true] at ht
        have h1' : (ns R0).length = 1 := by simpa using ht.2
        rw [rowB_d h7 ht.1] at hB1
        exact ⟨⟨by omega, by omega⟩, by omega, by omega, (rng_iff _).2 (by omega), hlt, rfl, SEq_whole (by rw [hB1]), SEq_push1 (x := nth (ns R0) 0) (by rw [hB1]) rfl, SEq_whole (by rw [hB1])⟩
      · rw [Bool.and_eq_true] at hs
        have h1' : (ns R0).length = 1 := by simpa using hs.2
        have hnt : (hd R0 == lTable) = false := by
          rw [hs.2, Bool.and_true] at ht; exact ht
        rw [rowB_s h7 hnt] at hB1
        exact ⟨⟨by omega, by omega⟩, by omega, by omega, (rng_iff _).2 (by omega), hlt, rfl, SEq_whole (by rw [hB1]), SEq_whole (by rw [hB1]), SEq_push1 (x := nth (ns R0) 0) (by rw [hB1]) rfl⟩
      · rw [h7, ht, hs] at hsh; cases hsh
  · have hk : k0 = (mid s).length := by
      have : ¬ k0 < (mid s).length := by simpa using hlt
      omega
    subst hk
    obtain ⟨hsm, hcnt⟩ := bookTo_sm (mid s) (mid s).length
    refine ⟨text106 S _ (hsm.low (by omega)), sureT S _ _ ?_, SEq_whole rfl, SEq_whole rfl, SEq_whole rfl⟩
    rw [bs_tl, bs_tl, ht]
    exact beq_self_eq_true s
end Go.Vc.Gd
namespace Go.Vc.Gd
open Go Go.Proofs Go.Vc
variable {Gl : World → Prop}
end Go.Vc.Gd
namespace Go.Vc.Gd
open Go Go.Proofs Go.Vc
variable {Gl : World → Prop}
end Go.Vc.Gd
namespace Go.Vc.Gd
open Go Go.Proofs Go.Vc
variable {Gl : World → Prop}
def parse (s : List UInt8) : Option Book :=
  bif decide (3 ≤ (splitL 10 s).length) && ((mid s).all rowOK && ((bookTo (mid s) (mid s).length).text == s)) then some (bookTo (mid s) (mid s).length) else none
abbrev GlOK (Gl : World → Prop) : Prop := ∀ w, Gl w → ∃ m, w.cell? ⟨1, 0, none⟩ = some (.int .i64 m)
theorem parsed109some (S : Set Tryz.prog Y Gl) (hG : GlOK Gl) (s : List UInt8) (hs : s.length ≤ 170) {b : Book} (h : parse s = some b) : Computes Tryz.prog Gl 109 [str s] (.ret (tBook b)) := by
  unfold parse at h
  cases hc : decide (3 ≤ (splitL 10 s).length) && ((mid s).all rowOK && ((bookTo (mid s) (mid s).length).text == s)) with
  | false => rw [hc] at h; cases h
  | true =>
    rw [hc] at h
    obtain rfl := Option.some.inj h
    simp only [Bool.and_eq_true, decide_eq_true_eq, beq_iff_eq] at hc
    exact parsed109 S s hG hs hc.1 hc.2.1 hc.2.2
def readPre (s : List UInt8) : Env := [(2, FAR, live), (FAR + 3, 0, str s), (2, FAR + 1, live), (FAR + 4, 0, .d (.c (.v (.slice none 0 0)))), (FAR + 4, 1, .d (.c (.v (.slice none 0 0)))), (FAR + 4, 2, .d (.c (.v (.slice none 0 0))))]
def readPost (b : Book) : Env := [(FAR + 4, 0, L eComp b.comps), (FAR + 4, 1, L eI b.dues), (FAR + 4, 2, L eI b.sheets)]
theorem read108 (S : Set Tryz.prog Y Gl) (s : List UInt8) (b : Book) (hc : Computes Tryz.prog Gl 109 [str s] (.ret (tBook b))) : Does Tryz.prog Y Gl yd0 108 [.addr FAR 0, .addr (FAR + 1) 0] (readPre s) (.ret (.tup [])) (readPost b) := by
  refine fn_is2 S (.r (.ret (tBook b)) .nil) Tryz.func108 (by kernel_rfl) (Computes Tryz.prog Gl 109 [str s] (.ret (tBook b))∧True∧(SEq b.1.length (fun i=>eComp (nth b.1 i)) b.1.length fun i=>eComp (nth b.1 i))∧(SEq b.2.length (fun i=>eI (nth b.2 i)) b.2.length fun i=>eI (nth b.2 i))∧(SEq b.3.length (fun i=>eI (nth b.3 i)) b.3.length fun i=>eI (nth b.3 i))∧bs s=bs s) (by kernel_rfl) ?_
  simp only [stdS, imp_self, implies_true, and_true]
  exact ⟨hc, trivial⟩
theorem read107 (S : Set Tryz.prog Y Gl) (s : List UInt8) (b : Book) (hc : Computes Tryz.prog Gl 109 [str s] (.ret (tBook b))) : Does Tryz.prog Y Gl yd0 107 [.fn 108 [] [.addr FAR 0, .addr (FAR + 1) 0]] (readPre s) (.ret (.tup [.agg [Ci 0, Ci 0], .c (Ci 0)])) (readPost b) :=
  attempt107_does (fst := []) rfl rfl (read108 S s b hc) .ok
theorem read70 (S : Set Tryz.prog Y Gl) (s : List UInt8) (b : Book) (hs : s.length ≤ 170) (hc : Computes Tryz.prog Gl 109 [str s] (.ret (tBook b))) (hb : b.ok = true) : Computes Tryz.prog Gl 70 [str s] (.ret (.tup [.agg (cBook b), .c (Ci 0)])) := by
  refine fn_is S (.br .nil (.w [(nat_lit 100000,nat_lit 1),(nat_lit 100001,nat_lit 4)] [T.fn (108:FuncId) [] [T.addr FAR (0:Nat),T.addr (FAR+(1:Nat)) (0:Nat)]] (readPre s) (.ret (.tup [D.agg [Ci 0,Ci 0],D.c (Ci 0)])) (readPost b) (.ff (.r (.ret (B true)) (.ff .nil))))) Tryz.func70 (by kernel_rfl) ((decide ((170:Int)<(↑(ByteArray.size (bs s)):Int))=true→b.1.length=(0:Nat)∧b.2.length=(0:Nat)∧b.3.length=(0:Nat)∧(3:Int)=(0:Int))∧(decide ((170:Int)<(↑(ByteArray.size (bs s)):Int))=false→(108:Nat)=(108:Nat)∧bs s=bs s∧Value.slice none 0 0=Value.slice none 0 0∧Value.slice none 0 0=Value.slice none 0 0∧Value.slice none 0 0=Value.slice none 0 0∧Does Tryz.prog Y Gl yd0 (107:FuncId) [T.fn (108:FuncId) [] [T.addr FAR (0:Nat),T.addr (FAR+(1:Nat)) (0:Nat)]] (readPre s) (.ret (.tup [D.agg [Ci 0,Ci 0],D.c (Ci 0)])) (readPost b)∧false=false∧Computes Tryz.prog Gl 94 [tBook b] (.ret (B true))∧false=false∧(SEq b.1.length (fun i=>eComp (nth b.1 i)) b.1.length fun i=>eComp (nth b.1 i))∧(SEq b.2.length (fun i=>eI (nth b.2 i)) b.2.length fun i=>eI (nth b.2 i))∧(SEq b.3.length (fun i=>eI (nth b.3 i)) b.3.length fun i=>eI (nth b.3 i))∧(0:Int)=(0:Int))) (by kernel_rfl) ?_
  simp only [stdS, imp_self, implies_true, and_true, bs_size]
  exact ⟨fun h => by simp at h; omega, fun _ => ⟨read107 S s b hc, fineT S b hb, trivial⟩⟩
end Go.Vc.Gd
namespace Go.Vc.Gd
open Go Go.Proofs Go.Vc
variable {Gl : World → Prop}
theorem u8_iff (n : Int) : inRange IntKind.u8 n ↔ 0 ≤ n ∧ n ≤ 255 := Iff.rfl
theorem u8one (x : Int) : ∀ (i : Nat), i < 1 → [List.map C.dem [C.v (Value.int IntKind.u8 x)]].getD i [] = [C.v (Value.int IntKind.u8 (u8Of ([List.map C.dem [C.v (Value.int IntKind.u8 x)]].getD i [])))] := by
  intro i hi
  have : i = 0 := by omega
  subst this
  rfl
theorem str1 (x : Int) : (strOf 1 fun i => [List.map C.dem [C.v (Value.int IntKind.u8 x)]].getD i []) = bs [UInt8.ofNat x.toNat] := rfl
theorem dec_one {n : Int} (h0 : 0 ≤ n) (h1 : n < 10) : dec n = [UInt8.ofNat (48 + n).toNat] := by
  unfold dec
  rw [Lib.decDigits, dif_pos (by omega)]
  congr 2
  omega
theorem dec_two {n : Int} (h0 : 10 ≤ n) : dec n = dec (n / 10) ++ [UInt8.ofNat (48 + n % 10).toNat] := by
  unfold dec
  rw [Lib.decDigits, dif_neg (by omega)]
  congr 2
  · congr 1; omega
  · congr 1; omega
theorem max_eq : IntKind.i64.max = 9223372036854775807 := rfl
theorem dec_size {n : Int} (h : sm n) : (bs (dec n)).size ≤ 2 := by rw [bs_size]; exact (dec_len h).2
theorem decimal1 (S : Set Tryz.prog Y Gl) (n : Int) (h0 : 0 ≤ n) (h1 : n < 10) : Computes Tryz.prog Gl 137 [I n] (.ret (str (dec n))) := by
  refine fn_is S (.br .nil (.br .nil (.br .nil .nil))) Tryz.func137 (by kernel_rfl) ((eqB (decide ((-10:Int)<n)) true=true→eqB (decide ((-10:Int)<n)) true=true)∧(decide ((-10:Int)<n)=true→eqB (decide ((-10:Int)<n)) true=true)∧((bif decide ((-10:Int)<n) then decide (n<(0:Int)) else false)=true→inRange IntKind.i64 ((48:Int)-n)∧inRange IntKind.u8 ((48:Int)-n)∧(∀ (i:Nat),i<(1:Nat)→List.getD [List.map C.dem [C.v (Value.int IntKind.u8 ((48:Int)-n))]] i []=[C.v (Value.int IntKind.u8 (u8Of (List.getD [List.map C.dem [C.v (Value.int IntKind.u8 ((48:Int)-n))]] i [])))])∧(↑(ByteArray.size {data:=#[(45:UInt8)]}+ByteArray.size (strOf (1:Nat) fun i=>List.getD [List.map C.dem [C.v (Value.int IntKind.u8 ((48:Int)-n))]] i [])):Int)≤IntKind.max IntKind.i64∧({data:=#[(45:UInt8)]} ++ strOf (1:Nat) fun i=>List.getD [List.map C.dem [C.v (Value.int IntKind.u8 ((48:Int)-n))]] i [])=bs (dec n))∧((bif decide ((-10:Int)<n) then decide (n<(0:Int)) else false)=false→(decide (n<(0:Int))=true→((10:Int) ≠ (0:Int)∧inRange IntKind.i64 (Int.tdiv n (10:Int)))∧False)∧(decide (n<(0:Int))=false→(decide (n<(10:Int))=true→inRange IntKind.i64 ((48:Int)+n)∧inRange IntKind.u8 ((48:Int)+n)∧(∀ (i:Nat),i<(1:Nat)→List.getD [List.map C.dem [C.v (Value.int IntKind.u8 ((48:Int)+n))]] i []=[C.v (Value.int IntKind.u8 (u8Of (List.getD [List.map C.dem [C.v (Value.int IntKind.u8 ((48:Int)+n))]] i [])))])∧(strOf (1:Nat) fun i=>List.getD [List.map C.dem [C.v (Value.int IntKind.u8 ((48:Int)+n))]] i [])=bs (dec n))∧(decide (n<(10:Int))=false→((10:Int) ≠ (0:Int)∧inRange IntKind.i64 (Int.tdiv n (10:Int)))∧False)))) (by kernel_rfl) ?_
  simp only [stdS, imp_self, implies_true, and_true, str1]
  refine ⟨fun h => ?_, fun _ => ⟨fun h => ?_, fun _ => ⟨fun _ => ⟨(rng_iff _).2 (by omega), (u8_iff _).2 (by omega), u8one _, by rw [dec_one h0 h1]⟩, fun h => ?_⟩⟩⟩
  · simp at h; omega
  · simp at h; omega
  · simp at h; omega
theorem decimal2 (S : Set Tryz.prog Y Gl) (n : Int) (h0 : 10 ≤ n) (h1 : n < 100) : Computes Tryz.prog Gl 137 [I n] (.ret (str (dec n))) := by
  refine fn_is S (.br .nil (.br (.r (.ret (str (dec (Int.tdiv n (10:Int))))) .nil) (.br .nil (.r (.ret (str (dec (Int.tdiv n (10:Int))))) .nil)))) Tryz.func137 (by kernel_rfl) ((eqB (decide ((-10:Int)<n)) true=true→eqB (decide ((-10:Int)<n)) true=true)∧(decide ((-10:Int)<n)=true→eqB (decide ((-10:Int)<n)) true=true)∧((bif decide ((-10:Int)<n) then decide (n<(0:Int)) else false)=true→inRange IntKind.i64 ((48:Int)-n)∧inRange IntKind.u8 ((48:Int)-n)∧(∀ (i:Nat),i<(1:Nat)→List.getD [List.map C.dem [C.v (Value.int IntKind.u8 ((48:Int)-n))]] i []=[C.v (Value.int IntKind.u8 (u8Of (List.getD [List.map C.dem [C.v (Value.int IntKind.u8 ((48:Int)-n))]] i [])))])∧(↑(ByteArray.size {data:=#[(45:UInt8)]}+ByteArray.size (strOf (1:Nat) fun i=>List.getD [List.map C.dem [C.v (Value.int IntKind.u8 ((48:Int)-n))]] i [])):Int)≤IntKind.max IntKind.i64∧({data:=#[(45:UInt8)]} ++ strOf (1:Nat) fun i=>List.getD [List.map C.dem [C.v (Value.int IntKind.u8 ((48:Int)-n))]] i [])=bs (dec n))∧((bif decide ((-10:Int)<n) then decide (n<(0:Int)) else false)=false→(decide (n<(0:Int))=true→((10:Int) ≠ (0:Int)∧inRange IntKind.i64 (Int.tdiv n (10:Int)))∧Computes Tryz.prog Gl 137 [I (Int.tdiv n (10:Int))] (.ret (str (dec (Int.tdiv n (10:Int)))))∧(10:Int) ≠ (0:Int)∧inRange IntKind.i64 ((48:Int)-Int.tmod n (10:Int))∧inRange IntKind.u8 ((48:Int)-Int.tmod n (10:Int))∧(∀ (i:Nat),i<(1:Nat)→List.getD [List.map C.dem [C.v (Value.int IntKind.u8 ((48:Int)-Int.tmod n (10:Int)))]] i []=[C.v (Value.int IntKind.u8 (u8Of (List.getD [List.map C.dem [C.v (Value.int IntKind.u8 ((48:Int)-Int.tmod n (10:Int)))]] i [])))])∧(↑(ByteArray.size (bs (dec (Int.tdiv n (10:Int))))+ByteArray.size (strOf (1:Nat) fun i=>List.getD [List.map C.dem [C.v (Value.int IntKind.u8 ((48:Int)-Int.tmod n (10:Int)))]] i [])):Int)≤IntKind.max IntKind.i64∧(bs (dec (Int.tdiv n (10:Int))) ++ strOf (1:Nat) fun i=>List.getD [List.map C.dem [C.v (Value.int IntKind.u8 ((48:Int)-Int.tmod n (10:Int)))]] i [])=bs (dec n))∧(decide (n<(0:Int))=false→(decide (n<(10:Int))=true→inRange IntKind.i64 ((48:Int)+n)∧inRange IntKind.u8 ((48:Int)+n)∧(∀ (i:Nat),i<(1:Nat)→List.getD [List.map C.dem [C.v (Value.int IntKind.u8 ((48:Int)+n))]] i []=[C.v (Value.int IntKind.u8 (u8Of (List.getD [List.map C.dem [C.v (Value.int IntKind.u8 ((48:Int)+n))]] i [])))])∧(strOf (1:Nat) fun i=>List.getD [List.map C.dem [C.v (Value.int IntKind.u8 ((48:Int)+n))]] i [])=bs (dec n))∧(decide (n<(10:Int))=false→((10:Int) ≠ (0:Int)∧inRange IntKind.i64 (Int.tdiv n (10:Int)))∧Computes Tryz.prog Gl 137 [I (Int.tdiv n (10:Int))] (.ret (str (dec (Int.tdiv n (10:Int)))))∧(10:Int) ≠ (0:Int)∧inRange IntKind.i64 ((48:Int)+Int.tmod n (10:Int))∧inRange IntKind.u8 ((48:Int)+Int.tmod n (10:Int))∧(∀ (i:Nat),i<(1:Nat)→List.getD [List.map C.dem [C.v (Value.int IntKind.u8 ((48:Int)+Int.tmod n (10:Int)))]] i []=[C.v (Value.int IntKind.u8 (u8Of (List.getD [List.map C.dem [C.v (Value.int IntKind.u8 ((48:Int)+Int.tmod n (10:Int)))]] i [])))])∧(↑(ByteArray.size (bs (dec (Int.tdiv n (10:Int))))+ByteArray.size (strOf (1:Nat) fun i=>List.getD [List.map C.dem [C.v (Value.int IntKind.u8 ((48:Int)+Int.tmod n (10:Int)))]] i [])):Int)≤IntKind.max IntKind.i64∧(bs (dec (Int.tdiv n (10:Int))) ++ strOf (1:Nat) fun i=>List.getD [List.map C.dem [C.v (Value.int IntKind.u8 ((48:Int)+Int.tmod n (10:Int)))]] i [])=bs (dec n))))) (by kernel_rfl) ?_
  have hd : Int.tdiv n 10 = n / 10 := Int.tdiv_eq_ediv_of_nonneg (by omega)
  have hm : Int.tmod n 10 = n % 10 := Int.tmod_eq_emod_of_nonneg (by omega)
  simp only [stdS, imp_self, implies_true, and_true, str1, hd, hm]
  refine ⟨fun h => ?_, fun _ => ⟨fun h => ?_, fun _ => ⟨fun h => ?_, fun _ => ⟨⟨by decide, (rng_iff _).2 (by omega)⟩, decimal1 S _ (by omega) (by omega), by decide, (rng_iff _).2 (by omega), (u8_iff _).2 (by omega), u8one _, ?_, by rw [bs_app, ← dec_two h0]⟩⟩⟩⟩
  · simp at h; omega
  · simp at h; omega
  · simp at h; omega
  · have := dec_size (n := n / 10) ⟨by omega, by omega⟩
    rw [max_eq, bs_size [_]]
    simp only [List.length_singleton]
    omega
theorem decimal137 (S : Set Tryz.prog Y Gl) (n : Int) (h : sm n) : Computes Tryz.prog Gl 137 [I n] (.ret (str (dec n))) := by
  by_cases h1 : n < 10
  · exact decimal1 S n h.1 h1
  · exact decimal2 S n (by omega) h.2
theorem row110 (S : Set Tryz.prog Y Gl) (w : List UInt8) (l : List Int) (hw : w.length ≤ 100) (hl : l.length ≤ 1000) (hn : ∀ n ∈ l, sm n) : Computes Tryz.prog Gl 110 [str w, L eI l] (.ret (str (w ++ nums l))) := by
  refine fn_is S (.loop l.length (fun k=>[v 5 (I ↑k),v 1 (L eI l),v 0 (str (w ++ nums (List.take k l)))]) fun k0=>.br (.r (.ret (str (dec (nth l k0)))) .nil) .nil) Tryz.func110 (by kernel_rfl) (((0:Int)=(↑(0:Nat):Int)∧(SEq l.length (fun i=>eI (nth l i)) l.length fun i=>eI (nth l i))∧bs w=bs (w ++ nums (List.take (0:Nat) l)))∧∀ (k0:Nat),k0≤l.length→l.length≤maxLen→(decide ((↑k0:Int)<(↑l.length:Int))=true→(↑(ByteArray.size (bs (w ++ nums (List.take k0 l)))+ByteArray.size {data:=#[(32:UInt8)]}):Int)≤IntKind.max IntKind.i64∧((0:Int)≤(↑k0:Int)∧(↑k0:Int)<(↑l.length:Int))∧Computes Tryz.prog Gl 137 [I (nth l k0)] (.ret (str (dec (nth l k0))))∧(↑(ByteArray.size (bs (w ++ nums (List.take k0 l)) ++ {data:=#[(32:UInt8)]})+ByteArray.size (bs (dec (nth l k0)))):Int)≤IntKind.max IntKind.i64∧inRange IntKind.i64 ((↑k0:Int)+(1:Int))∧k0<l.length∧(↑k0:Int)+(1:Int)=(↑(k0+(1:Nat)):Int)∧(SEq l.length (fun i=>eI (nth l i)) l.length fun i=>eI (nth l i))∧bs (w ++ nums (List.take k0 l)) ++ {data:=#[(32:UInt8)]} ++ bs (dec (nth l k0))=bs (w ++ nums (List.take (k0+(1:Nat)) l)))∧(decide ((↑k0:Int)<(↑l.length:Int))=false→bs (w ++ nums (List.take k0 l))=bs (w ++ nums l))) (by kernel_rfl) ?_
  have hlen : ∀ k, (nums (l.take k)).length ≤ 3 * l.length := fun k => by
    have := nums_len (l := l.take k) fun x hx => hn x (List.mem_of_mem_take hx)
    rw [List.length_take] at this
    omega
  have e32 : ({ data := #[32] } : ByteArray) = bs [32] := rfl
  simp only [stdS, imp_self, implies_true, and_true, e32]
  refine ⟨by simp [nums], fun k hk _ => ⟨fun hlt => ?_, fun hlt => ?_⟩⟩
  · have hlt : k < l.length := by simpa using hlt
    have hs := hn (nth l k) (nth_mem hlt)
    have hd := dec_size hs
    have h1 := hlen k
    rw [bs_size] at hd
    refine ⟨?_, ⟨by omega, by omega⟩, decimal137 S _ hs, ?_, (rng_iff _).2 (by omega), hlt, rfl, ?_⟩
    · rw [max_eq, bs_size, bs_size]
      simp only [List.length_append, List.length_singleton]
      omega
    · rw [bs_app, max_eq, bs_size, bs_size]
      simp only [List.length_append, List.length_singleton]
      omega
    · rw [bs_app, bs_app, nums_take hlt]
      simp
  · have hlt : ¬ k < l.length := by simpa using hlt
    rw [List.take_of_length_le (by omega)]
end Go.Vc.Gd
namespace Go.Vc.Gd
open Go Go.Proofs Go.Vc
variable {Gl : World → Prop}
theorem sealed111 (S : Set Tryz.prog Y Gl) (rows : List (List UInt8)) (hn : rows.length ≤ 901) (hr29 : ∀ i, i < rows.length → (nth rows i).length ≤ 29) : Computes Tryz.prog Gl 111 [L eS rows, I 251] (.ret (str (sealed rows))) := by
  refine fn_is S (.loop rows.length (fun i=>[v 7 (I ↑i),v 6 (I (checkTo rows i)),v 5 (str (outTo rows i)),v 1 (I 251),v 0 (L eS rows)]) fun k0=>.br (.loop (List.length (nth rows k0)) (fun k=>[v 8 (I ↑k),v 7 (I ↑k0),v 6 (I (checkTo rows k0+sumTo (nth rows k0) k0 k)),v 5 (str (outTo rows k0)),v 1 (I 251),v 0 (L eS rows)]) fun k1=>.br .nil .nil) (.r (.ret (str (dec (Int.tdiv (Int.tmod (checkTo rows k0) (251:Int)) (100:Int))))) (.r (.ret (str (dec (Int.tmod (Int.tdiv (Int.tmod (checkTo rows k0) (251:Int)) (10:Int)) (10:Int))))) (.r (.ret (str (dec (Int.tmod (Int.tmod (checkTo rows k0) (251:Int)) (10:Int))))) .nil)))) Tryz.func111 (by kernel_rfl) (((0:Int)=(↑(0:Nat):Int)∧(0:Int)=checkTo rows (0:Nat)∧{data:=#[]}=bs (outTo rows (0:Nat))∧(251:Int)=(251:Int)∧SEq rows.length (fun i=>eS (nth rows i)) rows.length fun i=>eS (nth rows i))∧∀ (k0:Nat),k0≤rows.length→rows.length≤maxLen→(decide ((↑k0:Int)<(↑rows.length:Int))=true→((0:Int)=(↑(0:Nat):Int)∧(↑k0:Int)=(↑k0:Int)∧checkTo rows k0=checkTo rows k0+sumTo (nth rows k0) k0 (0:Nat)∧bs (outTo rows k0)=bs (outTo rows k0)∧(251:Int)=(251:Int)∧SEq rows.length (fun i=>eS (nth rows i)) rows.length fun i=>eS (nth rows i))∧∀ (k1:Nat),k1≤List.length (nth rows k0)→((0:Int)≤(↑k0:Int)∧(↑k0:Int)<(↑rows.length:Int))∧(decide ((↑k1:Int)<(↑(ByteArray.size (bs (nth rows k0))):Int))=true→((0:Int)≤(↑k0:Int)∧(↑k0:Int)<(↑rows.length:Int))∧((0:Int)≤(↑k1:Int)∧(↑k1:Int)<(↑(ByteArray.size (bs (nth rows k0))):Int))∧inRange IntKind.i64 (byteAt (bs (nth rows k0)) k1)∧inRange IntKind.i64 ((↑k1:Int)+(1:Int))∧inRange IntKind.i64 (byteAt (bs (nth rows k0)) k1*((↑k1:Int)+(1:Int)))∧inRange IntKind.i64 ((↑k0:Int)+(1:Int))∧inRange IntKind.i64 (byteAt (bs (nth rows k0)) k1*((↑k1:Int)+(1:Int))*((↑k0:Int)+(1:Int)))∧inRange IntKind.i64 (checkTo rows k0+sumTo (nth rows k0) k0 k1+byteAt (bs (nth rows k0)) k1*((↑k1:Int)+(1:Int))*((↑k0:Int)+(1:Int)))∧inRange IntKind.i64 ((↑k1:Int)+(1:Int))∧k1<List.length (nth rows k0)∧(↑k1:Int)+(1:Int)=(↑(k1+(1:Nat)):Int)∧(↑k0:Int)=(↑k0:Int)∧checkTo rows k0+sumTo (nth rows k0) k0 k1+byteAt (bs (nth rows k0)) k1*((↑k1:Int)+(1:Int))*((↑k0:Int)+(1:Int))=checkTo rows k0+sumTo (nth rows k0) k0 (k1+(1:Nat))∧bs (outTo rows k0)=bs (outTo rows k0)∧(251:Int)=(251:Int)∧SEq rows.length (fun i=>eS (nth rows i)) rows.length fun i=>eS (nth rows i))∧(decide ((↑k1:Int)<(↑(ByteArray.size (bs (nth rows k0))):Int))=false→((0:Int)≤(↑k0:Int)∧(↑k0:Int)<(↑rows.length:Int))∧(↑(ByteArray.size (bs (outTo rows k0))+ByteArray.size (bs (nth rows k0))):Int)≤IntKind.max IntKind.i64∧(↑(ByteArray.size (bs (outTo rows k0) ++ bs (nth rows k0))+ByteArray.size {data:=#[(10:UInt8)]}):Int)≤IntKind.max IntKind.i64∧inRange IntKind.i64 ((↑k0:Int)+(1:Int))∧k0<rows.length∧(↑k0:Int)+(1:Int)=(↑(k0+(1:Nat)):Int)∧checkTo rows k0+sumTo (nth rows k0) k0 k1=checkTo rows (k0+(1:Nat))∧bs (outTo rows k0) ++ bs (nth rows k0) ++ {data:=#[(10:UInt8)]}=bs (outTo rows (k0+(1:Nat)))∧(251:Int)=(251:Int)∧SEq rows.length (fun i=>eS (nth rows i)) rows.length fun i=>eS (nth rows i)))∧(decide ((↑k0:Int)<(↑rows.length:Int))=false→(251:Int) ≠ (0:Int)∧(↑(ByteArray.size (bs (outTo rows k0))+ByteArray.size {data:=#[(101:UInt8),(110:UInt8),(100:UInt8),(32:UInt8)]}):Int)≤IntKind.max IntKind.i64∧((100:Int) ≠ (0:Int)∧inRange IntKind.i64 (Int.tdiv (Int.tmod (checkTo rows k0) (251:Int)) (100:Int)))∧Computes Tryz.prog Gl 137 [I (Int.tdiv (Int.tmod (checkTo rows k0) (251:Int)) (100:Int))] (.ret (str (dec (Int.tdiv (Int.tmod (checkTo rows k0) (251:Int)) (100:Int)))))∧(↑(ByteArray.size (bs (outTo rows k0) ++ {data:=#[(101:UInt8),(110:UInt8),(100:UInt8),(32:UInt8)]})+ByteArray.size (bs (dec (Int.tdiv (Int.tmod (checkTo rows k0) (251:Int)) (100:Int))))):Int)≤IntKind.max IntKind.i64∧((10:Int) ≠ (0:Int)∧inRange IntKind.i64 (Int.tdiv (Int.tmod (checkTo rows k0) (251:Int)) (10:Int)))∧(10:Int) ≠ (0:Int)∧Computes Tryz.prog Gl 137 [I (Int.tmod (Int.tdiv (Int.tmod (checkTo rows k0) (251:Int)) (10:Int)) (10:Int))] (.ret (str (dec (Int.tmod (Int.tdiv (Int.tmod (checkTo rows k0) (251:Int)) (10:Int)) (10:Int)))))∧(↑(ByteArray.size (bs (outTo rows k0) ++ {data:=#[(101:UInt8),(110:UInt8),(100:UInt8),(32:UInt8)]} ++ bs (dec (Int.tdiv (Int.tmod (checkTo rows k0) (251:Int)) (100:Int))))+ByteArray.size (bs (dec (Int.tmod (Int.tdiv (Int.tmod (checkTo rows k0) (251:Int)) (10:Int)) (10:Int))))):Int)≤IntKind.max IntKind.i64∧(10:Int) ≠ (0:Int)∧Computes Tryz.prog Gl 137 [I (Int.tmod (Int.tmod (checkTo rows k0) (251:Int)) (10:Int))] (.ret (str (dec (Int.tmod (Int.tmod (checkTo rows k0) (251:Int)) (10:Int)))))∧(↑(ByteArray.size (bs (outTo rows k0) ++ {data:=#[(101:UInt8),(110:UInt8),(100:UInt8),(32:UInt8)]} ++ bs (dec (Int.tdiv (Int.tmod (checkTo rows k0) (251:Int)) (100:Int))) ++ bs (dec (Int.tmod (Int.tdiv (Int.tmod (checkTo rows k0) (251:Int)) (10:Int)) (10:Int))))+ByteArray.size (bs (dec (Int.tmod (Int.tmod (checkTo rows k0) (251:Int)) (10:Int))))):Int)≤IntKind.max IntKind.i64∧(↑(ByteArray.size (bs (outTo rows k0) ++ {data:=#[(101:UInt8),(110:UInt8),(100:UInt8),(32:UInt8)]} ++ bs (dec (Int.tdiv (Int.tmod (checkTo rows k0) (251:Int)) (100:Int))) ++ bs (dec (Int.tmod (Int.tdiv (Int.tmod (checkTo rows k0) (251:Int)) (10:Int)) (10:Int))) ++ bs (dec (Int.tmod (Int.tmod (checkTo rows k0) (251:Int)) (10:Int))))+ByteArray.size {data:=#[(10:UInt8)]}):Int)≤IntKind.max IntKind.i64∧bs (outTo rows k0) ++ {data:=#[(101:UInt8),(110:UInt8),(100:UInt8),(32:UInt8)]} ++ bs (dec (Int.tdiv (Int.tmod (checkTo rows k0) (251:Int)) (100:Int))) ++ bs (dec (Int.tmod (Int.tdiv (Int.tmod (checkTo rows k0) (251:Int)) (10:Int)) (10:Int))) ++ bs (dec (Int.tmod (Int.tmod (checkTo rows k0) (251:Int)) (10:Int))) ++ {data:=#[(10:UInt8)]}=bs (sealed rows))) (by kernel_rfl) ?_
  have e10 : ({ data := #[10] } : ByteArray) = bs [10] := rfl
  have e0 : ({ data := #[] } : ByteArray) = bs [] := rfl
  have eE : ({ data := #[101, 110, 100, 32] } : ByteArray) = bs lEnd := rfl
  simp only [stdS, imp_self, implies_true, and_true, e10, e0, eE, bs_size, bs_app, decide_eq_true_eq, decide_eq_false_iff_not]
  refine ⟨⟨rfl, rfl, trivial⟩, fun k3 hk3 hmx => ⟨fun hlt => ?_, fun hlt => ?_⟩⟩
  · have hlt : k3 < rows.length := by omega
    have hw := hr29 k3 hlt
    have hco := checkTo_le hr29 k3 (by omega) (by omega)
    have hou := outTo_le hr29 k3 (by omega)
    have e1 : checkTo rows (k3 + 1) = checkTo rows k3 + sumTo (nth rows k3) k3 (nth rows k3).length := rfl
    have e2 : outTo rows (k3 + 1) = outTo rows k3 ++ (nth rows k3 ++ [10]) := rfl
    generalize nth rows k3 = w at *
    refine ⟨⟨by unfold sumTo; omega, trivial⟩, fun k4 hk4 => ⟨⟨by omega, by omega⟩, fun hl4 => ?_, fun hl4 => ?_⟩⟩
    · have hl4 : k4 < w.length := by omega
      have ht := term_le (x := nth w k4) (k := k4) (i := k3) (by omega) (by omega)
      have hsu := sumTo_le (w := w) (i := k3) (by omega) k4 (by omega)
      have hx : ((nth w k4).toNat : Int) < 256 := by have := (nth w k4).toNat_lt; omega
      rw [byteAt_bs hl4]
      refine ⟨⟨by omega, by omega⟩, ⟨by omega, by omega⟩, (rng_iff _).2 (by omega), (rng_iff _).2 (by omega), (rng_iff _).2 (by omega), (rng_iff _).2 (by omega), (rng_iff _).2 (by omega), (rng_iff _).2 (by omega), (rng_iff _).2 (by omega), hl4, rfl, ?_, trivial⟩
      rw [sumTo, Int.add_assoc]
    · have hl4 : k4 = w.length := by omega
      subst hl4
      refine ⟨⟨by omega, by omega⟩, by rw [max_eq]; omega, by rw [max_eq]; simp only [List.length_append, List.length_singleton]; omega, (rng_iff _).2 (by omega), hlt, rfl, e1.symm, ?_, trivial⟩
      rw [e2, List.append_assoc]
  · obtain rfl : k3 = rows.length := by omega
    have hco := checkTo_le hr29 rows.length (by omega) (by omega)
    have hou := outTo_le hr29 rows.length (by omega)
    have htx : sealed rows = outTo rows rows.length ++ lEnd ++ dec (Int.tdiv (Int.tmod (checkTo rows rows.length) 251) 100) ++ dec (Int.tmod (Int.tdiv (Int.tmod (checkTo rows rows.length) 251) 10) 10) ++ dec (Int.tmod (Int.tmod (checkTo rows rows.length) 251) 10) ++ [10] := by
      unfold sealed checkOf
      rfl
    rw [htx]
    have hM : 0 ≤ Int.tmod (checkTo rows rows.length) 251 ∧ Int.tmod (checkTo rows rows.length) 251 < 251 := by
      rw [Int.tmod_eq_emod_of_nonneg hco.1]
      omega
    generalize Int.tmod (checkTo rows rows.length) 251 = M at *
    have h1' : Int.tdiv M 100 = M / 100 := Int.tdiv_eq_ediv_of_nonneg hM.1
    have h2' : Int.tdiv M 10 = M / 10 := Int.tdiv_eq_ediv_of_nonneg hM.1
    have h3' : Int.tmod (M / 10) 10 = M / 10 % 10 := Int.tmod_eq_emod_of_nonneg (by omega)
    have h4' : Int.tmod M 10 = M % 10 := Int.tmod_eq_emod_of_nonneg hM.1
    rw [h1', h2', h3', h4']
    have s1 : sm (M / 100) := ⟨by omega, by omega⟩
    have s2 : sm (M / 10 % 10) := ⟨by omega, by omega⟩
    have s3 : sm (M % 10) := ⟨by omega, by omega⟩
    have l1 := dec_len s1
    have l2 := dec_len s2
    have l3 := dec_len s3
    have lE : lEnd.length = 4 := rfl
    refine ⟨by decide, ?_, ⟨by decide, (rng_iff _).2 (by omega)⟩, decimal137 S _ s1, ?_, ⟨by decide, (rng_iff _).2 (by omega)⟩, by decide, decimal137 S _ s2, ?_, by decide, decimal137 S _ s3, ?_, ?_, rfl⟩
    all_goals
      rw [max_eq]
      try simp only [List.length_append, List.length_singleton]
      omega
theorem rowR (S : Set Tryz.prog Y Gl) (w : List UInt8) (hw : w.length ≤ 100) (l : List Int) (hl : l.length ≤ 1000) (hn : ∀ n ∈ l, sm n) (n : Nat) (f : Nat → List C) (h : SEq n f l.length (fun i => eI (nth l i))) : Computes Tryz.prog Gl 110 [str w, .d (.c (.s .n n f))] (.ret (str (w ++ nums l))) :=
  (row110 S w l hw hl hn).args (show bs w = bs w ∧ SEq n f l.length (fun i => eI (nth l i)) from ⟨rfl, h⟩)
def rowsTo (b : Book) (i j k : Nat) : List (List UInt8) := (lnsTo b i j k).map lnT
theorem print71 (S : Set Tryz.prog Y Gl) (b : Book) (hb : b.low) : Computes Tryz.prog Gl 71 [tBook b] (.ret (str b.text)) := by
  refine fn_is S (.loop (List.length (Book.comps b)) (fun k=>tk 100 9::v 4 (I ↑k)::v 3 (Lt 100 eS (rowsTo b k (0:Nat) (0:Nat)))::v 1 (ad 1)::bx 1 (cBook b)) fun k0=>.br (.r (.ret (str ([(99:UInt8),(111:UInt8),(109:UInt8),(112:UInt8),(117:UInt8),(116:UInt8),(101:UInt8),(114:UInt8)] ++ nums (lnN (Ln.comp (nth (Book.comps b) k0)))))) .nil) (.loop (List.length (Book.dues b)) (fun k=>tk 100 9::v 6 (I ↑k)::v 3 (Lt 100 eS (rowsTo b (List.length (Book.comps b)) k (0:Nat)))::v 1 (ad 1)::bx 1 (cBook b)) fun k1=>.br (.r (.ret (str ([(116:UInt8),(97:UInt8),(98:UInt8),(108:UInt8),(101:UInt8)] ++ nums [nth (Book.dues b) k1]))) .nil) (.loop (List.length (Book.sheets b)) (fun k=>tk 100 9::v 7 (I ↑k)::v 3 (Lt 100 eS (rowsTo b (List.length (Book.comps b)) (List.length (Book.dues b)) k))::v 1 (ad 1)::bx 1 (cBook b)) fun k2=>.br (.r (.ret (str ([(115:UInt8),(104:UInt8),(101:UInt8),(101:UInt8),(116:UInt8)] ++ nums [nth (Book.sheets b) k2]))) .nil) (.r (.ret (str (sealed (rowsTo b (List.length (Book.comps b)) (List.length (Book.dues b)) k2)))) .nil)))) Tryz.func71 (by kernel_rfl) (((0:Int)=(↑(0:Nat):Int)∧(SEq (1:Nat) (fun i=>List.getD [List.map C.dem [C.v (Value.string {data:=#[(103:UInt8),(105:UInt8),(118:UInt8),(101:UInt8)]})]] i []) (List.length (rowsTo b (0:Nat) (0:Nat) (0:Nat))) fun i=>eS (nth (rowsTo b (0:Nat) (0:Nat) (0:Nat)) i))∧(SEq b.1.length (fun i=>eComp (nth b.1 i)) b.1.length fun i=>eComp (nth b.1 i))∧(SEq b.2.length (fun i=>eI (nth b.2 i)) b.2.length fun i=>eI (nth b.2 i))∧SEq b.3.length (fun i=>eI (nth b.3 i)) b.3.length fun i=>eI (nth b.3 i))∧∀ (k0:Nat),k0≤List.length (Book.comps b)→b.1.length≤maxLen→(decide ((↑k0:Int)<(↑b.1.length:Int))=true→((0:Int)≤(↑k0:Int)∧(↑k0:Int)<(↑b.1.length:Int))∧Computes Tryz.prog Gl 110 [str [(99:UInt8),(111:UInt8),(109:UInt8),(112:UInt8),(117:UInt8),(116:UInt8),(101:UInt8),(114:UInt8)],T.d (D.c (C.s Tag.n (7:Nat) fun i=>List.getD [List.map C.dem [C.v (Value.int IntKind.i64 (Comp.room (nth (Book.comps b) k0)))],List.map C.dem [C.v (Value.int IntKind.i64 (Span.low (Comp.post (nth (Book.comps b) k0))))],List.map C.dem [C.v (Value.int IntKind.i64 (Span.high (Comp.post (nth (Book.comps b) k0))))],List.map C.dem [C.v (Value.int IntKind.i64 (Span.low (Comp.sheet (nth (Book.comps b) k0))))],List.map C.dem [C.v (Value.int IntKind.i64 (Span.high (Comp.sheet (nth (Book.comps b) k0))))],List.map C.dem [C.v (Value.int IntKind.i64 (Span.low (Comp.look (nth (Book.comps b) k0))))],List.map C.dem [C.v (Value.int IntKind.i64 (Span.high (Comp.look (nth (Book.comps b) k0))))]] i []))] (.ret (str ([(99:UInt8),(111:UInt8),(109:UInt8),(112:UInt8),(117:UInt8),(116:UInt8),(101:UInt8),(114:UInt8)] ++ nums (lnN (Ln.comp (nth (Book.comps b) k0))))))∧(List.length (rowsTo b k0 (0:Nat) (0:Nat))+(1:Nat))*(16:Nat)≤(140737488355328:Nat)∧List.length (rowsTo b k0 (0:Nat) (0:Nat))+(1:Nat)≤(140737488355328:Nat)∧inRange IntKind.i64 ((↑k0:Int)+(1:Int))∧k0<List.length (Book.comps b)∧(↑k0:Int)+(1:Int)=(↑(k0+(1:Nat)):Int)∧(SEq (List.length (rowsTo b k0 (0:Nat) (0:Nat))+(1:Nat)) (catF (List.length (rowsTo b k0 (0:Nat) (0:Nat))) (fun i=>eS (nth (rowsTo b k0 (0:Nat) (0:Nat)) i)) fun i=>List.getD [List.map C.dem [C.v (Value.string (bs ([(99:UInt8),(111:UInt8),(109:UInt8),(112:UInt8),(117:UInt8),(116:UInt8),(101:UInt8),(114:UInt8)] ++ nums (lnN (Ln.comp (nth b.1 k0))))))]] i []) (List.length (rowsTo b (k0+(1:Nat)) (0:Nat) (0:Nat))) fun i=>eS (nth (rowsTo b (k0+(1:Nat)) (0:Nat) (0:Nat)) i))∧(SEq b.1.length (fun i=>eComp (nth b.1 i)) b.1.length fun i=>eComp (nth b.1 i))∧(SEq b.2.length (fun i=>eI (nth b.2 i)) b.2.length fun i=>eI (nth b.2 i))∧SEq b.3.length (fun i=>eI (nth b.3 i)) b.3.length fun i=>eI (nth b.3 i))∧(decide ((↑k0:Int)<(↑b.1.length:Int))=false→((0:Int)=(↑(0:Nat):Int)∧(SEq (List.length (rowsTo b k0 (0:Nat) (0:Nat))) (fun i=>eS (nth (rowsTo b k0 (0:Nat) (0:Nat)) i)) (List.length (rowsTo b b.1.length (0:Nat) (0:Nat))) fun i=>eS (nth (rowsTo b b.1.length (0:Nat) (0:Nat)) i))∧(SEq b.1.length (fun i=>eComp (nth b.1 i)) b.1.length fun i=>eComp (nth b.1 i))∧(SEq b.2.length (fun i=>eI (nth b.2 i)) b.2.length fun i=>eI (nth b.2 i))∧SEq b.3.length (fun i=>eI (nth b.3 i)) b.3.length fun i=>eI (nth b.3 i))∧∀ (k1:Nat),k1≤List.length (Book.dues b)→b.2.length≤maxLen→(decide ((↑k1:Int)<(↑b.2.length:Int))=true→((0:Int)≤(↑k1:Int)∧(↑k1:Int)<(↑b.2.length:Int))∧Computes Tryz.prog Gl 110 [str [(116:UInt8),(97:UInt8),(98:UInt8),(108:UInt8),(101:UInt8)],T.d (D.c (C.s Tag.n (1:Nat) fun i=>List.getD [List.map C.dem [C.v (Value.int IntKind.i64 (nth (Book.dues b) k1))]] i []))] (.ret (str ([(116:UInt8),(97:UInt8),(98:UInt8),(108:UInt8),(101:UInt8)] ++ nums [nth (Book.dues b) k1])))∧(List.length (rowsTo b b.1.length k1 (0:Nat))+(1:Nat))*(16:Nat)≤(140737488355328:Nat)∧List.length (rowsTo b b.1.length k1 (0:Nat))+(1:Nat)≤(140737488355328:Nat)∧inRange IntKind.i64 ((↑k1:Int)+(1:Int))∧k1<List.length (Book.dues b)∧(↑k1:Int)+(1:Int)=(↑(k1+(1:Nat)):Int)∧(SEq (List.length (rowsTo b b.1.length k1 (0:Nat))+(1:Nat)) (catF (List.length (rowsTo b b.1.length k1 (0:Nat))) (fun i=>eS (nth (rowsTo b b.1.length k1 (0:Nat)) i)) fun i=>List.getD [List.map C.dem [C.v (Value.string (bs ([(116:UInt8),(97:UInt8),(98:UInt8),(108:UInt8),(101:UInt8)] ++ nums [nth b.2 k1])))]] i []) (List.length (rowsTo b b.1.length (k1+(1:Nat)) (0:Nat))) fun i=>eS (nth (rowsTo b b.1.length (k1+(1:Nat)) (0:Nat)) i))∧(SEq b.1.length (fun i=>eComp (nth b.1 i)) b.1.length fun i=>eComp (nth b.1 i))∧(SEq b.2.length (fun i=>eI (nth b.2 i)) b.2.length fun i=>eI (nth b.2 i))∧SEq b.3.length (fun i=>eI (nth b.3 i)) b.3.length fun i=>eI (nth b.3 i))∧(decide ((↑k1:Int)<(↑b.2.length:Int))=false→((0:Int)=(↑(0:Nat):Int)∧(SEq (List.length (rowsTo b b.1.length k1 (0:Nat))) (fun i=>eS (nth (rowsTo b b.1.length k1 (0:Nat)) i)) (List.length (rowsTo b b.1.length b.2.length (0:Nat))) fun i=>eS (nth (rowsTo b b.1.length b.2.length (0:Nat)) i))∧(SEq b.1.length (fun i=>eComp (nth b.1 i)) b.1.length fun i=>eComp (nth b.1 i))∧(SEq b.2.length (fun i=>eI (nth b.2 i)) b.2.length fun i=>eI (nth b.2 i))∧SEq b.3.length (fun i=>eI (nth b.3 i)) b.3.length fun i=>eI (nth b.3 i))∧∀ (k2:Nat),k2≤List.length (Book.sheets b)→b.3.length≤maxLen→(decide ((↑k2:Int)<(↑b.3.length:Int))=true→((0:Int)≤(↑k2:Int)∧(↑k2:Int)<(↑b.3.length:Int))∧Computes Tryz.prog Gl 110 [str [(115:UInt8),(104:UInt8),(101:UInt8),(101:UInt8),(116:UInt8)],T.d (D.c (C.s Tag.n (1:Nat) fun i=>List.getD [List.map C.dem [C.v (Value.int IntKind.i64 (nth (Book.sheets b) k2))]] i []))] (.ret (str ([(115:UInt8),(104:UInt8),(101:UInt8),(101:UInt8),(116:UInt8)] ++ nums [nth (Book.sheets b) k2])))∧(List.length (rowsTo b b.1.length b.2.length k2)+(1:Nat))*(16:Nat)≤(140737488355328:Nat)∧List.length (rowsTo b b.1.length b.2.length k2)+(1:Nat)≤(140737488355328:Nat)∧inRange IntKind.i64 ((↑k2:Int)+(1:Int))∧k2<List.length (Book.sheets b)∧(↑k2:Int)+(1:Int)=(↑(k2+(1:Nat)):Int)∧(SEq (List.length (rowsTo b b.1.length b.2.length k2)+(1:Nat)) (catF (List.length (rowsTo b b.1.length b.2.length k2)) (fun i=>eS (nth (rowsTo b b.1.length b.2.length k2) i)) fun i=>List.getD [List.map C.dem [C.v (Value.string (bs ([(115:UInt8),(104:UInt8),(101:UInt8),(101:UInt8),(116:UInt8)] ++ nums [nth b.3 k2])))]] i []) (List.length (rowsTo b b.1.length b.2.length (k2+(1:Nat)))) fun i=>eS (nth (rowsTo b b.1.length b.2.length (k2+(1:Nat))) i))∧(SEq b.1.length (fun i=>eComp (nth b.1 i)) b.1.length fun i=>eComp (nth b.1 i))∧(SEq b.2.length (fun i=>eI (nth b.2 i)) b.2.length fun i=>eI (nth b.2 i))∧SEq b.3.length (fun i=>eI (nth b.3 i)) b.3.length fun i=>eI (nth b.3 i))∧(decide ((↑k2:Int)<(↑b.3.length:Int))=false→Computes Tryz.prog Gl 111 [L eS (rowsTo b (List.length (Book.comps b)) (List.length (Book.dues b)) k2),I 251] (.ret (str (sealed (rowsTo b (List.length (Book.comps b)) (List.length (Book.dues b)) k2))))∧bs (sealed (rowsTo b b.1.length b.2.length k2))=bs (Book.text b))))) (by kernel_rfl) ?_
  obtain ⟨hc, hd, hs, hn⟩ := id hb
  have hall : rowsTo b b.comps.length b.dues.length b.sheets.length = b.rows := by unfold rowsTo Book.rows; rw [lnsTo_all]
  have hrl : ∀ i j k, (rowsTo b i j k).length ≤ 1 + i + j + k := fun i j k => by unfold rowsTo; rw [List.length_map]; exact lnsTo_len b i j k
  have hsc : ∀ k, k < b.comps.length → ∀ n ∈ lnN (.comp (nth b.comps k)), sm n := fun k hk => hn _ (by
    unfold Book.lns
    simp only [List.mem_cons, List.mem_append, List.mem_map]
    exact .inr (.inl (.inl ⟨_, nth_mem hk, rfl⟩)))
  have hsd : ∀ k, k < b.dues.length → ∀ n ∈ [nth b.dues k], sm n := fun k hk => hn (.due (nth b.dues k)) (by
    unfold Book.lns
    simp only [List.mem_cons, List.mem_append, List.mem_map]
    exact .inr (.inl (.inr ⟨_, nth_mem hk, rfl⟩)))
  have hss : ∀ k, k < b.sheets.length → ∀ n ∈ [nth b.sheets k], sm n := fun k hk => hn (.sheet (nth b.sheets k)) (by
    unfold Book.lns
    simp only [List.mem_cons, List.mem_append, List.mem_map]
    exact .inr (.inr ⟨_, nth_mem hk, rfl⟩))
  have q0 : SEq 1 (fun i => [List.map C.dem [C.v (Value.string { data := #[103, 105, 118, 101] })]].getD i []) (rowsTo b 0 0 0).length (fun i => eS (nth (rowsTo b 0 0 0) i)) := by
    refine ⟨rfl, fun i hi => .inl ?_⟩
    have : i = 0 := by omega
    subst this
    rfl
  simp only [stdS, imp_self, implies_true, and_true]
  refine ⟨⟨q0, trivial⟩, fun k0 hk0 _ => ⟨fun hlt => ?_, fun hlt => ?_⟩⟩
  · have hlt : k0 < b.comps.length := by simpa using hlt
    have := hrl k0 0 0
    refine ⟨⟨by omega, by omega⟩, rowR S _ (by show 8 ≤ 100; decide) (lnN (.comp (nth b.comps k0))) (by show 7 ≤ 1000; decide) (hsc k0 hlt) 7 _ ⟨rfl, fun i hi => ?_⟩, by omega, by omega, (rng_iff _).2 (by omega), hlt, rfl, SEq_push1 (x := lnT (.comp (nth b.comps k0))) ?_ rfl, trivial⟩
    · have : i = 0 ∨ i = 1 ∨ i = 2 ∨ i = 3 ∨ i = 4 ∨ i = 5 ∨ i = 6 := by omega
      rcases this with rfl | rfl | rfl | rfl | rfl | rfl | rfl <;> exact .inl rfl
    · unfold rowsTo; rw [lnsTo_c hlt, List.map_append]; rfl
  obtain rfl : k0 = b.comps.length := by
    have : ¬ k0 < b.comps.length := by simpa using hlt
    omega
  refine ⟨⟨SEq_whole rfl, trivial⟩, fun k1 hk1 _ => ⟨fun hlt => ?_, fun hlt => ?_⟩⟩
  · have hlt : k1 < b.dues.length := by simpa using hlt
    have := hrl b.comps.length k1 0
    refine ⟨⟨by omega, by omega⟩, rowR S _ (by show 5 ≤ 100; decide) [nth b.dues k1] (by show 1 ≤ 1000; decide) (hsd k1 hlt) 1 _ (seq1 rfl), by omega, by omega, (rng_iff _).2 (by omega), hlt, rfl, SEq_push1 (x := lnT (.due (nth b.dues k1))) ?_ rfl, trivial⟩
    unfold rowsTo; rw [lnsTo_d hlt, List.map_append]; rfl
  obtain rfl : k1 = b.dues.length := by
    have : ¬ k1 < b.dues.length := by simpa using hlt
    omega
  refine ⟨⟨SEq_whole rfl, trivial⟩, fun k2 hk2 _ => ⟨fun hlt => ?_, fun hlt => ?_⟩⟩
  · have hlt : k2 < b.sheets.length := by simpa using hlt
    have := hrl b.comps.length b.dues.length k2
    refine ⟨⟨by omega, by omega⟩, rowR S _ (by show 5 ≤ 100; decide) [nth b.sheets k2] (by show 1 ≤ 1000; decide) (hss k2 hlt) 1 _ (seq1 rfl), by omega, by omega, (rng_iff _).2 (by omega), hlt, rfl, SEq_push1 (x := lnT (.sheet (nth b.sheets k2))) ?_ rfl, trivial⟩
    unfold rowsTo; rw [lnsTo_s hlt, List.map_append]; rfl
  obtain rfl : k2 = b.sheets.length := by
    have : ¬ k2 < b.sheets.length := by simpa using hlt
    omega
  rw [hall]
  refine ⟨sealed111 S b.rows (by rw [rows_len]; exact lns_len hb) (fun i hi => ?_), rfl⟩
  rw [rows_len] at hi
  rw [rows_nth hi]
  exact ln_len (hn _ (nth_mem hi))
end Go.Vc.Gd
namespace Go.Vc.Gd
open Go Go.Proofs Go.Vc
variable {Gl : World → Prop}
def exA : Book := ⟨[⟨0, ⟨1, 2⟩, ⟨2, 3⟩, ⟨1, 1⟩⟩, ⟨1, ⟨0, 1⟩, ⟨1, 2⟩, ⟨1, 2⟩⟩, ⟨0, ⟨0, 0⟩, ⟨3, 3⟩, ⟨1, 1⟩⟩], [12, 9], [0, 1]⟩
theorem task75 (S : Set Tryz.prog Y Gl) (x y z : Int) : Computes Tryz.prog Gl 75 [I x, I y, I z] (.ret (.d (.agg [Ci x, Ci y, Ci z]))) := by
  refine fn_is S (.nil) Tryz.func75 (by kernel_rfl) (x=x∧y=y∧z=z) (by kernel_rfl) ?_
  simp only [stdS, imp_self, implies_true, and_true]
theorem span39 (S : Set Tryz.prog Y Gl) (x y : Int) : Computes Tryz.prog Gl 39 [I x, I y] (.ret (.d (.agg [Ci x, Ci y]))) := by
  refine fn_is S (.nil) Tryz.func39 (by kernel_rfl) (x=x∧y=y) (by kernel_rfl) ?_
  simp only [stdS, imp_self, implies_true, and_true]
theorem short26 (S : Set Tryz.prog Y Gl) (b : Book) : Computes Tryz.prog Gl 26 [tBook b] (.ret (B (decide (b.comps.length ≤ 6) && (decide (b.dues.length ≤ 4) && decide (b.sheets.length ≤ 5))))) := by
  refine fn_is S (.nil) Tryz.func26 (by kernel_rfl) (b.1.length≤maxLen→(eqB (decide ((↑b.1.length:Int)≤(6:Int))) true=true→eqB (decide ((↑b.1.length:Int)≤(6:Int))) true=true)∧(eqB (decide ((↑b.1.length:Int)≤(6:Int))) true=true→eqB (decide ((↑b.1.length:Int)≤(6:Int))) true=true)∧((eqB (decide ((↑b.1.length:Int)≤(6:Int))) true=true→b.2.length≤maxLen)→(eqB (decide ((↑b.1.length:Int)≤(6:Int))) true=true→eqB (decide ((↑b.1.length:Int)≤(6:Int))) true=true)∧(decide ((↑b.1.length:Int)≤(6:Int))=true→eqB (decide ((↑b.1.length:Int)≤(6:Int))) true=true)∧(eqB (bif decide ((↑b.1.length:Int)≤(6:Int)) then decide ((↑b.2.length:Int)≤(4:Int)) else false) true=true→eqB (bif decide ((↑b.1.length:Int)≤(6:Int)) then decide ((↑b.2.length:Int)≤(4:Int)) else false) true=true)∧(eqB (bif decide ((↑b.1.length:Int)≤(6:Int)) then decide ((↑b.2.length:Int)≤(4:Int)) else false) true=true→eqB (bif decide ((↑b.1.length:Int)≤(6:Int)) then decide ((↑b.2.length:Int)≤(4:Int)) else false) true=true)∧((eqB (bif decide ((↑b.1.length:Int)≤(6:Int)) then decide ((↑b.2.length:Int)≤(4:Int)) else false) true=true→b.3.length≤maxLen)→(eqB (bif decide ((↑b.1.length:Int)≤(6:Int)) then decide ((↑b.2.length:Int)≤(4:Int)) else false) true=true→eqB (bif decide ((↑b.1.length:Int)≤(6:Int)) then decide ((↑b.2.length:Int)≤(4:Int)) else false) true=true)∧((bif decide ((↑b.1.length:Int)≤(6:Int)) then decide ((↑b.2.length:Int)≤(4:Int)) else false)=true→eqB (bif decide ((↑b.1.length:Int)≤(6:Int)) then decide ((↑b.2.length:Int)≤(4:Int)) else false) true=true)∧(bif bif decide ((↑b.1.length:Int)≤(6:Int)) then decide ((↑b.2.length:Int)≤(4:Int)) else false then decide ((↑b.3.length:Int)≤(5:Int)) else false)=(decide (b.1.length≤(6:Nat))&&(decide (b.2.length≤(4:Nat))&&decide (b.3.length≤(5:Nat))))))) (by kernel_rfl) ?_
  simp only [stdS, imp_self, implies_true, and_true]
  have e : ∀ n m : Nat, decide ((n : Int) ≤ (m : Int)) = decide (n ≤ m) := fun n m => by rw [decide_eq_decide]; omega
  refine fun _ _ _ => ?_
  have e6 := e b.comps.length 6
  have e4 := e b.dues.length 4
  have e5 := e b.sheets.length 5
  rw [← e6, ← e4, ← e5]
  rfl
end Go.Vc.Gd
namespace Go.Vc.Gd
open Go Go.Proofs Go.Vc
variable {Gl : World → Prop}
theorem a74 (S : Set Tryz.prog Y Gl)  : Computes Tryz.prog Gl 74 [] (.ret (tBook exA)) := by
  refine fn_is S (.r (.ret (T.d (D.agg [Ci 1,Ci 2]))) (.r (.ret (T.d (D.agg [Ci 2,Ci 3]))) (.r (.ret (T.d (D.agg [Ci 1,Ci 1]))) (.r (.ret (T.d (D.agg [Ci 0,Ci 1]))) (.r (.ret (T.d (D.agg [Ci 1,Ci 2]))) (.r (.ret (T.d (D.agg [Ci 1,Ci 2]))) (.r (.ret (T.d (D.agg [Ci 3,Ci 3]))) (.r (.ret (T.d (D.agg [Ci 1,Ci 1]))) .nil)))))))) Tryz.func74 (by kernel_rfl) (Computes Tryz.prog Gl 39 [I 1,I 2] (.ret (T.d (D.agg [Ci 1,Ci 2])))∧Computes Tryz.prog Gl 39 [I 2,I 3] (.ret (T.d (D.agg [Ci 2,Ci 3])))∧Computes Tryz.prog Gl 39 [I 1,I 1] (.ret (T.d (D.agg [Ci 1,Ci 1])))∧Computes Tryz.prog Gl 39 [I 0,I 1] (.ret (T.d (D.agg [Ci 0,Ci 1])))∧Computes Tryz.prog Gl 39 [I 1,I 2] (.ret (T.d (D.agg [Ci 1,Ci 2])))∧Computes Tryz.prog Gl 39 [I 1,I 2] (.ret (T.d (D.agg [Ci 1,Ci 2])))∧Computes Tryz.prog Gl 39 [I 3,I 3] (.ret (T.d (D.agg [Ci 3,Ci 3])))∧Computes Tryz.prog Gl 39 [I 1,I 1] (.ret (T.d (D.agg [Ci 1,Ci 1])))∧(SEq (3:Nat) (fun i=>List.getD [List.map C.dem (List.map C.dem [C.v (Value.int IntKind.i64 (0:Int)),C.v (Value.int IntKind.i64 (1:Int)),C.v (Value.int IntKind.i64 (2:Int)),C.v (Value.int IntKind.i64 (2:Int)),C.v (Value.int IntKind.i64 (3:Int)),C.v (Value.int IntKind.i64 (1:Int)),C.v (Value.int IntKind.i64 (1:Int))]),List.map C.dem (List.map C.dem [C.v (Value.int IntKind.i64 (1:Int)),C.v (Value.int IntKind.i64 (0:Int)),C.v (Value.int IntKind.i64 (1:Int)),C.v (Value.int IntKind.i64 (1:Int)),C.v (Value.int IntKind.i64 (2:Int)),C.v (Value.int IntKind.i64 (1:Int)),C.v (Value.int IntKind.i64 (2:Int))]),List.map C.dem (List.map C.dem [C.v (Value.int IntKind.i64 (0:Int)),C.v (Value.int IntKind.i64 (0:Int)),C.v (Value.int IntKind.i64 (0:Int)),C.v (Value.int IntKind.i64 (3:Int)),C.v (Value.int IntKind.i64 (3:Int)),C.v (Value.int IntKind.i64 (1:Int)),C.v (Value.int IntKind.i64 (1:Int))])] i []) (List.length [Comp.mk (0:Int) (Span.mk (1:Int) (2:Int)) (Span.mk (2:Int) (3:Int)) (Span.mk (1:Int) (1:Int)),Comp.mk (1:Int) (Span.mk (0:Int) (1:Int)) (Span.mk (1:Int) (2:Int)) (Span.mk (1:Int) (2:Int)),Comp.mk (0:Int) (Span.mk (0:Int) (0:Int)) (Span.mk (3:Int) (3:Int)) (Span.mk (1:Int) (1:Int))]) fun i=>eComp (nth [Comp.mk (0:Int) (Span.mk (1:Int) (2:Int)) (Span.mk (2:Int) (3:Int)) (Span.mk (1:Int) (1:Int)),Comp.mk (1:Int) (Span.mk (0:Int) (1:Int)) (Span.mk (1:Int) (2:Int)) (Span.mk (1:Int) (2:Int)),Comp.mk (0:Int) (Span.mk (0:Int) (0:Int)) (Span.mk (3:Int) (3:Int)) (Span.mk (1:Int) (1:Int))] i))∧(SEq (2:Nat) (fun i=>List.getD [List.map C.dem [C.v (Value.int IntKind.i64 (12:Int))],List.map C.dem [C.v (Value.int IntKind.i64 (9:Int))]] i []) (List.length [(12:Int),(9:Int)]) fun i=>eI (nth [(12:Int),(9:Int)] i))∧SEq (2:Nat) (fun i=>List.getD [List.map C.dem [C.v (Value.int IntKind.i64 (0:Int))],List.map C.dem [C.v (Value.int IntKind.i64 (1:Int))]] i []) (List.length [(0:Int),(1:Int)]) fun i=>eI (nth [(0:Int),(1:Int)] i)) (by kernel_rfl) ?_
  have three : ∀ i, i < 3 → i = 0 ∨ i = 1 ∨ i = 2 := fun i h => by omega
  have two : ∀ i, i < 2 → i = 0 ∨ i = 1 := fun i h => by omega
  refine ⟨span39 S _ _, span39 S _ _, span39 S _ _, span39 S _ _, span39 S _ _, span39 S _ _, span39 S _ _, span39 S _ _, ⟨rfl, fun i hi => ?_⟩, ⟨rfl, fun i hi => ?_⟩, ⟨rfl, fun i hi => ?_⟩⟩
  · rcases three i hi with rfl | rfl | rfl <;> exact .inl rfl
  · rcases two i hi with rfl | rfl <;> exact .inl rfl
  · rcases two i hi with rfl | rfl <;> exact .inl rfl
end Go.Vc.Gd
namespace Go.Vc.Gd
open Go Go.Proofs Go.Vc
variable {Gl : World → Prop}
def exP : List Task := [⟨0, 1, 2⟩, ⟨1, 2, 0⟩]
def exR : List Task := [⟨1, 2, 0⟩, ⟨0, 1, 2⟩]
theorem p76 (S : Set Tryz.prog Y Gl)  : Computes Tryz.prog Gl 76 [] (.ret (L eTask exP)) := by
  refine fn_is S (.r (.ret (T.d (D.agg [Ci 0,Ci 1,Ci 2]))) (.r (.ret (T.d (D.agg [Ci 1,Ci 2,Ci 0]))) .nil)) Tryz.func76 (by kernel_rfl) (Computes Tryz.prog Gl 75 [I 0,I 1,I 2] (.ret (T.d (D.agg [Ci 0,Ci 1,Ci 2])))∧Computes Tryz.prog Gl 75 [I 1,I 2,I 0] (.ret (T.d (D.agg [Ci 1,Ci 2,Ci 0])))∧SEq (2:Nat) (fun i=>List.getD [List.map C.dem (List.map C.dem [C.v (Value.int IntKind.i64 (0:Int)),C.v (Value.int IntKind.i64 (1:Int)),C.v (Value.int IntKind.i64 (2:Int))]),List.map C.dem (List.map C.dem [C.v (Value.int IntKind.i64 (1:Int)),C.v (Value.int IntKind.i64 (2:Int)),C.v (Value.int IntKind.i64 (0:Int))])] i []) exP.length fun i=>eTask (nth exP i)) (by kernel_rfl) ?_
  have two : ∀ i, i < 2 → i = 0 ∨ i = 1 := fun i h => by omega
  refine ⟨task75 S _ _ _, task75 S _ _ _, ⟨rfl, fun i hi => ?_⟩⟩
  rcases two i hi with rfl | rfl <;> exact .inl rfl
theorem r77 (S : Set Tryz.prog Y Gl)  : Computes Tryz.prog Gl 77 [] (.ret (L eTask exR)) := by
  refine fn_is S (.r (.ret (T.d (D.agg [Ci 1,Ci 2,Ci 0]))) (.r (.ret (T.d (D.agg [Ci 0,Ci 1,Ci 2]))) .nil)) Tryz.func77 (by kernel_rfl) (Computes Tryz.prog Gl 75 [I 1,I 2,I 0] (.ret (T.d (D.agg [Ci 1,Ci 2,Ci 0])))∧Computes Tryz.prog Gl 75 [I 0,I 1,I 2] (.ret (T.d (D.agg [Ci 0,Ci 1,Ci 2])))∧SEq (2:Nat) (fun i=>List.getD [List.map C.dem (List.map C.dem [C.v (Value.int IntKind.i64 (1:Int)),C.v (Value.int IntKind.i64 (2:Int)),C.v (Value.int IntKind.i64 (0:Int))]),List.map C.dem (List.map C.dem [C.v (Value.int IntKind.i64 (0:Int)),C.v (Value.int IntKind.i64 (1:Int)),C.v (Value.int IntKind.i64 (2:Int))])] i []) exR.length fun i=>eTask (nth exR i)) (by kernel_rfl) ?_
  have two : ∀ i, i < 2 → i = 0 ∨ i = 1 := fun i h => by omega
  refine ⟨task75 S _ _ _, task75 S _ _ _, ⟨rfl, fun i hi => ?_⟩⟩
  rcases two i hi with rfl | rfl <;> exact .inl rfl
theorem right21 (S : Set Tryz.prog Y Gl) (b : Book) : Computes Tryz.prog Gl 21 [tBook b] (.ret (B (bif decide (b.comps.length ≤ 6) && (decide (b.dues.length ≤ 4) && decide (b.sheets.length ≤ 5)) then b.ok else false))) := by
  refine fn_is S (.r (.ret (B (decide (List.length (Book.comps b)≤(6:Nat))&&(decide (List.length (Book.dues b)≤(4:Nat))&&decide (List.length (Book.sheets b)≤(5:Nat)))))) (.r (.ret (B (Book.ok b))) .nil)) Tryz.func21 (by kernel_rfl) (Computes Tryz.prog Gl 26 [tBook b] (.ret (B (decide (List.length (Book.comps b)≤(6:Nat))&&(decide (List.length (Book.dues b)≤(4:Nat))&&decide (List.length (Book.sheets b)≤(5:Nat))))))∧(eqB (decide (b.1.length≤(6:Nat))&&(decide (b.2.length≤(4:Nat))&&decide (b.3.length≤(5:Nat)))) true=true→eqB (decide (b.1.length≤(6:Nat))&&(decide (b.2.length≤(4:Nat))&&decide (b.3.length≤(5:Nat)))) true=true)∧(eqB (decide (b.1.length≤(6:Nat))&&(decide (b.2.length≤(4:Nat))&&decide (b.3.length≤(5:Nat)))) true=true→Computes Tryz.prog Gl 52 [tBook b] (.ret (B (Book.ok b))))∧((decide (b.1.length≤(6:Nat))&&(decide (b.2.length≤(4:Nat))&&decide (b.3.length≤(5:Nat))))=true→eqB (decide (b.1.length≤(6:Nat))&&(decide (b.2.length≤(4:Nat))&&decide (b.3.length≤(5:Nat)))) true=true)∧(bif decide (b.1.length≤(6:Nat))&&(decide (b.2.length≤(4:Nat))&&decide (b.3.length≤(5:Nat))) then Book.ok b else false)=bif decide (b.1.length≤(6:Nat))&&(decide (b.2.length≤(4:Nat))&&decide (b.3.length≤(5:Nat))) then Book.ok b else false) (by kernel_rfl) ?_
  exact ⟨short26 S b, fun h => h, fun _ => book52 S b, fun h => by rw [h]; rfl, rfl⟩
end Go.Vc.Gd
namespace Go.Vc.Gd
open Go Go.Proofs Go.Vc
variable {Gl : World → Prop}
end Go.Vc.Gd
namespace Go.Vc.Gd
open Go Go.Proofs Go.Vc
variable {Gl : World → Prop}
def Book.right (b : Book) : Bool := bif decide (b.comps.length ≤ 6) && (decide (b.dues.length ≤ 4) && decide (b.sheets.length ≤ 5)) then b.ok else false
theorem right_eq (b : Book) : b.right = b.ok := by
  unfold Book.right
  cases h : b.ok with
  | false => cases decide (b.comps.length ≤ 6) && (decide (b.dues.length ≤ 4) && decide (b.sheets.length ≤ 5)) <;> rfl
  | true =>
    obtain ⟨o1, o2, o3, _⟩ := ok_spec h
    have h1 : decide (b.comps.length ≤ 6) = true := by simp; omega
    have h2 : decide (b.dues.length ≤ 4) = true := by simp; omega
    have h3 : decide (b.sheets.length ≤ 5) = true := by simp; omega
    rw [h1, h2, h3]; rfl
theorem rightC (S : Set Tryz.prog Y Gl) (b : Book) : Computes Tryz.prog Gl 21 [tBook b] (.ret (B b.ok)) := by
  have := right21 S b
  have h : (bif decide (b.comps.length ≤ 6) && (decide (b.dues.length ≤ 4) && decide (b.sheets.length ≤ 5)) then b.ok else false) = b.ok := right_eq b
  rw [h] at this
  exact this
theorem good36 (S : Set Tryz.prog Y Gl) (b : Book) (plan : List Task) : Computes Tryz.prog Gl 36 [tBook b, L eTask plan] (.ret (B (bif (bif b.ok then decide (plan.length ≤ 5) else false) then b.good plan else false))) := by
  refine fn_is S (.r (.ret (B (Book.ok b))) (.r (.ret (B (Book.good b plan))) .nil)) Tryz.func36 (by kernel_rfl) (Computes Tryz.prog Gl 21 [tBook b] (.ret (B (Book.ok b)))∧(eqB (Book.ok b) true=true→eqB (Book.ok b) true=true)∧((eqB (Book.ok b) true=true→plan.length≤maxLen)→(eqB (Book.ok b) true=true→eqB (Book.ok b) true=true)∧(Book.ok b=true→eqB (Book.ok b) true=true)∧(eqB (bif Book.ok b then decide ((↑plan.length:Int)≤(5:Int)) else false) true=true→eqB (bif Book.ok b then decide ((↑plan.length:Int)≤(5:Int)) else false) true=true)∧(eqB (bif Book.ok b then decide ((↑plan.length:Int)≤(5:Int)) else false) true=true→eqB (bif Book.ok b then decide ((↑plan.length:Int)≤(5:Int)) else false) true=true)∧(eqB (bif Book.ok b then decide ((↑plan.length:Int)≤(5:Int)) else false) true=true→Computes Tryz.prog Gl 59 [tBook b,L eTask plan] (.ret (B (Book.good b plan))))∧((bif Book.ok b then decide ((↑plan.length:Int)≤(5:Int)) else false)=true→eqB (bif Book.ok b then decide ((↑plan.length:Int)≤(5:Int)) else false) true=true)∧(bif bif Book.ok b then decide ((↑plan.length:Int)≤(5:Int)) else false then Book.good b plan else false)=bif bif Book.ok b then decide (plan.length≤(5:Nat)) else false then Book.good b plan else false)) (by kernel_rfl) ?_
  have e : decide ((plan.length : Int) ≤ 5) = decide (plan.length ≤ 5) := by rw [decide_eq_decide]; omega
  rw [e]
  exact ⟨rightC S b, fun h => h, fun _ => ⟨fun h => h, fun h => by rw [h]; rfl, fun h => h, fun h => h, fun _ => good59 S b plan, fun h => by rw [h]; rfl, rfl⟩⟩
end Go.Vc.Gd
namespace Go.Vc.Gd
open Go Go.Proofs Go.Vc
variable {Gl : World → Prop}
end Go.Vc.Gd
namespace Go.Vc.Gd
open Go Go.Proofs Go.Vc
theorem extTo_eq (l : List Task) : ∀ (out : List (List Task)) (k : Nat), k ≤ out.length → extTo out l k = (out.take k).flatMap fun p => l.map fun t => p ++ [t]
  | out, 0, _ => by simp [extTo]
  | out, k + 1, h => by
    rw [extTo, extTo_eq l out k (by omega), take_succ (by omega), List.flatMap_append]
    simp
theorem plansTo_succ (l : List Task) (i : Nat) : plansTo l (i + 1) = (plansTo l i).flatMap fun p => l.map fun t => p ++ [t] := by
  show extTo (plansTo l i) l (plansTo l i).length = _
  rw [extTo_eq l _ _ (Nat.le_refl _), List.take_length]
theorem plansFrom_snoc (all : List Task) : ∀ (d : Nat) (now : List Task), plansFrom all (d + 1) now = (plansFrom all d now).flatMap fun p => all.map fun t => p ++ [t]
  | 0, now => by
    simp only [plansFrom, List.flatMap_cons, List.flatMap_nil, List.append_nil]
    induction all with
    | nil => rfl
    | cons x r ih => simp [ih]
  | d + 1, now => by
    rw [plansFrom]
    conv => rhs; rw [plansFrom]
    rw [List.flatMap_assoc]
    congr 1
    funext x
    exact plansFrom_snoc all d (now ++ [x])
theorem plans_eq (l : List Task) : ∀ i, plansFrom l i [] = plansTo l i
  | 0 => rfl
  | i + 1 => by rw [plansFrom_snoc, plans_eq l i, plansTo_succ]
theorem allPlans_eq (b : Book) : allPlans b = b.plans := plans_eq _ _
end Go.Vc.Gd
namespace Go.Vc.Gd
open Go Go.Proofs Go.Vc
theorem span_le (b : Book) (plan : List Task) (n : Nat) {due : Int} (hd : 0 ≤ due) : ∀ k, (spanTo b (backs b plan) n k).high ≤ due ↔ ∀ i, i < k → nth b.sheets i = (n : Int) → (nth (backs b plan) i).high ≤ due
  | 0 => ⟨fun _ i h => absurd h (Nat.not_lt_zero i), fun _ => hd⟩
  | k + 1 => by
    have ih := span_le b plan n hd k
    unfold spanTo
    cases hb : nth b.sheets k == (n : Int) with
    | false =>
      have hne := beq_eq_false_iff_ne.1 hb
      simp only [cond_false]
      rw [ih]
      refine ⟨fun h i hi he => ?_, fun h i hi => h i (by omega)⟩
      rcases Nat.lt_or_ge i k with hh | hh
      · exact h i hh he
      · have : i = k := by omega
        subst this; exact absurd he hne
    | true =>
      have heq := beq_iff_eq.1 hb
      simp only [cond_true]
      rw [Int.max_le, ih]
      refine ⟨fun h i hi he => ?_, fun h => ⟨fun i hi => h i (by omega), h k (by omega) heq⟩⟩
      rcases Nat.lt_or_ge i k with hh | hh
      · exact h.1 i hh he
      · have : i = k := by omega
        subst this; exact h.2
theorem row_due {b : Book} {plan : List Task} (hb : b.ok = true) (hg : b.good plan = true) {n : Nat} (hn : n < b.dues.length) : rowFine b plan n = dueFine ⟨b, plan⟩ n := by
  obtain ⟨_, _, _, _, o5, _⟩ := ok_spec hb
  have hl := (good_spec hg).1
  have hd := (o5 n hn).1
  have ht := tab_span b plan n plan.length (Nat.le_refl _)
  have ht := ht.2
  have hs := span_le b plan n hd plan.length
  have h1 : dueFine ⟨b, plan⟩ n = true ↔ (spanTo b (backs b plan) n plan.length).high ≤ nth b.dues n := by
    unfold dueFine daysOf
    dsimp only
    rw [← hl, ht]
    simp
  have h2 : rowFine b plan n = true ↔ (spanTo b (backs b plan) n plan.length).high ≤ nth b.dues n := by
    unfold rowFine wordAt wordOf lateAt
    rw [backs_len]
    simp only [Bool.or_eq_true, beq_iff_eq, List.all_eq_true, List.mem_range, Bool.not_eq_true', Bool.and_eq_false_iff, beq_eq_false_iff_ne, decide_eq_false_iff_not, Int.not_lt]
    constructor
    · rintro (h | h)
      · cases hc : decide ((spanTo b (backs b plan) n plan.length).high ≤ nth b.dues n) with
        | true => exact of_decide_eq_true hc
        | false =>
          rw [hc, cond_false] at h
          cases hc2 : decide (nth b.dues n < (spanTo b (backs b plan) n plan.length).low) <;> rw [hc2] at h <;> simp at h
      · exact hs.2 fun i hi he => (h i hi).resolve_left fun hne => hne he
    · intro h
      left
      rw [decide_eq_true h]
      rfl
  rw [Bool.eq_iff_iff, h1, h2]
theorem surely_eq {b : Book} {plan : List Task} (hb : b.ok = true) (hg : b.good plan = true) : Work.surely ⟨b, plan⟩ = !isProof b plan := by
  unfold Work.surely isProof
  rw [Bool.not_not, Bool.eq_iff_iff, List.all_eq_true, List.all_eq_true]
  simp only [List.mem_range]
  exact ⟨fun h n hn => by rw [row_due hb hg hn]; exact h n hn, fun h n hn => by rw [← row_due hb hg hn]; exact h n hn⟩
end Go.Vc.Gd
namespace Go.Vc.Gd
open Go Go.Proofs Go.Vc
theorem outTo_eq (rows : List (List UInt8)) : ∀ k, k ≤ rows.length → outTo rows k = (rows.take k).flatMap fun r => r ++ [10]
  | 0, _ => by simp [outTo]
  | k + 1, h => by
    rw [outTo, outTo_eq rows k (by omega), take_succ (by omega), List.flatMap_append]
    simp
theorem outTo_all (rows : List (List UInt8)) : outTo rows rows.length = rows.flatMap fun r => r ++ [10] := by
  rw [outTo_eq rows _ (Nat.le_refl _), List.take_length]
theorem splitL_rows (c : UInt8) (e : List UInt8) : ∀ (rows : List (List UInt8)), (∀ r ∈ rows, c ∉ r) → splitL c ((rows.flatMap fun r => r ++ [c]) ++ e) = rows ++ splitL c e
  | [], _ => rfl
  | r :: rows, h => by
    have ih := splitL_rows c e rows fun x hx => h x (List.mem_cons_of_mem _ hx)
    rw [List.flatMap_cons, List.append_assoc, List.append_assoc, List.singleton_append, splitL_app c _ _ (h r List.mem_cons_self), ih]
    rfl
theorem dec_small {n : Int} (h : sm n) : dec n = decS n.toNat := by
  obtain ⟨m, rfl⟩ := Int.eq_ofNat_of_zero_le h.1
  have hm : m < 100 := by have := h.2; omega
  exact dec_eq hm
theorem decS_bytes : ∀ n : Nat, n < 100 → (decS n).all isDig = true := by decide
theorem dec_bytes {n : Int} (h : sm n) {c : UInt8} (hc : c ∈ dec n) : isDig c = true := by
  rw [dec_small h] at hc
  exact List.all_eq_true.1 (decS_bytes n.toNat (by have := h.2; have := h.1; omega)) c hc
theorem dec_none {n : Int} (h : sm n) {c : UInt8} (hc : isDig c = false) : c ∉ dec n := fun hh => by
  rw [dec_bytes h hh] at hc; cases hc
theorem splitL_nums (w : List UInt8) (hw : (32 : UInt8) ∉ w) : ∀ (l : List Int), (∀ n ∈ l, sm n) → splitL 32 (w ++ nums l) = w :: l.map dec
  | [], _ => by rw [show nums [] = [] from rfl, List.append_nil, splitL_none 32 w hw]; rfl
  | n :: l, h => by
    have ih := splitL_nums (dec n) (dec_none (h n List.mem_cons_self) rfl) l fun x hx => h x (List.mem_cons_of_mem _ hx)
    have e : nums (n :: l) = 32 :: (dec n ++ nums l) := by unfold nums; simp
    rw [e, splitL_app 32 w _ hw, ih]
    rfl
theorem lnW_no : ∀ l : Ln, (32 : UInt8) ∉ lnW l ∧ (10 : UInt8) ∉ lnW l
  | .head => by show (32 : UInt8) ∉ lGive ∧ (10 : UInt8) ∉ lGive; decide
  | .comp _ => by show (32 : UInt8) ∉ lComputer ∧ (10 : UInt8) ∉ lComputer; decide
  | .due _ => by show (32 : UInt8) ∉ lTable ∧ (10 : UInt8) ∉ lTable; decide
  | .sheet _ => by show (32 : UInt8) ∉ lSheet ∧ (10 : UInt8) ∉ lSheet; decide
theorem nums_no10 : ∀ {l : List Int}, (∀ n ∈ l, sm n) → (10 : UInt8) ∉ nums l
  | [], _ => by simp [nums]
  | n :: l, h => by
    have ih := nums_no10 (l := l) fun x hx => h x (List.mem_cons_of_mem _ hx)
    have e : nums (n :: l) = 32 :: (dec n ++ nums l) := by unfold nums; simp
    have h1 := dec_none (h n List.mem_cons_self) (c := 10) rfl
    rw [e]
    simp only [List.mem_cons, List.mem_append, not_or]
    exact ⟨by decide, h1, ih⟩
theorem lnT_no10 {l : Ln} (h : ∀ n ∈ lnN l, sm n) : (10 : UInt8) ∉ lnT l := by
  unfold lnT
  simp only [List.mem_append, not_or]
  exact ⟨(lnW_no l).2, nums_no10 h⟩
theorem lnT_split {l : Ln} (h : ∀ n ∈ lnN l, sm n) : splitL 32 (lnT l) = lnW l :: (lnN l).map dec := splitL_nums _ (lnW_no l).1 _ h
theorem lnT_tl {l : Ln} (h : ∀ n ∈ lnN l, sm n) : tl (lnT l) = (lnN l).map dec := by unfold tl; rw [lnT_split h]; rfl
theorem lnT_hd {l : Ln} (h : ∀ n ∈ lnN l, sm n) : hd (lnT l) = lnW l := by unfold hd; rw [lnT_split h]; rfl
theorem numV_dec {n : Int} (h : sm n) : numV (dec n) = n := by unfold numV; rw [numOf_dec h]; rfl
theorem isNum_dec {n : Int} (h : sm n) : isNum (dec n) = true := by unfold isNum; rw [numOf_dec h]; rfl
theorem map_numV : ∀ {l : List Int}, (∀ n ∈ l, sm n) → (l.map dec).map numV = l
  | [], _ => rfl
  | n :: l, h => by
    rw [List.map_cons, List.map_cons, numV_dec (h n List.mem_cons_self), map_numV (l := l) fun x hx => h x (List.mem_cons_of_mem _ hx)]
theorem lnT_ns {l : Ln} (h : ∀ n ∈ lnN l, sm n) : ns (lnT l) = lnN l := by
  unfold ns nsTo
  rw [List.take_length, lnT_tl h, map_numV h]
def addLn (b : Book) : Ln → Book
  | .head => b
  | .comp c => ⟨b.comps ++ [c], b.dues, b.sheets⟩
  | .due n => ⟨b.comps, b.dues ++ [n], b.sheets⟩
  | .sheet n => ⟨b.comps, b.dues, b.sheets ++ [n]⟩
def Ln.isHead : Ln → Bool
  | .head => true
  | _ => false
theorem rowOK_ln {l : Ln} (h : ∀ n ∈ lnN l, sm n) (hh : l.isHead = false) : rowOK (lnT l) = true := by
  unfold rowOK rowShape
  rw [lnT_ns h, lnT_hd h, lnT_tl h, Bool.and_eq_true]
  constructor
  · rw [List.all_eq_true]
    intro x hx
    obtain ⟨n, hn, rfl⟩ := List.mem_map.1 hx
    exact isNum_dec (h n hn)
  · cases l with
    | head => cases hh
    | comp c => rfl
    | due n => rfl
    | sheet n => rfl
theorem rowB_ln {b : Book} {l : Ln} (h : ∀ n ∈ lnN l, sm n) (hh : l.isHead = false) : rowB b (lnT l) = addLn b l := by
  unfold rowB
  rw [lnT_ns h, lnT_hd h]
  cases l with
  | head => cases hh
  | comp c => rfl
  | due n => rfl
  | sheet n => rfl
theorem bookTo_ln (ls : List Ln) (h : ∀ l ∈ ls, (∀ n ∈ lnN l, sm n) ∧ l.isHead = false) : ∀ k, k ≤ ls.length → bookTo (ls.map lnT) k = (ls.take k).foldl addLn ⟨[], [], []⟩
  | 0, _ => by simp [bookTo]
  | k + 1, hk => by
    have hm := h _ (nth_mem (l := ls) (k := k) (by omega))
    rw [bookTo, bookTo_ln ls h k (by omega), nth_map (by omega), rowB_ln hm.1 hm.2, take_succ (by omega), List.foldl_append]
    rfl
theorem fold_comp : ∀ (l : List Comp) (b : Book), (l.map Ln.comp).foldl addLn b = ⟨b.comps ++ l, b.dues, b.sheets⟩
  | [], b => by simp
  | c :: l, b => by rw [List.map_cons, List.foldl_cons, fold_comp l]; simp [addLn]
theorem fold_due : ∀ (l : List Int) (b : Book), (l.map Ln.due).foldl addLn b = ⟨b.comps, b.dues ++ l, b.sheets⟩
  | [], b => by simp
  | c :: l, b => by rw [List.map_cons, List.foldl_cons, fold_due l]; simp [addLn]
theorem fold_sheet : ∀ (l : List Int) (b : Book), (l.map Ln.sheet).foldl addLn b = ⟨b.comps, b.dues, b.sheets ++ l⟩
  | [], b => by simp
  | c :: l, b => by rw [List.map_cons, List.foldl_cons, fold_sheet l]; simp [addLn]
theorem sumTo_nonneg (w : List UInt8) (i : Nat) : ∀ k, 0 ≤ sumTo w i k
  | 0 => Int.le_refl _
  | k + 1 => by
    have := sumTo_nonneg w i k
    unfold sumTo
    have h2 : (0 : Int) ≤ ((nth w k).toNat : Int) * ((k : Int) + 1) * ((i : Int) + 1) := by
      have : ((nth w k).toNat : Int) * ((k : Int) + 1) * ((i : Int) + 1) = (((nth w k).toNat * (k + 1) * (i + 1) : Nat) : Int) := by push_cast; rfl
      rw [this]; exact Int.natCast_nonneg _
    omega
theorem checkTo_nonneg (rows : List (List UInt8)) : ∀ i, 0 ≤ checkTo rows i
  | 0 => Int.le_refl _
  | i + 1 => by
    have h1 := checkTo_nonneg rows i
    have h2 := sumTo_nonneg (nth rows i) i (nth rows i).length
    unfold checkTo
    omega
theorem checkOf_range (rows : List (List UInt8)) : 0 ≤ checkOf rows ∧ checkOf rows < 251 := by
  have h := checkTo_nonneg rows rows.length
  unfold checkOf
  rw [Int.tmod_eq_emod_of_nonneg h]
  omega
theorem check_digits (rows : List (List UInt8)) : sm (Int.tdiv (checkOf rows) 100) ∧ sm (Int.tmod (Int.tdiv (checkOf rows) 10) 10) ∧ sm (Int.tmod (checkOf rows) 10) := by
  have h := checkOf_range rows
  have h2 : 0 ≤ checkOf rows / 10 := by omega
  unfold sm
  rw [Int.tdiv_eq_ediv_of_nonneg h.1, Int.tdiv_eq_ediv_of_nonneg h.1, Int.tmod_eq_emod_of_nonneg h2, Int.tmod_eq_emod_of_nonneg h.1]
  omega
def sealLn (rows : List (List UInt8)) : List UInt8 := lEnd ++ dec (Int.tdiv (checkOf rows) 100) ++ dec (Int.tmod (Int.tdiv (checkOf rows) 10) 10) ++ dec (Int.tmod (checkOf rows) 10)
theorem sealLn_no (rows : List (List UInt8)) : (10 : UInt8) ∉ sealLn rows := by
  obtain ⟨h1, h2, h3⟩ := check_digits rows
  unfold sealLn
  simp only [List.mem_append, not_or]
  exact ⟨⟨⟨by decide, dec_none h1 rfl⟩, dec_none h2 rfl⟩, dec_none h3 rfl⟩
theorem sealed_split (rows : List (List UInt8)) (h : ∀ r ∈ rows, (10 : UInt8) ∉ r) : splitL 10 (sealed rows) = rows ++ [sealLn rows, []] := by
  have e : sealed rows = (rows.flatMap fun r => r ++ [10]) ++ (sealLn rows ++ 10 :: []) := by
    unfold sealed sealLn
    rw [outTo_all]
    simp only [List.append_assoc]
  rw [e, splitL_rows 10 _ rows h, splitL_app 10 _ _ (sealLn_no rows)]
  rfl
theorem rows_no10 {b : Book} (hb : b.low) : ∀ r ∈ b.rows, (10 : UInt8) ∉ r := by
  intro r hr
  unfold Book.rows at hr
  obtain ⟨l, hl, rfl⟩ := List.mem_map.1 hr
  exact lnT_no10 (hb.n l hl)
def Book.body (b : Book) : List Ln := b.comps.map .comp ++ b.dues.map .due ++ b.sheets.map .sheet
theorem body_head {b : Book} : ∀ l ∈ b.body, l.isHead = false := by
  intro l hl
  unfold Book.body at hl
  simp only [List.mem_append, List.mem_map] at hl
  rcases hl with (⟨_, _, rfl⟩ | ⟨_, _, rfl⟩) | ⟨_, _, rfl⟩ <;> rfl
theorem body_fold (b : Book) : b.body.foldl addLn ⟨[], [], []⟩ = b := by
  unfold Book.body
  rw [List.foldl_append, List.foldl_append, fold_comp, fold_due, fold_sheet]
  simp
theorem text_split {b : Book} (hb : b.low) : splitL 10 b.text = b.rows ++ [sealLn b.rows, []] := sealed_split _ (rows_no10 hb)
theorem rows_cons (b : Book) : b.rows = lnT .head :: b.body.map lnT := rfl
theorem text_mid {b : Book} (hb : b.low) : mid b.text = b.body.map lnT := by
  unfold mid
  rw [text_split hb, rows_cons]
  simp
theorem parse_of_text {b : Book} (hb : b.low) : parse b.text = some b := by
  have hn : ∀ l ∈ b.body, (∀ n ∈ lnN l, sm n) ∧ l.isHead = false := fun l hl => ⟨hb.n l (List.mem_cons_of_mem _ hl), body_head l hl⟩
  have hbook : bookTo (b.body.map lnT) (b.body.map lnT).length = b := by
    rw [List.length_map, bookTo_ln _ hn _ (Nat.le_refl _), List.take_length, body_fold]
  have hall : (b.body.map lnT).all rowOK = true := by
    rw [List.all_eq_true]
    intro r hr
    obtain ⟨l, hl, rfl⟩ := List.mem_map.1 hr
    exact rowOK_ln (hn l hl).1 (hn l hl).2
  have h3 : 3 ≤ (splitL 10 b.text).length := by
    rw [text_split hb, rows_cons]; simp
  unfold parse
  rw [text_mid hb, hbook, hall, decide_eq_true h3, beq_self_eq_true]
  rfl
def numsS (l : List Int) : List UInt8 := l.flatMap fun n => 32 :: decS n.toNat
def Book.rowsS (b : Book) : List (List UInt8) := b.lns.map fun l => lnW l ++ numsS (lnN l)
def sealedS (rows : List (List UInt8)) : List UInt8 := outTo rows rows.length ++ lEnd ++ decS (Int.tdiv (checkOf rows) 100).toNat ++ decS (Int.tmod (Int.tdiv (checkOf rows) 10) 10).toNat ++ decS (Int.tmod (checkOf rows) 10).toNat ++ [10]
theorem nums_S : ∀ {l : List Int}, (∀ n ∈ l, sm n) → nums l = numsS l
  | [], _ => rfl
  | n :: l, h => by
    have ih := nums_S (l := l) fun x hx => h x (List.mem_cons_of_mem _ hx)
    unfold nums numsS at ih ⊢
    rw [List.flatMap_cons, List.flatMap_cons, ih, dec_small (h n List.mem_cons_self)]
theorem rows_S {b : Book} (hb : b.low) : b.rows = b.rowsS := by
  unfold Book.rows Book.rowsS
  refine List.map_congr_left fun l hl => ?_
  unfold lnT
  rw [nums_S (hb.n l hl)]
theorem text_S {b : Book} (hb : b.low) : b.text = sealedS b.rowsS := by
  obtain ⟨h1, h2, h3⟩ := check_digits b.rowsS
  unfold Book.text sealed sealedS
  rw [rows_S hb, dec_small h1, dec_small h2, dec_small h3]
def exT : Book := ⟨[⟨0, ⟨0, 0⟩, ⟨1, 1⟩, ⟨1, 1⟩⟩], [0], [0]⟩
def txT : List UInt8 := [103, 105, 118, 101, 10, 99, 111, 109, 112, 117, 116, 101, 114, 32, 48, 32, 48, 32, 48, 32, 49, 32, 49, 32, 49, 32, 49, 10, 116, 97, 98, 108, 101, 32, 48, 10, 115, 104, 101, 101, 116, 32, 48, 10, 101, 110, 100, 32, 48, 51, 49, 10]
theorem exT_ok : exT.ok = true := by kernel_rfl
theorem exT_low : exT.low := ok_low exT_ok
theorem exT_text : exT.text = txT := by rw [text_S exT_low]; kernel_rfl
theorem parse_txT : parse txT = some exT := by rw [← exT_text]; exact parse_of_text exT_low
end Go.Vc.Gd
namespace Go.Vc.Gd
open Go Go.Proofs Go.Vc
def exW : List Task := [⟨0, 1, 2⟩, ⟨0, 2, 1⟩]
def exTruth : Truth := ⟨[1, 0, 0], [3, 1, 3], [1, 1, 1]⟩
theorem exA_ok : exA.ok = true := by kernel_rfl
theorem exP_good : exA.good exP = true := by kernel_rfl
theorem exR_good : exA.good exR = true := by kernel_rfl
theorem exTruth_ok : exTruth.ok exA = true := by kernel_rfl
theorem exA_sheet0 : exA.isSheet 0 = true := by kernel_rfl
theorem exA_sheet1 : exA.isSheet 1 = true := by kernel_rfl
theorem exA_comp1 : exA.isComp 1 = true := by kernel_rfl
theorem exR_hand : hand (nth exR (Int.toNat 0)) 1 = true := by kernel_rfl
theorem ex_whyS : whyS exA exW = 1 := by kernel_rfl
theorem ex_whyF : whyF exA exW = 4 := by kernel_rfl
theorem ex_whyErr : whyErr exA exW = 0 := by kernel_rfl
theorem ex_days : days exP exTruth (-1) (-1) = [6, 6] := by kernel_rfl
theorem ex_backs : backs exA exP = [⟨5, 8⟩, ⟨6, 11⟩] := by kernel_rfl
theorem ex_tables : tables exA exP = [3, 2] := by kernel_rfl
theorem ex_proof1 : proof1 exA exP = 1 := by kernel_rfl
theorem ex_proof2 : proof2 exA exP = 1 := by kernel_rfl
theorem ex_proof3 : proof3 exA exP = 11 := by kernel_rfl
theorem ex_isProof : isProof exA exP = true := by kernel_rfl
theorem ex_idle : idleTo exP exA.comps.length = [] := by kernel_rfl
theorem ex_losts : losts exA exR 0 1 = [⟨6, 13⟩, ⟨5, 8⟩] := by kernel_rfl
theorem ex_plans : (allPlans exA).length = 4 := by kernel_rfl
theorem ex_first : firstPlan exA = exR := by kernel_rfl
theorem ex_noFirst : noFirst exA = false := by kernel_rfl
theorem ex_count : countTo exA (allPlans exA).length = 1 := by kernel_rfl
theorem ex_best : soonest exA = ⟨exR, 9⟩ := by kernel_rfl
theorem ex_hands : handsTo exA 1 (allPlans exA).length = [0, 1] := by kernel_rfl
theorem ex_plans1 : (allPlans (exA.withOne 1)).length = 64 := by kernel_rfl
theorem ex_best1 : (soonest (exA.withOne 1)).day = 8 := by kernel_rfl
theorem ex_who : sortedOnce (handsTo exA 1 (allPlans exA).length) = [0, 1] := by
  rw [ex_hands]
  unfold sortedOnce
  rw [List.mergeSort_of_pairwise (by decide)]
  rfl
end Go.Vc.Gd
namespace Go.Vc.Gd
open Go Go.Proofs Go.Vc
section
variable {α : Type} [Inhabited α]
theorem filter_take_succ (p : α → Bool) {l : List α} {k : Nat} (h : k < l.length) : (l.take (k + 1)).filter p = (l.take k).filter p ++ bif p (nth l k) then [nth l k] else [] := by
  rw [take_succ h, List.filter_append]
  cases hp : p (nth l k) <;> simp [hp]
theorem filter_congr' {p q : α → Bool} {l : List α} (h : ∀ i, i < l.length → p (nth l i) = q (nth l i)) : l.filter p = l.filter q := by
  refine List.filter_congr fun x hx => ?_
  obtain ⟨i, hi, rfl⟩ := List.getElem_of_mem hx
  have := h i hi
  rw [nth_eq hi] at this
  exact this
end
theorem sureP_eq {b : Book} (hb : b.ok = true) {k : Nat} (hk : k < (allPlans b).length) : sureP b (nth (allPlans b) k) = !isProof b (nth (allPlans b) k) := surely_eq hb (allPlans_good hk)
theorem allTo_eq (b : Book) (l : List (List Task)) : ∀ k, k ≤ l.length → allTo b l k = (l.take k).filter fun p => !isProof b p
  | 0, _ => by simp [allTo]
  | k + 1, h => by
    rw [allTo, allTo_eq b l k (by omega), filter_take_succ _ (by omega)]
    cases isProof b (nth l k) <;> simp
theorem all_eq (b : Book) : b.all = b.plans.filter fun p => !isProof b p := by
  unfold Book.all
  rw [allTo_eq b _ _ (Nat.le_refl _), List.take_length]
theorem all_sure {b : Book} (hb : b.ok = true) : b.all = (allPlans b).filter (sureP b) := by
  rw [all_eq, ← allPlans_eq]
  exact filter_congr' fun i hi => (sureP_eq hb hi).symm
theorem countTo_eq (b : Book) : ∀ k, k ≤ (allPlans b).length → countTo b k = ((((allPlans b).take k).filter (sureP b)).length : Int)
  | 0, _ => rfl
  | k + 1, h => by
    rw [countTo, countTo_eq b k (by omega), filter_take_succ _ (by omega)]
    cases sureP b (nth (allPlans b) k) <;> simp
theorem count_eq {b : Book} (hb : b.ok = true) : countTo b (allPlans b).length = (b.all.length : Int) := by
  rw [countTo_eq b _ (Nat.le_refl _), List.take_length, all_sure hb]
theorem isSheet_iff {b : Book} {s : Int} : b.isSheet s = true ↔ 0 ≤ s ∧ s < b.sheets.length := by
  unfold Book.isSheet
  rw [inR_iff]
  omega
end Go.Vc.Gd
namespace Go.Vc
theorem Computes.weak {P : Program} {Gl : World → Prop} {f : FuncId} {args : List T} {xs ys : List D} (h : Computes P Gl f args (.ret (.tup xs))) (hl : conjT (leDs xs ys)) : Computes P Gl f args (.ret (.tup ys)) :=
  ⟨h.1, fun vis w vs h1 h2 h3 => (h.2 vis w vs h1 h2 h3).mono fun _ _ ⟨hb, v, vis', he, e1, e2, us, hu, hr⟩ => ⟨hb, v, vis', he, e1, e2, us, hu, leDs_rel (conjT_iff hl) hr⟩⟩
end Go.Vc
namespace Go.Vc.Gd
open Go Go.Proofs Go.Vc
variable {Gl : World → Prop}
section
variable {α : Type} [Inhabited α]
end
theorem isWhy_good {b : Book} {plan : List Task} (h : (plan.length == b.sheets.length) = true) : b.good plan = !b.isWhy plan := by
  unfold Book.good
  rw [h, Bool.true_and]
theorem openErr_zero {b : Book} {plan : List Task} (h : openErr b plan = 0) : b.ok = true ∧ b.good plan = true := by
  unfold openErr at h
  cases h1 : b.ok <;> cases h2 : (plan.length == b.sheets.length) <;> cases h3 : b.isWhy plan <;> rw [h1, h2, h3] at h <;> first | exact absurd h (by decide) | exact ⟨rfl, by rw [isWhy_good h2, h3]; rfl⟩
theorem openErr_good {b : Book} {plan : List Task} (hb : b.ok = true) (hg : b.good plan = true) : openErr b plan = 0 := by
  unfold Book.good at hg
  rw [Bool.and_eq_true] at hg
  unfold openErr
  rw [hb, hg.1]
  have : b.isWhy plan = false := by simpa using hg.2
  rw [this]; rfl
theorem goodC (S : Set Tryz.prog Y Gl) (b : Book) (plan : List Task) : Computes Tryz.prog Gl 36 [tBook b, L eTask plan] (.ret (B (b.ok && b.good plan))) := by
  have h := good36 S b plan
  have e : (bif (bif b.ok then decide (plan.length ≤ 5) else false) then b.good plan else false) = (b.ok && b.good plan) := by
    cases h1 : b.ok with
    | false => rfl
    | true =>
      cases h2 : b.good plan with
      | false => cases decide (plan.length ≤ 5) <;> rfl
      | true =>
        have h3 := (good_spec h2).1
        obtain ⟨_, _, o3, _⟩ := ok_spec h1
        have : decide (plan.length ≤ 5) = true := by simp; omega
        rw [this]; rfl
  rw [e] at h
  exact h
def okP (b : Book) (plan : List Task) : Bool := openErr b plan == 0
theorem okP_iff {b : Book} {plan : List Task} : okP b plan = true ↔ b.ok = true ∧ b.good plan = true := by
  unfold okP
  rw [beq_iff_eq]
  exact ⟨openErr_zero, fun h => openErr_good h.1 h.2⟩
theorem okP_eq (b : Book) (plan : List Task) : okP b plan = (b.ok && b.good plan) := by
  rw [Bool.eq_iff_iff, okP_iff, Bool.and_eq_true]
end Go.Vc.Gd
namespace Go.Vc.Gd
open Go Go.Proofs Go.Vc
structure LeTr (t t' : Truth) : Prop where
  len : t.post.length = t'.post.length
  post : ∀ i, nth t.post i ≤ nth t'.post i
  sheet : ∀ i, nth t.sheet i ≤ nth t'.sheet i
  look : ∀ i, nth t.look i ≤ nth t'.look i
theorem LeTr.refl (t : Truth) : LeTr t t := ⟨rfl, fun _ => Int.le_refl _, fun _ => Int.le_refl _, fun _ => Int.le_refl _⟩
theorem counts_mono {t : Task} {i : Nat} {s c : Int} {l l' : Bool} (h : l = true → l' = true) (hc : counts t i s c l = true) : counts t i s c l' = true := by
  unfold counts at hc ⊢
  rw [Bool.and_eq_true, Bool.or_eq_true] at hc ⊢
  exact ⟨hc.1, hc.2.imp id h⟩
theorem manyTo_mono {plan : List Task} {s c : Int} {l l' : Bool} (h : l = true → l' = true) : ∀ k, manyTo plan s c l k ≤ manyTo plan s c l' k
  | 0 => Nat.le_refl _
  | k + 1 => by
    have ih := manyTo_mono (plan := plan) (s := s) (c := c) h k
    unfold manyTo
    cases hc : counts (nth plan k) k s c l with
    | true => rw [counts_mono h hc]; simp only [cond_true]; omega
    | false => simp only [cond_false]; omega
theorem many_mono {plan : List Task} {s c : Int} {l l' : Bool} (h : l = true → l' = true) : many plan s c l ≤ many plan s c l' := by
  have := manyTo_mono (plan := plan) (s := s) (c := c) h plan.length
  unfold many
  cases hl : l with
  | true => rw [h hl]; subst hl; rw [h rfl] at this; exact Nat.add_le_add_right this _
  | false => subst hl; simp only [cond_false]; omega
theorem home_mono {plan : List Task} {t t' : Truth} (h : LeTr t t') (hn : ∀ i, 0 ≤ nth t'.sheet i) {s c : Int} {l l' : Bool} (hl : l = true → l' = true) : home plan t s c l ≤ home plan t' s c l' := by
  unfold home
  have h1 := h.post c.toNat
  have h2 := Int.mul_le_mul_of_nonneg_left (h.sheet c.toNat) (Int.natCast_nonneg (many plan s c l))
  have h3 : ((many plan s c l : Nat) : Int) ≤ many plan s c l' := by exact_mod_cast many_mono hl
  have h4 := Int.mul_le_mul_of_nonneg_right h3 (hn c.toNat)
  omega
theorem dayDone_mono {plan : List Task} {t t' : Truth} (h : LeTr t t') (hn : ∀ i, 0 ≤ nth t'.sheet i) {lost c lost' c' : Int} {f f' : List Int} (hf : ∀ m, nth f m ≤ nth f' m) {i : Nat}
    (hl : ∀ x, ((i : Int) == lost && x == c) = true → ((i : Int) == lost' && x == c') = true) : dayDone plan t lost c f i ≤ dayDone plan t' lost' c' f' i := by
  unfold dayDone
  have h1 := home_mono (plan := plan) h hn (s := i) (c := (nth plan i).one) (hl (nth plan i).one)
  have h2 := home_mono (plan := plan) h hn (s := i) (c := (nth plan i).other) (hl (nth plan i).other)
  have h3 := h.post (nth plan i).third.toNat
  have h4 := h.look (nth plan i).third.toNat
  have h5 := hf (nth plan i).third.toNat
  omega
theorem freeTo_mono {plan : List Task} {t t' : Truth} (h : LeTr t t') (hn : ∀ i, 0 ≤ nth t'.sheet i) {lost c lost' c' : Int} :
    ∀ k, (∀ j : Nat, j < k → ∀ x, ((j : Int) == lost && x == c) = true → ((j : Int) == lost' && x == c') = true) → ∀ m, nth (freeTo plan t lost c k) m ≤ nth (freeTo plan t' lost' c' k) m
  | 0, _, m => by
    unfold freeTo
    rw [h.len]
    exact Int.le_refl _
  | k + 1, hl, m => by
    have ih := freeTo_mono h hn (plan := plan) k fun j hj => hl j (by omega)
    have hd := dayDone_mono (plan := plan) h hn ih (hl k (by omega))
    unfold freeTo
    rw [nth_set, nth_set, freeTo_len, freeTo_len, h.len]
    split
    · exact hd
    · exact ih m
theorem dayAt_mono {plan : List Task} {t t' : Truth} (h : LeTr t t') (hn : ∀ i, 0 ≤ nth t'.sheet i) {lost c lost' c' : Int} {i : Nat} (hl : ∀ j : Nat, j ≤ i → ∀ x, ((j : Int) == lost && x == c) = true → ((j : Int) == lost' && x == c') = true) :
    dayAt plan t lost c i ≤ dayAt plan t' lost' c' i := by
  have h1 := dayDone_mono (plan := plan) h hn (freeTo_mono (plan := plan) h hn i fun j hj => hl j (by omega)) (hl i (by omega))
  have h2 := h.post (nth plan i).third.toNat
  unfold dayAt
  omega
theorem days_nth {plan : List Task} {t : Truth} {lost c : Int} {i : Nat} (hi : i < plan.length) : nth (days plan t lost c) i = dayAt plan t lost c i := by
  unfold days
  rw [nth_map (by rw [List.length_range]; exact hi), nth_range hi]
theorem no_lost (j : Nat) (x : Int) (p : Prop) : ((j : Int) == -1 && x == -1) = true → p := by
  intro h
  rw [Bool.and_eq_true, beq_iff_eq] at h
  omega
theorem days_mono {plan : List Task} {t t' : Truth} (h : LeTr t t') (hn : ∀ i, 0 ≤ nth t'.sheet i) {i : Nat} (hi : i < plan.length) : nth (days plan t (-1) (-1)) i ≤ nth (days plan t' (-1) (-1)) i := by
  rw [days_nth hi, days_nth hi]
  exact dayAt_mono h hn fun j _ x => no_lost j x _
theorem nth_map0 {f : Comp → Int} {l : List Comp} {i : Nat} : nth (l.map f) i = if i < l.length then f (nth l i) else 0 := by
  split
  · exact nth_map (by omega)
  · rw [nth_ge (by rw [List.length_map]; omega)]; rfl
theorem ends_pos {b : Book} (hb : b.ok = true) (g : Bool) (i : Nat) : 0 ≤ nth (b.ends g).sheet i := (small_ends hb g).2.1 i |>.1
end Go.Vc.Gd
namespace Go.Vc.Gd
open Go Go.Proofs Go.Vc
def flat3 (t : Task) : List Int := [t.one, t.other, t.third]
def flatP (p : List Task) : List Int := p.flatMap flat3
theorem ltL_pre : ∀ (p a b : List Int), ltL (p ++ a) (p ++ b) = ltL a b
  | [], _, _ => rfl
  | x :: p, a, b => by
    rw [List.cons_append, List.cons_append, ltL, beq_self_eq_true, cond_true, ltL_pre p a b]
theorem ltL_irrefl : ∀ a : List Int, ltL a a = false
  | [] => rfl
  | x :: a => by rw [ltL, beq_self_eq_true, cond_true, ltL_irrefl a]
theorem ltL_app : ∀ (a b r s : List Int), a.length = b.length → ltL a b = true → ltL (a ++ r) (b ++ s) = true
  | [], [], _, _, _, h => by cases h
  | [], _ :: _, _, _, hl, _ => by simp at hl
  | _ :: _, [], _, _, hl, _ => by simp at hl
  | x :: a, y :: b, r, s, hl, h => by
    rw [List.cons_append, List.cons_append, ltL]
    rw [ltL] at h
    cases hxy : x == y with
    | true =>
      rw [hxy, cond_true] at h
      rw [cond_true]
      exact ltL_app a b r s (by simpa using hl) h
    | false => rw [hxy, cond_false] at h; rw [cond_false]; exact h
theorem taskNo_lt : ∀ n : Nat, n < 5 → ∀ j : Nat, j < n * n * n → ∀ i : Nat, i < j → ltL (flat3 (taskNo n i)) (flat3 (taskNo n j)) = true := by decide +kernel
theorem mem_tasksTo' {b : Book} {t : Task} : ∀ {k : Nat}, t ∈ tasksTo b k → ∃ i, i < k ∧ t = taskNo b.comps.length i
  | 0, h => by cases h
  | k + 1, h => by
    unfold tasksTo at h
    cases hf : b.fault (taskNo b.comps.length k) == 0 with
    | true =>
      rw [hf, cond_true] at h
      rcases List.mem_append.1 h with h | h
      · obtain ⟨i, hi, he⟩ := mem_tasksTo' h; exact ⟨i, by omega, he⟩
      · exact ⟨k, by omega, List.mem_singleton.1 h⟩
    | false => rw [hf, cond_false] at h; obtain ⟨i, hi, he⟩ := mem_tasksTo' h; exact ⟨i, by omega, he⟩
theorem tasksTo_has {b : Book} {i : Nat} (hf : b.fault (taskNo b.comps.length i) = 0) : ∀ {k : Nat}, i < k → taskNo b.comps.length i ∈ tasksTo b k
  | 0, h => absurd h (Nat.not_lt_zero _)
  | k + 1, h => by
    unfold tasksTo
    rcases Nat.lt_or_ge i k with hlt | hge
    · have := tasksTo_has hf hlt
      cases b.fault (taskNo b.comps.length k) == 0
      · exact this
      · exact List.mem_append_left _ this
    · have : i = k := by omega
      subst this
      rw [hf]
      exact List.mem_append_right _ (List.mem_singleton.2 rfl)
theorem tasks_has {b : Book} {t : Task} (hf : b.fault t = 0) : t ∈ b.tasks := by
  obtain ⟨⟨h1, h2, h3⟩, _⟩ := fault_zero hf
  simp only [Book.isComp, inR_iff] at h1 h2 h3
  obtain ⟨i, hi⟩ := Int.eq_ofNat_of_zero_le h1.1
  obtain ⟨j, hj⟩ := Int.eq_ofNat_of_zero_le h2.1
  obtain ⟨k, hk⟩ := Int.eq_ofNat_of_zero_le h3.1
  have e : t = taskNo b.comps.length (idx3 b.comps.length i j k) := by
    rw [taskNo3 (by omega) (by omega), ← hi, ← hj, ← hk]
  have hlt : idx3 b.comps.length i j k < b.comps.length * b.comps.length * b.comps.length := by
    unfold idx3
    have a1 : i < b.comps.length := by omega
    have a2 : j < b.comps.length := by omega
    have a3 : k < b.comps.length := by omega
    have s1 : (i + 1) * b.comps.length ≤ b.comps.length * b.comps.length := Nat.mul_le_mul_right _ a1
    have s2 : (i * b.comps.length + j + 1) * b.comps.length ≤ b.comps.length * b.comps.length * b.comps.length := Nat.mul_le_mul_right _ (by rw [Nat.add_mul, Nat.one_mul] at s1; omega)
    rw [Nat.add_mul, Nat.one_mul] at s2
    omega
  rw [e] at hf ⊢
  exact tasksTo_has hf hlt
theorem tasksTo_sorted {b : Book} (hb : b.comps.length < 5) : ∀ k, k ≤ b.comps.length * b.comps.length * b.comps.length → (tasksTo b k).Pairwise fun x y => ltL (flat3 x) (flat3 y) = true
  | 0, _ => by simp [tasksTo]
  | k + 1, h => by
    have ih := tasksTo_sorted hb k (by omega)
    unfold tasksTo
    cases b.fault (taskNo b.comps.length k) == 0
    · exact ih
    · simp only [cond_true]
      rw [List.pairwise_append]
      refine ⟨ih, List.pairwise_singleton _ _, fun x hx y hy => ?_⟩
      obtain ⟨i, hi, rfl⟩ := mem_tasksTo' hx
      rw [List.mem_singleton.1 hy]
      exact taskNo_lt _ hb k (by omega) i hi
theorem tasks_sorted {b : Book} (hb : b.ok = true) : b.tasks.Pairwise fun x y => ltL (flat3 x) (flat3 y) = true := by
  obtain ⟨o1, _⟩ := ok_spec hb
  exact tasksTo_sorted (by omega) _ (Nat.le_refl _)
abbrev ltP (a b : List Task) : Prop := ltL (flatP a) (flatP b) = true
theorem plansFrom_pre (l : List Task) : ∀ (d : Nat) (now p : List Task), p ∈ plansFrom l d now → ∃ r, p = now ++ r
  | 0, now, p, h => ⟨[], by rw [List.mem_singleton.1 h, List.append_nil]⟩
  | d + 1, now, p, h => by
    obtain ⟨x, _, hp⟩ := List.mem_flatMap.1 h
    obtain ⟨r, hr⟩ := plansFrom_pre l d _ _ hp
    exact ⟨x :: r, by rw [hr]; simp⟩
theorem plansFrom_sorted {l : List Task} (hl : l.Pairwise fun x y => ltL (flat3 x) (flat3 y) = true) : ∀ (d : Nat) (now : List Task), (plansFrom l d now).Pairwise ltP
  | 0, now => List.pairwise_singleton _ _
  | d + 1, now => by
    have ih := plansFrom_sorted hl d
    unfold plansFrom
    have key : ∀ m : List Task, (m.Pairwise fun x y => ltL (flat3 x) (flat3 y) = true) → (m.flatMap fun x => plansFrom l d (now ++ [x])).Pairwise ltP := by
      intro m
      induction m with
      | nil => intro _; exact .nil
      | cons x m ihm =>
        intro hm
        obtain ⟨h1, h2⟩ := List.pairwise_cons.1 hm
        rw [List.flatMap_cons, List.pairwise_append]
        refine ⟨ih _, ihm h2, fun p hp q hq => ?_⟩
        obtain ⟨y, hy, hq'⟩ := List.mem_flatMap.1 hq
        obtain ⟨r, rfl⟩ := plansFrom_pre l d _ _ hp
        obtain ⟨s, rfl⟩ := plansFrom_pre l d _ _ hq'
        have h3 := h1 y hy
        unfold ltP flatP
        simp only [List.flatMap_append, List.flatMap_cons, List.flatMap_nil, List.append_nil, List.append_assoc]
        rw [ltL_pre]
        exact ltL_app _ _ _ _ rfl h3
    exact key l hl
theorem plans_sorted {b : Book} (hb : b.ok = true) : b.plans.Pairwise ltP := by
  rw [← allPlans_eq]
  exact plansFrom_sorted (tasks_sorted hb) _ _
theorem plansFrom_has {l : List Task} : ∀ (d : Nat) (now p : List Task), p.length = d → (∀ t ∈ p, t ∈ l) → now ++ p ∈ plansFrom l d now
  | 0, now, p, hd, _ => by
    rw [List.length_eq_zero_iff.1 hd, List.append_nil]
    exact List.mem_singleton.2 rfl
  | d + 1, now, [], hd, _ => by simp at hd
  | d + 1, now, x :: p, hd, h => by
    refine List.mem_flatMap.2 ⟨x, h x List.mem_cons_self, ?_⟩
    have := plansFrom_has d (now ++ [x]) p (by simpa using hd) fun t ht => h t (List.mem_cons_of_mem _ ht)
    rw [List.append_assoc, List.singleton_append] at this
    exact this
theorem plans_has {b : Book} {p : List Task} (hg : b.good p = true) : p ∈ b.plans := by
  obtain ⟨h1, h2⟩ := good_spec hg
  rw [← allPlans_eq]
  have := plansFrom_has (l := b.tasks) b.sheets.length [] p h1 fun t ht => by
    obtain ⟨i, hi, rfl⟩ := List.getElem_of_mem ht
    have := h2 i hi
    rw [nth_eq hi] at this
    exact tasks_has this
  exact this
theorem mem_plans {b : Book} {p : List Task} : p ∈ b.plans ↔ b.good p = true := by
  refine ⟨fun h => ?_, plans_has⟩
  rw [← allPlans_eq] at h
  obtain ⟨i, hi, rfl⟩ := List.getElem_of_mem h
  have := allPlans_good hi
  rw [nth_eq hi] at this
  exact this
theorem mem_all {b : Book} {p : List Task} : p ∈ b.all ↔ b.good p = true ∧ isProof b p = false := by
  rw [all_eq, List.mem_filter, mem_plans]
  simp
theorem all_sorted {b : Book} (hb : b.ok = true) : b.all.Pairwise ltP := by
  rw [all_eq]
  exact (plans_sorted hb).filter _
section
variable {α : Type} [Inhabited α]
theorem mem_nth {l : List α} {x : α} (h : x ∈ l) : ∃ i, i < l.length ∧ nth l i = x := by
  obtain ⟨i, hi, rfl⟩ := List.getElem_of_mem h
  exact ⟨i, hi, nth_eq hi⟩
end
theorem sub_len : ∀ {a b : List (List Task)}, a.Pairwise ltP → (∀ x ∈ a, x ∈ b) → a.length ≤ b.length
  | [], _, _, _ => Nat.zero_le _
  | x :: a, b, ha, h => by
    obtain ⟨h1, h2⟩ := List.pairwise_cons.1 ha
    obtain ⟨s, t, rfl⟩ := List.append_of_mem (h x List.mem_cons_self)
    have := sub_len (b := s ++ t) h2 fun y hy => by
      have hyx : y ≠ x := fun e => by
        subst e
        have := h1 y hy
        unfold ltP at this
        rw [ltL_irrefl] at this
        cases this
      have := h y (List.mem_cons_of_mem _ hy)
      simp only [List.mem_append, List.mem_cons] at this ⊢
      rcases this with h | h | h
      · exact .inl h
      · exact absurd h hyx
      · exact .inr h
    simp only [List.length_append, List.length_cons] at this ⊢
    omega
end Go.Vc.Gd
namespace Go.Vc.Gd
open Go Go.Proofs Go.Vc
theorem isProof_iff {b : Book} {p : List Task} (hb : b.ok = true) (hg : b.good p = true) : isProof b p = false ↔ ∀ i, i < p.length → (nth (backs b p) i).high ≤ nth b.dues (nth b.sheets i).toNat := by
  obtain ⟨_, _, _, _, o5, o6⟩ := ok_spec hb
  have hl := (good_spec hg).1
  unfold isProof
  rw [Bool.not_eq_false', List.all_eq_true]
  simp only [List.mem_range]
  constructor
  · intro h i hi
    have hs := o6 i (by omega)
    have := h (nth b.sheets i).toNat (by omega)
    rw [row_late, List.all_eq_true] at this
    have := this i (List.mem_range.2 (by rw [backs_len]; exact hi))
    unfold lateAt at this
    rw [Bool.not_eq_true', Bool.and_eq_false_iff, beq_eq_false_iff_ne, decide_eq_false_iff_not] at this
    rcases this with h | h
    · exact absurd (by omega) h
    · omega
  · intro h n hn
    rw [row_late, List.all_eq_true]
    intro i hi
    rw [List.mem_range, backs_len] at hi
    unfold lateAt
    rw [Bool.not_eq_true', Bool.and_eq_false_iff, beq_eq_false_iff_ne, decide_eq_false_iff_not]
    have := h i hi
    by_cases he : nth b.sheets i = (n : Int)
    · right
      rw [he] at this
      simpa using this
    · left; exact he
end Go.Vc.Gd
namespace Go.Vc.Gd
open Go Go.Proofs Go.Vc
structure SameTr (n : Nat) (t t' : Truth) : Prop where
  l1 : n ≤ t.post.length
  l2 : n ≤ t'.post.length
  post : ∀ i, i < n → nth t.post i = nth t'.post i
  sheet : ∀ i, i < n → nth t.sheet i = nth t'.sheet i
  look : ∀ i, i < n → nth t.look i = nth t'.look i
theorem good_of {b x : Book} {p : List Task} (hs : x.sheets.length = b.sheets.length) (h : ∀ t, b.fault t = 0 → x.fault t = 0) (hg : b.good p = true) : x.good p = true := by
  unfold Book.good Book.isWhy at hg ⊢
  simp only [Bool.and_eq_true, beq_iff_eq, Bool.not_not, List.all_eq_true] at hg ⊢
  exact ⟨by rw [hs]; exact hg.1, fun t ht => h t (hg.2 t ht)⟩
def Span.quick (s : Span) (lo n : Int) : Span := ⟨max lo (s.low - n), max lo (s.high - n)⟩
def Comp.quick (c : Comp) (n : Int) : Comp := ⟨c.room, c.post.quick 0 n, c.sheet.quick 1 n, c.look.quick 1 n⟩
def Book.quick (b : Book) (c n table later : Int) : Book := ⟨b.comps.set c.toNat ((nth b.comps c.toNat).quick n), b.dues.set table.toNat (min 99 (nth b.dues table.toNat + later)), b.sheets⟩
theorem quick_nth (b : Book) (c n table later : Int) (i : Nat) : nth (b.quick c n table later).comps i = if c.toNat = i ∧ c.toNat < b.comps.length then (nth b.comps c.toNat).quick n else nth b.comps i := nth_set _ _ _ _
theorem quick_due (b : Book) (c n table later : Int) (i : Nat) : nth (b.quick c n table later).dues i = if table.toNat = i ∧ table.toNat < b.dues.length then min 99 (nth b.dues table.toNat + later) else nth b.dues i := nth_set _ _ _ _
theorem fine_quick {c : Comp} {n : Int} (h : c.fine = true) (hn : 0 ≤ n) : (c.quick n).fine = true := by
  have := fine_spec h
  unfold Comp.fine Comp.quick Span.quick Span.isIn
  simp only [Bool.and_eq_true, inR_iff]
  omega
theorem quick_ok {b : Book} {c n table later : Int} (hb : b.ok = true) (hn : 0 ≤ n) (hl : 0 ≤ later) : (b.quick c n table later).ok = true := by
  obtain ⟨o1, o2, o3, o4, o5, o6⟩ := ok_spec hb
  unfold Book.ok
  simp only [Bool.and_eq_true, List.all_eq_true, inR_iff]
  have l1 : (b.quick c n table later).comps.length = b.comps.length := List.length_set
  have l2 : (b.quick c n table later).dues.length = b.dues.length := List.length_set
  have l3 : (b.quick c n table later).sheets = b.sheets := rfl
  refine ⟨by omega, by omega, by rw [l3]; omega, fun x hx => ?_, fun x hx => ?_, fun x hx => ?_⟩
  · obtain ⟨i, hi, rfl⟩ := mem_nth hx
    rw [quick_nth]
    split
    · rename_i h
      exact fine_quick (o4 _ h.2) hn
    · exact o4 i (by omega)
  · obtain ⟨i, hi, rfl⟩ := mem_nth hx
    rw [quick_due]
    split
    · rename_i h
      have := o5 _ h.2
      omega
    · exact o5 i (by omega)
  · rw [l3] at hx
    obtain ⟨i, hi, rfl⟩ := mem_nth hx
    unfold Book.isTable
    rw [inR_iff, l2]
    have := o6 i hi
    omega
theorem quick_ends {b : Book} {c n table later : Int} (hb : b.ok = true) (hn : 0 ≤ n) (g : Bool) : LeTr ((b.quick c n table later).ends g) (b.ends g) := by
  have l1 : (b.quick c n table later).comps.length = b.comps.length := List.length_set
  obtain ⟨_, _, _, o4, _⟩ := ok_spec hb
  have key : ∀ f : Comp → Int, (∀ i, i < b.comps.length → f ((nth b.comps i).quick n) ≤ f (nth b.comps i)) → ∀ i, nth ((b.quick c n table later).comps.map f) i ≤ nth (b.comps.map f) i := by
    intro f hf i
    rw [nth_map0, nth_map0, l1]
    split
    · rw [quick_nth]
      split
      · rename_i h
        rw [← h.1]
        exact hf _ h.2
      · exact Int.le_refl _
    · exact Int.le_refl _
  refine ⟨by unfold Book.ends Book.endP; simp [l1], key _ fun i hi => ?_, key _ fun i hi => ?_, key _ fun i hi => ?_⟩
  all_goals
    have := fine_spec (o4 i hi)
    unfold Comp.quick Span.quick Span.end
    cases g <;> simp only [cond_true, cond_false] <;> omega
theorem quick_fault {b : Book} {c n table later : Int} (t : Task) : (b.quick c n table later).fault t = b.fault t := by
  have l1 : (b.quick c n table later).comps.length = b.comps.length := List.length_set
  have k : ∀ x, (b.quick c n table later).isComp x = b.isComp x := fun x => by unfold Book.isComp; rw [l1]
  have r : ∀ i, (nth (b.quick c n table later).comps i).room = (nth b.comps i).room := fun i => by
    rw [quick_nth]
    split
    · rename_i h; rw [← h.1]; rfl
    · rfl
  unfold Book.fault
  rw [k, k, k, r, r]
theorem quick_good {b : Book} {c n table later : Int} {p : List Task} (hg : b.good p = true) : (b.quick c n table later).good p = true := good_of (b := b) rfl (fun t h => by rw [quick_fault]; exact h) hg
theorem quick_backs {b : Book} {c n table later : Int} {p : List Task} (hb : b.ok = true) (hn : 0 ≤ n) {i : Nat} (hi : i < p.length) :
    (nth (backs (b.quick c n table later) p) i).low ≤ (nth (backs b p) i).low ∧ (nth (backs (b.quick c n table later) p) i).high ≤ (nth (backs b p) i).high := by
  rw [backs_nth hi, backs_nth hi]
  exact ⟨days_mono (quick_ends hb hn false) (ends_pos hb false) hi, days_mono (quick_ends hb hn true) (ends_pos hb true) hi⟩
theorem quick_span {b : Book} {c n table later : Int} {p : List Task} (hb : b.ok = true) (hn : 0 ≤ n) (m : Nat) : ∀ k, k ≤ p.length →
    (spanTo (b.quick c n table later) (backs (b.quick c n table later) p) m k).low ≤ (spanTo b (backs b p) m k).low ∧ (spanTo (b.quick c n table later) (backs (b.quick c n table later) p) m k).high ≤ (spanTo b (backs b p) m k).high
  | 0, _ => ⟨Int.le_refl _, Int.le_refl _⟩
  | k + 1, h => by
    have ih := quick_span (c := c) (table := table) (later := later) (p := p) hb hn m k (by omega)
    have hk := quick_backs (c := c) (n := n) (table := table) (later := later) (p := p) hb hn (i := k) (by omega)
    have hs : (b.quick c n table later).sheets = b.sheets := rfl
    unfold spanTo
    rw [hs]
    cases nth b.sheets k == (m : Int)
    · exact ih
    · simp only [cond_true]; omega
theorem quick_due_ge {b : Book} {c n table later : Int} (hb : b.ok = true) (hl : 0 ≤ later) {m : Nat} (hm : m < b.dues.length) : nth b.dues m ≤ nth (b.quick c n table later).dues m := by
  obtain ⟨_, _, _, _, o5, _⟩ := ok_spec hb
  have := o5 m hm
  rw [quick_due]
  split
  · rename_i h; rw [h.1]; omega
  · exact Int.le_refl _
theorem word_mono {s s' : Span} {d d' : Int} (h1 : s'.low ≤ s.low) (h2 : s'.high ≤ s.high) (h3 : d ≤ d') : wordOf s d ≤ wordOf s' d' := by
  unfold wordOf
  by_cases a1 : s.high ≤ d
  · have a2 : s'.high ≤ d' := by omega
    rw [decide_eq_true a1, decide_eq_true a2]; exact Int.le_refl _
  · rw [decide_eq_false a1]
    by_cases b1 : d < s.low
    · rw [decide_eq_true b1]
      cases decide (s'.high ≤ d') <;> cases decide (d' < s'.low) <;> simp
    · have b2 : ¬ d' < s'.low := by omega
      rw [decide_eq_false b1, decide_eq_false b2]
      cases decide (s'.high ≤ d') <;> simp
theorem quick_word {b : Book} {c n table later : Int} {p : List Task} (hb : b.ok = true) (hn : 0 ≤ n) (hl : 0 ≤ later) {m : Nat} (hm : m < b.dues.length) : wordAt b p m ≤ wordAt (b.quick c n table later) p m := by
  unfold wordAt
  rw [backs_len, backs_len]
  obtain ⟨h1, h2⟩ := quick_span (c := c) (n := n) (table := table) (later := later) (p := p) hb hn m p.length (Nat.le_refl _)
  exact word_mono h1 h2 (quick_due_ge hb hl hm)
theorem quick_count {b : Book} {c n table later : Int} (hb : b.ok = true) (hn : 0 ≤ n) (hl : 0 ≤ later) : b.all.length ≤ (b.quick c n table later).all.length :=
  sub_len (all_sorted hb) fun p hp => by
    obtain ⟨h1, h2⟩ := mem_all.1 hp
    refine mem_all.2 ⟨quick_good h1, ?_⟩
    rw [isProof_iff hb h1] at h2
    rw [isProof_iff (quick_ok hb hn hl) (quick_good h1)]
    intro i hi
    have ha := h2 i hi
    have hk := quick_backs (c := c) (n := n) (table := table) (later := later) (p := p) hb hn hi
    obtain ⟨_, _, _, _, _, o6⟩ := ok_spec hb
    have hlen := (good_spec h1).1
    have := o6 i (by omega)
    have hd := quick_due_ge (c := c) (n := n) (table := table) hb hl (m := (nth b.sheets i).toNat) (by omega)
    have hs : (b.quick c n table later).sheets = b.sheets := rfl
    rw [hs]
    omega
end Go.Vc.Gd
namespace Go.Vc.Gd
open Go Go.Proofs Go.Vc
end Go.Vc.Gd
