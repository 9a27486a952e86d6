/- A part of the proofs over layer 6 (give): the program and the specification; no condition. -/
import Derived.Test.YtnifdkjffcdhcaaGreatDoorHfE
set_option linter.all false
set_option linter.unusedSimpArgs false
set_option linter.unusedVariables false
namespace Go.Vc.Gd
open Go Go.Proofs Go.Vc
variable {Gl : World → Prop}
theorem sealed111 (S : Set Tryz.prog Y Gl) (rows : List (List UInt8)) (hn : rows.length ≤ 901) (hr29 : ∀ i, i < rows.length → (nth rows i).length ≤ 29) : Computes Tryz.prog Gl 111 [L eS rows, I 251] (.ret (str (sealed rows))) := by
  refine fn_is S (.loop rows.length (fun i=>[v 7 (I ↑i),v 6 (I (checkTo rows i)),v 5 (str (outTo rows i)),v 1 (I 251),v 0 (L eS rows)]) fun k0=>.br (.loop (List.length (nth rows k0)) (fun k=>[v 8 (I ↑k),v 7 (I ↑k0),v 6 (I (checkTo rows k0+sumTo (nth rows k0) k0 k)),v 5 (str (outTo rows k0)),v 1 (I 251),v 0 (L eS rows)]) fun k1=>.br .nil .nil) (.r (.ret (str (dec (Int.tdiv (Int.tmod (checkTo rows k0) (251:Int)) (100:Int))))) (.r (.ret (str (dec (Int.tmod (Int.tdiv (Int.tmod (checkTo rows k0) (251:Int)) (10:Int)) (10:Int))))) (.r (.ret (str (dec (Int.tmod (Int.tmod (checkTo rows k0) (251:Int)) (10:Int))))) .nil)))) Tryz.func111 (by kernel_rfl) (((0:Int)=(↑(0:Nat):Int)∧(0:Int)=checkTo rows (0:Nat)∧{data:=#[]}=bs (outTo rows (0:Nat))∧(251:Int)=(251:Int)∧SEq rows.length (fun i=>eS (nth rows i)) rows.length fun i=>eS (nth rows i))∧∀ (k0:Nat),k0≤rows.length→rows.length≤maxLen→(decide ((↑k0:Int)<(↑rows.length:Int))=true→((0:Int)=(↑(0:Nat):Int)∧(↑k0:Int)=(↑k0:Int)∧checkTo rows k0=checkTo rows k0+sumTo (nth rows k0) k0 (0:Nat)∧bs (outTo rows k0)=bs (outTo rows k0)∧(251:Int)=(251:Int)∧SEq rows.length (fun i=>eS (nth rows i)) rows.length fun i=>eS (nth rows i))∧∀ (k1:Nat),k1≤List.length (nth rows k0)→((0:Int)≤(↑k0:Int)∧(↑k0:Int)<(↑rows.length:Int))∧(decide ((↑k1:Int)<(↑(ByteArray.size (bs (nth rows k0))):Int))=true→((0:Int)≤(↑k0:Int)∧(↑k0:Int)<(↑rows.length:Int))∧((0:Int)≤(↑k1:Int)∧(↑k1:Int)<(↑(ByteArray.size (bs (nth rows k0))):Int))∧inRange IntKind.i64 (byteAt (bs (nth rows k0)) k1)∧inRange IntKind.i64 ((↑k1:Int)+(1:Int))∧inRange IntKind.i64 (byteAt (bs (nth rows k0)) k1*((↑k1:Int)+(1:Int)))∧inRange IntKind.i64 ((↑k0:Int)+(1:Int))∧inRange IntKind.i64 (byteAt (bs (nth rows k0)) k1*((↑k1:Int)+(1:Int))*((↑k0:Int)+(1:Int)))∧inRange IntKind.i64 (checkTo rows k0+sumTo (nth rows k0) k0 k1+byteAt (bs (nth rows k0)) k1*((↑k1:Int)+(1:Int))*((↑k0:Int)+(1:Int)))∧inRange IntKind.i64 ((↑k1:Int)+(1:Int))∧k1<List.length (nth rows k0)∧(↑k1:Int)+(1:Int)=(↑(k1+(1:Nat)):Int)∧(↑k0:Int)=(↑k0:Int)∧checkTo rows k0+sumTo (nth rows k0) k0 k1+byteAt (bs (nth rows k0)) k1*((↑k1:Int)+(1:Int))*((↑k0:Int)+(1:Int))=checkTo rows k0+sumTo (nth rows k0) k0 (k1+(1:Nat))∧bs (outTo rows k0)=bs (outTo rows k0)∧(251:Int)=(251:Int)∧SEq rows.length (fun i=>eS (nth rows i)) rows.length fun i=>eS (nth rows i))∧(decide ((↑k1:Int)<(↑(ByteArray.size (bs (nth rows k0))):Int))=false→((0:Int)≤(↑k0:Int)∧(↑k0:Int)<(↑rows.length:Int))∧(↑(ByteArray.size (bs (outTo rows k0))+ByteArray.size (bs (nth rows k0))):Int)≤IntKind.max IntKind.i64∧(↑(ByteArray.size (bs (outTo rows k0) ++ bs (nth rows k0))+ByteArray.size {data:=#[(10:UInt8)]}):Int)≤IntKind.max IntKind.i64∧inRange IntKind.i64 ((↑k0:Int)+(1:Int))∧k0<rows.length∧(↑k0:Int)+(1:Int)=(↑(k0+(1:Nat)):Int)∧checkTo rows k0+sumTo (nth rows k0) k0 k1=checkTo rows (k0+(1:Nat))∧bs (outTo rows k0) ++ bs (nth rows k0) ++ {data:=#[(10:UInt8)]}=bs (outTo rows (k0+(1:Nat)))∧(251:Int)=(251:Int)∧SEq rows.length (fun i=>eS (nth rows i)) rows.length fun i=>eS (nth rows i)))∧(decide ((↑k0:Int)<(↑rows.length:Int))=false→(251:Int) ≠ (0:Int)∧(↑(ByteArray.size (bs (outTo rows k0))+ByteArray.size {data:=#[(101:UInt8),(110:UInt8),(100:UInt8),(32:UInt8)]}):Int)≤IntKind.max IntKind.i64∧((100:Int) ≠ (0:Int)∧inRange IntKind.i64 (Int.tdiv (Int.tmod (checkTo rows k0) (251:Int)) (100:Int)))∧Computes Tryz.prog Gl 137 [I (Int.tdiv (Int.tmod (checkTo rows k0) (251:Int)) (100:Int))] (.ret (str (dec (Int.tdiv (Int.tmod (checkTo rows k0) (251:Int)) (100:Int)))))∧(↑(ByteArray.size (bs (outTo rows k0) ++ {data:=#[(101:UInt8),(110:UInt8),(100:UInt8),(32:UInt8)]})+ByteArray.size (bs (dec (Int.tdiv (Int.tmod (checkTo rows k0) (251:Int)) (100:Int))))):Int)≤IntKind.max IntKind.i64∧((10:Int) ≠ (0:Int)∧inRange IntKind.i64 (Int.tdiv (Int.tmod (checkTo rows k0) (251:Int)) (10:Int)))∧(10:Int) ≠ (0:Int)∧Computes Tryz.prog Gl 137 [I (Int.tmod (Int.tdiv (Int.tmod (checkTo rows k0) (251:Int)) (10:Int)) (10:Int))] (.ret (str (dec (Int.tmod (Int.tdiv (Int.tmod (checkTo rows k0) (251:Int)) (10:Int)) (10:Int)))))∧(↑(ByteArray.size (bs (outTo rows k0) ++ {data:=#[(101:UInt8),(110:UInt8),(100:UInt8),(32:UInt8)]} ++ bs (dec (Int.tdiv (Int.tmod (checkTo rows k0) (251:Int)) (100:Int))))+ByteArray.size (bs (dec (Int.tmod (Int.tdiv (Int.tmod (checkTo rows k0) (251:Int)) (10:Int)) (10:Int))))):Int)≤IntKind.max IntKind.i64∧(10:Int) ≠ (0:Int)∧Computes Tryz.prog Gl 137 [I (Int.tmod (Int.tmod (checkTo rows k0) (251:Int)) (10:Int))] (.ret (str (dec (Int.tmod (Int.tmod (checkTo rows k0) (251:Int)) (10:Int)))))∧(↑(ByteArray.size (bs (outTo rows k0) ++ {data:=#[(101:UInt8),(110:UInt8),(100:UInt8),(32:UInt8)]} ++ bs (dec (Int.tdiv (Int.tmod (checkTo rows k0) (251:Int)) (100:Int))) ++ bs (dec (Int.tmod (Int.tdiv (Int.tmod (checkTo rows k0) (251:Int)) (10:Int)) (10:Int))))+ByteArray.size (bs (dec (Int.tmod (Int.tmod (checkTo rows k0) (251:Int)) (10:Int))))):Int)≤IntKind.max IntKind.i64∧(↑(ByteArray.size (bs (outTo rows k0) ++ {data:=#[(101:UInt8),(110:UInt8),(100:UInt8),(32:UInt8)]} ++ bs (dec (Int.tdiv (Int.tmod (checkTo rows k0) (251:Int)) (100:Int))) ++ bs (dec (Int.tmod (Int.tdiv (Int.tmod (checkTo rows k0) (251:Int)) (10:Int)) (10:Int))) ++ bs (dec (Int.tmod (Int.tmod (checkTo rows k0) (251:Int)) (10:Int))))+ByteArray.size {data:=#[(10:UInt8)]}):Int)≤IntKind.max IntKind.i64∧bs (outTo rows k0) ++ {data:=#[(101:UInt8),(110:UInt8),(100:UInt8),(32:UInt8)]} ++ bs (dec (Int.tdiv (Int.tmod (checkTo rows k0) (251:Int)) (100:Int))) ++ bs (dec (Int.tmod (Int.tdiv (Int.tmod (checkTo rows k0) (251:Int)) (10:Int)) (10:Int))) ++ bs (dec (Int.tmod (Int.tmod (checkTo rows k0) (251:Int)) (10:Int))) ++ {data:=#[(10:UInt8)]}=bs (sealed rows))) (by kernel_rfl) ?_
  have e10 : ({ data := #[10] } : ByteArray) = bs [10] := rfl
  have e0 : ({ data := #[] } : ByteArray) = bs [] := rfl
  have eE : ({ data := #[101, 110, 100, 32] } : ByteArray) = bs lEnd := rfl
  simp only [stdS, imp_self, implies_true, and_true, e10, e0, eE, bs_size, bs_app, decide_eq_true_eq, decide_eq_false_iff_not]
  refine ⟨⟨rfl, rfl, trivial⟩, fun k3 hk3 hmx => ⟨fun hlt => ?_, fun hlt => ?_⟩⟩
  · have hlt : k3 < rows.length := by omega
    have hw := hr29 k3 hlt
    have hco := checkTo_le hr29 k3 (by omega) (by omega)
    have hou := outTo_le hr29 k3 (by omega)
    have e1 : checkTo rows (k3 + 1) = checkTo rows k3 + sumTo (nth rows k3) k3 (nth rows k3).length := rfl
    have e2 : outTo rows (k3 + 1) = outTo rows k3 ++ (nth rows k3 ++ [10]) := rfl
    generalize nth rows k3 = w at *
    refine ⟨⟨by unfold sumTo; omega, trivial⟩, fun k4 hk4 => ⟨⟨by omega, by omega⟩, fun hl4 => ?_, fun hl4 => ?_⟩⟩
    · have hl4 : k4 < w.length := by omega
      have ht := term_le (x := nth w k4) (k := k4) (i := k3) (by omega) (by omega)
      have hsu := sumTo_le (w := w) (i := k3) (by omega) k4 (by omega)
      have hx : ((nth w k4).toNat : Int) < 256 := by have := (nth w k4).toNat_lt; omega
      rw [byteAt_bs hl4]
      refine ⟨⟨by omega, by omega⟩, ⟨by omega, by omega⟩, (rng_iff _).2 (by omega), (rng_iff _).2 (by omega), (rng_iff _).2 (by omega), (rng_iff _).2 (by omega), (rng_iff _).2 (by omega), (rng_iff _).2 (by omega), (rng_iff _).2 (by omega), hl4, rfl, ?_, trivial⟩
      rw [sumTo, Int.add_assoc]
    · have hl4 : k4 = w.length := by omega
      subst hl4
      refine ⟨⟨by omega, by omega⟩, by rw [max_eq]; omega, by rw [max_eq]; simp only [List.length_append, List.length_singleton]; omega, (rng_iff _).2 (by omega), hlt, rfl, e1.symm, ?_, trivial⟩
      rw [e2, List.append_assoc]
  · obtain rfl : k3 = rows.length := by omega
    have hco := checkTo_le hr29 rows.length (by omega) (by omega)
    have hou := outTo_le hr29 rows.length (by omega)
    have htx : sealed rows = outTo rows rows.length ++ lEnd ++ dec (Int.tdiv (Int.tmod (checkTo rows rows.length) 251) 100) ++ dec (Int.tmod (Int.tdiv (Int.tmod (checkTo rows rows.length) 251) 10) 10) ++ dec (Int.tmod (Int.tmod (checkTo rows rows.length) 251) 10) ++ [10] := by
      unfold sealed checkOf
      rfl
    rw [htx]
    have hM : 0 ≤ Int.tmod (checkTo rows rows.length) 251 ∧ Int.tmod (checkTo rows rows.length) 251 < 251 := by
      rw [Int.tmod_eq_emod_of_nonneg hco.1]
      omega
    generalize Int.tmod (checkTo rows rows.length) 251 = M at *
    have h1' : Int.tdiv M 100 = M / 100 := Int.tdiv_eq_ediv_of_nonneg hM.1
    have h2' : Int.tdiv M 10 = M / 10 := Int.tdiv_eq_ediv_of_nonneg hM.1
    have h3' : Int.tmod (M / 10) 10 = M / 10 % 10 := Int.tmod_eq_emod_of_nonneg (by omega)
    have h4' : Int.tmod M 10 = M % 10 := Int.tmod_eq_emod_of_nonneg hM.1
    rw [h1', h2', h3', h4']
    have s1 : sm (M / 100) := ⟨by omega, by omega⟩
    have s2 : sm (M / 10 % 10) := ⟨by omega, by omega⟩
    have s3 : sm (M % 10) := ⟨by omega, by omega⟩
    have l1 := dec_len s1
    have l2 := dec_len s2
    have l3 := dec_len s3
    have lE : lEnd.length = 4 := rfl
    refine ⟨by decide, ?_, ⟨by decide, (rng_iff _).2 (by omega)⟩, decimal137 S _ s1, ?_, ⟨by decide, (rng_iff _).2 (by omega)⟩, by decide, decimal137 S _ s2, ?_, by decide, decimal137 S _ s3, ?_, ?_, rfl⟩
    all_goals
      rw [max_eq]
      try simp only [List.length_append, List.length_singleton]
      omega
theorem rowR (S : Set Tryz.prog Y Gl) (w : List UInt8) (hw : w.length ≤ 100) (l : List Int) (hl : l.length ≤ 1000) (hn : ∀ n ∈ l, sm n) (n : Nat) (f : Nat → List C) (h : SEq n f l.length (fun i => eI (nth l i))) : Computes Tryz.prog Gl 110 [str w, .d (.c (.s .n n f))] (.ret (str (w ++ nums l))) :=
  (row110 S w l hw hl hn).args (show bs w = bs w ∧ SEq n f l.length (fun i => eI (nth l i)) from ⟨rfl, h⟩)
def rowsTo (b : Book) (i j k : Nat) : List (List UInt8) := (lnsTo b i j k).map lnT
theorem print71 (S : Set Tryz.prog Y Gl) (b : Book) (hb : b.low) : Computes Tryz.prog Gl 71 [tBook b] (.ret (str b.text)) := by
  refine fn_is S (.loop (List.length (Book.comps b)) (fun k=>tk 100 9::v 4 (I ↑k)::v 3 (Lt 100 eS (rowsTo b k (0:Nat) (0:Nat)))::v 1 (ad 1)::bx 1 (cBook b)) fun k0=>.br (.r (.ret (str ([(99:UInt8),(111:UInt8),(109:UInt8),(112:UInt8),(117:UInt8),(116:UInt8),(101:UInt8),(114:UInt8)] ++ nums (lnN (Ln.comp (nth (Book.comps b) k0)))))) .nil) (.loop (List.length (Book.dues b)) (fun k=>tk 100 9::v 6 (I ↑k)::v 3 (Lt 100 eS (rowsTo b (List.length (Book.comps b)) k (0:Nat)))::v 1 (ad 1)::bx 1 (cBook b)) fun k1=>.br (.r (.ret (str ([(116:UInt8),(97:UInt8),(98:UInt8),(108:UInt8),(101:UInt8)] ++ nums [nth (Book.dues b) k1]))) .nil) (.loop (List.length (Book.sheets b)) (fun k=>tk 100 9::v 7 (I ↑k)::v 3 (Lt 100 eS (rowsTo b (List.length (Book.comps b)) (List.length (Book.dues b)) k))::v 1 (ad 1)::bx 1 (cBook b)) fun k2=>.br (.r (.ret (str ([(115:UInt8),(104:UInt8),(101:UInt8),(101:UInt8),(116:UInt8)] ++ nums [nth (Book.sheets b) k2]))) .nil) (.r (.ret (str (sealed (rowsTo b (List.length (Book.comps b)) (List.length (Book.dues b)) k2)))) .nil)))) Tryz.func71 (by kernel_rfl) (((0:Int)=(↑(0:Nat):Int)∧(SEq (1:Nat) (fun i=>List.getD [List.map C.dem [C.v (Value.string {data:=#[(103:UInt8),(105:UInt8),(118:UInt8),(101:UInt8)]})]] i []) (List.length (rowsTo b (0:Nat) (0:Nat) (0:Nat))) fun i=>eS (nth (rowsTo b (0:Nat) (0:Nat) (0:Nat)) i))∧(SEq b.1.length (fun i=>eComp (nth b.1 i)) b.1.length fun i=>eComp (nth b.1 i))∧(SEq b.2.length (fun i=>eI (nth b.2 i)) b.2.length fun i=>eI (nth b.2 i))∧SEq b.3.length (fun i=>eI (nth b.3 i)) b.3.length fun i=>eI (nth b.3 i))∧∀ (k0:Nat),k0≤List.length (Book.comps b)→b.1.length≤maxLen→(decide ((↑k0:Int)<(↑b.1.length:Int))=true→((0:Int)≤(↑k0:Int)∧(↑k0:Int)<(↑b.1.length:Int))∧Computes Tryz.prog Gl 110 [str [(99:UInt8),(111:UInt8),(109:UInt8),(112:UInt8),(117:UInt8),(116:UInt8),(101:UInt8),(114:UInt8)],T.d (D.c (C.s Tag.n (7:Nat) fun i=>List.getD [List.map C.dem [C.v (Value.int IntKind.i64 (Comp.room (nth (Book.comps b) k0)))],List.map C.dem [C.v (Value.int IntKind.i64 (Span.low (Comp.post (nth (Book.comps b) k0))))],List.map C.dem [C.v (Value.int IntKind.i64 (Span.high (Comp.post (nth (Book.comps b) k0))))],List.map C.dem [C.v (Value.int IntKind.i64 (Span.low (Comp.sheet (nth (Book.comps b) k0))))],List.map C.dem [C.v (Value.int IntKind.i64 (Span.high (Comp.sheet (nth (Book.comps b) k0))))],List.map C.dem [C.v (Value.int IntKind.i64 (Span.low (Comp.look (nth (Book.comps b) k0))))],List.map C.dem [C.v (Value.int IntKind.i64 (Span.high (Comp.look (nth (Book.comps b) k0))))]] i []))] (.ret (str ([(99:UInt8),(111:UInt8),(109:UInt8),(112:UInt8),(117:UInt8),(116:UInt8),(101:UInt8),(114:UInt8)] ++ nums (lnN (Ln.comp (nth (Book.comps b) k0))))))∧(List.length (rowsTo b k0 (0:Nat) (0:Nat))+(1:Nat))*(16:Nat)≤(140737488355328:Nat)∧List.length (rowsTo b k0 (0:Nat) (0:Nat))+(1:Nat)≤(140737488355328:Nat)∧inRange IntKind.i64 ((↑k0:Int)+(1:Int))∧k0<List.length (Book.comps b)∧(↑k0:Int)+(1:Int)=(↑(k0+(1:Nat)):Int)∧(SEq (List.length (rowsTo b k0 (0:Nat) (0:Nat))+(1:Nat)) (catF (List.length (rowsTo b k0 (0:Nat) (0:Nat))) (fun i=>eS (nth (rowsTo b k0 (0:Nat) (0:Nat)) i)) fun i=>List.getD [List.map C.dem [C.v (Value.string (bs ([(99:UInt8),(111:UInt8),(109:UInt8),(112:UInt8),(117:UInt8),(116:UInt8),(101:UInt8),(114:UInt8)] ++ nums (lnN (Ln.comp (nth b.1 k0))))))]] i []) (List.length (rowsTo b (k0+(1:Nat)) (0:Nat) (0:Nat))) fun i=>eS (nth (rowsTo b (k0+(1:Nat)) (0:Nat) (0:Nat)) i))∧(SEq b.1.length (fun i=>eComp (nth b.1 i)) b.1.length fun i=>eComp (nth b.1 i))∧(SEq b.2.length (fun i=>eI (nth b.2 i)) b.2.length fun i=>eI (nth b.2 i))∧SEq b.3.length (fun i=>eI (nth b.3 i)) b.3.length fun i=>eI (nth b.3 i))∧(decide ((↑k0:Int)<(↑b.1.length:Int))=false→((0:Int)=(↑(0:Nat):Int)∧(SEq (List.length (rowsTo b k0 (0:Nat) (0:Nat))) (fun i=>eS (nth (rowsTo b k0 (0:Nat) (0:Nat)) i)) (List.length (rowsTo b b.1.length (0:Nat) (0:Nat))) fun i=>eS (nth (rowsTo b b.1.length (0:Nat) (0:Nat)) i))∧(SEq b.1.length (fun i=>eComp (nth b.1 i)) b.1.length fun i=>eComp (nth b.1 i))∧(SEq b.2.length (fun i=>eI (nth b.2 i)) b.2.length fun i=>eI (nth b.2 i))∧SEq b.3.length (fun i=>eI (nth b.3 i)) b.3.length fun i=>eI (nth b.3 i))∧∀ (k1:Nat),k1≤List.length (Book.dues b)→b.2.length≤maxLen→(decide ((↑k1:Int)<(↑b.2.length:Int))=true→((0:Int)≤(↑k1:Int)∧(↑k1:Int)<(↑b.2.length:Int))∧Computes Tryz.prog Gl 110 [str [(116:UInt8),(97:UInt8),(98:UInt8),(108:UInt8),(101:UInt8)],T.d (D.c (C.s Tag.n (1:Nat) fun i=>List.getD [List.map C.dem [C.v (Value.int IntKind.i64 (nth (Book.dues b) k1))]] i []))] (.ret (str ([(116:UInt8),(97:UInt8),(98:UInt8),(108:UInt8),(101:UInt8)] ++ nums [nth (Book.dues b) k1])))∧(List.length (rowsTo b b.1.length k1 (0:Nat))+(1:Nat))*(16:Nat)≤(140737488355328:Nat)∧List.length (rowsTo b b.1.length k1 (0:Nat))+(1:Nat)≤(140737488355328:Nat)∧inRange IntKind.i64 ((↑k1:Int)+(1:Int))∧k1<List.length (Book.dues b)∧(↑k1:Int)+(1:Int)=(↑(k1+(1:Nat)):Int)∧(SEq (List.length (rowsTo b b.1.length k1 (0:Nat))+(1:Nat)) (catF (List.length (rowsTo b b.1.length k1 (0:Nat))) (fun i=>eS (nth (rowsTo b b.1.length k1 (0:Nat)) i)) fun i=>List.getD [List.map C.dem [C.v (Value.string (bs ([(116:UInt8),(97:UInt8),(98:UInt8),(108:UInt8),(101:UInt8)] ++ nums [nth b.2 k1])))]] i []) (List.length (rowsTo b b.1.length (k1+(1:Nat)) (0:Nat))) fun i=>eS (nth (rowsTo b b.1.length (k1+(1:Nat)) (0:Nat)) i))∧(SEq b.1.length (fun i=>eComp (nth b.1 i)) b.1.length fun i=>eComp (nth b.1 i))∧(SEq b.2.length (fun i=>eI (nth b.2 i)) b.2.length fun i=>eI (nth b.2 i))∧SEq b.3.length (fun i=>eI (nth b.3 i)) b.3.length fun i=>eI (nth b.3 i))∧(decide ((↑k1:Int)<(↑b.2.length:Int))=false→((0:Int)=(↑(0:Nat):Int)∧(SEq (List.length (rowsTo b b.1.length k1 (0:Nat))) (fun i=>eS (nth (rowsTo b b.1.length k1 (0:Nat)) i)) (List.length (rowsTo b b.1.length b.2.length (0:Nat))) fun i=>eS (nth (rowsTo b b.1.length b.2.length (0:Nat)) i))∧(SEq b.1.length (fun i=>eComp (nth b.1 i)) b.1.length fun i=>eComp (nth b.1 i))∧(SEq b.2.length (fun i=>eI (nth b.2 i)) b.2.length fun i=>eI (nth b.2 i))∧SEq b.3.length (fun i=>eI (nth b.3 i)) b.3.length fun i=>eI (nth b.3 i))∧∀ (k2:Nat),k2≤List.length (Book.sheets b)→b.3.length≤maxLen→(decide ((↑k2:Int)<(↑b.3.length:Int))=true→((0:Int)≤(↑k2:Int)∧(↑k2:Int)<(↑b.3.length:Int))∧Computes Tryz.prog Gl 110 [str [(115:UInt8),(104:UInt8),(101:UInt8),(101:UInt8),(116:UInt8)],T.d (D.c (C.s Tag.n (1:Nat) fun i=>List.getD [List.map C.dem [C.v (Value.int IntKind.i64 (nth (Book.sheets b) k2))]] i []))] (.ret (str ([(115:UInt8),(104:UInt8),(101:UInt8),(101:UInt8),(116:UInt8)] ++ nums [nth (Book.sheets b) k2])))∧(List.length (rowsTo b b.1.length b.2.length k2)+(1:Nat))*(16:Nat)≤(140737488355328:Nat)∧List.length (rowsTo b b.1.length b.2.length k2)+(1:Nat)≤(140737488355328:Nat)∧inRange IntKind.i64 ((↑k2:Int)+(1:Int))∧k2<List.length (Book.sheets b)∧(↑k2:Int)+(1:Int)=(↑(k2+(1:Nat)):Int)∧(SEq (List.length (rowsTo b b.1.length b.2.length k2)+(1:Nat)) (catF (List.length (rowsTo b b.1.length b.2.length k2)) (fun i=>eS (nth (rowsTo b b.1.length b.2.length k2) i)) fun i=>List.getD [List.map C.dem [C.v (Value.string (bs ([(115:UInt8),(104:UInt8),(101:UInt8),(101:UInt8),(116:UInt8)] ++ nums [nth b.3 k2])))]] i []) (List.length (rowsTo b b.1.length b.2.length (k2+(1:Nat)))) fun i=>eS (nth (rowsTo b b.1.length b.2.length (k2+(1:Nat))) i))∧(SEq b.1.length (fun i=>eComp (nth b.1 i)) b.1.length fun i=>eComp (nth b.1 i))∧(SEq b.2.length (fun i=>eI (nth b.2 i)) b.2.length fun i=>eI (nth b.2 i))∧SEq b.3.length (fun i=>eI (nth b.3 i)) b.3.length fun i=>eI (nth b.3 i))∧(decide ((↑k2:Int)<(↑b.3.length:Int))=false→Computes Tryz.prog Gl 111 [L eS (rowsTo b (List.length (Book.comps b)) (List.length (Book.dues b)) k2),I 251] (.ret (str (sealed (rowsTo b (List.length (Book.comps b)) (List.length (Book.dues b)) k2))))∧bs (sealed (rowsTo b b.1.length b.2.length k2))=bs (Book.text b))))) (by kernel_rfl) ?_
  obtain ⟨hc, hd, hs, hn⟩ := id hb
  have hall : rowsTo b b.comps.length b.dues.length b.sheets.length = b.rows := by unfold rowsTo Book.rows; rw [lnsTo_all]
  have hrl : ∀ i j k, (rowsTo b i j k).length ≤ 1 + i + j + k := fun i j k => by unfold rowsTo; rw [List.length_map]; exact lnsTo_len b i j k
  have hsc : ∀ k, k < b.comps.length → ∀ n ∈ lnN (.comp (nth b.comps k)), sm n := fun k hk => hn _ (by
    unfold Book.lns
    simp only [List.mem_cons, List.mem_append, List.mem_map]
    exact .inr (.inl (.inl ⟨_, nth_mem hk, rfl⟩)))
  have hsd : ∀ k, k < b.dues.length → ∀ n ∈ [nth b.dues k], sm n := fun k hk => hn (.due (nth b.dues k)) (by
    unfold Book.lns
    simp only [List.mem_cons, List.mem_append, List.mem_map]
    exact .inr (.inl (.inr ⟨_, nth_mem hk, rfl⟩)))
  have hss : ∀ k, k < b.sheets.length → ∀ n ∈ [nth b.sheets k], sm n := fun k hk => hn (.sheet (nth b.sheets k)) (by
    unfold Book.lns
    simp only [List.mem_cons, List.mem_append, List.mem_map]
    exact .inr (.inr ⟨_, nth_mem hk, rfl⟩))
  have q0 : SEq 1 (fun i => [List.map C.dem [C.v (Value.string { data := #[103, 105, 118, 101] })]].getD i []) (rowsTo b 0 0 0).length (fun i => eS (nth (rowsTo b 0 0 0) i)) := by
    refine ⟨rfl, fun i hi => .inl ?_⟩
    have : i = 0 := by omega
    subst this
    rfl
  simp only [stdS, imp_self, implies_true, and_true]
  refine ⟨⟨q0, trivial⟩, fun k0 hk0 _ => ⟨fun hlt => ?_, fun hlt => ?_⟩⟩
  · have hlt : k0 < b.comps.length := by simpa using hlt
    have := hrl k0 0 0
    refine ⟨⟨by omega, by omega⟩, rowR S _ (by show 8 ≤ 100; decide) (lnN (.comp (nth b.comps k0))) (by show 7 ≤ 1000; decide) (hsc k0 hlt) 7 _ ⟨rfl, fun i hi => ?_⟩, by omega, by omega, (rng_iff _).2 (by omega), hlt, rfl, SEq_push1 (x := lnT (.comp (nth b.comps k0))) ?_ rfl, trivial⟩
    · have : i = 0 ∨ i = 1 ∨ i = 2 ∨ i = 3 ∨ i = 4 ∨ i = 5 ∨ i = 6 := by omega
      rcases this with rfl | rfl | rfl | rfl | rfl | rfl | rfl <;> exact .inl rfl
    · unfold rowsTo; rw [lnsTo_c hlt, List.map_append]; rfl
  obtain rfl : k0 = b.comps.length := by
    have : ¬ k0 < b.comps.length := by simpa using hlt
    omega
  refine ⟨⟨SEq_whole rfl, trivial⟩, fun k1 hk1 _ => ⟨fun hlt => ?_, fun hlt => ?_⟩⟩
  · have hlt : k1 < b.dues.length := by simpa using hlt
    have := hrl b.comps.length k1 0
    refine ⟨⟨by omega, by omega⟩, rowR S _ (by show 5 ≤ 100; decide) [nth b.dues k1] (by show 1 ≤ 1000; decide) (hsd k1 hlt) 1 _ (seq1 rfl), by omega, by omega, (rng_iff _).2 (by omega), hlt, rfl, SEq_push1 (x := lnT (.due (nth b.dues k1))) ?_ rfl, trivial⟩
    unfold rowsTo; rw [lnsTo_d hlt, List.map_append]; rfl
  obtain rfl : k1 = b.dues.length := by
    have : ¬ k1 < b.dues.length := by simpa using hlt
    omega
  refine ⟨⟨SEq_whole rfl, trivial⟩, fun k2 hk2 _ => ⟨fun hlt => ?_, fun hlt => ?_⟩⟩
  · have hlt : k2 < b.sheets.length := by simpa using hlt
    have := hrl b.comps.length b.dues.length k2
    refine ⟨⟨by omega, by omega⟩, rowR S _ (by show 5 ≤ 100; decide) [nth b.sheets k2] (by show 1 ≤ 1000; decide) (hss k2 hlt) 1 _ (seq1 rfl), by omega, by omega, (rng_iff _).2 (by omega), hlt, rfl, SEq_push1 (x := lnT (.sheet (nth b.sheets k2))) ?_ rfl, trivial⟩
    unfold rowsTo; rw [lnsTo_s hlt, List.map_append]; rfl
  obtain rfl : k2 = b.sheets.length := by
    have : ¬ k2 < b.sheets.length := by simpa using hlt
    omega
  rw [hall]
  refine ⟨sealed111 S b.rows (by rw [rows_len]; exact lns_len hb) (fun i hi => ?_), rfl⟩
  rw [rows_len] at hi
  rw [rows_nth hi]
  exact ln_len (hn _ (nth_mem hi))
end Go.Vc.Gd
namespace Go.Vc.Gd
open Go Go.Proofs Go.Vc
variable {Gl : World → Prop}
def exA : Book := ⟨[⟨0, ⟨1, 2⟩, ⟨2, 3⟩, ⟨1, 1⟩⟩, ⟨1, ⟨0, 1⟩, ⟨1, 2⟩, ⟨1, 2⟩⟩, ⟨0, ⟨0, 0⟩, ⟨3, 3⟩, ⟨1, 1⟩⟩], [12, 9], [0, 1]⟩
theorem task75 (S : Set Tryz.prog Y Gl) (x y z : Int) : Computes Tryz.prog Gl 75 [I x, I y, I z] (.ret (.d (.agg [Ci x, Ci y, Ci z]))) := by
  refine fn_is S (.nil) Tryz.func75 (by kernel_rfl) (x=x∧y=y∧z=z) (by kernel_rfl) ?_
  simp only [stdS, imp_self, implies_true, and_true]
theorem span39 (S : Set Tryz.prog Y Gl) (x y : Int) : Computes Tryz.prog Gl 39 [I x, I y] (.ret (.d (.agg [Ci x, Ci y]))) := by
  refine fn_is S (.nil) Tryz.func39 (by kernel_rfl) (x=x∧y=y) (by kernel_rfl) ?_
  simp only [stdS, imp_self, implies_true, and_true]
theorem short26 (S : Set Tryz.prog Y Gl) (b : Book) : Computes Tryz.prog Gl 26 [tBook b] (.ret (B (decide (b.comps.length ≤ 6) && (decide (b.dues.length ≤ 4) && decide (b.sheets.length ≤ 5))))) := by
  refine fn_is S (.nil) Tryz.func26 (by kernel_rfl) (b.1.length≤maxLen→(eqB (decide ((↑b.1.length:Int)≤(6:Int))) true=true→eqB (decide ((↑b.1.length:Int)≤(6:Int))) true=true)∧(eqB (decide ((↑b.1.length:Int)≤(6:Int))) true=true→eqB (decide ((↑b.1.length:Int)≤(6:Int))) true=true)∧((eqB (decide ((↑b.1.length:Int)≤(6:Int))) true=true→b.2.length≤maxLen)→(eqB (decide ((↑b.1.length:Int)≤(6:Int))) true=true→eqB (decide ((↑b.1.length:Int)≤(6:Int))) true=true)∧(decide ((↑b.1.length:Int)≤(6:Int))=true→eqB (decide ((↑b.1.length:Int)≤(6:Int))) true=true)∧(eqB (bif decide ((↑b.1.length:Int)≤(6:Int)) then decide ((↑b.2.length:Int)≤(4:Int)) else false) true=true→eqB (bif decide ((↑b.1.length:Int)≤(6:Int)) then decide ((↑b.2.length:Int)≤(4:Int)) else false) true=true)∧(eqB (bif decide ((↑b.1.length:Int)≤(6:Int)) then decide ((↑b.2.length:Int)≤(4:Int)) else false) true=true→eqB (bif decide ((↑b.1.length:Int)≤(6:Int)) then decide ((↑b.2.length:Int)≤(4:Int)) else false) true=true)∧((eqB (bif decide ((↑b.1.length:Int)≤(6:Int)) then decide ((↑b.2.length:Int)≤(4:Int)) else false) true=true→b.3.length≤maxLen)→(eqB (bif decide ((↑b.1.length:Int)≤(6:Int)) then decide ((↑b.2.length:Int)≤(4:Int)) else false) true=true→eqB (bif decide ((↑b.1.length:Int)≤(6:Int)) then decide ((↑b.2.length:Int)≤(4:Int)) else false) true=true)∧((bif decide ((↑b.1.length:Int)≤(6:Int)) then decide ((↑b.2.length:Int)≤(4:Int)) else false)=true→eqB (bif decide ((↑b.1.length:Int)≤(6:Int)) then decide ((↑b.2.length:Int)≤(4:Int)) else false) true=true)∧(bif bif decide ((↑b.1.length:Int)≤(6:Int)) then decide ((↑b.2.length:Int)≤(4:Int)) else false then decide ((↑b.3.length:Int)≤(5:Int)) else false)=(decide (b.1.length≤(6:Nat))&&(decide (b.2.length≤(4:Nat))&&decide (b.3.length≤(5:Nat))))))) (by kernel_rfl) ?_
  simp only [stdS, imp_self, implies_true, and_true]
  have e : ∀ n m : Nat, decide ((n : Int) ≤ (m : Int)) = decide (n ≤ m) := fun n m => by rw [decide_eq_decide]; omega
  refine fun _ _ _ => ?_
  have e6 := e b.comps.length 6
  have e4 := e b.dues.length 4
  have e5 := e b.sheets.length 5
  rw [← e6, ← e4, ← e5]
  rfl
end Go.Vc.Gd
namespace Go.Vc.Gd
open Go Go.Proofs Go.Vc
variable {Gl : World → Prop}
theorem a74 (S : Set Tryz.prog Y Gl)  : Computes Tryz.prog Gl 74 [] (.ret (tBook exA)) := by
  refine fn_is S (.r (.ret (T.d (D.agg [Ci 1,Ci 2]))) (.r (.ret (T.d (D.agg [Ci 2,Ci 3]))) (.r (.ret (T.d (D.agg [Ci 1,Ci 1]))) (.r (.ret (T.d (D.agg [Ci 0,Ci 1]))) (.r (.ret (T.d (D.agg [Ci 1,Ci 2]))) (.r (.ret (T.d (D.agg [Ci 1,Ci 2]))) (.r (.ret (T.d (D.agg [Ci 3,Ci 3]))) (.r (.ret (T.d (D.agg [Ci 1,Ci 1]))) .nil)))))))) Tryz.func74 (by kernel_rfl) (Computes Tryz.prog Gl 39 [I 1,I 2] (.ret (T.d (D.agg [Ci 1,Ci 2])))∧Computes Tryz.prog Gl 39 [I 2,I 3] (.ret (T.d (D.agg [Ci 2,Ci 3])))∧Computes Tryz.prog Gl 39 [I 1,I 1] (.ret (T.d (D.agg [Ci 1,Ci 1])))∧Computes Tryz.prog Gl 39 [I 0,I 1] (.ret (T.d (D.agg [Ci 0,Ci 1])))∧Computes Tryz.prog Gl 39 [I 1,I 2] (.ret (T.d (D.agg [Ci 1,Ci 2])))∧Computes Tryz.prog Gl 39 [I 1,I 2] (.ret (T.d (D.agg [Ci 1,Ci 2])))∧Computes Tryz.prog Gl 39 [I 3,I 3] (.ret (T.d (D.agg [Ci 3,Ci 3])))∧Computes Tryz.prog Gl 39 [I 1,I 1] (.ret (T.d (D.agg [Ci 1,Ci 1])))∧(SEq (3:Nat) (fun i=>List.getD [List.map C.dem (List.map C.dem [C.v (Value.int IntKind.i64 (0:Int)),C.v (Value.int IntKind.i64 (1:Int)),C.v (Value.int IntKind.i64 (2:Int)),C.v (Value.int IntKind.i64 (2:Int)),C.v (Value.int IntKind.i64 (3:Int)),C.v (Value.int IntKind.i64 (1:Int)),C.v (Value.int IntKind.i64 (1:Int))]),List.map C.dem (List.map C.dem [C.v (Value.int IntKind.i64 (1:Int)),C.v (Value.int IntKind.i64 (0:Int)),C.v (Value.int IntKind.i64 (1:Int)),C.v (Value.int IntKind.i64 (1:Int)),C.v (Value.int IntKind.i64 (2:Int)),C.v (Value.int IntKind.i64 (1:Int)),C.v (Value.int IntKind.i64 (2:Int))]),List.map C.dem (List.map C.dem [C.v (Value.int IntKind.i64 (0:Int)),C.v (Value.int IntKind.i64 (0:Int)),C.v (Value.int IntKind.i64 (0:Int)),C.v (Value.int IntKind.i64 (3:Int)),C.v (Value.int IntKind.i64 (3:Int)),C.v (Value.int IntKind.i64 (1:Int)),C.v (Value.int IntKind.i64 (1:Int))])] i []) (List.length [Comp.mk (0:Int) (Span.mk (1:Int) (2:Int)) (Span.mk (2:Int) (3:Int)) (Span.mk (1:Int) (1:Int)),Comp.mk (1:Int) (Span.mk (0:Int) (1:Int)) (Span.mk (1:Int) (2:Int)) (Span.mk (1:Int) (2:Int)),Comp.mk (0:Int) (Span.mk (0:Int) (0:Int)) (Span.mk (3:Int) (3:Int)) (Span.mk (1:Int) (1:Int))]) fun i=>eComp (nth [Comp.mk (0:Int) (Span.mk (1:Int) (2:Int)) (Span.mk (2:Int) (3:Int)) (Span.mk (1:Int) (1:Int)),Comp.mk (1:Int) (Span.mk (0:Int) (1:Int)) (Span.mk (1:Int) (2:Int)) (Span.mk (1:Int) (2:Int)),Comp.mk (0:Int) (Span.mk (0:Int) (0:Int)) (Span.mk (3:Int) (3:Int)) (Span.mk (1:Int) (1:Int))] i))∧(SEq (2:Nat) (fun i=>List.getD [List.map C.dem [C.v (Value.int IntKind.i64 (12:Int))],List.map C.dem [C.v (Value.int IntKind.i64 (9:Int))]] i []) (List.length [(12:Int),(9:Int)]) fun i=>eI (nth [(12:Int),(9:Int)] i))∧SEq (2:Nat) (fun i=>List.getD [List.map C.dem [C.v (Value.int IntKind.i64 (0:Int))],List.map C.dem [C.v (Value.int IntKind.i64 (1:Int))]] i []) (List.length [(0:Int),(1:Int)]) fun i=>eI (nth [(0:Int),(1:Int)] i)) (by kernel_rfl) ?_
  have three : ∀ i, i < 3 → i = 0 ∨ i = 1 ∨ i = 2 := fun i h => by omega
  have two : ∀ i, i < 2 → i = 0 ∨ i = 1 := fun i h => by omega
  refine ⟨span39 S _ _, span39 S _ _, span39 S _ _, span39 S _ _, span39 S _ _, span39 S _ _, span39 S _ _, span39 S _ _, ⟨rfl, fun i hi => ?_⟩, ⟨rfl, fun i hi => ?_⟩, ⟨rfl, fun i hi => ?_⟩⟩
  · rcases three i hi with rfl | rfl | rfl <;> exact .inl rfl
  · rcases two i hi with rfl | rfl <;> exact .inl rfl
  · rcases two i hi with rfl | rfl <;> exact .inl rfl
end Go.Vc.Gd
namespace Go.Vc.Gd
open Go Go.Proofs Go.Vc
variable {Gl : World → Prop}
def exP : List Task := [⟨0, 1, 2⟩, ⟨1, 2, 0⟩]
def exR : List Task := [⟨1, 2, 0⟩, ⟨0, 1, 2⟩]
theorem p76 (S : Set Tryz.prog Y Gl)  : Computes Tryz.prog Gl 76 [] (.ret (L eTask exP)) := by
  refine fn_is S (.r (.ret (T.d (D.agg [Ci 0,Ci 1,Ci 2]))) (.r (.ret (T.d (D.agg [Ci 1,Ci 2,Ci 0]))) .nil)) Tryz.func76 (by kernel_rfl) (Computes Tryz.prog Gl 75 [I 0,I 1,I 2] (.ret (T.d (D.agg [Ci 0,Ci 1,Ci 2])))∧Computes Tryz.prog Gl 75 [I 1,I 2,I 0] (.ret (T.d (D.agg [Ci 1,Ci 2,Ci 0])))∧SEq (2:Nat) (fun i=>List.getD [List.map C.dem (List.map C.dem [C.v (Value.int IntKind.i64 (0:Int)),C.v (Value.int IntKind.i64 (1:Int)),C.v (Value.int IntKind.i64 (2:Int))]),List.map C.dem (List.map C.dem [C.v (Value.int IntKind.i64 (1:Int)),C.v (Value.int IntKind.i64 (2:Int)),C.v (Value.int IntKind.i64 (0:Int))])] i []) exP.length fun i=>eTask (nth exP i)) (by kernel_rfl) ?_
  have two : ∀ i, i < 2 → i = 0 ∨ i = 1 := fun i h => by omega
  refine ⟨task75 S _ _ _, task75 S _ _ _, ⟨rfl, fun i hi => ?_⟩⟩
  rcases two i hi with rfl | rfl <;> exact .inl rfl
theorem r77 (S : Set Tryz.prog Y Gl)  : Computes Tryz.prog Gl 77 [] (.ret (L eTask exR)) := by
  refine fn_is S (.r (.ret (T.d (D.agg [Ci 1,Ci 2,Ci 0]))) (.r (.ret (T.d (D.agg [Ci 0,Ci 1,Ci 2]))) .nil)) Tryz.func77 (by kernel_rfl) (Computes Tryz.prog Gl 75 [I 1,I 2,I 0] (.ret (T.d (D.agg [Ci 1,Ci 2,Ci 0])))∧Computes Tryz.prog Gl 75 [I 0,I 1,I 2] (.ret (T.d (D.agg [Ci 0,Ci 1,Ci 2])))∧SEq (2:Nat) (fun i=>List.getD [List.map C.dem (List.map C.dem [C.v (Value.int IntKind.i64 (1:Int)),C.v (Value.int IntKind.i64 (2:Int)),C.v (Value.int IntKind.i64 (0:Int))]),List.map C.dem (List.map C.dem [C.v (Value.int IntKind.i64 (0:Int)),C.v (Value.int IntKind.i64 (1:Int)),C.v (Value.int IntKind.i64 (2:Int))])] i []) exR.length fun i=>eTask (nth exR i)) (by kernel_rfl) ?_
  have two : ∀ i, i < 2 → i = 0 ∨ i = 1 := fun i h => by omega
  refine ⟨task75 S _ _ _, task75 S _ _ _, ⟨rfl, fun i hi => ?_⟩⟩
  rcases two i hi with rfl | rfl <;> exact .inl rfl
end Go.Vc.Gd
namespace Go.Vc.Gd
open Go Go.Proofs Go.Vc
variable {Gl : World → Prop}
end Go.Vc.Gd
namespace Go.Vc.Gd
open Go Go.Proofs Go.Vc
variable {Gl : World → Prop}
end Go.Vc.Gd
namespace Go.Vc.Gd
open Go Go.Proofs Go.Vc
variable {Gl : World → Prop}
end Go.Vc.Gd
namespace Go.Vc.Gd
open Go Go.Proofs Go.Vc
theorem extTo_eq (l : List Task) : ∀ (out : List (List Task)) (k : Nat), k ≤ out.length → extTo out l k = (out.take k).flatMap fun p => l.map fun t => p ++ [t]
  | out, 0, _ => by simp [extTo]
  | out, k + 1, h => by
    rw [extTo, extTo_eq l out k (by omega), take_succ (by omega), List.flatMap_append]
    simp
theorem plansTo_succ (l : List Task) (i : Nat) : plansTo l (i + 1) = (plansTo l i).flatMap fun p => l.map fun t => p ++ [t] := by
  show extTo (plansTo l i) l (plansTo l i).length = _
  rw [extTo_eq l _ _ (Nat.le_refl _), List.take_length]
theorem plansFrom_snoc (all : List Task) : ∀ (d : Nat) (now : List Task), plansFrom all (d + 1) now = (plansFrom all d now).flatMap fun p => all.map fun t => p ++ [t]
  | 0, now => by
    simp only [plansFrom, List.flatMap_cons, List.flatMap_nil, List.append_nil]
    induction all with
    | nil => rfl
    | cons x r ih => simp [ih]
  | d + 1, now => by
    rw [plansFrom]
    conv => rhs; rw [plansFrom]
    rw [List.flatMap_assoc]
    congr 1
    funext x
    exact plansFrom_snoc all d (now ++ [x])
theorem plans_eq (l : List Task) : ∀ i, plansFrom l i [] = plansTo l i
  | 0 => rfl
  | i + 1 => by rw [plansFrom_snoc, plans_eq l i, plansTo_succ]
theorem allPlans_eq (b : Book) : allPlans b = b.plans := plans_eq _ _
end Go.Vc.Gd
namespace Go.Vc.Gd
open Go Go.Proofs Go.Vc
theorem backs_high (b : Book) (plan : List Task) {i : Nat} (h : i < plan.length) : (nth (backs b plan) i).high = nth (days plan (b.ends true) (-1) (-1)) i := by
  unfold backs spansOf
  rw [nth_map (by rw [List.length_range]; unfold days; simpa using h), nth_range (by unfold days; simpa using h)]
theorem span_le (b : Book) (plan : List Task) (n : Nat) {due : Int} (hd : 0 ≤ due) : ∀ k, (spanTo b (backs b plan) n k).high ≤ due ↔ ∀ i, i < k → nth b.sheets i = (n : Int) → (nth (backs b plan) i).high ≤ due
  | 0 => ⟨fun _ i h => absurd h (Nat.not_lt_zero i), fun _ => hd⟩
  | k + 1 => by
    have ih := span_le b plan n hd k
    unfold spanTo
    cases hb : nth b.sheets k == (n : Int) with
    | false =>
      have hne := beq_eq_false_iff_ne.1 hb
      simp only [cond_false]
      rw [ih]
      refine ⟨fun h i hi he => ?_, fun h i hi => h i (by omega)⟩
      rcases Nat.lt_or_ge i k with hh | hh
      · exact h i hh he
      · have : i = k := by omega
        subst this; exact absurd he hne
    | true =>
      have heq := beq_iff_eq.1 hb
      simp only [cond_true]
      rw [Int.max_le, ih]
      refine ⟨fun h i hi he => ?_, fun h => ⟨fun i hi => h i (by omega), h k (by omega) heq⟩⟩
      rcases Nat.lt_or_ge i k with hh | hh
      · exact h.1 i hh he
      · have : i = k := by omega
        subst this; exact h.2
theorem row_due {b : Book} {plan : List Task} (hb : b.ok = true) (hg : b.good plan = true) {n : Nat} (hn : n < b.dues.length) : rowFine b plan n = dueFine ⟨b, plan⟩ n := by
  obtain ⟨_, _, _, _, o5, _⟩ := ok_spec hb
  have hl := (good_spec hg).1
  have hd := (o5 n hn).1
  have ht := tab_span b plan n plan.length (Nat.le_refl _)
  have ht := ht.2
  have hs := span_le b plan n hd plan.length
  have h1 : dueFine ⟨b, plan⟩ n = true ↔ (spanTo b (backs b plan) n plan.length).high ≤ nth b.dues n := by
    unfold dueFine daysOf
    dsimp only
    rw [← hl, ht]
    simp
  have h2 : rowFine b plan n = true ↔ (spanTo b (backs b plan) n plan.length).high ≤ nth b.dues n := by
    unfold rowFine wordAt wordOf lateAt
    rw [backs_len]
    simp only [Bool.or_eq_true, beq_iff_eq, List.all_eq_true, List.mem_range, Bool.not_eq_true', Bool.and_eq_false_iff, beq_eq_false_iff_ne, decide_eq_false_iff_not, Int.not_lt]
    constructor
    · rintro (h | h)
      · cases hc : decide ((spanTo b (backs b plan) n plan.length).high ≤ nth b.dues n) with
        | true => exact of_decide_eq_true hc
        | false =>
          rw [hc, cond_false] at h
          cases hc2 : decide (nth b.dues n < (spanTo b (backs b plan) n plan.length).low) <;> rw [hc2] at h <;> simp at h
      · exact hs.2 fun i hi he => (h i hi).resolve_left fun hne => hne he
    · intro h
      left
      rw [decide_eq_true h]
      rfl
  rw [Bool.eq_iff_iff, h1, h2]
theorem surely_eq {b : Book} {plan : List Task} (hb : b.ok = true) (hg : b.good plan = true) : Work.surely ⟨b, plan⟩ = !isProof b plan := by
  unfold Work.surely isProof
  rw [Bool.not_not, Bool.eq_iff_iff, List.all_eq_true, List.all_eq_true]
  simp only [List.mem_range]
  exact ⟨fun h n hn => by rw [row_due hb hg hn]; exact h n hn, fun h n hn => by rw [← row_due hb hg hn]; exact h n hn⟩
end Go.Vc.Gd
namespace Go.Vc.Gd
open Go Go.Proofs Go.Vc
theorem outTo_eq (rows : List (List UInt8)) : ∀ k, k ≤ rows.length → outTo rows k = (rows.take k).flatMap fun r => r ++ [10]
  | 0, _ => by simp [outTo]
  | k + 1, h => by
    rw [outTo, outTo_eq rows k (by omega), take_succ (by omega), List.flatMap_append]
    simp
theorem outTo_all (rows : List (List UInt8)) : outTo rows rows.length = rows.flatMap fun r => r ++ [10] := by
  rw [outTo_eq rows _ (Nat.le_refl _), List.take_length]
theorem splitL_rows (c : UInt8) (e : List UInt8) : ∀ (rows : List (List UInt8)), (∀ r ∈ rows, c ∉ r) → splitL c ((rows.flatMap fun r => r ++ [c]) ++ e) = rows ++ splitL c e
  | [], _ => rfl
  | r :: rows, h => by
    have ih := splitL_rows c e rows fun x hx => h x (List.mem_cons_of_mem _ hx)
    rw [List.flatMap_cons, List.append_assoc, List.append_assoc, List.singleton_append, splitL_app c _ _ (h r List.mem_cons_self), ih]
    rfl
theorem dec_small {n : Int} (h : sm n) : dec n = decS n.toNat := by
  obtain ⟨m, rfl⟩ := Int.eq_ofNat_of_zero_le h.1
  have hm : m < 100 := by have := h.2; omega
  exact dec_eq hm
theorem decS_bytes : ∀ n : Nat, n < 100 → (decS n).all isDig = true := by decide
theorem dec_bytes {n : Int} (h : sm n) {c : UInt8} (hc : c ∈ dec n) : isDig c = true := by
  rw [dec_small h] at hc
  exact List.all_eq_true.1 (decS_bytes n.toNat (by have := h.2; have := h.1; omega)) c hc
theorem dec_none {n : Int} (h : sm n) {c : UInt8} (hc : isDig c = false) : c ∉ dec n := fun hh => by
  rw [dec_bytes h hh] at hc; cases hc
theorem splitL_nums (w : List UInt8) (hw : (32 : UInt8) ∉ w) : ∀ (l : List Int), (∀ n ∈ l, sm n) → splitL 32 (w ++ nums l) = w :: l.map dec
  | [], _ => by rw [show nums [] = [] from rfl, List.append_nil, splitL_none 32 w hw]; rfl
  | n :: l, h => by
    have ih := splitL_nums (dec n) (dec_none (h n List.mem_cons_self) rfl) l fun x hx => h x (List.mem_cons_of_mem _ hx)
    have e : nums (n :: l) = 32 :: (dec n ++ nums l) := by unfold nums; simp
    rw [e, splitL_app 32 w _ hw, ih]
    rfl
theorem lnW_no : ∀ l : Ln, (32 : UInt8) ∉ lnW l ∧ (10 : UInt8) ∉ lnW l
  | .head => by show (32 : UInt8) ∉ lGive ∧ (10 : UInt8) ∉ lGive; decide
  | .comp _ => by show (32 : UInt8) ∉ lComputer ∧ (10 : UInt8) ∉ lComputer; decide
  | .due _ => by show (32 : UInt8) ∉ lTable ∧ (10 : UInt8) ∉ lTable; decide
  | .sheet _ => by show (32 : UInt8) ∉ lSheet ∧ (10 : UInt8) ∉ lSheet; decide
theorem nums_no10 : ∀ {l : List Int}, (∀ n ∈ l, sm n) → (10 : UInt8) ∉ nums l
  | [], _ => by simp [nums]
  | n :: l, h => by
    have ih := nums_no10 (l := l) fun x hx => h x (List.mem_cons_of_mem _ hx)
    have e : nums (n :: l) = 32 :: (dec n ++ nums l) := by unfold nums; simp
    have h1 := dec_none (h n List.mem_cons_self) (c := 10) rfl
    rw [e]
    simp only [List.mem_cons, List.mem_append, not_or]
    exact ⟨by decide, h1, ih⟩
theorem lnT_no10 {l : Ln} (h : ∀ n ∈ lnN l, sm n) : (10 : UInt8) ∉ lnT l := by
  unfold lnT
  simp only [List.mem_append, not_or]
  exact ⟨(lnW_no l).2, nums_no10 h⟩
theorem lnT_split {l : Ln} (h : ∀ n ∈ lnN l, sm n) : splitL 32 (lnT l) = lnW l :: (lnN l).map dec := splitL_nums _ (lnW_no l).1 _ h
theorem lnT_tl {l : Ln} (h : ∀ n ∈ lnN l, sm n) : tl (lnT l) = (lnN l).map dec := by unfold tl; rw [lnT_split h]; rfl
theorem lnT_hd {l : Ln} (h : ∀ n ∈ lnN l, sm n) : hd (lnT l) = lnW l := by unfold hd; rw [lnT_split h]; rfl
theorem numV_dec {n : Int} (h : sm n) : numV (dec n) = n := by unfold numV; rw [numOf_dec h]; rfl
theorem isNum_dec {n : Int} (h : sm n) : isNum (dec n) = true := by unfold isNum; rw [numOf_dec h]; rfl
theorem map_numV : ∀ {l : List Int}, (∀ n ∈ l, sm n) → (l.map dec).map numV = l
  | [], _ => rfl
  | n :: l, h => by
    rw [List.map_cons, List.map_cons, numV_dec (h n List.mem_cons_self), map_numV (l := l) fun x hx => h x (List.mem_cons_of_mem _ hx)]
theorem lnT_ns {l : Ln} (h : ∀ n ∈ lnN l, sm n) : ns (lnT l) = lnN l := by
  unfold ns nsTo
  rw [List.take_length, lnT_tl h, map_numV h]
def addLn (b : Book) : Ln → Book
  | .head => b
  | .comp c => ⟨b.comps ++ [c], b.dues, b.sheets⟩
  | .due n => ⟨b.comps, b.dues ++ [n], b.sheets⟩
  | .sheet n => ⟨b.comps, b.dues, b.sheets ++ [n]⟩
def Ln.isHead : Ln → Bool
  | .head => true
  | _ => false
theorem rowOK_ln {l : Ln} (h : ∀ n ∈ lnN l, sm n) (hh : l.isHead = false) : rowOK (lnT l) = true := by
  unfold rowOK rowShape
  rw [lnT_ns h, lnT_hd h, lnT_tl h, Bool.and_eq_true]
  constructor
  · rw [List.all_eq_true]
    intro x hx
    obtain ⟨n, hn, rfl⟩ := List.mem_map.1 hx
    exact isNum_dec (h n hn)
  · cases l with
    | head => cases hh
    | comp c => rfl
    | due n => rfl
    | sheet n => rfl
theorem rowB_ln {b : Book} {l : Ln} (h : ∀ n ∈ lnN l, sm n) (hh : l.isHead = false) : rowB b (lnT l) = addLn b l := by
  unfold rowB
  rw [lnT_ns h, lnT_hd h]
  cases l with
  | head => cases hh
  | comp c => rfl
  | due n => rfl
  | sheet n => rfl
theorem bookTo_ln (ls : List Ln) (h : ∀ l ∈ ls, (∀ n ∈ lnN l, sm n) ∧ l.isHead = false) : ∀ k, k ≤ ls.length → bookTo (ls.map lnT) k = (ls.take k).foldl addLn ⟨[], [], []⟩
  | 0, _ => by simp [bookTo]
  | k + 1, hk => by
    have hm := h _ (nth_mem (l := ls) (k := k) (by omega))
    rw [bookTo, bookTo_ln ls h k (by omega), nth_map (by omega), rowB_ln hm.1 hm.2, take_succ (by omega), List.foldl_append]
    rfl
theorem fold_comp : ∀ (l : List Comp) (b : Book), (l.map Ln.comp).foldl addLn b = ⟨b.comps ++ l, b.dues, b.sheets⟩
  | [], b => by simp
  | c :: l, b => by rw [List.map_cons, List.foldl_cons, fold_comp l]; simp [addLn]
theorem fold_due : ∀ (l : List Int) (b : Book), (l.map Ln.due).foldl addLn b = ⟨b.comps, b.dues ++ l, b.sheets⟩
  | [], b => by simp
  | c :: l, b => by rw [List.map_cons, List.foldl_cons, fold_due l]; simp [addLn]
theorem fold_sheet : ∀ (l : List Int) (b : Book), (l.map Ln.sheet).foldl addLn b = ⟨b.comps, b.dues, b.sheets ++ l⟩
  | [], b => by simp
  | c :: l, b => by rw [List.map_cons, List.foldl_cons, fold_sheet l]; simp [addLn]
theorem sumTo_nonneg (w : List UInt8) (i : Nat) : ∀ k, 0 ≤ sumTo w i k
  | 0 => Int.le_refl _
  | k + 1 => by
    have := sumTo_nonneg w i k
    unfold sumTo
    have h2 : (0 : Int) ≤ ((nth w k).toNat : Int) * ((k : Int) + 1) * ((i : Int) + 1) := by
      have : ((nth w k).toNat : Int) * ((k : Int) + 1) * ((i : Int) + 1) = (((nth w k).toNat * (k + 1) * (i + 1) : Nat) : Int) := by push_cast; rfl
      rw [this]; exact Int.natCast_nonneg _
    omega
theorem checkTo_nonneg (rows : List (List UInt8)) : ∀ i, 0 ≤ checkTo rows i
  | 0 => Int.le_refl _
  | i + 1 => by
    have h1 := checkTo_nonneg rows i
    have h2 := sumTo_nonneg (nth rows i) i (nth rows i).length
    unfold checkTo
    omega
theorem checkOf_range (rows : List (List UInt8)) : 0 ≤ checkOf rows ∧ checkOf rows < 251 := by
  have h := checkTo_nonneg rows rows.length
  unfold checkOf
  rw [Int.tmod_eq_emod_of_nonneg h]
  omega
theorem check_digits (rows : List (List UInt8)) : sm (Int.tdiv (checkOf rows) 100) ∧ sm (Int.tmod (Int.tdiv (checkOf rows) 10) 10) ∧ sm (Int.tmod (checkOf rows) 10) := by
  have h := checkOf_range rows
  have h2 : 0 ≤ checkOf rows / 10 := by omega
  unfold sm
  rw [Int.tdiv_eq_ediv_of_nonneg h.1, Int.tdiv_eq_ediv_of_nonneg h.1, Int.tmod_eq_emod_of_nonneg h2, Int.tmod_eq_emod_of_nonneg h.1]
  omega
def sealLn (rows : List (List UInt8)) : List UInt8 := lEnd ++ dec (Int.tdiv (checkOf rows) 100) ++ dec (Int.tmod (Int.tdiv (checkOf rows) 10) 10) ++ dec (Int.tmod (checkOf rows) 10)
theorem sealLn_no (rows : List (List UInt8)) : (10 : UInt8) ∉ sealLn rows := by
  obtain ⟨h1, h2, h3⟩ := check_digits rows
  unfold sealLn
  simp only [List.mem_append, not_or]
  exact ⟨⟨⟨by decide, dec_none h1 rfl⟩, dec_none h2 rfl⟩, dec_none h3 rfl⟩
theorem sealed_split (rows : List (List UInt8)) (h : ∀ r ∈ rows, (10 : UInt8) ∉ r) : splitL 10 (sealed rows) = rows ++ [sealLn rows, []] := by
  have e : sealed rows = (rows.flatMap fun r => r ++ [10]) ++ (sealLn rows ++ 10 :: []) := by
    unfold sealed sealLn
    rw [outTo_all]
    simp only [List.append_assoc]
  rw [e, splitL_rows 10 _ rows h, splitL_app 10 _ _ (sealLn_no rows)]
  rfl
theorem rows_no10 {b : Book} (hb : b.low) : ∀ r ∈ b.rows, (10 : UInt8) ∉ r := by
  intro r hr
  unfold Book.rows at hr
  obtain ⟨l, hl, rfl⟩ := List.mem_map.1 hr
  exact lnT_no10 (hb.n l hl)
def Book.body (b : Book) : List Ln := b.comps.map .comp ++ b.dues.map .due ++ b.sheets.map .sheet
theorem body_head {b : Book} : ∀ l ∈ b.body, l.isHead = false := by
  intro l hl
  unfold Book.body at hl
  simp only [List.mem_append, List.mem_map] at hl
  rcases hl with (⟨_, _, rfl⟩ | ⟨_, _, rfl⟩) | ⟨_, _, rfl⟩ <;> rfl
theorem body_fold (b : Book) : b.body.foldl addLn ⟨[], [], []⟩ = b := by
  unfold Book.body
  rw [List.foldl_append, List.foldl_append, fold_comp, fold_due, fold_sheet]
  simp
theorem text_split {b : Book} (hb : b.low) : splitL 10 b.text = b.rows ++ [sealLn b.rows, []] := sealed_split _ (rows_no10 hb)
theorem rows_cons (b : Book) : b.rows = lnT .head :: b.body.map lnT := rfl
theorem text_mid {b : Book} (hb : b.low) : mid b.text = b.body.map lnT := by
  unfold mid
  rw [text_split hb, rows_cons]
  simp
theorem parse_of_text {b : Book} (hb : b.low) : parse b.text = some b := by
  have hn : ∀ l ∈ b.body, (∀ n ∈ lnN l, sm n) ∧ l.isHead = false := fun l hl => ⟨hb.n l (List.mem_cons_of_mem _ hl), body_head l hl⟩
  have hbook : bookTo (b.body.map lnT) (b.body.map lnT).length = b := by
    rw [List.length_map, bookTo_ln _ hn _ (Nat.le_refl _), List.take_length, body_fold]
  have hall : (b.body.map lnT).all rowOK = true := by
    rw [List.all_eq_true]
    intro r hr
    obtain ⟨l, hl, rfl⟩ := List.mem_map.1 hr
    exact rowOK_ln (hn l hl).1 (hn l hl).2
  have h3 : 3 ≤ (splitL 10 b.text).length := by
    rw [text_split hb, rows_cons]; simp
  unfold parse
  rw [text_mid hb, hbook, hall, decide_eq_true h3, beq_self_eq_true]
  rfl
def numsS (l : List Int) : List UInt8 := l.flatMap fun n => 32 :: decS n.toNat
def Book.rowsS (b : Book) : List (List UInt8) := b.lns.map fun l => lnW l ++ numsS (lnN l)
def sealedS (rows : List (List UInt8)) : List UInt8 := outTo rows rows.length ++ lEnd ++ decS (Int.tdiv (checkOf rows) 100).toNat ++ decS (Int.tmod (Int.tdiv (checkOf rows) 10) 10).toNat ++ decS (Int.tmod (checkOf rows) 10).toNat ++ [10]
theorem nums_S : ∀ {l : List Int}, (∀ n ∈ l, sm n) → nums l = numsS l
  | [], _ => rfl
  | n :: l, h => by
    have ih := nums_S (l := l) fun x hx => h x (List.mem_cons_of_mem _ hx)
    unfold nums numsS at ih ⊢
    rw [List.flatMap_cons, List.flatMap_cons, ih, dec_small (h n List.mem_cons_self)]
theorem rows_S {b : Book} (hb : b.low) : b.rows = b.rowsS := by
  unfold Book.rows Book.rowsS
  refine List.map_congr_left fun l hl => ?_
  unfold lnT
  rw [nums_S (hb.n l hl)]
theorem text_S {b : Book} (hb : b.low) : b.text = sealedS b.rowsS := by
  obtain ⟨h1, h2, h3⟩ := check_digits b.rowsS
  unfold Book.text sealed sealedS
  rw [rows_S hb, dec_small h1, dec_small h2, dec_small h3]
def exT : Book := ⟨[⟨0, ⟨0, 0⟩, ⟨1, 1⟩, ⟨1, 1⟩⟩], [0], [0]⟩
def txT : List UInt8 := [103, 105, 118, 101, 10, 99, 111, 109, 112, 117, 116, 101, 114, 32, 48, 32, 48, 32, 48, 32, 49, 32, 49, 32, 49, 32, 49, 10, 116, 97, 98, 108, 101, 32, 48, 10, 115, 104, 101, 101, 116, 32, 48, 10, 101, 110, 100, 32, 48, 51, 49, 10]
theorem exT_ok : exT.ok = true := by kernel_rfl
theorem exT_low : exT.low := ok_low exT_ok
theorem exT_text : exT.text = txT := by rw [text_S exT_low]; kernel_rfl
theorem parse_txT : parse txT = some exT := by rw [← exT_text]; exact parse_of_text exT_low
end Go.Vc.Gd
namespace Go.Vc.Gd
open Go Go.Proofs Go.Vc
def exW : List Task := [⟨0, 1, 2⟩, ⟨0, 2, 1⟩]
def exTruth : Truth := ⟨[1, 0, 0], [3, 1, 3], [1, 1, 1]⟩
theorem exA_ok : exA.ok = true := by kernel_rfl
theorem exP_good : exA.good exP = true := by kernel_rfl
theorem exR_good : exA.good exR = true := by kernel_rfl
theorem exTruth_ok : exTruth.ok exA = true := by kernel_rfl
theorem exA_sheet0 : exA.isSheet 0 = true := by kernel_rfl
theorem exA_sheet1 : exA.isSheet 1 = true := by kernel_rfl
theorem exA_comp1 : exA.isComp 1 = true := by kernel_rfl
theorem exR_hand : hand (nth exR (Int.toNat 0)) 1 = true := by kernel_rfl
theorem ex_whyS : whyS exA exW = 1 := by kernel_rfl
theorem ex_whyF : whyF exA exW = 4 := by kernel_rfl
theorem ex_whyErr : whyErr exA exW = 0 := by kernel_rfl
theorem ex_days : days exP exTruth (-1) (-1) = [6, 6] := by kernel_rfl
theorem ex_backs : backs exA exP = [⟨5, 8⟩, ⟨6, 11⟩] := by kernel_rfl
theorem ex_tables : tables exA exP = [3, 2] := by kernel_rfl
theorem ex_proof1 : proof1 exA exP = 1 := by kernel_rfl
theorem ex_proof2 : proof2 exA exP = 1 := by kernel_rfl
theorem ex_proof3 : proof3 exA exP = 11 := by kernel_rfl
theorem ex_isProof : isProof exA exP = true := by kernel_rfl
theorem ex_idle : idleTo exP exA.comps.length = [] := by kernel_rfl
theorem ex_losts : losts exA exR 0 1 = [⟨6, 13⟩, ⟨5, 8⟩] := by kernel_rfl
theorem ex_plans : (allPlans exA).length = 4 := by kernel_rfl
theorem ex_first : firstPlan exA = exR := by kernel_rfl
theorem ex_noFirst : noFirst exA = false := by kernel_rfl
theorem ex_count : countTo exA (allPlans exA).length = 1 := by kernel_rfl
theorem ex_best : soonest exA = ⟨exR, 9⟩ := by kernel_rfl
theorem ex_hands : handsTo exA 1 (allPlans exA).length = [0, 1] := by kernel_rfl
theorem ex_plans1 : (allPlans (exA.withOne 1)).length = 64 := by kernel_rfl
theorem ex_best1 : (soonest (exA.withOne 1)).day = 8 := by kernel_rfl
theorem ex_who : sortedOnce (handsTo exA 1 (allPlans exA).length) = [0, 1] := by
  rw [ex_hands]
  unfold sortedOnce
  rw [List.mergeSort_of_pairwise (by decide)]
  rfl
end Go.Vc.Gd
namespace Go.Vc.Gd
open Go Go.Proofs Go.Vc
section
variable {α : Type} [Inhabited α]
theorem filter_take_succ (p : α → Bool) {l : List α} {k : Nat} (h : k < l.length) : (l.take (k + 1)).filter p = (l.take k).filter p ++ bif p (nth l k) then [nth l k] else [] := by
  rw [take_succ h, List.filter_append]
  cases hp : p (nth l k) <;> simp [hp]
theorem filter_head (p : α → Bool) : ∀ {l : List α}, (l.all fun x => !p x) = false → nth (l.filter p) 0 = nth l (upto (fun x => !p x) l)
  | [], h => by simp at h
  | x :: l, h => by
    cases hp : p x with
    | true =>
      rw [List.filter_cons_of_pos hp]
      unfold upto
      simp only [hp, Bool.not_true, cond_false]
      rfl
    | false =>
      rw [List.all_cons, hp] at h
      have h' : (l.all fun x => !p x) = false := by simpa using h
      rw [List.filter_cons_of_neg (by rw [hp]; simp)]
      unfold upto
      simp only [hp, Bool.not_false, cond_true]
      exact filter_head p h'
theorem filter_none (p : α → Bool) : ∀ {l : List α}, (l.all fun x => !p x) = ((l.filter p).length == 0)
  | [] => rfl
  | x :: l => by
    cases hp : p x with
    | true => rw [List.filter_cons_of_pos hp, List.all_cons, hp]; rfl
    | false => rw [List.filter_cons_of_neg (by rw [hp]; simp), List.all_cons, hp, ← filter_none p]; rfl
theorem filter_congr' {p q : α → Bool} {l : List α} (h : ∀ i, i < l.length → p (nth l i) = q (nth l i)) : l.filter p = l.filter q := by
  refine List.filter_congr fun x hx => ?_
  obtain ⟨i, hi, rfl⟩ := List.getElem_of_mem hx
  have := h i hi
  rw [nth_eq hi] at this
  exact this
end
theorem sureP_eq {b : Book} (hb : b.ok = true) {k : Nat} (hk : k < (allPlans b).length) : sureP b (nth (allPlans b) k) = !isProof b (nth (allPlans b) k) := surely_eq hb (allPlans_good hk)
theorem allTo_eq (b : Book) (l : List (List Task)) : ∀ k, k ≤ l.length → allTo b l k = (l.take k).filter fun p => !isProof b p
  | 0, _ => by simp [allTo]
  | k + 1, h => by
    rw [allTo, allTo_eq b l k (by omega), filter_take_succ _ (by omega)]
    cases isProof b (nth l k) <;> simp
theorem all_eq (b : Book) : b.all = b.plans.filter fun p => !isProof b p := by
  unfold Book.all
  rw [allTo_eq b _ _ (Nat.le_refl _), List.take_length]
theorem all_sure {b : Book} (hb : b.ok = true) : b.all = (allPlans b).filter (sureP b) := by
  rw [all_eq, ← allPlans_eq]
  exact filter_congr' fun i hi => (sureP_eq hb hi).symm
theorem countTo_eq (b : Book) : ∀ k, k ≤ (allPlans b).length → countTo b k = ((((allPlans b).take k).filter (sureP b)).length : Int)
  | 0, _ => rfl
  | k + 1, h => by
    rw [countTo, countTo_eq b k (by omega), filter_take_succ _ (by omega)]
    cases sureP b (nth (allPlans b) k) <;> simp
theorem count_eq {b : Book} (hb : b.ok = true) : countTo b (allPlans b).length = (b.all.length : Int) := by
  rw [countTo_eq b _ (Nat.le_refl _), List.take_length, all_sure hb]
theorem noFirst_eq {b : Book} (hb : b.ok = true) : noFirst b = (b.all.length == 0) := by
  unfold noFirst
  rw [filter_none (sureP b), all_sure hb]
theorem first_eq {b : Book} (hb : b.ok = true) (h : noFirst b = false) : firstPlan b = nth b.all 0 := by
  unfold firstPlan
  rw [h, cond_false, all_sure hb]
  exact (filter_head (sureP b) h).symm
theorem lastL_eq (b : Book) (pl : List Task) : ∀ k, k ≤ pl.length → lastL (days pl (b.ends true) (-1) (-1)) k = lastTo (backs b pl) k
  | 0, _ => rfl
  | k + 1, h => by
    rw [lastL, lastTo, lastL_eq b pl k (by omega), backs_high b pl (by omega)]
theorem lastDay_eq (b : Book) (pl : List Task) : lastDay b pl = lastOf b pl := by
  unfold lastDay lastOf
  rw [days_len, backs_len]
  exact lastL_eq b pl _ (Nat.le_refl _)
theorem nth_mades {b : Book} {k : Nat} (h : k < (allPlans b).length) : nth (mades b) k = ⟨nth (allPlans b) k, lastOf b (nth (allPlans b) k)⟩ := by
  unfold mades
  rw [nth_map h]
  unfold madeOf
  rw [lastDay_eq]
theorem bestM_eq (b : Book) : ∀ k, k < (allPlans b).length → bestM (mades b) k = ⟨bestTo b (allPlans b) (k + 1), lastOf b (bestTo b (allPlans b) (k + 1))⟩
  | 0, h => by
    rw [bestM, nth_mades h, bestTo]
    have : decide (lastOf b (nth (allPlans b) 0) < lastOf b (bestTo b (allPlans b) 0)) = false := by rw [bestTo]; simp
    rw [this]
    rfl
  | k + 1, h => by
    rw [bestM, bestM_eq b k (by omega), nth_mades h]
    conv => rhs; rw [bestTo]
    dsimp only
    cases decide (lastOf b (nth (allPlans b) (k + 1)) < lastOf b (bestTo b (allPlans b) (k + 1))) <;> rfl
theorem soonest_eq {b : Book} (h : ((allPlans b).length == 0) = false) : soonest b = ⟨b.best, lastOf b b.best⟩ := by
  have h0 : (allPlans b).length ≠ 0 := by simpa using h
  unfold soonest
  rw [h, cond_false]
  have hl : (mades b).length = (allPlans b).length := by unfold mades; simp
  rw [hl, bestM_eq b _ (by omega)]
  unfold Book.best
  rw [← allPlans_eq, Nat.sub_add_cancel (by omega)]
theorem plans_none {b : Book} : ((allPlans b).length == 0) = (b.plans.length == 0) := by rw [allPlans_eq]
end Go.Vc.Gd
namespace Go.Vc
theorem Computes.weak {P : Program} {Gl : World → Prop} {f : FuncId} {args : List T} {xs ys : List D} (h : Computes P Gl f args (.ret (.tup xs))) (hl : conjT (leDs xs ys)) : Computes P Gl f args (.ret (.tup ys)) :=
  ⟨h.1, fun vis w vs h1 h2 h3 => (h.2 vis w vs h1 h2 h3).mono fun _ _ ⟨hb, v, vis', he, e1, e2, us, hu, hr⟩ => ⟨hb, v, vis', he, e1, e2, us, hu, leDs_rel (conjT_iff hl) hr⟩⟩
end Go.Vc
namespace Go.Vc.Gd
open Go Go.Proofs Go.Vc
variable {Gl : World → Prop}
section
variable {α : Type} [Inhabited α]
def ifL (c : Bool) (l : List α) : List α := bif c then l else []
end
def firstErr (b : Book) : Int := bif b.ok then (bif b.all.length == 0 then 5 else 0) else 2
theorem firstA (S : Set Tryz.prog Y Gl) (b : Book) : Computes Tryz.prog Gl 49 [tBook b] (.ret (.tup [.c (.l eTask (ifL (b.ok && !(b.all.length == 0)) (nth b.all 0))), .c (Ci (firstErr b))])) := by
  unfold ifL firstErr
  cases hb : b.ok with
  | true =>
    have h := first49 S b hb
    cases hn : noFirst b with
    | true =>
      rw [hn] at h
      rw [noFirst_eq hb] at hn
      rw [hn]
      have e : firstPlan b = [] := by unfold firstPlan; rw [noFirst_eq hb, hn]; rfl
      rw [e] at h
      exact h
    | false =>
      rw [first_eq hb hn, hn] at h
      rw [noFirst_eq hb] at hn
      rw [hn]
      exact h
  | false => exact (first49e S b hb).weak ⟨rfl, rfl⟩
end Go.Vc.Gd
namespace Go.Vc.Gd
open Go Go.Proofs Go.Vc
structure LeTr (t t' : Truth) : Prop where
  len : t.post.length = t'.post.length
  post : ∀ i, nth t.post i ≤ nth t'.post i
  sheet : ∀ i, nth t.sheet i ≤ nth t'.sheet i
  look : ∀ i, nth t.look i ≤ nth t'.look i
theorem LeTr.refl (t : Truth) : LeTr t t := ⟨rfl, fun _ => Int.le_refl _, fun _ => Int.le_refl _, fun _ => Int.le_refl _⟩
end Go.Vc.Gd
namespace Go.Vc.Gd
open Go Go.Proofs Go.Vc
def flat3 (t : Task) : List Int := [t.one, t.other, t.third]
def flatP (p : List Task) : List Int := p.flatMap flat3
theorem ltL_pre : ∀ (p a b : List Int), ltL (p ++ a) (p ++ b) = ltL a b
  | [], _, _ => rfl
  | x :: p, a, b => by
    rw [List.cons_append, List.cons_append, ltL, beq_self_eq_true, cond_true, ltL_pre p a b]
theorem ltL_irrefl : ∀ a : List Int, ltL a a = false
  | [] => rfl
  | x :: a => by rw [ltL, beq_self_eq_true, cond_true, ltL_irrefl a]
theorem ltL_app : ∀ (a b r s : List Int), a.length = b.length → ltL a b = true → ltL (a ++ r) (b ++ s) = true
  | [], [], _, _, _, h => by cases h
  | [], _ :: _, _, _, hl, _ => by simp at hl
  | _ :: _, [], _, _, hl, _ => by simp at hl
  | x :: a, y :: b, r, s, hl, h => by
    rw [List.cons_append, List.cons_append, ltL]
    rw [ltL] at h
    cases hxy : x == y with
    | true =>
      rw [hxy, cond_true] at h
      rw [cond_true]
      exact ltL_app a b r s (by simpa using hl) h
    | false => rw [hxy, cond_false] at h; rw [cond_false]; exact h
theorem ltL_asymm : ∀ (a b : List Int), ltL a b = true → ltL b a = false
  | [], [], h => by cases h
  | [], _ :: _, _ => rfl
  | _ :: _, [], h => by cases h
  | x :: a, y :: b, h => by
    rw [ltL] at h ⊢
    cases hxy : x == y with
    | true =>
      rw [hxy, cond_true] at h
      have : (y == x) = true := by rw [beq_iff_eq] at hxy ⊢; exact hxy.symm
      rw [this, cond_true]
      exact ltL_asymm a b h
    | false =>
      rw [hxy, cond_false] at h
      have hne := beq_eq_false_iff_ne.1 hxy
      have : (y == x) = false := by rw [beq_eq_false_iff_ne]; exact fun h => hne h.symm
      rw [this, cond_false]
      have := of_decide_eq_true h
      exact decide_eq_false (by omega)
theorem taskNo_lt : ∀ n : Nat, n < 5 → ∀ j : Nat, j < n * n * n → ∀ i : Nat, i < j → ltL (flat3 (taskNo n i)) (flat3 (taskNo n j)) = true := by decide +kernel
theorem mem_tasksTo' {b : Book} {t : Task} : ∀ {k : Nat}, t ∈ tasksTo b k → ∃ i, i < k ∧ t = taskNo b.comps.length i
  | 0, h => by cases h
  | k + 1, h => by
    unfold tasksTo at h
    cases hf : b.fault (taskNo b.comps.length k) == 0 with
    | true =>
      rw [hf, cond_true] at h
      rcases List.mem_append.1 h with h | h
      · obtain ⟨i, hi, he⟩ := mem_tasksTo' h; exact ⟨i, by omega, he⟩
      · exact ⟨k, by omega, List.mem_singleton.1 h⟩
    | false => rw [hf, cond_false] at h; obtain ⟨i, hi, he⟩ := mem_tasksTo' h; exact ⟨i, by omega, he⟩
theorem tasksTo_has {b : Book} {i : Nat} (hf : b.fault (taskNo b.comps.length i) = 0) : ∀ {k : Nat}, i < k → taskNo b.comps.length i ∈ tasksTo b k
  | 0, h => absurd h (Nat.not_lt_zero _)
  | k + 1, h => by
    unfold tasksTo
    rcases Nat.lt_or_ge i k with hlt | hge
    · have := tasksTo_has hf hlt
      cases b.fault (taskNo b.comps.length k) == 0
      · exact this
      · exact List.mem_append_left _ this
    · have : i = k := by omega
      subst this
      rw [hf]
      exact List.mem_append_right _ (List.mem_singleton.2 rfl)
theorem tasks_has {b : Book} {t : Task} (hf : b.fault t = 0) : t ∈ b.tasks := by
  obtain ⟨⟨h1, h2, h3⟩, _⟩ := fault_zero hf
  simp only [Book.isComp, inR_iff] at h1 h2 h3
  obtain ⟨i, hi⟩ := Int.eq_ofNat_of_zero_le h1.1
  obtain ⟨j, hj⟩ := Int.eq_ofNat_of_zero_le h2.1
  obtain ⟨k, hk⟩ := Int.eq_ofNat_of_zero_le h3.1
  have e : t = taskNo b.comps.length (idx3 b.comps.length i j k) := by
    rw [taskNo3 (by omega) (by omega), ← hi, ← hj, ← hk]
  have hlt : idx3 b.comps.length i j k < b.comps.length * b.comps.length * b.comps.length := by
    unfold idx3
    have a1 : i < b.comps.length := by omega
    have a2 : j < b.comps.length := by omega
    have a3 : k < b.comps.length := by omega
    have s1 : (i + 1) * b.comps.length ≤ b.comps.length * b.comps.length := Nat.mul_le_mul_right _ a1
    have s2 : (i * b.comps.length + j + 1) * b.comps.length ≤ b.comps.length * b.comps.length * b.comps.length := Nat.mul_le_mul_right _ (by rw [Nat.add_mul, Nat.one_mul] at s1; omega)
    rw [Nat.add_mul, Nat.one_mul] at s2
    omega
  rw [e] at hf ⊢
  exact tasksTo_has hf hlt
theorem tasksTo_sorted {b : Book} (hb : b.comps.length < 5) : ∀ k, k ≤ b.comps.length * b.comps.length * b.comps.length → (tasksTo b k).Pairwise fun x y => ltL (flat3 x) (flat3 y) = true
  | 0, _ => by simp [tasksTo]
  | k + 1, h => by
    have ih := tasksTo_sorted hb k (by omega)
    unfold tasksTo
    cases b.fault (taskNo b.comps.length k) == 0
    · exact ih
    · simp only [cond_true]
      rw [List.pairwise_append]
      refine ⟨ih, List.pairwise_singleton _ _, fun x hx y hy => ?_⟩
      obtain ⟨i, hi, rfl⟩ := mem_tasksTo' hx
      rw [List.mem_singleton.1 hy]
      exact taskNo_lt _ hb k (by omega) i hi
theorem tasks_sorted {b : Book} (hb : b.ok = true) : b.tasks.Pairwise fun x y => ltL (flat3 x) (flat3 y) = true := by
  obtain ⟨o1, _⟩ := ok_spec hb
  exact tasksTo_sorted (by omega) _ (Nat.le_refl _)
abbrev ltP (a b : List Task) : Prop := ltL (flatP a) (flatP b) = true
theorem plansFrom_pre (l : List Task) : ∀ (d : Nat) (now p : List Task), p ∈ plansFrom l d now → ∃ r, p = now ++ r
  | 0, now, p, h => ⟨[], by rw [List.mem_singleton.1 h, List.append_nil]⟩
  | d + 1, now, p, h => by
    obtain ⟨x, _, hp⟩ := List.mem_flatMap.1 h
    obtain ⟨r, hr⟩ := plansFrom_pre l d _ _ hp
    exact ⟨x :: r, by rw [hr]; simp⟩
theorem plansFrom_sorted {l : List Task} (hl : l.Pairwise fun x y => ltL (flat3 x) (flat3 y) = true) : ∀ (d : Nat) (now : List Task), (plansFrom l d now).Pairwise ltP
  | 0, now => List.pairwise_singleton _ _
  | d + 1, now => by
    have ih := plansFrom_sorted hl d
    unfold plansFrom
    have key : ∀ m : List Task, (m.Pairwise fun x y => ltL (flat3 x) (flat3 y) = true) → (m.flatMap fun x => plansFrom l d (now ++ [x])).Pairwise ltP := by
      intro m
      induction m with
      | nil => intro _; exact .nil
      | cons x m ihm =>
        intro hm
        obtain ⟨h1, h2⟩ := List.pairwise_cons.1 hm
        rw [List.flatMap_cons, List.pairwise_append]
        refine ⟨ih _, ihm h2, fun p hp q hq => ?_⟩
        obtain ⟨y, hy, hq'⟩ := List.mem_flatMap.1 hq
        obtain ⟨r, rfl⟩ := plansFrom_pre l d _ _ hp
        obtain ⟨s, rfl⟩ := plansFrom_pre l d _ _ hq'
        have h3 := h1 y hy
        unfold ltP flatP
        simp only [List.flatMap_append, List.flatMap_cons, List.flatMap_nil, List.append_nil, List.append_assoc]
        rw [ltL_pre]
        exact ltL_app _ _ _ _ rfl h3
    exact key l hl
theorem plans_sorted {b : Book} (hb : b.ok = true) : b.plans.Pairwise ltP := by
  rw [← allPlans_eq]
  exact plansFrom_sorted (tasks_sorted hb) _ _
theorem plansFrom_has {l : List Task} : ∀ (d : Nat) (now p : List Task), p.length = d → (∀ t ∈ p, t ∈ l) → now ++ p ∈ plansFrom l d now
  | 0, now, p, hd, _ => by
    rw [List.length_eq_zero_iff.1 hd, List.append_nil]
    exact List.mem_singleton.2 rfl
  | d + 1, now, [], hd, _ => by simp at hd
  | d + 1, now, x :: p, hd, h => by
    refine List.mem_flatMap.2 ⟨x, h x List.mem_cons_self, ?_⟩
    have := plansFrom_has d (now ++ [x]) p (by simpa using hd) fun t ht => h t (List.mem_cons_of_mem _ ht)
    rw [List.append_assoc, List.singleton_append] at this
    exact this
theorem plans_has {b : Book} {p : List Task} (hg : b.good p = true) : p ∈ b.plans := by
  obtain ⟨h1, h2⟩ := good_spec hg
  rw [← allPlans_eq]
  have := plansFrom_has (l := b.tasks) b.sheets.length [] p h1 fun t ht => by
    obtain ⟨i, hi, rfl⟩ := List.getElem_of_mem ht
    have := h2 i hi
    rw [nth_eq hi] at this
    exact tasks_has this
  exact this
theorem mem_plans {b : Book} {p : List Task} : p ∈ b.plans ↔ b.good p = true := by
  refine ⟨fun h => ?_, plans_has⟩
  rw [← allPlans_eq] at h
  obtain ⟨i, hi, rfl⟩ := List.getElem_of_mem h
  have := allPlans_good hi
  rw [nth_eq hi] at this
  exact this
section
variable {α : Type} [Inhabited α]
theorem pairwise_nth {R : α → α → Prop} {l : List α} (h : l.Pairwise R) {i j : Nat} (hij : i < j) (hj : j < l.length) : R (nth l i) (nth l j) := by
  rw [nth_eq hj, nth_eq (show i < l.length by omega)]
  exact List.pairwise_iff_getElem.1 h i j _ hj hij
theorem mem_nth {l : List α} {x : α} (h : x ∈ l) : ∃ i, i < l.length ∧ nth l i = x := by
  obtain ⟨i, hi, rfl⟩ := List.getElem_of_mem h
  exact ⟨i, hi, nth_eq hi⟩
end
theorem bestTo_spec (b : Book) (l : List (List Task)) : ∀ k, 0 < k → k ≤ l.length → ∃ i, i < k ∧ bestTo b l k = nth l i ∧ (∀ j, j < k → lastOf b (nth l i) ≤ lastOf b (nth l j)) ∧ ∀ j, j < i → lastOf b (nth l i) < lastOf b (nth l j)
  | 0, h, _ => absurd h (Nat.lt_irrefl _)
  | k + 1, _, hk => by
    rcases Nat.eq_zero_or_pos k with h0 | h0
    · subst h0
      refine ⟨0, by omega, ?_, fun j hj => ?_, fun j hj => absurd hj (Nat.not_lt_zero _)⟩
      · unfold bestTo
        cases decide (lastOf b (nth l 0) < lastOf b (bestTo b l 0)) <;> rfl
      · have : j = 0 := by omega
        subst this; exact Int.le_refl _
    · obtain ⟨i, hi, he, h1, h2⟩ := bestTo_spec b l k h0 (by omega)
      unfold bestTo
      cases hd : decide (lastOf b (nth l k) < lastOf b (bestTo b l k)) with
      | true =>
        have hd := of_decide_eq_true hd
        rw [he] at hd
        refine ⟨k, by omega, rfl, fun j hj => ?_, fun j hj => ?_⟩
        · rcases Nat.lt_or_ge j k with hlt | hge
          · have := h1 j hlt; omega
          · have : j = k := by omega
            subst this; exact Int.le_refl _
        · have := h1 j hj; omega
      | false =>
        have hd := of_decide_eq_false hd
        rw [he] at hd
        refine ⟨i, by omega, he, fun j hj => ?_, h2⟩
        rcases Nat.lt_or_ge j k with hlt | hge
        · exact h1 j hlt
        · have : j = k := by omega
          subst this; omega
theorem best_spec {b : Book} (hb : b.ok = true) (hn : b.plans.length ≠ 0) : b.good b.best = true ∧ ∀ p, b.good p = true → lastOf b b.best ≤ lastOf b p ∧ (lastOf b p = lastOf b b.best → ltL (flatP p) (flatP b.best) = false) := by
  obtain ⟨i, hi, he, h1, h2⟩ := bestTo_spec b b.plans b.plans.length (by omega) (Nat.le_refl _)
  have hbest : b.best = nth b.plans i := he
  rw [hbest]
  refine ⟨mem_plans.1 (nth_mem hi), fun p hp => ?_⟩
  obtain ⟨j, hj, rfl⟩ := mem_nth (plans_has hp)
  refine ⟨h1 j hj, fun heq => ?_⟩
  rcases Nat.lt_trichotomy i j with h | h | h
  · exact ltL_asymm _ _ (pairwise_nth (plans_sorted hb) h hj)
  · subst h; exact ltL_irrefl _
  · have := h2 j h; omega
end Go.Vc.Gd
namespace Go.Vc.Gd
open Go Go.Proofs Go.Vc
end Go.Vc.Gd
namespace Go.Vc.Gd
open Go Go.Proofs Go.Vc
structure SameTr (n : Nat) (t t' : Truth) : Prop where
  l1 : n ≤ t.post.length
  l2 : n ≤ t'.post.length
  post : ∀ i, i < n → nth t.post i = nth t'.post i
  sheet : ∀ i, i < n → nth t.sheet i = nth t'.sheet i
  look : ∀ i, i < n → nth t.look i = nth t'.look i
end Go.Vc.Gd
namespace Go.Vc.Gd
open Go Go.Proofs Go.Vc
theorem sameL_refl {α : Type} [Inhabited α] {eq : α → α → Bool} (h : ∀ x, eq x x = true) (l : List α) : sameL eq l l = true := by
  unfold sameL
  rw [beq_self_eq_true, Bool.true_and, List.all_eq_true]
  exact fun i _ => h _
theorem sameTask_refl (l : List Task) : sameL sameTask l l = true := sameL_refl (fun x => by unfold sameTask; simp) l
end Go.Vc.Gd
namespace Go.Vc.Gd
open Go Go.Proofs Go.Vc
variable {Gl : World → Prop}
set_option maxRecDepth 100000
theorem Srf (n : Nat) (f : Nat → List C) : SEq n f n f := (SEq_refl n f).2 trivial
theorem kWhy (S : Set Tryz.prog Y Gl) (f : Nat → List C) (h : SEq 2 f exW.length fun i => eTask (nth exW i)) : Computes Tryz.prog Gl 23 [tBook exA, .d (.c (.s .n 2 f))] (.ret (.tup [.c (Ci 1), .c (Ci 4), .c (Ci 0)])) := by
  have h1 := why23 S exA exW
  rw [ex_whyS, ex_whyF, ex_whyErr] at h1
  exact h1.args ⟨Srf _ _, Srf _ _, Srf _ _, h⟩
theorem kWhen (S : Set Tryz.prog Y Gl) (f g h : Nat → List C) (hf : SEq 3 f exTruth.post.length fun i => eI (nth exTruth.post i)) (hg : SEq 3 g exTruth.sheet.length fun i => eI (nth exTruth.sheet i)) (hh : SEq 3 h exTruth.look.length fun i => eI (nth exTruth.look i)) : Computes Tryz.prog Gl 29 [tBook exA, L eTask exP, .d (.agg [.s .n 3 f, .s .n 3 g, .s .n 3 h])] (.ret (.tup [.c (.l eI [6, 6]), .c (Ci 0)])) := by
  have h1 := when29 S exA exP exTruth exA_ok exP_good exTruth_ok
  rw [ex_days] at h1
  exact h1.args ⟨Srf _ _, Srf _ _, Srf _ _, Srf _ _, hf, hg, hh⟩
theorem kBack (S : Set Tryz.prog Y Gl) : Computes Tryz.prog Gl 28 [tBook exA, L eTask exP] (.ret (.tup [.c (.l eSpan [⟨5, 8⟩, ⟨6, 11⟩]), .c (Ci 0)])) := by
  have h1 := back28 S exA exP exA_ok exP_good
  rw [ex_backs] at h1
  exact h1
theorem kTables (S : Set Tryz.prog Y Gl) : Computes Tryz.prog Gl 38 [tBook exA, L eTask exP] (.ret (.tup [.c (.l eI [3, 2]), .c (Ci 0)])) := by
  have h1 := tables38 S exA exP exA_ok exP_good
  rw [ex_tables] at h1
  exact h1
theorem kProof (S : Set Tryz.prog Y Gl) : Computes Tryz.prog Gl 40 [tBook exA, L eTask exP] (.ret (.tup [.c (Ci 1), .c (Ci 1), .c (Ci 11), .c (Ci 0)])) := by
  have h1 := proof40 S exA exP exA_ok exP_good
  rw [ex_proof1, ex_proof2, ex_proof3, ex_isProof] at h1
  exact h1
theorem kIdle (S : Set Tryz.prog Y Gl) : Computes Tryz.prog Gl 45 [tBook exA, L eTask exP] (.ret (.tup [.c (.l eI []), .c (Ci 0)])) := by
  have h1 := idle45 S exA exP exA_ok exP_good
  rw [ex_idle] at h1
  exact h1
theorem kLost (S : Set Tryz.prog Y Gl) : Computes Tryz.prog Gl 46 [tBook exA, L eTask exR, I 0, I 1] (.ret (.tup [.c (.l eSpan [⟨6, 13⟩, ⟨5, 8⟩]), .c (Ci 0)])) := by
  have h1 := lost46 S exA exR 0 1 exA_ok exR_good exA_sheet0 exA_comp1 exR_hand
  rw [ex_losts] at h1
  exact h1
theorem kFirst (S : Set Tryz.prog Y Gl) : Computes Tryz.prog Gl 49 [tBook exA] (.ret (.tup [.c (.l eTask exR), .c (Ci 0)])) := by
  have h1 := first49 S exA exA_ok
  rw [ex_first, ex_noFirst] at h1
  exact h1
theorem kCount (S : Set Tryz.prog Y Gl) : Computes Tryz.prog Gl 50 [tBook exA] (.ret (.tup [.c (Ci 1), .c (Ci 0)])) := by
  have h1 := count50 S exA exA_ok
  rw [ex_count] at h1
  exact h1
theorem kBest (S : Set Tryz.prog Y Gl) : Computes Tryz.prog Gl 51 [tBook exA] (.ret (.tup [.c (.l eTask exR), .c (Ci 9), .c (Ci 0)])) := by
  have h1 := best51 S exA exA_ok
  rw [ex_best, ex_plans] at h1
  exact h1
theorem kWho (S : Set Tryz.prog Y Gl) : Computes Tryz.prog Gl 57 [tBook exA, I 1] (.ret (.tup [.c (.l eI [0, 1]), .c (Ci 0)])) := by
  have h1 := who57 S exA 1 exA_ok exA_sheet1
  rw [ex_who] at h1
  exact h1
theorem kMore (S : Set Tryz.prog Y Gl) : Computes Tryz.prog Gl 64 [tBook exA, I 1] (.ret (.tup [.c (Ci 8), .c (Ci 0)])) := by
  have h1 := more64 S exA 1 exA_ok exA_comp1 (by decide)
  rw [ex_best1, ex_plans1] at h1
  exact h1
theorem kRead (S : Set Tryz.prog Y Gl) (hG : GlOK Gl) : Computes Tryz.prog Gl 70 [str [103, 105, 118, 101, 10, 99, 111, 109, 112, 117, 116, 101, 114, 32, 48, 32, 48, 32, 48, 32, 49, 32, 49, 32, 49, 32, 49, 10, 116, 97, 98, 108, 101, 32, 48, 10, 115, 104, 101, 101, 116, 32, 48, 10, 101, 110, 100, 32, 48, 51, 49, 10]] (.ret (.tup [.agg (cBook exT), .c (Ci 0)])) := by
  have h1 := read70 S txT exT (by decide) (parsed109some S hG txT (by decide) parse_txT) exT_ok
  exact h1
theorem kSame (S : Set Tryz.prog Y Gl) (f : Nat → List C) (h : SEq 2 f [(6 : Int), 6].length fun i => eI (nth [6, 6] i)) : Computes Tryz.prog Gl 34 [L eI [6, 6], .d (.c (.s .n 2 f))] (.ret (B true)) :=
  (show Computes Tryz.prog Gl 34 [L eI [6, 6], L eI [6, 6]] (.ret (B true)) from same34 S [6, 6] [6, 6]).args ⟨Srf _ _, h⟩
theorem kSame2 (S : Set Tryz.prog Y Gl) (f : Nat → List C) (h : SEq 2 f [(0 : Int), 1].length fun i => eI (nth [0, 1] i)) : Computes Tryz.prog Gl 34 [L eI [0, 1], .d (.c (.s .n 2 f))] (.ret (B true)) :=
  (show Computes Tryz.prog Gl 34 [L eI [0, 1], L eI [0, 1]] (.ret (B true)) from same34 S [0, 1] [0, 1]).args ⟨Srf _ _, h⟩
theorem kSpans (S : Set Tryz.prog Y Gl) (f : Nat → List C) (h : SEq 2 f [(⟨5, 8⟩ : Span), ⟨6, 11⟩].length fun i => eSpan (nth [⟨5, 8⟩, ⟨6, 11⟩] i)) : Computes Tryz.prog Gl 31 [L eSpan [⟨5, 8⟩, ⟨6, 11⟩], .d (.c (.s .n 2 f))] (.ret (B true)) :=
  (show Computes Tryz.prog Gl 31 [L eSpan [⟨5, 8⟩, ⟨6, 11⟩], L eSpan [⟨5, 8⟩, ⟨6, 11⟩]] (.ret (B true)) from sameSpans31 S [⟨5, 8⟩, ⟨6, 11⟩] [⟨5, 8⟩, ⟨6, 11⟩]).args ⟨Srf _ _, h⟩
theorem kSpans2 (S : Set Tryz.prog Y Gl) (f : Nat → List C) (h : SEq 2 f [(⟨6, 13⟩ : Span), ⟨5, 8⟩].length fun i => eSpan (nth [⟨6, 13⟩, ⟨5, 8⟩] i)) : Computes Tryz.prog Gl 31 [L eSpan [⟨6, 13⟩, ⟨5, 8⟩], .d (.c (.s .n 2 f))] (.ret (B true)) :=
  (show Computes Tryz.prog Gl 31 [L eSpan [⟨6, 13⟩, ⟨5, 8⟩], L eSpan [⟨6, 13⟩, ⟨5, 8⟩]] (.ret (B true)) from sameSpans31 S [⟨6, 13⟩, ⟨5, 8⟩] [⟨6, 13⟩, ⟨5, 8⟩]).args ⟨Srf _ _, h⟩
theorem kWords (S : Set Tryz.prog Y Gl) (f : Nat → List C) (h : SEq 2 f [(3 : Int), 2].length fun i => eI (nth [3, 2] i)) : Computes Tryz.prog Gl 41 [L eI [3, 2], .d (.c (.s .n 2 f))] (.ret (B true)) :=
  (show Computes Tryz.prog Gl 41 [L eI [3, 2], L eI [3, 2]] (.ret (B true)) from sameWords41 S [3, 2] [3, 2]).args ⟨Srf _ _, h⟩
theorem kPlans (S : Set Tryz.prog Y Gl) : Computes Tryz.prog Gl 54 [L eTask exR, L eTask exR] (.ret (B true)) := samePlans54 S exR exR
theorem kPrint (S : Set Tryz.prog Y Gl) : Computes Tryz.prog Gl 71 [tBook exT] (.ret (str txT)) := by
  have h1 := print71 S exT exT_low
  rw [exT_text] at h1
  exact h1
theorem known22 (S : Set Tryz.prog Y Gl) (hG : GlOK Gl) : Computes Tryz.prog Gl 22 [] (.ret (B true)) := by
  refine fn_is S (.r (.ret (tBook exA)) (.r (.ret (T.d (D.agg [Ci 0,Ci 1,Ci 2]))) (.r (.ret (T.d (D.agg [Ci 0,Ci 2,Ci 1]))) (.r (.ret (.tup [D.c (Ci 1),D.c (Ci 4),D.c (Ci 0)])) (.r (.ret (tBook exA)) (.r (.ret (L eTask exP)) (.r (.ret (.tup [D.c (C.l eI [(6:Int),(6:Int)]),D.c (Ci 0)])) (.r (.ret (tBook exA)) (.r (.ret (L eTask exP)) (.r (.ret (.tup [D.c (C.l eSpan [Span.mk (5:Int) (8:Int),Span.mk (6:Int) (11:Int)]),D.c (Ci 0)])) (.r (.ret (tBook exA)) (.r (.ret (L eTask exP)) (.r (.ret (.tup [D.c (C.l eI [(3:Int),(2:Int)]),D.c (Ci 0)])) (.r (.ret (tBook exA)) (.r (.ret (L eTask exP)) (.r (.ret (.tup [D.c (Ci 1),D.c (Ci 1),D.c (Ci 11),D.c (Ci 0)])) (.r (.ret (tBook exA)) (.r (.ret (L eTask exP)) (.r (.ret (.tup [D.c (C.l eI []),D.c (Ci 0)])) (.r (.ret (tBook exA)) (.r (.ret (L eTask exR)) (.r (.ret (.tup [D.c (C.l eSpan [Span.mk (6:Int) (13:Int),Span.mk (5:Int) (8:Int)]),D.c (Ci 0)])) (.r (.ret (tBook exA)) (.r (.ret (.tup [D.c (C.l eTask exR),D.c (Ci 0)])) (.r (.ret (tBook exA)) (.r (.ret (.tup [D.c (Ci 1),D.c (Ci 0)])) (.r (.ret (tBook exA)) (.r (.ret (.tup [D.c (C.l eTask exR),D.c (Ci 9),D.c (Ci 0)])) (.r (.ret (tBook exA)) (.r (.ret (.tup [D.c (C.l eI [(0:Int),(1:Int)]),D.c (Ci 0)])) (.r (.ret (tBook exA)) (.r (.ret (.tup [D.c (Ci 8),D.c (Ci 0)])) (.r (.ret (.tup [D.agg (cBook exT),D.c (Ci 0)])) (.sure 115 (.sure 116 (.sure 119 (.sure 120 (.sure 123 (.sure 124 (.sure 127 (.sure 128 (.sure 131 (.sure 132 (.sure 135 (.sure 136 (.sure 139 (.sure 140 (.sure 143 (.sure 144 (.sure 147 (.sure 148 (.sure 151 (.sure 152 (.sure 155 (.sure 156 (.sure 159 (.sure 160 (.ff (.sure 165 (.sure 166 (.sure 169 (.sure 170 (.sure 171 (.r (.ret (B true)) (.sure 172 (.sure 175 (.sure 176 (.r (.ret (T.d (D.agg [Ci 5,Ci 8]))) (.sure 177 (.r (.ret (T.d (D.agg [Ci 6,Ci 11]))) (.sure 178 (.sure 179 (.r (.ret (B true)) (.sure 180 (.sure 183 (.sure 184 (.sure 185 (.r (.ret (B true)) (.sure 186 (.sure 189 (.sure 190 (.sure 193 (.sure 194 (.sure 197 (.sure 198 (.sure 201 (.sure 202 (.sure 203 (.ff (.r (.ret (T.d (D.agg [Ci 6,Ci 13]))) (.r (.ret (T.d (D.agg [Ci 5,Ci 8]))) (.r (.ret (B true)) (.sure 211 (.sure 212 (.r (.ret (L eTask exR)) (.sure 213 (.r (.ret (B true)) (.sure 216 (.sure 217 (.sure 220 (.sure 221 (.r (.ret (L eTask exR)) (.sure 222 (.r (.ret (B true)) (.sure 225 (.sure 226 (.sure 229 (.sure 230 (.sure 231 (.r (.ret (B true)) (.sure 234 (.sure 235 (.sure 238 (.sure 239 (.r (.ret (str txT)) (.sure 240 .nil)))))))))))))))))))))))))))))))))))))))))))))))))))))))))))))))))))))))))))))))))))))))))))))))))))))))))))))))))))) Tryz.func22 (by kernel_rfl) (Computes Tryz.prog Gl 74 [] (.ret (tBook exA))∧Computes Tryz.prog Gl 75 [I 0,I 1,I 2] (.ret (T.d (D.agg [Ci 0,Ci 1,Ci 2])))∧Computes Tryz.prog Gl 75 [I 0,I 2,I 1] (.ret (T.d (D.agg [Ci 0,Ci 2,Ci 1])))∧Computes Tryz.prog Gl 23 [tBook exA,T.d (D.c (C.s Tag.n (2:Nat) fun i=>List.getD [List.map C.dem (List.map C.dem [C.v (Value.int IntKind.i64 (0:Int)),C.v (Value.int IntKind.i64 (1:Int)),C.v (Value.int IntKind.i64 (2:Int))]),List.map C.dem (List.map C.dem [C.v (Value.int IntKind.i64 (0:Int)),C.v (Value.int IntKind.i64 (2:Int)),C.v (Value.int IntKind.i64 (1:Int))])] i []))] (.ret (.tup [D.c (Ci 1),D.c (Ci 4),D.c (Ci 0)]))∧Computes Tryz.prog Gl 74 [] (.ret (tBook exA))∧Computes Tryz.prog Gl 76 [] (.ret (L eTask exP))∧Computes Tryz.prog Gl 29 [tBook exA,L eTask exP,T.d (D.agg [C.s Tag.n (3:Nat) fun i=>List.getD [List.map C.dem [C.v (Value.int IntKind.i64 (1:Int))],List.map C.dem [C.v (Value.int IntKind.i64 (0:Int))],List.map C.dem [C.v (Value.int IntKind.i64 (0:Int))]] i [],C.s Tag.n (3:Nat) fun i=>List.getD [List.map C.dem [C.v (Value.int IntKind.i64 (3:Int))],List.map C.dem [C.v (Value.int IntKind.i64 (1:Int))],List.map C.dem [C.v (Value.int IntKind.i64 (3:Int))]] i [],C.s Tag.n (3:Nat) fun i=>List.getD [List.map C.dem [C.v (Value.int IntKind.i64 (1:Int))],List.map C.dem [C.v (Value.int IntKind.i64 (1:Int))],List.map C.dem [C.v (Value.int IntKind.i64 (1:Int))]] i []])] (.ret (.tup [D.c (C.l eI [(6:Int),(6:Int)]),D.c (Ci 0)]))∧Computes Tryz.prog Gl 74 [] (.ret (tBook exA))∧Computes Tryz.prog Gl 76 [] (.ret (L eTask exP))∧Computes Tryz.prog Gl 28 [tBook exA,L eTask exP] (.ret (.tup [D.c (C.l eSpan [Span.mk (5:Int) (8:Int),Span.mk (6:Int) (11:Int)]),D.c (Ci 0)]))∧Computes Tryz.prog Gl 74 [] (.ret (tBook exA))∧Computes Tryz.prog Gl 76 [] (.ret (L eTask exP))∧Computes Tryz.prog Gl 38 [tBook exA,L eTask exP] (.ret (.tup [D.c (C.l eI [(3:Int),(2:Int)]),D.c (Ci 0)]))∧Computes Tryz.prog Gl 74 [] (.ret (tBook exA))∧Computes Tryz.prog Gl 76 [] (.ret (L eTask exP))∧Computes Tryz.prog Gl 40 [tBook exA,L eTask exP] (.ret (.tup [D.c (Ci 1),D.c (Ci 1),D.c (Ci 11),D.c (Ci 0)]))∧Computes Tryz.prog Gl 74 [] (.ret (tBook exA))∧Computes Tryz.prog Gl 76 [] (.ret (L eTask exP))∧Computes Tryz.prog Gl 45 [tBook exA,L eTask exP] (.ret (.tup [D.c (C.l eI []),D.c (Ci 0)]))∧Computes Tryz.prog Gl 74 [] (.ret (tBook exA))∧Computes Tryz.prog Gl 77 [] (.ret (L eTask exR))∧Computes Tryz.prog Gl 46 [tBook exA,L eTask exR,I 0,I 1] (.ret (.tup [D.c (C.l eSpan [Span.mk (6:Int) (13:Int),Span.mk (5:Int) (8:Int)]),D.c (Ci 0)]))∧Computes Tryz.prog Gl 74 [] (.ret (tBook exA))∧Computes Tryz.prog Gl 49 [tBook exA] (.ret (.tup [D.c (C.l eTask exR),D.c (Ci 0)]))∧Computes Tryz.prog Gl 74 [] (.ret (tBook exA))∧Computes Tryz.prog Gl 50 [tBook exA] (.ret (.tup [D.c (Ci 1),D.c (Ci 0)]))∧Computes Tryz.prog Gl 74 [] (.ret (tBook exA))∧Computes Tryz.prog Gl 51 [tBook exA] (.ret (.tup [D.c (C.l eTask exR),D.c (Ci 9),D.c (Ci 0)]))∧Computes Tryz.prog Gl 74 [] (.ret (tBook exA))∧Computes Tryz.prog Gl 57 [tBook exA,I 1] (.ret (.tup [D.c (C.l eI [(0:Int),(1:Int)]),D.c (Ci 0)]))∧Computes Tryz.prog Gl 74 [] (.ret (tBook exA))∧Computes Tryz.prog Gl 64 [tBook exA,I 1] (.ret (.tup [D.c (Ci 8),D.c (Ci 0)]))∧Computes Tryz.prog Gl 70 [str (have y:=have y:=have y:=[(110:UInt8),(100:UInt8),(32:UInt8),(48:UInt8),(51:UInt8),(49:UInt8),(10:UInt8)]; (101:UInt8)::(116:UInt8)::(32:UInt8)::(48:UInt8)::(10:UInt8)::(101:UInt8)::y; have y:=(101:UInt8)::(32:UInt8)::(48:UInt8)::(10:UInt8)::(115:UInt8)::(104:UInt8)::(101:UInt8)::y; (49:UInt8)::(10:UInt8)::(116:UInt8)::(97:UInt8)::(98:UInt8)::(108:UInt8)::y; have y:=have y:=(32:UInt8)::(49:UInt8)::(32:UInt8)::(49:UInt8)::(32:UInt8)::(49:UInt8)::(32:UInt8)::y; (32:UInt8)::(48:UInt8)::(32:UInt8)::(48:UInt8)::(32:UInt8)::(48:UInt8)::y; have y:=(111:UInt8)::(109:UInt8)::(112:UInt8)::(117:UInt8)::(116:UInt8)::(101:UInt8)::(114:UInt8)::y; (103:UInt8)::(105:UInt8)::(118:UInt8)::(101:UInt8)::(10:UInt8)::(99:UInt8)::y)] (.ret (.tup [D.agg (cBook exT),D.c (Ci 0)]))∧true=true∧true=true∧true=true∧true=true∧true=true∧true=true∧true=true∧true=true∧true=true∧true=true∧true=true∧true=true∧true=true∧true=true∧true=true∧true=true∧true=true∧true=true∧true=true∧true=true∧true=true∧true=true∧true=true∧true=true∧false=false∧true=true∧true=true∧true=true∧true=true∧true=true∧Computes Tryz.prog Gl 34 [L eI [(6:Int),(6:Int)],T.d (D.c (C.s Tag.n (2:Nat) fun i=>List.getD [List.map C.dem [C.v (Value.int IntKind.i64 (6:Int))],List.map C.dem [C.v (Value.int IntKind.i64 (6:Int))]] i []))] (.ret (B true))∧true=true∧true=true∧true=true∧Computes Tryz.prog Gl 39 [I 5,I 8] (.ret (T.d (D.agg [Ci 5,Ci 8])))∧true=true∧Computes Tryz.prog Gl 39 [I 6,I 11] (.ret (T.d (D.agg [Ci 6,Ci 11])))∧true=true∧true=true∧Computes Tryz.prog Gl 31 [L eSpan [Span.mk (5:Int) (8:Int),Span.mk (6:Int) (11:Int)],T.d (D.c (C.s Tag.n (2:Nat) fun i=>List.getD [List.map C.dem (List.map C.dem [C.v (Value.int IntKind.i64 (5:Int)),C.v (Value.int IntKind.i64 (8:Int))]),List.map C.dem (List.map C.dem [C.v (Value.int IntKind.i64 (6:Int)),C.v (Value.int IntKind.i64 (11:Int))])] i []))] (.ret (B true))∧true=true∧true=true∧true=true∧true=true∧Computes Tryz.prog Gl 41 [L eI [(3:Int),(2:Int)],T.d (D.c (C.s Tag.n (2:Nat) fun i=>List.getD [List.map C.dem [C.v (Value.int IntKind.i64 (3:Int))],List.map C.dem [C.v (Value.int IntKind.i64 (2:Int))]] i []))] (.ret (B true))∧true=true∧true=true∧true=true∧true=true∧true=true∧true=true∧true=true∧true=true∧true=true∧((0:Nat)≤maxLen→true=true∧false=false∧Computes Tryz.prog Gl 39 [I 6,I 13] (.ret (T.d (D.agg [Ci 6,Ci 13])))∧Computes Tryz.prog Gl 39 [I 5,I 8] (.ret (T.d (D.agg [Ci 5,Ci 8])))∧Computes Tryz.prog Gl 31 [L eSpan [Span.mk (6:Int) (13:Int),Span.mk (5:Int) (8:Int)],T.d (D.c (C.s Tag.n (2:Nat) fun i=>List.getD [List.map C.dem (List.map C.dem [C.v (Value.int IntKind.i64 (6:Int)),C.v (Value.int IntKind.i64 (13:Int))]),List.map C.dem (List.map C.dem [C.v (Value.int IntKind.i64 (5:Int)),C.v (Value.int IntKind.i64 (8:Int))])] i []))] (.ret (B true))∧true=true∧true=true∧Computes Tryz.prog Gl 77 [] (.ret (L eTask exR))∧true=true∧Computes Tryz.prog Gl 54 [L eTask exR,L eTask exR] (.ret (B true))∧true=true∧true=true∧true=true∧true=true∧Computes Tryz.prog Gl 77 [] (.ret (L eTask exR))∧true=true∧Computes Tryz.prog Gl 54 [L eTask exR,L eTask exR] (.ret (B true))∧true=true∧true=true∧true=true∧true=true∧true=true∧Computes Tryz.prog Gl 34 [L eI [(0:Int),(1:Int)],T.d (D.c (C.s Tag.n (2:Nat) fun i=>List.getD [List.map C.dem [C.v (Value.int IntKind.i64 (0:Int))],List.map C.dem [C.v (Value.int IntKind.i64 (1:Int))]] i []))] (.ret (B true))∧true=true∧true=true∧true=true∧true=true∧Computes Tryz.prog Gl 71 [tBook exT] (.ret (str txT))∧true=true∧true=true)) (by kernel_rfl) ?_
  have two : ∀ i, i < 2 → i = 0 ∨ i = 1 := fun i h => by omega
  have three : ∀ i, i < 3 → i = 0 ∨ i = 1 ∨ i = 2 := fun i h => by omega
  have t : (true = true) := rfl
  repeat' first | with_reducible apply And.intro | with_reducible intro _
  all_goals first
    | exact t
    | exact a74 S
    | exact p76 S
    | exact r77 S
    | exact task75 S _ _ _
    | exact span39 S _ _
    | exact kBack S
    | exact kTables S
    | exact kProof S
    | exact kIdle S
    | exact kLost S
    | exact kFirst S
    | exact kCount S
    | exact kBest S
    | exact kWho S
    | exact kMore S
    | exact kRead S hG
    | exact kPlans S
    | exact kPrint S
    | exact kWhy S _ ⟨rfl, fun i hi => by rcases two i hi with rfl | rfl <;> exact .inl rfl⟩
    | exact kWhen S _ _ _ ⟨rfl, fun i hi => by rcases three i hi with rfl | rfl | rfl <;> exact .inl rfl⟩ ⟨rfl, fun i hi => by rcases three i hi with rfl | rfl | rfl <;> exact .inl rfl⟩ ⟨rfl, fun i hi => by rcases three i hi with rfl | rfl | rfl <;> exact .inl rfl⟩
    | exact kSame S _ ⟨rfl, fun i hi => by rcases two i hi with rfl | rfl <;> exact .inl rfl⟩
    | exact kSame2 S _ ⟨rfl, fun i hi => by rcases two i hi with rfl | rfl <;> exact .inl rfl⟩
    | exact kSpans S _ ⟨rfl, fun i hi => by rcases two i hi with rfl | rfl <;> exact .inl rfl⟩
    | exact kSpans2 S _ ⟨rfl, fun i hi => by rcases two i hi with rfl | rfl <;> exact .inl rfl⟩
    | exact kWords S _ ⟨rfl, fun i hi => by rcases two i hi with rfl | rfl <;> exact .inl rfl⟩
    | rfl
    | skip
end Go.Vc.Gd
namespace Go.Vc.Gd
open Go Go.Proofs Go.Vc
variable {Gl : World → Prop}
theorem bookV (S : Set Tryz.prog Y Gl) (b : Book) {x : Bool} (h : b.ok = x) : Computes Tryz.prog Gl 52 [tBook b] (.ret (B x)) := by
  subst h; exact book52 S b
theorem sameP_T (S : Set Tryz.prog Y Gl) (l : List Task) : Computes Tryz.prog Gl 54 [L eTask l, L eTask l] (.ret (B true)) := by
  have h := samePlans54 S l l
  rw [sameTask_refl] at h
  exact h
end Go.Vc.Gd
namespace Go.Vc.Gd
open Go Go.Proofs Go.Vc
variable {Gl : World → Prop}
theorem best55T (S : Set Tryz.prog Y Gl) (b : Book) (hb : b.ok = true) (hn : b.plans.length ≠ 0) : Computes Tryz.prog Gl 55 [tBook b] (.ret (.tup [.c (.l eTask b.best), .c (Cb true)])) := by
  have h1 := best55 S b hb
  have hn' : (!b.plans.length == 0) = true := by rw [beq_eq_false_iff_ne.2 hn]; rfl
  rw [hn'] at h1
  exact h1
theorem best55F (S : Set Tryz.prog Y Gl) (b : Book) (hb : b.ok = true) (hn : b.plans.length = 0) : Computes Tryz.prog Gl 55 [tBook b] (.ret (.tup [.c (.l eTask b.best), .c (Cb false)])) := by
  have h1 := best55 S b hb
  have hn' : (!b.plans.length == 0) = false := by rw [hn]; rfl
  rw [hn'] at h1
  exact h1
theorem firstT (S : Set Tryz.prog Y Gl) (b : Book) (hb : b.ok = true) (hn : b.all.length ≠ 0) : Computes Tryz.prog Gl 49 [tBook b] (.ret (.tup [.c (.l eTask (nth b.all 0)), .c (Ci 0)])) := by
  have h1 := firstA S b
  unfold ifL firstErr at h1
  have hn' : (b.all.length == 0) = false := beq_eq_false_iff_ne.2 hn
  rw [hb, hn'] at h1
  exact h1
theorem firstN' (S : Set Tryz.prog Y Gl) (b : Book) (hb : b.ok = true) (hn : b.all.length = 0) : Computes Tryz.prog Gl 49 [tBook b] (.ret (.tup [.c (.l eTask []), .c (Ci 5)])) := by
  have h1 := firstA S b
  unfold ifL firstErr at h1
  rw [hb, hn] at h1
  exact h1
theorem firstF (S : Set Tryz.prog Y Gl) (b : Book) (hb : b.ok = false) : Computes Tryz.prog Gl 49 [tBook b] (.ret (.tup [.c (.l eTask []), .c (Ci 2)])) := (first49e S b hb).weak ⟨rfl, rfl⟩
theorem countT (S : Set Tryz.prog Y Gl) (b : Book) (hb : b.ok = true) : Computes Tryz.prog Gl 50 [tBook b] (.ret (.tup [.c (Ci b.all.length), .c (Ci 0)])) := by
  have h1 := count50 S b hb
  rw [count_eq hb] at h1
  exact h1
theorem bestT (S : Set Tryz.prog Y Gl) (b : Book) (hb : b.ok = true) (hn : b.plans.length ≠ 0) : Computes Tryz.prog Gl 51 [tBook b] (.ret (.tup [.c (.l eTask b.best), .c (Ci (lastOf b b.best)), .c (Ci 0)])) := by
  have h1 := best51 S b hb
  have hn' : (b.plans.length == 0) = false := beq_eq_false_iff_ne.2 hn
  rw [plans_none, hn', soonest_eq (by rw [plans_none]; exact hn')] at h1
  exact h1
theorem bestN (S : Set Tryz.prog Y Gl) (b : Book) (hb : b.ok = true) (hn : b.plans.length = 0) : Computes Tryz.prog Gl 51 [tBook b] (.ret (.tup [.c (.l eTask []), .c (Ci 0), .c (Ci 5)])) := by
  have h1 := best51 S b hb
  have hn' : (b.plans.length == 0) = true := beq_iff_eq.2 hn
  have e : soonest b = ⟨[], 0⟩ := by unfold soonest; rw [plans_none, hn']; rfl
  rw [plans_none, hn', e] at h1
  exact h1
theorem bestF (S : Set Tryz.prog Y Gl) (b : Book) (hb : b.ok = false) : Computes Tryz.prog Gl 51 [tBook b] (.ret (.tup [.c (.l eTask []), .c (Ci 0), .c (Ci 2)])) := (best51e S b hb).weak ⟨rfl, rfl, rfl⟩
end Go.Vc.Gd
namespace Go.Vc.Gd
open Go Go.Proofs Go.Vc
structure ProofOK (b : Book) (plan : List Task) (n i : Nat) : Prop where
  hn : n < b.dues.length
  hi : i < plan.length
  on : nth b.sheets i = (n : Int)
  late : nth b.dues n < (nth (backs b plan) i).high
  word : wordAt b plan n ≠ 3
  rows : ∀ m, m < n → wordAt b plan m = 3
  before : ∀ j, j < i → nth b.sheets j = (n : Int) → (nth (backs b plan) j).high ≤ nth b.dues n
end Go.Vc.Gd
