/- A part of the proofs over layer 6 (give): the program and the specification; no condition. -/
import Derived.Test.YtnifdkjffcdhcaaGreatDoorHtD
import Derived.Shelf.Small.Bits
import Derived.Shelf.Small.Wraps
import Derived.Shelf.Strconv.Itoa0
import Derived.Shelf.Strconv.Itoa1
import Derived.Shelf.LaysM
import Derived.Shelf.Strconv.Itoa2
import Derived.Shelf.Strconv.Itoa3
import Derived.Shelf.Strings.Search1
import Derived.Shelf.Strings.Search2
import Derived.Shelf.Strings.Search3
import Derived.Shelf.Strings.Count
import Derived.Shelf.Strings.Shaped
import Derived.Shelf.Sort.Plain
import Derived.Shelf.Strings.Split
import Derived.Shelf.Unicode.DecodeSlow
import Derived.Ground.Names2Prog
import Derived.Shelf.Slices.CompactI
import Derived.Shelf.Slices.Cells
import Derived.Shelf.Slices.In.SortNone
set_option linter.all false
set_option linter.unusedSimpArgs false
set_option linter.unusedVariables false
namespace Go.Vc.Gd
open Go Go.Proofs Go.Vc
variable {Gl : World → Prop}
theorem clone104 (S : Set Tryz.prog Y Gl) (l : List Comp) (h1 : 1 ≤ l.length) (h2 : l.length ≤ 1000) : Computes Tryz.prog Gl 104 [L eComp l] (.ret (.tkd 39 7 l.length fun i => eComp (nth l i))) := by
 refine fn_is S (.ff .nil) Tryz.func104 (by kernel_rfl) ((0:Nat)<l.length∧false=false∧((0:Nat)+l.length)*56≤140737488355328∧(0:Nat)+l.length≤(140737488355328:Nat)∧SEq ((0:Nat)+l.length) (catF 0 (fun x=>[]) fun i=>eComp (nth l i)) l.length fun i=>eComp (nth l i)) (by kernel_rfl) ?_
 refine ⟨by omega, rfl, by omega, by omega, ⟨by omega, fun i hi => .inl ?_⟩⟩
 unfold catF
 rfl
def Book.withOne (b : Book) (like : Int) : Book := ⟨b.comps ++ [nth b.comps like.toNat], b.dues, b.sheets⟩
theorem soonestW (S : Set Tryz.prog Y Gl) (b b' : Book) (hb : b'.ok = true) (hd : b'.dues = b.dues) (hs : b'.sheets = b.sheets) (n : Nat) (f : Nat → List C) (h : SEq n f b'.comps.length (fun i => eComp (nth b'.comps i))) :
  Computes Tryz.prog Gl 97 [.d (.agg [.s .n n f, .l eI b.dues, .l eI b.sheets])] (.ret (.tup [.agg (eMade (soonest b')), .c (Ci (bif (allPlans b').length == 0 then 5 else 0))])) := by
 refine (soonest97 S b' hb).args (show SEq n f b'.comps.length (fun i => eComp (nth b'.comps i)) ∧ SEq b.dues.length _ b'.dues.length _ ∧ SEq b.sheets.length _ b'.sheets.length _ from ⟨h, ?_, ?_⟩)
 ·rw [hd]; exact SEq_whole rfl
 ·rw [hs]; exact SEq_whole rfl
theorem with_ok {b : Book} {like : Int} (hb : b.ok = true) (hc : b.isComp like = true) (hl : b.comps.length ≤ 3) : (b.withOne like).ok = true := by
 unfold Book.isComp at hc
 rw [inR_iff] at hc
 unfold Book.ok at hb ⊢
 simp only [Bool.and_eq_true, inR_iff, List.all_eq_true] at hb ⊢
 obtain ⟨h1, h2, h3, h4, h5, h6⟩ := hb
 unfold Book.withOne
 refine ⟨⟨by simp; omega, by simp; omega⟩, h2, h3, fun c hcm => ?_, h5, h6⟩
 rcases List.mem_append.1 hcm with h | h
 ·exact h4 c h
 ·rw [List.mem_singleton.1 h]
  exact h4 _ (nth_mem (by omega))
theorem more64 (S : Set Tryz.prog Y Gl) (b : Book) (like : Int) (hb : b.ok = true) (hc : b.isComp like = true) (hl : b.comps.length ≤ 3) : Computes Tryz.prog Gl 64 [tBook b, I like] (.ret (.tup [.c (Ci (soonest (b.withOne like)).day), .c (Ci (bif (allPlans (b.withOne like)).length == 0 then 5 else 0))])) := by
 refine fn_is S (.r (.ret (B true)) (.r (.ret (B (Book.isComp b like))) (.br .nil (.br .nil (.r (.ret (T.tkd (39:Nat) (7:Nat) (List.length (Book.comps b)) fun i=>eComp (nth (Book.comps b) i))) (.r (.ret (.tup [D.agg (eMade (soonest (Book.withOne b like))),D.c (Ci (bif List.length (allPlans (Book.withOne b like))==(0:Nat) then (5:Int) else (0:Int)))])) .nil)))))) Tryz.func64 (by kernel_rfl) (Computes Tryz.prog Gl 94 [tBook b] (.ret (B true))∧(true=true→true=true)∧(true=true→true=true)∧(true=true→Computes Tryz.prog Gl 92 [tBook b,I like] (.ret (B (Book.isComp b like))))∧(true=true→true=true)∧(false=false→true=true)∧((bif false then true else !Book.isComp b like)=true→(0:Int)=(soonest (Book.withOne b like)).2∧(2:Int)=bif List.length (allPlans (Book.withOne b like))==(0:Nat) then (5:Int) else (0:Int))∧((bif false then true else !Book.isComp b like)=false→b.1.length≤maxLen→(((↑b.1.length:Int)==4)=true→(0:Int)=(soonest (Book.withOne b like)).2∧(3:Int)=bif List.length (allPlans (Book.withOne b like))==(0:Nat) then (5:Int) else (0:Int))∧(((↑b.1.length:Int)==4)=false→Computes Tryz.prog Gl 104 [L eComp (Book.comps b)] (.ret (T.tkd (39:Nat) (7:Nat) (List.length (Book.comps b)) fun i=>eComp (nth (Book.comps b) i)))∧((0:Int)≤like∧like<(↑b.1.length:Int))∧(b.1.length+1)*56≤140737488355328∧b.1.length+1≤140737488355328∧Computes Tryz.prog Gl 97 [T.d (D.agg [C.s Tag.n (b.1.length+1) (catF b.1.length (fun i=>eComp (nth b.1 i)) fun i=>List.getD [List.map C.dem (List.map C.dem [C.v (Value.int IntKind.i64 (nth b.1 (Int.toNat like)).1),C.v (Value.int IntKind.i64 (nth b.1 (Int.toNat like)).2.1),C.v (Value.int IntKind.i64 (nth b.1 (Int.toNat like)).2.2),C.v (Value.int IntKind.i64 (nth b.1 (Int.toNat like)).3.1),C.v (Value.int IntKind.i64 (nth b.1 (Int.toNat like)).3.2),C.v (Value.int IntKind.i64 (nth b.1 (Int.toNat like)).4.1),C.v (Value.int IntKind.i64 (nth b.1 (Int.toNat like)).4.2)])] i []),C.l eI (Book.dues b),C.l eI (Book.sheets b)])] (.ret (.tup [D.agg (eMade (soonest (Book.withOne b like))),D.c (Ci (bif List.length (allPlans (Book.withOne b like))==(0:Nat) then (5:Int) else (0:Int)))]))∧(soonest (Book.withOne b like)).2=(soonest (Book.withOne b like)).2∧(bif List.length (allPlans (Book.withOne b like))==(0:Nat) then (5:Int) else (0:Int))=bif List.length (allPlans (Book.withOne b like))==(0:Nat) then (5:Int) else (0:Int)))) (by kernel_rfl) ?_
 have hcr : 0 ≤ like ∧ like < (b.comps.length : Int) := by
  have := hc
  unfold Book.isComp at this
  rw [inR_iff] at this
  omega
 obtain ⟨o1, _⟩ := ok_spec hb
 have hpush : SEq (b.comps.length + 1) (catF b.comps.length (fun i => eComp (nth b.comps i)) fun i => [List.map C.dem (List.map C.dem [C.v (Value.int IntKind.i64 (nth b.comps like.toNat).room), C.v (Value.int IntKind.i64 (nth b.comps like.toNat).post.low), C.v (Value.int IntKind.i64 (nth b.comps like.toNat).post.high), C.v (Value.int IntKind.i64 (nth b.comps like.toNat).sheet.low), C.v (Value.int IntKind.i64 (nth b.comps like.toNat).sheet.high), C.v (Value.int IntKind.i64 (nth b.comps like.toNat).look.low), C.v (Value.int IntKind.i64 (nth b.comps like.toNat).look.high)])].getD i [])
   (b.withOne like).comps.length (fun i => eComp (nth (b.withOne like).comps i)) := SEq_push1 rfl rfl
 have c92 := comp92 S b like
 simp only [stdS, imp_self, implies_true, and_true, hc]
 rw [hc] at c92
 refine ⟨fineT S b hb, fun _ => c92, fun h => (by cases h), fun _ _ => ⟨fun h => ?_, fun h => ⟨clone104 S b.comps (by omega) (by omega), hcr, by omega, by omega, soonestW S b (b.withOne like) (with_ok hb hc hl) rfl rfl _ _ hpush, trivial⟩⟩⟩
 have := eq_of_beq h
 omega
end Go.Vc.Gd
namespace Go.Proofs
open Go.Shelf
open Go.RowKit in
open Go.Lib in
open Go.Lib in
open Go.Lib in
open Go.Lib in
open Go.RowKit Go.Sort Go.Lib in
open Go.RowKit Go.Sort Go.Lib in
open Go.RowKit Go.Sort Go.Lib in
open Go.RowKit Go.Sort Go.Lib in
open Go.RowKit Go.Sort Go.Lib in
open Go.RowKit Go.Sort Go.Lib in
def Tryz.lays171_ren : Go.Shelf.Ren := ⟨fun | 171 => 131 | 243 => 162 | 246 => 173 | 283 => 178 | 284 => 179 | 285 => 180 | 286 => 181 | 129 => 160 | 317 => 186 | 318 => 187 | 319 => 188 | 320 => 189 | 337 => 195 | 338 => 196 | n => n, fun | 3 => 3 | 9 => 9 | 2 => 2 | 4 => 4 | 171 => 225 | 0 => 0 | 53 => 207 | 37 => 110 | 5 => 5 | 173 => 227 | 212 => 234 | 51 => 205 | 20 => 20 | 213 => 235 | 46 => 170 | 232 => 242 | 233 => 243 | n => n, fun | 17 => 0 | 18 => 4 | 19 => 5 | n => n⟩
theorem Tryz.lays171 : Go.Proofs.Lays.n171 Tryz.prog Tryz.lays171_ren := {
 mixed := by kernel_rfl
 f129 := Tryz.func160.trans (congrArg some (by kernel_rfl))
 f171 := Tryz.func131.trans (congrArg some (by kernel_rfl))
 f243 := Tryz.func162.trans (congrArg some (by kernel_rfl))
 f246 := Tryz.func173.trans (congrArg some (by kernel_rfl))
 f283 := Tryz.func178.trans (congrArg some (by kernel_rfl))
 f284 := Tryz.func179.trans (congrArg some (by kernel_rfl))
 f285 := Tryz.func180.trans (congrArg some (by kernel_rfl))
 f286 := Tryz.func181.trans (congrArg some (by kernel_rfl))
 f317 := Tryz.func186.trans (congrArg some (by kernel_rfl))
 f318 := Tryz.func187.trans (congrArg some (by kernel_rfl))
 f319 := Tryz.func188.trans (congrArg some (by kernel_rfl))
 f320 := Tryz.func189.trans (congrArg some (by kernel_rfl))
 f337 := Tryz.func195.trans (congrArg some (by kernel_rfl))
 f338 := Tryz.func196.trans (congrArg some (by kernel_rfl))
 t0 := Tryz.underlying0
 a0 := Tryz.isAgg0
 z0 := Tryz.sizeOf0
 v0 := Tryz.zeroValue0
 t2 := Tryz.underlying2
 a2 := Tryz.isAgg2
 z2 := Tryz.sizeOf2
 v2 := Tryz.zeroValue2
 t3 := Tryz.underlying3
 a3 := Tryz.isAgg3
 z3 := Tryz.sizeOf3
 v3 := Tryz.zeroValue3
 t4 := Tryz.underlying4
 a4 := Tryz.isAgg4
 z4 := Tryz.sizeOf4
 v4 := Tryz.zeroValue4
 t5 := Tryz.underlying5
 a5 := Tryz.isAgg5
 z5 := Tryz.sizeOf5
 v5 := Tryz.zeroValue5
 t9 := Tryz.underlying9
 a9 := Tryz.isAgg9
 z9 := Tryz.sizeOf9
 v9 := Tryz.zeroValue9
 t20 := Tryz.underlying20
 a20 := Tryz.isAgg20
 z20 := Tryz.sizeOf20
 v20 := Tryz.zeroValue20
 t37 := Tryz.underlying110
 a37 := Tryz.isAgg110
 z37 := Tryz.sizeOf110
 v37 := Tryz.zeroValue110
 t46 := Tryz.underlying170
 a46 := Tryz.isAgg170
 z46 := Tryz.sizeOf170
 v46 := Tryz.zeroValue170
 t51 := Tryz.underlying205
 a51 := Tryz.isAgg205
 z51 := Tryz.sizeOf205
 v51 := Tryz.zeroValue205
 t53 := Tryz.underlying207
 a53 := Tryz.isAgg207
 z53 := Tryz.sizeOf207
 v53 := Tryz.zeroValue207
 t171 := Tryz.underlying225
 a171 := Tryz.isAgg225
 z171 := Tryz.sizeOf225
 v171 := Tryz.zeroValue225
 t173 := Tryz.underlying227
 a173 := Tryz.isAgg227
 z173 := Tryz.sizeOf227
 v173 := Tryz.zeroValue227
 t212 := Tryz.underlying234
 a212 := Tryz.isAgg234
 z212 := Tryz.sizeOf234
 v212 := Tryz.zeroValue234
 t213 := Tryz.underlying235
 a213 := Tryz.isAgg235
 z213 := Tryz.sizeOf235
 t232 := Tryz.underlying242
 a232 := Tryz.isAgg242
 z232 := Tryz.sizeOf242
 v232 := Tryz.zeroValue242
 t233 := Tryz.underlying243
 a233 := Tryz.isAgg243
 z233 := Tryz.sizeOf243
 v233 := Tryz.zeroValue243
 g17 := by kernel_rfl
 g18 := by kernel_rfl
 g19 := by kernel_rfl }
open Go.RowKit Go.Sort Go.Lib in
theorem Tryz.strconv_Itoa_small (i : Nat) (hi : i < 100) (w : World) :
  Calls Tryz.prog 131 #[.int .i64 i] w fun e w' => e = .returned (.string ⟨(Lib.decDigits i).toArray⟩) ∧ w' = w := Any.strconv_Itoa_small Tryz.lays171 i hi w
open Go.RowKit Go.Lib in
open Go.RowKit Go.Lib in
open Go.RowKit Go.Lib in
open Go.RowKit Go.Lib in
open Go.RowKit Go.Lib in
open Go.RowKit Go.Lib in
open Go.RowKit Go.Lib in
open Go.RowKit Go.Lib in
open Go.RowKit Go.Lib in
open Go.RowKit Go.Lib in
open Go.RowKit Go.Lib in
open Go.RowKit Go.Lib in
open Go.RowKit Go.Lib in
def Tryz.lays189_ren : Go.Shelf.Ren := ⟨fun | 189 => 101 | 125 => 129 | 257 => 128 | 128 => 159 | 129 => 160 | 294 => 150 | 295 => 151 | 296 => 152 | 297 => 153 | 298 => 154 | 299 => 155 | 216 => 156 | 300 => 157 | 301 => 158 | 328 => 167 | 329 => 168 | 330 => 169 | 331 => 170 | 332 => 171 | 215 => 172 | 343 => 177 | n => n, fun | 28 => 23 | 3 => 3 | 46 => 170 | 0 => 0 | 51 => 205 | 53 => 207 | 4 => 4 | 183 => 197 | 182 => 196 | 131 => 202 | 5 => 5 | 9 => 9 | 218 => 213 | 222 => 217 | 228 => 222 | 229 => 223 | n => n, fun | n => n⟩
theorem Tryz.lays189 : Go.Proofs.Lays.n189 Tryz.prog Tryz.lays189_ren := {
 mixed := by kernel_rfl
 f125 := Tryz.func129.trans (congrArg some (by kernel_rfl))
 f128 := Tryz.func159.trans (congrArg some (by kernel_rfl))
 f129 := Tryz.func160.trans (congrArg some (by kernel_rfl))
 f189 := Tryz.func101.trans (congrArg some (by kernel_rfl))
 f215 := Tryz.func172.trans (congrArg some (by kernel_rfl))
 f216 := Tryz.func156.trans (congrArg some (by kernel_rfl))
 f257 := Tryz.func128.trans (congrArg some (by kernel_rfl))
 f294 := Tryz.func150.trans (congrArg some (by kernel_rfl))
 f295 := Tryz.func151.trans (congrArg some (by kernel_rfl))
 f296 := Tryz.func152.trans (congrArg some (by kernel_rfl))
 f297 := Tryz.func153.trans (congrArg some (by kernel_rfl))
 f298 := Tryz.func154.trans (congrArg some (by kernel_rfl))
 f299 := Tryz.func155.trans (congrArg some (by kernel_rfl))
 f300 := Tryz.func157.trans (congrArg some (by kernel_rfl))
 f301 := Tryz.func158.trans (congrArg some (by kernel_rfl))
 f328 := Tryz.func167.trans (congrArg some (by kernel_rfl))
 f329 := Tryz.func168.trans (congrArg some (by kernel_rfl))
 f330 := Tryz.func169.trans (congrArg some (by kernel_rfl))
 f331 := Tryz.func170.trans (congrArg some (by kernel_rfl))
 f332 := Tryz.func171.trans (congrArg some (by kernel_rfl))
 f343 := Tryz.func177.trans (congrArg some (by kernel_rfl))
 t0 := Tryz.underlying0
 a0 := Tryz.isAgg0
 z0 := Tryz.sizeOf0
 v0 := Tryz.zeroValue0
 t3 := Tryz.underlying3
 a3 := Tryz.isAgg3
 z3 := Tryz.sizeOf3
 v3 := Tryz.zeroValue3
 t4 := Tryz.underlying4
 a4 := Tryz.isAgg4
 z4 := Tryz.sizeOf4
 v4 := Tryz.zeroValue4
 t5 := Tryz.underlying5
 a5 := Tryz.isAgg5
 z5 := Tryz.sizeOf5
 v5 := Tryz.zeroValue5
 t9 := Tryz.underlying9
 a9 := Tryz.isAgg9
 z9 := Tryz.sizeOf9
 v9 := Tryz.zeroValue9
 t28 := Tryz.underlying23
 a28 := Tryz.isAgg23
 z28 := Tryz.sizeOf23
 v28 := Tryz.zeroValue23
 t46 := Tryz.underlying170
 a46 := Tryz.isAgg170
 z46 := Tryz.sizeOf170
 v46 := Tryz.zeroValue170
 t51 := Tryz.underlying205
 a51 := Tryz.isAgg205
 z51 := Tryz.sizeOf205
 v51 := Tryz.zeroValue205
 t53 := Tryz.underlying207
 a53 := Tryz.isAgg207
 z53 := Tryz.sizeOf207
 v53 := Tryz.zeroValue207
 t131 := Tryz.underlying202
 a131 := Tryz.isAgg202
 z131 := Tryz.sizeOf202
 v131 := Tryz.zeroValue202
 t182 := Tryz.underlying196
 a182 := Tryz.isAgg196
 z182 := Tryz.sizeOf196
 v182 := Tryz.zeroValue196
 t183 := Tryz.underlying197
 a183 := Tryz.isAgg197
 z183 := Tryz.sizeOf197
 v183 := Tryz.zeroValue197
 t218 := Tryz.underlying213
 a218 := Tryz.isAgg213
 z218 := Tryz.sizeOf213
 v218 := Tryz.zeroValue213
 t222 := Tryz.underlying217
 a222 := Tryz.isAgg217
 z222 := Tryz.sizeOf217
 v222 := Tryz.zeroValue217
 t228 := Tryz.underlying222
 a228 := Tryz.isAgg222
 z228 := Tryz.sizeOf222
 v228 := Tryz.zeroValue222
 t229 := Tryz.underlying223
 a229 := Tryz.isAgg223
 z229 := Tryz.sizeOf223
 v229 := Tryz.zeroValue223 }
open Go.Sort Go.RowKit in
theorem Tryz.slices_Sort_int (blk off cap : Nat) (zs : List Int) (w : World) (hH : Holds (Value.int .i64) w blk off zs.toArray) (hblk : blk < w.heap.size) (hsz : zs.length < 4611686018427387904) :
  Calls Tryz.prog 101 #[.slice (some ⟨blk, off, none⟩) zs.length cap] w fun e w' =>
   e = .returned (.tuple #[]) ∧ ∃ n os, w' = grow (putRow (Value.int .i64) (Sort.ahead w n) blk off (zs.mergeSort fun x y => decide (x ≤ y)).toArray) os := Any.slices_Sort_int Tryz.lays189 blk off cap zs w hH hblk hsz
open Go.RowKit Go.Lib in
open Go.RowKit Go.Lib in
def Tryz.lays146_ren : Go.Shelf.Ren := ⟨fun | 146 => 133 | 221 => 163 | 268 => 174 | 138 => 175 | 143 => 176 | 195 => 182 | 197 => 183 | 218 => 184 | 219 => 185 | 260 => 190 | 217 => 191 | 225 => 192 | 224 => 193 | 267 => 194 | 266 => 197 | 314 => 198 | n => n, fun | 9 => 9 | 31 => 149 | 3 => 3 | 4 => 4 | 0 => 0 | 105 => 229 | 21 => 21 | 5 => 5 | 46 => 170 | 119 => 236 | 139 => 239 | 138 => 238 | 146 => 240 | 51 => 205 | n => n, fun | 1 => 1 | 3 => 2 | 4 => 3 | n => n⟩
theorem Tryz.lays146 : Go.Proofs.Lays.n146 Tryz.prog Tryz.lays146_ren := {
 mixed := by kernel_rfl
 f138 := Tryz.func175.trans (congrArg some (by kernel_rfl))
 f143 := Tryz.func176.trans (congrArg some (by kernel_rfl))
 f146 := Tryz.func133.trans (congrArg some (by kernel_rfl))
 f195 := Tryz.func182.trans (congrArg some (by kernel_rfl))
 f197 := Tryz.func183.trans (congrArg some (by kernel_rfl))
 f217 := Tryz.func191.trans (congrArg some (by kernel_rfl))
 f218 := Tryz.func184.trans (congrArg some (by kernel_rfl))
 f219 := Tryz.func185.trans (congrArg some (by kernel_rfl))
 f221 := Tryz.func163.trans (congrArg some (by kernel_rfl))
 f224 := Tryz.func193.trans (congrArg some (by kernel_rfl))
 f225 := Tryz.func192.trans (congrArg some (by kernel_rfl))
 f260 := Tryz.func190.trans (congrArg some (by kernel_rfl))
 f266 := Tryz.func197.trans (congrArg some (by kernel_rfl))
 f267 := Tryz.func194.trans (congrArg some (by kernel_rfl))
 f268 := Tryz.func174.trans (congrArg some (by kernel_rfl))
 f314 := Tryz.func198.trans (congrArg some (by kernel_rfl))
 t0 := Tryz.underlying0
 a0 := Tryz.isAgg0
 z0 := Tryz.sizeOf0
 v0 := Tryz.zeroValue0
 t3 := Tryz.underlying3
 a3 := Tryz.isAgg3
 z3 := Tryz.sizeOf3
 v3 := Tryz.zeroValue3
 t4 := Tryz.underlying4
 a4 := Tryz.isAgg4
 z4 := Tryz.sizeOf4
 v4 := Tryz.zeroValue4
 t5 := Tryz.underlying5
 a5 := Tryz.isAgg5
 z5 := Tryz.sizeOf5
 v5 := Tryz.zeroValue5
 t9 := Tryz.underlying9
 a9 := Tryz.isAgg9
 z9 := Tryz.sizeOf9
 v9 := Tryz.zeroValue9
 t21 := Tryz.underlying21
 a21 := Tryz.isAgg21
 z21 := Tryz.sizeOf21
 v21 := Tryz.zeroValue21
 t31 := Tryz.underlying149
 a31 := Tryz.isAgg149
 z31 := Tryz.sizeOf149
 v31 := Tryz.zeroValue149
 t46 := Tryz.underlying170
 a46 := Tryz.isAgg170
 z46 := Tryz.sizeOf170
 v46 := Tryz.zeroValue170
 t51 := Tryz.underlying205
 a51 := Tryz.isAgg205
 z51 := Tryz.sizeOf205
 v51 := Tryz.zeroValue205
 t105 := Tryz.underlying229
 a105 := Tryz.isAgg229
 z105 := Tryz.sizeOf229
 v105 := Tryz.zeroValue229
 t119 := Tryz.underlying236
 a119 := Tryz.isAgg236
 z119 := Tryz.sizeOf236
 t138 := Tryz.underlying238
 a138 := Tryz.isAgg238
 z138 := Tryz.sizeOf238
 v138 := Tryz.zeroValue238
 t139 := Tryz.underlying239
 a139 := Tryz.isAgg239
 z139 := Tryz.sizeOf239
 v139 := Tryz.zeroValue239
 t146 := Tryz.underlying240
 a146 := Tryz.isAgg240
 z146 := Tryz.sizeOf240
 v146 := Tryz.zeroValue240
 g1 := by kernel_rfl
 g3 := by kernel_rfl
 g4 := by kernel_rfl }
open Go.RowKit Go.Lib in
theorem Tryz.strings_Split (s sep : ByteArray) (m : Int) (w : World) (hs : s.size < 4294967281) (hm : w.cell? ⟨1, 0, none⟩ = some (.int .i64 m)) (h1 : 1 ≤ sep.size) :
  Calls Tryz.prog 133 #[.string s, .string sep] w fun e w' =>
   e = .returned (.slice (some ⟨w.heap.size, 0, none⟩) (Lib.countB s sep + 1) (Lib.countB s sep + 1)) ∧ w' = w.alloc (.cells ((Lib.splitB sep 0 (Lib.countB s sep) s).map Value.string).toArray 9) := Any.strings_Split Tryz.lays146 (by kernel_rfl) s sep m w hs hm h1
open Go.RowKit Go.Lib in
def Tryz.laysNm220_ren : Go.Shelf.Ren := ⟨fun | 20 => 102 | n => n, fun | 22 => 23 | 3 => 3 | 4 => 4 | 0 => 0 | n => n, fun | n => n⟩
theorem Tryz.laysNm220 : Go.Proofs.Lays2.n20 Tryz.prog Tryz.laysNm220_ren := {
 mixed := by kernel_rfl
 f20 := Tryz.func102.trans (congrArg some (by kernel_rfl))
 t0 := Tryz.underlying0
 a0 := Tryz.isAgg0
 z0 := Tryz.sizeOf0
 v0 := Tryz.zeroValue0
 t3 := Tryz.underlying3
 a3 := Tryz.isAgg3
 z3 := Tryz.sizeOf3
 v3 := Tryz.zeroValue3
 t4 := Tryz.underlying4
 a4 := Tryz.isAgg4
 z4 := Tryz.sizeOf4
 v4 := Tryz.zeroValue4
 t22 := Tryz.underlying23
 a22 := Tryz.isAgg23
 z22 := Tryz.sizeOf23
 v22 := Tryz.zeroValue23
 i3 := by kernel_rfl }
open Go.RowKit Go.Lib Go.Sort in
open Go.RowKit Go.Lib Go.Sort in
theorem Tryz.slices_Compact_int (blk off cap : Nat) (zs : List Int) (w : World) (hH : Holds (Value.int .i64) w blk off zs.toArray) (hsz : zs.length ≤ 9223372036854775807) (hcap : zs.length ≤ cap) :
  Calls Tryz.prog 102 #[.slice (some ⟨blk, off, none⟩) zs.length cap] w fun e w' => e = .returned (.slice (some ⟨blk, off, none⟩) (Lib.compact zs).length cap) ∧ ∃ q, w' = putRow (Value.int .i64) (Sort.ahead w q) blk off (Lib.compact zs ++ List.replicate (zs.length - (Lib.compact zs).length) 0).toArray := Any.slices_Compact_int Tryz.laysNm220 blk off cap zs w hH hsz hcap
open Go.RowKit Go.Lib Go.Sort in
theorem Tryz.slices_Compact_int_empty (a : Option Addr) (cap : Nat) (w : World) :
  Calls Tryz.prog 102 #[.slice a 0 cap] w fun e w' => e = .returned (.slice a 0 cap) ∧ w' = w := Any.slices_Compact_int_empty Tryz.laysNm220 a cap w
open Go.RowKit Go.Lib Go.Sort in
open Go.RowKit Go.Sort in
theorem Tryz.slices_Sort_int_none (p : Option Addr) (cap : Nat) (w : World) :
  Calls Tryz.prog 101 #[.slice p 0 cap] w fun e w' => e = .returned (.tuple #[]) ∧ w' = w := Any.slices_Sort_int_none Tryz.lays189 p cap w
end Go.Proofs
namespace Go.Vc
open Go Go.RowKit
section
variable {P : Program} {Y : TypeId → Ty} {a : Act} {w : World}
theorem raw_load1 (hY : YOK P Y) {o : Oper} {p : Operand} {t : TypeId} {b k : Nat} {u : Value} (ho : o.op = .load t p) (hag : (Y t).agg = some false) (hp : a.eval p = .pointer (some ⟨b, k, none⟩)) (hu : w.cell? ⟨b, k, none⟩ = some u) :
  (execOp a.eval o).run P w = .ok (.value u) w := by
 have := run_load1 hY hag hu
 simp [execOp, ho, hp, Instr.loadAt, Instr.sureAddr, this]
end
end Go.Vc
namespace Go.Vc.Gd
open Go Go.Proofs Go.Vc Go.RowKit
def handsTo (b : Book) (sheet : Int) : Nat → List Int
 | 0 => []
 | p + 1 => bif sureP b (nth (allPlans b) p) then handsTo b sheet p ++ [(nth (nth (allPlans b) p) sheet.toNat).one, (nth (nth (allPlans b) p) sheet.toNat).other] else handsTo b sheet p
theorem handsTo_len (b : Book) (sheet : Int) : ∀ k, (handsTo b sheet k).length ≤ 2 * k
 | 0 => Nat.le_refl _
 | k + 1 => by
  have := handsTo_len b sheet k
  unfold handsTo
  cases sureP b (nth (allPlans b) k) <;> simp <;> omega
def sortedOnce (zs : List Int) : List Int := Lib.compact (zs.mergeSort fun x y => decide (x ≤ y))
theorem compact_len (zs : List Int) : (Lib.compact zs).length ≤ zs.length := by
 unfold Lib.compact Lib.compactUpTo
 rw [List.length_map]
 have := List.length_filter_le (Lib.keeps zs.toArray) (List.range zs.length)
 simpa using this
theorem heap_putRow {α : Type} [Inhabited α] (enc : α → Value) (w : World) (blk off : Nat) (d : Array α) {b : Nat} (h : b ≠ blk) : (Sort.putRow enc w blk off d).heap[b]? = w.heap[b]? := by
 simp only [Sort.putRow, Sort.mapBlock, Array.getElem?_modify]
 rw [if_neg (fun hh => h hh.symm)]
theorem ints_holds {vis : Nat → Nat} {w : World} {b off cap : Nat} {zs : List Int} {g : Tag} {n : Nat} {f : Nat → List C} (hn : n = zs.length) (hf : f = fun i => eI (nth zs i)) (hrep : Rep vis w (.s g n f) (.slice (some ⟨b, off, none⟩) n cap)) {cs : Array Value} {t : TypeId} (hh : w.heap[b]? = some (.cells cs t (0, 0))) :
  Sort.Holds (Value.int .i64) w b off zs.toArray := by
 intro j hj
 have hj : j < zs.length := by simpa using hj
 rw [← hn] at hj
 cases hrep with
 | s _ n f b off cap sz u a1 a2 a3 a4 a5 a6 =>
  subst hf
  have hsz : sz = 1 := (a3 j hj).symm
  subst hsz
  have h5 := a5 j 0 _ hj rfl
  have h6 := a6 j 0 _ hj rfl
  rw [Nat.mul_one, Nat.add_zero] at h5
  refine ⟨?_, by simp [World.frozen?, hh]⟩
  rw [h5]
  have hnth : zs.toArray[j]! = nth zs j := by
   rw [nth_eq (by omega), getElem!_pos _ j (by simp; omega)]
   simp
  rw [hnth]
  generalize u j 0 = uv at h6
  cases h6
  rfl
structure Once (X : Cx) (w w3 : World) (zs : List Int) (u : Value) (vis' : Nat → Nat) : Prop where
 size : w.heap.size ≤ w3.heap.size
 os : w3.os = w.os
 tape : w3.tape = w.tape
 output : w3.output = w.output
 mark : ∀ D : Nat, w.heap[D]? = some (.deferred (some [])) → w3.heap[D]? = w.heap[D]?
 old : ∀ b : Nat, b < X.base → w3.heap[b]? = w.heap[b]?
 vold : ∀ b, b < X.base → vis' b = X.vis b
 fresh : ∀ b, w3.heap.size ≤ b → vis' b = 0
 rep : Rep vis' w3 (.l eI (sortedOnce zs)) u
variable {X : Cx} {a : Act} {w : World} {G : Gh} {e : Env} {nt : Nat}
theorem sort_compact (R : Rel Y X nt [] e a w G) {zs : List Int} {u : Value} {bx' : Nat} {k : Nat} (hk : k < FAR) (hlen : zs.length ≤ 1000000) (hbox : ∀ b, G.tk k = some b → bx' ≠ b) (hbl : bx' < w.heap.size)
  (hrep : Rep G.vis w (.s (.t k) zs.length fun i => eI (nth zs i)) u) (hown : Own G w Y k 3 zs.length (fun i => eI (nth zs i)) u) :
  ∃ Q : World → Prop, Calls Tryz.prog 101 #[u] w (fun en w1 => en = .returned (.tuple #[]) ∧ Q w1) ∧ ∀ w1, Q w1 → w1.heap[bx']? = w.heap[bx']? ∧
   Calls Tryz.prog 102 #[u] w1 (fun en w3 => ∃ u' vis', en = .returned u' ∧ Once X w w3 zs u' vis') := by
 have triv : ∀ (p : Option Addr) (cap : Nat), zs = [] → u = .slice p 0 cap → (∃ vis' : Nat → Nat, vis' = G.vis) → ∃ Q : World → Prop, Calls Tryz.prog 101 #[u] w (fun en w1 => en = .returned (.tuple #[]) ∧ Q w1) ∧ ∀ w1, Q w1 → w1.heap[bx']? = w.heap[bx']? ∧
   Calls Tryz.prog 102 #[u] w1 (fun en w3 => ∃ u' vis', en = .returned u' ∧ Once X w w3 zs u' vis') := by
  intro p cap hz hu _
  subst hz
  subst hu
  refine ⟨fun w1 => w1 = w, (Tryz.slices_Sort_int_none p cap w).mono fun en w1 h => h, fun w1 hw => ?_⟩
  subst hw
  refine ⟨rfl, (Tryz.slices_Compact_int_empty p cap w1).mono fun en w3 h => ?_⟩
  obtain ⟨h1, rfl⟩ := h
  refine ⟨_, G.vis, h1, Nat.le_refl _, rfl, rfl, rfl, fun _ _ => rfl, fun _ _ => rfl, R.old, R.fresh, ?_⟩
  have h1 : sortedOnce [] = [] := by unfold sortedOnce; rw [List.mergeSort_nil]; rfl
  rw [h1]
  exact Rep.dem hrep
 rcases hown.2 with h | ⟨h, p, hu⟩ | ⟨b, xs, hb, hob, hrow, hvis⟩
 ·have hz : zs = [] := by
   subst h
   generalize hn : zs.length = n at hrep
   cases hrep
   exact List.eq_nil_of_length_eq_zero hn
  subst hz
  exact triv none 0 rfl h ⟨_, rfl⟩
 ·have hz : zs = [] := by
   rcases h with h | h
   ·exact List.eq_nil_of_length_eq_zero h
   ·omega
  subst hz
  exact triv p 0 rfl hu ⟨_, rfl⟩
 ·obtain ⟨cap, cur, rfl, hcell, hnc, hcm, hcs⟩ : ∃ cap cur, u = .slice (some ⟨b, 0, none⟩) zs.length cap ∧ w.heap[b]? = some (.cells cur 3 (0, 0)) ∧ zs.length ≤ cap ∧ cap ≤ maxLen ∧ cur.size = cap * (Y 3).size := by
   rcases hrow.2 with ⟨h, _⟩ | ⟨g, cap, cur, hu, _, h2, h3, h4, h5, _⟩
   ·rw [h] at hob; cases hob
   ·rw [hu] at hob
    simp only [Value.ownBlock, Option.some.injEq] at hob
    subst hob
    exact ⟨cap, cur, hu, h2, h3, h4, h5⟩
  obtain ⟨t1, t2, t3, t4, t5⟩ := R.tks k b hb
  have hH := ints_holds rfl rfl hrep hcell
  refine ⟨fun w1 => ∃ n os, w1 = Sort.grow (Sort.putRow (Value.int .i64) (Sort.ahead w n) b 0 (zs.mergeSort fun x y => decide (x ≤ y)).toArray) os, (Tryz.slices_Sort_int b 0 cap zs w hH t2 (by omega)).mono fun en w1 h => h, fun w1 hw => ?_⟩
  obtain ⟨n, os, rfl⟩ := hw
  generalize hys : (zs.mergeSort fun x y => decide (x ≤ y)) = ys
  have hyl : ys.length = zs.length := by rw [← hys, List.length_mergeSort]
  have hne : ∀ b' : Nat, b' ≠ b → b' < w.heap.size → (Sort.grow (Sort.putRow (Value.int .i64) (Sort.ahead w n) b 0 ys.toArray) os).heap[b']? = w.heap[b']? := fun b' h1 h2 => by
   rw [Sort.heap_grow_old _ _ (by simpa using h2), heap_putRow _ _ _ _ _ h1]
   rfl
  refine ⟨hne _ (hbox b hb) hbl, ?_⟩
  have hH1 : Sort.Holds (Value.int .i64) (Sort.grow (Sort.putRow (Value.int .i64) (Sort.ahead w n) b 0 ys.toArray) os) b 0 ys.toArray :=
   Sort.holds_grow _ _ _ _ _ _ (by simpa using t2) (Sort.holds_putRow _ _ _ _ zs.toArray _ (Sort.holds_ahead _ _ _ _ _ _ hH) (by simpa using hyl))
  rw [← hyl]
  refine (Tryz.slices_Compact_int b 0 cap ys _ hH1 (by omega) (by omega)).mono fun en w3 h => ?_
  obtain ⟨h1, q, h2⟩ := h
  generalize hW : Sort.grow (Sort.putRow (Value.int .i64) (Sort.ahead w n) b 0 ys.toArray) os = W at *
  have hWs : w.heap.size ≤ W.heap.size := by rw [← hW]; simp
  have hne3 : ∀ b' : Nat, b' ≠ b → b' < w.heap.size → w3.heap[b']? = w.heap[b']? := fun b' g1 g2 => by
   rw [h2, heap_putRow _ _ _ _ _ g1]
   exact hne b' g1 g2
  have hcl := compact_len ys
  have h3s : w3.heap.size = W.heap.size := by rw [h2]; simp
  refine ⟨_, fun x => if x = b then (Lib.compact ys).length else G.vis x, h1, ⟨by omega, ?_, ?_, ?_, fun D hD => ?_, fun b' hb' => hne3 b' (by omega) (by have := R.base; omega), fun b' hb' => ?_, fun b' hb' => ?_, ?_⟩⟩
  ·rw [h2, ← hW]; rfl
  ·rw [h2, ← hW]; rfl
  ·rw [h2, ← hW]; rfl
  ·refine hne3 D (fun hh => ?_) (by have := (Array.getElem?_eq_some_iff.1 hD).1; exact this)
   rw [hh, hcell] at hD
   cases hD
  ·rw [if_neg (by omega)]
   exact R.old b' hb'
  ·rw [if_neg (by omega)]
   exact R.fresh b' (by omega)
  ·unfold sortedOnce
   rw [hys]
   have hrow : ∀ i, i < (Lib.compact ys).length → w3.cell? ⟨b, 0 + i, none⟩ = some (.int .i64 (nth (Lib.compact ys) i)) := fun i hi => by
    have := Sort.cell?_putRow (Value.int .i64) (Sort.ahead W q) b 0 ys.toArray (Lib.compact ys ++ List.replicate (ys.length - (Lib.compact ys).length) 0).toArray (Sort.holds_ahead _ _ _ _ _ _ hH1) (by simp; omega) i (by simp; omega)
    rw [← h2] at this
    rw [this, getElem!_pos _ i (by simp; omega), nth_eq hi]
    simp [hi]
   refine .s _ _ _ b 0 cap 1 (fun i _ => .int .i64 (nth (Lib.compact ys) i)) (by omega) hcm (fun i hi => rfl) (by simp) (fun i j c hi hj => ?_) (fun i j c hi hj => ?_)
   ·have hj0 : j = 0 := by
     have := (List.getElem?_eq_some_iff.1 hj).1
     have h1 : (eI (nth (Lib.compact ys) i)).length = 1 := rfl
     omega
    subst hj0
    rw [Nat.mul_one, Nat.add_zero]
    exact hrow i hi
   ·have hj0 : j = 0 := by
     have := (List.getElem?_eq_some_iff.1 hj).1
     have h1 : (eI (nth (Lib.compact ys) i)).length = 1 := rfl
     omega
    subst hj0
    obtain rfl : C.v (.int .i64 (nth (Lib.compact ys) i)) = c := Option.some.inj hj
    exact .v _ rfl
end Go.Vc.Gd
namespace Go.Vc.Gd
open Go Go.Proofs Go.Vc Go.RowKit
variable {Gl : World → Prop}
noncomputable def whoC : List Code × Code := match Tryz.f57.body with | some c => cutSeq 4 c | none => ([], .skip)
noncomputable def whoOps : Nat → Array Oper
 | 0 => match whoC.2 with | .seq (.region _ o _) _ => o | _ => #[]
 | _ => match whoC.2 with | .seq _ (.seq (.region _ o _) _) => o | _ => #[]
theorem whoC_eq : whoC.2 = .seq (.region 8 (whoOps 0) false) (.seq (.region 9 (whoOps 1) false) .ret) := by kernel_rfl
theorem whoBody : Tryz.f57.body = some (seqs whoC.1 whoC.2) := by kernel_rfl
noncomputable def whoOp (r i : Nat) : Oper := ((whoOps r)[i]?).getD default
theorem whoOp00 : (whoOps 0)[0]? = some (whoOp 0 0) ∧ (whoOp 0 0).guard = none ∧ (whoOp 0 0).op = .load 23 (.tmp 6) ∧ (whoOp 0 0).dst = some 40 := ⟨by kernel_rfl, by kernel_rfl, by kernel_rfl, by kernel_rfl⟩
theorem whoOp01 : (whoOps 0)[1]? = some (whoOp 0 1) ∧ (whoOp 0 1).guard = none ∧ (whoOp 0 1).op = .call { callee := .value (.func 101), args := #[.tmp 40], argTypes := #[23] } ∧ (whoOp 0 1).dst = some 41 := ⟨by kernel_rfl, by kernel_rfl, by kernel_rfl, by kernel_rfl⟩
theorem whoOp10 : (whoOps 1)[0]? = some (whoOp 1 0) ∧ (whoOp 1 0).guard = none ∧ (whoOp 1 0).op = .load 23 (.tmp 6) ∧ (whoOp 1 0).dst = some 42 := ⟨by kernel_rfl, by kernel_rfl, by kernel_rfl, by kernel_rfl⟩
theorem whoOp11 : (whoOps 1)[1]? = some (whoOp 1 1) ∧ (whoOp 1 1).guard = none ∧ (whoOp 1 1).op = .call { callee := .value (.func 102), args := #[.tmp 42], argTypes := #[23] } ∧ (whoOp 1 1).dst = some 43 := ⟨by kernel_rfl, by kernel_rfl, by kernel_rfl, by kernel_rfl⟩
theorem whoOp12 : (whoOps 1)[2]? = some (whoOp 1 2) ∧ (whoOp 1 2).guard = none ∧ (whoOp 1 2).op = .assign (.tmp 43) ∧ (whoOp 1 2).dst = some 4 := ⟨by kernel_rfl, by kernel_rfl, by kernel_rfl, by kernel_rfl⟩
theorem whoOp13 : (whoOps 1)[3]? = some (whoOp 1 3) ∧ (whoOp 1 3).guard = none ∧ (whoOp 1 3).op = .assign (.const (.int .i64 0)) ∧ (whoOp 1 3).dst = some 5 := ⟨by kernel_rfl, by kernel_rfl, by kernel_rfl, by kernel_rfl⟩
theorem whoR0 : List.range (whoOps 0).size = [0, 1] := by kernel_rfl
theorem whoR1 : List.range (whoOps 1).size = [0, 1, 2, 3] := by kernel_rfl
theorem fn101 : FnOK Tryz.prog 101 := ⟨Tryz.f101, by kernel_rfl, by kernel_rfl, by kernel_rfl⟩
theorem fn102 : FnOK Tryz.prog 102 := ⟨Tryz.f102, by kernel_rfl, by kernel_rfl, by kernel_rfl⟩
theorem exec_call1 {P : Program} {a : Act} {n : Nat} {f : Nat → Value} {ds : List Deferred} {w : World} {o : Oper} {g : FuncId} {t : Nat} {tys : Array TypeId} (S : SL a n f ds) (ho : o.op = .call { callee := .value (.func g), args := #[.tmp t], argTypes := tys }) (ht : t < n) (hfn : FnOK P g) :
  (execOp a.eval o).run P w = .ok (.enter g #[f t]) w := by
 have := exec_call (P := P) (w := w) (a := a) ho (us := #[]) (cvs := #[]) rfl hfn
 have he : #[Operand.tmp t].map a.eval = #[f t] := by simp [S.eval ht]
 rw [he] at this
 simpa using this
def whoE (zs : List Int) : Env := v 6 (ad 6) :: tk 100 3 :: bx 6 [.lt 100 eI zs]
theorem who_tail (S : Set Tryz.prog Y Gl) {zs : List Int} (hz : zs.length ≤ 1000000) {X : Cx} {vis : Nat → Nat} {w0 : World} {a : Act} {w : World} {G : Gh} (Tl : Tail Tryz.prog Gl Y X Tryz.f57 (whoE zs) vis w0 a w G) :
  whoC.2.wpIn (Fr none) 0 Tryz.prog (bodyPostM (Fr none) 0 Tryz.prog Tryz.f57 fun en w' => Below w0.heap.size w0 w' ∧ Answers vis w0 en w' (.ret (.tup [.c (.l eI (sortedOnce zs)), .c (Ci 0)]))) a w := by
 have R := Tl.rel
 obtain ⟨b1, b2, _⟩ := R.mem.box 6 (by show live ≠ .any; exact live_ne)
 obtain ⟨_, _, u, hu, hvok⟩ := R.mem.cells 6 0 (by show (T.d (.c (.lt 100 eI zs))) ≠ .any; intro hh; cases hh)
 have hsl := (R.slots 6).rel
 have hslot : a.tmps.getD 6 undef = .pointer (some ⟨G.bk 6, 0, none⟩) := by
  unfold slotV at hsl
  rw [if_pos (by decide)] at hsl
  exact hsl
 have hrep : Rep G.vis w (.s (.t 100) zs.length fun i => eI (nth zs i)) u := hvok.reld
 have hown : Own G w Y 100 3 zs.length (fun i => eI (nth zs i)) u := hvok.own 3 rfl
 obtain ⟨Q, hsort, hcomp⟩ := sort_compact R (by decide) hz (fun b hb => (R.tks 100 b hb).2.2.2.2 6 (by show live ≠ .any; exact live_ne)) b2 hrep hown
 have hsz : a.tmps.size = 44 := R.size
 have S0 : SL a 44 (fun t => a.tmps.getD t undef) a.defers := ⟨hsz, rfl, fun _ _ => rfl⟩
 rw [whoC_eq]
 refine wpIn_seq (wpIn_region ?_)
 rw [whoR0]
 obtain ⟨o1, o2, o3, o4⟩ := whoOp00
 refine ops_val o1 o2 (by rw [o3]; intro c hc; cases hc) (raw_load1 yok (b := G.bk 6) (k := 0) (u := u) o3 rfl (by rw [S0.eval (by decide)]; exact hslot) hu) ?_
 rw [o4]
 have S1 := S0.put (d := 40) (by decide) u
 obtain ⟨o1, o2, o3, o4⟩ := whoOp01
 refine ops_call o1 o2 (by rw [o3]; intro c hc; cases hc) (exec_call1 S1 o3 (by decide) fn101) hsort ?_
 rintro _ w1 ⟨rfl, hQ⟩
 refine ⟨_, rfl, ?_⟩
 rw [o4]
 have S2 := S1.put (d := 41) (by decide) (.tuple #[])
 obtain ⟨hb1, hc⟩ := hcomp w1 hQ
 have hu1 : w1.cell? ⟨G.bk 6, 0, none⟩ = some u := by rw [World.cell?_of_block hb1]; exact hu
 show (Code.seq (.region 9 (whoOps 1) false) .ret).wpIn (Fr none) 0 Tryz.prog _ _ w1
 refine wpIn_seq (wpIn_region ?_)
 rw [whoR1]
 obtain ⟨o1, o2, o3, o4⟩ := whoOp10
 refine ops_val o1 o2 (by rw [o3]; intro c hc; cases hc) (raw_load1 yok (b := G.bk 6) (k := 0) (u := u) o3 rfl (by rw [S2.eval (by decide)]; exact hslot) hu1) ?_
 rw [o4]
 have S3 := S2.put (d := 42) (by decide) u
 obtain ⟨o1, o2, o3, o4⟩ := whoOp11
 refine ops_call o1 o2 (by rw [o3]; intro c hc; cases hc) (exec_call1 S3 o3 (by decide) fn102) hc ?_
 rintro _ w3 ⟨u', vis', rfl, hO⟩
 refine ⟨_, rfl, ?_⟩
 rw [o4]
 have S4 := S3.put (d := 43) (by decide) u'
 obtain ⟨o1, o2, o3, o4⟩ := whoOp12
 refine ops_val o1 o2 (by rw [o3]; intro c hc; cases hc) (v := u') (w' := w3) (by simp [execOp, o3, S4.eval, upd]) ?_
 rw [o4]
 have S5 := S4.put (d := 4) (by decide) u'
 obtain ⟨o1, o2, o3, o4⟩ := whoOp13
 refine ops_val o1 o2 (by rw [o3]; intro c hc; cases hc) (v := .int .i64 0) (w' := w3) (by simp [execOp, o3, Act.eval]) ?_
 rw [o4]
 have S6 := S5.put (d := 5) (by decide) (.int .i64 0)
 refine wpIn_ret ?_
 have hj := R.jj
 rw [Tl.J] at hj
 have R' := R.anew (a' := Act.put (Act.put (Act.put (Act.put (Act.put (Act.put a (some 40) u) (some 41) (.tuple #[])) (some 42) u) (some 43) u') (some 4) u') (some 5) (.int .i64 0)) (w' := w3) (vis' := vis') (e' := [(0, 4, .d (.c (.l eI (sortedOnce zs)))), (0, 5, I 0)]) (fun _ => rfl) (fun _ => rfl) (fun _ _ => rfl)
  (by rw [S6.size, hsz]) S6.defers hO.size (fun D hD => hO.mark D (R.marks D hD).2.1) (fun t ht => ?_) hO.fresh hO.vold (by
   rw [Tl.J]
   refine ⟨hj.1, hj.2.trans ⟨hO.os, hO.tape, hO.output, hO.size, fun b hb => hO.old b (by rw [Tl.base]; exact hb)⟩⟩)
 ·exact Tl.leave S R' ⟨SEq_whole rfl, rfl⟩
 ·by_cases h4 : t = 4
  ·subst h4
   refine VOK.dem (x := .c (.l eI (sortedOnce zs))) ?_
   have := S6.get 4 (by decide)
   unfold slotV
   rw [if_pos (by decide), this]
   exact hO.rep
  ·by_cases h5 : t = 5
   ·subst h5
    refine VOK.dem (x := .c (Ci 0)) ?_
    have := S6.get 5 (by decide)
    unfold slotV
    rw [if_pos (by decide), this]
    exact .v _ rfl
   ·refine absurd ?_ ht
    rw [get_cons_ne (fun hh => h4 hh.2.symm), get_cons_ne (fun hh => h5 hh.2.symm)]
    rfl
theorem who57 (S : Set Tryz.prog Y Gl) (b : Book) (sheet : Int) (hb : b.ok = true) (hs : b.isSheet sheet = true) : Computes Tryz.prog Gl 57 [tBook b, I sheet] (.ret (.tup [.c (.l eI (sortedOnce (handsTo b sheet (allPlans b).length))), .c (Ci 0)])) := by
 have hl := handsTo_len b sheet
 have hpl := allPlans_len hb
 have hls := hl (allPlans b).length
 refine fn_tail S (E:=whoE (handsTo b sheet (allPlans b).length)) (xs:=whoC.1) (tl:=whoC.2) (.r (.ret (B true)) (.r (.ret (B (inR sheet (0:Int) ((↑(List.length (Book.sheets b)):Int)-1)))) (.br .nil (.r (.ret (T.fn (121:FuncId) [] [T.d (D.c (C.p (cBook b)))])) (.rf (List.length (allPlans b)) (List.length (allPlans b)) (fun p=>[tWork {book:=b,plan:=nth (allPlans b) p}]) (fun p=>v 6 (ad 6)::tk 100 3::v 3 (ad 3)::(bx 3 [Ci sheet] ++ bx 6 [C.lt (100:Nat) eI (handsTo b sheet p)])) (fun k0=>.r (.ret (B (Work.surely {book:=b,plan:=nth (allPlans b) k0}))) (.br .nil .nil)) .nil))))) Tryz.func57 (by kernel_rfl) whoBody rfl (Computes Tryz.prog Gl 94 [tBook b] (.ret (B true))∧(true=true→true=true)∧(true=true→true=true)∧((true=true→b.3.length≤maxLen)→(true=true→true=true)∧(true=true→inRange IntKind.i64 ((↑b.3.length:Int)-1))∧(true=true→true=true)∧(true=true→true=true)∧(true=true→Computes Tryz.prog Gl 91 [I sheet,I 0,I ((↑(List.length (Book.sheets b)):Int)-1)] (.ret (B (inR sheet (0:Int) ((↑(List.length (Book.sheets b)):Int)-1)))))∧(true=true→true=true)∧(false=false→true=true)∧((bif false then true else !inR sheet (0:Int) ((↑b.3.length:Int)-1))=true→False)∧((bif false then true else !inR sheet (0:Int) ((↑b.3.length:Int)-1))=false→Computes Tryz.prog Gl 95 [tBook b] (.ret (T.fn (121:FuncId) [] [T.d (D.c (C.p (cBook b)))]))∧Yd.m yd0=(0:Nat)∧ydOf (Does Tryz.prog Y Gl) (121:Nat) [] [T.d (D.c (C.p [C.l eComp b.1,C.l eI b.2,C.l eI b.3]))] (fun l=>{l:=l,m:=List.length (allPlans b),s:=List.length (allPlans b),ys:=fun p=>[tWork {book:=b,plan:=nth (allPlans b) p}]}) (List.length (allPlans b)) (List.length (allPlans b))∧(sheet=sheet∧(0:Nat)=(0:Nat))∧(∀ (k0:Nat),k0<List.length (allPlans b)→k0≤List.length (allPlans b)→Computes Tryz.prog Gl 96 [tWork {book:=b,plan:=nth (allPlans b) k0}] (.ret (B (Work.surely {book:=b,plan:=nth (allPlans b) k0})))∧(Work.surely {book:=b,plan:=nth (allPlans b) k0}=true→((0:Int)≤sheet∧sheet<(↑(List.length (nth (allPlans b) k0)):Int))∧((0:Int)≤sheet∧sheet<(↑(List.length (nth (allPlans b) k0)):Int))∧(List.length (handsTo b sheet k0)+2)*8≤140737488355328∧List.length (handsTo b sheet k0)+2≤140737488355328∧k0<List.length (allPlans b)∧sheet=sheet∧SEq (List.length (handsTo b sheet k0)+2) (catF (List.length (handsTo b sheet k0)) (fun i=>eI (nth (handsTo b sheet k0) i)) fun i=>List.getD [List.map C.dem [C.v (Value.int IntKind.i64 (nth (nth (allPlans b) k0) (Int.toNat sheet)).1)],List.map C.dem [C.v (Value.int IntKind.i64 (nth (nth (allPlans b) k0) (Int.toNat sheet)).2)]] i []) (List.length (handsTo b sheet (k0+1))) fun i=>eI (nth (handsTo b sheet (k0+1)) i))∧(Work.surely {book:=b,plan:=nth (allPlans b) k0}=false→k0<List.length (allPlans b)∧sheet=sheet∧SEq (List.length (handsTo b sheet k0)) (fun i=>eI (nth (handsTo b sheet k0) i)) (List.length (handsTo b sheet (k0+1))) fun i=>eI (nth (handsTo b sheet (k0+1)) i)))∧(List.length (allPlans b)≤List.length (allPlans b)→SEq (List.length (handsTo b sheet (List.length (allPlans b)))) (fun i=>eI (nth (handsTo b sheet (List.length (allPlans b))) i)) (List.length (handsTo b sheet (List.length (allPlans b)))) fun i=>eI (nth (handsTo b sheet (List.length (allPlans b))) i))))) (by kernel_rfl) ?_ (fun X vis w0 a w G T=>who_tail S (by omega) T)
 have hs' := hs
 unfold Book.isSheet at hs'
 have hr := inR_iff.1 hs'
 obtain ⟨_, _, o3, _⟩ := ok_spec hb
 have hne : (bif false then true else !inR sheet (0 : Int) ((b.3.length : Int) - 1)) = false := by
  show (!inR sheet 0 ((b.sheets.length : Int) - 1)) = false
  rw [hs']; rfl
 refine ⟨fineT S b hb, fun _ => rfl, fun _ => rfl, fun _ => ⟨fun _ => rfl, fun _ => (rng_iff _).2 (by show _ ≤ ((b.sheets.length : Int) - 1) ∧ _; omega), fun _ => rfl, fun _ => rfl, fun _ => in91 S _ _ _, fun _ => rfl, fun _ => rfl, fun h => ?_, fun _ => ⟨plans95 S b, rfl, fun l => plans121 S b l _ hb, ⟨rfl, rfl⟩, fun k h1 h2 => ⟨surely96 S _ hb (allPlans_good h1), fun h => ?_, fun h => ?_⟩, fun _ => SEq_whole rfl⟩⟩⟩
 ·rw [hne] at h; cases h
 ·have hlk : (nth (allPlans b) k).length = b.sheets.length := (good_spec (allPlans_good h1)).1
  have := hl k
  refine ⟨by omega, by omega, by omega, by omega, h1, rfl, SEq_snoc (m := [(nth (nth (allPlans b) k) sheet.toNat).one, (nth (nth (allPlans b) k) sheet.toNat).other]) ?_ rfl⟩
  show handsTo b sheet (k + 1) = _
  have h' : sureP b (nth (allPlans b) k) = true := h
  rw [handsTo, h']; rfl
 ·refine ⟨h1, rfl, SEq_whole ?_⟩
  have h' : sureP b (nth (allPlans b) k) = false := h
  rw [handsTo, h']; rfl
end Go.Vc.Gd
namespace Go.Vc
open Go Go.RowKit
section
variable {P : Program} {Gl : World → Prop}
theorem computes_same {f : FuncId} {args : List T} {x : D} (hf : FnOK P f) (h : ∀ vis w (vs : Array Value), Gl w → RelTs (Gh0 vis) w (Lo w.heap.size) args vs.toList → ∃ v, RelD vis w (fun _ => False) x v ∧ Calls P f vs w fun e w' => e = .returned v ∧ w' = w) : Computes P Gl f args (.ret (.d x)) := by
 refine ⟨hf, fun vis w vs hvis hgl hargs => ?_⟩
 obtain ⟨v, hx, hc⟩ := h vis w vs hgl hargs
 refine hc.mono fun e w' he => ?_
 obtain ⟨rfl, rfl⟩ := he
 exact ⟨.refl _ _, v, vis, rfl, fun _ _ => rfl, hvis, hx⟩
theorem args1 {G : Gh} {w : World} {O : Nat → Prop} {u : Value} {vs : Array Value} (h : RelTs G w O [.d (.c (.v u))] vs.toList) : vs = #[u] := by
 simp only [RelTs] at h
 obtain ⟨v, us, hv, h1, rfl⟩ := h
 simp only [RelT, RelD] at h1
 cases h1
 apply Array.ext'
 rw [hv]
theorem args2 {G : Gh} {w : World} {O : Nat → Prop} {u u' : Value} {vs : Array Value} (h : RelTs G w O [.d (.c (.v u)), .d (.c (.v u'))] vs.toList) : vs = #[u, u'] := by
 simp only [RelTs] at h
 obtain ⟨v, us, hv, h1, v', us', rfl, h2, rfl⟩ := h
 simp only [RelT, RelD] at h1 h2
 cases h1
 cases h2
 apply Array.ext'
 rw [hv]
end
end Go.Vc
namespace Go.Vc.Gd
open Go Go.Proofs Go.Vc Go.RowKit
def bs (l : List UInt8) : ByteArray := ⟨l.toArray⟩
theorem bs_app (a b : List UInt8) : bs a ++ bs b = bs (a ++ b) := by
 apply ByteArray.ext
 rw [ByteArray.data_append]
 simp [bs]
theorem bs_size (a : List UInt8) : (bs a).size = a.length := by simp [bs, ByteArray.size]
theorem bs_list (a : List UInt8) : (bs a).data.toList = a := by simp [bs]
def str (l : List UInt8) : T := .d (.c (.v (.string (bs l))))
def eS (l : List UInt8) : List C := [.v (.string (bs l))]
def dec (n : Int) : List UInt8 := Lib.decDigits n.toNat
theorem fn131 : FnOK Tryz.prog 131 := ⟨Tryz.f131, by kernel_rfl, by kernel_rfl, by kernel_rfl⟩
theorem fn133 : FnOK Tryz.prog 133 := ⟨Tryz.f133, by kernel_rfl, by kernel_rfl, by kernel_rfl⟩
theorem itoa131 {Gl : World → Prop} (n : Int) (h0 : 0 ≤ n) (h1 : n < 100) : Computes Tryz.prog Gl 131 [I n] (.ret (str (dec n))) := by
 refine computes_same fn131 fun vis w vs _ ha => ⟨.string (bs (dec n)), .v _ rfl, ?_⟩
 rw [args1 ha]
 have := Tryz.strconv_Itoa_small n.toNat (by omega) w
 rw [Int.toNat_of_nonneg h0] at this
 exact this
def splitL (c : UInt8) : List UInt8 → List (List UInt8)
 | [] => [[]]
 | x :: r => bif x == c then [] :: splitL c r else match splitL c r with
  | [] => [[x]]
  | p :: q => (x :: p) :: q
theorem splitL_ne (c : UInt8) : ∀ l, splitL c l ≠ []
 | [] => by simp [splitL]
 | x :: r => by
  unfold splitL
  cases x == c with
  | true => simp
  | false =>
   simp only [cond_false]
   split <;> simp
theorem splitL_len (c : UInt8) : ∀ l, (splitL c l).length = l.count c + 1
 | [] => rfl
 | x :: r => by
  have ih := splitL_len c r
  have hne := splitL_ne c r
  unfold splitL
  rw [List.count_cons]
  cases hx : x == c with
  | true => simp [ih]
  | false =>
   simp only [cond_false]
   cases hs : splitL c r with
   | nil => exact absurd hs hne
   | cons p q => rw [hs] at ih; simpa using ih
theorem splitL_app (c : UInt8) : ∀ (a : List UInt8) (b : List UInt8), c ∉ a → splitL c (a ++ c :: b) = a :: splitL c b
 | [], b, _ => by simp [splitL]
 | x :: a, b, h => by
  have hx : (x == c) = false := by rw [beq_eq_false_iff_ne]; intro hh; exact h (by rw [hh]; exact List.mem_cons_self)
  have ih := splitL_app c a b (fun hh => h (List.mem_cons_of_mem _ hh))
  rw [List.cons_append, splitL, hx, cond_false, ih]
theorem splitL_none (c : UInt8) : ∀ (a : List UInt8), c ∉ a → splitL c a = [a]
 | [], _ => rfl
 | x :: a, h => by
  have hx : (x == c) = false := by rw [beq_eq_false_iff_ne]; intro hh; exact h (by rw [hh]; exact List.mem_cons_self)
  have ih := splitL_none c a (fun hh => h (List.mem_cons_of_mem _ hh))
  unfold splitL
  rw [hx, cond_false, ih]
theorem splitK_one (c : UInt8) : ∀ s : List UInt8, Lib.splitK [c] 0 (s.count c) s = splitL c s
 | [] => rfl
 | b :: l => by
  have ih := splitK_one c l
  unfold splitL
  cases hb : b == c with
  | true =>
   obtain rfl := beq_iff_eq.1 hb
   have hix : Lib.index (b :: l) [b] = 0 := by rw [Lib.index]; simp [List.isPrefixOf]
   rw [List.count_cons_self, Lib.splitK, hix]
   simp only [cond_true]
   rw [← ih]
   rfl
  | false =>
   have hne : b ≠ c := beq_eq_false_iff_ne.1 hb
   have hp : ([c] : List UInt8).isPrefixOf (b :: l) = false := by simp [List.isPrefixOf, Ne.symm hne]
   have hix : Lib.index (b :: l) [c] = if Lib.index l [c] == -1 then -1 else Lib.index l [c] + 1 := by rw [Lib.index, hp]; simp
   rw [List.count_cons_of_ne hne, cond_false, ← ih]
   by_cases hm : Lib.index l [c] = -1
   ·have h0 : l.count c = 0 := by rw [← Lib.count_one, Lib.count_miss hm]
    rw [h0]
    rfl
   ·have hge := Lib.index_ge l [c]
    obtain ⟨j, hj⟩ : ∃ j : Nat, Lib.index l [c] = j := ⟨(Lib.index l [c]).toNat, by omega⟩
    have hcnt : l.count c = Lib.count (l.drop (j + 1)) [c] + 1 := by
     rw [← Lib.count_one, Lib.count_hit (by simp) hj]
     simp; omega
    rw [hcnt]
    unfold Lib.splitK
    have e1 : (Lib.index l [c] == -1) = false := by rw [beq_eq_false_iff_ne]; exact hm
    have e2 : Lib.index (b :: l) [c] = ((j + 1 : Nat) : Int) := by rw [hix, e1, hj]; simp
    have e3 : (Lib.index (b :: l) [c] == -1) = false := by rw [e2, beq_eq_false_iff_ne]; omega
    rw [e1, e3, e2, hj]
    simp
theorem splitB_one (c : UInt8) (s : List UInt8) : Lib.splitB (bs [c]) 0 (Lib.countB (bs s) (bs [c])) (bs s) = (splitL c s).map bs := by
 have h := Lib.splitB_data (bs [c]) 0 (Lib.countB (bs s) (bs [c])) (bs s)
 have hc : Lib.countB (bs s) (bs [c]) = s.count c := by
  show Lib.count (bs s).data.toList (bs [c]).data.toList = _
  rw [bs_list, bs_list, Lib.count_one]
 rw [hc] at h ⊢
 rw [bs_list, bs_list, splitK_one] at h
 rw [← h, List.map_map]
 have : (bs ∘ fun x : ByteArray => x.data.toList) = id := by funext x; rfl
 rw [this, List.map_id]
theorem split133 {Gl : World → Prop} (hG : ∀ w, Gl w → ∃ m, w.cell? ⟨1, 0, none⟩ = some (.int .i64 m)) (s : List UInt8) (c : UInt8) (hs : s.length < 4294967281) : Computes Tryz.prog Gl 133 [str s, str [c]] (.ret (L eS (splitL c s))) := by
 refine ⟨fn133, fun vis w vs hvis hgl hargs => ?_⟩
 rw [args2 hargs]
 obtain ⟨m, hm⟩ := hG w hgl
 have hsp := splitB_one c s
 have hc : Lib.countB (bs s) (bs [c]) + 1 = (splitL c s).length := by
  rw [splitL_len]
  show Lib.count (bs s).data.toList (bs [c]).data.toList + 1 = _
  rw [bs_list, bs_list, Lib.count_one]
 have hlen : (splitL c s).length ≤ 4294967282 := by
  rw [splitL_len]
  have := List.count_le_length (a := c) (l := s)
  omega
 refine (Tryz.strings_Split (bs s) (bs [c]) m w (by rw [bs_size]; exact hs) hm (by rw [bs_size]; simp)).mono fun e w' he => ?_
 obtain ⟨rfl, rfl⟩ := he
 rw [hsp, hc]
 refine ⟨(Below.refl _ _).alloc (Nat.le_refl _) _, _, fun b => if b = w.heap.size then (splitL c s).length else vis b, rfl, fun b hb => ?_, fun b hb => ?_, ?_⟩
 ·dsimp only
  rw [if_neg (by omega)]
 ·rw [World.size_alloc] at hb
  dsimp only
  rw [if_neg (by omega)]
  exact hvis b (by omega)
 ·refine .s _ _ _ w.heap.size 0 (splitL c s).length 1 (fun i _ => .string (bs (nth (splitL c s) i))) (Nat.le_refl _) (by unfold maxLen; omega) (fun i hi => rfl) (by simp) (fun i j c' hi hj => ?_) (fun i j c' hi hj => ?_)
  ·have hj0 : j = 0 := by
    have := (List.getElem?_eq_some_iff.1 hj).1
    have h1 : (eS (nth (splitL c s) i)).length = 1 := rfl
    omega
   subst hj0
   rw [World.cell?_alloc_new]
   simp [nth_eq hi, hi]
  ·have hj0 : j = 0 := by
    have := (List.getElem?_eq_some_iff.1 hj).1
    have h1 : (eS (nth (splitL c s) i)).length = 1 := rfl
    omega
   subst hj0
   obtain rfl : C.v (.string (bs (nth (splitL c s) i))) = c' := Option.some.inj hj
   exact .v _ rfl
end Go.Vc.Gd
namespace Go.Vc.Gd
open Go Go.Proofs Go.Vc
variable {Gl : World → Prop}
def lGive : List UInt8 := [103, 105, 118, 101]
def lComputer : List UInt8 := [99, 111, 109, 112, 117, 116, 101, 114]
def lTable : List UInt8 := [116, 97, 98, 108, 101]
def lSheet : List UInt8 := [115, 104, 101, 101, 116]
theorem words136 (S : Set Tryz.prog Y Gl)  : Computes Tryz.prog Gl 136 [] (.ret (.d (.agg [.v (.string (bs lGive)), .v (.string (bs lComputer)), .v (.string (bs lTable)), .v (.string (bs lSheet))]))) := by
 refine fn_is S (.nil) Tryz.func136 (by kernel_rfl) ({data:=#[(103:UInt8),(105:UInt8),(118:UInt8),(101:UInt8)]}=bs lGive∧{data:=#[(99:UInt8),(111:UInt8),(109:UInt8),(112:UInt8),(117:UInt8),(116:UInt8),(101:UInt8),(114:UInt8)]}=bs lComputer∧{data:=#[(116:UInt8),(97:UInt8),(98:UInt8),(108:UInt8),(101:UInt8)]}=bs lTable∧{data:=#[(115:UInt8),(104:UInt8),(101:UInt8),(101:UInt8),(116:UInt8)]}=bs lSheet) (by kernel_rfl) ?_
 exact ⟨rfl, rfl, rfl, rfl⟩
theorem sure134 (S : Set Tryz.prog Y Gl) (s : ByteArray) : Computes Tryz.prog Gl 134 [B true, .d (.c (.v (.string s)))] (.ret (.tup [])) := by
 refine fn_is S (.ff .nil) Tryz.func134 (by kernel_rfl) (false=false∧True) (by kernel_rfl) ?_
 exact ⟨rfl, trivial⟩
theorem sure134f (S : Set Tryz.prog Y Gl) (s : ByteArray) : Computes Tryz.prog Gl 134 [B false, .d (.c (.v (.string s)))] (.pan (.iface 183 (.agg #[.string s]))) := by
 refine fn_is S (.tt .nil) Tryz.func134 (by kernel_rfl) (true=true∧Value.iface (183:Nat) (Value.agg {toList:=[Value.string s]})=Value.iface (183:Nat) (Value.agg {toList:=[Value.string s]})) (by kernel_rfl) ?_
 exact ⟨rfl, rfl⟩
def nums (l : List Int) : List UInt8 := l.flatMap fun n => 32 :: dec n
def sm (n : Int) : Prop := 0 ≤ n ∧ n < 100
theorem dec_len {n : Int} (h : sm n) : 1 ≤ (dec n).length ∧ (dec n).length ≤ 2 := by
 obtain ⟨h0, h1⟩ := h
 unfold dec
 have h2 : n.toNat < 100 := by omega
 by_cases h : n.toNat < 10
 ·rw [Lib.decDigits, dif_pos h]; simp
 ·rw [Lib.decDigits, dif_neg h, Lib.decDigits, dif_pos (by omega)]; simp
theorem nums_len : ∀ {l : List Int}, (∀ n ∈ l, sm n) → (nums l).length ≤ 3 * l.length
 | [], _ => Nat.zero_le _
 | n :: l, h => by
  have ih := nums_len (l := l) fun x hx => h x (List.mem_cons_of_mem _ hx)
  have := dec_len (h n List.mem_cons_self)
  simp only [nums, List.flatMap_cons, List.length_append, List.length_cons] at ih ⊢
  omega
theorem nums_take {l : List Int} {k : Nat} (h : k < l.length) : nums (l.take (k + 1)) = nums (l.take k) ++ 32 :: dec (nth l k) := by
 rw [take_succ h]
 simp [nums]
theorem numbers161 (S : Set Tryz.prog Y Gl) (l : List Int) (hl : l.length ≤ 1000) (hn : ∀ n ∈ l, sm n) : Computes Tryz.prog Gl 161 [L eI l] (.ret (str (nums l))) := by
 refine fn_is S (.loop l.length (fun k=>[v 8 (I ↑k),v 7 (I ↑l.length),v 6 (L eI l),v 3 (str (nums (List.take k l)))]) fun k0=>.br (.r (.ret (str (dec (nth l k0)))) .nil) .nil) Tryz.func161 (by kernel_rfl) (l.length≤maxLen→(0=(↑(0:Nat):Int)∧(↑l.length:Int)=(↑l.length:Int)∧(SEq l.length (fun i=>eI (nth l i)) l.length fun i=>eI (nth l i))∧{data:=#[]}=bs (nums (List.take (0:Nat) l)))∧∀ (k0:Nat),k0≤l.length→(decide ((↑k0:Int)<(↑l.length:Int))=true→(0≤(↑k0:Int)∧(↑k0:Int)<(↑l.length:Int))∧Computes Tryz.prog Gl 131 [I (nth l k0)] (.ret (str (dec (nth l k0))))∧(↑(ByteArray.size {data:=#[(32:UInt8)]}+ByteArray.size (bs (dec (nth l k0)))):Int)≤IntKind.max IntKind.i64∧(↑(ByteArray.size (bs (nums (List.take k0 l)))+ByteArray.size ({data:=#[(32:UInt8)]} ++ bs (dec (nth l k0)))):Int)≤IntKind.max IntKind.i64∧inRange IntKind.i64 ((↑k0:Int)+1)∧k0<l.length∧(↑k0:Int)+1=(↑(k0+1):Int)∧(↑l.length:Int)=(↑l.length:Int)∧(SEq l.length (fun i=>eI (nth l i)) l.length fun i=>eI (nth l i))∧bs (nums (List.take k0 l)) ++ ({data:=#[(32:UInt8)]} ++ bs (dec (nth l k0)))=bs (nums (List.take (k0+1) l)))∧(decide ((↑k0:Int)<(↑l.length:Int))=false→bs (nums (List.take k0 l))=bs (nums l))) (by kernel_rfl) ?_
 have hlen : ∀ k, (nums (l.take k)).length ≤ 3 * l.length := fun k => by
  have := nums_len (l := l.take k) fun x hx => hn x (List.mem_of_mem_take hx)
  rw [List.length_take] at this
  omega
 simp only [stdS, imp_self, implies_true, and_true]
 refine fun h => ⟨rfl, fun k hk => ⟨fun hlt => ?_, fun hlt => ?_⟩⟩
 ·have hlt : k < l.length := by simpa using hlt
  have hs := hn (nth l k) (nth_mem hlt)
  have hd := dec_len hs
  have h1 := hlen k
  have e1 : (bs [32]).size = 1 := rfl
  have e2 : ({ data := #[32] } : ByteArray) = bs [32] := rfl
  have hmax : IntKind.i64.max = 9223372036854775807 := rfl
  refine ⟨⟨by omega, by omega⟩, itoa131 _ hs.1 hs.2, ?_, ?_, (rng_iff _).2 (by omega), hlt, rfl, ?_⟩
  ·rw [e2, e1, bs_size, hmax]; omega
  ·rw [e2, bs_app, bs_size, bs_size, hmax, List.length_append]
   simp only [List.length_singleton]
   omega
  ·rw [e2, bs_app, bs_app, nums_take hlt]; rfl
 ·have hlt : ¬ k < l.length := by simpa using hlt
  rw [List.take_of_length_le (by omega)]
theorem numbersR (S : Set Tryz.prog Y Gl) (l : List Int) (hl : l.length ≤ 1000) (hn : ∀ n ∈ l, sm n) (n : Nat) (f : Nat → List C) (h : SEq n f l.length (fun i => eI (nth l i))) : Computes Tryz.prog Gl 161 [.d (.c (.s .n n f))] (.ret (str (nums l))) :=
 (numbers161 S l hl hn).args (show SEq n f l.length (fun i => eI (nth l i)) from h)
theorem seq1 {n : Int} {f : Nat → List C} (h : f 0 = eI n) : SEq 1 f [n].length (fun i => eI (nth [n] i)) := ⟨rfl, fun i hi => .inl (by
 have : i = 0 := by omega
 subst this
 exact h)⟩
theorem size_le {a b : List UInt8} {n : Nat} (ha : a.length ≤ 100) (hb : b.length ≤ 3 * n) (hn : n ≤ 7) : (((bs a).size + (bs b).size : Nat) : Int) ≤ IntKind.i64.max := by
 have hmax : IntKind.i64.max = 9223372036854775807 := rfl
 rw [bs_size, bs_size, hmax]
 omega
inductive Ln | head | comp (c : Comp) | due (n : Int) | sheet (n : Int)
 deriving Inhabited
def lnV : Ln → Value
 | .head => .nilIface
 | .comp c => .iface 173 (.agg #[.int .i64 c.room, .int .i64 c.post.low, .int .i64 c.post.high, .int .i64 c.sheet.low, .int .i64 c.sheet.high, .int .i64 c.look.low, .int .i64 c.look.high])
 | .due n => .iface 175 (.agg #[.int .i64 n])
 | .sheet n => .iface 177 (.agg #[.int .i64 n])
def lnN : Ln → List Int
 | .head => []
 | .comp c => [c.room, c.post.low, c.post.high, c.sheet.low, c.sheet.high, c.look.low, c.look.high]
 | .due n => [n]
 | .sheet n => [n]
def lnW : Ln → List UInt8
 | .head => lGive
 | .comp _ => lComputer
 | .due _ => lTable
 | .sheet _ => lSheet
def lnT (l : Ln) : List UInt8 := lnW l ++ nums (lnN l)
theorem written130h (S : Set Tryz.prog Y Gl)  : Computes Tryz.prog Gl 130 [.d (.c (.v .nilIface))] (.ret (str lGive)) := by
 refine fn_is S (.ff (.ff (.ff (.r (.ret (T.d (D.agg [C.v (Value.string (bs lGive)),C.v (Value.string (bs lComputer)),C.v (Value.string (bs lTable)),C.v (Value.string (bs lSheet))]))) .nil)))) Tryz.func130 (by kernel_rfl) (false=false∧false=false∧false=false∧Computes Tryz.prog Gl 136 [] (.ret (T.d (D.agg [C.v (Value.string (bs lGive)),C.v (Value.string (bs lComputer)),C.v (Value.string (bs lTable)),C.v (Value.string (bs lSheet))])))∧((0:Int)≤0∧0<(↑(4:Nat):Int))∧bs lGive=bs lGive) (by kernel_rfl) ?_
 simp only [stdS, imp_self, implies_true, and_true]
 exact ⟨words136 S, ⟨by decide, by decide⟩, trivial⟩
theorem written130c (S : Set Tryz.prog Y Gl) (c : Comp) (hn : ∀ n ∈ lnN (.comp c), sm n) : Computes Tryz.prog Gl 130 [.d (.c (.v (.iface 173 (.agg #[.int .i64 c.room, .int .i64 c.post.low, .int .i64 c.post.high, .int .i64 c.sheet.low, .int .i64 c.sheet.high, .int .i64 c.look.low, .int .i64 c.look.high]))))] (.ret (str (lComputer ++ nums (lnN (.comp c))))) := by
 refine fn_is S (.tt (.r (.ret (T.d (D.agg [C.v (Value.string (bs lGive)),C.v (Value.string (bs lComputer)),C.v (Value.string (bs lTable)),C.v (Value.string (bs lSheet))]))) (.r (.ret (str (nums (lnN (Ln.comp c))))) .nil))) Tryz.func130 (by kernel_rfl) (true=true∧Computes Tryz.prog Gl 136 [] (.ret (T.d (D.agg [C.v (Value.string (bs lGive)),C.v (Value.string (bs lComputer)),C.v (Value.string (bs lTable)),C.v (Value.string (bs lSheet))])))∧((0:Int)≤1∧1<(↑(4:Nat):Int))∧Computes Tryz.prog Gl 161 [T.d (D.c (C.s Tag.n (7:Nat) fun i=>List.getD [List.map C.dem [C.v (Value.int IntKind.i64 c.1)],List.map C.dem [C.v (Value.int IntKind.i64 c.2.1)],List.map C.dem [C.v (Value.int IntKind.i64 c.2.2)],List.map C.dem [C.v (Value.int IntKind.i64 c.3.1)],List.map C.dem [C.v (Value.int IntKind.i64 c.3.2)],List.map C.dem [C.v (Value.int IntKind.i64 c.4.1)],List.map C.dem [C.v (Value.int IntKind.i64 c.4.2)]] i []))] (.ret (str (nums (lnN (Ln.comp c)))))∧(↑(ByteArray.size (bs lComputer)+ByteArray.size (bs (nums (lnN (Ln.comp c))))):Int)≤IntKind.max IntKind.i64∧bs lComputer ++ bs (nums (lnN (Ln.comp c)))=bs (lComputer ++ nums (lnN (Ln.comp c)))) (by kernel_rfl) ?_
 simp only [stdS, imp_self, implies_true, and_true]
 refine ⟨words136 S, ⟨by decide, by decide⟩, numbersR S (lnN (.comp c)) (by show 7 ≤ 1000; decide) hn 7 _ ⟨rfl, fun i hi => ?_⟩, size_le (n := 7) (by decide) (nums_len hn) (by decide), bs_app _ _⟩
 have : i = 0 ∨ i = 1 ∨ i = 2 ∨ i = 3 ∨ i = 4 ∨ i = 5 ∨ i = 6 := by omega
 rcases this with rfl | rfl | rfl | rfl | rfl | rfl | rfl <;> exact .inl rfl
theorem written130d (S : Set Tryz.prog Y Gl) (n : Int) (hn : sm n) : Computes Tryz.prog Gl 130 [.d (.c (.v (.iface 175 (.agg #[.int .i64 n]))))] (.ret (str (lTable ++ nums [n]))) := by
 refine fn_is S (.ff (.tt (.r (.ret (T.d (D.agg [C.v (Value.string (bs lGive)),C.v (Value.string (bs lComputer)),C.v (Value.string (bs lTable)),C.v (Value.string (bs lSheet))]))) (.r (.ret (str (nums [n]))) .nil)))) Tryz.func130 (by kernel_rfl) (false=false∧true=true∧Computes Tryz.prog Gl 136 [] (.ret (T.d (D.agg [C.v (Value.string (bs lGive)),C.v (Value.string (bs lComputer)),C.v (Value.string (bs lTable)),C.v (Value.string (bs lSheet))])))∧((0:Int)≤2∧2<(↑(4:Nat):Int))∧Computes Tryz.prog Gl 161 [T.d (D.c (C.s Tag.n (1:Nat) fun i=>List.getD [List.map C.dem [C.v (Value.int IntKind.i64 n)]] i []))] (.ret (str (nums [n])))∧(↑(ByteArray.size (bs lTable)+ByteArray.size (bs (nums [n]))):Int)≤IntKind.max IntKind.i64∧bs lTable ++ bs (nums [n])=bs (lTable ++ nums [n])) (by kernel_rfl) ?_
 have hn' : ∀ x ∈ [n], sm x := by intro x hx; rw [List.mem_singleton.1 hx]; exact hn
 simp only [stdS, imp_self, implies_true, and_true]
 exact ⟨words136 S, ⟨by decide, by decide⟩, numbersR S [n] (by show 1 ≤ 1000; decide) hn' 1 _ (seq1 rfl), size_le (n := 1) (by decide) (nums_len hn') (by decide), bs_app _ _⟩
theorem written130s (S : Set Tryz.prog Y Gl) (n : Int) (hn : sm n) : Computes Tryz.prog Gl 130 [.d (.c (.v (.iface 177 (.agg #[.int .i64 n]))))] (.ret (str (lSheet ++ nums [n]))) := by
 refine fn_is S (.ff (.ff (.tt (.r (.ret (T.d (D.agg [C.v (Value.string (bs lGive)),C.v (Value.string (bs lComputer)),C.v (Value.string (bs lTable)),C.v (Value.string (bs lSheet))]))) (.r (.ret (str (nums [n]))) .nil))))) Tryz.func130 (by kernel_rfl) (false=false∧false=false∧true=true∧Computes Tryz.prog Gl 136 [] (.ret (T.d (D.agg [C.v (Value.string (bs lGive)),C.v (Value.string (bs lComputer)),C.v (Value.string (bs lTable)),C.v (Value.string (bs lSheet))])))∧((0:Int)≤3∧3<(↑(4:Nat):Int))∧Computes Tryz.prog Gl 161 [T.d (D.c (C.s Tag.n (1:Nat) fun i=>List.getD [List.map C.dem [C.v (Value.int IntKind.i64 n)]] i []))] (.ret (str (nums [n])))∧(↑(ByteArray.size (bs lSheet)+ByteArray.size (bs (nums [n]))):Int)≤IntKind.max IntKind.i64∧bs lSheet ++ bs (nums [n])=bs (lSheet ++ nums [n])) (by kernel_rfl) ?_
 have hn' : ∀ x ∈ [n], sm x := by intro x hx; rw [List.mem_singleton.1 hx]; exact hn
 simp only [stdS, imp_self, implies_true, and_true]
 exact ⟨words136 S, ⟨by decide, by decide⟩, numbersR S [n] (by show 1 ≤ 1000; decide) hn' 1 _ (seq1 rfl), size_le (n := 1) (by decide) (nums_len hn') (by decide), bs_app _ _⟩
theorem written130 (S : Set Tryz.prog Y Gl) (l : Ln) (hn : ∀ n ∈ lnN l, sm n) : Computes Tryz.prog Gl 130 [.d (.c (.v (lnV l)))] (.ret (str (lnT l))) := by
 cases l with
 | head => exact written130h S
 | comp c => exact written130c S c hn
 | due n => exact written130d S n (hn n List.mem_cons_self)
 | sheet n => exact written130s S n (hn n List.mem_cons_self)
end Go.Vc.Gd
namespace Go.Vc.Gd
open Go Go.Proofs Go.Vc
variable {Gl : World → Prop}
def lnsTo (b : Book) (i j k : Nat) : List Ln := .head :: ((b.comps.take i).map .comp ++ (b.dues.take j).map .due ++ (b.sheets.take k).map .sheet)
def Book.lns (b : Book) : List Ln := .head :: (b.comps.map .comp ++ b.dues.map .due ++ b.sheets.map .sheet)
def eLn (l : Ln) : List C := [.v (lnV l)]
def Book.rows (b : Book) : List (List UInt8) := b.lns.map lnT
def sumTo (w : List UInt8) (i : Nat) : Nat → Int
 | 0 => 0
 | k + 1 => sumTo w i k + ((nth w k).toNat : Int) * ((k : Int) + 1) * ((i : Int) + 1)
def checkTo (rows : List (List UInt8)) : Nat → Int
 | 0 => 0
 | i + 1 => checkTo rows i + sumTo (nth rows i) i (nth rows i).length
def outTo (rows : List (List UInt8)) : Nat → List UInt8
 | 0 => []
 | i + 1 => outTo rows i ++ (nth rows i ++ [10])
def lEnd : List UInt8 := [101, 110, 100, 32]
def checkOf (rows : List (List UInt8)) : Int := Int.tmod (checkTo rows rows.length) 251
def sealed (rows : List (List UInt8)) : List UInt8 := outTo rows rows.length ++ lEnd ++ dec (Int.tdiv (checkOf rows) 100) ++ dec (Int.tmod (Int.tdiv (checkOf rows) 10) 10) ++ dec (Int.tmod (checkOf rows) 10) ++ [10]
def Book.text (b : Book) : List UInt8 := sealed b.rows
structure Book.low (b : Book) : Prop where
 c : b.comps.length ≤ 300
 d : b.dues.length ≤ 300
 s : b.sheets.length ≤ 300
 n : ∀ l ∈ b.lns, ∀ n ∈ lnN l, sm n
theorem lnsTo_c {b : Book} {k : Nat} (h : k < b.comps.length) : lnsTo b (k + 1) 0 0 = lnsTo b k 0 0 ++ [.comp (nth b.comps k)] := by
 unfold lnsTo
 rw [take_succ h]
 simp
theorem lnsTo_d {b : Book} {k : Nat} (h : k < b.dues.length) : lnsTo b b.comps.length (k + 1) 0 = lnsTo b b.comps.length k 0 ++ [.due (nth b.dues k)] := by
 unfold lnsTo
 rw [take_succ h]
 simp
theorem lnsTo_s {b : Book} {k : Nat} (h : k < b.sheets.length) : lnsTo b b.comps.length b.dues.length (k + 1) = lnsTo b b.comps.length b.dues.length k ++ [.sheet (nth b.sheets k)] := by
 unfold lnsTo
 rw [take_succ h]
 simp
theorem lnsTo_all (b : Book) : lnsTo b b.comps.length b.dues.length b.sheets.length = b.lns := by
 unfold lnsTo Book.lns
 rw [List.take_length, List.take_length, List.take_length]
theorem lnsTo_len (b : Book) (i j k : Nat) : (lnsTo b i j k).length ≤ 1 + i + j + k := by
 unfold lnsTo
 simp only [List.length_cons, List.length_append, List.length_map, List.length_take]
 omega
theorem lns_len {b : Book} (hb : b.low) : b.lns.length ≤ 901 := by
 obtain ⟨h1, h2, h3, _⟩ := hb
 unfold Book.lns
 simp only [List.length_cons, List.length_append, List.length_map]
 omega
theorem ln_len {l : Ln} (h : ∀ n ∈ lnN l, sm n) : (lnT l).length ≤ 29 := by
 have := nums_len h
 unfold lnT
 rw [List.length_append]
 cases l <;> simp only [lnN, lnW, lGive, lComputer, lTable, lSheet, List.length_cons, List.length_nil] at this ⊢ <;> omega
theorem byteAt_bs {w : List UInt8} {k : Nat} (h : k < w.length) : byteAt (bs w) k = ((nth w k).toNat : Int) := by
 unfold byteAt
 rw [bs_list, nth_eq h]
 simp [List.getD, h]
theorem term_le {x : UInt8} {k i : Nat} (hk : k ≤ 29) (hi : i ≤ 901) : 0 ≤ (x.toNat : Int) * ((k : Int) + 1) ∧ (x.toNat : Int) * ((k : Int) + 1) ≤ 7650 ∧ 0 ≤ (x.toNat : Int) * ((k : Int) + 1) * ((i : Int) + 1) ∧ (x.toNat : Int) * ((k : Int) + 1) * ((i : Int) + 1) ≤ 7000000 := by
 have hx : x.toNat ≤ 255 := by have := x.toNat_lt; omega
 have h1 : x.toNat * (k + 1) ≤ 255 * 30 := Nat.mul_le_mul hx (by omega)
 have h2 : x.toNat * (k + 1) * (i + 1) ≤ 255 * 30 * 902 := Nat.mul_le_mul h1 (by omega)
 have e1 : (x.toNat : Int) * ((k : Int) + 1) = ((x.toNat * (k + 1) : Nat) : Int) := by push_cast; rfl
 have e2 : (x.toNat : Int) * ((k : Int) + 1) * ((i : Int) + 1) = ((x.toNat * (k + 1) * (i + 1) : Nat) : Int) := by push_cast; rfl
 rw [e2, e1]
 omega
theorem sumTo_le {w : List UInt8} {i : Nat} (hi : i ≤ 901) : ∀ k, k ≤ 30 → 0 ≤ sumTo w i k ∧ sumTo w i k ≤ 7000000 * k
 | 0, _ => by unfold sumTo; omega
 | k + 1, hk => by
  have ih := sumTo_le (w := w) hi k (by omega)
  have := term_le (x := nth w k) (k := k) (i := i) (by omega) hi
  unfold sumTo
  push_cast
  omega
theorem checkTo_le {rows : List (List UInt8)} (h : ∀ i, i < rows.length → (nth rows i).length ≤ 29) : ∀ i, i ≤ rows.length → i ≤ 901 → 0 ≤ checkTo rows i ∧ checkTo rows i ≤ 210000000 * i
 | 0, _, _ => by unfold checkTo; omega
 | i + 1, hi, hi2 => by
  have ih := checkTo_le h i (by omega) (by omega)
  have hl := h i (by omega)
  have := sumTo_le (w := nth rows i) (i := i) (by omega) (nth rows i).length (by omega)
  unfold checkTo
  push_cast
  omega
theorem outTo_le {rows : List (List UInt8)} (h : ∀ i, i < rows.length → (nth rows i).length ≤ 29) : ∀ i, i ≤ rows.length → (outTo rows i).length ≤ 30 * i
 | 0, _ => by unfold outTo; simp
 | i + 1, hi => by
  have ih := outTo_le h i (by omega)
  have hl := h i (by omega)
  unfold outTo
  simp only [List.length_append, List.length_singleton]
  omega
theorem rows_nth {b : Book} {i : Nat} (h : i < b.lns.length) : nth b.rows i = lnT (nth b.lns i) := by
 unfold Book.rows
 rw [nth_eq (by rw [List.length_map]; exact h), nth_eq h, List.getElem_map]
theorem rows_len (b : Book) : b.rows.length = b.lns.length := List.length_map ..
theorem text106 (S : Set Tryz.prog Y Gl) (b : Book) (hb : b.low) : Computes Tryz.prog Gl 106 [tBook b] (.ret (str b.text)) := by
 refine fn_is S (.loop (List.length (Book.comps b)) (fun k=>tk 100 179::v 20 (I ↑k)::v 19 (I (↑(List.length (Book.comps b)):Int))::v 18 (L eComp (Book.comps b))::v 3 (Lt 100 eLn (lnsTo b k (0:Nat) (0:Nat)))::v 1 (ad 1)::bx 1 (cBook b)) fun k0=>.br .nil (.loop (List.length (Book.dues b)) (fun k=>tk 100 179::v 34 (I ↑k)::v 33 (I (↑(List.length (Book.dues b)):Int))::v 32 (L eI (Book.dues b))::v 3 (Lt 100 eLn (lnsTo b (List.length (Book.comps b)) k (0:Nat)))::v 1 (ad 1)::bx 1 (cBook b)) fun k1=>.br .nil (.loop (List.length (Book.sheets b)) (fun k=>tk 100 179::v 48 (I ↑k)::v 47 (I (↑(List.length (Book.sheets b)):Int))::v 46 (L eI (Book.sheets b))::v 3 (Lt 100 eLn (lnsTo b (List.length (Book.comps b)) (List.length (Book.dues b)) k))::v 1 (ad 1)::bx 1 (cBook b)) fun k2=>.br .nil (.loop (List.length (Book.lns b)) (fun i=>[v 61 (I ↑i),v 60 (I (↑(List.length (Book.lns b)):Int)),v 59 (L eLn (Book.lns b)),v 10 (str (outTo (Book.rows b) i)),v 11 (I (checkTo (Book.rows b) i))]) fun k3=>.br (.r (.ret (str (lnT (nth (Book.lns b) k3)))) (.loop (List.length (lnT (nth (Book.lns b) k3))) (fun k=>[v 70 (I ↑k),v 69 (I (↑(List.length (lnT (nth (Book.lns b) k3))):Int)),v 14 (str (lnT (nth (Book.lns b) k3))),v 12 (I ↑k3),v 11 (I (checkTo (Book.rows b) k3+sumTo (lnT (nth (Book.lns b) k3)) k3 k)),v 61 (I ↑k3),v 60 (I (↑(List.length (Book.lns b)):Int)),v 59 (L eLn (Book.lns b)),v 10 (str (outTo (Book.rows b) k3))]) fun k4=>.br .nil .nil)) (.r (.ret (str (dec (Int.tdiv (Int.tmod (checkTo (Book.rows b) k3) (251:Int)) (100:Int))))) (.r (.ret (str (dec (Int.tmod (Int.tdiv (Int.tmod (checkTo (Book.rows b) k3) (251:Int)) (10:Int)) (10:Int))))) (.r (.ret (str (dec (Int.tmod (Int.tmod (checkTo (Book.rows b) k3) (251:Int)) (10:Int))))) .nil))))))) Tryz.func106 (by kernel_rfl) (let A0:=fun (k3:Nat)=>(Int.tmod (checkTo (Book.rows b) k3) (251:Int));let A1:=(SEq b.1.length (fun i=>eComp (nth b.1 i)) b.1.length fun i=>eComp (nth b.1 i));let A2:=(SEq b.2.length (fun i=>eI (nth b.2 i)) b.2.length fun i=>eI (nth b.2 i));let A3:=(Book.lns b);let A4:=(Book.rows b);let A5:=fun (k3:Nat)=>(lnT (nth A3 k3));let A6:=fun (k2:Nat)=>(lnsTo b b.1.length b.2.length k2);let A7:=(List.length A3);let A8:=fun (k3:Nat)=>(Int.tmod (Int.tdiv (A0 k3) (10:Int)) (10:Int));let A9:=(fun i=>eI (nth b.3 i));let A10:=fun (k3:Nat)=>(Int.tdiv (A0 k3) (100:Int));let A11:=fun (k1:Nat)=>(lnsTo b b.1.length k1 (0:Nat));let A12:=fun (k0:Nat)=>(lnsTo b k0 (0:Nat) (0:Nat));let A13:=(SEq A7 (fun i=>eLn (nth A3 i)) A7 fun i=>eLn (nth A3 i));let A14:=fun (k3:Nat)=>(Int.tmod (A0 k3) (10:Int));b.1.length≤maxLen→(0=(↑(0:Nat):Int)∧(↑b.1.length:Int)=(↑b.1.length:Int)∧A1∧(SEq (1:Nat) (fun i=>List.getD [List.map C.dem [C.v Value.nilIface]] i []) (List.length (lnsTo b (0:Nat) (0:Nat) (0:Nat))) fun i=>eLn (nth (lnsTo b (0:Nat) (0:Nat) (0:Nat)) i))∧A1∧A2∧SEq b.3.length A9 b.3.length fun i=>eI (nth b.3 i))∧∀ (k0:Nat),k0≤List.length (Book.comps b)→(decide ((↑k0:Int)<(↑b.1.length:Int))=true→(0≤(↑k0:Int)∧(↑k0:Int)<(↑b.1.length:Int))∧(List.length (A12 k0)+1)*16≤140737488355328∧List.length (A12 k0)+1≤140737488355328∧inRange IntKind.i64 ((↑k0:Int)+1)∧k0<List.length (Book.comps b)∧(↑k0:Int)+1=(↑(k0+1):Int)∧(↑b.1.length:Int)=(↑b.1.length:Int)∧A1∧(SEq (List.length (A12 k0)+1) (catF (List.length (A12 k0)) (fun i=>eLn (nth (A12 k0) i)) fun i=>List.getD [List.map C.dem [C.v (Value.iface (173:Nat) (Value.agg {toList:=[Value.int IntKind.i64 (nth b.1 k0).1,Value.int IntKind.i64 (nth b.1 k0).2.1,Value.int IntKind.i64 (nth b.1 k0).2.2,Value.int IntKind.i64 (nth b.1 k0).3.1,Value.int IntKind.i64 (nth b.1 k0).3.2,Value.int IntKind.i64 (nth b.1 k0).4.1,Value.int IntKind.i64 (nth b.1 k0).4.2]}))]] i []) (List.length (lnsTo b (k0+1) (0:Nat) (0:Nat))) fun i=>eLn (nth (lnsTo b (k0+1) (0:Nat) (0:Nat)) i))∧A1∧A2∧SEq b.3.length A9 b.3.length fun i=>eI (nth b.3 i))∧(decide ((↑k0:Int)<(↑b.1.length:Int))=false→b.2.length≤maxLen→(0=(↑(0:Nat):Int)∧(↑b.2.length:Int)=(↑b.2.length:Int)∧A2∧(SEq (List.length (A12 k0)) (fun i=>eLn (nth (A12 k0) i)) (List.length (lnsTo b b.1.length (0:Nat) (0:Nat))) fun i=>eLn (nth (lnsTo b b.1.length (0:Nat) (0:Nat)) i))∧A1∧A2∧SEq b.3.length A9 b.3.length fun i=>eI (nth b.3 i))∧∀ (k1:Nat),k1≤List.length (Book.dues b)→(decide ((↑k1:Int)<(↑b.2.length:Int))=true→(0≤(↑k1:Int)∧(↑k1:Int)<(↑b.2.length:Int))∧(List.length (A11 k1)+1)*16≤140737488355328∧List.length (A11 k1)+1≤140737488355328∧inRange IntKind.i64 ((↑k1:Int)+1)∧k1<List.length (Book.dues b)∧(↑k1:Int)+1=(↑(k1+1):Int)∧(↑b.2.length:Int)=(↑b.2.length:Int)∧A2∧(SEq (List.length (A11 k1)+1) (catF (List.length (A11 k1)) (fun i=>eLn (nth (A11 k1) i)) fun i=>List.getD [List.map C.dem [C.v (Value.iface (175:Nat) (Value.agg {toList:=[Value.int IntKind.i64 (nth b.2 k1)]}))]] i []) (List.length (lnsTo b b.1.length (k1+1) (0:Nat))) fun i=>eLn (nth (lnsTo b b.1.length (k1+1) (0:Nat)) i))∧A1∧A2∧SEq b.3.length A9 b.3.length fun i=>eI (nth b.3 i))∧(decide ((↑k1:Int)<(↑b.2.length:Int))=false→b.3.length≤maxLen→(0=(↑(0:Nat):Int)∧(↑b.3.length:Int)=(↑b.3.length:Int)∧(SEq b.3.length A9 b.3.length fun i=>eI (nth b.3 i))∧(SEq (List.length (A11 k1)) (fun i=>eLn (nth (A11 k1) i)) (List.length (lnsTo b b.1.length b.2.length (0:Nat))) fun i=>eLn (nth (lnsTo b b.1.length b.2.length (0:Nat)) i))∧A1∧A2∧SEq b.3.length A9 b.3.length fun i=>eI (nth b.3 i))∧∀ (k2:Nat),k2≤List.length (Book.sheets b)→(decide ((↑k2:Int)<(↑b.3.length:Int))=true→(0≤(↑k2:Int)∧(↑k2:Int)<(↑b.3.length:Int))∧(List.length (A6 k2)+1)*16≤140737488355328∧List.length (A6 k2)+1≤140737488355328∧inRange IntKind.i64 ((↑k2:Int)+1)∧k2<List.length (Book.sheets b)∧(↑k2:Int)+1=(↑(k2+1):Int)∧(↑b.3.length:Int)=(↑b.3.length:Int)∧(SEq b.3.length A9 b.3.length fun i=>eI (nth b.3 i))∧(SEq (List.length (A6 k2)+1) (catF (List.length (A6 k2)) (fun i=>eLn (nth (A6 k2) i)) fun i=>List.getD [List.map C.dem [C.v (Value.iface (177:Nat) (Value.agg {toList:=[Value.int IntKind.i64 (nth b.3 k2)]}))]] i []) (List.length (lnsTo b b.1.length b.2.length (k2+1))) fun i=>eLn (nth (lnsTo b b.1.length b.2.length (k2+1)) i))∧A1∧A2∧SEq b.3.length A9 b.3.length fun i=>eI (nth b.3 i))∧(decide ((↑k2:Int)<(↑b.3.length:Int))=false→List.length (A6 k2)≤maxLen→(0=(↑(0:Nat):Int)∧(↑(List.length (A6 k2)):Int)=(↑A7:Int)∧(SEq (List.length (A6 k2)) (fun i=>eLn (nth (A6 k2) i)) A7 fun i=>eLn (nth A3 i))∧{data:=#[]}=bs (outTo A4 (0:Nat))∧(0:Int)=checkTo A4 (0:Nat))∧∀ (k3:Nat),k3≤List.length A3→(decide ((↑k3:Int)<(↑(List.length (Book.lns b)):Int))=true→(0≤(↑k3:Int)∧(↑k3:Int)<(↑A7:Int))∧Computes Tryz.prog Gl 130 [T.d (D.c (C.v (lnV (nth A3 k3))))] (.ret (str (A5 k3)))∧(0=(↑(0:Nat):Int)∧(↑(ByteArray.size (bs (A5 k3))):Int)=(↑(List.length (A5 k3)):Int)∧bs (A5 k3)=bs (A5 k3)∧(↑k3:Int)=(↑k3:Int)∧checkTo A4 k3=checkTo A4 k3+sumTo (A5 k3) k3 (0:Nat)∧(↑k3:Int)=(↑k3:Int)∧(↑A7:Int)=(↑A7:Int)∧A13∧bs (outTo A4 k3)=bs (outTo A4 k3))∧∀ (k4:Nat),k4≤List.length (A5 k3)→(decide ((↑k4:Int)<(↑(List.length (lnT (nth (Book.lns b) k3))):Int))=true→(0≤(↑k4:Int)∧(↑k4:Int)<(↑(ByteArray.size (bs (A5 k3))):Int))∧inRange IntKind.i64 (byteAt (bs (A5 k3)) k4)∧inRange IntKind.i64 ((↑k4:Int)+1)∧inRange IntKind.i64 (byteAt (bs (A5 k3)) k4*((↑k4:Int)+1))∧inRange IntKind.i64 ((↑k3:Int)+1)∧inRange IntKind.i64 (byteAt (bs (A5 k3)) k4*((↑k4:Int)+1)*((↑k3:Int)+1))∧inRange IntKind.i64 (checkTo A4 k3+sumTo (A5 k3) k3 k4+byteAt (bs (A5 k3)) k4*((↑k4:Int)+1)*((↑k3:Int)+1))∧inRange IntKind.i64 ((↑k4:Int)+1)∧k4<List.length (A5 k3)∧(↑k4:Int)+1=(↑(k4+1):Int)∧(↑(List.length (A5 k3)):Int)=(↑(List.length (A5 k3)):Int)∧bs (A5 k3)=bs (A5 k3)∧(↑k3:Int)=(↑k3:Int)∧checkTo A4 k3+sumTo (A5 k3) k3 k4+byteAt (bs (A5 k3)) k4*((↑k4:Int)+1)*((↑k3:Int)+1)=checkTo A4 k3+sumTo (A5 k3) k3 (k4+1)∧(↑k3:Int)=(↑k3:Int)∧(↑A7:Int)=(↑A7:Int)∧A13∧bs (outTo A4 k3)=bs (outTo A4 k3))∧(decide ((↑k4:Int)<(↑(List.length (lnT (nth (Book.lns b) k3))):Int))=false→(↑(ByteArray.size (bs (A5 k3))+ByteArray.size {data:=#[(10:UInt8)]}):Int)≤IntKind.max IntKind.i64∧(↑(ByteArray.size (bs (outTo A4 k3))+ByteArray.size (bs (A5 k3) ++ {data:=#[(10:UInt8)]})):Int)≤IntKind.max IntKind.i64∧inRange IntKind.i64 ((↑k3:Int)+1)∧k3<List.length A3∧(↑k3:Int)+1=(↑(k3+1):Int)∧(↑A7:Int)=(↑A7:Int)∧A13∧bs (outTo A4 k3) ++ (bs (A5 k3) ++ {data:=#[(10:UInt8)]})=bs (outTo A4 (k3+1))∧checkTo A4 k3+sumTo (A5 k3) k3 k4=checkTo A4 (k3+1)))∧(decide ((↑k3:Int)<(↑(List.length (Book.lns b)):Int))=false→(251:Int) ≠ (0:Int)∧(↑(ByteArray.size (bs (outTo A4 k3))+ByteArray.size {data:=#[(101:UInt8),(110:UInt8),(100:UInt8),(32:UInt8)]}):Int)≤IntKind.max IntKind.i64∧((100:Int) ≠ (0:Int)∧inRange IntKind.i64 (A10 k3))∧Computes Tryz.prog Gl 131 [I (A10 k3)] (.ret (str (dec (A10 k3))))∧(↑(ByteArray.size (bs (outTo A4 k3) ++ {data:=#[(101:UInt8),(110:UInt8),(100:UInt8),(32:UInt8)]})+ByteArray.size (bs (dec (A10 k3)))):Int)≤IntKind.max IntKind.i64∧((10:Int) ≠ (0:Int)∧inRange IntKind.i64 (Int.tdiv (A0 k3) (10:Int)))∧(10:Int) ≠ (0:Int)∧Computes Tryz.prog Gl 131 [I (A8 k3)] (.ret (str (dec (A8 k3))))∧(↑(ByteArray.size (bs (outTo A4 k3) ++ {data:=#[(101:UInt8),(110:UInt8),(100:UInt8),(32:UInt8)]} ++ bs (dec (A10 k3)))+ByteArray.size (bs (dec (A8 k3)))):Int)≤IntKind.max IntKind.i64∧(10:Int) ≠ (0:Int)∧Computes Tryz.prog Gl 131 [I (A14 k3)] (.ret (str (dec (A14 k3))))∧(↑(ByteArray.size (bs (outTo A4 k3) ++ {data:=#[(101:UInt8),(110:UInt8),(100:UInt8),(32:UInt8)]} ++ bs (dec (A10 k3)) ++ bs (dec (A8 k3)))+ByteArray.size (bs (dec (A14 k3)))):Int)≤IntKind.max IntKind.i64∧(↑(ByteArray.size (bs (outTo A4 k3) ++ {data:=#[(101:UInt8),(110:UInt8),(100:UInt8),(32:UInt8)]} ++ bs (dec (A10 k3)) ++ bs (dec (A8 k3)) ++ bs (dec (A14 k3)))+ByteArray.size {data:=#[(10:UInt8)]}):Int)≤IntKind.max IntKind.i64∧bs (outTo A4 k3) ++ {data:=#[(101:UInt8),(110:UInt8),(100:UInt8),(32:UInt8)]} ++ bs (dec (A10 k3)) ++ bs (dec (A8 k3)) ++ bs (dec (A14 k3)) ++ {data:=#[(10:UInt8)]}=bs (Book.text b)))))) (by kernel_rfl) ?_
 obtain ⟨hc, hd, hs, hn⟩ := id hb
 have hln := lns_len hb
 have hl29 : ∀ i, i < b.lns.length → (lnT (nth b.lns i)).length ≤ 29 := fun i hi => ln_len (hn _ (nth_mem hi))
 have hr29 : ∀ i, i < b.rows.length → (nth b.rows i).length ≤ 29 := fun i hi => by
  rw [rows_len] at hi
  rw [rows_nth hi]; exact hl29 i hi
 have hmax : IntKind.i64.max = 9223372036854775807 := rfl
 have e10 : ({ data := #[10] } : ByteArray) = bs [10] := rfl
 have e0 : ({ data := #[] } : ByteArray) = bs [] := rfl
 have eE : ({ data := #[101, 110, 100, 32] } : ByteArray) = bs lEnd := rfl
 have eB : ∀ {w : List UInt8} {k : Nat}, decide ((k : Int) < (w.length : Int)) = true → k < w.length := fun h => by simpa using h
 simp only [stdS, imp_self, implies_true, and_true, e10, e0, eE, bs_size, bs_app, decide_eq_true_eq, decide_eq_false_iff_not]
 have q0 : SEq 1 (fun i => [List.map C.dem [C.v Value.nilIface]].getD i []) (lnsTo b 0 0 0).length (fun i => eLn (nth (lnsTo b 0 0 0) i)) := by
  refine ⟨rfl, fun i hi => .inl ?_⟩
  have : i = 0 := by omega
  subst this
  rfl
 refine fun h => ⟨⟨q0, trivial⟩, fun k0 hk0 => ⟨fun hlt => ?_, fun hlt h1 => ?_⟩⟩
 ·have hlt : k0 < b.comps.length := by omega
  have := lnsTo_len b k0 0 0
  exact ⟨⟨by omega, by omega⟩, by omega, by omega, (rng_iff _).2 (by omega), hlt, rfl, SEq_push1 (lnsTo_c hlt) rfl, trivial⟩
 obtain rfl : k0 = b.comps.length := by omega
 refine ⟨⟨SEq_whole rfl, trivial⟩, fun k1 hk1 => ⟨fun hlt => ?_, fun hlt h2 => ?_⟩⟩
 ·have hlt : k1 < b.dues.length := by omega
  have := lnsTo_len b b.comps.length k1 0
  exact ⟨⟨by omega, by omega⟩, by omega, by omega, (rng_iff _).2 (by omega), hlt, rfl, SEq_push1 (lnsTo_d hlt) rfl, trivial⟩
 obtain rfl : k1 = b.dues.length := by omega
 refine ⟨⟨SEq_whole rfl, trivial⟩, fun k2 hk2 => ⟨fun hlt => ?_, fun hlt h3 => ?_⟩⟩
 ·have hlt : k2 < b.sheets.length := by omega
  have := lnsTo_len b b.comps.length b.dues.length k2
  exact ⟨⟨by omega, by omega⟩, by omega, by omega, (rng_iff _).2 (by omega), hlt, rfl, SEq_push1 (lnsTo_s hlt) rfl, trivial⟩
 obtain rfl : k2 = b.sheets.length := by omega
 refine ⟨⟨by rw [lnsTo_all], SEq_whole (by rw [lnsTo_all]), rfl, rfl⟩, fun k3 hk3 => ⟨fun hlt => ?_, fun hlt => ?_⟩⟩
 ·have hlt : k3 < b.lns.length := by omega
  have hw := hl29 k3 hlt
  have hco := checkTo_le hr29 k3 (by rw [rows_len]; omega) (by omega)
  have hou := outTo_le hr29 k3 (by rw [rows_len]; omega)
  have hrn := rows_nth hlt
  have hwr := written130 S (nth b.lns k3) (hn _ (nth_mem hlt))
  generalize lnT (nth b.lns k3) = w at *
  refine ⟨⟨by omega, by omega⟩, hwr, ⟨by unfold sumTo; omega, trivial⟩, fun k4 hk4 => ⟨fun hl4 => ?_, fun hl4 => ?_⟩⟩
  ·have hl4 : k4 < w.length := by omega
   have ht := term_le (x := nth w k4) (k := k4) (i := k3) (by omega) (by omega)
   have hsu := sumTo_le (w := w) (i := k3) (by omega) k4 (by omega)
   have hx : ((nth w k4).toNat : Int) < 256 := by have := (nth w k4).toNat_lt; omega
   rw [byteAt_bs hl4]
   refine ⟨⟨by omega, by omega⟩, (rng_iff _).2 (by omega), (rng_iff _).2 (by omega), (rng_iff _).2 (by omega), (rng_iff _).2 (by omega), (rng_iff _).2 (by omega), (rng_iff _).2 (by omega), (rng_iff _).2 (by omega), hl4, rfl, ?_, trivial⟩
   rw [sumTo, Int.add_assoc]
  ·have hl4 : k4 = w.length := by omega
   subst hl4
   refine ⟨by rw [hmax]; simp only [List.length_singleton]; omega, by rw [hmax]; simp only [List.length_append, List.length_singleton]; omega, (rng_iff _).2 (by omega), hlt, rfl, ?_, ?_⟩
   ·rw [outTo, hrn]
   ·rw [checkTo, hrn]
 ·obtain rfl : k3 = b.lns.length := by omega
  have hco := checkTo_le hr29 b.lns.length (by rw [rows_len]; omega) (by omega)
  have hou := outTo_le hr29 b.lns.length (by rw [rows_len]; omega)
  have htx : b.text = outTo b.rows b.lns.length ++ lEnd ++ dec (Int.tdiv (Int.tmod (checkTo b.rows b.lns.length) 251) 100) ++ dec (Int.tmod (Int.tdiv (Int.tmod (checkTo b.rows b.lns.length) 251) 10) 10) ++ dec (Int.tmod (Int.tmod (checkTo b.rows b.lns.length) 251) 10) ++ [10] := by
   unfold Book.text sealed checkOf
   rw [rows_len]
  rw [htx]
  have hM : 0 ≤ Int.tmod (checkTo b.rows b.lns.length) 251 ∧ Int.tmod (checkTo b.rows b.lns.length) 251 < 251 := by
   rw [Int.tmod_eq_emod_of_nonneg hco.1]
   omega
  generalize Int.tmod (checkTo b.rows b.lns.length) 251 = M at *
  have h1' : Int.tdiv M 100 = M / 100 := Int.tdiv_eq_ediv_of_nonneg hM.1
  have h2' : Int.tdiv M 10 = M / 10 := Int.tdiv_eq_ediv_of_nonneg hM.1
  have h3' : Int.tmod (M / 10) 10 = M / 10 % 10 := Int.tmod_eq_emod_of_nonneg (by omega)
  have h4' : Int.tmod M 10 = M % 10 := Int.tmod_eq_emod_of_nonneg hM.1
  rw [h1', h2', h3', h4']
  have s1 : sm (M / 100) := ⟨by omega, by omega⟩
  have s2 : sm (M / 10 % 10) := ⟨by omega, by omega⟩
  have s3 : sm (M % 10) := ⟨by omega, by omega⟩
  have l1 := dec_len s1
  have l2 := dec_len s2
  have l3 := dec_len s3
  have lE : lEnd.length = 4 := rfl
  refine ⟨by decide, ?_, ⟨by decide, (rng_iff _).2 (by omega)⟩, itoa131 _ s1.1 s1.2, ?_, ⟨by decide, (rng_iff _).2 (by omega)⟩, by decide, itoa131 _ s2.1 s2.2, ?_, by decide, itoa131 _ s3.1 s3.2, ?_, ?_, rfl⟩
  all_goals
   rw [hmax]
   try simp only [List.length_append, List.length_singleton]
   omega
theorem print69 (S : Set Tryz.prog Y Gl) (b : Book) (hb : b.ok = true) (hl : b.low) : Computes Tryz.prog Gl 69 [tBook b] (.ret (.tup [.c (.v (.string (bs b.text))), .c (Ci 0)])) := by
 refine fn_is S (.r (.ret (B true)) (.ff (.r (.ret (str (Book.text b))) .nil))) Tryz.func69 (by kernel_rfl) (Computes Tryz.prog Gl 94 [tBook b] (.ret (B true))∧false=false∧Computes Tryz.prog Gl 106 [tBook b] (.ret (str (Book.text b)))∧bs (Book.text b)=bs (Book.text b)∧(0:Int)=0) (by kernel_rfl) ?_
 simp only [stdS, imp_self, implies_true, and_true]
 exact ⟨fineT S b hb, text106 S b hl, trivial⟩
theorem ok_low {b : Book} (hb : b.ok = true) : b.low := by
 obtain ⟨o1, o2, o3, o4, o5, o6⟩ := ok_spec hb
 refine ⟨by omega, by omega, by omega, fun l hl n hn => ?_⟩
 unfold Book.lns at hl
 simp only [List.mem_cons, List.mem_append, List.mem_map] at hl
 rcases hl with rfl | (⟨c, hc, rfl⟩ | ⟨d, hd, rfl⟩) | ⟨d, hd, rfl⟩
 ·cases hn
 ·obtain ⟨i, hi, rfl⟩ := List.mem_iff_getElem.1 hc
  have := o4 i hi
  rw [nth_eq hi] at this
  unfold Comp.fine Span.isIn at this
  simp only [Bool.and_eq_true, inR_iff] at this
  simp only [lnN, List.mem_cons, List.not_mem_nil, or_false] at hn
  unfold sm
  rcases hn with rfl | rfl | rfl | rfl | rfl | rfl | rfl <;> omega
 ·obtain ⟨i, hi, rfl⟩ := List.mem_iff_getElem.1 hd
  have := o5 i hi
  rw [nth_eq hi] at this
  rw [List.mem_singleton.1 hn]
  unfold sm
  omega
 ·obtain ⟨i, hi, rfl⟩ := List.mem_iff_getElem.1 hd
  have := o6 i hi
  rw [nth_eq hi] at this
  rw [List.mem_singleton.1 hn]
  unfold sm
  omega
end Go.Vc.Gd
namespace Go.Vc.Gd
open Go Go.Proofs Go.Vc
variable {Gl : World → Prop}
def isDig (c : UInt8) : Bool := decide (48 ≤ c.toNat) && decide (c.toNat ≤ 57)
def valTo (w : List UInt8) : Nat → Int
 | 0 => 0
 | k + 1 => 10 * valTo w k + (((nth w k).toNat : Int) - 48)
def digs (w : List UInt8) : Bool := w.all isDig && decide (w.length ≤ 2)
def digN (w : List UInt8) : Nat := bif decide (w.length ≤ 2) then upto isDig w else 0
def val (w : List UInt8) : Int := valTo w w.length
theorem sureT (S : Set Tryz.prog Y Gl) (x : Bool) (s : ByteArray) (h : x = true) : Computes Tryz.prog Gl 134 [B x, .d (.c (.v (.string s)))] (.ret (.tup [])) := by subst h; exact sure134 S s
theorem sureF (S : Set Tryz.prog Y Gl) (x : Bool) (s : ByteArray) (h : x = false) : Computes Tryz.prog Gl 134 [B x, .d (.c (.v (.string s)))] (.pan (.iface 183 (.agg #[.string s]))) := by subst h; exact sure134f S s
theorem bs_tl (w : List UInt8) : (bs w).toList = w := ByteArray.toList_mk w
theorem bs_get {w : List UInt8} {k : Nat} (h : k < w.length) (h' : k < (bs w).size) : (bs w)[k]'h' = nth w k := by
 rw [nth_eq h]
 rfl
theorem rune_dig {w : List UInt8} {k : Nat} (h : k < w.length) (hd : isDig (nth w k) = true) : runeAt (bs w) k = ((nth w k).toNat : Int) ∧ widthAt (bs w) k = 1 ∧ 48 ≤ (nth w k).toNat ∧ (nth w k).toNat ≤ 57 := by
 have h' : k < (bs w).size := by rw [bs_size]; exact h
 unfold isDig at hd
 simp only [Bool.and_eq_true, decide_eq_true_eq] at hd
 have := decode_ascii (bs w) k h' (by rw [bs_get h]; omega)
 unfold runeAt widthAt
 rw [this, bs_get h]
 exact ⟨rfl, rfl, hd⟩
theorem rune_non {w : List UInt8} {k : Nat} (h : k < w.length) (hd : isDig (nth w k) = false) : (decide (48 ≤ runeAt (bs w) k) && decide (runeAt (bs w) k ≤ 57)) = false := by
 have h' : k < (bs w).size := by rw [bs_size]; exact h
 unfold isDig at hd
 rw [Bool.eq_false_iff] at hd ⊢
 simp only [ne_eq, Bool.and_eq_true, decide_eq_true_eq] at hd ⊢
 intro hh
 rcases Nat.lt_or_ge (nth w k).toNat 128 with hl | hl
 ·have := decode_ascii (bs w) k h' (by rw [bs_get h]; exact hl)
  unfold runeAt at hh
  rw [this, bs_get h] at hh
  exact hd ⟨by simp only at hh; omega, by simp only at hh; omega⟩
 ·have := decode_high (bs w) k h' (by rw [bs_get h]; exact hl)
  unfold runeAt at hh
  omega
theorem val_le {w : List UInt8} {k : Nat} (hk : k ≤ 2) (hd : ∀ i, i < k → isDig (nth w i) = true) : 0 ≤ valTo w k ∧ valTo w k < 100 ∧ (k ≤ 1 → valTo w k < 10) := by
 have hb : ∀ i, i < k → 48 ≤ (nth w i).toNat ∧ (nth w i).toNat ≤ 57 := fun i hi => by
  have := hd i hi
  unfold isDig at this
  simpa using this
 match k, hk with
 | 0, _ => simp [valTo]
 | 1, _ =>
  have := hb 0 (by omega)
  simp only [valTo]
  omega
 | 2, _ =>
  have h0 := hb 0 (by omega)
  have h1 := hb 1 (by omega)
  simp only [valTo]
  omega
theorem digs_spec {w : List UInt8} (h : digs w = true) : w.length ≤ 2 ∧ ∀ i, i < w.length → isDig (nth w i) = true := by
 unfold digs at h
 simp only [Bool.and_eq_true, decide_eq_true_eq, List.all_eq_true] at h
 exact ⟨h.2, fun i hi => h.1 _ (nth_mem hi)⟩
theorem digN_lt {w : List UInt8} {k : Nat} (h : k < digN w) : w.length ≤ 2 ∧ k < w.length ∧ ∀ i, i ≤ k → isDig (nth w i) = true := by
 unfold digN at h
 cases hl : decide (w.length ≤ 2) with
 | false => rw [hl] at h; simp at h
 | true =>
  rw [hl, cond_true] at h
  have := upto_le (p := isDig) (l := w)
  exact ⟨by simpa using hl, by omega, fun i hi => upto_before (by omega)⟩
theorem digN_at {w : List UInt8} (h : digs w = false) : digN w < w.length ∧ (w.length ≤ 2 → isDig (nth w (digN w)) = false) := by
 unfold digs at h
 unfold digN
 cases hl : decide (w.length ≤ 2) with
 | false =>
  have : ¬ w.length ≤ 2 := by simpa using hl
  rw [cond_false]
  exact ⟨by omega, fun hh => absurd hh this⟩
 | true =>
  rw [hl, Bool.and_true] at h
  rw [cond_true]
  have hlt : upto isDig w < w.length := by
   rcases Nat.lt_or_ge (upto isDig w) w.length with hh | hh
   ·exact hh
   ·rw [upto_all hh] at h; cases h
  exact ⟨hlt, fun _ => upto_at hlt⟩
theorem step_ok {w : List UInt8} {k : Nat} (hl : w.length ≤ 2) (hk : k < w.length) (hd : ∀ i, i ≤ k → isDig (nth w i) = true) :
  (decide (48 ≤ runeAt (bs w) k) && (decide (runeAt (bs w) k ≤ 57) && decide (((bs w).size : Int) ≤ 2))) = true ∧ inRange IntKind.i64 (10 * valTo w k) ∧ inRange IntKind.i32 (runeAt (bs w) k - 48) ∧ inRange IntKind.i64 (runeAt (bs w) k - 48) ∧
   inRange IntKind.i64 (10 * valTo w k + (runeAt (bs w) k - 48)) ∧ (bif k.blt (bs w).size then k + widthAt (bs w) k else k) = k + 1 ∧ 10 * valTo w k + (runeAt (bs w) k - 48) = valTo w (k + 1) := by
 obtain ⟨h1, h2, h3, h4⟩ := rune_dig hk (hd k (Nat.le_refl _))
 have hv := val_le (w := w) (k := k) (by omega) (fun i hi => hd i (by omega))
 have hb : k.blt (bs w).size = true := by rw [bs_size]; exact Nat.ble_eq_true_of_le hk
 have h32 : ∀ n : Int, 0 ≤ n → n ≤ 9 → inRange IntKind.i32 n := fun n h0 h9 => ⟨by show (-2147483648 : Int) ≤ n; omega, by show n ≤ 2147483647; omega⟩
 rw [h1, h2, hb, bs_size]
 refine ⟨?_, (rng_iff _).2 (by omega), h32 _ (by omega) (by omega), (rng_iff _).2 (by omega), (rng_iff _).2 (by omega), rfl, rfl⟩
 simp only [Bool.and_eq_true, decide_eq_true_eq]
 omega
theorem number135 (S : Set Tryz.prog Y Gl) (w : List UInt8) (h : digs w = true) (hne : w ≠ []) (hd : dec (val w) = w) : Computes Tryz.prog Gl 135 [str w] (.ret (I (val w))) := by
 refine fn_is S (.loop w.length (fun k=>[v 7 (T.it (7:Nat)),((2:Nat),(7:Nat),T.itc (bs w) k),v 3 (I (valTo w k)),v 0 (str w)]) fun k0=>.br (.r (.ret (.tup [])) .nil) (.r (.ret (str (dec (valTo w k0)))) (.r (.ret (.tup [])) .nil))) Tryz.func135 (by kernel_rfl) (let A0:=(!ByteArray.toList (bs w)==ByteArray.toList {data:=#[]});let A1:=fun (k0:Nat)=>(bif decide ((48:Int)≤runeAt (bs w) k0) then decide (runeAt (bs w) k0≤(57:Int)) else false);let A2:=(eqB A0 true=true→eqB A0 true=true);(bs w=bs w∧(0:Nat)=(0:Nat)∧(0:Int)=valTo w (0:Nat)∧bs w=bs w)∧∀ (k0:Nat),k0≤w.length→(Nat.blt k0 (ByteArray.size (bs w))=true→Nat.blt k0 (ByteArray.size (bs w))=true∧(eqB (decide ((48:Int)≤runeAt (bs w) k0)) true=true→eqB (decide ((48:Int)≤runeAt (bs w) k0)) true=true)∧(decide ((48:Int)≤runeAt (bs w) k0)=true→eqB (decide ((48:Int)≤runeAt (bs w) k0)) true=true)∧(eqB (A1 k0) true=true→eqB (A1 k0) true=true)∧(eqB (A1 k0) true=true→eqB (A1 k0) true=true)∧((A1 k0)=true→eqB (A1 k0) true=true)∧Computes Tryz.prog Gl 134 [B (bif bif decide ((48:Int)≤runeAt (bs w) k0) then decide (runeAt (bs w) k0≤(57:Int)) else false then decide ((↑(ByteArray.size (bs w)):Int)≤2) else false),T.d (D.c (C.v (Value.string (bs w))))] (.ret (.tup []))∧inRange IntKind.i64 ((10:Int)*valTo w k0)∧inRange IntKind.i32 (runeAt (bs w) k0-(48:Int))∧inRange IntKind.i64 (runeAt (bs w) k0-(48:Int))∧inRange IntKind.i64 ((10:Int)*valTo w k0+(runeAt (bs w) k0-(48:Int)))∧k0<w.length∧bs w=bs w∧(bif Nat.blt k0 (ByteArray.size (bs w)) then k0+widthAt (bs w) k0 else k0)=k0+(1:Nat)∧(10:Int)*valTo w k0+(runeAt (bs w) k0-(48:Int))=valTo w (k0+1)∧bs w=bs w)∧(Nat.blt k0 (ByteArray.size (bs w))=false→A2∧(eqB A0 true=true→Computes Tryz.prog Gl 131 [I (valTo w k0)] (.ret (str (dec (valTo w k0)))))∧A2∧A2∧(A0=true→eqB A0 true=true)∧Computes Tryz.prog Gl 134 [B (bif !ByteArray.toList (bs w)==ByteArray.toList {data:=#[]} then ByteArray.toList (bs (dec (valTo w k0)))==ByteArray.toList (bs w) else false),T.d (D.c (C.v (Value.string (bs w))))] (.ret (.tup []))∧valTo w k0=val w)) (by kernel_rfl) ?_
 obtain ⟨hl, hdig⟩ := digs_spec h
 simp only [stdS, imp_self, implies_true, and_true]
 refine ⟨⟨rfl, trivial⟩, fun k hk => ⟨fun hb => ?_, fun hb => ?_⟩⟩
 ·have hlt : k < w.length := by
   rw [bs_size] at hb
   exact Nat.le_of_ble_eq_true hb
  obtain ⟨q1, q2, q3, q4, q5, q6, q7⟩ := step_ok hl hlt (fun i hi => hdig i (by omega))
  exact ⟨hb, sureT S _ _ q1, q2, q3, q4, q5, hlt, q6, q7, trivial⟩
 ·have hge : k = w.length := by
   rw [bs_size] at hb
   rcases Nat.lt_or_ge k w.length with hh | hh
   ·have : k.blt w.length = true := Nat.ble_eq_true_of_le hh
    rw [this] at hb; cases hb
   ·omega
  subst hge
  have hv := val_le (w := w) (k := w.length) hl hdig
  refine ⟨fun _ => itoa131 _ hv.1 hv.2.1, sureT S _ _ ?_, rfl⟩
  have hd' : dec (valTo w w.length) = w := hd
  rw [bs_tl, bs_tl, hd']
  have : ({ data := #[] } : ByteArray).toList = [] := bs_tl []
  rw [this]
  simpa using hne
theorem number135b (S : Set Tryz.prog Y Gl) (w : List UInt8) (h : digs w = false) : Computes Tryz.prog Gl 135 [str w] (.pan (.iface 183 (.agg #[.string (bs w)]))) := by
 refine fn_is S (.loop (digN w) (fun k=>[v 7 (T.it (7:Nat)),((2:Nat),(7:Nat),T.itc (bs w) k),v 3 (I (valTo w k)),v 0 (str w)]) fun k0=>.ite (decide (k0<digN w)) (.br (.r (.ret (.tup [])) .nil) (.r (.ret (str (dec (valTo w k0)))) (.r (.ret (.tup [])) .nil))) (.br (.r (Res.pan (Value.iface (183:TypeId) (Value.agg #[Value.string (bs w)]))) .nil) (.r (.ret (str (dec (valTo w k0)))) (.r (.ret (.tup [])) .nil)))) Tryz.func135 (by kernel_rfl) (let A0:=fun (k0:Nat)=>(bif decide ((48:Int)≤runeAt (bs w) k0) then decide (runeAt (bs w) k0≤(57:Int)) else false);let A1:=(!ByteArray.toList (bs w)==ByteArray.toList {data:=#[]});let A2:=(eqB A1 true=true→eqB A1 true=true);let A3:=(ByteArray.size (bs w));let A4:=fun (k0:Nat)=>(eqB (A0 k0) true=true→eqB (A0 k0) true=true);let A5:=(D.c (C.v (Value.string (bs w))));(bs w=bs w∧(0:Nat)=(0:Nat)∧(0:Int)=valTo w (0:Nat)∧bs w=bs w)∧∀ (k0:Nat),k0≤digN w→(decide (k0<digN w)=true→(Nat.blt k0 A3=true→Nat.blt k0 A3=true∧(eqB (decide ((48:Int)≤runeAt (bs w) k0)) true=true→eqB (decide ((48:Int)≤runeAt (bs w) k0)) true=true)∧(decide ((48:Int)≤runeAt (bs w) k0)=true→eqB (decide ((48:Int)≤runeAt (bs w) k0)) true=true)∧(A4 k0)∧(A4 k0)∧((A0 k0)=true→eqB (A0 k0) true=true)∧Computes Tryz.prog Gl 134 [B (bif bif decide ((48:Int)≤runeAt (bs w) k0) then decide (runeAt (bs w) k0≤(57:Int)) else false then decide ((↑(ByteArray.size (bs w)):Int)≤2) else false),T.d A5] (.ret (.tup []))∧inRange IntKind.i64 ((10:Int)*valTo w k0)∧inRange IntKind.i32 (runeAt (bs w) k0-(48:Int))∧inRange IntKind.i64 (runeAt (bs w) k0-(48:Int))∧inRange IntKind.i64 ((10:Int)*valTo w k0+(runeAt (bs w) k0-(48:Int)))∧k0<digN w∧bs w=bs w∧(bif Nat.blt k0 A3 then k0+widthAt (bs w) k0 else k0)=k0+(1:Nat)∧(10:Int)*valTo w k0+(runeAt (bs w) k0-(48:Int))=valTo w (k0+1)∧bs w=bs w)∧(Nat.blt k0 A3=false→A2∧(eqB A1 true=true→Computes Tryz.prog Gl 131 [I (valTo w k0)] (.ret (str (dec (valTo w k0)))))∧A2∧A2∧(A1=true→eqB A1 true=true)∧Computes Tryz.prog Gl 134 [B (bif !ByteArray.toList (bs w)==ByteArray.toList {data:=#[]} then ByteArray.toList (bs (dec (valTo w k0)))==ByteArray.toList (bs w) else false),T.d A5] (.ret (.tup []))∧False))∧(decide (k0<digN w)=false→(Nat.blt k0 A3=true→Nat.blt k0 A3=true∧(eqB (decide ((48:Int)≤runeAt (bs w) k0)) true=true→eqB (decide ((48:Int)≤runeAt (bs w) k0)) true=true)∧(decide ((48:Int)≤runeAt (bs w) k0)=true→eqB (decide ((48:Int)≤runeAt (bs w) k0)) true=true)∧(A4 k0)∧(A4 k0)∧((A0 k0)=true→eqB (A0 k0) true=true)∧Computes Tryz.prog Gl 134 [B (bif bif decide ((48:Int)≤runeAt (bs w) k0) then decide (runeAt (bs w) k0≤(57:Int)) else false then decide ((↑(ByteArray.size (bs w)):Int)≤2) else false),T.d A5] (Res.pan (Value.iface (183:TypeId) (Value.agg #[Value.string (bs w)])))∧Value.iface (183:Nat) (Value.agg {toList:=[Value.string (bs w)]})=Value.iface (183:Nat) (Value.agg {toList:=[Value.string (bs w)]}))∧(Nat.blt k0 A3=false→A2∧(eqB A1 true=true→Computes Tryz.prog Gl 131 [I (valTo w k0)] (.ret (str (dec (valTo w k0)))))∧A2∧A2∧(A1=true→eqB A1 true=true)∧Computes Tryz.prog Gl 134 [B (bif !ByteArray.toList (bs w)==ByteArray.toList {data:=#[]} then ByteArray.toList (bs (dec (valTo w k0)))==ByteArray.toList (bs w) else false),T.d A5] (.ret (.tup []))∧False))) (by kernel_rfl) ?_
 obtain ⟨hat, hnon⟩ := digN_at h
 simp only [stdS, imp_self, implies_true, and_true]
 refine ⟨⟨rfl, trivial⟩, fun k hk => ⟨fun hc => ?_, fun hc => ?_⟩⟩
 ·have hc : k < digN w := by simpa using hc
  obtain ⟨hl, hlt, hdig⟩ := digN_lt hc
  refine ⟨fun hb => ?_, fun hb => ?_⟩
  ·obtain ⟨q1, q2, q3, q4, q5, q6, q7⟩ := step_ok hl hlt hdig
   exact ⟨hb, sureT S _ _ q1, q2, q3, q4, q5, hc, q6, q7, trivial⟩
  ·rw [bs_size] at hb
   have : k.blt w.length = true := Nat.ble_eq_true_of_le hlt
   rw [this] at hb; cases hb
 ·have hc : k = digN w := by
   have : ¬ k < digN w := by simpa using hc
   omega
  subst hc
  refine ⟨fun hb => ⟨hb, sureF S _ _ ?_, trivial⟩, fun hb => ?_⟩
  ·cases hl : decide (((bs w).size : Int) ≤ 2) with
   | false => simp
   | true =>
    rw [bs_size] at hl
    have := rune_non hat (hnon (by simp at hl; omega))
    rw [Bool.and_true]
    exact this
  ·rw [bs_size] at hb
   have : (digN w).blt w.length = true := Nat.ble_eq_true_of_le hat
   rw [this] at hb; cases hb
theorem number135c (S : Set Tryz.prog Y Gl) (w : List UInt8) (h : digs w = true) (hd : (!(w == []) && (dec (val w) == w)) = false) : Computes Tryz.prog Gl 135 [str w] (.pan (.iface 183 (.agg #[.string (bs w)]))) := by
 refine fn_is S (.loop w.length (fun k=>[v 7 (T.it (7:Nat)),((2:Nat),(7:Nat),T.itc (bs w) k),v 3 (I (valTo w k)),v 0 (str w)]) fun k0=>.br (.r (.ret (.tup [])) .nil) (.r (.ret (str (dec (valTo w k0)))) (.r (Res.pan (Value.iface (183:TypeId) (Value.agg #[Value.string (bs w)]))) .nil))) Tryz.func135 (by kernel_rfl) (let A0:=(!ByteArray.toList (bs w)==ByteArray.toList {data:=#[]});let A1:=fun (k0:Nat)=>(bif decide ((48:Int)≤runeAt (bs w) k0) then decide (runeAt (bs w) k0≤(57:Int)) else false);let A2:=(eqB A0 true=true→eqB A0 true=true);(bs w=bs w∧(0:Nat)=(0:Nat)∧(0:Int)=valTo w (0:Nat)∧bs w=bs w)∧∀ (k0:Nat),k0≤w.length→(Nat.blt k0 (ByteArray.size (bs w))=true→Nat.blt k0 (ByteArray.size (bs w))=true∧(eqB (decide ((48:Int)≤runeAt (bs w) k0)) true=true→eqB (decide ((48:Int)≤runeAt (bs w) k0)) true=true)∧(decide ((48:Int)≤runeAt (bs w) k0)=true→eqB (decide ((48:Int)≤runeAt (bs w) k0)) true=true)∧(eqB (A1 k0) true=true→eqB (A1 k0) true=true)∧(eqB (A1 k0) true=true→eqB (A1 k0) true=true)∧((A1 k0)=true→eqB (A1 k0) true=true)∧Computes Tryz.prog Gl 134 [B (bif bif decide ((48:Int)≤runeAt (bs w) k0) then decide (runeAt (bs w) k0≤(57:Int)) else false then decide ((↑(ByteArray.size (bs w)):Int)≤2) else false),T.d (D.c (C.v (Value.string (bs w))))] (.ret (.tup []))∧inRange IntKind.i64 ((10:Int)*valTo w k0)∧inRange IntKind.i32 (runeAt (bs w) k0-(48:Int))∧inRange IntKind.i64 (runeAt (bs w) k0-(48:Int))∧inRange IntKind.i64 ((10:Int)*valTo w k0+(runeAt (bs w) k0-(48:Int)))∧k0<w.length∧bs w=bs w∧(bif Nat.blt k0 (ByteArray.size (bs w)) then k0+widthAt (bs w) k0 else k0)=k0+(1:Nat)∧(10:Int)*valTo w k0+(runeAt (bs w) k0-(48:Int))=valTo w (k0+1)∧bs w=bs w)∧(Nat.blt k0 (ByteArray.size (bs w))=false→A2∧(eqB A0 true=true→Computes Tryz.prog Gl 131 [I (valTo w k0)] (.ret (str (dec (valTo w k0)))))∧A2∧A2∧(A0=true→eqB A0 true=true)∧Computes Tryz.prog Gl 134 [B (bif !ByteArray.toList (bs w)==ByteArray.toList {data:=#[]} then ByteArray.toList (bs (dec (valTo w k0)))==ByteArray.toList (bs w) else false),T.d (D.c (C.v (Value.string (bs w))))] (Res.pan (Value.iface (183:TypeId) (Value.agg #[Value.string (bs w)])))∧Value.iface (183:Nat) (Value.agg {toList:=[Value.string (bs w)]})=Value.iface (183:Nat) (Value.agg {toList:=[Value.string (bs w)]}))) (by kernel_rfl) ?_
 obtain ⟨hl, hdig⟩ := digs_spec h
 simp only [stdS, imp_self, implies_true, and_true]
 refine ⟨⟨rfl, trivial⟩, fun k hk => ⟨fun hb => ?_, fun hb => ?_⟩⟩
 ·have hlt : k < w.length := by
   rw [bs_size] at hb
   exact Nat.le_of_ble_eq_true hb
  obtain ⟨q1, q2, q3, q4, q5, q6, q7⟩ := step_ok hl hlt (fun i hi => hdig i (by omega))
  exact ⟨hb, sureT S _ _ q1, q2, q3, q4, q5, hlt, q6, q7, trivial⟩
 ·have hge : k = w.length := by
   rw [bs_size] at hb
   rcases Nat.lt_or_ge k w.length with hh | hh
   ·have : k.blt w.length = true := Nat.ble_eq_true_of_le hh
    rw [this] at hb; cases hb
   ·omega
  subst hge
  have hv := val_le (w := w) (k := w.length) hl hdig
  refine ⟨fun _ => itoa131 _ hv.1 hv.2.1, sureF S _ _ ?_, trivial⟩
  rw [bs_tl, bs_tl]
  have : ({ data := #[] } : ByteArray).toList = [] := bs_tl []
  rw [this]
  exact hd
def numOf (w : List UInt8) : Option Int := bif digs w && (!(w == []) && (dec (val w) == w)) then some (val w) else none
theorem number135some (S : Set Tryz.prog Y Gl) (w : List UInt8) {n : Int} (h : numOf w = some n) : Computes Tryz.prog Gl 135 [str w] (.ret (I n)) := by
 unfold numOf at h
 cases hc : digs w && (!(w == []) && (dec (val w) == w)) with
 | false => rw [hc] at h; cases h
 | true =>
  rw [hc] at h
  obtain rfl := Option.some.inj h
  simp only [Bool.and_eq_true, Bool.not_eq_true', beq_eq_false_iff_ne, beq_iff_eq] at hc
  exact number135 S w hc.1 hc.2.1 hc.2.2
theorem number135none (S : Set Tryz.prog Y Gl) (w : List UInt8) (h : numOf w = none) : Computes Tryz.prog Gl 135 [str w] (.pan (.iface 183 (.agg #[.string (bs w)]))) := by
 unfold numOf at h
 cases hc : digs w with
 | false => exact number135b S w hc
 | true =>
  cases hc2 : (!(w == []) && (dec (val w) == w)) with
  | false => exact number135c S w hc hc2
  | true => rw [hc, hc2] at h; cases h
theorem numOf_spec {w : List UInt8} {n : Int} (h : numOf w = some n) : sm n ∧ dec n = w := by
 unfold numOf at h
 cases hc : digs w && (!(w == []) && (dec (val w) == w)) with
 | false => rw [hc] at h; cases h
 | true =>
  rw [hc] at h
  obtain rfl := Option.some.inj h
  simp only [Bool.and_eq_true, Bool.not_eq_true', beq_eq_false_iff_ne, beq_iff_eq] at hc
  obtain ⟨hl, hdig⟩ := digs_spec hc.1
  have := val_le (w := w) (k := w.length) hl hdig
  exact ⟨⟨this.1, this.2.1⟩, hc.2.2⟩
def decS (n : Nat) : List UInt8 := bif Nat.blt n 10 then [UInt8.ofNat (48 + n)] else [UInt8.ofNat (48 + n / 10), UInt8.ofNat (48 + n % 10)]
theorem dec_eq {n : Nat} (h : n < 100) : dec n = decS n := by
 unfold dec decS
 rw [Int.toNat_natCast]
 by_cases h2 : n < 10
 ·have : Nat.blt n 10 = true := Nat.ble_eq_true_of_le h2
  rw [Lib.decDigits, dif_pos h2, this]; rfl
 ·have : Nat.blt n 10 = false := by
   cases hb : Nat.blt n 10 with
   | false => rfl
   | true => exact absurd (Nat.le_of_ble_eq_true hb) h2
  rw [Lib.decDigits, dif_neg h2, Lib.decDigits, dif_pos (by omega), this]; rfl
theorem decS_all : ∀ n : Nat, n < 100 → (digs (decS n) && (!(decS n == []) && (val (decS n) == (n : Int)))) = true := by decide
theorem numOf_dec {n : Int} (h : sm n) : numOf (dec n) = some n := by
 obtain ⟨m, rfl⟩ := Int.eq_ofNat_of_zero_le h.1
 have hm : m < 100 := by have := h.2; omega
 have := decS_all m hm
 simp only [Bool.and_eq_true, beq_iff_eq] at this
 obtain ⟨h1, h2, h3⟩ := this
 have he := dec_eq hm
 show numOf (dec (m : Int)) = some (m : Int)
 unfold numOf
 rw [he, h1, h2, h3, he]
 simp
end Go.Vc.Gd
namespace Go.Vc.Gd
open Go Go.Proofs Go.Vc
variable {Gl : World → Prop}
def isNum (w : List UInt8) : Bool := (numOf w).isSome
def numV (w : List UInt8) : Int := (numOf w).getD 0
def tl (r : List UInt8) : List (List UInt8) := (splitL 32 r).drop 1
def hd (r : List UInt8) : List UInt8 := nth (splitL 32 r) 0
def nsTo (r : List UInt8) (j : Nat) : List Int := ((tl r).take j).map numV
def ns (r : List UInt8) : List Int := nsTo r (tl r).length
def compOf (l : List Int) : Comp := ⟨nth l 0, ⟨nth l 1, nth l 2⟩, ⟨nth l 3, nth l 4⟩, ⟨nth l 5, nth l 6⟩⟩
def rowB (b : Book) (r : List UInt8) : Book :=
 bif (ns r).length == 7 then ⟨b.comps ++ [compOf (ns r)], b.dues, b.sheets⟩ else bif hd r == lTable then ⟨b.comps, b.dues ++ [nth (ns r) 0], b.sheets⟩ else ⟨b.comps, b.dues, b.sheets ++ [nth (ns r) 0]⟩
def rowShape (r : List UInt8) : Bool := (ns r).length == 7 || (hd r == lTable && (ns r).length == 1) || (hd r == lSheet && (ns r).length == 1)
def rowOK (r : List UInt8) : Bool := (tl r).all isNum && rowShape r
def bookTo (rows : List (List UInt8)) : Nat → Book
 | 0 => ⟨[], [], []⟩
 | k + 1 => rowB (bookTo rows k) (nth rows k)
def mid (s : List UInt8) : List (List UInt8) := ((splitL 10 s).drop 1).take ((splitL 10 s).length - 3)
theorem number135V (S : Set Tryz.prog Y Gl) (w : List UInt8) (h : isNum w = true) : Computes Tryz.prog Gl 135 [str w] (.ret (I (numV w))) := by
 unfold isNum at h
 obtain ⟨n, hn⟩ := Option.isSome_iff_exists.1 h
 unfold numV
 rw [hn]
 exact number135some S w hn
theorem number135N (S : Set Tryz.prog Y Gl) (w : List UInt8) (h : isNum w = false) : Computes Tryz.prog Gl 135 [str w] (.pan (.iface 183 (.agg #[.string (bs w)]))) := by
 unfold isNum at h
 exact number135none S w (by simpa using h)
theorem piece_len (c : UInt8) : ∀ (l p : List UInt8), p ∈ splitL c l → p.length ≤ l.length
 | [], p, h => by
  simp only [splitL, List.mem_singleton] at h
  subst h; simp
 | x :: r, p, h => by
  unfold splitL at h
  cases hx : x == c with
  | true =>
   rw [hx, cond_true] at h
   rcases List.mem_cons.1 h with rfl | h
   ·simp
   ·have := piece_len c r p h
    simp only [List.length_cons]; omega
  | false =>
   rw [hx, cond_false] at h
   cases hs : splitL c r with
   | nil => exact absurd hs (splitL_ne c r)
   | cons a q =>
    rw [hs] at h
    rcases List.mem_cons.1 h with rfl | h
    ·have := piece_len c r a (by rw [hs]; exact List.mem_cons_self)
     simp only [List.length_cons]; omega
    ·have := piece_len c r p (by rw [hs]; exact List.mem_cons_of_mem _ h)
     simp only [List.length_cons]; omega
theorem mid_len {s : List UInt8} : (mid s).length = (splitL 10 s).length - 3 := by
 unfold mid
 rw [List.length_take, List.length_drop]
 omega
theorem mid_nth {s : List UInt8} {i : Nat} (h : i < (mid s).length) : nth (mid s) i = nth (splitL 10 s) (1 + i) := by
 have h2 := h
 rw [mid_len] at h2
 unfold mid nth
 rw [List.getD_eq_getElem?_getD, List.getD_eq_getElem?_getD, List.getElem?_take, if_pos (by omega), List.getElem?_drop]
theorem tl_len {r : List UInt8} : (tl r).length = (splitL 32 r).length - 1 := by
 unfold tl
 rw [List.length_drop]
theorem tl_nth {r : List UInt8} {i : Nat} (h : i < (tl r).length) : nth (tl r) i = nth (splitL 32 r) (1 + i) := by
 have h2 := h
 rw [tl_len] at h2
 unfold tl nth
 rw [List.getD_eq_getElem?_getD, List.getD_eq_getElem?_getD, List.getElem?_drop]
theorem split_pos (c : UInt8) (l : List UInt8) : 1 ≤ (splitL c l).length ∧ (splitL c l).length ≤ l.length + 1 := by
 rw [splitL_len]
 have := List.count_le_length (a := c) (l := l)
 omega
theorem row_len {s : List UInt8} {i : Nat} (h : i < (mid s).length) : (nth (mid s) i).length ≤ s.length := by
 rw [mid_nth h]
 rw [mid_len] at h
 exact piece_len 10 s _ (nth_mem (by omega))
theorem nsTo_len {r : List UInt8} {j : Nat} : (nsTo r j).length ≤ (tl r).length := by
 unfold nsTo
 rw [List.length_map, List.length_take]
 omega
theorem nsTo_succ {r : List UInt8} {j : Nat} (h : j < (tl r).length) : nsTo r (j + 1) = nsTo r j ++ [numV (nth (tl r) j)] := by
 unfold nsTo
 rw [take_succ h]
 simp
theorem numV_sm (w : List UInt8) : sm (numV w) := by
 unfold numV
 cases h : numOf w with
 | none => exact ⟨by decide, by decide⟩
 | some n => exact (numOf_spec h).1
theorem ns_sm (r : List UInt8) (i : Nat) : sm (nth (ns r) i) := by
 rcases Nat.lt_or_ge i (ns r).length with h | h
 ·have := nth_mem h
  unfold ns nsTo at this
  obtain ⟨w, _, hw⟩ := List.mem_map.1 this
  have e : nth (ns r) i = numV w := hw.symm
  rw [e]
  exact numV_sm w
 ·have : nth (ns r) i = 0 := by
   unfold nth
   rw [List.getD_eq_getElem?_getD, List.getElem?_eq_none h]
   rfl
  rw [this]
  exact ⟨by decide, by decide⟩
theorem rowB_c {b : Book} {r : List UInt8} (h : ((ns r).length == 7) = true) : rowB b r = ⟨b.comps ++ [compOf (ns r)], b.dues, b.sheets⟩ := by
 unfold rowB
 rw [h]; rfl
theorem rowB_d {b : Book} {r : List UInt8} (h : ((ns r).length == 7) = false) (h2 : (hd r == lTable) = true) : rowB b r = ⟨b.comps, b.dues ++ [nth (ns r) 0], b.sheets⟩ := by
 unfold rowB
 rw [h, h2]; rfl
theorem rowB_s {b : Book} {r : List UInt8} (h : ((ns r).length == 7) = false) (h2 : (hd r == lTable) = false) : rowB b r = ⟨b.comps, b.dues, b.sheets ++ [nth (ns r) 0]⟩ := by
 unfold rowB
 rw [h, h2]; rfl
structure SmB (b : Book) : Prop where
 c : ∀ c ∈ b.comps, ∀ n ∈ lnN (.comp c), sm n
 d : ∀ n ∈ b.dues, sm n
 s : ∀ n ∈ b.sheets, sm n
theorem rowB_sm {b : Book} (h : SmB b) (r : List UInt8) : SmB (rowB b r) ∧ (rowB b r).comps.length + (rowB b r).dues.length + (rowB b r).sheets.length = b.comps.length + b.dues.length + b.sheets.length + 1 := by
 obtain ⟨h1, h2, h3⟩ := h
 cases h7 : ((ns r).length == 7) with
 | true =>
  rw [rowB_c h7]
  refine ⟨⟨fun c hc n hn => ?_, h2, h3⟩, by simp only [List.length_append, List.length_singleton]; omega⟩
  rcases List.mem_append.1 hc with hc | hc
  ·exact h1 c hc n hn
  ·rw [List.mem_singleton.1 hc] at hn
   simp only [lnN, compOf, List.mem_cons, List.not_mem_nil, or_false] at hn
   rcases hn with rfl | rfl | rfl | rfl | rfl | rfl | rfl <;> exact ns_sm r _
 | false =>
  cases ht : (hd r == lTable) with
  | true =>
   rw [rowB_d h7 ht]
   refine ⟨⟨h1, fun n hn => ?_, h3⟩, by simp only [List.length_append, List.length_singleton]; omega⟩
   rcases List.mem_append.1 hn with hn | hn
   ·exact h2 n hn
   ·rw [List.mem_singleton.1 hn]; exact ns_sm r _
  | false =>
   rw [rowB_s h7 ht]
   refine ⟨⟨h1, h2, fun n hn => ?_⟩, by simp only [List.length_append, List.length_singleton]; omega⟩
   rcases List.mem_append.1 hn with hn | hn
   ·exact h3 n hn
   ·rw [List.mem_singleton.1 hn]; exact ns_sm r _
theorem bookTo_sm (rows : List (List UInt8)) : ∀ k, SmB (bookTo rows k) ∧ (bookTo rows k).comps.length + (bookTo rows k).dues.length + (bookTo rows k).sheets.length = k
 | 0 => ⟨⟨fun c hc => (by cases hc), fun n hn => (by cases hn), fun n hn => (by cases hn)⟩, rfl⟩
 | k + 1 => by
  obtain ⟨h1, h2⟩ := bookTo_sm rows k
  obtain ⟨h3, h4⟩ := rowB_sm h1 (nth rows k)
  exact ⟨h3, by unfold bookTo; omega⟩
theorem SmB.low {b : Book} (h : SmB b) (hn : b.comps.length + b.dues.length + b.sheets.length ≤ 300) : b.low := by
 obtain ⟨h1, h2, h3⟩ := h
 refine ⟨by omega, by omega, by omega, fun l hl n hn => ?_⟩
 unfold Book.lns at hl
 simp only [List.mem_cons, List.mem_append, List.mem_map] at hl
 rcases hl with rfl | (⟨c, hc, rfl⟩ | ⟨d, hd, rfl⟩) | ⟨d, hd, rfl⟩
 ·cases hn
 ·exact h1 c hc n hn
 ·rw [List.mem_singleton.1 hn]; exact h2 d hd
 ·rw [List.mem_singleton.1 hn]; exact h3 d hd
theorem hd_eq (r : List UInt8) (l : List UInt8) : ((bs (nth (splitL 32 r) (Int.toNat 0))).toList == (bs l).toList) = (hd r == l) := by
 rw [bs_tl, bs_tl]; rfl
theorem cast_beq (n m : Nat) : (((n : Int)) == (m : Int)) = (n == m) := by
 rw [Bool.eq_iff_iff, beq_iff_eq, beq_iff_eq]; omega
theorem parsed109 (S : Set Tryz.prog Y Gl) (s : List UInt8) (hG : ∀ w, Gl w → ∃ m, w.cell? ⟨1, 0, none⟩ = some (.int .i64 m)) (hs : s.length ≤ 170) (hR : 3 ≤ (splitL 10 s).length) (hall : (mid s).all rowOK = true) (ht : (bookTo (mid s) (mid s).length).text = s) : Computes Tryz.prog Gl 109 [str s] (.ret (tBook (bookTo (mid s) (mid s).length))) := by
 refine fn_is S (.r (.ret (L eS (splitL (10:UInt8) s))) (.r (.ret (.tup [])) (.loop (List.length (mid s)) (fun k=>v 24 (I ↑k)::v 23 (I (↑(List.length (mid s)):Int))::v 22 (L eS (mid s))::v 4 (ad 4)::v 2 (ad 2)::v 0 (str s)::tk 100 39::tk 101 3::tk 102 3::(bx 2 [C.v (Value.slice none 0 0),C.v (Value.slice none 0 0),C.v (Value.slice none 0 0)] ++ bx 4 [C.lt (100:Nat) eComp (Book.comps (bookTo (mid s) k)),C.lt (101:Nat) eI (Book.dues (bookTo (mid s) k)),C.lt (102:Nat) eI (Book.sheets (bookTo (mid s) k))])) fun k0=>.br (.r (.ret (L eS (splitL (32:UInt8) (nth (mid s) k0)))) (.loop (List.length (tl (nth (mid s) k0))) (fun j=>v 33 (I ↑j)::v 32 (I (↑(List.length (tl (nth (mid s) k0))):Int))::v 31 (L eS (tl (nth (mid s) k0)))::v 8 (Lt 103 eI (nsTo (nth (mid s) k0) j))::tk 103 3::v 7 (L eS (splitL (32:UInt8) (nth (mid s) k0)))::v 6 (str (nth (mid s) k0))::v 24 (I ↑k0)::v 23 (I (↑(List.length (mid s)):Int))::v 22 (L eS (mid s))::v 4 (ad 4)::v 2 (ad 2)::v 0 (str s)::tk 100 39::tk 101 3::tk 102 3::(bx 2 [C.v (Value.slice none 0 0),C.v (Value.slice none 0 0),C.v (Value.slice none 0 0)] ++ bx 4 [C.lt (100:Nat) eComp (Book.comps (bookTo (mid s) k0)),C.lt (101:Nat) eI (Book.dues (bookTo (mid s) k0)),C.lt (102:Nat) eI (Book.sheets (bookTo (mid s) k0))])) fun k1=>.br (.r (.ret (I (numV (nth (tl (nth (mid s) k0)) k1)))) .nil) (.br .nil (.r (.ret (T.d (D.agg [C.v (Value.string (bs lGive)),C.v (Value.string (bs lComputer)),C.v (Value.string (bs lTable)),C.v (Value.string (bs lSheet))]))) (.br .nil (.r (.ret (T.d (D.agg [C.v (Value.string (bs lGive)),C.v (Value.string (bs lComputer)),C.v (Value.string (bs lTable)),C.v (Value.string (bs lSheet))]))) (.br .nil (.r (.ret (.tup [])) .nil)))))))) (.r (.ret (str (Book.text (bookTo (mid s) k0)))) (.r (.ret (.tup [])) .nil))))) Tryz.func109 (by kernel_rfl) (let A0:=fun (k0:Nat)=>(bs (nth (splitL (32:UInt8) (nth (mid s) k0)) (Int.toNat (0:Int))));let A1:=fun (k0:Nat)=>(bookTo (mid s) k0);let A2:=fun (k0:Nat)=>(nth (mid s) k0);let A3:=(List.length (mid s));let A4:=fun (k0 k1:Nat)=>(↑(List.length (nsTo (A2 k0) k1)):Int);let A5:=fun (k0:Nat)=>(List.length (splitL (32:UInt8) (A2 k0)));let A6:=fun (k0:Nat)=>(bookTo (mid s) (k0+1));let A7:=(SEq A3 (fun i=>eS (nth (mid s) i)) A3 fun i=>eS (nth (mid s) i));let A8:=fun (k0:Nat)=>(ByteArray.toList (A0 k0)==ByteArray.toList (bs lTable));let A9:=fun (k0:Nat)=>(ByteArray.toList (A0 k0)==ByteArray.toList (bs lSheet));let A10:=(↑(List.length (splitL (10:UInt8) s)):Int);let A11:=fun (k0:Nat)=>(SEq (List.length (A1 k0).1) (fun i=>eComp (nth (A1 k0).1 i)) (List.length (A6 k0).1) fun i=>eComp (nth (A6 k0).1 i));let A12:=fun (k0:Nat)=>(SEq (List.length (A1 k0).2) (fun i=>eI (nth (A1 k0).2 i)) (List.length (A6 k0).2) fun i=>eI (nth (A6 k0).2 i));let A13:=fun (k0:Nat)=>(fun i=>eI (nth (A1 k0).3 i));let A14:=fun (k0:Nat)=>(List.length (A1 k0).3);let A15:=fun (k0:Nat)=>(List.length (tl (A2 k0)));let A16:=fun (k0 k1:Nat)=>(Value.int IntKind.i64 (nth (nsTo (A2 k0) k1) (Int.toNat (0:Int))));let A17:=fun (k0:Nat)=>(splitL (32:UInt8) (A2 k0));let A18:=(bookTo (mid s) A3);Computes Tryz.prog Gl 133 [str s,str [(10:UInt8)]] (.ret (L eS (splitL (10:UInt8) s)))∧(List.length (splitL (10:UInt8) s)≤maxLen→Computes Tryz.prog Gl 134 [B (decide (3≤(↑(List.length (splitL (10:UInt8) s)):Int))),T.d (D.c (C.v (Value.string (bs s))))] (.ret (.tup []))∧(List.length (splitL (10:UInt8) s)≤maxLen→inRange IntKind.i64 (A10-2)∧((0:Int)≤1∧1≤A10-2∧A10-2≤A10)∧(Int.toNat (A10-2-(1:Int))≤maxLen→(0=(↑(0:Nat):Int)∧(↑(Int.toNat (A10-2-(1:Int))):Int)=(↑A3:Int)∧(SEq (Int.toNat (A10-2-(1:Int))) (fun i=>eS (nth (splitL (10:UInt8) s) (Int.toNat (1:Int)+i))) A3 fun i=>eS (nth (mid s) i))∧bs s=bs s∧Value.slice none 0 0=Value.slice none 0 0∧Value.slice none 0 0=Value.slice none 0 0∧Value.slice none 0 0=Value.slice none 0 0∧(0:Nat)=(0:Nat)∧(0:Nat)=(0:Nat)∧(0:Nat)=(0:Nat))∧∀ (k0:Nat),k0≤List.length (mid s)→(decide ((↑k0:Int)<(↑(List.length (mid s)):Int))=true→(0≤(↑k0:Int)∧(↑k0:Int)<(↑A3:Int))∧Computes Tryz.prog Gl 133 [str (A2 k0),str [(32:UInt8)]] (.ret (L eS (A17 k0)))∧((0:Int)≤1∧1≤(↑(A5 k0):Int)∧(↑(A5 k0):Int)≤(↑(A5 k0):Int))∧(Int.toNat ((↑(A5 k0):Int)-1)≤maxLen→(0=(↑(0:Nat):Int)∧(↑(Int.toNat ((↑(A5 k0):Int)-1)):Int)=(↑(A15 k0):Int)∧(SEq (Int.toNat ((↑(A5 k0):Int)-1)) (fun i=>eS (nth (A17 k0) (Int.toNat (1:Int)+i))) (A15 k0) fun i=>eS (nth (tl (A2 k0)) i))∧(0:Nat)=(0:Nat)∧(SEq (A5 k0) (fun i=>eS (nth (A17 k0) i)) (A5 k0) fun i=>eS (nth (A17 k0) i))∧bs (A2 k0)=bs (A2 k0)∧(↑k0:Int)=(↑k0:Int)∧(↑A3:Int)=(↑A3:Int)∧A7∧bs s=bs s∧Value.slice none 0 0=Value.slice none 0 0∧Value.slice none 0 0=Value.slice none 0 0∧Value.slice none 0 0=Value.slice none 0 0∧(SEq (List.length (A1 k0).1) (fun i=>eComp (nth (A1 k0).1 i)) (List.length (A1 k0).1) fun i=>eComp (nth (A1 k0).1 i))∧(SEq (List.length (A1 k0).2) (fun i=>eI (nth (A1 k0).2 i)) (List.length (A1 k0).2) fun i=>eI (nth (A1 k0).2 i))∧SEq (A14 k0) (A13 k0) (A14 k0) fun i=>eI (nth (A1 k0).3 i))∧∀ (k1:Nat),k1≤List.length (tl (A2 k0))→(decide ((↑k1:Int)<(↑(List.length (tl (nth (mid s) k0))):Int))=true→(0≤(↑k1:Int)∧(↑k1:Int)<(↑(A15 k0):Int))∧Computes Tryz.prog Gl 135 [str (nth (tl (A2 k0)) k1)] (.ret (I (numV (nth (tl (A2 k0)) k1))))∧(List.length (nsTo (A2 k0) k1)+1)*8≤140737488355328∧List.length (nsTo (A2 k0) k1)+1≤140737488355328∧inRange IntKind.i64 ((↑k1:Int)+1)∧k1<List.length (tl (A2 k0))∧(↑k1:Int)+1=(↑(k1+1):Int)∧(↑(A15 k0):Int)=(↑(A15 k0):Int)∧(SEq (A15 k0) (fun i=>eS (nth (tl (A2 k0)) i)) (A15 k0) fun i=>eS (nth (tl (A2 k0)) i))∧(SEq (List.length (nsTo (A2 k0) k1)+1) (catF (List.length (nsTo (A2 k0) k1)) (fun i=>eI (nth (nsTo (A2 k0) k1) i)) fun i=>List.getD [List.map C.dem [C.v (Value.int IntKind.i64 (numV (nth (tl (A2 k0)) k1)))]] i []) (List.length (nsTo (A2 k0) (k1+1))) fun i=>eI (nth (nsTo (A2 k0) (k1+1)) i))∧(SEq (A5 k0) (fun i=>eS (nth (A17 k0) i)) (A5 k0) fun i=>eS (nth (A17 k0) i))∧bs (A2 k0)=bs (A2 k0)∧(↑k0:Int)=(↑k0:Int)∧(↑A3:Int)=(↑A3:Int)∧A7∧bs s=bs s∧Value.slice none 0 0=Value.slice none 0 0∧Value.slice none 0 0=Value.slice none 0 0∧Value.slice none 0 0=Value.slice none 0 0∧(SEq (List.length (A1 k0).1) (fun i=>eComp (nth (A1 k0).1 i)) (List.length (A1 k0).1) fun i=>eComp (nth (A1 k0).1 i))∧(SEq (List.length (A1 k0).2) (fun i=>eI (nth (A1 k0).2 i)) (List.length (A1 k0).2) fun i=>eI (nth (A1 k0).2 i))∧SEq (A14 k0) (A13 k0) (A14 k0) fun i=>eI (nth (A1 k0).3 i))∧(decide ((↑k1:Int)<(↑(List.length (tl (nth (mid s) k0))):Int))=false→List.length (nsTo (A2 k0) k1)≤maxLen→(((A4 k0 k1)==7)=true→((0:Int)≤0∧0<(A4 k0 k1))∧((0:Int)≤1∧1<(A4 k0 k1))∧((0:Int)≤2∧2<(A4 k0 k1))∧((0:Int)≤3∧3<(A4 k0 k1))∧((0:Int)≤4∧4<(A4 k0 k1))∧((0:Int)≤5∧5<(A4 k0 k1))∧((0:Int)≤6∧6<(A4 k0 k1))∧(List.length (A1 k0).1+1)*56≤140737488355328∧List.length (A1 k0).1+1≤140737488355328∧inRange IntKind.i64 ((↑k0:Int)+1)∧k0<List.length (mid s)∧(↑k0:Int)+1=(↑(k0+1):Int)∧(↑A3:Int)=(↑A3:Int)∧A7∧bs s=bs s∧Value.slice none 0 0=Value.slice none 0 0∧Value.slice none 0 0=Value.slice none 0 0∧Value.slice none 0 0=Value.slice none 0 0∧(SEq (List.length (A1 k0).1+1) (catF (List.length (A1 k0).1) (fun i=>eComp (nth (A1 k0).1 i)) fun i=>List.getD [List.map C.dem (List.map C.dem [C.v (A16 k0 k1),C.v (Value.int IntKind.i64 (nth (nsTo (A2 k0) k1) (Int.toNat (1:Int)))),C.v (Value.int IntKind.i64 (nth (nsTo (A2 k0) k1) (Int.toNat (2:Int)))),C.v (Value.int IntKind.i64 (nth (nsTo (A2 k0) k1) (Int.toNat (3:Int)))),C.v (Value.int IntKind.i64 (nth (nsTo (A2 k0) k1) (Int.toNat (4:Int)))),C.v (Value.int IntKind.i64 (nth (nsTo (A2 k0) k1) (Int.toNat (5:Int)))),C.v (Value.int IntKind.i64 (nth (nsTo (A2 k0) k1) (Int.toNat (6:Int))))])] i []) (List.length (A6 k0).1) fun i=>eComp (nth (A6 k0).1 i))∧(A12 k0)∧SEq (A14 k0) (A13 k0) (List.length (A6 k0).3) fun i=>eI (nth (A6 k0).3 i))∧(((A4 k0 k1)==7)=false→((0:Int)≤0∧0<(↑(A5 k0):Int))∧Computes Tryz.prog Gl 136 [] (.ret (T.d (D.agg [C.v (Value.string (bs lGive)),C.v (Value.string (bs lComputer)),C.v (Value.string (bs lTable)),C.v (Value.string (bs lSheet))])))∧((0:Int)≤2∧2<(↑(4:Nat):Int))∧(eqB (A8 k0) true=true→eqB (A8 k0) true=true)∧((eqB (A8 k0) true=true→List.length (nsTo (A2 k0) k1)≤maxLen)→(eqB (A8 k0) true=true→eqB (A8 k0) true=true)∧((A8 k0)=true→eqB (A8 k0) true=true)∧((bif ByteArray.toList (A0 k0)==ByteArray.toList (bs lTable) then (A4 k0 k1)==1 else false)=true→((0:Int)≤0∧0<(A4 k0 k1))∧(List.length (A1 k0).2+1)*8≤140737488355328∧List.length (A1 k0).2+1≤140737488355328∧inRange IntKind.i64 ((↑k0:Int)+1)∧k0<List.length (mid s)∧(↑k0:Int)+1=(↑(k0+1):Int)∧(↑A3:Int)=(↑A3:Int)∧A7∧bs s=bs s∧Value.slice none 0 0=Value.slice none 0 0∧Value.slice none 0 0=Value.slice none 0 0∧Value.slice none 0 0=Value.slice none 0 0∧(A11 k0)∧(SEq (List.length (A1 k0).2+1) (catF (List.length (A1 k0).2) (fun i=>eI (nth (A1 k0).2 i)) fun i=>List.getD [List.map C.dem [C.v (A16 k0 k1)]] i []) (List.length (A6 k0).2) fun i=>eI (nth (A6 k0).2 i))∧SEq (A14 k0) (A13 k0) (List.length (A6 k0).3) fun i=>eI (nth (A6 k0).3 i))∧((bif ByteArray.toList (A0 k0)==ByteArray.toList (bs lTable) then (A4 k0 k1)==1 else false)=false→((0:Int)≤0∧0<(↑(A5 k0):Int))∧Computes Tryz.prog Gl 136 [] (.ret (T.d (D.agg [C.v (Value.string (bs lGive)),C.v (Value.string (bs lComputer)),C.v (Value.string (bs lTable)),C.v (Value.string (bs lSheet))])))∧((0:Int)≤3∧3<(↑(4:Nat):Int))∧(eqB (A9 k0) true=true→eqB (A9 k0) true=true)∧((eqB (A9 k0) true=true→List.length (nsTo (A2 k0) k1)≤maxLen)→(eqB (A9 k0) true=true→eqB (A9 k0) true=true)∧((A9 k0)=true→eqB (A9 k0) true=true)∧((bif ByteArray.toList (A0 k0)==ByteArray.toList (bs lSheet) then (A4 k0 k1)==1 else false)=true→((0:Int)≤0∧0<(A4 k0 k1))∧(List.length (A1 k0).3+1)*8≤140737488355328∧List.length (A1 k0).3+1≤140737488355328∧inRange IntKind.i64 ((↑k0:Int)+1)∧k0<List.length (mid s)∧(↑k0:Int)+1=(↑(k0+1):Int)∧(↑A3:Int)=(↑A3:Int)∧A7∧bs s=bs s∧Value.slice none 0 0=Value.slice none 0 0∧Value.slice none 0 0=Value.slice none 0 0∧Value.slice none 0 0=Value.slice none 0 0∧(A11 k0)∧(A12 k0)∧SEq (List.length (A1 k0).3+1) (catF (A14 k0) (A13 k0) fun i=>List.getD [List.map C.dem [C.v (A16 k0 k1)]] i []) (List.length (A6 k0).3) fun i=>eI (nth (A6 k0).3 i))∧((bif ByteArray.toList (A0 k0)==ByteArray.toList (bs lSheet) then (A4 k0 k1)==1 else false)=false→Computes Tryz.prog Gl 134 [B false,T.d (D.c (C.v (Value.string (bs (A2 k0)))))] (.ret (.tup []))∧inRange IntKind.i64 ((↑k0:Int)+1)∧k0<List.length (mid s)∧(↑k0:Int)+1=(↑(k0+1):Int)∧(↑A3:Int)=(↑A3:Int)∧A7∧bs s=bs s∧Value.slice none 0 0=Value.slice none 0 0∧Value.slice none 0 0=Value.slice none 0 0∧Value.slice none 0 0=Value.slice none 0 0∧(A11 k0)∧(A12 k0)∧SEq (A14 k0) (A13 k0) (List.length (A6 k0).3) fun i=>eI (nth (A6 k0).3 i)))))))))∧(decide ((↑k0:Int)<(↑(List.length (mid s)):Int))=false→Computes Tryz.prog Gl 106 [tBook (A1 k0)] (.ret (str (Book.text (A1 k0))))∧Computes Tryz.prog Gl 134 [B (ByteArray.toList (bs (Book.text (A1 k0)))==ByteArray.toList (bs s)),T.d (D.c (C.v (Value.string (bs s))))] (.ret (.tup []))∧(SEq (List.length (A1 k0).1) (fun i=>eComp (nth (A1 k0).1 i)) (List.length A18.1) fun i=>eComp (nth A18.1 i))∧(SEq (List.length (A1 k0).2) (fun i=>eI (nth (A1 k0).2 i)) (List.length A18.2) fun i=>eI (nth A18.2 i))∧SEq (A14 k0) (A13 k0) (List.length A18.3) fun i=>eI (nth A18.3 i)))))) (by kernel_rfl) ?_
 have hsp := split_pos 10 s
 have hml := mid_len (s := s)
 have hrow : ∀ i, i < (mid s).length → (nth (mid s) i).length ≤ 170 := fun i hi => by have := row_len hi; omega
 simp only [stdS, imp_self, implies_true, and_true]
 refine ⟨split133 hG s 10 (by omega), fun _ => ⟨sureT S _ _ (by simp; omega), fun _ => ⟨(rng_iff _).2 (by omega), ⟨by decide, by omega, by omega⟩, fun _ => ⟨⟨by omega, ⟨by omega, fun i hi => .inl ?_⟩, trivial⟩, fun k0 hk0 => ⟨fun hlt => ?_, fun hlt => ?_⟩⟩⟩⟩⟩
 ·have hi : i < (mid s).length := by omega
  show eS (nth (splitL 10 s) (1 + i)) = eS (nth (mid s) i)
  rw [mid_nth hi]
 ·have hlt : k0 < (mid s).length := by simpa using hlt
  have hr := hrow k0 hlt
  have hok : rowOK (nth (mid s) k0) = true := List.all_eq_true.1 hall _ (nth_mem hlt)
  have hB1 : bookTo (mid s) (k0 + 1) = rowB (bookTo (mid s) k0) (nth (mid s) k0) := rfl
  have hcnt := (bookTo_sm (mid s) k0).2
  generalize nth (mid s) k0 = R0 at *
  have hsr := split_pos 32 R0
  have htl := tl_len (r := R0)
  unfold rowOK at hok
  rw [Bool.and_eq_true] at hok
  refine ⟨⟨by omega, by omega⟩, split133 hG R0 32 (by omega), ⟨by decide, by omega, by omega⟩, fun _ => ⟨⟨by omega, ⟨by omega, fun i hi => .inl ?_⟩, trivial⟩, fun k1 hk1 => ⟨fun h1 => ?_, fun h1 hmx => ?_⟩⟩⟩
  ·have hi : i < (tl R0).length := by omega
   show eS (nth (splitL 32 R0) (1 + i)) = eS (nth (tl R0) i)
   rw [tl_nth hi]
  ·have h1 : k1 < (tl R0).length := by simpa using h1
   have hnl := nsTo_len (r := R0) (j := k1)
   exact ⟨⟨by omega, by omega⟩, number135V S _ (List.all_eq_true.1 hok.1 _ (nth_mem h1)), by omega, by omega, (rng_iff _).2 (by omega), h1, rfl, SEq_push1 (nsTo_succ h1) rfl, trivial⟩
  ·have h1 : k1 = (tl R0).length := by
    have : ¬ k1 < (tl R0).length := by simpa using h1
    omega
   subst h1
   have hns : nsTo R0 (tl R0).length = ns R0 := rfl
   rw [hns] at hmx ⊢
   have hsh := hok.2
   unfold rowShape at hsh
   simp only [hd_eq]
   have c7 : (((ns R0).length : Int) == 7) = ((ns R0).length == 7) := cast_beq _ 7
   have c1 : (((ns R0).length : Int) == 1) = ((ns R0).length == 1) := cast_beq _ 1
   rw [c7, c1]
   refine ⟨fun h7 => ?_, fun h7 => ⟨⟨by decide, by omega⟩, words136 S, ⟨by decide, by decide⟩, fun _ => ⟨fun ht => ?_, fun ht => ⟨⟨by decide, by omega⟩, words136 S, ⟨by decide, by decide⟩, fun _ => ⟨fun hs => ?_, fun hs => ?_⟩⟩⟩⟩⟩
   ·rw [rowB_c h7] at hB1
    have h7' : (ns R0).length = 7 := by simpa using h7
    exact ⟨⟨by omega, by omega⟩, ⟨by omega, by omega⟩, ⟨by omega, by omega⟩, ⟨by omega, by omega⟩, ⟨by omega, by omega⟩, ⟨by omega, by omega⟩, ⟨by omega, by omega⟩, by omega, by omega, (rng_iff _).2 (by omega), hlt, rfl, SEq_push1 (by rw [hB1]) rfl, SEq_whole (by rw [hB1]), SEq_whole (by rw [hB1])⟩
   ·rw [Bool.and_eq_true] at ht
    have h1' : (ns R0).length = 1 := by simpa using ht.2
    rw [rowB_d h7 ht.1] at hB1
    exact ⟨⟨by omega, by omega⟩, by omega, by omega, (rng_iff _).2 (by omega), hlt, rfl, SEq_whole (by rw [hB1]), SEq_push1 (x := nth (ns R0) 0) (by rw [hB1]) rfl, SEq_whole (by rw [hB1])⟩
   ·rw [Bool.and_eq_true] at hs
    have h1' : (ns R0).length = 1 := by simpa using hs.2
    have hnt : (hd R0 == lTable) = false := by
     rw [hs.2, Bool.and_true] at ht; exact ht
    rw [rowB_s h7 hnt] at hB1
    exact ⟨⟨by omega, by omega⟩, by omega, by omega, (rng_iff _).2 (by omega), hlt, rfl, SEq_whole (by rw [hB1]), SEq_whole (by rw [hB1]), SEq_push1 (x := nth (ns R0) 0) (by rw [hB1]) rfl⟩
   ·rw [h7, ht, hs] at hsh; cases hsh
 ·have hk : k0 = (mid s).length := by
   have : ¬ k0 < (mid s).length := by simpa using hlt
   omega
  subst hk
  obtain ⟨hsm, hcnt⟩ := bookTo_sm (mid s) (mid s).length
  refine ⟨text106 S _ (hsm.low (by omega)), sureT S _ _ ?_, SEq_whole rfl, SEq_whole rfl, SEq_whole rfl⟩
  rw [bs_tl, bs_tl, ht]
  exact beq_self_eq_true s
end Go.Vc.Gd
namespace Go.Vc.Gd
open Go Go.Proofs Go.Vc
variable {Gl : World → Prop}
theorem parsed109s (S : Set Tryz.prog Y Gl) (s : List UInt8) (hG : ∀ w, Gl w → ∃ m, w.cell? ⟨1, 0, none⟩ = some (.int .i64 m)) (hs : s.length ≤ 170) (hR : (splitL 10 s).length < 3) : Computes Tryz.prog Gl 109 [str s] (.pan (.iface 183 (.agg #[.string (bs s)]))) := by
 refine fn_is S (.r (.ret (L eS (splitL (10:UInt8) s))) (.r (Res.pan (Value.iface (183:TypeId) (Value.agg #[Value.string (bs s)]))) .nil)) Tryz.func109 (by kernel_rfl) (Computes Tryz.prog Gl 133 [str s,str [(10:UInt8)]] (.ret (L eS (splitL (10:UInt8) s)))∧(List.length (splitL (10:UInt8) s)≤maxLen→Computes Tryz.prog Gl 134 [B (decide (3≤(↑(List.length (splitL (10:UInt8) s)):Int))),T.d (D.c (C.v (Value.string (bs s))))] (Res.pan (Value.iface (183:TypeId) (Value.agg #[Value.string (bs s)])))∧Value.iface (183:Nat) (Value.agg {toList:=[Value.string (bs s)]})=Value.iface (183:Nat) (Value.agg {toList:=[Value.string (bs s)]}))) (by kernel_rfl) ?_
 simp only [stdS, imp_self, implies_true, and_true]
 refine ⟨split133 hG s 10 (by omega), fun _ => ⟨sureF S _ _ (by simp; omega), trivial⟩⟩
theorem parsed109t (S : Set Tryz.prog Y Gl) (s : List UInt8) (hG : ∀ w, Gl w → ∃ m, w.cell? ⟨1, 0, none⟩ = some (.int .i64 m)) (hs : s.length ≤ 170) (hR : 3 ≤ (splitL 10 s).length) (hall : (mid s).all rowOK = true) (ht : (bookTo (mid s) (mid s).length).text ≠ s) : Computes Tryz.prog Gl 109 [str s] (.pan (.iface 183 (.agg #[.string (bs s)]))) := by
 refine fn_is S (.r (.ret (L eS (splitL (10:UInt8) s))) (.r (.ret (.tup [])) (.loop (List.length (mid s)) (fun k=>v 24 (I ↑k)::v 23 (I (↑(List.length (mid s)):Int))::v 22 (L eS (mid s))::v 4 (ad 4)::v 2 (ad 2)::v 0 (str s)::tk 100 39::tk 101 3::tk 102 3::(bx 2 [C.v (Value.slice none 0 0),C.v (Value.slice none 0 0),C.v (Value.slice none 0 0)] ++ bx 4 [C.lt (100:Nat) eComp (Book.comps (bookTo (mid s) k)),C.lt (101:Nat) eI (Book.dues (bookTo (mid s) k)),C.lt (102:Nat) eI (Book.sheets (bookTo (mid s) k))])) fun k0=>.br (.r (.ret (L eS (splitL (32:UInt8) (nth (mid s) k0)))) (.loop (List.length (tl (nth (mid s) k0))) (fun j=>v 33 (I ↑j)::v 32 (I (↑(List.length (tl (nth (mid s) k0))):Int))::v 31 (L eS (tl (nth (mid s) k0)))::v 8 (Lt 103 eI (nsTo (nth (mid s) k0) j))::tk 103 3::v 7 (L eS (splitL (32:UInt8) (nth (mid s) k0)))::v 6 (str (nth (mid s) k0))::v 24 (I ↑k0)::v 23 (I (↑(List.length (mid s)):Int))::v 22 (L eS (mid s))::v 4 (ad 4)::v 2 (ad 2)::v 0 (str s)::tk 100 39::tk 101 3::tk 102 3::(bx 2 [C.v (Value.slice none 0 0),C.v (Value.slice none 0 0),C.v (Value.slice none 0 0)] ++ bx 4 [C.lt (100:Nat) eComp (Book.comps (bookTo (mid s) k0)),C.lt (101:Nat) eI (Book.dues (bookTo (mid s) k0)),C.lt (102:Nat) eI (Book.sheets (bookTo (mid s) k0))])) fun k1=>.br (.r (.ret (I (numV (nth (tl (nth (mid s) k0)) k1)))) .nil) (.br .nil (.r (.ret (T.d (D.agg [C.v (Value.string (bs lGive)),C.v (Value.string (bs lComputer)),C.v (Value.string (bs lTable)),C.v (Value.string (bs lSheet))]))) (.br .nil (.r (.ret (T.d (D.agg [C.v (Value.string (bs lGive)),C.v (Value.string (bs lComputer)),C.v (Value.string (bs lTable)),C.v (Value.string (bs lSheet))]))) (.br .nil (.r (.ret (.tup [])) .nil)))))))) (.r (.ret (str (Book.text (bookTo (mid s) k0)))) (.r (Res.pan (Value.iface (183:TypeId) (Value.agg #[Value.string (bs s)]))) .nil))))) Tryz.func109 (by kernel_rfl) (let A0:=fun (k0:Nat)=>(bs (nth (splitL (32:UInt8) (nth (mid s) k0)) (Int.toNat (0:Int))));let A1:=fun (k0:Nat)=>(bookTo (mid s) k0);let A2:=fun (k0:Nat)=>(nth (mid s) k0);let A3:=(SEq (List.length (mid s)) (fun i=>eS (nth (mid s) i)) (List.length (mid s)) fun i=>eS (nth (mid s) i));let A4:=fun (k0 k1:Nat)=>(↑(List.length (nsTo (A2 k0) k1)):Int);let A5:=fun (k0:Nat)=>(List.length (splitL (32:UInt8) (A2 k0)));let A6:=(↑(List.length (mid s)):Int);let A7:=fun (k0:Nat)=>(bookTo (mid s) (k0+1));let A8:=fun (k0:Nat)=>(ByteArray.toList (A0 k0)==ByteArray.toList (bs lTable));let A9:=fun (k0:Nat)=>(ByteArray.toList (A0 k0)==ByteArray.toList (bs lSheet));let A10:=(↑(List.length (splitL (10:UInt8) s)):Int);let A11:=fun (k0:Nat)=>(SEq (List.length (A1 k0).1) (fun i=>eComp (nth (A1 k0).1 i)) (List.length (A7 k0).1) fun i=>eComp (nth (A7 k0).1 i));let A12:=fun (k0:Nat)=>(SEq (List.length (A1 k0).2) (fun i=>eI (nth (A1 k0).2 i)) (List.length (A7 k0).2) fun i=>eI (nth (A7 k0).2 i));let A13:=fun (k0:Nat)=>(List.length (tl (A2 k0)));let A14:=fun (k0:Nat)=>(List.length (A1 k0).3);let A15:=fun (k0:Nat)=>(fun i=>eI (nth (A1 k0).3 i));let A16:=fun (k0 k1:Nat)=>(Value.int IntKind.i64 (nth (nsTo (A2 k0) k1) (Int.toNat (0:Int))));let A17:=fun (k0:Nat)=>(splitL (32:UInt8) (A2 k0));Computes Tryz.prog Gl 133 [str s,str [(10:UInt8)]] (.ret (L eS (splitL (10:UInt8) s)))∧(List.length (splitL (10:UInt8) s)≤maxLen→Computes Tryz.prog Gl 134 [B (decide (3≤(↑(List.length (splitL (10:UInt8) s)):Int))),T.d (D.c (C.v (Value.string (bs s))))] (.ret (.tup []))∧(List.length (splitL (10:UInt8) s)≤maxLen→inRange IntKind.i64 (A10-2)∧((0:Int)≤1∧1≤A10-2∧A10-2≤A10)∧(Int.toNat (A10-2-(1:Int))≤maxLen→(0=(↑(0:Nat):Int)∧(↑(Int.toNat (A10-2-(1:Int))):Int)=A6∧(SEq (Int.toNat (A10-2-(1:Int))) (fun i=>eS (nth (splitL (10:UInt8) s) (Int.toNat (1:Int)+i))) (List.length (mid s)) fun i=>eS (nth (mid s) i))∧bs s=bs s∧Value.slice none 0 0=Value.slice none 0 0∧Value.slice none 0 0=Value.slice none 0 0∧Value.slice none 0 0=Value.slice none 0 0∧(0:Nat)=(0:Nat)∧(0:Nat)=(0:Nat)∧(0:Nat)=(0:Nat))∧∀ (k0:Nat),k0≤List.length (mid s)→(decide ((↑k0:Int)<(↑(List.length (mid s)):Int))=true→(0≤(↑k0:Int)∧(↑k0:Int)<A6)∧Computes Tryz.prog Gl 133 [str (A2 k0),str [(32:UInt8)]] (.ret (L eS (A17 k0)))∧((0:Int)≤1∧1≤(↑(A5 k0):Int)∧(↑(A5 k0):Int)≤(↑(A5 k0):Int))∧(Int.toNat ((↑(A5 k0):Int)-1)≤maxLen→(0=(↑(0:Nat):Int)∧(↑(Int.toNat ((↑(A5 k0):Int)-1)):Int)=(↑(A13 k0):Int)∧(SEq (Int.toNat ((↑(A5 k0):Int)-1)) (fun i=>eS (nth (A17 k0) (Int.toNat (1:Int)+i))) (A13 k0) fun i=>eS (nth (tl (A2 k0)) i))∧(0:Nat)=(0:Nat)∧(SEq (A5 k0) (fun i=>eS (nth (A17 k0) i)) (A5 k0) fun i=>eS (nth (A17 k0) i))∧bs (A2 k0)=bs (A2 k0)∧(↑k0:Int)=(↑k0:Int)∧A6=A6∧A3∧bs s=bs s∧Value.slice none 0 0=Value.slice none 0 0∧Value.slice none 0 0=Value.slice none 0 0∧Value.slice none 0 0=Value.slice none 0 0∧(SEq (List.length (A1 k0).1) (fun i=>eComp (nth (A1 k0).1 i)) (List.length (A1 k0).1) fun i=>eComp (nth (A1 k0).1 i))∧(SEq (List.length (A1 k0).2) (fun i=>eI (nth (A1 k0).2 i)) (List.length (A1 k0).2) fun i=>eI (nth (A1 k0).2 i))∧SEq (A14 k0) (A15 k0) (A14 k0) fun i=>eI (nth (A1 k0).3 i))∧∀ (k1:Nat),k1≤List.length (tl (A2 k0))→(decide ((↑k1:Int)<(↑(List.length (tl (nth (mid s) k0))):Int))=true→(0≤(↑k1:Int)∧(↑k1:Int)<(↑(A13 k0):Int))∧Computes Tryz.prog Gl 135 [str (nth (tl (A2 k0)) k1)] (.ret (I (numV (nth (tl (A2 k0)) k1))))∧(List.length (nsTo (A2 k0) k1)+1)*8≤140737488355328∧List.length (nsTo (A2 k0) k1)+1≤140737488355328∧inRange IntKind.i64 ((↑k1:Int)+1)∧k1<List.length (tl (A2 k0))∧(↑k1:Int)+1=(↑(k1+1):Int)∧(↑(A13 k0):Int)=(↑(A13 k0):Int)∧(SEq (A13 k0) (fun i=>eS (nth (tl (A2 k0)) i)) (A13 k0) fun i=>eS (nth (tl (A2 k0)) i))∧(SEq (List.length (nsTo (A2 k0) k1)+1) (catF (List.length (nsTo (A2 k0) k1)) (fun i=>eI (nth (nsTo (A2 k0) k1) i)) fun i=>List.getD [List.map C.dem [C.v (Value.int IntKind.i64 (numV (nth (tl (A2 k0)) k1)))]] i []) (List.length (nsTo (A2 k0) (k1+1))) fun i=>eI (nth (nsTo (A2 k0) (k1+1)) i))∧(SEq (A5 k0) (fun i=>eS (nth (A17 k0) i)) (A5 k0) fun i=>eS (nth (A17 k0) i))∧bs (A2 k0)=bs (A2 k0)∧(↑k0:Int)=(↑k0:Int)∧A6=A6∧A3∧bs s=bs s∧Value.slice none 0 0=Value.slice none 0 0∧Value.slice none 0 0=Value.slice none 0 0∧Value.slice none 0 0=Value.slice none 0 0∧(SEq (List.length (A1 k0).1) (fun i=>eComp (nth (A1 k0).1 i)) (List.length (A1 k0).1) fun i=>eComp (nth (A1 k0).1 i))∧(SEq (List.length (A1 k0).2) (fun i=>eI (nth (A1 k0).2 i)) (List.length (A1 k0).2) fun i=>eI (nth (A1 k0).2 i))∧SEq (A14 k0) (A15 k0) (A14 k0) fun i=>eI (nth (A1 k0).3 i))∧(decide ((↑k1:Int)<(↑(List.length (tl (nth (mid s) k0))):Int))=false→List.length (nsTo (A2 k0) k1)≤maxLen→(((A4 k0 k1)==7)=true→((0:Int)≤0∧0<(A4 k0 k1))∧((0:Int)≤1∧1<(A4 k0 k1))∧((0:Int)≤2∧2<(A4 k0 k1))∧((0:Int)≤3∧3<(A4 k0 k1))∧((0:Int)≤4∧4<(A4 k0 k1))∧((0:Int)≤5∧5<(A4 k0 k1))∧((0:Int)≤6∧6<(A4 k0 k1))∧(List.length (A1 k0).1+1)*56≤140737488355328∧List.length (A1 k0).1+1≤140737488355328∧inRange IntKind.i64 ((↑k0:Int)+1)∧k0<List.length (mid s)∧(↑k0:Int)+1=(↑(k0+1):Int)∧A6=A6∧A3∧bs s=bs s∧Value.slice none 0 0=Value.slice none 0 0∧Value.slice none 0 0=Value.slice none 0 0∧Value.slice none 0 0=Value.slice none 0 0∧(SEq (List.length (A1 k0).1+1) (catF (List.length (A1 k0).1) (fun i=>eComp (nth (A1 k0).1 i)) fun i=>List.getD [List.map C.dem (List.map C.dem [C.v (A16 k0 k1),C.v (Value.int IntKind.i64 (nth (nsTo (A2 k0) k1) (Int.toNat (1:Int)))),C.v (Value.int IntKind.i64 (nth (nsTo (A2 k0) k1) (Int.toNat (2:Int)))),C.v (Value.int IntKind.i64 (nth (nsTo (A2 k0) k1) (Int.toNat (3:Int)))),C.v (Value.int IntKind.i64 (nth (nsTo (A2 k0) k1) (Int.toNat (4:Int)))),C.v (Value.int IntKind.i64 (nth (nsTo (A2 k0) k1) (Int.toNat (5:Int)))),C.v (Value.int IntKind.i64 (nth (nsTo (A2 k0) k1) (Int.toNat (6:Int))))])] i []) (List.length (A7 k0).1) fun i=>eComp (nth (A7 k0).1 i))∧(A12 k0)∧SEq (A14 k0) (A15 k0) (List.length (A7 k0).3) fun i=>eI (nth (A7 k0).3 i))∧(((A4 k0 k1)==7)=false→((0:Int)≤0∧0<(↑(A5 k0):Int))∧Computes Tryz.prog Gl 136 [] (.ret (T.d (D.agg [C.v (Value.string (bs lGive)),C.v (Value.string (bs lComputer)),C.v (Value.string (bs lTable)),C.v (Value.string (bs lSheet))])))∧((0:Int)≤2∧2<(↑(4:Nat):Int))∧(eqB (A8 k0) true=true→eqB (A8 k0) true=true)∧((eqB (A8 k0) true=true→List.length (nsTo (A2 k0) k1)≤maxLen)→(eqB (A8 k0) true=true→eqB (A8 k0) true=true)∧((A8 k0)=true→eqB (A8 k0) true=true)∧((bif ByteArray.toList (A0 k0)==ByteArray.toList (bs lTable) then (A4 k0 k1)==1 else false)=true→((0:Int)≤0∧0<(A4 k0 k1))∧(List.length (A1 k0).2+1)*8≤140737488355328∧List.length (A1 k0).2+1≤140737488355328∧inRange IntKind.i64 ((↑k0:Int)+1)∧k0<List.length (mid s)∧(↑k0:Int)+1=(↑(k0+1):Int)∧A6=A6∧A3∧bs s=bs s∧Value.slice none 0 0=Value.slice none 0 0∧Value.slice none 0 0=Value.slice none 0 0∧Value.slice none 0 0=Value.slice none 0 0∧(A11 k0)∧(SEq (List.length (A1 k0).2+1) (catF (List.length (A1 k0).2) (fun i=>eI (nth (A1 k0).2 i)) fun i=>List.getD [List.map C.dem [C.v (A16 k0 k1)]] i []) (List.length (A7 k0).2) fun i=>eI (nth (A7 k0).2 i))∧SEq (A14 k0) (A15 k0) (List.length (A7 k0).3) fun i=>eI (nth (A7 k0).3 i))∧((bif ByteArray.toList (A0 k0)==ByteArray.toList (bs lTable) then (A4 k0 k1)==1 else false)=false→((0:Int)≤0∧0<(↑(A5 k0):Int))∧Computes Tryz.prog Gl 136 [] (.ret (T.d (D.agg [C.v (Value.string (bs lGive)),C.v (Value.string (bs lComputer)),C.v (Value.string (bs lTable)),C.v (Value.string (bs lSheet))])))∧((0:Int)≤3∧3<(↑(4:Nat):Int))∧(eqB (A9 k0) true=true→eqB (A9 k0) true=true)∧((eqB (A9 k0) true=true→List.length (nsTo (A2 k0) k1)≤maxLen)→(eqB (A9 k0) true=true→eqB (A9 k0) true=true)∧((A9 k0)=true→eqB (A9 k0) true=true)∧((bif ByteArray.toList (A0 k0)==ByteArray.toList (bs lSheet) then (A4 k0 k1)==1 else false)=true→((0:Int)≤0∧0<(A4 k0 k1))∧(List.length (A1 k0).3+1)*8≤140737488355328∧List.length (A1 k0).3+1≤140737488355328∧inRange IntKind.i64 ((↑k0:Int)+1)∧k0<List.length (mid s)∧(↑k0:Int)+1=(↑(k0+1):Int)∧A6=A6∧A3∧bs s=bs s∧Value.slice none 0 0=Value.slice none 0 0∧Value.slice none 0 0=Value.slice none 0 0∧Value.slice none 0 0=Value.slice none 0 0∧(A11 k0)∧(A12 k0)∧SEq (List.length (A1 k0).3+1) (catF (A14 k0) (A15 k0) fun i=>List.getD [List.map C.dem [C.v (A16 k0 k1)]] i []) (List.length (A7 k0).3) fun i=>eI (nth (A7 k0).3 i))∧((bif ByteArray.toList (A0 k0)==ByteArray.toList (bs lSheet) then (A4 k0 k1)==1 else false)=false→Computes Tryz.prog Gl 134 [B false,T.d (D.c (C.v (Value.string (bs (A2 k0)))))] (.ret (.tup []))∧inRange IntKind.i64 ((↑k0:Int)+1)∧k0<List.length (mid s)∧(↑k0:Int)+1=(↑(k0+1):Int)∧A6=A6∧A3∧bs s=bs s∧Value.slice none 0 0=Value.slice none 0 0∧Value.slice none 0 0=Value.slice none 0 0∧Value.slice none 0 0=Value.slice none 0 0∧(A11 k0)∧(A12 k0)∧SEq (A14 k0) (A15 k0) (List.length (A7 k0).3) fun i=>eI (nth (A7 k0).3 i)))))))))∧(decide ((↑k0:Int)<(↑(List.length (mid s)):Int))=false→Computes Tryz.prog Gl 106 [tBook (A1 k0)] (.ret (str (Book.text (A1 k0))))∧Computes Tryz.prog Gl 134 [B (ByteArray.toList (bs (Book.text (A1 k0)))==ByteArray.toList (bs s)),T.d (D.c (C.v (Value.string (bs s))))] (Res.pan (Value.iface (183:TypeId) (Value.agg #[Value.string (bs s)])))∧Value.iface (183:Nat) (Value.agg {toList:=[Value.string (bs s)]})=Value.iface (183:Nat) (Value.agg {toList:=[Value.string (bs s)]})))))) (by kernel_rfl) ?_
 have hsp := split_pos 10 s
 have hml := mid_len (s := s)
 have hrow : ∀ i, i < (mid s).length → (nth (mid s) i).length ≤ 170 := fun i hi => by have := row_len hi; omega
 simp only [stdS, imp_self, implies_true, and_true]
 refine ⟨split133 hG s 10 (by omega), fun _ => ⟨sureT S _ _ (by simp; omega), fun _ => ⟨(rng_iff _).2 (by omega), ⟨by decide, by omega, by omega⟩, fun _ => ⟨⟨by omega, ⟨by omega, fun i hi => .inl ?_⟩, trivial⟩, fun k0 hk0 => ⟨fun hlt => ?_, fun hlt => ?_⟩⟩⟩⟩⟩
 ·have hi : i < (mid s).length := by omega
  show eS (nth (splitL 10 s) (1 + i)) = eS (nth (mid s) i)
  rw [mid_nth hi]
 ·have hlt : k0 < (mid s).length := by simpa using hlt
  have hr := hrow k0 hlt
  have hok : rowOK (nth (mid s) k0) = true := List.all_eq_true.1 hall _ (nth_mem hlt)
  have hB1 : bookTo (mid s) (k0 + 1) = rowB (bookTo (mid s) k0) (nth (mid s) k0) := rfl
  have hcnt := (bookTo_sm (mid s) k0).2
  generalize nth (mid s) k0 = R0 at *
  have hsr := split_pos 32 R0
  have htl := tl_len (r := R0)
  unfold rowOK at hok
  rw [Bool.and_eq_true] at hok
  refine ⟨⟨by omega, by omega⟩, split133 hG R0 32 (by omega), ⟨by decide, by omega, by omega⟩, fun _ => ⟨⟨by omega, ⟨by omega, fun i hi => .inl ?_⟩, trivial⟩, fun k1 hk1 => ⟨fun h1 => ?_, fun h1 hmx => ?_⟩⟩⟩
  ·have hi : i < (tl R0).length := by omega
   show eS (nth (splitL 32 R0) (1 + i)) = eS (nth (tl R0) i)
   rw [tl_nth hi]
  ·have h1 : k1 < (tl R0).length := by simpa using h1
   have hnl := nsTo_len (r := R0) (j := k1)
   exact ⟨⟨by omega, by omega⟩, number135V S _ (List.all_eq_true.1 hok.1 _ (nth_mem h1)), by omega, by omega, (rng_iff _).2 (by omega), h1, rfl, SEq_push1 (nsTo_succ h1) rfl, trivial⟩
  ·have h1 : k1 = (tl R0).length := by
    have : ¬ k1 < (tl R0).length := by simpa using h1
    omega
   subst h1
   have hns : nsTo R0 (tl R0).length = ns R0 := rfl
   rw [hns] at hmx ⊢
   have hsh := hok.2
   unfold rowShape at hsh
   simp only [hd_eq]
   have c7 : (((ns R0).length : Int) == 7) = ((ns R0).length == 7) := cast_beq _ 7
   have c1 : (((ns R0).length : Int) == 1) = ((ns R0).length == 1) := cast_beq _ 1
   rw [c7, c1]
   refine ⟨fun h7 => ?_, fun h7 => ⟨⟨by decide, by omega⟩, words136 S, ⟨by decide, by decide⟩, fun _ => ⟨fun ht => ?_, fun ht => ⟨⟨by decide, by omega⟩, words136 S, ⟨by decide, by decide⟩, fun _ => ⟨fun hs => ?_, fun hs => ?_⟩⟩⟩⟩⟩
   ·rw [rowB_c h7] at hB1
    have h7' : (ns R0).length = 7 := by simpa using h7
    exact ⟨⟨by omega, by omega⟩, ⟨by omega, by omega⟩, ⟨by omega, by omega⟩, ⟨by omega, by omega⟩, ⟨by omega, by omega⟩, ⟨by omega, by omega⟩, ⟨by omega, by omega⟩, by omega, by omega, (rng_iff _).2 (by omega), hlt, rfl, SEq_push1 (by rw [hB1]) rfl, SEq_whole (by rw [hB1]), SEq_whole (by rw [hB1])⟩
   ·rw [Bool.and_eq_true] at ht
    have h1' : (ns R0).length = 1 := by simpa using ht.2
    rw [rowB_d h7 ht.1] at hB1
    exact ⟨⟨by omega, by omega⟩, by omega, by omega, (rng_iff _).2 (by omega), hlt, rfl, SEq_whole (by rw [hB1]), SEq_push1 (x := nth (ns R0) 0) (by rw [hB1]) rfl, SEq_whole (by rw [hB1])⟩
   ·rw [Bool.and_eq_true] at hs
    have h1' : (ns R0).length = 1 := by simpa using hs.2
    have hnt : (hd R0 == lTable) = false := by
     rw [hs.2, Bool.and_true] at ht; exact ht
    rw [rowB_s h7 hnt] at hB1
    exact ⟨⟨by omega, by omega⟩, by omega, by omega, (rng_iff _).2 (by omega), hlt, rfl, SEq_whole (by rw [hB1]), SEq_whole (by rw [hB1]), SEq_push1 (x := nth (ns R0) 0) (by rw [hB1]) rfl⟩
   ·rw [h7, ht, hs] at hsh; cases hsh
 ·have hk : k0 = (mid s).length := by
   have : ¬ k0 < (mid s).length := by simpa using hlt
   omega
  subst hk
  obtain ⟨hsm, hcnt⟩ := bookTo_sm (mid s) (mid s).length
  refine ⟨text106 S _ (hsm.low (by omega)), sureF S _ _ ?_, trivial⟩
  rw [bs_tl, bs_tl]
  exact beq_eq_false_iff_ne.2 ht
end Go.Vc.Gd
namespace Go.Vc.Gd
open Go Go.Proofs Go.Vc
variable {Gl : World → Prop}
def badN (s : List UInt8) : Nat := upto rowOK (mid s)
def goodN (r : List UInt8) : Nat := upto isNum (tl r)
def badOf (r : List UInt8) : List UInt8 := bif (tl r).all isNum then r else nth (tl r) (goodN r)
theorem parsed109r (S : Set Tryz.prog Y Gl) (s : List UInt8) (hG : ∀ w, Gl w → ∃ m, w.cell? ⟨1, 0, none⟩ = some (.int .i64 m)) (hs : s.length ≤ 170) (hR : 3 ≤ (splitL 10 s).length) (hall : (mid s).all rowOK = false) : Computes Tryz.prog Gl 109 [str s] (.pan (.iface 183 (.agg #[.string (bs (badOf (nth (mid s) (badN s))))]))) := by
 refine fn_is S (.r (.ret (L eS (splitL (10:UInt8) s))) (.r (.ret (.tup [])) (.loop (badN s) (fun k=>v 24 (I ↑k)::v 23 (I (↑(List.length (mid s)):Int))::v 22 (L eS (mid s))::v 4 (ad 4)::v 2 (ad 2)::v 0 (str s)::tk 100 39::tk 101 3::tk 102 3::(bx 2 [C.v (Value.slice none 0 0),C.v (Value.slice none 0 0),C.v (Value.slice none 0 0)] ++ bx 4 [C.lt (100:Nat) eComp (Book.comps (bookTo (mid s) k)),C.lt (101:Nat) eI (Book.dues (bookTo (mid s) k)),C.lt (102:Nat) eI (Book.sheets (bookTo (mid s) k))])) fun k0=>.ite (decide (k0<badN s)) (.br (.r (.ret (L eS (splitL (32:UInt8) (nth (mid s) k0)))) (.loop (goodN (nth (mid s) k0)) (fun j=>v 33 (I ↑j)::v 32 (I (↑(List.length (tl (nth (mid s) k0))):Int))::v 31 (L eS (tl (nth (mid s) k0)))::v 8 (Lt 103 eI (nsTo (nth (mid s) k0) j))::tk 103 3::v 7 (L eS (splitL (32:UInt8) (nth (mid s) k0)))::v 6 (str (nth (mid s) k0))::v 24 (I ↑k0)::v 23 (I (↑(List.length (mid s)):Int))::v 22 (L eS (mid s))::v 4 (ad 4)::v 2 (ad 2)::v 0 (str s)::tk 100 39::tk 101 3::tk 102 3::(bx 2 [C.v (Value.slice none 0 0),C.v (Value.slice none 0 0),C.v (Value.slice none 0 0)] ++ bx 4 [C.lt (100:Nat) eComp (Book.comps (bookTo (mid s) k0)),C.lt (101:Nat) eI (Book.dues (bookTo (mid s) k0)),C.lt (102:Nat) eI (Book.sheets (bookTo (mid s) k0))])) fun k1=>.ite (decide (k1<goodN (nth (mid s) k0))) (.br (.r (.ret (I (numV (nth (tl (nth (mid s) k0)) k1)))) .nil) (.br .nil (.r (.ret (T.d (D.agg [C.v (Value.string (bs lGive)),C.v (Value.string (bs lComputer)),C.v (Value.string (bs lTable)),C.v (Value.string (bs lSheet))]))) (.br .nil (.r (.ret (T.d (D.agg [C.v (Value.string (bs lGive)),C.v (Value.string (bs lComputer)),C.v (Value.string (bs lTable)),C.v (Value.string (bs lSheet))]))) (.br .nil (.r (.ret (.tup [])) .nil))))))) (.br (.r (Res.pan (Value.iface (183:TypeId) (Value.agg #[Value.string (bs (nth (tl (nth (mid s) k0)) k1))]))) .nil) (.br .nil (.r (.ret (T.d (D.agg [C.v (Value.string (bs lGive)),C.v (Value.string (bs lComputer)),C.v (Value.string (bs lTable)),C.v (Value.string (bs lSheet))]))) (.br .nil (.r (.ret (T.d (D.agg [C.v (Value.string (bs lGive)),C.v (Value.string (bs lComputer)),C.v (Value.string (bs lTable)),C.v (Value.string (bs lSheet))]))) (.br .nil (.r (.ret (.tup [])) .nil))))))))) (.r (.ret (str (Book.text (bookTo (mid s) k0)))) (.r (.ret (.tup [])) .nil))) (.br (.r (.ret (L eS (splitL (32:UInt8) (nth (mid s) k0)))) (.loop (goodN (nth (mid s) k0)) (fun j=>v 33 (I ↑j)::v 32 (I (↑(List.length (tl (nth (mid s) k0))):Int))::v 31 (L eS (tl (nth (mid s) k0)))::v 8 (Lt 103 eI (nsTo (nth (mid s) k0) j))::tk 103 3::v 7 (L eS (splitL (32:UInt8) (nth (mid s) k0)))::v 6 (str (nth (mid s) k0))::v 24 (I ↑k0)::v 23 (I (↑(List.length (mid s)):Int))::v 22 (L eS (mid s))::v 4 (ad 4)::v 2 (ad 2)::v 0 (str s)::tk 100 39::tk 101 3::tk 102 3::(bx 2 [C.v (Value.slice none 0 0),C.v (Value.slice none 0 0),C.v (Value.slice none 0 0)] ++ bx 4 [C.lt (100:Nat) eComp (Book.comps (bookTo (mid s) k0)),C.lt (101:Nat) eI (Book.dues (bookTo (mid s) k0)),C.lt (102:Nat) eI (Book.sheets (bookTo (mid s) k0))])) fun k1=>.ite (decide (k1<goodN (nth (mid s) k0))) (.br (.r (.ret (I (numV (nth (tl (nth (mid s) k0)) k1)))) .nil) (.br .nil (.r (.ret (T.d (D.agg [C.v (Value.string (bs lGive)),C.v (Value.string (bs lComputer)),C.v (Value.string (bs lTable)),C.v (Value.string (bs lSheet))]))) (.br .nil (.r (.ret (T.d (D.agg [C.v (Value.string (bs lGive)),C.v (Value.string (bs lComputer)),C.v (Value.string (bs lTable)),C.v (Value.string (bs lSheet))]))) (.br .nil (.r (Res.pan (Value.iface (183:TypeId) (Value.agg #[Value.string (bs (nth (mid s) k0))]))) .nil))))))) (.br (.r (Res.pan (Value.iface (183:TypeId) (Value.agg #[Value.string (bs (nth (tl (nth (mid s) k0)) k1))]))) .nil) (.br .nil (.r (.ret (T.d (D.agg [C.v (Value.string (bs lGive)),C.v (Value.string (bs lComputer)),C.v (Value.string (bs lTable)),C.v (Value.string (bs lSheet))]))) (.br .nil (.r (.ret (T.d (D.agg [C.v (Value.string (bs lGive)),C.v (Value.string (bs lComputer)),C.v (Value.string (bs lTable)),C.v (Value.string (bs lSheet))]))) (.br .nil (.r (Res.pan (Value.iface (183:TypeId) (Value.agg #[Value.string (bs (nth (mid s) k0))]))) .nil))))))))) (.r (.ret (str (Book.text (bookTo (mid s) k0)))) (.r (.ret (.tup [])) .nil)))))) Tryz.func109 (by kernel_rfl) (let A0:=fun (k0 k1:Nat)=>(((↑(List.length (nsTo (nth (mid s) k0) k1)):Int)==7)=true→((0:Int)≤0∧0<(↑(List.length (nsTo (nth (mid s) k0) k1)):Int))∧((0:Int)≤1∧1<(↑(List.length (nsTo (nth (mid s) k0) k1)):Int))∧((0:Int)≤2∧2<(↑(List.length (nsTo (nth (mid s) k0) k1)):Int))∧((0:Int)≤3∧3<(↑(List.length (nsTo (nth (mid s) k0) k1)):Int))∧((0:Int)≤4∧4<(↑(List.length (nsTo (nth (mid s) k0) k1)):Int))∧((0:Int)≤5∧5<(↑(List.length (nsTo (nth (mid s) k0) k1)):Int))∧((0:Int)≤6∧6<(↑(List.length (nsTo (nth (mid s) k0) k1)):Int))∧(List.length (bookTo (mid s) k0).1+1)*56≤140737488355328∧List.length (bookTo (mid s) k0).1+1≤140737488355328∧inRange IntKind.i64 ((↑k0:Int)+1)∧k0<badN s∧(↑k0:Int)+1=(↑(k0+1):Int)∧(↑(List.length (mid s)):Int)=(↑(List.length (mid s)):Int)∧(SEq (List.length (mid s)) (fun i=>eS (nth (mid s) i)) (List.length (mid s)) fun i=>eS (nth (mid s) i))∧bs s=bs s∧Value.slice none 0 0=Value.slice none 0 0∧Value.slice none 0 0=Value.slice none 0 0∧Value.slice none 0 0=Value.slice none 0 0∧(SEq (List.length (bookTo (mid s) k0).1+1) (catF (List.length (bookTo (mid s) k0).1) (fun i=>eComp (nth (bookTo (mid s) k0).1 i)) fun i=>List.getD [List.map C.dem (List.map C.dem [C.v (Value.int IntKind.i64 (nth (nsTo (nth (mid s) k0) k1) (Int.toNat (0:Int)))),C.v (Value.int IntKind.i64 (nth (nsTo (nth (mid s) k0) k1) (Int.toNat (1:Int)))),C.v (Value.int IntKind.i64 (nth (nsTo (nth (mid s) k0) k1) (Int.toNat (2:Int)))),C.v (Value.int IntKind.i64 (nth (nsTo (nth (mid s) k0) k1) (Int.toNat (3:Int)))),C.v (Value.int IntKind.i64 (nth (nsTo (nth (mid s) k0) k1) (Int.toNat (4:Int)))),C.v (Value.int IntKind.i64 (nth (nsTo (nth (mid s) k0) k1) (Int.toNat (5:Int)))),C.v (Value.int IntKind.i64 (nth (nsTo (nth (mid s) k0) k1) (Int.toNat (6:Int))))])] i []) (List.length (bookTo (mid s) (k0+1)).1) fun i=>eComp (nth (bookTo (mid s) (k0+1)).1 i))∧(SEq (List.length (bookTo (mid s) k0).2) (fun i=>eI (nth (bookTo (mid s) k0).2 i)) (List.length (bookTo (mid s) (k0+1)).2) fun i=>eI (nth (bookTo (mid s) (k0+1)).2 i))∧SEq (List.length (bookTo (mid s) k0).3) (fun i=>eI (nth (bookTo (mid s) k0).3 i)) (List.length (bookTo (mid s) (k0+1)).3) fun i=>eI (nth (bookTo (mid s) (k0+1)).3 i));let A1:=fun (k0 k1:Nat)=>((bif ByteArray.toList (bs (nth (splitL (32:UInt8) (nth (mid s) k0)) (Int.toNat (0:Int))))==ByteArray.toList (bs lTable) then (↑(List.length (nsTo (nth (mid s) k0) k1)):Int)==1 else false)=true→((0:Int)≤0∧0<(↑(List.length (nsTo (nth (mid s) k0) k1)):Int))∧(List.length (bookTo (mid s) k0).2+1)*8≤140737488355328∧List.length (bookTo (mid s) k0).2+1≤140737488355328∧inRange IntKind.i64 ((↑k0:Int)+1)∧k0<badN s∧(↑k0:Int)+1=(↑(k0+1):Int)∧(↑(List.length (mid s)):Int)=(↑(List.length (mid s)):Int)∧(SEq (List.length (mid s)) (fun i=>eS (nth (mid s) i)) (List.length (mid s)) fun i=>eS (nth (mid s) i))∧bs s=bs s∧Value.slice none 0 0=Value.slice none 0 0∧Value.slice none 0 0=Value.slice none 0 0∧Value.slice none 0 0=Value.slice none 0 0∧(SEq (List.length (bookTo (mid s) k0).1) (fun i=>eComp (nth (bookTo (mid s) k0).1 i)) (List.length (bookTo (mid s) (k0+1)).1) fun i=>eComp (nth (bookTo (mid s) (k0+1)).1 i))∧(SEq (List.length (bookTo (mid s) k0).2+1) (catF (List.length (bookTo (mid s) k0).2) (fun i=>eI (nth (bookTo (mid s) k0).2 i)) fun i=>List.getD [List.map C.dem [C.v (Value.int IntKind.i64 (nth (nsTo (nth (mid s) k0) k1) (Int.toNat (0:Int))))]] i []) (List.length (bookTo (mid s) (k0+1)).2) fun i=>eI (nth (bookTo (mid s) (k0+1)).2 i))∧SEq (List.length (bookTo (mid s) k0).3) (fun i=>eI (nth (bookTo (mid s) k0).3 i)) (List.length (bookTo (mid s) (k0+1)).3) fun i=>eI (nth (bookTo (mid s) (k0+1)).3 i));let A2:=fun (k0 k1:Nat)=>((bif ByteArray.toList (bs (nth (splitL (32:UInt8) (nth (mid s) k0)) (Int.toNat (0:Int))))==ByteArray.toList (bs lSheet) then (↑(List.length (nsTo (nth (mid s) k0) k1)):Int)==1 else false)=true→((0:Int)≤0∧0<(↑(List.length (nsTo (nth (mid s) k0) k1)):Int))∧(List.length (bookTo (mid s) k0).3+1)*8≤140737488355328∧List.length (bookTo (mid s) k0).3+1≤140737488355328∧inRange IntKind.i64 ((↑k0:Int)+1)∧k0<badN s∧(↑k0:Int)+1=(↑(k0+1):Int)∧(↑(List.length (mid s)):Int)=(↑(List.length (mid s)):Int)∧(SEq (List.length (mid s)) (fun i=>eS (nth (mid s) i)) (List.length (mid s)) fun i=>eS (nth (mid s) i))∧bs s=bs s∧Value.slice none 0 0=Value.slice none 0 0∧Value.slice none 0 0=Value.slice none 0 0∧Value.slice none 0 0=Value.slice none 0 0∧(SEq (List.length (bookTo (mid s) k0).1) (fun i=>eComp (nth (bookTo (mid s) k0).1 i)) (List.length (bookTo (mid s) (k0+1)).1) fun i=>eComp (nth (bookTo (mid s) (k0+1)).1 i))∧(SEq (List.length (bookTo (mid s) k0).2) (fun i=>eI (nth (bookTo (mid s) k0).2 i)) (List.length (bookTo (mid s) (k0+1)).2) fun i=>eI (nth (bookTo (mid s) (k0+1)).2 i))∧SEq (List.length (bookTo (mid s) k0).3+1) (catF (List.length (bookTo (mid s) k0).3) (fun i=>eI (nth (bookTo (mid s) k0).3 i)) fun i=>List.getD [List.map C.dem [C.v (Value.int IntKind.i64 (nth (nsTo (nth (mid s) k0) k1) (Int.toNat (0:Int))))]] i []) (List.length (bookTo (mid s) (k0+1)).3) fun i=>eI (nth (bookTo (mid s) (k0+1)).3 i));let A3:=fun (k0:Nat)=>(bs (nth (splitL (32:UInt8) (nth (mid s) k0)) (Int.toNat (0:Int))));let A4:=fun (k0:Nat)=>(ByteArray.toList (A3 k0)==ByteArray.toList (bs lTable));let A5:=fun (k0:Nat)=>(ByteArray.toList (A3 k0)==ByteArray.toList (bs lSheet));let A6:=fun (k0:Nat)=>(nth (mid s) k0);let A7:=(.ret (T.d (D.agg [C.v (Value.string (bs lGive)),C.v (Value.string (bs lComputer)),C.v (Value.string (bs lTable)),C.v (Value.string (bs lSheet))])));let A8:=fun (k0:Nat)=>(List.length (splitL (32:UInt8) (A6 k0)));let A9:=fun (k0:Nat)=>(bookTo (mid s) k0);let A10:=(SEq (List.length (mid s)) (fun i=>eS (nth (mid s) i)) (List.length (mid s)) fun i=>eS (nth (mid s) i));let A11:=(↑(List.length (mid s)):Int);let A12:=fun (k0:Nat)=>(SEq (List.length (A9 k0).1) (fun i=>eComp (nth (A9 k0).1 i)) (List.length (A9 k0).1) fun i=>eComp (nth (A9 k0).1 i));let A13:=fun (k0:Nat)=>(SEq (A8 k0) (fun i=>eS (nth (splitL (32:UInt8) (A6 k0)) i)) (A8 k0) fun i=>eS (nth (splitL (32:UInt8) (A6 k0)) i));let A14:=fun (k0 k1:Nat)=>(bif ByteArray.toList (A3 k0)==ByteArray.toList (bs lTable) then (↑(List.length (nsTo (A6 k0) k1)):Int)==1 else false);let A15:=fun (k0 k1:Nat)=>(bif ByteArray.toList (A3 k0)==ByteArray.toList (bs lSheet) then (↑(List.length (nsTo (A6 k0) k1)):Int)==1 else false);let A16:=fun (k0:Nat)=>(SEq (List.length (A9 k0).2) (fun i=>eI (nth (A9 k0).2 i)) (List.length (A9 k0).2) fun i=>eI (nth (A9 k0).2 i));let A17:=fun (k0:Nat)=>(eqB (A4 k0) true=true→eqB (A4 k0) true=true);let A18:=fun (k0:Nat)=>(eqB (A5 k0) true=true→eqB (A5 k0) true=true);let A19:=fun (k0:Nat)=>(List.length (tl (A6 k0)));let A20:=(↑(List.length (splitL (10:UInt8) s)):Int);let A21:=(Value.agg {toList:=[Value.string (bs (badOf (nth (mid s) (badN s))))]});let A22:=fun (k0:Nat)=>((0:Int)≤0∧0<(↑(A8 k0):Int));let A23:=fun (k0:Nat)=>(bookTo (mid s) (k0+1));let A24:=fun (k0 k1:Nat)=>(eqB (A4 k0) true=true→List.length (nsTo (A6 k0) k1)≤maxLen);let A25:=fun (k0 k1:Nat)=>(eqB (A5 k0) true=true→List.length (nsTo (A6 k0) k1)≤maxLen);let A26:=fun (k0:Nat)=>(List.length (A9 k0).3);let A27:=fun (k0 k1:Nat)=>(0≤(↑k1:Int)∧(↑k1:Int)<(↑(A19 k0):Int));let A28:=fun (k0:Nat)=>(fun i=>eI (nth (A9 k0).3 i));let A29:=fun (k0 k1:Nat)=>(nth (tl (A6 k0)) k1);let A30:=((0:Int)≤2∧2<(↑(4:Nat):Int));let A31:=((0:Int)≤3∧3<(↑(4:Nat):Int));let A32:=fun (k0 k1:Nat)=>(nsTo (A6 k0) k1);let A33:=fun (k0:Nat)=>(D.c (C.v (Value.string (bs (A6 k0)))));let A34:=fun (k0:Nat)=>((A4 k0)=true→eqB (A4 k0) true=true);let A35:=fun (k0:Nat)=>((A5 k0)=true→eqB (A5 k0) true=true);let A36:=fun (k0:Nat)=>(↑(A8 k0):Int);let A37:=fun (k0 k1:Nat)=>((↑(List.length (A32 k0 k1)):Int)==7);Computes Tryz.prog Gl 133 [str s,str [(10:UInt8)]] (.ret (L eS (splitL (10:UInt8) s)))∧(List.length (splitL (10:UInt8) s)≤maxLen→Computes Tryz.prog Gl 134 [B (decide (3≤(↑(List.length (splitL (10:UInt8) s)):Int))),T.d (D.c (C.v (Value.string (bs s))))] (.ret (.tup []))∧(List.length (splitL (10:UInt8) s)≤maxLen→inRange IntKind.i64 (A20-2)∧((0:Int)≤1∧1≤A20-2∧A20-2≤A20)∧(Int.toNat (A20-2-(1:Int))≤maxLen→(0=(↑(0:Nat):Int)∧(↑(Int.toNat (A20-2-(1:Int))):Int)=A11∧(SEq (Int.toNat (A20-2-(1:Int))) (fun i=>eS (nth (splitL (10:UInt8) s) (Int.toNat (1:Int)+i))) (List.length (mid s)) fun i=>eS (nth (mid s) i))∧bs s=bs s∧Value.slice none 0 0=Value.slice none 0 0∧Value.slice none 0 0=Value.slice none 0 0∧Value.slice none 0 0=Value.slice none 0 0∧(0:Nat)=(0:Nat)∧(0:Nat)=(0:Nat)∧(0:Nat)=(0:Nat))∧∀ (k0:Nat),k0≤badN s→(decide (k0<badN s)=true→(decide ((↑k0:Int)<(↑(List.length (mid s)):Int))=true→(0≤(↑k0:Int)∧(↑k0:Int)<A11)∧Computes Tryz.prog Gl 133 [str (A6 k0),str [(32:UInt8)]] (.ret (L eS (splitL (32:UInt8) (A6 k0))))∧((0:Int)≤1∧1≤(A36 k0)∧(A36 k0)≤(A36 k0))∧(Int.toNat ((A36 k0)-1)≤maxLen→(0=(↑(0:Nat):Int)∧(↑(Int.toNat ((A36 k0)-1)):Int)=(↑(A19 k0):Int)∧(SEq (Int.toNat ((A36 k0)-1)) (fun i=>eS (nth (splitL (32:UInt8) (A6 k0)) (Int.toNat (1:Int)+i))) (A19 k0) fun i=>eS (nth (tl (A6 k0)) i))∧(0:Nat)=(0:Nat)∧(A13 k0)∧bs (A6 k0)=bs (A6 k0)∧(↑k0:Int)=(↑k0:Int)∧A11=A11∧A10∧bs s=bs s∧Value.slice none 0 0=Value.slice none 0 0∧Value.slice none 0 0=Value.slice none 0 0∧Value.slice none 0 0=Value.slice none 0 0∧(A12 k0)∧(A16 k0)∧SEq (A26 k0) (A28 k0) (A26 k0) fun i=>eI (nth (A9 k0).3 i))∧∀ (k1:Nat),k1≤goodN (A6 k0)→(decide (k1<goodN (nth (mid s) k0))=true→(decide ((↑k1:Int)<(↑(List.length (tl (nth (mid s) k0))):Int))=true→(A27 k0 k1)∧Computes Tryz.prog Gl 135 [str (A29 k0 k1)] (.ret (I (numV (A29 k0 k1))))∧(List.length (A32 k0 k1)+1)*8≤140737488355328∧List.length (A32 k0 k1)+1≤140737488355328∧inRange IntKind.i64 ((↑k1:Int)+1)∧k1<goodN (A6 k0)∧(↑k1:Int)+1=(↑(k1+1):Int)∧(↑(A19 k0):Int)=(↑(A19 k0):Int)∧(SEq (A19 k0) (fun i=>eS (nth (tl (A6 k0)) i)) (A19 k0) fun i=>eS (nth (tl (A6 k0)) i))∧(SEq (List.length (A32 k0 k1)+1) (catF (List.length (A32 k0 k1)) (fun i=>eI (nth (A32 k0 k1) i)) fun i=>List.getD [List.map C.dem [C.v (Value.int IntKind.i64 (numV (A29 k0 k1)))]] i []) (List.length (nsTo (A6 k0) (k1+1))) fun i=>eI (nth (nsTo (A6 k0) (k1+1)) i))∧(A13 k0)∧bs (A6 k0)=bs (A6 k0)∧(↑k0:Int)=(↑k0:Int)∧A11=A11∧A10∧bs s=bs s∧Value.slice none 0 0=Value.slice none 0 0∧Value.slice none 0 0=Value.slice none 0 0∧Value.slice none 0 0=Value.slice none 0 0∧(A12 k0)∧(A16 k0)∧SEq (A26 k0) (A28 k0) (A26 k0) fun i=>eI (nth (A9 k0).3 i))∧(decide ((↑k1:Int)<(↑(List.length (tl (nth (mid s) k0))):Int))=false→List.length (A32 k0 k1)≤maxLen→(A0 k0 k1)∧((A37 k0 k1)=false→(A22 k0)∧Computes Tryz.prog Gl 136 [] A7∧A30∧(A17 k0)∧((A24 k0 k1)→(A17 k0)∧(A34 k0)∧(A1 k0 k1)∧((A14 k0 k1)=false→(A22 k0)∧Computes Tryz.prog Gl 136 [] A7∧A31∧(A18 k0)∧((A25 k0 k1)→(A18 k0)∧(A35 k0)∧(A2 k0 k1)∧((A15 k0 k1)=false→Computes Tryz.prog Gl 134 [B false,T.d (A33 k0)] (.ret (.tup []))∧inRange IntKind.i64 ((↑k0:Int)+1)∧k0<badN s∧(↑k0:Int)+1=(↑(k0+1):Int)∧A11=A11∧A10∧bs s=bs s∧Value.slice none 0 0=Value.slice none 0 0∧Value.slice none 0 0=Value.slice none 0 0∧Value.slice none 0 0=Value.slice none 0 0∧(SEq (List.length (A9 k0).1) (fun i=>eComp (nth (A9 k0).1 i)) (List.length (A23 k0).1) fun i=>eComp (nth (A23 k0).1 i))∧(SEq (List.length (A9 k0).2) (fun i=>eI (nth (A9 k0).2 i)) (List.length (A23 k0).2) fun i=>eI (nth (A23 k0).2 i))∧SEq (A26 k0) (A28 k0) (List.length (A23 k0).3) fun i=>eI (nth (A23 k0).3 i))))))))∧(decide (k1<goodN (nth (mid s) k0))=false→(decide ((↑k1:Int)<(↑(List.length (tl (nth (mid s) k0))):Int))=true→(A27 k0 k1)∧Computes Tryz.prog Gl 135 [str (A29 k0 k1)] (Res.pan (Value.iface (183:TypeId) (Value.agg #[Value.string (bs (A29 k0 k1))])))∧Value.iface (183:Nat) (Value.agg {toList:=[Value.string (bs (A29 k0 k1))]})=Value.iface (183:Nat) A21)∧(decide ((↑k1:Int)<(↑(List.length (tl (nth (mid s) k0))):Int))=false→List.length (A32 k0 k1)≤maxLen→(A0 k0 k1)∧((A37 k0 k1)=false→(A22 k0)∧Computes Tryz.prog Gl 136 [] A7∧A30∧(A17 k0)∧((A24 k0 k1)→(A17 k0)∧(A34 k0)∧(A1 k0 k1)∧((A14 k0 k1)=false→(A22 k0)∧Computes Tryz.prog Gl 136 [] A7∧A31∧(A18 k0)∧((A25 k0 k1)→(A18 k0)∧(A35 k0)∧(A2 k0 k1)∧((A15 k0 k1)=false→Computes Tryz.prog Gl 134 [B false,T.d (A33 k0)] (.ret (.tup []))∧inRange IntKind.i64 ((↑k0:Int)+1)∧k0<badN s∧(↑k0:Int)+1=(↑(k0+1):Int)∧A11=A11∧A10∧bs s=bs s∧Value.slice none 0 0=Value.slice none 0 0∧Value.slice none 0 0=Value.slice none 0 0∧Value.slice none 0 0=Value.slice none 0 0∧(SEq (List.length (A9 k0).1) (fun i=>eComp (nth (A9 k0).1 i)) (List.length (A23 k0).1) fun i=>eComp (nth (A23 k0).1 i))∧(SEq (List.length (A9 k0).2) (fun i=>eI (nth (A9 k0).2 i)) (List.length (A23 k0).2) fun i=>eI (nth (A23 k0).2 i))∧SEq (A26 k0) (A28 k0) (List.length (A23 k0).3) fun i=>eI (nth (A23 k0).3 i))))))))))∧(decide ((↑k0:Int)<(↑(List.length (mid s)):Int))=false→Computes Tryz.prog Gl 106 [tBook (A9 k0)] (.ret (str (Book.text (A9 k0))))∧Computes Tryz.prog Gl 134 [B (ByteArray.toList (bs (Book.text (A9 k0)))==ByteArray.toList (bs s)),T.d (D.c (C.v (Value.string (bs s))))] (.ret (.tup []))∧False))∧(decide (k0<badN s)=false→(decide ((↑k0:Int)<(↑(List.length (mid s)):Int))=true→(0≤(↑k0:Int)∧(↑k0:Int)<A11)∧Computes Tryz.prog Gl 133 [str (A6 k0),str [(32:UInt8)]] (.ret (L eS (splitL (32:UInt8) (A6 k0))))∧((0:Int)≤1∧1≤(A36 k0)∧(A36 k0)≤(A36 k0))∧(Int.toNat ((A36 k0)-1)≤maxLen→(0=(↑(0:Nat):Int)∧(↑(Int.toNat ((A36 k0)-1)):Int)=(↑(A19 k0):Int)∧(SEq (Int.toNat ((A36 k0)-1)) (fun i=>eS (nth (splitL (32:UInt8) (A6 k0)) (Int.toNat (1:Int)+i))) (A19 k0) fun i=>eS (nth (tl (A6 k0)) i))∧(0:Nat)=(0:Nat)∧(A13 k0)∧bs (A6 k0)=bs (A6 k0)∧(↑k0:Int)=(↑k0:Int)∧A11=A11∧A10∧bs s=bs s∧Value.slice none 0 0=Value.slice none 0 0∧Value.slice none 0 0=Value.slice none 0 0∧Value.slice none 0 0=Value.slice none 0 0∧(A12 k0)∧(A16 k0)∧SEq (A26 k0) (A28 k0) (A26 k0) fun i=>eI (nth (A9 k0).3 i))∧∀ (k1:Nat),k1≤goodN (A6 k0)→(decide (k1<goodN (nth (mid s) k0))=true→(decide ((↑k1:Int)<(↑(List.length (tl (nth (mid s) k0))):Int))=true→(A27 k0 k1)∧Computes Tryz.prog Gl 135 [str (A29 k0 k1)] (.ret (I (numV (A29 k0 k1))))∧(List.length (A32 k0 k1)+1)*8≤140737488355328∧List.length (A32 k0 k1)+1≤140737488355328∧inRange IntKind.i64 ((↑k1:Int)+1)∧k1<goodN (A6 k0)∧(↑k1:Int)+1=(↑(k1+1):Int)∧(↑(A19 k0):Int)=(↑(A19 k0):Int)∧(SEq (A19 k0) (fun i=>eS (nth (tl (A6 k0)) i)) (A19 k0) fun i=>eS (nth (tl (A6 k0)) i))∧(SEq (List.length (A32 k0 k1)+1) (catF (List.length (A32 k0 k1)) (fun i=>eI (nth (A32 k0 k1) i)) fun i=>List.getD [List.map C.dem [C.v (Value.int IntKind.i64 (numV (A29 k0 k1)))]] i []) (List.length (nsTo (A6 k0) (k1+1))) fun i=>eI (nth (nsTo (A6 k0) (k1+1)) i))∧(A13 k0)∧bs (A6 k0)=bs (A6 k0)∧(↑k0:Int)=(↑k0:Int)∧A11=A11∧A10∧bs s=bs s∧Value.slice none 0 0=Value.slice none 0 0∧Value.slice none 0 0=Value.slice none 0 0∧Value.slice none 0 0=Value.slice none 0 0∧(A12 k0)∧(A16 k0)∧SEq (A26 k0) (A28 k0) (A26 k0) fun i=>eI (nth (A9 k0).3 i))∧(decide ((↑k1:Int)<(↑(List.length (tl (nth (mid s) k0))):Int))=false→List.length (A32 k0 k1)≤maxLen→(A0 k0 k1)∧((A37 k0 k1)=false→(A22 k0)∧Computes Tryz.prog Gl 136 [] A7∧A30∧(A17 k0)∧((A24 k0 k1)→(A17 k0)∧(A34 k0)∧(A1 k0 k1)∧((A14 k0 k1)=false→(A22 k0)∧Computes Tryz.prog Gl 136 [] A7∧A31∧(A18 k0)∧((A25 k0 k1)→(A18 k0)∧(A35 k0)∧(A2 k0 k1)∧((A15 k0 k1)=false→Computes Tryz.prog Gl 134 [B false,T.d (A33 k0)] (Res.pan (Value.iface (183:TypeId) (Value.agg #[Value.string (bs (A6 k0))])))∧Value.iface (183:Nat) (Value.agg {toList:=[Value.string (bs (A6 k0))]})=Value.iface (183:Nat) A21)))))))∧(decide (k1<goodN (nth (mid s) k0))=false→(decide ((↑k1:Int)<(↑(List.length (tl (nth (mid s) k0))):Int))=true→(A27 k0 k1)∧Computes Tryz.prog Gl 135 [str (A29 k0 k1)] (Res.pan (Value.iface (183:TypeId) (Value.agg #[Value.string (bs (A29 k0 k1))])))∧Value.iface (183:Nat) (Value.agg {toList:=[Value.string (bs (A29 k0 k1))]})=Value.iface (183:Nat) A21)∧(decide ((↑k1:Int)<(↑(List.length (tl (nth (mid s) k0))):Int))=false→List.length (A32 k0 k1)≤maxLen→(A0 k0 k1)∧((A37 k0 k1)=false→(A22 k0)∧Computes Tryz.prog Gl 136 [] A7∧A30∧(A17 k0)∧((A24 k0 k1)→(A17 k0)∧(A34 k0)∧(A1 k0 k1)∧((A14 k0 k1)=false→(A22 k0)∧Computes Tryz.prog Gl 136 [] A7∧A31∧(A18 k0)∧((A25 k0 k1)→(A18 k0)∧(A35 k0)∧(A2 k0 k1)∧((A15 k0 k1)=false→Computes Tryz.prog Gl 134 [B false,T.d (A33 k0)] (Res.pan (Value.iface (183:TypeId) (Value.agg #[Value.string (bs (A6 k0))])))∧Value.iface (183:Nat) (Value.agg {toList:=[Value.string (bs (A6 k0))]})=Value.iface (183:Nat) A21)))))))))∧(decide ((↑k0:Int)<(↑(List.length (mid s)):Int))=false→Computes Tryz.prog Gl 106 [tBook (A9 k0)] (.ret (str (Book.text (A9 k0))))∧Computes Tryz.prog Gl 134 [B (ByteArray.toList (bs (Book.text (A9 k0)))==ByteArray.toList (bs s)),T.d (D.c (C.v (Value.string (bs s))))] (.ret (.tup []))∧False)))))) (by kernel_rfl) ?_
 have hsp := split_pos 10 s
 have hml := mid_len (s := s)
 have hrow : ∀ i, i < (mid s).length → (nth (mid s) i).length ≤ 170 := fun i hi => by have := row_len hi; omega
 have hbad : badN s < (mid s).length := by
  rcases Nat.lt_or_ge (badN s) (mid s).length with hh | hh
  ·exact hh
  ·rw [upto_all hh] at hall; cases hall
 have hatbad : rowOK (nth (mid s) (badN s)) = false := upto_at hbad
 simp only [stdS, imp_self, implies_true, and_true]
 refine ⟨split133 hG s 10 (by omega), fun _ => ⟨sureT S _ _ (by simp; omega), fun _ => ⟨(rng_iff _).2 (by omega), ⟨by decide, by omega, by omega⟩, fun _ => ⟨⟨by omega, ⟨by omega, fun i hi => .inl ?_⟩, trivial⟩, fun k0 hk0 => ⟨fun hc => ⟨fun hlt => ?_, fun hlt => ?_⟩, fun hc => ⟨fun hlt => ?_, fun hlt => ?_⟩⟩⟩⟩⟩⟩
 ·have hi : i < (mid s).length := by omega
  show eS (nth (splitL 10 s) (1 + i)) = eS (nth (mid s) i)
  rw [mid_nth hi]
 ·have hc : k0 < badN s := by simpa using hc
  have hlt : k0 < (mid s).length := by omega
  have hr := hrow k0 hlt
  have hok : rowOK (nth (mid s) k0) = true := upto_before hc
  have hB1 : bookTo (mid s) (k0 + 1) = rowB (bookTo (mid s) k0) (nth (mid s) k0) := rfl
  have hcnt := (bookTo_sm (mid s) k0).2
  generalize nth (mid s) k0 = R0 at *
  unfold rowOK at hok
  rw [Bool.and_eq_true] at hok
  have hgood : goodN R0 = (tl R0).length := by
   have := upto_le (p := isNum) (l := tl R0)
   rcases Nat.lt_or_ge (goodN R0) (tl R0).length with hh | hh
   ·have h1 : isNum (nth (tl R0) (goodN R0)) = false := upto_at hh
    have h2 := List.all_eq_true.1 hok.1 _ (nth_mem hh)
    rw [h1] at h2; cases h2
   ·unfold goodN at hh ⊢; omega
  have hsr := split_pos 32 R0
  have htl := tl_len (r := R0)
  have hgle : goodN R0 ≤ (tl R0).length := upto_le
  refine ⟨⟨by omega, by omega⟩, split133 hG R0 32 (by omega), ⟨by decide, by omega, by omega⟩, fun _ => ⟨⟨by omega, ⟨by omega, fun i hi => .inl ?_⟩, trivial⟩, fun k1 hk1 => ⟨fun hg => ⟨fun h1 => ?_, fun h1 => ?_⟩, fun hg => ⟨fun h1 => ?_, fun h1 hmx => ?_⟩⟩⟩⟩
  ·have hi : i < (tl R0).length := by omega
   show eS (nth (splitL 32 R0) (1 + i)) = eS (nth (tl R0) i)
   rw [tl_nth hi]
  ·have hg : k1 < goodN R0 := by simpa using hg
   have h1 : k1 < (tl R0).length := by simpa using h1
   have hnl := nsTo_len (r := R0) (j := k1)
   exact ⟨⟨by omega, by omega⟩, number135V S _ (upto_before hg), by omega, by omega, (rng_iff _).2 (by omega), hg, rfl, SEq_push1 (nsTo_succ h1) rfl, trivial⟩
  ·exfalso
   have hg : k1 < goodN R0 := by simpa using hg
   have h1 : ¬ k1 < (tl R0).length := by simpa using h1
   omega
  ·exfalso
   have hg : ¬ k1 < goodN R0 := by simpa using hg
   have h1 : k1 < (tl R0).length := by simpa using h1
   omega
  ·have h1 : k1 = (tl R0).length := by
    have : ¬ k1 < (tl R0).length := by simpa using h1
    omega
   subst h1
   have hns : nsTo R0 (tl R0).length = ns R0 := rfl
   rw [hns] at hmx ⊢
   have hsh := hok.2
   unfold rowShape at hsh
   simp only [hd_eq]
   have c7 : (((ns R0).length : Int) == 7) = ((ns R0).length == 7) := cast_beq _ 7
   have c1 : (((ns R0).length : Int) == 1) = ((ns R0).length == 1) := cast_beq _ 1
   rw [c7, c1]
   refine ⟨fun h7 => ?_, fun h7 => ⟨⟨by decide, by omega⟩, words136 S, ⟨by decide, by decide⟩, fun _ => ⟨fun ht => ?_, fun ht => ⟨⟨by decide, by omega⟩, words136 S, ⟨by decide, by decide⟩, fun _ => ⟨fun hs => ?_, fun hs => ?_⟩⟩⟩⟩⟩
   ·rw [rowB_c h7] at hB1
    have h7' : (ns R0).length = 7 := by simpa using h7
    exact ⟨⟨by omega, by omega⟩, ⟨by omega, by omega⟩, ⟨by omega, by omega⟩, ⟨by omega, by omega⟩, ⟨by omega, by omega⟩, ⟨by omega, by omega⟩, ⟨by omega, by omega⟩, by omega, by omega, (rng_iff _).2 (by omega), hc, rfl, SEq_push1 (x := compOf (ns R0)) (by rw [hB1]) rfl, SEq_whole (by rw [hB1]), SEq_whole (by rw [hB1])⟩
   ·rw [Bool.and_eq_true] at ht
    have h1' : (ns R0).length = 1 := by simpa using ht.2
    rw [rowB_d h7 ht.1] at hB1
    exact ⟨⟨by omega, by omega⟩, by omega, by omega, (rng_iff _).2 (by omega), hc, rfl, SEq_whole (by rw [hB1]), SEq_push1 (x := nth (ns R0) 0) (by rw [hB1]) rfl, SEq_whole (by rw [hB1])⟩
   ·rw [Bool.and_eq_true] at hs
    have h1' : (ns R0).length = 1 := by simpa using hs.2
    have hnt : (hd R0 == lTable) = false := by
     rw [hs.2, Bool.and_true] at ht; exact ht
    rw [rowB_s h7 hnt] at hB1
    exact ⟨⟨by omega, by omega⟩, by omega, by omega, (rng_iff _).2 (by omega), hc, rfl, SEq_whole (by rw [hB1]), SEq_whole (by rw [hB1]), SEq_push1 (x := nth (ns R0) 0) (by rw [hB1]) rfl⟩
   ·exfalso; rw [h7, ht, hs] at hsh; cases hsh
 ·exfalso
  have hlt : ¬ k0 < (mid s).length := by simpa using hlt
  omega
 ·have hc : k0 = badN s := by
   have : ¬ k0 < badN s := by simpa using hc
   omega
  subst hc
  have hlt : badN s < (mid s).length := hbad
  have hr := hrow (badN s) hlt
  have hok : rowOK (nth (mid s) (badN s)) = false := hatbad
  generalize hB1 : bookTo (mid s) (badN s + 1) = B1 at *
  generalize nth (mid s) (badN s) = R0 at *
  have hsr := split_pos 32 R0
  have htl := tl_len (r := R0)
  have hgle : goodN R0 ≤ (tl R0).length := upto_le
  refine ⟨⟨by omega, by omega⟩, split133 hG R0 32 (by omega), ⟨by decide, by omega, by omega⟩, fun _ => ⟨⟨by omega, ⟨by omega, fun i hi => .inl ?_⟩, trivial⟩, fun k1 hk1 => ⟨fun hg => ⟨fun h1 => ?_, fun h1 => ?_⟩, fun hg => ⟨fun h1 => ?_, fun h1 hmx => ?_⟩⟩⟩⟩
  ·have hi : i < (tl R0).length := by omega
   show eS (nth (splitL 32 R0) (1 + i)) = eS (nth (tl R0) i)
   rw [tl_nth hi]
  ·have hg : k1 < goodN R0 := by simpa using hg
   have h1 : k1 < (tl R0).length := by simpa using h1
   have hnl := nsTo_len (r := R0) (j := k1)
   exact ⟨⟨by omega, by omega⟩, number135V S _ (upto_before hg), by omega, by omega, (rng_iff _).2 (by omega), hg, rfl, SEq_push1 (nsTo_succ h1) rfl, trivial⟩
  ·exfalso
   have hg : k1 < goodN R0 := by simpa using hg
   have h1 : ¬ k1 < (tl R0).length := by simpa using h1
   omega
  ·have hg : ¬ k1 < goodN R0 := by simpa using hg
   have hk : k1 = goodN R0 := by omega
   subst hk
   have h1 : goodN R0 < (tl R0).length := by simpa using h1
   have hn : isNum (nth (tl R0) (goodN R0)) = false := upto_at h1
   refine ⟨⟨by omega, by omega⟩, number135N S _ hn, ?_⟩
   have : badOf R0 = nth (tl R0) (goodN R0) := by
    unfold badOf
    have : (tl R0).all isNum = false := upto_some h1 hn
    rw [this]; rfl
   rw [this]
  ·have hg : ¬ k1 < goodN R0 := by simpa using hg
   have h1 : ¬ k1 < (tl R0).length := by simpa using h1
   have hk : k1 = (tl R0).length := by omega
   have hall' : (tl R0).all isNum = true := upto_all (by unfold goodN at *; omega)
   subst hk
   have hns : nsTo R0 (tl R0).length = ns R0 := rfl
   rw [hns] at hmx ⊢
   unfold rowOK at hok
   rw [hall', Bool.true_and] at hok
   have hsh := hok
   unfold rowShape at hsh
   have hbo : badOf R0 = R0 := by unfold badOf; rw [hall']; rfl
   simp only [hd_eq]
   have c7 : (((ns R0).length : Int) == 7) = ((ns R0).length == 7) := cast_beq _ 7
   have c1 : (((ns R0).length : Int) == 1) = ((ns R0).length == 1) := cast_beq _ 1
   rw [c7, c1]
   refine ⟨fun h7 => ?_, fun h7 => ⟨⟨by decide, by omega⟩, words136 S, ⟨by decide, by decide⟩, fun _ => ⟨fun ht => ?_, fun ht => ⟨⟨by decide, by omega⟩, words136 S, ⟨by decide, by decide⟩, fun _ => ⟨fun hs => ?_, fun hs => ?_⟩⟩⟩⟩⟩
   ·exfalso; rw [h7] at hsh; simp at hsh
   ·exfalso; rw [ht] at hsh; simp at hsh
   ·exfalso; rw [hs] at hsh; simp at hsh
   ·exact ⟨sureF S _ _ rfl, by rw [hbo]⟩
 ·exfalso
  have hlt : ¬ k0 < (mid s).length := by simpa using hlt
  omega
end Go.Vc.Gd
namespace Go.Vc.Gd
open Go Go.Proofs Go.Vc
variable {Gl : World → Prop}
def parse (s : List UInt8) : Option Book :=
 bif decide (3 ≤ (splitL 10 s).length) && ((mid s).all rowOK && ((bookTo (mid s) (mid s).length).text == s)) then some (bookTo (mid s) (mid s).length) else none
abbrev GlOK (Gl : World → Prop) : Prop := ∀ w, Gl w → ∃ m, w.cell? ⟨1, 0, none⟩ = some (.int .i64 m)
theorem parsed109some (S : Set Tryz.prog Y Gl) (hG : GlOK Gl) (s : List UInt8) (hs : s.length ≤ 170) {b : Book} (h : parse s = some b) : Computes Tryz.prog Gl 109 [str s] (.ret (tBook b)) := by
 unfold parse at h
 cases hc : decide (3 ≤ (splitL 10 s).length) && ((mid s).all rowOK && ((bookTo (mid s) (mid s).length).text == s)) with
 | false => rw [hc] at h; cases h
 | true =>
  rw [hc] at h
  obtain rfl := Option.some.inj h
  simp only [Bool.and_eq_true, decide_eq_true_eq, beq_iff_eq] at hc
  exact parsed109 S s hG hs hc.1 hc.2.1 hc.2.2
theorem parsed109none (S : Set Tryz.prog Y Gl) (hG : GlOK Gl) (s : List UInt8) (hs : s.length ≤ 170) (h : parse s = none) : ∃ q : ByteArray, Computes Tryz.prog Gl 109 [str s] (.pan (.iface 183 (.agg #[.string q]))) := by
 unfold parse at h
 by_cases h3 : 3 ≤ (splitL 10 s).length
 ·cases hr : (mid s).all rowOK with
  | false => exact ⟨_, parsed109r S s hG hs h3 hr⟩
  | true =>
   by_cases ht : (bookTo (mid s) (mid s).length).text = s
   ·rw [hr, ht] at h
    simp [h3] at h
   ·exact ⟨_, parsed109t S s hG hs h3 hr ht⟩
 ·exact ⟨_, parsed109s S s hG hs (by omega)⟩
theorem parse_text {s : List UInt8} {b : Book} (h : parse s = some b) : b.text = s := by
 unfold parse at h
 cases hc : decide (3 ≤ (splitL 10 s).length) && ((mid s).all rowOK && ((bookTo (mid s) (mid s).length).text == s)) with
 | false => rw [hc] at h; cases h
 | true =>
  rw [hc] at h
  obtain rfl := Option.some.inj h
  simp only [Bool.and_eq_true, beq_iff_eq] at hc
  exact hc.2.2
def readPre (s : List UInt8) : Env := [(2, FAR, live), (FAR + 3, 0, str s), (2, FAR + 1, live), (FAR + 4, 0, .d (.c (.v (.slice none 0 0)))), (FAR + 4, 1, .d (.c (.v (.slice none 0 0)))), (FAR + 4, 2, .d (.c (.v (.slice none 0 0))))]
def readPost (b : Book) : Env := [(FAR + 4, 0, L eComp b.comps), (FAR + 4, 1, L eI b.dues), (FAR + 4, 2, L eI b.sheets)]
theorem read108 (S : Set Tryz.prog Y Gl) (s : List UInt8) (b : Book) (hc : Computes Tryz.prog Gl 109 [str s] (.ret (tBook b))) : Does Tryz.prog Y Gl yd0 108 [.addr FAR 0, .addr (FAR + 1) 0] (readPre s) (.ret (.tup [])) (readPost b) := by
 refine fn_is2 S (.r (.ret (tBook b)) .nil) Tryz.func108 (by kernel_rfl) (Computes Tryz.prog Gl 109 [str s] (.ret (tBook b))∧True∧(SEq b.1.length (fun i=>eComp (nth b.1 i)) b.1.length fun i=>eComp (nth b.1 i))∧(SEq b.2.length (fun i=>eI (nth b.2 i)) b.2.length fun i=>eI (nth b.2 i))∧(SEq b.3.length (fun i=>eI (nth b.3 i)) b.3.length fun i=>eI (nth b.3 i))∧bs s=bs s) (by kernel_rfl) ?_
 simp only [stdS, imp_self, implies_true, and_true]
 exact ⟨hc, trivial⟩
theorem read108e (S : Set Tryz.prog Y Gl) (s : List UInt8) (q : ByteArray) (hc : Computes Tryz.prog Gl 109 [str s] (.pan (.iface 183 (.agg #[.string q])))) : Does Tryz.prog Y Gl yd0 108 [.addr FAR 0, .addr (FAR + 1) 0] (readPre s) (.pan (.iface 183 (.agg #[.string q]))) [] := by
 refine fn_is2 S (.r (Res.pan (Value.iface (183:TypeId) (Value.agg #[Value.string q]))) .nil) Tryz.func108 (by kernel_rfl) (Computes Tryz.prog Gl 109 [str s] (Res.pan (Value.iface (183:TypeId) (Value.agg #[Value.string q])))∧Value.iface (183:Nat) (Value.agg {toList:=[Value.string q]})=Value.iface (183:Nat) (Value.agg {toList:=[Value.string q]})∧bs s=bs s∧Value.slice none 0 0=Value.slice none 0 0∧Value.slice none 0 0=Value.slice none 0 0∧Value.slice none 0 0=Value.slice none 0 0) (by kernel_rfl) ?_
 simp only [stdS, imp_self, implies_true, and_true]
 exact ⟨hc, trivial⟩
theorem read107 (S : Set Tryz.prog Y Gl) (s : List UInt8) (b : Book) (hc : Computes Tryz.prog Gl 109 [str s] (.ret (tBook b))) : Does Tryz.prog Y Gl yd0 107 [.fn 108 [] [.addr FAR 0, .addr (FAR + 1) 0]] (readPre s) (.ret (.tup [.agg [Ci 0, Ci 0], .c (Ci 0)])) (readPost b) :=
 attempt107_does (fst := []) rfl rfl (read108 S s b hc) .ok
theorem read107e (S : Set Tryz.prog Y Gl) (s : List UInt8) (q : ByteArray) (hc : Computes Tryz.prog Gl 109 [str s] (.pan (.iface 183 (.agg #[.string q])))) : Does Tryz.prog Y Gl yd0 107 [.fn 108 [] [.addr FAR 0, .addr (FAR + 1) 0]] (readPre s) (.ret (.tup [.agg [Ci 0, Ci 0], .c (Ci 4)])) [] :=
 attempt107_does (fst := []) rfl rfl (read108e S s q hc) (.text q)
theorem read70l (S : Set Tryz.prog Y Gl) (s : List UInt8) (hs : 170 < s.length) : Computes Tryz.prog Gl 70 [str s] (.ret (.tup [.agg (cBook ⟨[], [], []⟩), .c (Ci 3)])) := by
 refine fn_is S (.br .nil .nil) Tryz.func70 (by kernel_rfl) ((decide (170<(↑(ByteArray.size (bs s)):Int))=true→(0:Nat)=(0:Nat)∧(0:Nat)=(0:Nat)∧(0:Nat)=(0:Nat)∧(3:Int)=3)∧(decide (170<(↑(ByteArray.size (bs s)):Int))=false→False)) (by kernel_rfl) ?_
 simp only [stdS, imp_self, implies_true, and_true, bs_size]
 intro h; simp at h; omega
theorem read70e (S : Set Tryz.prog Y Gl) (s : List UInt8) (q : ByteArray) (hs : s.length ≤ 170) (hc : Computes Tryz.prog Gl 109 [str s] (.pan (.iface 183 (.agg #[.string q])))) : Computes Tryz.prog Gl 70 [str s] (.ret (.tup [.agg (cBook ⟨[], [], []⟩), .c (Ci 4)])) := by
 refine fn_is S (.br .nil (.w [(nat_lit 100000,nat_lit 1),(nat_lit 100001,nat_lit 4)] [T.fn (108:FuncId) [] [T.addr FAR (0:Nat),T.addr (FAR+1) (0:Nat)]] (readPre s) (.ret (.tup [D.agg [Ci 0,Ci 0],D.c (Ci 4)])) [] (.tt .nil))) Tryz.func70 (by kernel_rfl) ((decide (170<(↑(ByteArray.size (bs s)):Int))=true→(0:Nat)=(0:Nat)∧(0:Nat)=(0:Nat)∧(0:Nat)=(0:Nat)∧(3:Int)=4)∧(decide (170<(↑(ByteArray.size (bs s)):Int))=false→(108:Nat)=(108:Nat)∧bs s=bs s∧Value.slice none 0 0=Value.slice none 0 0∧Value.slice none 0 0=Value.slice none 0 0∧Value.slice none 0 0=Value.slice none 0 0∧Does Tryz.prog Y Gl yd0 (107:FuncId) [T.fn (108:FuncId) [] [T.addr FAR (0:Nat),T.addr (FAR+1) (0:Nat)]] (readPre s) (.ret (.tup [D.agg [Ci 0,Ci 0],D.c (Ci 4)])) []∧true=true∧(0:Nat)=(0:Nat)∧(0:Nat)=(0:Nat)∧(0:Nat)=(0:Nat)∧(4:Int)=4)) (by kernel_rfl) ?_
 simp only [stdS, imp_self, implies_true, and_true, bs_size]
 exact ⟨fun h => by simp at h; omega, fun _ => ⟨read107e S s q hc, trivial⟩⟩
theorem read70b (S : Set Tryz.prog Y Gl) (s : List UInt8) (b : Book) (hs : s.length ≤ 170) (hc : Computes Tryz.prog Gl 109 [str s] (.ret (tBook b))) (hb : b.ok = false) : Computes Tryz.prog Gl 70 [str s] (.ret (.tup [.agg (cBook ⟨[], [], []⟩), .c (Ci 2)])) := by
 refine fn_is S (.br .nil (.w [(nat_lit 100000,nat_lit 1),(nat_lit 100001,nat_lit 4)] [T.fn (108:FuncId) [] [T.addr FAR (0:Nat),T.addr (FAR+1) (0:Nat)]] (readPre s) (.ret (.tup [D.agg [Ci 0,Ci 0],D.c (Ci 0)])) (readPost b) (.ff (.r (.ret (B false)) (.tt .nil))))) Tryz.func70 (by kernel_rfl) ((decide (170<(↑(ByteArray.size (bs s)):Int))=true→(0:Nat)=(0:Nat)∧(0:Nat)=(0:Nat)∧(0:Nat)=(0:Nat)∧(3:Int)=2)∧(decide (170<(↑(ByteArray.size (bs s)):Int))=false→(108:Nat)=(108:Nat)∧bs s=bs s∧Value.slice none 0 0=Value.slice none 0 0∧Value.slice none 0 0=Value.slice none 0 0∧Value.slice none 0 0=Value.slice none 0 0∧Does Tryz.prog Y Gl yd0 (107:FuncId) [T.fn (108:FuncId) [] [T.addr FAR (0:Nat),T.addr (FAR+1) (0:Nat)]] (readPre s) (.ret (.tup [D.agg [Ci 0,Ci 0],D.c (Ci 0)])) (readPost b)∧false=false∧Computes Tryz.prog Gl 94 [tBook b] (.ret (B false))∧true=true∧(0:Nat)=(0:Nat)∧(0:Nat)=(0:Nat)∧(0:Nat)=(0:Nat)∧(2:Int)=2)) (by kernel_rfl) ?_
 simp only [stdS, imp_self, implies_true, and_true, bs_size]
 exact ⟨fun h => by simp at h; omega, fun _ => ⟨read107 S s b hc, fineF S b hb, trivial⟩⟩
theorem read70 (S : Set Tryz.prog Y Gl) (s : List UInt8) (b : Book) (hs : s.length ≤ 170) (hc : Computes Tryz.prog Gl 109 [str s] (.ret (tBook b))) (hb : b.ok = true) : Computes Tryz.prog Gl 70 [str s] (.ret (.tup [.agg (cBook b), .c (Ci 0)])) := by
 refine fn_is S (.br .nil (.w [(nat_lit 100000,nat_lit 1),(nat_lit 100001,nat_lit 4)] [T.fn (108:FuncId) [] [T.addr FAR (0:Nat),T.addr (FAR+1) (0:Nat)]] (readPre s) (.ret (.tup [D.agg [Ci 0,Ci 0],D.c (Ci 0)])) (readPost b) (.ff (.r (.ret (B true)) (.ff .nil))))) Tryz.func70 (by kernel_rfl) ((decide (170<(↑(ByteArray.size (bs s)):Int))=true→b.1.length=(0:Nat)∧b.2.length=(0:Nat)∧b.3.length=(0:Nat)∧(3:Int)=0)∧(decide (170<(↑(ByteArray.size (bs s)):Int))=false→(108:Nat)=(108:Nat)∧bs s=bs s∧Value.slice none 0 0=Value.slice none 0 0∧Value.slice none 0 0=Value.slice none 0 0∧Value.slice none 0 0=Value.slice none 0 0∧Does Tryz.prog Y Gl yd0 (107:FuncId) [T.fn (108:FuncId) [] [T.addr FAR (0:Nat),T.addr (FAR+1) (0:Nat)]] (readPre s) (.ret (.tup [D.agg [Ci 0,Ci 0],D.c (Ci 0)])) (readPost b)∧false=false∧Computes Tryz.prog Gl 94 [tBook b] (.ret (B true))∧false=false∧(SEq b.1.length (fun i=>eComp (nth b.1 i)) b.1.length fun i=>eComp (nth b.1 i))∧(SEq b.2.length (fun i=>eI (nth b.2 i)) b.2.length fun i=>eI (nth b.2 i))∧(SEq b.3.length (fun i=>eI (nth b.3 i)) b.3.length fun i=>eI (nth b.3 i))∧(0:Int)=0)) (by kernel_rfl) ?_
 simp only [stdS, imp_self, implies_true, and_true, bs_size]
 exact ⟨fun h => by simp at h; omega, fun _ => ⟨read107 S s b hc, fineT S b hb, trivial⟩⟩
def readErr (s : List UInt8) : Int := bif decide (170 < s.length) then 3 else match parse s with
 | none => 4
 | some b => bif b.ok then 0 else 2
def readBook (s : List UInt8) : Book := bif decide (170 < s.length) then ⟨[], [], []⟩ else match parse s with
 | none => ⟨[], [], []⟩
 | some b => bif b.ok then b else ⟨[], [], []⟩
theorem read70all (S : Set Tryz.prog Y Gl) (hG : GlOK Gl) (s : List UInt8) : Computes Tryz.prog Gl 70 [str s] (.ret (.tup [.agg (cBook (readBook s)), .c (Ci (readErr s))])) := by
 unfold readErr readBook
 cases hl : decide (170 < s.length) with
 | true => exact read70l S s (by simpa using hl)
 | false =>
  have hl : s.length ≤ 170 := by simp at hl; omega
  cases hp : parse s with
  | none =>
   obtain ⟨q, hq⟩ := parsed109none S hG s hl hp
   exact read70e S s q hl hq
  | some b =>
   have hc := parsed109some S hG s hl hp
   cases hb : b.ok with
   | false => simp only [cond_false]; rw [hb]; exact read70b S s b hl hc hb
   | true => simp only [cond_false]; rw [hb]; exact read70 S s b hl hc hb
end Go.Vc.Gd
namespace Go.Vc.Gd
open Go Go.Proofs Go.Vc
variable {Gl : World → Prop}
theorem u8_iff (n : Int) : inRange IntKind.u8 n ↔ 0 ≤ n ∧ n ≤ 255 := Iff.rfl
theorem u8one (x : Int) : ∀ (i : Nat), i < 1 → [List.map C.dem [C.v (Value.int IntKind.u8 x)]].getD i [] = [C.v (Value.int IntKind.u8 (u8Of ([List.map C.dem [C.v (Value.int IntKind.u8 x)]].getD i [])))] := by
 intro i hi
 have : i = 0 := by omega
 subst this
 rfl
theorem str1 (x : Int) : (strOf 1 fun i => [List.map C.dem [C.v (Value.int IntKind.u8 x)]].getD i []) = bs [UInt8.ofNat x.toNat] := rfl
theorem dec_one {n : Int} (h0 : 0 ≤ n) (h1 : n < 10) : dec n = [UInt8.ofNat (48 + n).toNat] := by
 unfold dec
 rw [Lib.decDigits, dif_pos (by omega)]
 congr 2
 omega
theorem dec_two {n : Int} (h0 : 10 ≤ n) : dec n = dec (n / 10) ++ [UInt8.ofNat (48 + n % 10).toNat] := by
 unfold dec
 rw [Lib.decDigits, dif_neg (by omega)]
 congr 2
 ·congr 1; omega
 ·congr 1; omega
theorem max_eq : IntKind.i64.max = 9223372036854775807 := rfl
theorem dec_size {n : Int} (h : sm n) : (bs (dec n)).size ≤ 2 := by rw [bs_size]; exact (dec_len h).2
theorem decimal1 (S : Set Tryz.prog Y Gl) (n : Int) (h0 : 0 ≤ n) (h1 : n < 10) : Computes Tryz.prog Gl 137 [I n] (.ret (str (dec n))) := by
 refine fn_is S (.br .nil (.br .nil (.br .nil .nil))) Tryz.func137 (by kernel_rfl) ((eqB (decide ((-10:Int)<n)) true=true→eqB (decide ((-10:Int)<n)) true=true)∧(decide ((-10:Int)<n)=true→eqB (decide ((-10:Int)<n)) true=true)∧((bif decide ((-10:Int)<n) then decide (n<(0:Int)) else false)=true→inRange IntKind.i64 ((48:Int)-n)∧inRange IntKind.u8 ((48:Int)-n)∧(∀ (i:Nat),i<(1:Nat)→List.getD [List.map C.dem [C.v (Value.int IntKind.u8 ((48:Int)-n))]] i []=[C.v (Value.int IntKind.u8 (u8Of (List.getD [List.map C.dem [C.v (Value.int IntKind.u8 ((48:Int)-n))]] i [])))])∧(↑(ByteArray.size {data:=#[(45:UInt8)]}+ByteArray.size (strOf (1:Nat) fun i=>List.getD [List.map C.dem [C.v (Value.int IntKind.u8 ((48:Int)-n))]] i [])):Int)≤IntKind.max IntKind.i64∧({data:=#[(45:UInt8)]} ++ strOf (1:Nat) fun i=>List.getD [List.map C.dem [C.v (Value.int IntKind.u8 ((48:Int)-n))]] i [])=bs (dec n))∧((bif decide ((-10:Int)<n) then decide (n<(0:Int)) else false)=false→(decide (n<(0:Int))=true→((10:Int) ≠ (0:Int)∧inRange IntKind.i64 (Int.tdiv n (10:Int)))∧False)∧(decide (n<(0:Int))=false→(decide (n<(10:Int))=true→inRange IntKind.i64 ((48:Int)+n)∧inRange IntKind.u8 ((48:Int)+n)∧(∀ (i:Nat),i<(1:Nat)→List.getD [List.map C.dem [C.v (Value.int IntKind.u8 ((48:Int)+n))]] i []=[C.v (Value.int IntKind.u8 (u8Of (List.getD [List.map C.dem [C.v (Value.int IntKind.u8 ((48:Int)+n))]] i [])))])∧(strOf (1:Nat) fun i=>List.getD [List.map C.dem [C.v (Value.int IntKind.u8 ((48:Int)+n))]] i [])=bs (dec n))∧(decide (n<(10:Int))=false→((10:Int) ≠ (0:Int)∧inRange IntKind.i64 (Int.tdiv n (10:Int)))∧False)))) (by kernel_rfl) ?_
 simp only [stdS, imp_self, implies_true, and_true, str1]
 refine ⟨fun h => ?_, fun _ => ⟨fun h => ?_, fun _ => ⟨fun _ => ⟨(rng_iff _).2 (by omega), (u8_iff _).2 (by omega), u8one _, by rw [dec_one h0 h1]⟩, fun h => ?_⟩⟩⟩
 ·simp at h; omega
 ·simp at h; omega
 ·simp at h; omega
theorem decimal2 (S : Set Tryz.prog Y Gl) (n : Int) (h0 : 10 ≤ n) (h1 : n < 100) : Computes Tryz.prog Gl 137 [I n] (.ret (str (dec n))) := by
 refine fn_is S (.br .nil (.br (.r (.ret (str (dec (Int.tdiv n (10:Int))))) .nil) (.br .nil (.r (.ret (str (dec (Int.tdiv n (10:Int))))) .nil)))) Tryz.func137 (by kernel_rfl) (let A0:=(Int.tdiv n (10:Int));let A1:=(Value.int IntKind.u8 ((48:Int)-Int.tmod n (10:Int)));let A2:=(Value.int IntKind.u8 ((48:Int)+Int.tmod n (10:Int)));let A3:=(Value.int IntKind.u8 ((48:Int)-n));let A4:=(Value.int IntKind.u8 ((48:Int)+n));(eqB (decide ((-10:Int)<n)) true=true→eqB (decide ((-10:Int)<n)) true=true)∧(decide ((-10:Int)<n)=true→eqB (decide ((-10:Int)<n)) true=true)∧((bif decide ((-10:Int)<n) then decide (n<(0:Int)) else false)=true→inRange IntKind.i64 ((48:Int)-n)∧inRange IntKind.u8 ((48:Int)-n)∧(∀ (i:Nat),i<(1:Nat)→List.getD [List.map C.dem [C.v A3]] i []=[C.v (Value.int IntKind.u8 (u8Of (List.getD [List.map C.dem [C.v A3]] i [])))])∧(↑(ByteArray.size {data:=#[(45:UInt8)]}+ByteArray.size (strOf (1:Nat) fun i=>List.getD [List.map C.dem [C.v A3]] i [])):Int)≤IntKind.max IntKind.i64∧({data:=#[(45:UInt8)]} ++ strOf (1:Nat) fun i=>List.getD [List.map C.dem [C.v A3]] i [])=bs (dec n))∧((bif decide ((-10:Int)<n) then decide (n<(0:Int)) else false)=false→(decide (n<(0:Int))=true→((10:Int) ≠ (0:Int)∧inRange IntKind.i64 A0)∧Computes Tryz.prog Gl 137 [I A0] (.ret (str (dec A0)))∧(10:Int) ≠ (0:Int)∧inRange IntKind.i64 ((48:Int)-Int.tmod n (10:Int))∧inRange IntKind.u8 ((48:Int)-Int.tmod n (10:Int))∧(∀ (i:Nat),i<(1:Nat)→List.getD [List.map C.dem [C.v A1]] i []=[C.v (Value.int IntKind.u8 (u8Of (List.getD [List.map C.dem [C.v A1]] i [])))])∧(↑(ByteArray.size (bs (dec A0))+ByteArray.size (strOf (1:Nat) fun i=>List.getD [List.map C.dem [C.v A1]] i [])):Int)≤IntKind.max IntKind.i64∧(bs (dec A0) ++ strOf (1:Nat) fun i=>List.getD [List.map C.dem [C.v A1]] i [])=bs (dec n))∧(decide (n<(0:Int))=false→(decide (n<(10:Int))=true→inRange IntKind.i64 ((48:Int)+n)∧inRange IntKind.u8 ((48:Int)+n)∧(∀ (i:Nat),i<(1:Nat)→List.getD [List.map C.dem [C.v A4]] i []=[C.v (Value.int IntKind.u8 (u8Of (List.getD [List.map C.dem [C.v A4]] i [])))])∧(strOf (1:Nat) fun i=>List.getD [List.map C.dem [C.v A4]] i [])=bs (dec n))∧(decide (n<(10:Int))=false→((10:Int) ≠ (0:Int)∧inRange IntKind.i64 A0)∧Computes Tryz.prog Gl 137 [I A0] (.ret (str (dec A0)))∧(10:Int) ≠ (0:Int)∧inRange IntKind.i64 ((48:Int)+Int.tmod n (10:Int))∧inRange IntKind.u8 ((48:Int)+Int.tmod n (10:Int))∧(∀ (i:Nat),i<(1:Nat)→List.getD [List.map C.dem [C.v A2]] i []=[C.v (Value.int IntKind.u8 (u8Of (List.getD [List.map C.dem [C.v A2]] i [])))])∧(↑(ByteArray.size (bs (dec A0))+ByteArray.size (strOf (1:Nat) fun i=>List.getD [List.map C.dem [C.v A2]] i [])):Int)≤IntKind.max IntKind.i64∧(bs (dec A0) ++ strOf (1:Nat) fun i=>List.getD [List.map C.dem [C.v A2]] i [])=bs (dec n))))) (by kernel_rfl) ?_
 have hd : Int.tdiv n 10 = n / 10 := Int.tdiv_eq_ediv_of_nonneg (by omega)
 have hm : Int.tmod n 10 = n % 10 := Int.tmod_eq_emod_of_nonneg (by omega)
 simp only [stdS, imp_self, implies_true, and_true, str1, hd, hm]
 refine ⟨fun h => ?_, fun _ => ⟨fun h => ?_, fun _ => ⟨fun h => ?_, fun _ => ⟨⟨by decide, (rng_iff _).2 (by omega)⟩, decimal1 S _ (by omega) (by omega), by decide, (rng_iff _).2 (by omega), (u8_iff _).2 (by omega), u8one _, ?_, by rw [bs_app, ← dec_two h0]⟩⟩⟩⟩
 ·simp at h; omega
 ·simp at h; omega
 ·simp at h; omega
 ·have := dec_size (n := n / 10) ⟨by omega, by omega⟩
  rw [max_eq, bs_size [_]]
  simp only [List.length_singleton]
  omega
theorem decimal137 (S : Set Tryz.prog Y Gl) (n : Int) (h : sm n) : Computes Tryz.prog Gl 137 [I n] (.ret (str (dec n))) := by
 by_cases h1 : n < 10
 ·exact decimal1 S n h.1 h1
 ·exact decimal2 S n (by omega) h.2
theorem row110 (S : Set Tryz.prog Y Gl) (w : List UInt8) (l : List Int) (hw : w.length ≤ 100) (hl : l.length ≤ 1000) (hn : ∀ n ∈ l, sm n) : Computes Tryz.prog Gl 110 [str w, L eI l] (.ret (str (w ++ nums l))) := by
 refine fn_is S (.loop l.length (fun k=>[v 5 (I ↑k),v 1 (L eI l),v 0 (str (w ++ nums (List.take k l)))]) fun k0=>.br (.r (.ret (str (dec (nth l k0)))) .nil) .nil) Tryz.func110 (by kernel_rfl) ((0=(↑(0:Nat):Int)∧(SEq l.length (fun i=>eI (nth l i)) l.length fun i=>eI (nth l i))∧bs w=bs (w ++ nums (List.take (0:Nat) l)))∧∀ (k0:Nat),k0≤l.length→l.length≤maxLen→(decide ((↑k0:Int)<(↑l.length:Int))=true→(↑(ByteArray.size (bs (w ++ nums (List.take k0 l)))+ByteArray.size {data:=#[(32:UInt8)]}):Int)≤IntKind.max IntKind.i64∧(0≤(↑k0:Int)∧(↑k0:Int)<(↑l.length:Int))∧Computes Tryz.prog Gl 137 [I (nth l k0)] (.ret (str (dec (nth l k0))))∧(↑(ByteArray.size (bs (w ++ nums (List.take k0 l)) ++ {data:=#[(32:UInt8)]})+ByteArray.size (bs (dec (nth l k0)))):Int)≤IntKind.max IntKind.i64∧inRange IntKind.i64 ((↑k0:Int)+1)∧k0<l.length∧(↑k0:Int)+1=(↑(k0+1):Int)∧(SEq l.length (fun i=>eI (nth l i)) l.length fun i=>eI (nth l i))∧bs (w ++ nums (List.take k0 l)) ++ {data:=#[(32:UInt8)]} ++ bs (dec (nth l k0))=bs (w ++ nums (List.take (k0+1) l)))∧(decide ((↑k0:Int)<(↑l.length:Int))=false→bs (w ++ nums (List.take k0 l))=bs (w ++ nums l))) (by kernel_rfl) ?_
 have hlen : ∀ k, (nums (l.take k)).length ≤ 3 * l.length := fun k => by
  have := nums_len (l := l.take k) fun x hx => hn x (List.mem_of_mem_take hx)
  rw [List.length_take] at this
  omega
 have e32 : ({ data := #[32] } : ByteArray) = bs [32] := rfl
 simp only [stdS, imp_self, implies_true, and_true, e32]
 refine ⟨by simp [nums], fun k hk _ => ⟨fun hlt => ?_, fun hlt => ?_⟩⟩
 ·have hlt : k < l.length := by simpa using hlt
  have hs := hn (nth l k) (nth_mem hlt)
  have hd := dec_size hs
  have h1 := hlen k
  rw [bs_size] at hd
  refine ⟨?_, ⟨by omega, by omega⟩, decimal137 S _ hs, ?_, (rng_iff _).2 (by omega), hlt, rfl, ?_⟩
  ·rw [max_eq, bs_size, bs_size]
   simp only [List.length_append, List.length_singleton]
   omega
  ·rw [bs_app, max_eq, bs_size, bs_size]
   simp only [List.length_append, List.length_singleton]
   omega
  ·rw [bs_app, bs_app, nums_take hlt]
   simp
 ·have hlt : ¬ k < l.length := by simpa using hlt
  rw [List.take_of_length_le (by omega)]
end Go.Vc.Gd
namespace Go.Vc.Gd
open Go Go.Proofs Go.Vc
variable {Gl : World → Prop}
theorem sealed111 (S : Set Tryz.prog Y Gl) (rows : List (List UInt8)) (hn : rows.length ≤ 901) (hr29 : ∀ i, i < rows.length → (nth rows i).length ≤ 29) : Computes Tryz.prog Gl 111 [L eS rows, I 251] (.ret (str (sealed rows))) := by
 refine fn_is S (.loop rows.length (fun i=>[v 7 (I ↑i),v 6 (I (checkTo rows i)),v 5 (str (outTo rows i)),v 1 (I 251),v 0 (L eS rows)]) fun k0=>.br (.loop (List.length (nth rows k0)) (fun k=>[v 8 (I ↑k),v 7 (I ↑k0),v 6 (I (checkTo rows k0+sumTo (nth rows k0) k0 k)),v 5 (str (outTo rows k0)),v 1 (I 251),v 0 (L eS rows)]) fun k1=>.br .nil .nil) (.r (.ret (str (dec (Int.tdiv (Int.tmod (checkTo rows k0) (251:Int)) (100:Int))))) (.r (.ret (str (dec (Int.tmod (Int.tdiv (Int.tmod (checkTo rows k0) (251:Int)) (10:Int)) (10:Int))))) (.r (.ret (str (dec (Int.tmod (Int.tmod (checkTo rows k0) (251:Int)) (10:Int))))) .nil)))) Tryz.func111 (by kernel_rfl) (let A0:=fun (k0:Nat)=>(Int.tmod (checkTo rows k0) (251:Int));let A1:=fun (k0:Nat)=>(Int.tmod (Int.tdiv (A0 k0) (10:Int)) (10:Int));let A2:=fun (k0:Nat)=>(Int.tdiv (A0 k0) (100:Int));let A3:=fun (k0:Nat)=>(outTo rows k0);let A4:=fun (k0:Nat)=>(nth rows k0);let A5:=fun (k0:Nat)=>(0≤(↑k0:Int)∧(↑k0:Int)<(↑rows.length:Int));let A6:=fun (k0:Nat)=>(Int.tmod (A0 k0) (10:Int));let A7:=(fun i=>eS (nth rows i));(0=(↑(0:Nat):Int)∧(0:Int)=checkTo rows (0:Nat)∧{data:=#[]}=bs (outTo rows (0:Nat))∧(251:Int)=251∧SEq rows.length A7 rows.length fun i=>eS (nth rows i))∧∀ (k0:Nat),k0≤rows.length→rows.length≤maxLen→(decide ((↑k0:Int)<(↑rows.length:Int))=true→(0=(↑(0:Nat):Int)∧(↑k0:Int)=(↑k0:Int)∧checkTo rows k0=checkTo rows k0+sumTo (A4 k0) k0 (0:Nat)∧bs (A3 k0)=bs (A3 k0)∧(251:Int)=251∧SEq rows.length A7 rows.length fun i=>eS (nth rows i))∧∀ (k1:Nat),k1≤List.length (A4 k0)→(A5 k0)∧(decide ((↑k1:Int)<(↑(ByteArray.size (bs (nth rows k0))):Int))=true→(A5 k0)∧(0≤(↑k1:Int)∧(↑k1:Int)<(↑(ByteArray.size (bs (A4 k0))):Int))∧inRange IntKind.i64 (byteAt (bs (A4 k0)) k1)∧inRange IntKind.i64 ((↑k1:Int)+1)∧inRange IntKind.i64 (byteAt (bs (A4 k0)) k1*((↑k1:Int)+1))∧inRange IntKind.i64 ((↑k0:Int)+1)∧inRange IntKind.i64 (byteAt (bs (A4 k0)) k1*((↑k1:Int)+1)*((↑k0:Int)+1))∧inRange IntKind.i64 (checkTo rows k0+sumTo (A4 k0) k0 k1+byteAt (bs (A4 k0)) k1*((↑k1:Int)+1)*((↑k0:Int)+1))∧inRange IntKind.i64 ((↑k1:Int)+1)∧k1<List.length (A4 k0)∧(↑k1:Int)+1=(↑(k1+1):Int)∧(↑k0:Int)=(↑k0:Int)∧checkTo rows k0+sumTo (A4 k0) k0 k1+byteAt (bs (A4 k0)) k1*((↑k1:Int)+1)*((↑k0:Int)+1)=checkTo rows k0+sumTo (A4 k0) k0 (k1+1)∧bs (A3 k0)=bs (A3 k0)∧(251:Int)=251∧SEq rows.length A7 rows.length fun i=>eS (nth rows i))∧(decide ((↑k1:Int)<(↑(ByteArray.size (bs (nth rows k0))):Int))=false→(A5 k0)∧(↑(ByteArray.size (bs (A3 k0))+ByteArray.size (bs (A4 k0))):Int)≤IntKind.max IntKind.i64∧(↑(ByteArray.size (bs (A3 k0) ++ bs (A4 k0))+ByteArray.size {data:=#[(10:UInt8)]}):Int)≤IntKind.max IntKind.i64∧inRange IntKind.i64 ((↑k0:Int)+1)∧k0<rows.length∧(↑k0:Int)+1=(↑(k0+1):Int)∧checkTo rows k0+sumTo (A4 k0) k0 k1=checkTo rows (k0+1)∧bs (A3 k0) ++ bs (A4 k0) ++ {data:=#[(10:UInt8)]}=bs (outTo rows (k0+1))∧(251:Int)=251∧SEq rows.length A7 rows.length fun i=>eS (nth rows i)))∧(decide ((↑k0:Int)<(↑rows.length:Int))=false→(251:Int) ≠ (0:Int)∧(↑(ByteArray.size (bs (A3 k0))+ByteArray.size {data:=#[(101:UInt8),(110:UInt8),(100:UInt8),(32:UInt8)]}):Int)≤IntKind.max IntKind.i64∧((100:Int) ≠ (0:Int)∧inRange IntKind.i64 (A2 k0))∧Computes Tryz.prog Gl 137 [I (A2 k0)] (.ret (str (dec (A2 k0))))∧(↑(ByteArray.size (bs (A3 k0) ++ {data:=#[(101:UInt8),(110:UInt8),(100:UInt8),(32:UInt8)]})+ByteArray.size (bs (dec (A2 k0)))):Int)≤IntKind.max IntKind.i64∧((10:Int) ≠ (0:Int)∧inRange IntKind.i64 (Int.tdiv (A0 k0) (10:Int)))∧(10:Int) ≠ (0:Int)∧Computes Tryz.prog Gl 137 [I (A1 k0)] (.ret (str (dec (A1 k0))))∧(↑(ByteArray.size (bs (A3 k0) ++ {data:=#[(101:UInt8),(110:UInt8),(100:UInt8),(32:UInt8)]} ++ bs (dec (A2 k0)))+ByteArray.size (bs (dec (A1 k0)))):Int)≤IntKind.max IntKind.i64∧(10:Int) ≠ (0:Int)∧Computes Tryz.prog Gl 137 [I (A6 k0)] (.ret (str (dec (A6 k0))))∧(↑(ByteArray.size (bs (A3 k0) ++ {data:=#[(101:UInt8),(110:UInt8),(100:UInt8),(32:UInt8)]} ++ bs (dec (A2 k0)) ++ bs (dec (A1 k0)))+ByteArray.size (bs (dec (A6 k0)))):Int)≤IntKind.max IntKind.i64∧(↑(ByteArray.size (bs (A3 k0) ++ {data:=#[(101:UInt8),(110:UInt8),(100:UInt8),(32:UInt8)]} ++ bs (dec (A2 k0)) ++ bs (dec (A1 k0)) ++ bs (dec (A6 k0)))+ByteArray.size {data:=#[(10:UInt8)]}):Int)≤IntKind.max IntKind.i64∧bs (A3 k0) ++ {data:=#[(101:UInt8),(110:UInt8),(100:UInt8),(32:UInt8)]} ++ bs (dec (A2 k0)) ++ bs (dec (A1 k0)) ++ bs (dec (A6 k0)) ++ {data:=#[(10:UInt8)]}=bs (sealed rows))) (by kernel_rfl) ?_
 have e10 : ({ data := #[10] } : ByteArray) = bs [10] := rfl
 have e0 : ({ data := #[] } : ByteArray) = bs [] := rfl
 have eE : ({ data := #[101, 110, 100, 32] } : ByteArray) = bs lEnd := rfl
 simp only [stdS, imp_self, implies_true, and_true, e10, e0, eE, bs_size, bs_app, decide_eq_true_eq, decide_eq_false_iff_not]
 refine ⟨⟨rfl, rfl, trivial⟩, fun k3 hk3 hmx => ⟨fun hlt => ?_, fun hlt => ?_⟩⟩
 ·have hlt : k3 < rows.length := by omega
  have hw := hr29 k3 hlt
  have hco := checkTo_le hr29 k3 (by omega) (by omega)
  have hou := outTo_le hr29 k3 (by omega)
  have e1 : checkTo rows (k3 + 1) = checkTo rows k3 + sumTo (nth rows k3) k3 (nth rows k3).length := rfl
  have e2 : outTo rows (k3 + 1) = outTo rows k3 ++ (nth rows k3 ++ [10]) := rfl
  generalize nth rows k3 = w at *
  refine ⟨⟨by unfold sumTo; omega, trivial⟩, fun k4 hk4 => ⟨⟨by omega, by omega⟩, fun hl4 => ?_, fun hl4 => ?_⟩⟩
  ·have hl4 : k4 < w.length := by omega
   have ht := term_le (x := nth w k4) (k := k4) (i := k3) (by omega) (by omega)
   have hsu := sumTo_le (w := w) (i := k3) (by omega) k4 (by omega)
   have hx : ((nth w k4).toNat : Int) < 256 := by have := (nth w k4).toNat_lt; omega
   rw [byteAt_bs hl4]
   refine ⟨⟨by omega, by omega⟩, ⟨by omega, by omega⟩, (rng_iff _).2 (by omega), (rng_iff _).2 (by omega), (rng_iff _).2 (by omega), (rng_iff _).2 (by omega), (rng_iff _).2 (by omega), (rng_iff _).2 (by omega), (rng_iff _).2 (by omega), hl4, rfl, ?_, trivial⟩
   rw [sumTo, Int.add_assoc]
  ·have hl4 : k4 = w.length := by omega
   subst hl4
   refine ⟨⟨by omega, by omega⟩, by rw [max_eq]; omega, by rw [max_eq]; simp only [List.length_append, List.length_singleton]; omega, (rng_iff _).2 (by omega), hlt, rfl, e1.symm, ?_, trivial⟩
   rw [e2, List.append_assoc]
 ·obtain rfl : k3 = rows.length := by omega
  have hco := checkTo_le hr29 rows.length (by omega) (by omega)
  have hou := outTo_le hr29 rows.length (by omega)
  have htx : sealed rows = outTo rows rows.length ++ lEnd ++ dec (Int.tdiv (Int.tmod (checkTo rows rows.length) 251) 100) ++ dec (Int.tmod (Int.tdiv (Int.tmod (checkTo rows rows.length) 251) 10) 10) ++ dec (Int.tmod (Int.tmod (checkTo rows rows.length) 251) 10) ++ [10] := by
   unfold sealed checkOf
   rfl
  rw [htx]
  have hM : 0 ≤ Int.tmod (checkTo rows rows.length) 251 ∧ Int.tmod (checkTo rows rows.length) 251 < 251 := by
   rw [Int.tmod_eq_emod_of_nonneg hco.1]
   omega
  generalize Int.tmod (checkTo rows rows.length) 251 = M at *
  have h1' : Int.tdiv M 100 = M / 100 := Int.tdiv_eq_ediv_of_nonneg hM.1
  have h2' : Int.tdiv M 10 = M / 10 := Int.tdiv_eq_ediv_of_nonneg hM.1
  have h3' : Int.tmod (M / 10) 10 = M / 10 % 10 := Int.tmod_eq_emod_of_nonneg (by omega)
  have h4' : Int.tmod M 10 = M % 10 := Int.tmod_eq_emod_of_nonneg hM.1
  rw [h1', h2', h3', h4']
  have s1 : sm (M / 100) := ⟨by omega, by omega⟩
  have s2 : sm (M / 10 % 10) := ⟨by omega, by omega⟩
  have s3 : sm (M % 10) := ⟨by omega, by omega⟩
  have l1 := dec_len s1
  have l2 := dec_len s2
  have l3 := dec_len s3
  have lE : lEnd.length = 4 := rfl
  refine ⟨by decide, ?_, ⟨by decide, (rng_iff _).2 (by omega)⟩, decimal137 S _ s1, ?_, ⟨by decide, (rng_iff _).2 (by omega)⟩, by decide, decimal137 S _ s2, ?_, by decide, decimal137 S _ s3, ?_, ?_, rfl⟩
  all_goals
   rw [max_eq]
   try simp only [List.length_append, List.length_singleton]
   omega
theorem rowR (S : Set Tryz.prog Y Gl) (w : List UInt8) (hw : w.length ≤ 100) (l : List Int) (hl : l.length ≤ 1000) (hn : ∀ n ∈ l, sm n) (n : Nat) (f : Nat → List C) (h : SEq n f l.length (fun i => eI (nth l i))) : Computes Tryz.prog Gl 110 [str w, .d (.c (.s .n n f))] (.ret (str (w ++ nums l))) :=
 (row110 S w l hw hl hn).args (show bs w = bs w ∧ SEq n f l.length (fun i => eI (nth l i)) from ⟨rfl, h⟩)
def rowsTo (b : Book) (i j k : Nat) : List (List UInt8) := (lnsTo b i j k).map lnT
theorem print71 (S : Set Tryz.prog Y Gl) (b : Book) (hb : b.low) : Computes Tryz.prog Gl 71 [tBook b] (.ret (str b.text)) := by
 refine fn_is S (.loop (List.length (Book.comps b)) (fun k=>tk 100 9::v 4 (I ↑k)::v 3 (Lt 100 eS (rowsTo b k (0:Nat) (0:Nat)))::v 1 (ad 1)::bx 1 (cBook b)) fun k0=>.br (.r (.ret (str ([(99:UInt8),(111:UInt8),(109:UInt8),(112:UInt8),(117:UInt8),(116:UInt8),(101:UInt8),(114:UInt8)] ++ nums (lnN (Ln.comp (nth (Book.comps b) k0)))))) .nil) (.loop (List.length (Book.dues b)) (fun k=>tk 100 9::v 6 (I ↑k)::v 3 (Lt 100 eS (rowsTo b (List.length (Book.comps b)) k (0:Nat)))::v 1 (ad 1)::bx 1 (cBook b)) fun k1=>.br (.r (.ret (str ([(116:UInt8),(97:UInt8),(98:UInt8),(108:UInt8),(101:UInt8)] ++ nums [nth (Book.dues b) k1]))) .nil) (.loop (List.length (Book.sheets b)) (fun k=>tk 100 9::v 7 (I ↑k)::v 3 (Lt 100 eS (rowsTo b (List.length (Book.comps b)) (List.length (Book.dues b)) k))::v 1 (ad 1)::bx 1 (cBook b)) fun k2=>.br (.r (.ret (str ([(115:UInt8),(104:UInt8),(101:UInt8),(101:UInt8),(116:UInt8)] ++ nums [nth (Book.sheets b) k2]))) .nil) (.r (.ret (str (sealed (rowsTo b (List.length (Book.comps b)) (List.length (Book.dues b)) k2)))) .nil)))) Tryz.func71 (by kernel_rfl) (let A0:=(SEq b.1.length (fun i=>eComp (nth b.1 i)) b.1.length fun i=>eComp (nth b.1 i));let A1:=(SEq b.2.length (fun i=>eI (nth b.2 i)) b.2.length fun i=>eI (nth b.2 i));let A2:=fun (k1:Nat)=>(rowsTo b b.1.length k1 (0:Nat));let A3:=(Book.comps b);let A4:=fun (k2:Nat)=>(rowsTo b b.1.length b.2.length k2);let A5:=fun (k0:Nat)=>(rowsTo b k0 (0:Nat) (0:Nat));let A6:=(fun i=>eI (nth b.3 i));(0=(↑(0:Nat):Int)∧(SEq (1:Nat) (fun i=>List.getD [List.map C.dem [C.v (Value.string {data:=#[(103:UInt8),(105:UInt8),(118:UInt8),(101:UInt8)]})]] i []) (List.length (rowsTo b (0:Nat) (0:Nat) (0:Nat))) fun i=>eS (nth (rowsTo b (0:Nat) (0:Nat) (0:Nat)) i))∧A0∧A1∧SEq b.3.length A6 b.3.length fun i=>eI (nth b.3 i))∧∀ (k0:Nat),k0≤List.length A3→b.1.length≤maxLen→(decide ((↑k0:Int)<(↑b.1.length:Int))=true→(0≤(↑k0:Int)∧(↑k0:Int)<(↑b.1.length:Int))∧Computes Tryz.prog Gl 110 [str [(99:UInt8),(111:UInt8),(109:UInt8),(112:UInt8),(117:UInt8),(116:UInt8),(101:UInt8),(114:UInt8)],T.d (D.c (C.s Tag.n (7:Nat) fun i=>List.getD [List.map C.dem [C.v (Value.int IntKind.i64 (Comp.room (nth A3 k0)))],List.map C.dem [C.v (Value.int IntKind.i64 (Span.low (Comp.post (nth A3 k0))))],List.map C.dem [C.v (Value.int IntKind.i64 (Span.high (Comp.post (nth A3 k0))))],List.map C.dem [C.v (Value.int IntKind.i64 (Span.low (Comp.sheet (nth A3 k0))))],List.map C.dem [C.v (Value.int IntKind.i64 (Span.high (Comp.sheet (nth A3 k0))))],List.map C.dem [C.v (Value.int IntKind.i64 (Span.low (Comp.look (nth A3 k0))))],List.map C.dem [C.v (Value.int IntKind.i64 (Span.high (Comp.look (nth A3 k0))))]] i []))] (.ret (str ([(99:UInt8),(111:UInt8),(109:UInt8),(112:UInt8),(117:UInt8),(116:UInt8),(101:UInt8),(114:UInt8)] ++ nums (lnN (Ln.comp (nth A3 k0))))))∧(List.length (A5 k0)+1)*16≤140737488355328∧List.length (A5 k0)+1≤140737488355328∧inRange IntKind.i64 ((↑k0:Int)+1)∧k0<List.length A3∧(↑k0:Int)+1=(↑(k0+1):Int)∧(SEq (List.length (A5 k0)+1) (catF (List.length (A5 k0)) (fun i=>eS (nth (A5 k0) i)) fun i=>List.getD [List.map C.dem [C.v (Value.string (bs ([(99:UInt8),(111:UInt8),(109:UInt8),(112:UInt8),(117:UInt8),(116:UInt8),(101:UInt8),(114:UInt8)] ++ nums (lnN (Ln.comp (nth b.1 k0))))))]] i []) (List.length (rowsTo b (k0+1) (0:Nat) (0:Nat))) fun i=>eS (nth (rowsTo b (k0+1) (0:Nat) (0:Nat)) i))∧A0∧A1∧SEq b.3.length A6 b.3.length fun i=>eI (nth b.3 i))∧(decide ((↑k0:Int)<(↑b.1.length:Int))=false→(0=(↑(0:Nat):Int)∧(SEq (List.length (A5 k0)) (fun i=>eS (nth (A5 k0) i)) (List.length (rowsTo b b.1.length (0:Nat) (0:Nat))) fun i=>eS (nth (rowsTo b b.1.length (0:Nat) (0:Nat)) i))∧A0∧A1∧SEq b.3.length A6 b.3.length fun i=>eI (nth b.3 i))∧∀ (k1:Nat),k1≤List.length (Book.dues b)→b.2.length≤maxLen→(decide ((↑k1:Int)<(↑b.2.length:Int))=true→(0≤(↑k1:Int)∧(↑k1:Int)<(↑b.2.length:Int))∧Computes Tryz.prog Gl 110 [str [(116:UInt8),(97:UInt8),(98:UInt8),(108:UInt8),(101:UInt8)],T.d (D.c (C.s Tag.n (1:Nat) fun i=>List.getD [List.map C.dem [C.v (Value.int IntKind.i64 (nth (Book.dues b) k1))]] i []))] (.ret (str ([(116:UInt8),(97:UInt8),(98:UInt8),(108:UInt8),(101:UInt8)] ++ nums [nth (Book.dues b) k1])))∧(List.length (A2 k1)+1)*16≤140737488355328∧List.length (A2 k1)+1≤140737488355328∧inRange IntKind.i64 ((↑k1:Int)+1)∧k1<List.length (Book.dues b)∧(↑k1:Int)+1=(↑(k1+1):Int)∧(SEq (List.length (A2 k1)+1) (catF (List.length (A2 k1)) (fun i=>eS (nth (A2 k1) i)) fun i=>List.getD [List.map C.dem [C.v (Value.string (bs ([(116:UInt8),(97:UInt8),(98:UInt8),(108:UInt8),(101:UInt8)] ++ nums [nth b.2 k1])))]] i []) (List.length (rowsTo b b.1.length (k1+1) (0:Nat))) fun i=>eS (nth (rowsTo b b.1.length (k1+1) (0:Nat)) i))∧A0∧A1∧SEq b.3.length A6 b.3.length fun i=>eI (nth b.3 i))∧(decide ((↑k1:Int)<(↑b.2.length:Int))=false→(0=(↑(0:Nat):Int)∧(SEq (List.length (A2 k1)) (fun i=>eS (nth (A2 k1) i)) (List.length (rowsTo b b.1.length b.2.length (0:Nat))) fun i=>eS (nth (rowsTo b b.1.length b.2.length (0:Nat)) i))∧A0∧A1∧SEq b.3.length A6 b.3.length fun i=>eI (nth b.3 i))∧∀ (k2:Nat),k2≤List.length (Book.sheets b)→b.3.length≤maxLen→(decide ((↑k2:Int)<(↑b.3.length:Int))=true→(0≤(↑k2:Int)∧(↑k2:Int)<(↑b.3.length:Int))∧Computes Tryz.prog Gl 110 [str [(115:UInt8),(104:UInt8),(101:UInt8),(101:UInt8),(116:UInt8)],T.d (D.c (C.s Tag.n (1:Nat) fun i=>List.getD [List.map C.dem [C.v (Value.int IntKind.i64 (nth (Book.sheets b) k2))]] i []))] (.ret (str ([(115:UInt8),(104:UInt8),(101:UInt8),(101:UInt8),(116:UInt8)] ++ nums [nth (Book.sheets b) k2])))∧(List.length (A4 k2)+1)*16≤140737488355328∧List.length (A4 k2)+1≤140737488355328∧inRange IntKind.i64 ((↑k2:Int)+1)∧k2<List.length (Book.sheets b)∧(↑k2:Int)+1=(↑(k2+1):Int)∧(SEq (List.length (A4 k2)+1) (catF (List.length (A4 k2)) (fun i=>eS (nth (A4 k2) i)) fun i=>List.getD [List.map C.dem [C.v (Value.string (bs ([(115:UInt8),(104:UInt8),(101:UInt8),(101:UInt8),(116:UInt8)] ++ nums [nth b.3 k2])))]] i []) (List.length (rowsTo b b.1.length b.2.length (k2+1))) fun i=>eS (nth (rowsTo b b.1.length b.2.length (k2+1)) i))∧A0∧A1∧SEq b.3.length A6 b.3.length fun i=>eI (nth b.3 i))∧(decide ((↑k2:Int)<(↑b.3.length:Int))=false→Computes Tryz.prog Gl 111 [L eS (rowsTo b (List.length A3) (List.length (Book.dues b)) k2),I 251] (.ret (str (sealed (rowsTo b (List.length A3) (List.length (Book.dues b)) k2))))∧bs (sealed (A4 k2))=bs (Book.text b))))) (by kernel_rfl) ?_
 obtain ⟨hc, hd, hs, hn⟩ := id hb
 have hall : rowsTo b b.comps.length b.dues.length b.sheets.length = b.rows := by unfold rowsTo Book.rows; rw [lnsTo_all]
 have hrl : ∀ i j k, (rowsTo b i j k).length ≤ 1 + i + j + k := fun i j k => by unfold rowsTo; rw [List.length_map]; exact lnsTo_len b i j k
 have hsc : ∀ k, k < b.comps.length → ∀ n ∈ lnN (.comp (nth b.comps k)), sm n := fun k hk => hn _ (by
  unfold Book.lns
  simp only [List.mem_cons, List.mem_append, List.mem_map]
  exact .inr (.inl (.inl ⟨_, nth_mem hk, rfl⟩)))
 have hsd : ∀ k, k < b.dues.length → ∀ n ∈ [nth b.dues k], sm n := fun k hk => hn (.due (nth b.dues k)) (by
  unfold Book.lns
  simp only [List.mem_cons, List.mem_append, List.mem_map]
  exact .inr (.inl (.inr ⟨_, nth_mem hk, rfl⟩)))
 have hss : ∀ k, k < b.sheets.length → ∀ n ∈ [nth b.sheets k], sm n := fun k hk => hn (.sheet (nth b.sheets k)) (by
  unfold Book.lns
  simp only [List.mem_cons, List.mem_append, List.mem_map]
  exact .inr (.inr ⟨_, nth_mem hk, rfl⟩))
 have q0 : SEq 1 (fun i => [List.map C.dem [C.v (Value.string { data := #[103, 105, 118, 101] })]].getD i []) (rowsTo b 0 0 0).length (fun i => eS (nth (rowsTo b 0 0 0) i)) := by
  refine ⟨rfl, fun i hi => .inl ?_⟩
  have : i = 0 := by omega
  subst this
  rfl
 simp only [stdS, imp_self, implies_true, and_true]
 refine ⟨⟨q0, trivial⟩, fun k0 hk0 _ => ⟨fun hlt => ?_, fun hlt => ?_⟩⟩
 ·have hlt : k0 < b.comps.length := by simpa using hlt
  have := hrl k0 0 0
  refine ⟨⟨by omega, by omega⟩, rowR S _ (by show 8 ≤ 100; decide) (lnN (.comp (nth b.comps k0))) (by show 7 ≤ 1000; decide) (hsc k0 hlt) 7 _ ⟨rfl, fun i hi => ?_⟩, by omega, by omega, (rng_iff _).2 (by omega), hlt, rfl, SEq_push1 (x := lnT (.comp (nth b.comps k0))) ?_ rfl, trivial⟩
  ·have : i = 0 ∨ i = 1 ∨ i = 2 ∨ i = 3 ∨ i = 4 ∨ i = 5 ∨ i = 6 := by omega
   rcases this with rfl | rfl | rfl | rfl | rfl | rfl | rfl <;> exact .inl rfl
  ·unfold rowsTo; rw [lnsTo_c hlt, List.map_append]; rfl
 obtain rfl : k0 = b.comps.length := by
  have : ¬ k0 < b.comps.length := by simpa using hlt
  omega
 refine ⟨⟨SEq_whole rfl, trivial⟩, fun k1 hk1 _ => ⟨fun hlt => ?_, fun hlt => ?_⟩⟩
 ·have hlt : k1 < b.dues.length := by simpa using hlt
  have := hrl b.comps.length k1 0
  refine ⟨⟨by omega, by omega⟩, rowR S _ (by show 5 ≤ 100; decide) [nth b.dues k1] (by show 1 ≤ 1000; decide) (hsd k1 hlt) 1 _ (seq1 rfl), by omega, by omega, (rng_iff _).2 (by omega), hlt, rfl, SEq_push1 (x := lnT (.due (nth b.dues k1))) ?_ rfl, trivial⟩
  unfold rowsTo; rw [lnsTo_d hlt, List.map_append]; rfl
 obtain rfl : k1 = b.dues.length := by
  have : ¬ k1 < b.dues.length := by simpa using hlt
  omega
 refine ⟨⟨SEq_whole rfl, trivial⟩, fun k2 hk2 _ => ⟨fun hlt => ?_, fun hlt => ?_⟩⟩
 ·have hlt : k2 < b.sheets.length := by simpa using hlt
  have := hrl b.comps.length b.dues.length k2
  refine ⟨⟨by omega, by omega⟩, rowR S _ (by show 5 ≤ 100; decide) [nth b.sheets k2] (by show 1 ≤ 1000; decide) (hss k2 hlt) 1 _ (seq1 rfl), by omega, by omega, (rng_iff _).2 (by omega), hlt, rfl, SEq_push1 (x := lnT (.sheet (nth b.sheets k2))) ?_ rfl, trivial⟩
  unfold rowsTo; rw [lnsTo_s hlt, List.map_append]; rfl
 obtain rfl : k2 = b.sheets.length := by
  have : ¬ k2 < b.sheets.length := by simpa using hlt
  omega
 rw [hall]
 refine ⟨sealed111 S b.rows (by rw [rows_len]; exact lns_len hb) (fun i hi => ?_), rfl⟩
 rw [rows_len] at hi
 rw [rows_nth hi]
 exact ln_len (hn _ (nth_mem hi))
end Go.Vc.Gd
namespace Go.Vc.Gd
open Go Go.Proofs Go.Vc
variable {Gl : World → Prop}
end Go.Vc.Gd
namespace Go.Vc.Gd
open Go Go.Proofs Go.Vc
variable {Gl : World → Prop}
def minus (w : List UInt8) : Bool := decide (0 < w.length) && (nth w 0 == 45)
end Go.Vc.Gd
namespace Go.Vc.Gd
open Go Go.Proofs Go.Vc
variable {Gl : World → Prop}
def bodyOf (w : List UInt8) : List UInt8 := bif minus w then w.drop 1 else w
def isS (w : List UInt8) : Bool := decide (1 ≤ (bodyOf w).length) && digs (bodyOf w)
end Go.Vc.Gd
namespace Go.Vc.Gd
open Go Go.Proofs Go.Vc
variable {Gl : World → Prop}
end Go.Vc.Gd
namespace Go.Vc.Gd
open Go Go.Proofs Go.Vc
variable {Gl : World → Prop}
end Go.Vc.Gd
namespace Go.Vc.Gd
open Go Go.Proofs Go.Vc
variable {Gl : World → Prop}
end Go.Vc.Gd
namespace Go.Vc.Gd
open Go Go.Proofs Go.Vc
variable {Gl : World → Prop}
def exA : Book := ⟨[⟨0, ⟨1, 2⟩, ⟨2, 3⟩, ⟨1, 1⟩⟩, ⟨1, ⟨0, 1⟩, ⟨1, 2⟩, ⟨1, 2⟩⟩, ⟨0, ⟨0, 0⟩, ⟨3, 3⟩, ⟨1, 1⟩⟩], [12, 9], [0, 1]⟩
theorem task75 (S : Set Tryz.prog Y Gl) (x y z : Int) : Computes Tryz.prog Gl 75 [I x, I y, I z] (.ret (.d (.agg [Ci x, Ci y, Ci z]))) := by
 refine fn_is S (.nil) Tryz.func75 (by kernel_rfl) (x=x∧y=y∧z=z) (by kernel_rfl) ?_
 simp only [stdS, imp_self, implies_true, and_true]
theorem span39 (S : Set Tryz.prog Y Gl) (x y : Int) : Computes Tryz.prog Gl 39 [I x, I y] (.ret (.d (.agg [Ci x, Ci y]))) := by
 refine fn_is S (.nil) Tryz.func39 (by kernel_rfl) (x=x∧y=y) (by kernel_rfl) ?_
 simp only [stdS, imp_self, implies_true, and_true]
theorem short26 (S : Set Tryz.prog Y Gl) (b : Book) : Computes Tryz.prog Gl 26 [tBook b] (.ret (B (decide (b.comps.length ≤ 6) && (decide (b.dues.length ≤ 4) && decide (b.sheets.length ≤ 5))))) := by
 refine fn_is S (.nil) Tryz.func26 (by kernel_rfl) (b.1.length≤maxLen→(eqB (decide ((↑b.1.length:Int)≤6)) true=true→eqB (decide ((↑b.1.length:Int)≤6)) true=true)∧(eqB (decide ((↑b.1.length:Int)≤6)) true=true→eqB (decide ((↑b.1.length:Int)≤6)) true=true)∧((eqB (decide ((↑b.1.length:Int)≤6)) true=true→b.2.length≤maxLen)→(eqB (decide ((↑b.1.length:Int)≤6)) true=true→eqB (decide ((↑b.1.length:Int)≤6)) true=true)∧(decide ((↑b.1.length:Int)≤6)=true→eqB (decide ((↑b.1.length:Int)≤6)) true=true)∧(eqB (bif decide ((↑b.1.length:Int)≤6) then decide ((↑b.2.length:Int)≤4) else false) true=true→eqB (bif decide ((↑b.1.length:Int)≤6) then decide ((↑b.2.length:Int)≤4) else false) true=true)∧(eqB (bif decide ((↑b.1.length:Int)≤6) then decide ((↑b.2.length:Int)≤4) else false) true=true→eqB (bif decide ((↑b.1.length:Int)≤6) then decide ((↑b.2.length:Int)≤4) else false) true=true)∧((eqB (bif decide ((↑b.1.length:Int)≤6) then decide ((↑b.2.length:Int)≤4) else false) true=true→b.3.length≤maxLen)→(eqB (bif decide ((↑b.1.length:Int)≤6) then decide ((↑b.2.length:Int)≤4) else false) true=true→eqB (bif decide ((↑b.1.length:Int)≤6) then decide ((↑b.2.length:Int)≤4) else false) true=true)∧((bif decide ((↑b.1.length:Int)≤6) then decide ((↑b.2.length:Int)≤4) else false)=true→eqB (bif decide ((↑b.1.length:Int)≤6) then decide ((↑b.2.length:Int)≤4) else false) true=true)∧(bif bif decide ((↑b.1.length:Int)≤6) then decide ((↑b.2.length:Int)≤4) else false then decide ((↑b.3.length:Int)≤5) else false)=(decide (b.1.length≤(6:Nat))&&(decide (b.2.length≤(4:Nat))&&decide (b.3.length≤(5:Nat))))))) (by kernel_rfl) ?_
 simp only [stdS, imp_self, implies_true, and_true]
 have e : ∀ n m : Nat, decide ((n : Int) ≤ (m : Int)) = decide (n ≤ m) := fun n m => by rw [decide_eq_decide]; omega
 refine fun _ _ _ => ?_
 have e6 := e b.comps.length 6
 have e4 := e b.dues.length 4
 have e5 := e b.sheets.length 5
 rw [← e6, ← e4, ← e5]
 rfl
end Go.Vc.Gd
namespace Go.Vc.Gd
open Go Go.Proofs Go.Vc
variable {Gl : World → Prop}
theorem a74 (S : Set Tryz.prog Y Gl)  : Computes Tryz.prog Gl 74 [] (.ret (tBook exA)) := by
 refine fn_is S (.r (.ret (T.d (D.agg [Ci 1,Ci 2]))) (.r (.ret (T.d (D.agg [Ci 2,Ci 3]))) (.r (.ret (T.d (D.agg [Ci 1,Ci 1]))) (.r (.ret (T.d (D.agg [Ci 0,Ci 1]))) (.r (.ret (T.d (D.agg [Ci 1,Ci 2]))) (.r (.ret (T.d (D.agg [Ci 1,Ci 2]))) (.r (.ret (T.d (D.agg [Ci 3,Ci 3]))) (.r (.ret (T.d (D.agg [Ci 1,Ci 1]))) .nil)))))))) Tryz.func74 (by kernel_rfl) (Computes Tryz.prog Gl 39 [I 1,I 2] (.ret (T.d (D.agg [Ci 1,Ci 2])))∧Computes Tryz.prog Gl 39 [I 2,I 3] (.ret (T.d (D.agg [Ci 2,Ci 3])))∧Computes Tryz.prog Gl 39 [I 1,I 1] (.ret (T.d (D.agg [Ci 1,Ci 1])))∧Computes Tryz.prog Gl 39 [I 0,I 1] (.ret (T.d (D.agg [Ci 0,Ci 1])))∧Computes Tryz.prog Gl 39 [I 1,I 2] (.ret (T.d (D.agg [Ci 1,Ci 2])))∧Computes Tryz.prog Gl 39 [I 1,I 2] (.ret (T.d (D.agg [Ci 1,Ci 2])))∧Computes Tryz.prog Gl 39 [I 3,I 3] (.ret (T.d (D.agg [Ci 3,Ci 3])))∧Computes Tryz.prog Gl 39 [I 1,I 1] (.ret (T.d (D.agg [Ci 1,Ci 1])))∧(SEq (3:Nat) (fun i=>List.getD [List.map C.dem (List.map C.dem [C.v (Value.int IntKind.i64 (0:Int)),C.v (Value.int IntKind.i64 (1:Int)),C.v (Value.int IntKind.i64 (2:Int)),C.v (Value.int IntKind.i64 (2:Int)),C.v (Value.int IntKind.i64 (3:Int)),C.v (Value.int IntKind.i64 (1:Int)),C.v (Value.int IntKind.i64 (1:Int))]),List.map C.dem (List.map C.dem [C.v (Value.int IntKind.i64 (1:Int)),C.v (Value.int IntKind.i64 (0:Int)),C.v (Value.int IntKind.i64 (1:Int)),C.v (Value.int IntKind.i64 (1:Int)),C.v (Value.int IntKind.i64 (2:Int)),C.v (Value.int IntKind.i64 (1:Int)),C.v (Value.int IntKind.i64 (2:Int))]),List.map C.dem (List.map C.dem [C.v (Value.int IntKind.i64 (0:Int)),C.v (Value.int IntKind.i64 (0:Int)),C.v (Value.int IntKind.i64 (0:Int)),C.v (Value.int IntKind.i64 (3:Int)),C.v (Value.int IntKind.i64 (3:Int)),C.v (Value.int IntKind.i64 (1:Int)),C.v (Value.int IntKind.i64 (1:Int))])] i []) (List.length [Comp.mk (0:Int) (Span.mk (1:Int) (2:Int)) (Span.mk (2:Int) (3:Int)) (Span.mk (1:Int) (1:Int)),Comp.mk (1:Int) (Span.mk (0:Int) (1:Int)) (Span.mk (1:Int) (2:Int)) (Span.mk (1:Int) (2:Int)),Comp.mk (0:Int) (Span.mk (0:Int) (0:Int)) (Span.mk (3:Int) (3:Int)) (Span.mk (1:Int) (1:Int))]) fun i=>eComp (nth [Comp.mk (0:Int) (Span.mk (1:Int) (2:Int)) (Span.mk (2:Int) (3:Int)) (Span.mk (1:Int) (1:Int)),Comp.mk (1:Int) (Span.mk (0:Int) (1:Int)) (Span.mk (1:Int) (2:Int)) (Span.mk (1:Int) (2:Int)),Comp.mk (0:Int) (Span.mk (0:Int) (0:Int)) (Span.mk (3:Int) (3:Int)) (Span.mk (1:Int) (1:Int))] i))∧(SEq (2:Nat) (fun i=>List.getD [List.map C.dem [C.v (Value.int IntKind.i64 (12:Int))],List.map C.dem [C.v (Value.int IntKind.i64 (9:Int))]] i []) (List.length [(12:Int),(9:Int)]) fun i=>eI (nth [(12:Int),(9:Int)] i))∧SEq (2:Nat) (fun i=>List.getD [List.map C.dem [C.v (Value.int IntKind.i64 (0:Int))],List.map C.dem [C.v (Value.int IntKind.i64 (1:Int))]] i []) (List.length [(0:Int),(1:Int)]) fun i=>eI (nth [(0:Int),(1:Int)] i)) (by kernel_rfl) ?_
 have three : ∀ i, i < 3 → i = 0 ∨ i = 1 ∨ i = 2 := fun i h => by omega
 have two : ∀ i, i < 2 → i = 0 ∨ i = 1 := fun i h => by omega
 refine ⟨span39 S _ _, span39 S _ _, span39 S _ _, span39 S _ _, span39 S _ _, span39 S _ _, span39 S _ _, span39 S _ _, ⟨rfl, fun i hi => ?_⟩, ⟨rfl, fun i hi => ?_⟩, ⟨rfl, fun i hi => ?_⟩⟩
 ·rcases three i hi with rfl | rfl | rfl <;> exact .inl rfl
 ·rcases two i hi with rfl | rfl <;> exact .inl rfl
 ·rcases two i hi with rfl | rfl <;> exact .inl rfl
end Go.Vc.Gd
namespace Go.Vc.Gd
open Go Go.Proofs Go.Vc
variable {Gl : World → Prop}
def exP : List Task := [⟨0, 1, 2⟩, ⟨1, 2, 0⟩]
def exR : List Task := [⟨1, 2, 0⟩, ⟨0, 1, 2⟩]
theorem p76 (S : Set Tryz.prog Y Gl)  : Computes Tryz.prog Gl 76 [] (.ret (L eTask exP)) := by
 refine fn_is S (.r (.ret (T.d (D.agg [Ci 0,Ci 1,Ci 2]))) (.r (.ret (T.d (D.agg [Ci 1,Ci 2,Ci 0]))) .nil)) Tryz.func76 (by kernel_rfl) (Computes Tryz.prog Gl 75 [I 0,I 1,I 2] (.ret (T.d (D.agg [Ci 0,Ci 1,Ci 2])))∧Computes Tryz.prog Gl 75 [I 1,I 2,I 0] (.ret (T.d (D.agg [Ci 1,Ci 2,Ci 0])))∧SEq (2:Nat) (fun i=>List.getD [List.map C.dem (List.map C.dem [C.v (Value.int IntKind.i64 (0:Int)),C.v (Value.int IntKind.i64 (1:Int)),C.v (Value.int IntKind.i64 (2:Int))]),List.map C.dem (List.map C.dem [C.v (Value.int IntKind.i64 (1:Int)),C.v (Value.int IntKind.i64 (2:Int)),C.v (Value.int IntKind.i64 (0:Int))])] i []) exP.length fun i=>eTask (nth exP i)) (by kernel_rfl) ?_
 have two : ∀ i, i < 2 → i = 0 ∨ i = 1 := fun i h => by omega
 refine ⟨task75 S _ _ _, task75 S _ _ _, ⟨rfl, fun i hi => ?_⟩⟩
 rcases two i hi with rfl | rfl <;> exact .inl rfl
theorem r77 (S : Set Tryz.prog Y Gl)  : Computes Tryz.prog Gl 77 [] (.ret (L eTask exR)) := by
 refine fn_is S (.r (.ret (T.d (D.agg [Ci 1,Ci 2,Ci 0]))) (.r (.ret (T.d (D.agg [Ci 0,Ci 1,Ci 2]))) .nil)) Tryz.func77 (by kernel_rfl) (Computes Tryz.prog Gl 75 [I 1,I 2,I 0] (.ret (T.d (D.agg [Ci 1,Ci 2,Ci 0])))∧Computes Tryz.prog Gl 75 [I 0,I 1,I 2] (.ret (T.d (D.agg [Ci 0,Ci 1,Ci 2])))∧SEq (2:Nat) (fun i=>List.getD [List.map C.dem (List.map C.dem [C.v (Value.int IntKind.i64 (1:Int)),C.v (Value.int IntKind.i64 (2:Int)),C.v (Value.int IntKind.i64 (0:Int))]),List.map C.dem (List.map C.dem [C.v (Value.int IntKind.i64 (0:Int)),C.v (Value.int IntKind.i64 (1:Int)),C.v (Value.int IntKind.i64 (2:Int))])] i []) exR.length fun i=>eTask (nth exR i)) (by kernel_rfl) ?_
 have two : ∀ i, i < 2 → i = 0 ∨ i = 1 := fun i h => by omega
 refine ⟨task75 S _ _ _, task75 S _ _ _, ⟨rfl, fun i hi => ?_⟩⟩
 rcases two i hi with rfl | rfl <;> exact .inl rfl
theorem right21 (S : Set Tryz.prog Y Gl) (b : Book) : Computes Tryz.prog Gl 21 [tBook b] (.ret (B (bif decide (b.comps.length ≤ 6) && (decide (b.dues.length ≤ 4) && decide (b.sheets.length ≤ 5)) then b.ok else false))) := by
 refine fn_is S (.r (.ret (B (decide (List.length (Book.comps b)≤(6:Nat))&&(decide (List.length (Book.dues b)≤(4:Nat))&&decide (List.length (Book.sheets b)≤(5:Nat)))))) (.r (.ret (B (Book.ok b))) .nil)) Tryz.func21 (by kernel_rfl) (Computes Tryz.prog Gl 26 [tBook b] (.ret (B (decide (List.length (Book.comps b)≤(6:Nat))&&(decide (List.length (Book.dues b)≤(4:Nat))&&decide (List.length (Book.sheets b)≤(5:Nat))))))∧(eqB (decide (b.1.length≤(6:Nat))&&(decide (b.2.length≤(4:Nat))&&decide (b.3.length≤(5:Nat)))) true=true→eqB (decide (b.1.length≤(6:Nat))&&(decide (b.2.length≤(4:Nat))&&decide (b.3.length≤(5:Nat)))) true=true)∧(eqB (decide (b.1.length≤(6:Nat))&&(decide (b.2.length≤(4:Nat))&&decide (b.3.length≤(5:Nat)))) true=true→Computes Tryz.prog Gl 52 [tBook b] (.ret (B (Book.ok b))))∧((decide (b.1.length≤(6:Nat))&&(decide (b.2.length≤(4:Nat))&&decide (b.3.length≤(5:Nat))))=true→eqB (decide (b.1.length≤(6:Nat))&&(decide (b.2.length≤(4:Nat))&&decide (b.3.length≤(5:Nat)))) true=true)∧(bif decide (b.1.length≤(6:Nat))&&(decide (b.2.length≤(4:Nat))&&decide (b.3.length≤(5:Nat))) then Book.ok b else false)=bif decide (b.1.length≤(6:Nat))&&(decide (b.2.length≤(4:Nat))&&decide (b.3.length≤(5:Nat))) then Book.ok b else false) (by kernel_rfl) ?_
 exact ⟨short26 S b, fun h => h, fun _ => book52 S b, fun h => by rw [h]; rfl, rfl⟩
end Go.Vc.Gd
namespace Go.Vc.Gd
open Go Go.Proofs Go.Vc
variable {Gl : World → Prop}
end Go.Vc.Gd
namespace Go.Vc.Gd
open Go Go.Proofs Go.Vc
variable {Gl : World → Prop}
def Book.right (b : Book) : Bool := bif decide (b.comps.length ≤ 6) && (decide (b.dues.length ≤ 4) && decide (b.sheets.length ≤ 5)) then b.ok else false
theorem right_eq (b : Book) : b.right = b.ok := by
 unfold Book.right
 cases h : b.ok with
 | false => cases decide (b.comps.length ≤ 6) && (decide (b.dues.length ≤ 4) && decide (b.sheets.length ≤ 5)) <;> rfl
 | true =>
  obtain ⟨o1, o2, o3, _⟩ := ok_spec h
  have h1 : decide (b.comps.length ≤ 6) = true := by simp; omega
  have h2 : decide (b.dues.length ≤ 4) = true := by simp; omega
  have h3 : decide (b.sheets.length ≤ 5) = true := by simp; omega
  rw [h1, h2, h3]; rfl
theorem rightC (S : Set Tryz.prog Y Gl) (b : Book) : Computes Tryz.prog Gl 21 [tBook b] (.ret (B b.ok)) := by
 have := right21 S b
 have h : (bif decide (b.comps.length ≤ 6) && (decide (b.dues.length ≤ 4) && decide (b.sheets.length ≤ 5)) then b.ok else false) = b.ok := right_eq b
 rw [h] at this
 exact this
end Go.Vc.Gd
namespace Go.Vc.Gd
open Go Go.Proofs Go.Vc
variable {Gl : World → Prop}
end Go.Vc.Gd
namespace Go.Vc.Gd
open Go Go.Proofs Go.Vc
end Go.Vc.Gd
namespace Go.Vc.Gd
open Go Go.Proofs Go.Vc
end Go.Vc.Gd
namespace Go.Vc.Gd
open Go Go.Proofs Go.Vc
theorem outTo_eq (rows : List (List UInt8)) : ∀ k, k ≤ rows.length → outTo rows k = (rows.take k).flatMap fun r => r ++ [10]
 | 0, _ => by simp [outTo]
 | k + 1, h => by
  rw [outTo, outTo_eq rows k (by omega), take_succ (by omega), List.flatMap_append]
  simp
theorem outTo_all (rows : List (List UInt8)) : outTo rows rows.length = rows.flatMap fun r => r ++ [10] := by
 rw [outTo_eq rows _ (Nat.le_refl _), List.take_length]
theorem splitL_rows (c : UInt8) (e : List UInt8) : ∀ (rows : List (List UInt8)), (∀ r ∈ rows, c ∉ r) → splitL c ((rows.flatMap fun r => r ++ [c]) ++ e) = rows ++ splitL c e
 | [], _ => rfl
 | r :: rows, h => by
  have ih := splitL_rows c e rows fun x hx => h x (List.mem_cons_of_mem _ hx)
  rw [List.flatMap_cons, List.append_assoc, List.append_assoc, List.singleton_append, splitL_app c _ _ (h r List.mem_cons_self), ih]
  rfl
theorem dec_small {n : Int} (h : sm n) : dec n = decS n.toNat := by
 obtain ⟨m, rfl⟩ := Int.eq_ofNat_of_zero_le h.1
 have hm : m < 100 := by have := h.2; omega
 exact dec_eq hm
theorem decS_bytes : ∀ n : Nat, n < 100 → (decS n).all isDig = true := by decide
theorem dec_bytes {n : Int} (h : sm n) {c : UInt8} (hc : c ∈ dec n) : isDig c = true := by
 rw [dec_small h] at hc
 exact List.all_eq_true.1 (decS_bytes n.toNat (by have := h.2; have := h.1; omega)) c hc
theorem dec_none {n : Int} (h : sm n) {c : UInt8} (hc : isDig c = false) : c ∉ dec n := fun hh => by
 rw [dec_bytes h hh] at hc; cases hc
theorem splitL_nums (w : List UInt8) (hw : (32 : UInt8) ∉ w) : ∀ (l : List Int), (∀ n ∈ l, sm n) → splitL 32 (w ++ nums l) = w :: l.map dec
 | [], _ => by rw [show nums [] = [] from rfl, List.append_nil, splitL_none 32 w hw]; rfl
 | n :: l, h => by
  have ih := splitL_nums (dec n) (dec_none (h n List.mem_cons_self) rfl) l fun x hx => h x (List.mem_cons_of_mem _ hx)
  have e : nums (n :: l) = 32 :: (dec n ++ nums l) := by unfold nums; simp
  rw [e, splitL_app 32 w _ hw, ih]
  rfl
theorem lnW_no : ∀ l : Ln, (32 : UInt8) ∉ lnW l ∧ (10 : UInt8) ∉ lnW l
 | .head => by show (32 : UInt8) ∉ lGive ∧ (10 : UInt8) ∉ lGive; decide
 | .comp _ => by show (32 : UInt8) ∉ lComputer ∧ (10 : UInt8) ∉ lComputer; decide
 | .due _ => by show (32 : UInt8) ∉ lTable ∧ (10 : UInt8) ∉ lTable; decide
 | .sheet _ => by show (32 : UInt8) ∉ lSheet ∧ (10 : UInt8) ∉ lSheet; decide
theorem nums_no10 : ∀ {l : List Int}, (∀ n ∈ l, sm n) → (10 : UInt8) ∉ nums l
 | [], _ => by simp [nums]
 | n :: l, h => by
  have ih := nums_no10 (l := l) fun x hx => h x (List.mem_cons_of_mem _ hx)
  have e : nums (n :: l) = 32 :: (dec n ++ nums l) := by unfold nums; simp
  have h1 := dec_none (h n List.mem_cons_self) (c := 10) rfl
  rw [e]
  simp only [List.mem_cons, List.mem_append, not_or]
  exact ⟨by decide, h1, ih⟩
theorem lnT_no10 {l : Ln} (h : ∀ n ∈ lnN l, sm n) : (10 : UInt8) ∉ lnT l := by
 unfold lnT
 simp only [List.mem_append, not_or]
 exact ⟨(lnW_no l).2, nums_no10 h⟩
theorem lnT_split {l : Ln} (h : ∀ n ∈ lnN l, sm n) : splitL 32 (lnT l) = lnW l :: (lnN l).map dec := splitL_nums _ (lnW_no l).1 _ h
theorem lnT_tl {l : Ln} (h : ∀ n ∈ lnN l, sm n) : tl (lnT l) = (lnN l).map dec := by unfold tl; rw [lnT_split h]; rfl
theorem lnT_hd {l : Ln} (h : ∀ n ∈ lnN l, sm n) : hd (lnT l) = lnW l := by unfold hd; rw [lnT_split h]; rfl
theorem numV_dec {n : Int} (h : sm n) : numV (dec n) = n := by unfold numV; rw [numOf_dec h]; rfl
theorem isNum_dec {n : Int} (h : sm n) : isNum (dec n) = true := by unfold isNum; rw [numOf_dec h]; rfl
theorem map_numV : ∀ {l : List Int}, (∀ n ∈ l, sm n) → (l.map dec).map numV = l
 | [], _ => rfl
 | n :: l, h => by
  rw [List.map_cons, List.map_cons, numV_dec (h n List.mem_cons_self), map_numV (l := l) fun x hx => h x (List.mem_cons_of_mem _ hx)]
theorem lnT_ns {l : Ln} (h : ∀ n ∈ lnN l, sm n) : ns (lnT l) = lnN l := by
 unfold ns nsTo
 rw [List.take_length, lnT_tl h, map_numV h]
def addLn (b : Book) : Ln → Book
 | .head => b
 | .comp c => ⟨b.comps ++ [c], b.dues, b.sheets⟩
 | .due n => ⟨b.comps, b.dues ++ [n], b.sheets⟩
 | .sheet n => ⟨b.comps, b.dues, b.sheets ++ [n]⟩
def Ln.isHead : Ln → Bool
 | .head => true
 | _ => false
theorem rowOK_ln {l : Ln} (h : ∀ n ∈ lnN l, sm n) (hh : l.isHead = false) : rowOK (lnT l) = true := by
 unfold rowOK rowShape
 rw [lnT_ns h, lnT_hd h, lnT_tl h, Bool.and_eq_true]
 constructor
 ·rw [List.all_eq_true]
  intro x hx
  obtain ⟨n, hn, rfl⟩ := List.mem_map.1 hx
  exact isNum_dec (h n hn)
 ·cases l with
  | head => cases hh
  | comp c => rfl
  | due n => rfl
  | sheet n => rfl
theorem rowB_ln {b : Book} {l : Ln} (h : ∀ n ∈ lnN l, sm n) (hh : l.isHead = false) : rowB b (lnT l) = addLn b l := by
 unfold rowB
 rw [lnT_ns h, lnT_hd h]
 cases l with
 | head => cases hh
 | comp c => rfl
 | due n => rfl
 | sheet n => rfl
theorem bookTo_ln (ls : List Ln) (h : ∀ l ∈ ls, (∀ n ∈ lnN l, sm n) ∧ l.isHead = false) : ∀ k, k ≤ ls.length → bookTo (ls.map lnT) k = (ls.take k).foldl addLn ⟨[], [], []⟩
 | 0, _ => by simp [bookTo]
 | k + 1, hk => by
  have hm := h _ (nth_mem (l := ls) (k := k) (by omega))
  rw [bookTo, bookTo_ln ls h k (by omega), nth_map (by omega), rowB_ln hm.1 hm.2, take_succ (by omega), List.foldl_append]
  rfl
theorem fold_comp : ∀ (l : List Comp) (b : Book), (l.map Ln.comp).foldl addLn b = ⟨b.comps ++ l, b.dues, b.sheets⟩
 | [], b => by simp
 | c :: l, b => by rw [List.map_cons, List.foldl_cons, fold_comp l]; simp [addLn]
theorem fold_due : ∀ (l : List Int) (b : Book), (l.map Ln.due).foldl addLn b = ⟨b.comps, b.dues ++ l, b.sheets⟩
 | [], b => by simp
 | c :: l, b => by rw [List.map_cons, List.foldl_cons, fold_due l]; simp [addLn]
theorem fold_sheet : ∀ (l : List Int) (b : Book), (l.map Ln.sheet).foldl addLn b = ⟨b.comps, b.dues, b.sheets ++ l⟩
 | [], b => by simp
 | c :: l, b => by rw [List.map_cons, List.foldl_cons, fold_sheet l]; simp [addLn]
theorem sumTo_nonneg (w : List UInt8) (i : Nat) : ∀ k, 0 ≤ sumTo w i k
 | 0 => Int.le_refl _
 | k + 1 => by
  have := sumTo_nonneg w i k
  unfold sumTo
  have h2 : (0 : Int) ≤ ((nth w k).toNat : Int) * ((k : Int) + 1) * ((i : Int) + 1) := by
   have : ((nth w k).toNat : Int) * ((k : Int) + 1) * ((i : Int) + 1) = (((nth w k).toNat * (k + 1) * (i + 1) : Nat) : Int) := by push_cast; rfl
   rw [this]; exact Int.natCast_nonneg _
  omega
theorem checkTo_nonneg (rows : List (List UInt8)) : ∀ i, 0 ≤ checkTo rows i
 | 0 => Int.le_refl _
 | i + 1 => by
  have h1 := checkTo_nonneg rows i
  have h2 := sumTo_nonneg (nth rows i) i (nth rows i).length
  unfold checkTo
  omega
theorem checkOf_range (rows : List (List UInt8)) : 0 ≤ checkOf rows ∧ checkOf rows < 251 := by
 have h := checkTo_nonneg rows rows.length
 unfold checkOf
 rw [Int.tmod_eq_emod_of_nonneg h]
 omega
theorem check_digits (rows : List (List UInt8)) : sm (Int.tdiv (checkOf rows) 100) ∧ sm (Int.tmod (Int.tdiv (checkOf rows) 10) 10) ∧ sm (Int.tmod (checkOf rows) 10) := by
 have h := checkOf_range rows
 have h2 : 0 ≤ checkOf rows / 10 := by omega
 unfold sm
 rw [Int.tdiv_eq_ediv_of_nonneg h.1, Int.tdiv_eq_ediv_of_nonneg h.1, Int.tmod_eq_emod_of_nonneg h2, Int.tmod_eq_emod_of_nonneg h.1]
 omega
def sealLn (rows : List (List UInt8)) : List UInt8 := lEnd ++ dec (Int.tdiv (checkOf rows) 100) ++ dec (Int.tmod (Int.tdiv (checkOf rows) 10) 10) ++ dec (Int.tmod (checkOf rows) 10)
theorem sealLn_no (rows : List (List UInt8)) : (10 : UInt8) ∉ sealLn rows := by
 obtain ⟨h1, h2, h3⟩ := check_digits rows
 unfold sealLn
 simp only [List.mem_append, not_or]
 exact ⟨⟨⟨by decide, dec_none h1 rfl⟩, dec_none h2 rfl⟩, dec_none h3 rfl⟩
theorem sealed_split (rows : List (List UInt8)) (h : ∀ r ∈ rows, (10 : UInt8) ∉ r) : splitL 10 (sealed rows) = rows ++ [sealLn rows, []] := by
 have e : sealed rows = (rows.flatMap fun r => r ++ [10]) ++ (sealLn rows ++ 10 :: []) := by
  unfold sealed sealLn
  rw [outTo_all]
  simp only [List.append_assoc]
 rw [e, splitL_rows 10 _ rows h, splitL_app 10 _ _ (sealLn_no rows)]
 rfl
theorem rows_no10 {b : Book} (hb : b.low) : ∀ r ∈ b.rows, (10 : UInt8) ∉ r := by
 intro r hr
 unfold Book.rows at hr
 obtain ⟨l, hl, rfl⟩ := List.mem_map.1 hr
 exact lnT_no10 (hb.n l hl)
def Book.body (b : Book) : List Ln := b.comps.map .comp ++ b.dues.map .due ++ b.sheets.map .sheet
theorem body_head {b : Book} : ∀ l ∈ b.body, l.isHead = false := by
 intro l hl
 unfold Book.body at hl
 simp only [List.mem_append, List.mem_map] at hl
 rcases hl with (⟨_, _, rfl⟩ | ⟨_, _, rfl⟩) | ⟨_, _, rfl⟩ <;> rfl
theorem body_fold (b : Book) : b.body.foldl addLn ⟨[], [], []⟩ = b := by
 unfold Book.body
 rw [List.foldl_append, List.foldl_append, fold_comp, fold_due, fold_sheet]
 simp
theorem text_split {b : Book} (hb : b.low) : splitL 10 b.text = b.rows ++ [sealLn b.rows, []] := sealed_split _ (rows_no10 hb)
theorem rows_cons (b : Book) : b.rows = lnT .head :: b.body.map lnT := rfl
theorem text_mid {b : Book} (hb : b.low) : mid b.text = b.body.map lnT := by
 unfold mid
 rw [text_split hb, rows_cons]
 simp
theorem parse_of_text {b : Book} (hb : b.low) : parse b.text = some b := by
 have hn : ∀ l ∈ b.body, (∀ n ∈ lnN l, sm n) ∧ l.isHead = false := fun l hl => ⟨hb.n l (List.mem_cons_of_mem _ hl), body_head l hl⟩
 have hbook : bookTo (b.body.map lnT) (b.body.map lnT).length = b := by
  rw [List.length_map, bookTo_ln _ hn _ (Nat.le_refl _), List.take_length, body_fold]
 have hall : (b.body.map lnT).all rowOK = true := by
  rw [List.all_eq_true]
  intro r hr
  obtain ⟨l, hl, rfl⟩ := List.mem_map.1 hr
  exact rowOK_ln (hn l hl).1 (hn l hl).2
 have h3 : 3 ≤ (splitL 10 b.text).length := by
  rw [text_split hb, rows_cons]; simp
 unfold parse
 rw [text_mid hb, hbook, hall, decide_eq_true h3, beq_self_eq_true]
 rfl
def numsS (l : List Int) : List UInt8 := l.flatMap fun n => 32 :: decS n.toNat
def Book.rowsS (b : Book) : List (List UInt8) := b.lns.map fun l => lnW l ++ numsS (lnN l)
def sealedS (rows : List (List UInt8)) : List UInt8 := outTo rows rows.length ++ lEnd ++ decS (Int.tdiv (checkOf rows) 100).toNat ++ decS (Int.tmod (Int.tdiv (checkOf rows) 10) 10).toNat ++ decS (Int.tmod (checkOf rows) 10).toNat ++ [10]
theorem nums_S : ∀ {l : List Int}, (∀ n ∈ l, sm n) → nums l = numsS l
 | [], _ => rfl
 | n :: l, h => by
  have ih := nums_S (l := l) fun x hx => h x (List.mem_cons_of_mem _ hx)
  unfold nums numsS at ih ⊢
  rw [List.flatMap_cons, List.flatMap_cons, ih, dec_small (h n List.mem_cons_self)]
theorem rows_S {b : Book} (hb : b.low) : b.rows = b.rowsS := by
 unfold Book.rows Book.rowsS
 refine List.map_congr_left fun l hl => ?_
 unfold lnT
 rw [nums_S (hb.n l hl)]
theorem text_S {b : Book} (hb : b.low) : b.text = sealedS b.rowsS := by
 obtain ⟨h1, h2, h3⟩ := check_digits b.rowsS
 unfold Book.text sealed sealedS
 rw [rows_S hb, dec_small h1, dec_small h2, dec_small h3]
def exT : Book := ⟨[⟨0, ⟨0, 0⟩, ⟨1, 1⟩, ⟨1, 1⟩⟩], [0], [0]⟩
def txT : List UInt8 := [103, 105, 118, 101, 10, 99, 111, 109, 112, 117, 116, 101, 114, 32, 48, 32, 48, 32, 48, 32, 49, 32, 49, 32, 49, 32, 49, 10, 116, 97, 98, 108, 101, 32, 48, 10, 115, 104, 101, 101, 116, 32, 48, 10, 101, 110, 100, 32, 48, 51, 49, 10]
theorem exT_ok : exT.ok = true := by kernel_rfl
theorem exT_low : exT.low := ok_low exT_ok
theorem exT_text : exT.text = txT := by rw [text_S exT_low]; kernel_rfl
theorem parse_txT : parse txT = some exT := by rw [← exT_text]; exact parse_of_text exT_low
end Go.Vc.Gd
namespace Go.Vc.Gd
open Go Go.Proofs Go.Vc
def exW : List Task := [⟨0, 1, 2⟩, ⟨0, 2, 1⟩]
def exTruth : Truth := ⟨[1, 0, 0], [3, 1, 3], [1, 1, 1]⟩
theorem exA_ok : exA.ok = true := by kernel_rfl
theorem exP_good : exA.good exP = true := by kernel_rfl
theorem exR_good : exA.good exR = true := by kernel_rfl
theorem exTruth_ok : exTruth.ok exA = true := by kernel_rfl
theorem exA_sheet0 : exA.isSheet 0 = true := by kernel_rfl
theorem exA_sheet1 : exA.isSheet 1 = true := by kernel_rfl
theorem exA_comp1 : exA.isComp 1 = true := by kernel_rfl
theorem exR_hand : hand (nth exR (Int.toNat 0)) 1 = true := by kernel_rfl
theorem ex_whyS : whyS exA exW = 1 := by kernel_rfl
theorem ex_whyF : whyF exA exW = 4 := by kernel_rfl
theorem ex_whyErr : whyErr exA exW = 0 := by kernel_rfl
theorem ex_days : days exP exTruth (-1) (-1) = [6, 6] := by kernel_rfl
theorem ex_backs : backs exA exP = [⟨5, 8⟩, ⟨6, 11⟩] := by kernel_rfl
theorem ex_tables : tables exA exP = [3, 2] := by kernel_rfl
theorem ex_proof1 : proof1 exA exP = 1 := by kernel_rfl
theorem ex_proof2 : proof2 exA exP = 1 := by kernel_rfl
theorem ex_proof3 : proof3 exA exP = 11 := by kernel_rfl
theorem ex_isProof : isProof exA exP = true := by kernel_rfl
theorem ex_idle : idleTo exP exA.comps.length = [] := by kernel_rfl
theorem ex_losts : losts exA exR 0 1 = [⟨6, 13⟩, ⟨5, 8⟩] := by kernel_rfl
theorem ex_plans : (allPlans exA).length = 4 := by kernel_rfl
theorem ex_first : firstPlan exA = exR := by kernel_rfl
theorem ex_noFirst : noFirst exA = false := by kernel_rfl
theorem ex_count : countTo exA (allPlans exA).length = 1 := by kernel_rfl
theorem ex_best : soonest exA = ⟨exR, 9⟩ := by kernel_rfl
theorem ex_hands : handsTo exA 1 (allPlans exA).length = [0, 1] := by kernel_rfl
theorem ex_plans1 : (allPlans (exA.withOne 1)).length = 64 := by kernel_rfl
theorem ex_best1 : (soonest (exA.withOne 1)).day = 8 := by kernel_rfl
theorem ex_who : sortedOnce (handsTo exA 1 (allPlans exA).length) = [0, 1] := by
 rw [ex_hands]
 unfold sortedOnce
 rw [List.mergeSort_of_pairwise (by decide)]
 rfl
end Go.Vc.Gd
namespace Go.Vc.Gd
open Go Go.Proofs Go.Vc
section
variable {α : Type} [Inhabited α]
end
end Go.Vc.Gd
namespace Go.Vc
theorem Computes.weak {P : Program} {Gl : World → Prop} {f : FuncId} {args : List T} {xs ys : List D} (h : Computes P Gl f args (.ret (.tup xs))) (hl : conjT (leDs xs ys)) : Computes P Gl f args (.ret (.tup ys)) :=
 ⟨h.1, fun vis w vs h1 h2 h3 => (h.2 vis w vs h1 h2 h3).mono fun _ _ ⟨hb, v, vis', he, e1, e2, us, hu, hr⟩ => ⟨hb, v, vis', he, e1, e2, us, hu, leDs_rel (conjT_iff hl) hr⟩⟩
end Go.Vc
namespace Go.Vc.Gd
open Go Go.Proofs Go.Vc
variable {Gl : World → Prop}
section
variable {α : Type} [Inhabited α]
end
end Go.Vc.Gd
namespace Go.Vc.Gd
open Go Go.Proofs Go.Vc
structure LeTr (t t' : Truth) : Prop where
 len : t.post.length = t'.post.length
 post : ∀ i, nth t.post i ≤ nth t'.post i
 sheet : ∀ i, nth t.sheet i ≤ nth t'.sheet i
 look : ∀ i, nth t.look i ≤ nth t'.look i
theorem LeTr.refl (t : Truth) : LeTr t t := ⟨rfl, fun _ => Int.le_refl _, fun _ => Int.le_refl _, fun _ => Int.le_refl _⟩
end Go.Vc.Gd
namespace Go.Vc.Gd
open Go Go.Proofs Go.Vc
section
variable {α : Type} [Inhabited α]
theorem mem_nth {l : List α} {x : α} (h : x ∈ l) : ∃ i, i < l.length ∧ nth l i = x := by
 obtain ⟨i, hi, rfl⟩ := List.getElem_of_mem h
 exact ⟨i, hi, nth_eq hi⟩
end
end Go.Vc.Gd
namespace Go.Vc.Gd
open Go Go.Proofs Go.Vc
end Go.Vc.Gd
namespace Go.Vc.Gd
open Go Go.Proofs Go.Vc
structure SameTr (n : Nat) (t t' : Truth) : Prop where
 l1 : n ≤ t.post.length
 l2 : n ≤ t'.post.length
 post : ∀ i, i < n → nth t.post i = nth t'.post i
 sheet : ∀ i, i < n → nth t.sheet i = nth t'.sheet i
 look : ∀ i, i < n → nth t.look i = nth t'.look i
end Go.Vc.Gd
namespace Go.Vc.Gd
open Go Go.Proofs Go.Vc
theorem dec_len1 {n : Int} (h0 : 0 ≤ n) (h1 : n < 10) : (dec n).length = 1 := by
 obtain ⟨m, rfl⟩ := Int.eq_ofNat_of_zero_le h0
 rw [dec_eq (by omega)]
 unfold decS
 have : Nat.blt m 10 = true := Nat.ble_eq_true_of_le (by omega)
 rw [this]
 rfl
theorem nums_len1 : ∀ {l : List Int}, (∀ n ∈ l, 0 ≤ n ∧ n < 10) → (nums l).length = 2 * l.length
 | [], _ => rfl
 | n :: l, h => by
  have ih := nums_len1 (l := l) fun x hx => h x (List.mem_cons_of_mem _ hx)
  have e : nums (n :: l) = 32 :: (dec n ++ nums l) := by unfold nums; simp
  obtain ⟨h0, h1⟩ := h n List.mem_cons_self
  rw [e, List.length_cons, List.length_append, ih, dec_len1 h0 h1, List.length_cons]
  omega
theorem flat_len {m : Nat} : ∀ {rows : List (List UInt8)}, (∀ r ∈ rows, r.length ≤ m) → (rows.flatMap fun r => r ++ [10]).length ≤ (m + 1) * rows.length
 | [], _ => by simp
 | r :: rows, h => by
  have ih := flat_len (rows := rows) fun x hx => h x (List.mem_cons_of_mem _ hx)
  have := h r List.mem_cons_self
  rw [List.flatMap_cons, List.length_append, List.length_append, List.length_singleton, List.length_cons, Nat.mul_add]
  omega
theorem seal_len (rows : List (List UInt8)) : (sealLn rows).length ≤ 10 := by
 obtain ⟨h1, h2, h3⟩ := check_digits rows
 have := dec_len h1
 have := dec_len h2
 have := dec_len h3
 unfold sealLn lEnd
 simp only [List.length_append, List.length_cons, List.length_nil]
 omega
theorem text_eq (b : Book) : b.text = (b.rows.flatMap fun r => r ++ [10]) ++ (sealLn b.rows ++ [10]) := by
 unfold Book.text sealed sealLn
 rw [outTo_all]
 simp only [List.append_assoc]
theorem text_len {b : Book} (hb : b.ok = true) : b.text.length ≤ 170 := by
 obtain ⟨o1, o2, o3, o4, o5, o6⟩ := ok_spec hb
 have hc : ((b.comps.map fun c => lnT (.comp c)).flatMap fun r => r ++ [10]).length ≤ 23 * (b.comps.map fun c => lnT (.comp c)).length := flat_len (m := 22) fun r hr => by
  obtain ⟨c, hc, rfl⟩ := List.mem_map.1 hr
  obtain ⟨i, hi, rfl⟩ := mem_nth hc
  have hf := fine_spec (o4 i hi)
  unfold lnT
  rw [List.length_append, nums_len1 (by
   intro n hn
   simp only [lnN, List.mem_cons, List.not_mem_nil, or_false] at hn
   rcases hn with rfl | rfl | rfl | rfl | rfl | rfl | rfl <;> omega)]
  simp [lnW, lnN, lComputer]
 have hd : ((b.dues.map fun c => lnT (.due c)).flatMap fun r => r ++ [10]).length ≤ 9 * (b.dues.map fun c => lnT (.due c)).length := flat_len (m := 8) fun r hr => by
  obtain ⟨c, hc, rfl⟩ := List.mem_map.1 hr
  obtain ⟨i, hi, rfl⟩ := mem_nth hc
  have hf := o5 i hi
  have := nums_len (l := [nth b.dues i]) fun n hn => by rw [List.mem_singleton.1 hn]; exact ⟨hf.1, by omega⟩
  unfold lnT
  rw [List.length_append]
  simp only [lnW, lnN, lTable, List.length_cons, List.length_nil] at this ⊢
  omega
 have hs : ((b.sheets.map fun c => lnT (.sheet c)).flatMap fun r => r ++ [10]).length ≤ 8 * (b.sheets.map fun c => lnT (.sheet c)).length := flat_len (m := 7) fun r hr => by
  obtain ⟨c, hc, rfl⟩ := List.mem_map.1 hr
  obtain ⟨i, hi, rfl⟩ := mem_nth hc
  have hf := o6 i hi
  have := nums_len1 (l := [nth b.sheets i]) fun n hn => by rw [List.mem_singleton.1 hn]; omega
  unfold lnT
  rw [List.length_append]
  simp only [lnW, lnN, lSheet, List.length_cons, List.length_nil] at this ⊢
  omega
 have e : b.rows = lnT .head :: ((b.comps.map fun c => lnT (.comp c)) ++ (b.dues.map fun c => lnT (.due c)) ++ (b.sheets.map fun c => lnT (.sheet c))) := by
  unfold Book.rows Book.lns
  simp [Function.comp_def]
 have h0 : (lnT .head).length = 4 := rfl
 have hse := seal_len b.rows
 rw [text_eq]
 rw [List.length_append, List.length_append, List.length_singleton]
 rw [e, List.flatMap_cons, List.flatMap_append, List.flatMap_append, List.length_append, List.length_append, List.length_append, List.length_append, h0, List.length_singleton, ← e]
 rw [List.length_map] at hc hd hs
 omega
theorem eqL_refl : ∀ l : List Int, eqL l l = true
 | [] => rfl
 | x :: l => by unfold eqL; rw [eqL_refl l]; simp
theorem sameL_refl {α : Type} [Inhabited α] {eq : α → α → Bool} (h : ∀ x, eq x x = true) (l : List α) : sameL eq l l = true := by
 unfold sameL
 rw [beq_self_eq_true, Bool.true_and, List.all_eq_true]
 exact fun i _ => h _
theorem sameI_refl (l : List Int) : sameL (· == ·) l l = true := sameL_refl (fun x => beq_self_eq_true x) l
theorem sameBooks_refl (b : Book) : sameBooks b b = true := by
 unfold sameBooks
 rw [beq_self_eq_true, sameI_refl, sameI_refl, Bool.true_and, Bool.true_and, Bool.true_and, List.all_eq_true]
 exact fun i _ => eqL_refl _
end Go.Vc.Gd
namespace Go.Vc.Gd
open Go Go.Proofs Go.Vc
theorem set_split (c : UInt8) (y : UInt8) (hy : y ≠ c) : ∀ (l : List UInt8) (p : Nat), p < l.length → nth l p ≠ c →
  ∃ i k, i < (splitL c l).length ∧ k < (nth (splitL c l) i).length ∧ nth (nth (splitL c l) i) k = nth l p ∧ splitL c (l.set p y) = (splitL c l).set i ((nth (splitL c l) i).set k y)
 | [], p, h, _ => by simp at h
 | x :: r, 0, _, hx => by
  have hx : x ≠ c := hx
  have hxc : (x == c) = false := beq_eq_false_iff_ne.2 hx
  have hyc : (y == c) = false := beq_eq_false_iff_ne.2 hy
  have hne := splitL_ne c r
  rw [List.set_cons_zero]
  unfold splitL
  rw [hxc, hyc, cond_false, cond_false]
  cases hs : splitL c r with
  | nil => exact absurd hs hne
  | cons P Q => exact ⟨0, 0, by simp, by simp [nth], rfl, rfl⟩
 | x :: r, p + 1, h, hx => by
  have hp : p < r.length := by simpa using h
  have hx' : nth r p ≠ c := hx
  obtain ⟨i, k, h1, h2, h3, h4⟩ := set_split c y hy r p hp hx'
  rw [List.set_cons_succ]
  unfold splitL
  cases hxc : x == c with
  | true =>
   simp only [cond_true]
   refine ⟨i + 1, k, by simpa using h1, h2, h3, ?_⟩
   rw [h4]
   rfl
  | false =>
   simp only [cond_false]
   rw [h4]
   cases hs : splitL c r with
   | nil => exact absurd hs (splitL_ne c r)
   | cons P Q =>
    rw [hs] at h1 h2 h3
    cases i with
    | zero => exact ⟨0, k + 1, by simp, by simpa [nth] using h2, h3, rfl⟩
    | succ i => exact ⟨i + 1, k, by simpa using h1, h2, h3, rfl⟩
theorem nth_set_eq {α : Type} [Inhabited α] {l : List α} {i : Nat} {x : α} (h : i < l.length) : nth (l.set i x) i = x := by rw [nth_set, if_pos ⟨rfl, h⟩]
theorem nth_set_ne {α : Type} [Inhabited α] {l : List α} {i j : Nat} {x : α} (h : i ≠ j) : nth (l.set i x) j = nth l j := by rw [nth_set, if_neg fun hh => h hh.1]
theorem sumTo_set (w : List UInt8) (i k : Nat) (y : UInt8) (hk : k < w.length) : ∀ m, m ≤ w.length → sumTo (w.set k y) i m = sumTo w i m + if k < m then ((y.toNat : Int) - ((nth w k).toNat : Int)) * ((k : Int) + 1) * ((i : Int) + 1) else 0
 | 0, _ => by simp [sumTo]
 | m + 1, hm => by
  have ih := sumTo_set w i k y hk m (by omega)
  unfold sumTo
  rw [ih]
  rcases Nat.lt_trichotomy k m with h | h | h
  ·rw [if_pos h, if_pos (by omega), nth_set_ne (by omega)]
   omega
  ·subst h
   rw [if_neg (by omega), if_pos (by omega), nth_set_eq hk, Int.sub_mul, Int.sub_mul]
   omega
  ·rw [if_neg (by omega), if_neg (by omega), nth_set_ne (by omega)]
   omega
theorem checkTo_set (rows : List (List UInt8)) (i : Nat) (r : List UInt8) (hi : i < rows.length) : ∀ m, m ≤ rows.length → checkTo (rows.set i r) m = checkTo rows m + if i < m then sumTo r i r.length - sumTo (nth rows i) i (nth rows i).length else 0
 | 0, _ => by simp [checkTo]
 | m + 1, hm => by
  have ih := checkTo_set rows i r hi m (by omega)
  unfold checkTo
  rw [ih]
  rcases Nat.lt_trichotomy i m with h | h | h
  ·rw [if_pos h, if_pos (by omega), nth_set_ne (by omega)]
   omega
  ·subst h
   rw [if_neg (by omega), if_pos (by omega), nth_set_eq hi]
   omega
  ·rw [if_neg (by omega), if_neg (by omega), nth_set_ne (by omega)]
   omega
theorem prime251 : ∀ d : Nat, d < 10 → ∀ k : Nat, k < 30 → ∀ i : Nat, i < 11 → (d * k * i) % 251 = 0 → d * k * i = 0 := by decide +kernel
theorem dec_inj {n m : Int} (hn : sm n) (hm : sm m) (h : dec n = dec m) : n = m := by
 have h1 := numOf_dec hn
 rw [h, numOf_dec hm] at h1
 exact (Option.some.inj h1).symm
theorem check_parts (rows : List (List UInt8)) : (0 ≤ Int.tdiv (checkOf rows) 100 ∧ Int.tdiv (checkOf rows) 100 < 10) ∧ (0 ≤ Int.tmod (Int.tdiv (checkOf rows) 10) 10 ∧ Int.tmod (Int.tdiv (checkOf rows) 10) 10 < 10) ∧ (0 ≤ Int.tmod (checkOf rows) 10 ∧ Int.tmod (checkOf rows) 10 < 10) ∧
  checkOf rows = 100 * Int.tdiv (checkOf rows) 100 + 10 * Int.tmod (Int.tdiv (checkOf rows) 10) 10 + Int.tmod (checkOf rows) 10 := by
 have h := checkOf_range rows
 have h2 : 0 ≤ checkOf rows / 10 := by omega
 rw [Int.tdiv_eq_ediv_of_nonneg h.1, Int.tdiv_eq_ediv_of_nonneg h.1, Int.tmod_eq_emod_of_nonneg h2, Int.tmod_eq_emod_of_nonneg h.1]
 omega
theorem seal_inj {r s : List (List UInt8)} (h : sealLn r = sealLn s) : checkOf r = checkOf s := by
 obtain ⟨a1, a2, a3, a4⟩ := check_parts r
 obtain ⟨b1, b2, b3, b4⟩ := check_parts s
 obtain ⟨c1, c2, c3⟩ := check_digits r
 obtain ⟨d1, d2, d3⟩ := check_digits s
 unfold sealLn at h
 rw [List.append_assoc, List.append_assoc, List.append_assoc, List.append_assoc] at h
 have h1 := List.append_cancel_left h
 obtain ⟨e1, h2⟩ := List.append_inj h1 (by rw [dec_len1 a1.1 a1.2, dec_len1 b1.1 b1.2])
 obtain ⟨e2, e3⟩ := List.append_inj h2 (by rw [dec_len1 a2.1 a2.2, dec_len1 b2.1 b2.2])
 rw [a4, b4, dec_inj c1 d1 e1, dec_inj c2 d2 e2, dec_inj c3 d3 e3]
theorem parse_sm {s : List UInt8} {b : Book} (h : parse s = some b) : SmB b ∧ b.comps.length + b.dues.length + b.sheets.length ≤ (splitL 10 s).length := by
 unfold parse at h
 cases hc : decide (3 ≤ (splitL 10 s).length) && ((mid s).all rowOK && ((bookTo (mid s) (mid s).length).text == s)) with
 | false => rw [hc] at h; cases h
 | true =>
  rw [hc] at h
  obtain rfl := Option.some.inj h
  obtain ⟨h1, h2⟩ := bookTo_sm (mid s) (mid s).length
  refine ⟨h1, ?_⟩
  rw [h2]
  unfold mid
  simp only [List.length_take, List.length_drop]
  omega
theorem body_len (b : Book) : b.rows.length = 1 + b.comps.length + b.dues.length + b.sheets.length := by
 rw [rows_cons]
 unfold Book.body
 simp only [List.length_cons, List.length_map, List.length_append]
 omega
theorem dig_bytes {c : UInt8} (h : isDig c = true) : 48 ≤ c.toNat ∧ c.toNat ≤ 57 := by
 unfold isDig at h
 simpa using h
theorem app_set {α : Type} [Inhabited α] {a t : List α} {i : Nat} {x : α} (h : i < a.length) : (a ++ t).set i x = a.set i x ++ t := by
 rw [List.set_append, if_pos h]
theorem spoilt {b : Book} (hb : b.ok = true) {p : Nat} {y : UInt8} (hp : p < b.text.length) (hd : isDig (nth b.text p) = true) (hy : isDig y = true) (hne : y ≠ nth b.text p) : parse (b.text.set p y) = none := by
 cases hx : parse (b.text.set p y) with
 | none => rfl
 | some b' =>
  exfalso
  have ht := parse_text hx
  obtain ⟨s1, s2⟩ := parse_sm hx
  have low := ok_low hb
  have hsp := text_split low
  have hy10 : y ≠ 10 := fun e => by subst e; cases hy
  have hd10 : nth b.text p ≠ 10 := fun e => by rw [e] at hd; cases hd
  obtain ⟨i, k, h1, h2, h3, h4⟩ := set_split 10 y hy10 b.text p hp hd10
  obtain ⟨o1, o2, o3, _⟩ := ok_spec hb
  have hbl := body_len b
  have hlen : (splitL 10 b.text).length = b.rows.length + 2 := by rw [hsp]; simp
  have low' : b'.low := s1.low (by
   rw [h4, List.length_set, hlen] at s2
   omega)
  have hsp' := text_split low'
  rw [ht, h4, hsp] at hsp'
  rw [hsp] at h1 h2 h3
  have hl2 := congrArg List.length hsp'
  simp only [List.length_set, List.length_append, List.length_cons, List.length_nil] at hl2
  rcases Nat.lt_trichotomy i b.rows.length with hi | hi | hi
  ·rw [nth_append_lt hi] at h2 h3 hsp'
   rw [app_set hi] at hsp'
   obtain ⟨e1, e2⟩ := List.append_inj hsp' (by rw [List.length_set]; omega)
   have e3 : sealLn b.rows = sealLn b'.rows := (List.cons.inj e2).1
   have e4 := seal_inj e3
   rw [← e1] at e4
   unfold checkOf at e4
   rw [List.length_set] at e4
   have c1 := checkTo_nonneg b.rows b.rows.length
   have c2 := checkTo_nonneg (b.rows.set i ((nth b.rows i).set k y)) b.rows.length
   rw [Int.tmod_eq_emod_of_nonneg c1, Int.tmod_eq_emod_of_nonneg c2] at e4
   have e5 := checkTo_set b.rows i ((nth b.rows i).set k y) hi b.rows.length (Nat.le_refl _)
   rw [if_pos hi, List.length_set, sumTo_set _ i k y h2 _ (Nat.le_refl _), if_pos h2] at e5
   have hrow : (nth b.rows i).length ≤ 29 := by
    rw [rows_nth (by rw [← rows_len]; exact hi)]
    exact ln_len (low.n _ (nth_mem (by rw [← rows_len]; exact hi)))
   rw [h3] at e5
   have hyb := dig_bytes hy
   have hdb := dig_bytes hd
   have hyd : y.toNat ≠ (nth b.text p).toNat := fun e => hne (UInt8.toNat_inj.1 e)
   generalize nth b.text p = z at *
   generalize checkTo b.rows b.rows.length = A at *
   generalize checkTo (b.rows.set i ((nth b.rows i).set k y)) b.rows.length = B at *
   have hBA : B = A + ((y.toNat : Int) - (z.toNat : Int)) * ((k : Int) + 1) * ((i : Int) + 1) := by
    rw [e5]; omega
   rcases Nat.lt_or_ge y.toNat z.toNat with hlt | hge
   ·obtain ⟨d, hdd⟩ : ∃ d : Nat, z.toNat = y.toNat + d := ⟨z.toNat - y.toNat, by omega⟩
    have e6 : ((y.toNat : Int) - (z.toNat : Int)) * ((k : Int) + 1) * ((i : Int) + 1) = -((d * (k + 1) * (i + 1) : Nat) : Int) := by
     rw [show ((y.toNat : Int) - (z.toNat : Int)) = -(d : Int) by omega]
     push_cast
     rw [Int.neg_mul, Int.neg_mul]
    have hz := prime251 d (by omega) (k + 1) (by omega) (i + 1) (by omega) (by omega)
    have : 0 < d * (k + 1) * (i + 1) := Nat.mul_pos (Nat.mul_pos (by omega) (by omega)) (by omega)
    omega
   ·obtain ⟨d, hdd⟩ : ∃ d : Nat, y.toNat = z.toNat + d := ⟨y.toNat - z.toNat, by omega⟩
    have e6 : ((y.toNat : Int) - (z.toNat : Int)) * ((k : Int) + 1) * ((i : Int) + 1) = ((d * (k + 1) * (i + 1) : Nat) : Int) := by
     rw [show ((y.toNat : Int) - (z.toNat : Int)) = (d : Int) by omega]
     push_cast
     rfl
    have hz := prime251 d (by omega) (k + 1) (by omega) (i + 1) (by omega) (by omega)
    have : 0 < d * (k + 1) * (i + 1) := Nat.mul_pos (Nat.mul_pos (by omega) (by omega)) (by omega)
    omega
  ·subst hi
   have hn : nth (b.rows ++ [sealLn b.rows, []]) b.rows.length = sealLn b.rows := by rw [nth_append_ge (Nat.le_refl _), Nat.sub_self]; rfl
   rw [hn] at h2 h3 hsp'
   rw [List.set_append, if_neg (by omega), Nat.sub_self] at hsp'
   obtain ⟨e1, e2⟩ := List.append_inj hsp' (by omega)
   have e3 : (sealLn b.rows).set k y = sealLn b'.rows := (List.cons.inj e2).1
   rw [← e1] at e3
   have e4 : nth ((sealLn b.rows).set k y) k = nth (sealLn b.rows) k := congrArg (fun l => nth l k) e3
   rw [nth_set_eq h2, h3] at e4
   exact hne e4
  ·have : i = b.rows.length + 1 := by
    simp only [List.length_append, List.length_cons, List.length_nil] at h1
    omega
   subst this
   rw [nth_append_ge (by omega)] at h2
   have e : b.rows.length + 1 - b.rows.length = 1 := by omega
   rw [e] at h2
   exact absurd h2 (by simp [nth])
end Go.Vc.Gd
namespace Go.Vc.Gd
open Go Go.Proofs Go.Vc
end Go.Vc.Gd
namespace Go.Vc.Gd
open Go Go.Proofs Go.Vc
variable {Gl : World → Prop}
set_option maxRecDepth 100000
theorem Srf (n : Nat) (f : Nat → List C) : SEq n f n f := (SEq_refl n f).2 trivial
theorem kWhy (S : Set Tryz.prog Y Gl) (f : Nat → List C) (h : SEq 2 f exW.length fun i => eTask (nth exW i)) : Computes Tryz.prog Gl 23 [tBook exA, .d (.c (.s .n 2 f))] (.ret (.tup [.c (Ci 1), .c (Ci 4), .c (Ci 0)])) := by
 have h1 := why23 S exA exW
 rw [ex_whyS, ex_whyF, ex_whyErr] at h1
 exact h1.args ⟨Srf _ _, Srf _ _, Srf _ _, h⟩
theorem kWhen (S : Set Tryz.prog Y Gl) (f g h : Nat → List C) (hf : SEq 3 f exTruth.post.length fun i => eI (nth exTruth.post i)) (hg : SEq 3 g exTruth.sheet.length fun i => eI (nth exTruth.sheet i)) (hh : SEq 3 h exTruth.look.length fun i => eI (nth exTruth.look i)) : Computes Tryz.prog Gl 29 [tBook exA, L eTask exP, .d (.agg [.s .n 3 f, .s .n 3 g, .s .n 3 h])] (.ret (.tup [.c (.l eI [6, 6]), .c (Ci 0)])) := by
 have h1 := when29 S exA exP exTruth exA_ok exP_good exTruth_ok
 rw [ex_days] at h1
 exact h1.args ⟨Srf _ _, Srf _ _, Srf _ _, Srf _ _, hf, hg, hh⟩
theorem kBack (S : Set Tryz.prog Y Gl) : Computes Tryz.prog Gl 28 [tBook exA, L eTask exP] (.ret (.tup [.c (.l eSpan [⟨5, 8⟩, ⟨6, 11⟩]), .c (Ci 0)])) := by
 have h1 := back28 S exA exP exA_ok exP_good
 rw [ex_backs] at h1
 exact h1
theorem kTables (S : Set Tryz.prog Y Gl) : Computes Tryz.prog Gl 38 [tBook exA, L eTask exP] (.ret (.tup [.c (.l eI [3, 2]), .c (Ci 0)])) := by
 have h1 := tables38 S exA exP exA_ok exP_good
 rw [ex_tables] at h1
 exact h1
theorem kProof (S : Set Tryz.prog Y Gl) : Computes Tryz.prog Gl 40 [tBook exA, L eTask exP] (.ret (.tup [.c (Ci 1), .c (Ci 1), .c (Ci 11), .c (Ci 0)])) := by
 have h1 := proof40 S exA exP exA_ok exP_good
 rw [ex_proof1, ex_proof2, ex_proof3, ex_isProof] at h1
 exact h1
theorem kIdle (S : Set Tryz.prog Y Gl) : Computes Tryz.prog Gl 45 [tBook exA, L eTask exP] (.ret (.tup [.c (.l eI []), .c (Ci 0)])) := by
 have h1 := idle45 S exA exP exA_ok exP_good
 rw [ex_idle] at h1
 exact h1
theorem kLost (S : Set Tryz.prog Y Gl) : Computes Tryz.prog Gl 46 [tBook exA, L eTask exR, I 0, I 1] (.ret (.tup [.c (.l eSpan [⟨6, 13⟩, ⟨5, 8⟩]), .c (Ci 0)])) := by
 have h1 := lost46 S exA exR 0 1 exA_ok exR_good exA_sheet0 exA_comp1 exR_hand
 rw [ex_losts] at h1
 exact h1
theorem kFirst (S : Set Tryz.prog Y Gl) : Computes Tryz.prog Gl 49 [tBook exA] (.ret (.tup [.c (.l eTask exR), .c (Ci 0)])) := by
 have h1 := first49 S exA exA_ok
 rw [ex_first, ex_noFirst] at h1
 exact h1
theorem kCount (S : Set Tryz.prog Y Gl) : Computes Tryz.prog Gl 50 [tBook exA] (.ret (.tup [.c (Ci 1), .c (Ci 0)])) := by
 have h1 := count50 S exA exA_ok
 rw [ex_count] at h1
 exact h1
theorem kBest (S : Set Tryz.prog Y Gl) : Computes Tryz.prog Gl 51 [tBook exA] (.ret (.tup [.c (.l eTask exR), .c (Ci 9), .c (Ci 0)])) := by
 have h1 := best51 S exA exA_ok
 rw [ex_best, ex_plans] at h1
 exact h1
theorem kWho (S : Set Tryz.prog Y Gl) : Computes Tryz.prog Gl 57 [tBook exA, I 1] (.ret (.tup [.c (.l eI [0, 1]), .c (Ci 0)])) := by
 have h1 := who57 S exA 1 exA_ok exA_sheet1
 rw [ex_who] at h1
 exact h1
theorem kMore (S : Set Tryz.prog Y Gl) : Computes Tryz.prog Gl 64 [tBook exA, I 1] (.ret (.tup [.c (Ci 8), .c (Ci 0)])) := by
 have h1 := more64 S exA 1 exA_ok exA_comp1 (by decide)
 rw [ex_best1, ex_plans1] at h1
 exact h1
theorem kRead (S : Set Tryz.prog Y Gl) (hG : GlOK Gl) : Computes Tryz.prog Gl 70 [str [103, 105, 118, 101, 10, 99, 111, 109, 112, 117, 116, 101, 114, 32, 48, 32, 48, 32, 48, 32, 49, 32, 49, 32, 49, 32, 49, 10, 116, 97, 98, 108, 101, 32, 48, 10, 115, 104, 101, 101, 116, 32, 48, 10, 101, 110, 100, 32, 48, 51, 49, 10]] (.ret (.tup [.agg (cBook exT), .c (Ci 0)])) := by
 have h1 := read70 S txT exT (by decide) (parsed109some S hG txT (by decide) parse_txT) exT_ok
 exact h1
theorem kSame (S : Set Tryz.prog Y Gl) (f : Nat → List C) (h : SEq 2 f [(6 : Int), 6].length fun i => eI (nth [6, 6] i)) : Computes Tryz.prog Gl 34 [L eI [6, 6], .d (.c (.s .n 2 f))] (.ret (B true)) :=
 (show Computes Tryz.prog Gl 34 [L eI [6, 6], L eI [6, 6]] (.ret (B true)) from same34 S [6, 6] [6, 6]).args ⟨Srf _ _, h⟩
theorem kSame2 (S : Set Tryz.prog Y Gl) (f : Nat → List C) (h : SEq 2 f [(0 : Int), 1].length fun i => eI (nth [0, 1] i)) : Computes Tryz.prog Gl 34 [L eI [0, 1], .d (.c (.s .n 2 f))] (.ret (B true)) :=
 (show Computes Tryz.prog Gl 34 [L eI [0, 1], L eI [0, 1]] (.ret (B true)) from same34 S [0, 1] [0, 1]).args ⟨Srf _ _, h⟩
theorem kSpans (S : Set Tryz.prog Y Gl) (f : Nat → List C) (h : SEq 2 f [(⟨5, 8⟩ : Span), ⟨6, 11⟩].length fun i => eSpan (nth [⟨5, 8⟩, ⟨6, 11⟩] i)) : Computes Tryz.prog Gl 31 [L eSpan [⟨5, 8⟩, ⟨6, 11⟩], .d (.c (.s .n 2 f))] (.ret (B true)) :=
 (show Computes Tryz.prog Gl 31 [L eSpan [⟨5, 8⟩, ⟨6, 11⟩], L eSpan [⟨5, 8⟩, ⟨6, 11⟩]] (.ret (B true)) from sameSpans31 S [⟨5, 8⟩, ⟨6, 11⟩] [⟨5, 8⟩, ⟨6, 11⟩]).args ⟨Srf _ _, h⟩
theorem kSpans2 (S : Set Tryz.prog Y Gl) (f : Nat → List C) (h : SEq 2 f [(⟨6, 13⟩ : Span), ⟨5, 8⟩].length fun i => eSpan (nth [⟨6, 13⟩, ⟨5, 8⟩] i)) : Computes Tryz.prog Gl 31 [L eSpan [⟨6, 13⟩, ⟨5, 8⟩], .d (.c (.s .n 2 f))] (.ret (B true)) :=
 (show Computes Tryz.prog Gl 31 [L eSpan [⟨6, 13⟩, ⟨5, 8⟩], L eSpan [⟨6, 13⟩, ⟨5, 8⟩]] (.ret (B true)) from sameSpans31 S [⟨6, 13⟩, ⟨5, 8⟩] [⟨6, 13⟩, ⟨5, 8⟩]).args ⟨Srf _ _, h⟩
theorem kWords (S : Set Tryz.prog Y Gl) (f : Nat → List C) (h : SEq 2 f [(3 : Int), 2].length fun i => eI (nth [3, 2] i)) : Computes Tryz.prog Gl 41 [L eI [3, 2], .d (.c (.s .n 2 f))] (.ret (B true)) :=
 (show Computes Tryz.prog Gl 41 [L eI [3, 2], L eI [3, 2]] (.ret (B true)) from sameWords41 S [3, 2] [3, 2]).args ⟨Srf _ _, h⟩
theorem kPlans (S : Set Tryz.prog Y Gl) : Computes Tryz.prog Gl 54 [L eTask exR, L eTask exR] (.ret (B true)) := samePlans54 S exR exR
theorem kPrint (S : Set Tryz.prog Y Gl) : Computes Tryz.prog Gl 71 [tBook exT] (.ret (str txT)) := by
 have h1 := print71 S exT exT_low
 rw [exT_text] at h1
 exact h1
theorem known22 (S : Set Tryz.prog Y Gl) (hG : GlOK Gl) : Computes Tryz.prog Gl 22 [] (.ret (B true)) := by
 refine fn_is S (.r (.ret (tBook exA)) (.r (.ret (T.d (D.agg [Ci 0,Ci 1,Ci 2]))) (.r (.ret (T.d (D.agg [Ci 0,Ci 2,Ci 1]))) (.r (.ret (.tup [D.c (Ci 1),D.c (Ci 4),D.c (Ci 0)])) (.r (.ret (tBook exA)) (.r (.ret (L eTask exP)) (.r (.ret (.tup [D.c (C.l eI [(6:Int),(6:Int)]),D.c (Ci 0)])) (.r (.ret (tBook exA)) (.r (.ret (L eTask exP)) (.r (.ret (.tup [D.c (C.l eSpan [Span.mk (5:Int) (8:Int),Span.mk (6:Int) (11:Int)]),D.c (Ci 0)])) (.r (.ret (tBook exA)) (.r (.ret (L eTask exP)) (.r (.ret (.tup [D.c (C.l eI [(3:Int),(2:Int)]),D.c (Ci 0)])) (.r (.ret (tBook exA)) (.r (.ret (L eTask exP)) (.r (.ret (.tup [D.c (Ci 1),D.c (Ci 1),D.c (Ci 11),D.c (Ci 0)])) (.r (.ret (tBook exA)) (.r (.ret (L eTask exP)) (.r (.ret (.tup [D.c (C.l eI []),D.c (Ci 0)])) (.r (.ret (tBook exA)) (.r (.ret (L eTask exR)) (.r (.ret (.tup [D.c (C.l eSpan [Span.mk (6:Int) (13:Int),Span.mk (5:Int) (8:Int)]),D.c (Ci 0)])) (.r (.ret (tBook exA)) (.r (.ret (.tup [D.c (C.l eTask exR),D.c (Ci 0)])) (.r (.ret (tBook exA)) (.r (.ret (.tup [D.c (Ci 1),D.c (Ci 0)])) (.r (.ret (tBook exA)) (.r (.ret (.tup [D.c (C.l eTask exR),D.c (Ci 9),D.c (Ci 0)])) (.r (.ret (tBook exA)) (.r (.ret (.tup [D.c (C.l eI [(0:Int),(1:Int)]),D.c (Ci 0)])) (.r (.ret (tBook exA)) (.r (.ret (.tup [D.c (Ci 8),D.c (Ci 0)])) (.r (.ret (.tup [D.agg (cBook exT),D.c (Ci 0)])) (.sure 115 (.sure 116 (.sure 119 (.sure 120 (.sure 123 (.sure 124 (.sure 127 (.sure 128 (.sure 131 (.sure 132 (.sure 135 (.sure 136 (.sure 139 (.sure 140 (.sure 143 (.sure 144 (.sure 147 (.sure 148 (.sure 151 (.sure 152 (.sure 155 (.sure 156 (.sure 159 (.sure 160 (.ff (.sure 165 (.sure 166 (.sure 169 (.sure 170 (.sure 171 (.r (.ret (B true)) (.sure 172 (.sure 175 (.sure 176 (.r (.ret (T.d (D.agg [Ci 5,Ci 8]))) (.sure 177 (.r (.ret (T.d (D.agg [Ci 6,Ci 11]))) (.sure 178 (.sure 179 (.r (.ret (B true)) (.sure 180 (.sure 183 (.sure 184 (.sure 185 (.r (.ret (B true)) (.sure 186 (.sure 189 (.sure 190 (.sure 193 (.sure 194 (.sure 197 (.sure 198 (.sure 201 (.sure 202 (.sure 203 (.ff (.r (.ret (T.d (D.agg [Ci 6,Ci 13]))) (.r (.ret (T.d (D.agg [Ci 5,Ci 8]))) (.r (.ret (B true)) (.sure 211 (.sure 212 (.r (.ret (L eTask exR)) (.sure 213 (.r (.ret (B true)) (.sure 216 (.sure 217 (.sure 220 (.sure 221 (.r (.ret (L eTask exR)) (.sure 222 (.r (.ret (B true)) (.sure 225 (.sure 226 (.sure 229 (.sure 230 (.sure 231 (.r (.ret (B true)) (.sure 234 (.sure 235 (.sure 238 (.sure 239 (.r (.ret (str txT)) (.sure 240 .nil)))))))))))))))))))))))))))))))))))))))))))))))))))))))))))))))))))))))))))))))))))))))))))))))))))))))))))))))))))) Tryz.func22 (by kernel_rfl) (Computes Tryz.prog Gl 74 [] (.ret (tBook exA))∧Computes Tryz.prog Gl 75 [I 0,I 1,I 2] (.ret (T.d (D.agg [Ci 0,Ci 1,Ci 2])))∧Computes Tryz.prog Gl 75 [I 0,I 2,I 1] (.ret (T.d (D.agg [Ci 0,Ci 2,Ci 1])))∧Computes Tryz.prog Gl 23 [tBook exA,T.d (D.c (C.s Tag.n (2:Nat) fun i=>List.getD [List.map C.dem (List.map C.dem [C.v (Value.int IntKind.i64 (0:Int)),C.v (Value.int IntKind.i64 (1:Int)),C.v (Value.int IntKind.i64 (2:Int))]),List.map C.dem (List.map C.dem [C.v (Value.int IntKind.i64 (0:Int)),C.v (Value.int IntKind.i64 (2:Int)),C.v (Value.int IntKind.i64 (1:Int))])] i []))] (.ret (.tup [D.c (Ci 1),D.c (Ci 4),D.c (Ci 0)]))∧Computes Tryz.prog Gl 74 [] (.ret (tBook exA))∧Computes Tryz.prog Gl 76 [] (.ret (L eTask exP))∧Computes Tryz.prog Gl 29 [tBook exA,L eTask exP,T.d (D.agg [C.s Tag.n (3:Nat) fun i=>List.getD [List.map C.dem [C.v (Value.int IntKind.i64 (1:Int))],List.map C.dem [C.v (Value.int IntKind.i64 (0:Int))],List.map C.dem [C.v (Value.int IntKind.i64 (0:Int))]] i [],C.s Tag.n (3:Nat) fun i=>List.getD [List.map C.dem [C.v (Value.int IntKind.i64 (3:Int))],List.map C.dem [C.v (Value.int IntKind.i64 (1:Int))],List.map C.dem [C.v (Value.int IntKind.i64 (3:Int))]] i [],C.s Tag.n (3:Nat) fun i=>List.getD [List.map C.dem [C.v (Value.int IntKind.i64 (1:Int))],List.map C.dem [C.v (Value.int IntKind.i64 (1:Int))],List.map C.dem [C.v (Value.int IntKind.i64 (1:Int))]] i []])] (.ret (.tup [D.c (C.l eI [(6:Int),(6:Int)]),D.c (Ci 0)]))∧Computes Tryz.prog Gl 74 [] (.ret (tBook exA))∧Computes Tryz.prog Gl 76 [] (.ret (L eTask exP))∧Computes Tryz.prog Gl 28 [tBook exA,L eTask exP] (.ret (.tup [D.c (C.l eSpan [Span.mk (5:Int) (8:Int),Span.mk (6:Int) (11:Int)]),D.c (Ci 0)]))∧Computes Tryz.prog Gl 74 [] (.ret (tBook exA))∧Computes Tryz.prog Gl 76 [] (.ret (L eTask exP))∧Computes Tryz.prog Gl 38 [tBook exA,L eTask exP] (.ret (.tup [D.c (C.l eI [(3:Int),(2:Int)]),D.c (Ci 0)]))∧Computes Tryz.prog Gl 74 [] (.ret (tBook exA))∧Computes Tryz.prog Gl 76 [] (.ret (L eTask exP))∧Computes Tryz.prog Gl 40 [tBook exA,L eTask exP] (.ret (.tup [D.c (Ci 1),D.c (Ci 1),D.c (Ci 11),D.c (Ci 0)]))∧Computes Tryz.prog Gl 74 [] (.ret (tBook exA))∧Computes Tryz.prog Gl 76 [] (.ret (L eTask exP))∧Computes Tryz.prog Gl 45 [tBook exA,L eTask exP] (.ret (.tup [D.c (C.l eI []),D.c (Ci 0)]))∧Computes Tryz.prog Gl 74 [] (.ret (tBook exA))∧Computes Tryz.prog Gl 77 [] (.ret (L eTask exR))∧Computes Tryz.prog Gl 46 [tBook exA,L eTask exR,I 0,I 1] (.ret (.tup [D.c (C.l eSpan [Span.mk (6:Int) (13:Int),Span.mk (5:Int) (8:Int)]),D.c (Ci 0)]))∧Computes Tryz.prog Gl 74 [] (.ret (tBook exA))∧Computes Tryz.prog Gl 49 [tBook exA] (.ret (.tup [D.c (C.l eTask exR),D.c (Ci 0)]))∧Computes Tryz.prog Gl 74 [] (.ret (tBook exA))∧Computes Tryz.prog Gl 50 [tBook exA] (.ret (.tup [D.c (Ci 1),D.c (Ci 0)]))∧Computes Tryz.prog Gl 74 [] (.ret (tBook exA))∧Computes Tryz.prog Gl 51 [tBook exA] (.ret (.tup [D.c (C.l eTask exR),D.c (Ci 9),D.c (Ci 0)]))∧Computes Tryz.prog Gl 74 [] (.ret (tBook exA))∧Computes Tryz.prog Gl 57 [tBook exA,I 1] (.ret (.tup [D.c (C.l eI [(0:Int),(1:Int)]),D.c (Ci 0)]))∧Computes Tryz.prog Gl 74 [] (.ret (tBook exA))∧Computes Tryz.prog Gl 64 [tBook exA,I 1] (.ret (.tup [D.c (Ci 8),D.c (Ci 0)]))∧Computes Tryz.prog Gl 70 [str (have y:=have y:=have y:=[(110:UInt8),(100:UInt8),(32:UInt8),(48:UInt8),(51:UInt8),(49:UInt8),(10:UInt8)]; (101:UInt8)::(116:UInt8)::(32:UInt8)::(48:UInt8)::(10:UInt8)::(101:UInt8)::y; have y:=(101:UInt8)::(32:UInt8)::(48:UInt8)::(10:UInt8)::(115:UInt8)::(104:UInt8)::(101:UInt8)::y; (49:UInt8)::(10:UInt8)::(116:UInt8)::(97:UInt8)::(98:UInt8)::(108:UInt8)::y; have y:=have y:=(32:UInt8)::(49:UInt8)::(32:UInt8)::(49:UInt8)::(32:UInt8)::(49:UInt8)::(32:UInt8)::y; (32:UInt8)::(48:UInt8)::(32:UInt8)::(48:UInt8)::(32:UInt8)::(48:UInt8)::y; have y:=(111:UInt8)::(109:UInt8)::(112:UInt8)::(117:UInt8)::(116:UInt8)::(101:UInt8)::(114:UInt8)::y; (103:UInt8)::(105:UInt8)::(118:UInt8)::(101:UInt8)::(10:UInt8)::(99:UInt8)::y)] (.ret (.tup [D.agg (cBook exT),D.c (Ci 0)]))∧true=true∧true=true∧true=true∧true=true∧true=true∧true=true∧true=true∧true=true∧true=true∧true=true∧true=true∧true=true∧true=true∧true=true∧true=true∧true=true∧true=true∧true=true∧true=true∧true=true∧true=true∧true=true∧true=true∧true=true∧false=false∧true=true∧true=true∧true=true∧true=true∧true=true∧Computes Tryz.prog Gl 34 [L eI [(6:Int),(6:Int)],T.d (D.c (C.s Tag.n (2:Nat) fun i=>List.getD [List.map C.dem [C.v (Value.int IntKind.i64 (6:Int))],List.map C.dem [C.v (Value.int IntKind.i64 (6:Int))]] i []))] (.ret (B true))∧true=true∧true=true∧true=true∧Computes Tryz.prog Gl 39 [I 5,I 8] (.ret (T.d (D.agg [Ci 5,Ci 8])))∧true=true∧Computes Tryz.prog Gl 39 [I 6,I 11] (.ret (T.d (D.agg [Ci 6,Ci 11])))∧true=true∧true=true∧Computes Tryz.prog Gl 31 [L eSpan [Span.mk (5:Int) (8:Int),Span.mk (6:Int) (11:Int)],T.d (D.c (C.s Tag.n (2:Nat) fun i=>List.getD [List.map C.dem (List.map C.dem [C.v (Value.int IntKind.i64 (5:Int)),C.v (Value.int IntKind.i64 (8:Int))]),List.map C.dem (List.map C.dem [C.v (Value.int IntKind.i64 (6:Int)),C.v (Value.int IntKind.i64 (11:Int))])] i []))] (.ret (B true))∧true=true∧true=true∧true=true∧true=true∧Computes Tryz.prog Gl 41 [L eI [(3:Int),(2:Int)],T.d (D.c (C.s Tag.n (2:Nat) fun i=>List.getD [List.map C.dem [C.v (Value.int IntKind.i64 (3:Int))],List.map C.dem [C.v (Value.int IntKind.i64 (2:Int))]] i []))] (.ret (B true))∧true=true∧true=true∧true=true∧true=true∧true=true∧true=true∧true=true∧true=true∧true=true∧((0:Nat)≤maxLen→true=true∧false=false∧Computes Tryz.prog Gl 39 [I 6,I 13] (.ret (T.d (D.agg [Ci 6,Ci 13])))∧Computes Tryz.prog Gl 39 [I 5,I 8] (.ret (T.d (D.agg [Ci 5,Ci 8])))∧Computes Tryz.prog Gl 31 [L eSpan [Span.mk (6:Int) (13:Int),Span.mk (5:Int) (8:Int)],T.d (D.c (C.s Tag.n (2:Nat) fun i=>List.getD [List.map C.dem (List.map C.dem [C.v (Value.int IntKind.i64 (6:Int)),C.v (Value.int IntKind.i64 (13:Int))]),List.map C.dem (List.map C.dem [C.v (Value.int IntKind.i64 (5:Int)),C.v (Value.int IntKind.i64 (8:Int))])] i []))] (.ret (B true))∧true=true∧true=true∧Computes Tryz.prog Gl 77 [] (.ret (L eTask exR))∧true=true∧Computes Tryz.prog Gl 54 [L eTask exR,L eTask exR] (.ret (B true))∧true=true∧true=true∧true=true∧true=true∧Computes Tryz.prog Gl 77 [] (.ret (L eTask exR))∧true=true∧Computes Tryz.prog Gl 54 [L eTask exR,L eTask exR] (.ret (B true))∧true=true∧true=true∧true=true∧true=true∧true=true∧Computes Tryz.prog Gl 34 [L eI [(0:Int),(1:Int)],T.d (D.c (C.s Tag.n (2:Nat) fun i=>List.getD [List.map C.dem [C.v (Value.int IntKind.i64 (0:Int))],List.map C.dem [C.v (Value.int IntKind.i64 (1:Int))]] i []))] (.ret (B true))∧true=true∧true=true∧true=true∧true=true∧Computes Tryz.prog Gl 71 [tBook exT] (.ret (str txT))∧true=true∧true=true)) (by kernel_rfl) ?_
 have two : ∀ i, i < 2 → i = 0 ∨ i = 1 := fun i h => by omega
 have three : ∀ i, i < 3 → i = 0 ∨ i = 1 ∨ i = 2 := fun i h => by omega
 have t : (true = true) := rfl
 repeat' first | with_reducible apply And.intro | with_reducible intro _
 all_goals first
  | exact t
  | exact a74 S
  | exact p76 S
  | exact r77 S
  | exact task75 S _ _ _
  | exact span39 S _ _
  | exact kBack S
  | exact kTables S
  | exact kProof S
  | exact kIdle S
  | exact kLost S
  | exact kFirst S
  | exact kCount S
  | exact kBest S
  | exact kWho S
  | exact kMore S
  | exact kRead S hG
  | exact kPlans S
  | exact kPrint S
  | exact kWhy S _ ⟨rfl, fun i hi => by rcases two i hi with rfl | rfl <;> exact .inl rfl⟩
  | exact kWhen S _ _ _ ⟨rfl, fun i hi => by rcases three i hi with rfl | rfl | rfl <;> exact .inl rfl⟩ ⟨rfl, fun i hi => by rcases three i hi with rfl | rfl | rfl <;> exact .inl rfl⟩ ⟨rfl, fun i hi => by rcases three i hi with rfl | rfl | rfl <;> exact .inl rfl⟩
  | exact kSame S _ ⟨rfl, fun i hi => by rcases two i hi with rfl | rfl <;> exact .inl rfl⟩
  | exact kSame2 S _ ⟨rfl, fun i hi => by rcases two i hi with rfl | rfl <;> exact .inl rfl⟩
  | exact kSpans S _ ⟨rfl, fun i hi => by rcases two i hi with rfl | rfl <;> exact .inl rfl⟩
  | exact kSpans2 S _ ⟨rfl, fun i hi => by rcases two i hi with rfl | rfl <;> exact .inl rfl⟩
  | exact kWords S _ ⟨rfl, fun i hi => by rcases two i hi with rfl | rfl <;> exact .inl rfl⟩
  | rfl
  | skip
end Go.Vc.Gd
namespace Go.Vc.Gd
open Go Go.Proofs Go.Vc
variable {Gl : World → Prop}
theorem rightV (S : Set Tryz.prog Y Gl) (b : Book) {x : Bool} (h : b.ok = x) : Computes Tryz.prog Gl 21 [tBook b] (.ret (B x)) := by
 subst h; exact rightC S b
theorem sameB_T (S : Set Tryz.prog Y Gl) (x : Book) : Computes Tryz.prog Gl 72 [tBook x, tBook x] (.ret (B true)) := by
 have h := sameBooks72 S x x
 rw [sameBooks_refl] at h
 exact h
end Go.Vc.Gd
namespace Go.Vc.Gd
open Go Go.Proofs Go.Vc
variable {Gl : World → Prop}
end Go.Vc.Gd
namespace Go.Vc.Gd
open Go Go.Proofs Go.Vc
structure ProofOK (b : Book) (plan : List Task) (n i : Nat) : Prop where
 hn : n < b.dues.length
 hi : i < plan.length
 on : nth b.sheets i = (n : Int)
 late : nth b.dues n < (nth (backs b plan) i).high
 word : wordAt b plan n ≠ 3
 rows : ∀ m, m < n → wordAt b plan m = 3
 before : ∀ j, j < i → nth b.sheets j = (n : Int) → (nth (backs b plan) j).high ≤ nth b.dues n
end Go.Vc.Gd
namespace Go.Vc.Gd
open Go Go.Proofs Go.Vc
variable {Gl : World → Prop}
set_option maxRecDepth 100000
end Go.Vc.Gd
namespace Go.Vc.Gd
open Go Go.Proofs Go.Vc
variable {Gl : World → Prop}
set_option maxRecDepth 100000
end Go.Vc.Gd
namespace Go.Vc.Gd
open Go Go.Proofs Go.Vc
variable {Gl : World → Prop}
set_option maxRecDepth 100000
end Go.Vc.Gd
