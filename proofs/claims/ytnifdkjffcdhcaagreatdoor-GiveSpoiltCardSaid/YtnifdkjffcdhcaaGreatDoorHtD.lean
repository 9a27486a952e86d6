/- A part of the proofs over layer 6 (give): the program and the specification; no condition. -/
import Derived.Test.YtnifdkjffcdhcaaGreatDoorHtC
import Derived.Test.YtnifdkjffcdhcaaGreatDoorProg
import Derived.RangeFuncBox
set_option linter.all false
set_option linter.unusedSimpArgs false
set_option linter.unusedVariables false
namespace Go.Vc.Gd
open Go Go.Proofs Go.Vc
def tab : List (TypeId × Ty) := [
 (3, Ty.mk (K.int IntKind.i64) 1 8 [Value.int IntKind.i64 0] false),
 (4, Ty.mk K.bool 1 1 [Value.bool false] false),
 (26, Ty.mk (K.slice 35) 1 24 [Value.slice none 0 0] false),
 (23, Ty.mk (K.slice 3) 1 24 [Value.slice none 0 0] false),
 (35, Ty.mk (K.struct [(0, 3), (1, 3), (2, 3)]) 3 24 [Value.int IntKind.i64 0, Value.int IntKind.i64 0, Value.int IntKind.i64 0] true),
 (25, Ty.mk (K.struct [(0, 22), (1, 23), (2, 23)]) 3 72 [Value.slice none 0 0, Value.slice none 0 0, Value.slice none 0 0] false),
 (22, Ty.mk (K.slice 39) 1 24 [Value.slice none 0 0] false),
 (39, Ty.mk (K.struct [(0, 3), (1, 37), (3, 37), (5, 37)]) 7 56 [Value.int IntKind.i64 0, Value.int IntKind.i64 0, Value.int IntKind.i64 0, Value.int IntKind.i64 0, Value.int IntKind.i64 0, Value.int IntKind.i64 0, Value.int IntKind.i64 0] true),
 (37, Ty.mk (K.struct [(0, 3), (1, 3)]) 2 16 [Value.int IntKind.i64 0, Value.int IntKind.i64 0] true),
 (42, Ty.mk (K.struct [(0, 23), (1, 23), (2, 23)]) 3 72 [Value.slice none 0 0, Value.slice none 0 0, Value.slice none 0 0] false),
 (44, Ty.mk (K.slice 37) 1 24 [Value.slice none 0 0] false),
 (57, Ty.mk (K.slice 61) 1 24 [Value.slice none 0 0] false),
 (30, Ty.mk (K.int IntKind.i64) 1 8 [Value.int IntKind.i64 0] false),
 (29, Ty.mk (K.int IntKind.i64) 1 8 [Value.int IntKind.i64 0] false),
 (61, Ty.mk (K.int IntKind.i64) 1 8 [Value.int IntKind.i64 0] false),
 (81, Ty.mk (K.slice 26) 1 24 [Value.slice none 0 0] false),
 (116, Ty.mk (K.struct [(0, 25), (3, 26)]) 4 96 [Value.slice none 0 0, Value.slice none 0 0, Value.slice none 0 0, Value.slice none 0 0] false),
 (124, Ty.mk (K.struct [(0, 3), (1, 3)]) 2 16 [Value.int IntKind.i64 0, Value.int IntKind.i64 0] true),
 (118, Ty.mk (K.struct [(0, 3), (1, 29)]) 2 16 [Value.int IntKind.i64 0, Value.int IntKind.i64 0] false),
 (9, Ty.mk K.str 1 16 [Value.string (ByteArray.mk #[])] false),
 (1, Ty.mk K.other 1 8 [Value.nilFunc] false),
 (2, Ty.mk (K.int IntKind.i64) 1 8 [Value.int IntKind.i64 0] false),
 (5, Ty.mk (K.int IntKind.u8) 1 1 [Value.int IntKind.u8 0] false),
 (6, Ty.mk (K.int IntKind.u8) 1 1 [Value.int IntKind.u8 0] false),
 (7, Ty.mk (K.struct [(0, 2), (1, 3), (2, 4), (3, 6)]) 4 24 [Value.int IntKind.i64 0, Value.int IntKind.i64 0, Value.bool false, Value.int IntKind.u8 0] false),
 (8, Ty.mk (K.struct [(0, 2), (1, 3), (2, 4), (3, 6)]) 4 24 [Value.int IntKind.i64 0, Value.int IntKind.i64 0, Value.bool false, Value.int IntKind.u8 0] false),
 (10, Ty.mk K.str 1 16 [Value.string (ByteArray.mk #[])] false),
 (20, Ty.mk K.iface 1 16 [Value.nilIface] false),
 (21, Ty.mk (K.int IntKind.i32) 1 4 [Value.int IntKind.i32 0] false),
 (28, Ty.mk K.other 1 8 [Value.nilFunc] false),
 (110, Ty.mk (K.slice 5) 1 24 [Value.slice none 0 0] false),
 (132, Ty.mk K.other 1 8 [Value.nilFunc] false),
 (138, Ty.mk (K.struct [(0, 26), (1, 3)]) 2 32 [Value.slice none 0 0, Value.int IntKind.i64 0] false),
 (141, Ty.mk K.other 1 8 [Value.nilFunc] false),
 (149, Ty.mk (K.slice 9) 1 24 [Value.slice none 0 0] false),
 (156, Ty.mk (K.map 3 3) 1 8 [Value.map none] false),
 (161, Ty.mk K.other 1 8 [Value.nilFunc] false),
 (163, Ty.mk K.other 1 8 [Value.nilFunc] false),
 (164, Ty.mk (K.slice 138) 1 24 [Value.slice none 0 0] false),
 (166, Ty.mk K.other 1 8 [Value.nilFunc] false),
 (170, Ty.mk (K.int IntKind.u64) 1 8 [Value.int IntKind.u64 0] false),
 (171, Ty.mk (K.slice 179) 1 24 [Value.slice none 0 0] false),
 (173, Ty.mk (K.struct [(0, 39)]) 7 56 [Value.int IntKind.i64 0, Value.int IntKind.i64 0, Value.int IntKind.i64 0, Value.int IntKind.i64 0, Value.int IntKind.i64 0, Value.int IntKind.i64 0, Value.int IntKind.i64 0] false),
 (175, Ty.mk (K.struct [(0, 3)]) 1 8 [Value.int IntKind.i64 0] false),
 (177, Ty.mk (K.struct [(0, 3)]) 1 8 [Value.int IntKind.i64 0] false),
 (179, Ty.mk K.iface 1 16 [Value.nilIface] false),
 (183, Ty.mk (K.struct [(0, 9)]) 1 16 [Value.string (ByteArray.mk #[])] false),
 (187, Ty.mk (K.arr 4 9) 4 64 [Value.string (ByteArray.mk #[]), Value.string (ByteArray.mk #[]), Value.string (ByteArray.mk #[]), Value.string (ByteArray.mk #[])] false),
 (190, Ty.mk (K.struct [(0, 25), (3, 35)]) 6 96 [Value.slice none 0 0, Value.slice none 0 0, Value.slice none 0 0, Value.int IntKind.i64 0, Value.int IntKind.i64 0, Value.int IntKind.i64 0] false),
 (191, Ty.mk (K.arr 5 28) 5 40 [Value.nilFunc, Value.nilFunc, Value.nilFunc, Value.nilFunc, Value.nilFunc] false),
 (192, Ty.mk K.other 1 8 [Value.nilFunc] false),
 (196, Ty.mk (K.int IntKind.i64) 1 8 [Value.int IntKind.i64 0] false),
 (205, Ty.mk (K.int IntKind.u32) 1 4 [Value.int IntKind.u32 0] false),
 (207, Ty.mk (K.int IntKind.u64) 1 8 [Value.int IntKind.u64 0] false),
 (217, Ty.mk K.other 1 8 [Value.pointer none] false),
 (222, Ty.mk K.other 1 8 [Value.pointer none] false)]
def Y : TypeId → Ty := ofTab tab
theorem plain : plainTab tab = allPlain Tryz.prog tab := by kernel_rfl
theorem eqis : eqiOK Tryz.prog tab = true := by kernel_rfl
theorem yok : YOK Tryz.prog Y := yok_of tab plain (eqiOK_spec eqis)
theorem mixed : Tryz.prog.follows .mixedOrders = true := by kernel_rfl
end Go.Vc.Gd
namespace Go.Vc.Gd
open Go Go.Proofs Go.Vc
theorem func20 : Tryz.prog.funcs[20]? = some Tryz.f20 := by kernel_rfl
theorem func21 : Tryz.prog.funcs[21]? = some Tryz.f21 := by kernel_rfl
theorem func22 : Tryz.prog.funcs[22]? = some Tryz.f22 := by kernel_rfl
theorem func23 : Tryz.prog.funcs[23]? = some Tryz.f23 := by kernel_rfl
theorem func26 : Tryz.prog.funcs[26]? = some Tryz.f26 := by kernel_rfl
theorem func28 : Tryz.prog.funcs[28]? = some Tryz.f28 := by kernel_rfl
theorem func29 : Tryz.prog.funcs[29]? = some Tryz.f29 := by kernel_rfl
theorem func31 : Tryz.prog.funcs[31]? = some Tryz.f31 := by kernel_rfl
theorem func34 : Tryz.prog.funcs[34]? = some Tryz.f34 := by kernel_rfl
theorem func38 : Tryz.prog.funcs[38]? = some Tryz.f38 := by kernel_rfl
theorem func39 : Tryz.prog.funcs[39]? = some Tryz.f39 := by kernel_rfl
theorem func40 : Tryz.prog.funcs[40]? = some Tryz.f40 := by kernel_rfl
theorem func41 : Tryz.prog.funcs[41]? = some Tryz.f41 := by kernel_rfl
theorem func44 : Tryz.prog.funcs[44]? = some Tryz.f44 := by kernel_rfl
theorem func45 : Tryz.prog.funcs[45]? = some Tryz.f45 := by kernel_rfl
theorem func46 : Tryz.prog.funcs[46]? = some Tryz.f46 := by kernel_rfl
theorem func49 : Tryz.prog.funcs[49]? = some Tryz.f49 := by kernel_rfl
theorem func50 : Tryz.prog.funcs[50]? = some Tryz.f50 := by kernel_rfl
theorem func51 : Tryz.prog.funcs[51]? = some Tryz.f51 := by kernel_rfl
theorem func52 : Tryz.prog.funcs[52]? = some Tryz.f52 := by kernel_rfl
theorem func54 : Tryz.prog.funcs[54]? = some Tryz.f54 := by kernel_rfl
theorem func57 : Tryz.prog.funcs[57]? = some Tryz.f57 := by kernel_rfl
theorem func64 : Tryz.prog.funcs[64]? = some Tryz.f64 := by kernel_rfl
theorem func69 : Tryz.prog.funcs[69]? = some Tryz.f69 := by kernel_rfl
theorem func70 : Tryz.prog.funcs[70]? = some Tryz.f70 := by kernel_rfl
theorem func71 : Tryz.prog.funcs[71]? = some Tryz.f71 := by kernel_rfl
theorem func72 : Tryz.prog.funcs[72]? = some Tryz.f72 := by kernel_rfl
theorem func74 : Tryz.prog.funcs[74]? = some Tryz.f74 := by kernel_rfl
theorem func75 : Tryz.prog.funcs[75]? = some Tryz.f75 := by kernel_rfl
theorem func76 : Tryz.prog.funcs[76]? = some Tryz.f76 := by kernel_rfl
theorem func77 : Tryz.prog.funcs[77]? = some Tryz.f77 := by kernel_rfl
theorem func78 : Tryz.prog.funcs[78]? = some Tryz.f78 := by kernel_rfl
theorem func79 : Tryz.prog.funcs[79]? = some Tryz.f79 := by kernel_rfl
theorem func80 : Tryz.prog.funcs[80]? = some Tryz.f80 := by kernel_rfl
theorem func81 : Tryz.prog.funcs[81]? = some Tryz.f81 := by kernel_rfl
theorem func82 : Tryz.prog.funcs[82]? = some Tryz.f82 := by kernel_rfl
theorem func83 : Tryz.prog.funcs[83]? = some Tryz.f83 := by kernel_rfl
theorem func86 : Tryz.prog.funcs[86]? = some Tryz.f86 := by kernel_rfl
theorem func87 : Tryz.prog.funcs[87]? = some Tryz.f87 := by kernel_rfl
theorem func88 : Tryz.prog.funcs[88]? = some Tryz.f88 := by kernel_rfl
theorem func89 : Tryz.prog.funcs[89]? = some Tryz.f89 := by kernel_rfl
theorem func90 : Tryz.prog.funcs[90]? = some Tryz.f90 := by kernel_rfl
theorem func91 : Tryz.prog.funcs[91]? = some Tryz.f91 := by kernel_rfl
theorem func92 : Tryz.prog.funcs[92]? = some Tryz.f92 := by kernel_rfl
theorem func94 : Tryz.prog.funcs[94]? = some Tryz.f94 := by kernel_rfl
theorem func95 : Tryz.prog.funcs[95]? = some Tryz.f95 := by kernel_rfl
theorem func96 : Tryz.prog.funcs[96]? = some Tryz.f96 := by kernel_rfl
theorem func97 : Tryz.prog.funcs[97]? = some Tryz.f97 := by kernel_rfl
theorem func98 : Tryz.prog.funcs[98]? = some Tryz.f98 := by kernel_rfl
theorem func101 : Tryz.prog.funcs[101]? = some Tryz.f101 := by kernel_rfl
theorem func102 : Tryz.prog.funcs[102]? = some Tryz.f102 := by kernel_rfl
theorem func104 : Tryz.prog.funcs[104]? = some Tryz.f104 := by kernel_rfl
theorem func106 : Tryz.prog.funcs[106]? = some Tryz.f106 := by kernel_rfl
theorem func107 : Tryz.prog.funcs[107]? = some Tryz.f107 := by kernel_rfl
theorem name107 : (Tryz.f107.name == "runtime.NumGoroutine") = false := by kernel_rfl
theorem func108 : Tryz.prog.funcs[108]? = some Tryz.f108 := by kernel_rfl
theorem func109 : Tryz.prog.funcs[109]? = some Tryz.f109 := by kernel_rfl
theorem func110 : Tryz.prog.funcs[110]? = some Tryz.f110 := by kernel_rfl
theorem func111 : Tryz.prog.funcs[111]? = some Tryz.f111 := by kernel_rfl
theorem func114 : Tryz.prog.funcs[114]? = some Tryz.f114 := by kernel_rfl
theorem func115 : Tryz.prog.funcs[115]? = some Tryz.f115 := by kernel_rfl
theorem func116 : Tryz.prog.funcs[116]? = some Tryz.f116 := by kernel_rfl
theorem func117 : Tryz.prog.funcs[117]? = some Tryz.f117 := by kernel_rfl
theorem func119 : Tryz.prog.funcs[119]? = some Tryz.f119 := by kernel_rfl
theorem func120 : Tryz.prog.funcs[120]? = some Tryz.f120 := by kernel_rfl
theorem func121 : Tryz.prog.funcs[121]? = some Tryz.f121 := by kernel_rfl
theorem func122 : Tryz.prog.funcs[122]? = some Tryz.f122 := by kernel_rfl
theorem func123 : Tryz.prog.funcs[123]? = some Tryz.f123 := by kernel_rfl
theorem func124 : Tryz.prog.funcs[124]? = some Tryz.f124 := by kernel_rfl
theorem func125 : Tryz.prog.funcs[125]? = some Tryz.f125 := by kernel_rfl
theorem func126 : Tryz.prog.funcs[126]? = some Tryz.f126 := by kernel_rfl
theorem func128 : Tryz.prog.funcs[128]? = some Tryz.f128 := by kernel_rfl
theorem func129 : Tryz.prog.funcs[129]? = some Tryz.f129 := by kernel_rfl
theorem func130 : Tryz.prog.funcs[130]? = some Tryz.f130 := by kernel_rfl
theorem func131 : Tryz.prog.funcs[131]? = some Tryz.f131 := by kernel_rfl
theorem func132 : Tryz.prog.funcs[132]? = some Tryz.f132 := by kernel_rfl
theorem func133 : Tryz.prog.funcs[133]? = some Tryz.f133 := by kernel_rfl
theorem func134 : Tryz.prog.funcs[134]? = some Tryz.f134 := by kernel_rfl
theorem func135 : Tryz.prog.funcs[135]? = some Tryz.f135 := by kernel_rfl
theorem func136 : Tryz.prog.funcs[136]? = some Tryz.f136 := by kernel_rfl
theorem func137 : Tryz.prog.funcs[137]? = some Tryz.f137 := by kernel_rfl
theorem func139 : Tryz.prog.funcs[139]? = some Tryz.f139 := by kernel_rfl
theorem func140 : Tryz.prog.funcs[140]? = some Tryz.f140 := by kernel_rfl
theorem func141 : Tryz.prog.funcs[141]? = some Tryz.f141 := by kernel_rfl
theorem func142 : Tryz.prog.funcs[142]? = some Tryz.f142 := by kernel_rfl
theorem func143 : Tryz.prog.funcs[143]? = some Tryz.f143 := by kernel_rfl
theorem func144 : Tryz.prog.funcs[144]? = some Tryz.f144 := by kernel_rfl
theorem func145 : Tryz.prog.funcs[145]? = some Tryz.f145 := by kernel_rfl
theorem func146 : Tryz.prog.funcs[146]? = some Tryz.f146 := by kernel_rfl
theorem func147 : Tryz.prog.funcs[147]? = some Tryz.f147 := by kernel_rfl
theorem func148 : Tryz.prog.funcs[148]? = some Tryz.f148 := by kernel_rfl
theorem func149 : Tryz.prog.funcs[149]? = some Tryz.f149 := by kernel_rfl
theorem func150 : Tryz.prog.funcs[150]? = some Tryz.f150 := by kernel_rfl
theorem func151 : Tryz.prog.funcs[151]? = some Tryz.f151 := by kernel_rfl
theorem func152 : Tryz.prog.funcs[152]? = some Tryz.f152 := by kernel_rfl
theorem func153 : Tryz.prog.funcs[153]? = some Tryz.f153 := by kernel_rfl
theorem func154 : Tryz.prog.funcs[154]? = some Tryz.f154 := by kernel_rfl
theorem func155 : Tryz.prog.funcs[155]? = some Tryz.f155 := by kernel_rfl
theorem func156 : Tryz.prog.funcs[156]? = some Tryz.f156 := by kernel_rfl
theorem func157 : Tryz.prog.funcs[157]? = some Tryz.f157 := by kernel_rfl
theorem func158 : Tryz.prog.funcs[158]? = some Tryz.f158 := by kernel_rfl
theorem func159 : Tryz.prog.funcs[159]? = some Tryz.f159 := by kernel_rfl
theorem func160 : Tryz.prog.funcs[160]? = some Tryz.f160 := by kernel_rfl
theorem func161 : Tryz.prog.funcs[161]? = some Tryz.f161 := by kernel_rfl
theorem func162 : Tryz.prog.funcs[162]? = some Tryz.f162 := by kernel_rfl
theorem func163 : Tryz.prog.funcs[163]? = some Tryz.f163 := by kernel_rfl
theorem func165 : Tryz.prog.funcs[165]? = some Tryz.f165 := by kernel_rfl
theorem func166 : Tryz.prog.funcs[166]? = some Tryz.f166 := by kernel_rfl
theorem func167 : Tryz.prog.funcs[167]? = some Tryz.f167 := by kernel_rfl
theorem func168 : Tryz.prog.funcs[168]? = some Tryz.f168 := by kernel_rfl
theorem func169 : Tryz.prog.funcs[169]? = some Tryz.f169 := by kernel_rfl
theorem func170 : Tryz.prog.funcs[170]? = some Tryz.f170 := by kernel_rfl
theorem func171 : Tryz.prog.funcs[171]? = some Tryz.f171 := by kernel_rfl
theorem func172 : Tryz.prog.funcs[172]? = some Tryz.f172 := by kernel_rfl
theorem func173 : Tryz.prog.funcs[173]? = some Tryz.f173 := by kernel_rfl
theorem func174 : Tryz.prog.funcs[174]? = some Tryz.f174 := by kernel_rfl
theorem func175 : Tryz.prog.funcs[175]? = some Tryz.f175 := by kernel_rfl
theorem func176 : Tryz.prog.funcs[176]? = some Tryz.f176 := by kernel_rfl
theorem func177 : Tryz.prog.funcs[177]? = some Tryz.f177 := by kernel_rfl
theorem func178 : Tryz.prog.funcs[178]? = some Tryz.f178 := by kernel_rfl
theorem func179 : Tryz.prog.funcs[179]? = some Tryz.f179 := by kernel_rfl
theorem func180 : Tryz.prog.funcs[180]? = some Tryz.f180 := by kernel_rfl
theorem func181 : Tryz.prog.funcs[181]? = some Tryz.f181 := by kernel_rfl
theorem func182 : Tryz.prog.funcs[182]? = some Tryz.f182 := by kernel_rfl
theorem func183 : Tryz.prog.funcs[183]? = some Tryz.f183 := by kernel_rfl
theorem func184 : Tryz.prog.funcs[184]? = some Tryz.f184 := by kernel_rfl
theorem func185 : Tryz.prog.funcs[185]? = some Tryz.f185 := by kernel_rfl
theorem func186 : Tryz.prog.funcs[186]? = some Tryz.f186 := by kernel_rfl
theorem func187 : Tryz.prog.funcs[187]? = some Tryz.f187 := by kernel_rfl
theorem func188 : Tryz.prog.funcs[188]? = some Tryz.f188 := by kernel_rfl
theorem func189 : Tryz.prog.funcs[189]? = some Tryz.f189 := by kernel_rfl
theorem func190 : Tryz.prog.funcs[190]? = some Tryz.f190 := by kernel_rfl
theorem func191 : Tryz.prog.funcs[191]? = some Tryz.f191 := by kernel_rfl
theorem func192 : Tryz.prog.funcs[192]? = some Tryz.f192 := by kernel_rfl
theorem func193 : Tryz.prog.funcs[193]? = some Tryz.f193 := by kernel_rfl
theorem func194 : Tryz.prog.funcs[194]? = some Tryz.f194 := by kernel_rfl
theorem func195 : Tryz.prog.funcs[195]? = some Tryz.f195 := by kernel_rfl
theorem func196 : Tryz.prog.funcs[196]? = some Tryz.f196 := by kernel_rfl
theorem func197 : Tryz.prog.funcs[197]? = some Tryz.f197 := by kernel_rfl
theorem func198 : Tryz.prog.funcs[198]? = some Tryz.f198 := by kernel_rfl
end Go.Vc.Gd
namespace Go.Vc
theorem zero_cast : ((0 : Nat) : Int) = 0 := rfl
theorem eqB_true (b : Bool) : eqB b true = b := rfl
theorem eqB_false (b : Bool) : eqB b false = !b := rfl
theorem SEq_refl (n : Nat) (f : Nat → List C) : SEq n f n f ↔ True := ⟨fun _ => trivial, fun _ => ⟨rfl, fun _ _ => .inl rfl⟩⟩
theorem SEq.of {n m : Nat} {f g : Nat → List C} (h : SEqE n f m g) : SEq n f m g := ⟨h.1, fun i hi => .inl (h.2 i hi)⟩
theorem bif_and (a b : Bool) : (bif a then b else false) = (a && b) := by cases a <;> rfl
theorem bif_or (a b : Bool) : (bif a then true else b) = (a || b) := by cases a <;> rfl
theorem bif_nand (a b : Bool) : (bif a then false else b) = (!a && b) := by cases a <;> rfl
theorem bif_nor (a b : Bool) : (bif a then b else true) = (!a || b) := by cases a <;> rfl
theorem rng_iff (n : Int) : inRange IntKind.i64 n ↔ -9223372036854775808 ≤ n ∧ n ≤ 9223372036854775807 := Iff.rfl
theorem stdS : (((0 : Nat) : Int) = 0) ∧ (∀ b, eqB b true = b) ∧ (∀ b, eqB b false = !b) ∧ (∀ p : Prop, (True ∧ p) = p) ∧ (∀ p : Prop, (p ∧ p) = p) ∧
  (∀ a b : Bool, (bif a then b else false) = (a && b)) ∧ (∀ a b : Bool, (bif a then true else b) = (a || b)) ∧ (∀ a b : Bool, (bif a then false else b) = (!a && b)) ∧ (∀ a b : Bool, (bif a then b else true) = (!a || b)) ∧
  (∀ a b c : Bool, (a && b && c) = (a && (b && c))) ∧ (∀ a b : Bool, ((!a) = b) = (a = !b)) ∧ ((!true) = false) ∧ ((!false) = true) ∧ (∀ (n : Nat) (f : Nat → List C), SEq n f n f ↔ True) :=
 ⟨zero_cast, eqB_true, eqB_false, _root_.true_and, _root_.and_self, bif_and, bif_or, bif_nand, bif_nor, Bool.and_assoc, fun a b => by simp, Bool.not_true, Bool.not_false, SEq_refl⟩
theorem maxLen_eq : maxLen = 9223372036854775807 := by kernel_rfl
section
variable {α : Type} [Inhabited α]
theorem nth_eq {l : List α} {k : Nat} (h : k < l.length) : nth l k = l[k] := by unfold nth; simp [h]
theorem nth_append_lt {l m : List α} {i : Nat} (h : i < l.length) : nth (l ++ m) i = nth l i := by
 unfold nth; simp [List.getD_eq_getElem?_getD, List.getElem?_append, h]
theorem nth_append_ge {l m : List α} {i : Nat} (h : l.length ≤ i) : nth (l ++ m) i = nth m (i - l.length) := by
 unfold nth; simp [List.getD_eq_getElem?_getD, List.getElem?_append, Nat.not_lt.2 h]
theorem nth_map {β : Type} [Inhabited β] {l : List α} {f : α → β} {i : Nat} (h : i < l.length) : nth (l.map f) i = f (nth l i) := by
 unfold nth; simp [List.getD_eq_getElem?_getD, h]
theorem nth_mem {l : List α} {k : Nat} (h : k < l.length) : nth l k ∈ l := by rw [nth_eq h]; exact List.getElem_mem h
theorem take_succ {l : List α} {k : Nat} (h : k < l.length) : l.take (k + 1) = l.take k ++ [nth l k] := by
 rw [nth_eq h, List.take_succ_eq_append_getElem h]
def upto (p : α → Bool) : List α → Nat
 | [] => 0
 | x :: l => bif p x then upto p l + 1 else 0
omit [Inhabited α] in
theorem upto_le {p : α → Bool} : ∀ {l : List α}, upto p l ≤ l.length
 | [] => Nat.le_refl _
 | x :: l => by
  have := upto_le (p := p) (l := l)
  unfold upto
  cases p x <;> simp <;> omega
theorem upto_before {p : α → Bool} : ∀ {l : List α} {i : Nat}, i < upto p l → p (nth l i) = true
 | [], i, h => by simp [upto] at h
 | x :: l, i, h => by
  unfold upto at h
  cases hp : p x with
  | false => simp [hp] at h
  | true =>
   simp only [hp, cond_true] at h
   cases i with
   | zero => exact hp
   | succ i => exact upto_before (p := p) (l := l) (by omega)
theorem upto_at {p : α → Bool} : ∀ {l : List α}, upto p l < l.length → p (nth l (upto p l)) = false
 | [], h => by simp at h
 | x :: l, h => by
  unfold upto at h ⊢
  cases hp : p x with
  | false => exact hp
  | true =>
   simp only [hp, cond_true, List.length_cons] at h ⊢
   exact upto_at (p := p) (l := l) (by omega)
theorem upto_lt {p : α → Bool} {l : List α} {k : Nat} (h1 : k ≤ upto p l) (h2 : k < l.length) (h3 : p (nth l k) = true) : k < upto p l := by
 rcases Nat.lt_or_ge k (upto p l) with h | h
 ·exact h
 ·have : k = upto p l := by omega
  subst this
  rw [upto_at h2] at h3
  cases h3
omit [Inhabited α] in
theorem upto_all {p : α → Bool} : ∀ {l : List α}, l.length ≤ upto p l → l.all p = true
 | [], _ => rfl
 | x :: l, h => by
  unfold upto at h
  cases hp : p x with
  | false => simp [hp] at h
  | true =>
   simp only [hp, cond_true, List.length_cons] at h
   rw [List.all_cons, hp, upto_all (p := p) (l := l) (by omega)]
   rfl
theorem upto_some {p : α → Bool} {l : List α} {k : Nat} (h2 : k < l.length) (h3 : p (nth l k) = false) : l.all p = false := by
 rw [Bool.eq_false_iff]
 intro h
 have := List.all_eq_true.1 h _ (nth_mem h2)
 rw [h3] at this
 cases this
theorem SEqE_append {f : α → List C} {l m r : List α} (h : r = l ++ m) : SEqE (l.length + m.length) (catF l.length (fun i => f (nth l i)) fun i => f (nth m i)) r.length (fun i => f (nth r i)) := by
 subst h
 refine ⟨by simp, fun i _ => ?_⟩
 unfold catF
 cases hi : Nat.blt i l.length with
 | true =>
  have hi := Nat.le_of_ble_eq_true hi
  simp only [cond_true]
  rw [nth_append_lt hi]
 | false =>
  have hi : ¬ i < l.length := fun h => by
   have : Nat.blt i l.length = true := Nat.ble_eq_true_of_le h
   rw [hi] at this; cases this
  simp only [cond_false]
  rw [nth_append_ge (by omega)]
theorem SEq_snoc {f : α → List C} {l : List α} {css : List (List C)} {m r : List α} (h : r = l ++ m) (hc : css = m.map f) : SEq (l.length + css.length) (catF l.length (fun i => f (nth l i)) fun i => css.getD i []) r.length (fun i => f (nth r i)) := by
 subst hc
 have := SEqE_append (f := f) h
 rw [List.length_map]
 refine .of ⟨this.1, fun i hi => ?_⟩
 rw [← this.2 i hi]
 unfold catF
 cases hb : Nat.blt i l.length with
 | true => rfl
 | false =>
  simp only [cond_false]
  have hi2 : i - l.length < m.length := by
   have : ¬ i < l.length := fun h => by
    have : Nat.blt i l.length = true := Nat.ble_eq_true_of_le h
    rw [hb] at this; cases this
   omega
  rw [List.getD_eq_getElem?_getD, List.getElem?_map, nth_eq hi2, List.getElem?_eq_getElem hi2]
  rfl
theorem SEq_push {f : α → List C} {l : List α} {k : Nat} (h : k < l.length) {cs : List C} (hc : cs = f (nth l k)) :
  SEq ((l.take k).length + 1) (catF (l.take k).length (fun i => f (nth (l.take k) i)) fun i => [cs].getD i []) (l.take (k + 1)).length (fun i => f (nth (l.take (k + 1)) i)) :=
 SEq_snoc (css := [cs]) (m := [nth l k]) (take_succ h) (by rw [hc]; rfl)
theorem SEq_push1 {f : α → List C} {l r : List α} {x : α} {cs : List C} (h : r = l ++ [x]) (hc : cs = f x) :
  SEq (l.length + 1) (catF l.length (fun i => f (nth l i)) fun i => [cs].getD i []) r.length (fun i => f (nth r i)) :=
 SEq_snoc (css := [cs]) (m := [x]) h (by rw [hc]; rfl)
theorem nth_range {n k : Nat} (h : k < n) : nth (List.range n) k = k := by
 rw [nth_eq (by rw [List.length_range]; exact h), List.getElem_range]
theorem SEq_whole {f : α → List C} {l r : List α} (h : r = l) : SEq l.length (fun i => f (nth l i)) r.length (fun i => f (nth r i)) := by subst h; exact .of ⟨rfl, fun _ _ => rfl⟩
end
end Go.Vc
namespace Go.Vc.Gd
structure Span where
 low : Int
 high : Int
structure Comp where
 room : Int
 post : Span
 sheet : Span
 look : Span
structure Book where
 comps : List Comp
 dues : List Int
 sheets : List Int
structure Task where
 one : Int
 other : Int
 third : Int
structure Truth where
 post : List Int
 sheet : List Int
 look : List Int
instance : Inhabited Span := ⟨⟨0, 0⟩⟩
instance : Inhabited Comp := ⟨⟨0, default, default, default⟩⟩
instance : Inhabited Task := ⟨⟨0, 0, 0⟩⟩
instance : Inhabited Book := ⟨⟨[], [], []⟩⟩
instance : Inhabited Truth := ⟨⟨[], [], []⟩⟩
def eI (x : Int) : List C := [Ci x]
def eSpan (s : Span) : List C := [Ci s.low, Ci s.high]
def eComp (c : Comp) : List C := [Ci c.room, Ci c.post.low, Ci c.post.high, Ci c.sheet.low, Ci c.sheet.high, Ci c.look.low, Ci c.look.high]
def eTask (t : Task) : List C := [Ci t.one, Ci t.other, Ci t.third]
def cBook (b : Book) : List C := [.l eComp b.comps, .l eI b.dues, .l eI b.sheets]
def cTruth (t : Truth) : List C := [.l eI t.post, .l eI t.sheet, .l eI t.look]
def v (t : Nat) (x : T) : Nat × Nat × T := (0, t, x)
def bx (id : Nat) (xs : List C) : Env := (2, id, live) :: putCells id 0 xs
def ad (id : Nat) : T := .addr id 0
def tk (k : Nat) (el : TypeId) : Nat × Nat × T := (1, k, liveT el)
def tSpan (s : Span) : T := .d (.agg (eSpan s))
def tComp (c : Comp) : T := .d (.agg (eComp c))
def tTask (t : Task) : T := .d (.agg (eTask t))
def tBook (b : Book) : T := .d (.agg (cBook b))
def tTruth (t : Truth) : T := .d (.agg (cTruth t))
def inR (x lo hi : Int) : Bool := decide (lo ≤ x) && decide (x ≤ hi)
theorem inR_iff {x lo hi : Int} : inR x lo hi = true ↔ lo ≤ x ∧ x ≤ hi := by simp [inR]
def Span.isIn (s : Span) (lo hi : Int) : Bool := inR s.low lo hi && inR s.high s.low hi
def Comp.fine (c : Comp) : Bool := inR c.room 0 2 && (c.post.isIn 0 5 && (c.sheet.isIn 1 5 && c.look.isIn 1 3))
def hand (t : Task) (c : Int) : Bool := t.one == c || t.other == c
def Book.isComp (b : Book) (n : Int) : Bool := inR n 0 ((b.comps.length : Int) - 1)
def Book.isTable (b : Book) (n : Int) : Bool := inR n 0 ((b.dues.length : Int) - 1)
def Book.isSheet (b : Book) (n : Int) : Bool := inR n 0 ((b.sheets.length : Int) - 1)
end Go.Vc.Gd
namespace Go.Vc.Gd
open Go Go.Proofs Go.Vc
variable {Gl : World → Prop}
theorem in79 (S : Set Tryz.prog Y Gl) (x lo hi : Int) : Computes Tryz.prog Gl 79 [I x, I lo, I hi] (.ret (B (inR x lo hi))) := by
 refine fn_is S (.nil) Tryz.func79 (by kernel_rfl) ((eqB (decide (lo≤x)) true=true→eqB (decide (lo≤x)) true=true)∧(eqB (decide (lo≤x)) true=true→eqB (decide (lo≤x)) true=true)∧(decide (lo≤x)=true→eqB (decide (lo≤x)) true=true)∧(bif decide (lo≤x) then decide (x≤hi) else false)=inR x lo hi) (by kernel_rfl) ?_
 simp only [stdS, imp_self, implies_true, and_true, inR]
theorem in91 (S : Set Tryz.prog Y Gl) (x lo hi : Int) : Computes Tryz.prog Gl 91 [I x, I lo, I hi] (.ret (B (inR x lo hi))) := by
 refine fn_is S (.nil) Tryz.func91 (by kernel_rfl) ((eqB (decide (lo≤x)) true=true→eqB (decide (lo≤x)) true=true)∧(eqB (decide (lo≤x)) true=true→eqB (decide (lo≤x)) true=true)∧(decide (lo≤x)=true→eqB (decide (lo≤x)) true=true)∧(bif decide (lo≤x) then decide (x≤hi) else false)=inR x lo hi) (by kernel_rfl) ?_
 simp only [stdS, imp_self, implies_true, and_true, inR]
theorem span126 (S : Set Tryz.prog Y Gl) (s : Span) (lo hi : Int) : Computes Tryz.prog Gl 126 [tSpan s, I lo, I hi] (.ret (B (s.isIn lo hi))) := by
 refine fn_is S (.r (.ret (B (inR s.1 lo hi))) (.r (.ret (B (inR s.2 s.1 hi))) .nil)) Tryz.func126 (by kernel_rfl) (Computes Tryz.prog Gl 79 [I s.1,I lo,I hi] (.ret (B (inR s.1 lo hi)))∧(eqB (inR s.1 lo hi) true=true→eqB (inR s.1 lo hi) true=true)∧(eqB (inR s.1 lo hi) true=true→eqB (inR s.1 lo hi) true=true)∧(eqB (inR s.1 lo hi) true=true→eqB (inR s.1 lo hi) true=true)∧(eqB (inR s.1 lo hi) true=true→eqB (inR s.1 lo hi) true=true)∧(eqB (inR s.1 lo hi) true=true→eqB (inR s.1 lo hi) true=true)∧(eqB (inR s.1 lo hi) true=true→Computes Tryz.prog Gl 79 [I s.2,I s.1,I hi] (.ret (B (inR s.2 s.1 hi))))∧(inR s.1 lo hi=true→eqB (inR s.1 lo hi) true=true)∧(bif inR s.1 lo hi then inR s.2 s.1 hi else false)=Span.isIn s lo hi) (by kernel_rfl) ?_
 simp only [stdS, imp_self, implies_true, and_true, in79 S, Span.isIn]
theorem span144 (S : Set Tryz.prog Y Gl) (s : Span) (lo hi : Int) : Computes Tryz.prog Gl 144 [tSpan s, I lo, I hi] (.ret (B (s.isIn lo hi))) := by
 refine fn_is S (.r (.ret (B (inR s.1 lo hi))) (.r (.ret (B (inR s.2 s.1 hi))) .nil)) Tryz.func144 (by kernel_rfl) (Computes Tryz.prog Gl 91 [I s.1,I lo,I hi] (.ret (B (inR s.1 lo hi)))∧(eqB (inR s.1 lo hi) true=true→eqB (inR s.1 lo hi) true=true)∧(eqB (inR s.1 lo hi) true=true→eqB (inR s.1 lo hi) true=true)∧(eqB (inR s.1 lo hi) true=true→eqB (inR s.1 lo hi) true=true)∧(eqB (inR s.1 lo hi) true=true→eqB (inR s.1 lo hi) true=true)∧(eqB (inR s.1 lo hi) true=true→eqB (inR s.1 lo hi) true=true)∧(eqB (inR s.1 lo hi) true=true→Computes Tryz.prog Gl 91 [I s.2,I s.1,I hi] (.ret (B (inR s.2 s.1 hi))))∧(inR s.1 lo hi=true→eqB (inR s.1 lo hi) true=true)∧(bif inR s.1 lo hi then inR s.2 s.1 hi else false)=Span.isIn s lo hi) (by kernel_rfl) ?_
 simp only [stdS, imp_self, implies_true, and_true, in91 S, Span.isIn]
theorem fine98 (S : Set Tryz.prog Y Gl) (c : Comp) : Computes Tryz.prog Gl 98 [tComp c] (.ret (B c.fine)) := by
 refine fn_is S (.r (.ret (B (inR c.1 (0:Int) (2:Int)))) (.r (.ret (B (Span.isIn {low:=c.2.1,high:=c.2.2} (0:Int) (5:Int)))) (.r (.ret (B (Span.isIn {low:=c.3.1,high:=c.3.2} (1:Int) (5:Int)))) (.r (.ret (B (Span.isIn {low:=c.4.1,high:=c.4.2} (1:Int) (3:Int)))) .nil)))) Tryz.func98 (by kernel_rfl) (let A0:=(bif bif inR c.1 (0:Int) (2:Int) then Span.isIn {low:=c.2.1,high:=c.2.2} (0:Int) (5:Int) else false then Span.isIn {low:=c.3.1,high:=c.3.2} (1:Int) (5:Int) else false);let A1:=(bif inR c.1 (0:Int) (2:Int) then Span.isIn {low:=c.2.1,high:=c.2.2} (0:Int) (5:Int) else false);let A2:=(inR c.1 (0:Int) (2:Int));Computes Tryz.prog Gl 79 [I c.1,I 0,I 2] (.ret (B A2))∧(eqB A2 true=true→eqB A2 true=true)∧(eqB A2 true=true→eqB A2 true=true)∧(eqB A2 true=true→Computes Tryz.prog Gl 126 [tSpan {low:=c.2.1,high:=c.2.2},I 0,I 5] (.ret (B (Span.isIn {low:=c.2.1,high:=c.2.2} (0:Int) (5:Int)))))∧(inR c.1 (0:Int) (2:Int)=true→eqB A2 true=true)∧(eqB A1 true=true→eqB A1 true=true)∧(eqB A1 true=true→eqB A1 true=true)∧(eqB A1 true=true→Computes Tryz.prog Gl 126 [tSpan {low:=c.3.1,high:=c.3.2},I 1,I 5] (.ret (B (Span.isIn {low:=c.3.1,high:=c.3.2} (1:Int) (5:Int)))))∧(A1=true→eqB A1 true=true)∧(eqB A0 true=true→eqB A0 true=true)∧(eqB A0 true=true→eqB A0 true=true)∧(eqB A0 true=true→Computes Tryz.prog Gl 126 [tSpan {low:=c.4.1,high:=c.4.2},I 1,I 3] (.ret (B (Span.isIn {low:=c.4.1,high:=c.4.2} (1:Int) (3:Int)))))∧(A0=true→eqB A0 true=true)∧(bif bif bif inR c.1 (0:Int) (2:Int) then Span.isIn {low:=c.2.1,high:=c.2.2} (0:Int) (5:Int) else false then Span.isIn {low:=c.3.1,high:=c.3.2} (1:Int) (5:Int) else false then Span.isIn {low:=c.4.1,high:=c.4.2} (1:Int) (3:Int) else false)=Comp.fine c) (by kernel_rfl) ?_
 simp only [stdS, imp_self, implies_true, and_true, in79 S, span126 S, Comp.fine]
theorem bad143 (S : Set Tryz.prog Y Gl) (c : Comp) : Computes Tryz.prog Gl 143 [tComp c] (.ret (B (!c.fine))) := by
 refine fn_is S (.r (.ret (B (inR c.1 (0:Int) (2:Int)))) (.r (.ret (B (Span.isIn {low:=c.2.1,high:=c.2.2} (0:Int) (5:Int)))) (.r (.ret (B (Span.isIn {low:=c.3.1,high:=c.3.2} (1:Int) (5:Int)))) (.r (.ret (B (Span.isIn {low:=c.4.1,high:=c.4.2} (1:Int) (3:Int)))) .nil)))) Tryz.func143 (by kernel_rfl) (let A0:=(bif bif !inR c.1 (0:Int) (2:Int) then true else !Span.isIn {low:=c.2.1,high:=c.2.2} (0:Int) (5:Int) then true else !Span.isIn {low:=c.3.1,high:=c.3.2} (1:Int) (5:Int));let A1:=(bif !inR c.1 (0:Int) (2:Int) then true else !Span.isIn {low:=c.2.1,high:=c.2.2} (0:Int) (5:Int));let A2:=(!inR c.1 (0:Int) (2:Int));let A3:=(eqB A2 false=true→eqB A2 false=true);let A4:=(eqB A1 false=true→eqB A1 false=true);let A5:=(eqB A0 false=true→eqB A0 false=true);Computes Tryz.prog Gl 91 [I c.1,I 0,I 2] (.ret (B (inR c.1 (0:Int) (2:Int))))∧A3∧A3∧(eqB A2 false=true→Computes Tryz.prog Gl 144 [tSpan {low:=c.2.1,high:=c.2.2},I 0,I 5] (.ret (B (Span.isIn {low:=c.2.1,high:=c.2.2} (0:Int) (5:Int)))))∧A3∧(A2=false→eqB A2 false=true)∧A4∧A4∧(eqB A1 false=true→Computes Tryz.prog Gl 144 [tSpan {low:=c.3.1,high:=c.3.2},I 1,I 5] (.ret (B (Span.isIn {low:=c.3.1,high:=c.3.2} (1:Int) (5:Int)))))∧A4∧(A1=false→eqB A1 false=true)∧A5∧A5∧(eqB A0 false=true→Computes Tryz.prog Gl 144 [tSpan {low:=c.4.1,high:=c.4.2},I 1,I 3] (.ret (B (Span.isIn {low:=c.4.1,high:=c.4.2} (1:Int) (3:Int)))))∧A5∧(A0=false→eqB A0 false=true)∧(bif bif bif !inR c.1 (0:Int) (2:Int) then true else !Span.isIn {low:=c.2.1,high:=c.2.2} (0:Int) (5:Int) then true else !Span.isIn {low:=c.3.1,high:=c.3.2} (1:Int) (5:Int) then true else !Span.isIn {low:=c.4.1,high:=c.4.2} (1:Int) (3:Int))=!Comp.fine c) (by kernel_rfl) ?_
 simp only [stdS, imp_self, implies_true, and_true, in91 S, span144 S, Comp.fine, Bool.not_and, Bool.or_assoc]
theorem comp92 (S : Set Tryz.prog Y Gl) (b : Book) (n : Int) : Computes Tryz.prog Gl 92 [tBook b, I n] (.ret (B (b.isComp n))) := by
 refine fn_is S (.r (.ret (B (inR n (0:Int) ((↑b.1.length:Int)-1)))) .nil) Tryz.func92 (by kernel_rfl) (b.1.length≤maxLen→inRange IntKind.i64 ((↑b.1.length:Int)-1)∧Computes Tryz.prog Gl 91 [I n,I 0,I ((↑b.1.length:Int)-1)] (.ret (B (inR n (0:Int) ((↑b.1.length:Int)-1))))∧inR n (0:Int) ((↑b.1.length:Int)-1)=Book.isComp b n) (by kernel_rfl) ?_
 intro h
 rw [maxLen_eq] at h
 exact ⟨(rng_iff _).2 (by omega), in91 S _ _ _, rfl⟩
theorem table44 (S : Set Tryz.prog Y Gl) (b : Book) (n : Int) : Computes Tryz.prog Gl 44 [tBook b, I n] (.ret (B (b.isTable n))) := by
 refine fn_is S (.r (.ret (B (inR n (0:Int) ((↑b.2.length:Int)-1)))) .nil) Tryz.func44 (by kernel_rfl) (b.2.length≤maxLen→inRange IntKind.i64 ((↑b.2.length:Int)-1)∧Computes Tryz.prog Gl 79 [I n,I 0,I ((↑b.2.length:Int)-1)] (.ret (B (inR n (0:Int) ((↑b.2.length:Int)-1))))∧inR n (0:Int) ((↑b.2.length:Int)-1)=Book.isTable b n) (by kernel_rfl) ?_
 intro h
 rw [maxLen_eq] at h
 exact ⟨(rng_iff _).2 (by omega), in79 S _ _ _, rfl⟩
end Go.Vc.Gd
namespace Go.Vc.Gd
open Go Go.Proofs Go.Vc
variable {Gl : World → Prop}
def Book.ok (b : Book) : Bool :=
 inR b.comps.length 1 4 && (inR b.dues.length 1 2 && (inR b.sheets.length 1 3 && (b.comps.all Comp.fine && (b.dues.all (fun n => inR n 0 99) && b.sheets.all b.isTable))))
def Book.fault (b : Book) (t : Task) : Int :=
 bif !(b.isComp t.one && b.isComp t.other && b.isComp t.third) then 1
 else bif t.one == t.other || t.one == t.third || t.other == t.third then 2
 else bif decide (t.other < t.one) then 3
 else bif (nth b.comps t.one.toNat).room == (nth b.comps t.other.toNat).room then 4 else 0
theorem book52 (S : Set Tryz.prog Y Gl) (b : Book) : Computes Tryz.prog Gl 52 [tBook b] (.ret (B b.ok)) := by
 refine fn_is S (.r (.ret (B (inR (↑b.1.length:Int) (1:Int) (4:Int)))) (.r (.ret (B (inR (↑b.2.length:Int) (1:Int) (2:Int)))) (.r (.ret (B (inR (↑b.3.length:Int) (1:Int) (3:Int)))) (.br .nil (.loop (upto Comp.fine (Book.comps b)) (fun k=>v 3 (I ↑k)::v 1 (ad 1)::bx 1 (cBook b)) fun k0=>.br (.r (.ret (B (Comp.fine {room:=(nth b.1 k0).1,post:={low:=(nth b.1 k0).2.1,high:=(nth b.1 k0).2.2},sheet:={low:=(nth b.1 k0).3.1,high:=(nth b.1 k0).3.2},look:={low:=(nth b.1 k0).4.1,high:=(nth b.1 k0).4.2}}))) (.br .nil .nil)) (.loop (upto (fun n=>inR n (0:Int) (99:Int)) (Book.dues b)) (fun k=>v 4 (I ↑k)::v 1 (ad 1)::bx 1 (cBook b)) fun k1=>.br (.r (.ret (B (inR (nth b.2 k1) (0:Int) (99:Int)))) (.br .nil .nil)) (.loop (upto (Book.isTable b) (Book.sheets b)) (fun k=>v 5 (I ↑k)::v 1 (ad 1)::bx 1 (cBook b)) fun k2=>.br (.r (.ret (B (Book.isTable b (nth b.3 k2)))) (.br .nil .nil)) .nil))))))) Tryz.func52 (by kernel_rfl) (let A0:=(bif !inR (↑b.1.length:Int) (1:Int) (4:Int) then true else !inR (↑b.2.length:Int) (1:Int) (2:Int));let A1:=(0=(↑(0:Nat):Int)∧(SEq b.1.length (fun i=>eComp (nth b.1 i)) b.1.length fun i=>eComp (nth b.1 i))∧(SEq b.2.length (fun i=>eI (nth b.2 i)) b.2.length fun i=>eI (nth b.2 i))∧SEq b.3.length (fun i=>eI (nth b.3 i)) b.3.length fun i=>eI (nth b.3 i));let A2:=(!inR (↑b.1.length:Int) (1:Int) (4:Int));let A3:=(SEq b.1.length (fun i=>eComp (nth b.1 i)) b.1.length fun i=>eComp (nth b.1 i));let A4:=(SEq b.2.length (fun i=>eI (nth b.2 i)) b.2.length fun i=>eI (nth b.2 i));let A5:=fun (k0:Nat)=>(nth b.1 k0);let A6:=(eqB A2 false=true→eqB A2 false=true);let A7:=(eqB A0 false=true→eqB A0 false=true);b.1.length≤maxLen→Computes Tryz.prog Gl 79 [I ↑b.1.length,I 1,I 4] (.ret (B (inR (↑b.1.length:Int) (1:Int) (4:Int))))∧A6∧A6∧((eqB A2 false=true→b.2.length≤maxLen)→A6∧(eqB A2 false=true→Computes Tryz.prog Gl 79 [I ↑b.2.length,I 1,I 2] (.ret (B (inR (↑b.2.length:Int) (1:Int) (2:Int)))))∧A6∧(A2=false→eqB A2 false=true)∧A7∧A7∧((eqB A0 false=true→b.3.length≤maxLen)→A7∧(eqB A0 false=true→Computes Tryz.prog Gl 79 [I ↑b.3.length,I 1,I 3] (.ret (B (inR (↑b.3.length:Int) (1:Int) (3:Int)))))∧A7∧(A0=false→eqB A0 false=true)∧((bif bif !inR (↑b.1.length:Int) (1:Int) (4:Int) then true else !inR (↑b.2.length:Int) (1:Int) (2:Int) then true else !inR (↑b.3.length:Int) (1:Int) (3:Int))=true→false=Book.ok b)∧((bif bif !inR (↑b.1.length:Int) (1:Int) (4:Int) then true else !inR (↑b.2.length:Int) (1:Int) (2:Int) then true else !inR (↑b.3.length:Int) (1:Int) (3:Int))=false→A1∧∀ (k0:Nat),k0≤upto Comp.fine (Book.comps b)→b.1.length≤maxLen→(decide ((↑k0:Int)<(↑b.1.length:Int))=true→(0≤(↑k0:Int)∧(↑k0:Int)<(↑b.1.length:Int))∧Computes Tryz.prog Gl 98 [tComp {room:=(A5 k0).1,post:={low:=(A5 k0).2.1,high:=(A5 k0).2.2},sheet:={low:=(A5 k0).3.1,high:=(A5 k0).3.2},look:={low:=(A5 k0).4.1,high:=(A5 k0).4.2}}] (.ret (B (Comp.fine {room:=(A5 k0).1,post:={low:=(A5 k0).2.1,high:=(A5 k0).2.2},sheet:={low:=(A5 k0).3.1,high:=(A5 k0).3.2},look:={low:=(A5 k0).4.1,high:=(A5 k0).4.2}})))∧((!Comp.fine {room:=(A5 k0).1,post:={low:=(A5 k0).2.1,high:=(A5 k0).2.2},sheet:={low:=(A5 k0).3.1,high:=(A5 k0).3.2},look:={low:=(A5 k0).4.1,high:=(A5 k0).4.2}})=true→false=Book.ok b)∧((!Comp.fine {room:=(A5 k0).1,post:={low:=(A5 k0).2.1,high:=(A5 k0).2.2},sheet:={low:=(A5 k0).3.1,high:=(A5 k0).3.2},look:={low:=(A5 k0).4.1,high:=(A5 k0).4.2}})=false→inRange IntKind.i64 ((↑k0:Int)+1)∧k0<upto Comp.fine (Book.comps b)∧(↑k0:Int)+1=(↑(k0+1):Int)∧A3∧A4∧SEq b.3.length (fun i=>eI (nth b.3 i)) b.3.length fun i=>eI (nth b.3 i)))∧(decide ((↑k0:Int)<(↑b.1.length:Int))=false→A1∧∀ (k1:Nat),k1≤upto (fun n=>inR n (0:Int) (99:Int)) (Book.dues b)→b.2.length≤maxLen→(decide ((↑k1:Int)<(↑b.2.length:Int))=true→(0≤(↑k1:Int)∧(↑k1:Int)<(↑b.2.length:Int))∧Computes Tryz.prog Gl 79 [I (nth b.2 k1),I 0,I 99] (.ret (B (inR (nth b.2 k1) (0:Int) (99:Int))))∧((!inR (nth b.2 k1) (0:Int) (99:Int))=true→false=Book.ok b)∧((!inR (nth b.2 k1) (0:Int) (99:Int))=false→inRange IntKind.i64 ((↑k1:Int)+1)∧k1<upto (fun n=>inR n (0:Int) (99:Int)) (Book.dues b)∧(↑k1:Int)+1=(↑(k1+1):Int)∧A3∧A4∧SEq b.3.length (fun i=>eI (nth b.3 i)) b.3.length fun i=>eI (nth b.3 i)))∧(decide ((↑k1:Int)<(↑b.2.length:Int))=false→A1∧∀ (k2:Nat),k2≤upto (Book.isTable b) (Book.sheets b)→b.3.length≤maxLen→(decide ((↑k2:Int)<(↑b.3.length:Int))=true→(0≤(↑k2:Int)∧(↑k2:Int)<(↑b.3.length:Int))∧Computes Tryz.prog Gl 44 [tBook b,I (nth b.3 k2)] (.ret (B (Book.isTable b (nth b.3 k2))))∧((!Book.isTable b (nth b.3 k2))=true→false=Book.ok b)∧((!Book.isTable b (nth b.3 k2))=false→inRange IntKind.i64 ((↑k2:Int)+1)∧k2<upto (Book.isTable b) (Book.sheets b)∧(↑k2:Int)+1=(↑(k2+1):Int)∧A3∧A4∧SEq b.3.length (fun i=>eI (nth b.3 i)) b.3.length fun i=>eI (nth b.3 i)))∧(decide ((↑k2:Int)<(↑b.3.length:Int))=false→true=Book.ok b))))))) (by kernel_rfl) ?_
 simp only [stdS, imp_self, implies_true, and_true, in79 S, fine98 S, table44 S b, decide_eq_true_eq, decide_eq_false_iff_not, maxLen_eq, rng_iff]
 intro h1 h2 h3
 refine ⟨fun h => ?_, fun h k0 hk0 _ => ⟨fun hl => ?_, fun hl k1 hk1 h4 => ⟨fun hl1 => ?_, fun hl1 k2 hk2 h5 => ⟨fun hl2 => ?_, fun hl2 => ?_⟩⟩⟩⟩
 ·revert h
  unfold Book.ok
  cases inR b.comps.length 1 4 <;> cases inR b.dues.length 1 2 <;> cases inR b.sheets.length 1 3 <;> simp
 ·have hlt : k0 < b.comps.length := by omega
  refine ⟨⟨by omega, hl⟩, fun hf => ?_, fun hf => ⟨by omega, upto_lt hk0 hlt hf, by omega, trivial⟩⟩
  simp [Book.ok, upto_some hlt hf]
 ·have hlt : k1 < b.dues.length := by omega
  refine ⟨⟨by omega, hl1⟩, fun hf => ?_, fun hf => ⟨by omega, upto_lt hk1 hlt hf, by omega, trivial⟩⟩
  have := upto_some (p := fun n => inR n 0 99) hlt hf
  simp [Book.ok, this]
 ·have hlt : k2 < b.sheets.length := by omega
  refine ⟨⟨by omega, hl2⟩, fun hf => ?_, fun hf => ⟨by omega, upto_lt hk2 hlt hf, by omega, trivial⟩⟩
  simp [Book.ok, upto_some hlt hf]
 ·simp only [Bool.or_eq_false_iff, Bool.not_eq_eq_eq_not, Bool.not_false] at h
  have e1 := upto_all (p := Comp.fine) (l := b.comps) (by omega)
  have e2 := upto_all (p := fun n => inR n 0 99) (l := b.dues) (by omega)
  have e3 := upto_all (p := b.isTable) (l := b.sheets) (by omega)
  unfold Book.ok
  rw [h.1.1, h.1.2, h.2, e1, e2, e3]
  rfl
def Book.why (b : Book) (plan : List Task) : Nat := upto (fun t => b.fault t == 0) plan
def Book.isWhy (b : Book) (plan : List Task) : Bool := !plan.all (fun t => b.fault t == 0)
def Book.why1 (b : Book) (plan : List Task) : Int := bif b.isWhy plan then b.why plan else 0
def Book.why2 (b : Book) (plan : List Task) : Int := bif b.isWhy plan then b.fault (nth plan (b.why plan)) else 0
def Book.good (b : Book) (plan : List Task) : Bool := plan.length == b.sheets.length && !b.isWhy plan
def truthAt (b : Book) (t : Truth) (i : Nat) : Bool :=
  inR (nth t.post i) (nth b.comps i).post.low (nth b.comps i).post.high && (inR (nth t.sheet i) (nth b.comps i).sheet.low (nth b.comps i).sheet.high && inR (nth t.look i) (nth b.comps i).look.low (nth b.comps i).look.high)
def Truth.ok (b : Book) (t : Truth) : Bool :=
 t.post.length == b.comps.length && (t.sheet.length == b.comps.length && (t.look.length == b.comps.length && (List.range b.comps.length).all (truthAt b t)))
def Span.end (s : Span) (g : Bool) : Int := bif g then s.high else s.low
def Book.endP (b : Book) (g : Bool) : List Int := b.comps.map (fun c => c.post.end g)
def Book.endS (b : Book) (g : Bool) : List Int := b.comps.map (fun c => c.sheet.end g)
def Book.endL (b : Book) (g : Bool) : List Int := b.comps.map (fun c => c.look.end g)
def Book.ends (b : Book) (g : Bool) : Truth := ⟨b.endP g, b.endS g, b.endL g⟩
def nil3 : List C := [.v (.slice none 0 0), .v (.slice none 0 0), .v (.slice none 0 0)]
end Go.Vc.Gd
namespace Go.Vc.Gd
open Go Go.Proofs Go.Vc
variable {Gl : World → Prop}
def counts (t : Task) (i : Nat) (sheet c : Int) (lost : Bool) : Bool := hand t c && (decide ((i : Int) ≤ sheet) || lost)
def manyTo (plan : List Task) (sheet c : Int) (lost : Bool) : Nat → Nat
 | 0 => 0
 | k + 1 => manyTo plan sheet c lost k + bif counts (nth plan k) k sheet c lost then 1 else 0
def many (plan : List Task) (sheet c : Int) (lost : Bool) : Nat := manyTo plan sheet c lost plan.length + bif lost then 1 else 0
def home (plan : List Task) (t : Truth) (sheet c : Int) (lost : Bool) : Int := 2 * nth t.post c.toNat + many plan sheet c lost * nth t.sheet c.toNat
theorem manyTo_le {plan : List Task} {sheet c : Int} {lost : Bool} : ∀ k, manyTo plan sheet c lost k ≤ k
 | 0 => Nat.le_refl _
 | k + 1 => by
  have := manyTo_le (plan := plan) (sheet := sheet) (c := c) (lost := lost) k
  unfold manyTo
  cases counts (nth plan k) k sheet c lost <;> simp <;> omega
def small (t : Truth) : Prop := (∀ i, 0 ≤ nth t.post i ∧ nth t.post i ≤ 1000) ∧ (∀ i, 0 ≤ nth t.sheet i ∧ nth t.sheet i ≤ 1000) ∧ ∀ i, 0 ≤ nth t.look i ∧ nth t.look i ≤ 1000
def sameSpan (a b : Span) : Bool := a.low == b.low && (a.high == b.high && true)
def sameTask (a b : Task) : Bool := a.one == b.one && (a.other == b.other && (a.third == b.third && true))
def sameL {α : Type} [Inhabited α] (eq : α → α → Bool) (a b : List α) : Bool := a.length == b.length && (List.range a.length).all fun i => eq (nth a i) (nth b i)
def spansOf (a b : List Int) : List Span := (List.range a.length).map fun i => ⟨nth a i, nth b i⟩
theorem same_loop {α : Type} [Inhabited α] (eq : α → α → Bool) (a b : List α) : a.length ≤ 9223372036854775807 → b.length ≤ 9223372036854775807 →
  (((a.length : Int) != (b.length : Int)) = true → false = sameL eq a b) ∧
  (((a.length : Int) != (b.length : Int)) = false → ∀ k : Nat, k ≤ upto (fun i => eq (nth a i) (nth b i)) (List.range a.length) → a.length ≤ 9223372036854775807 →
   ((k : Int) < (a.length : Int) → (0 ≤ (k : Int) ∧ (k : Int) < (a.length : Int)) ∧ (0 ≤ (k : Int) ∧ (k : Int) < (b.length : Int)) ∧
    ((!eq (nth a k) (nth b k)) = true → false = sameL eq a b) ∧
    ((!eq (nth a k) (nth b k)) = false → (-9223372036854775808 ≤ (k : Int) + 1 ∧ (k : Int) + 1 ≤ 9223372036854775807) ∧ k < upto (fun i => eq (nth a i) (nth b i)) (List.range a.length) ∧ (k : Int) + 1 = ((k + 1 : Nat) : Int) ∧ True)) ∧
   (¬ (k : Int) < (a.length : Int) → true = sameL eq a b)) := by
 intro h1 h2
 refine ⟨fun h => ?_, fun h k hk _ => ⟨fun hl => ⟨⟨by omega, hl⟩, ?_, fun hne => ?_, fun he => ?_⟩, fun hl => ?_⟩⟩
 ·simp only [bne_iff_ne, ne_eq, Int.natCast_inj] at h
  unfold sameL
  simp [h]
 ·simp only [bne_eq_false_iff_eq, Int.natCast_inj] at h
  omega
 ·have hlt : k < (List.range a.length).length := by rw [List.length_range]; omega
  have : (fun i => eq (nth a i) (nth b i)) (nth (List.range a.length) k) = false := by
   rw [nth_range (by omega)]
   simpa using hne
  unfold sameL
  rw [upto_some hlt this]
  simp
 ·have hlt : k < (List.range a.length).length := by rw [List.length_range]; omega
  refine ⟨by omega, upto_lt hk hlt ?_, by omega, trivial⟩
  rw [nth_range (by omega)]
  simpa using he
 ·simp only [bne_eq_false_iff_eq, Int.natCast_inj] at h
  have := upto_all (p := fun i => eq (nth a i) (nth b i)) (l := List.range a.length) (by rw [List.length_range]; omega)
  unfold sameL
  rw [this, h]
  simp
theorem same34 (S : Set Tryz.prog Y Gl) (a b : List Int) : Computes Tryz.prog Gl 34 [L eI a, L eI b] (.ret (B (sameL (· == ·) a b))) := by
 refine fn_is S (.br .nil (.loop (upto (fun i=>nth a i==nth b i) (List.range a.length)) (fun k=>[v 5 (I ↑k),v 0 (L eI a),v 1 (L eI b)]) fun k0=>.br (.br .nil .nil) .nil)) Tryz.func34 (by kernel_rfl) (a.length≤maxLen→b.length≤maxLen→(((↑a.length:Int) != (↑b.length:Int))=true→false=sameL (fun x1 x2=>x1==x2) a b)∧(((↑a.length:Int) != (↑b.length:Int))=false→(0=(↑(0:Nat):Int)∧(SEq a.length (fun i=>eI (nth a i)) a.length fun i=>eI (nth a i))∧SEq b.length (fun i=>eI (nth b i)) b.length fun i=>eI (nth b i))∧∀ (k0:Nat),k0≤upto (fun i=>nth a i==nth b i) (List.range a.length)→a.length≤maxLen→(decide ((↑k0:Int)<(↑a.length:Int))=true→(0≤(↑k0:Int)∧(↑k0:Int)<(↑a.length:Int))∧(0≤(↑k0:Int)∧(↑k0:Int)<(↑b.length:Int))∧((nth a k0 != nth b k0)=true→false=sameL (fun x1 x2=>x1==x2) a b)∧((nth a k0 != nth b k0)=false→inRange IntKind.i64 ((↑k0:Int)+1)∧k0<upto (fun i=>nth a i==nth b i) (List.range a.length)∧(↑k0:Int)+1=(↑(k0+1):Int)∧(SEq a.length (fun i=>eI (nth a i)) a.length fun i=>eI (nth a i))∧SEq b.length (fun i=>eI (nth b i)) b.length fun i=>eI (nth b i)))∧(decide ((↑k0:Int)<(↑a.length:Int))=false→true=sameL (fun x1 x2=>x1==x2) a b))) (by kernel_rfl) ?_
 simp only [stdS, imp_self, implies_true, and_true, decide_eq_true_eq, decide_eq_false_iff_not, maxLen_eq, rng_iff]
 exact same_loop (· == ·) a b
theorem sameSpans31 (S : Set Tryz.prog Y Gl) (a b : List Span) : Computes Tryz.prog Gl 31 [L eSpan a, L eSpan b] (.ret (B (sameL sameSpan a b))) := by
 refine fn_is S (.br .nil (.loop (upto (fun i=>sameSpan (nth a i) (nth b i)) (List.range a.length)) (fun k=>[v 5 (I ↑k),v 0 (L eSpan a),v 1 (L eSpan b)]) fun k0=>.br (.br .nil .nil) .nil)) Tryz.func31 (by kernel_rfl) (a.length≤maxLen→b.length≤maxLen→(((↑a.length:Int) != (↑b.length:Int))=true→false=sameL sameSpan a b)∧(((↑a.length:Int) != (↑b.length:Int))=false→(0=(↑(0:Nat):Int)∧(SEq a.length (fun i=>eSpan (nth a i)) a.length fun i=>eSpan (nth a i))∧SEq b.length (fun i=>eSpan (nth b i)) b.length fun i=>eSpan (nth b i))∧∀ (k0:Nat),k0≤upto (fun i=>sameSpan (nth a i) (nth b i)) (List.range a.length)→a.length≤maxLen→(decide ((↑k0:Int)<(↑a.length:Int))=true→(0≤(↑k0:Int)∧(↑k0:Int)<(↑a.length:Int))∧(0≤(↑k0:Int)∧(↑k0:Int)<(↑b.length:Int))∧((bif true then !eqL [(nth a k0).1,(nth a k0).2] [(nth b k0).1,(nth b k0).2] else eqL [(nth a k0).1,(nth a k0).2] [(nth b k0).1,(nth b k0).2])=true→false=sameL sameSpan a b)∧((bif true then !eqL [(nth a k0).1,(nth a k0).2] [(nth b k0).1,(nth b k0).2] else eqL [(nth a k0).1,(nth a k0).2] [(nth b k0).1,(nth b k0).2])=false→inRange IntKind.i64 ((↑k0:Int)+1)∧k0<upto (fun i=>sameSpan (nth a i) (nth b i)) (List.range a.length)∧(↑k0:Int)+1=(↑(k0+1):Int)∧(SEq a.length (fun i=>eSpan (nth a i)) a.length fun i=>eSpan (nth a i))∧SEq b.length (fun i=>eSpan (nth b i)) b.length fun i=>eSpan (nth b i)))∧(decide ((↑k0:Int)<(↑a.length:Int))=false→true=sameL sameSpan a b))) (by kernel_rfl) ?_
 simp only [stdS, imp_self, implies_true, and_true, decide_eq_true_eq, decide_eq_false_iff_not, maxLen_eq, rng_iff]
 exact same_loop sameSpan a b
theorem samePlans54 (S : Set Tryz.prog Y Gl) (a b : List Task) : Computes Tryz.prog Gl 54 [L eTask a, L eTask b] (.ret (B (sameL sameTask a b))) := by
 refine fn_is S (.br .nil (.loop (upto (fun i=>sameTask (nth a i) (nth b i)) (List.range a.length)) (fun k=>[v 5 (I ↑k),v 0 (L eTask a),v 1 (L eTask b)]) fun k0=>.br (.br .nil .nil) .nil)) Tryz.func54 (by kernel_rfl) (a.length≤maxLen→b.length≤maxLen→(((↑a.length:Int) != (↑b.length:Int))=true→false=sameL sameTask a b)∧(((↑a.length:Int) != (↑b.length:Int))=false→(0=(↑(0:Nat):Int)∧(SEq a.length (fun i=>eTask (nth a i)) a.length fun i=>eTask (nth a i))∧SEq b.length (fun i=>eTask (nth b i)) b.length fun i=>eTask (nth b i))∧∀ (k0:Nat),k0≤upto (fun i=>sameTask (nth a i) (nth b i)) (List.range a.length)→a.length≤maxLen→(decide ((↑k0:Int)<(↑a.length:Int))=true→(0≤(↑k0:Int)∧(↑k0:Int)<(↑a.length:Int))∧(0≤(↑k0:Int)∧(↑k0:Int)<(↑b.length:Int))∧((bif true then !eqL [(nth a k0).1,(nth a k0).2,(nth a k0).3] [(nth b k0).1,(nth b k0).2,(nth b k0).3] else eqL [(nth a k0).1,(nth a k0).2,(nth a k0).3] [(nth b k0).1,(nth b k0).2,(nth b k0).3])=true→false=sameL sameTask a b)∧((bif true then !eqL [(nth a k0).1,(nth a k0).2,(nth a k0).3] [(nth b k0).1,(nth b k0).2,(nth b k0).3] else eqL [(nth a k0).1,(nth a k0).2,(nth a k0).3] [(nth b k0).1,(nth b k0).2,(nth b k0).3])=false→inRange IntKind.i64 ((↑k0:Int)+1)∧k0<upto (fun i=>sameTask (nth a i) (nth b i)) (List.range a.length)∧(↑k0:Int)+1=(↑(k0+1):Int)∧(SEq a.length (fun i=>eTask (nth a i)) a.length fun i=>eTask (nth a i))∧SEq b.length (fun i=>eTask (nth b i)) b.length fun i=>eTask (nth b i)))∧(decide ((↑k0:Int)<(↑a.length:Int))=false→true=sameL sameTask a b))) (by kernel_rfl) ?_
 simp only [stdS, imp_self, implies_true, and_true, decide_eq_true_eq, decide_eq_false_iff_not, maxLen_eq, rng_iff]
 exact same_loop sameTask a b
theorem sameWords41 (S : Set Tryz.prog Y Gl) (a b : List Int) : Computes Tryz.prog Gl 41 [L eI a, L eI b] (.ret (B (sameL (· == ·) a b))) := by
 refine fn_is S (.br .nil (.loop (upto (fun i=>nth a i==nth b i) (List.range a.length)) (fun k=>[v 5 (I ↑k),v 0 (L eI a),v 1 (L eI b)]) fun k0=>.br (.br .nil .nil) .nil)) Tryz.func41 (by kernel_rfl) (a.length≤maxLen→b.length≤maxLen→(((↑a.length:Int) != (↑b.length:Int))=true→false=sameL (fun x1 x2=>x1==x2) a b)∧(((↑a.length:Int) != (↑b.length:Int))=false→(0=(↑(0:Nat):Int)∧(SEq a.length (fun i=>eI (nth a i)) a.length fun i=>eI (nth a i))∧SEq b.length (fun i=>eI (nth b i)) b.length fun i=>eI (nth b i))∧∀ (k0:Nat),k0≤upto (fun i=>nth a i==nth b i) (List.range a.length)→a.length≤maxLen→(decide ((↑k0:Int)<(↑a.length:Int))=true→(0≤(↑k0:Int)∧(↑k0:Int)<(↑a.length:Int))∧(0≤(↑k0:Int)∧(↑k0:Int)<(↑b.length:Int))∧((nth a k0 != nth b k0)=true→false=sameL (fun x1 x2=>x1==x2) a b)∧((nth a k0 != nth b k0)=false→inRange IntKind.i64 ((↑k0:Int)+1)∧k0<upto (fun i=>nth a i==nth b i) (List.range a.length)∧(↑k0:Int)+1=(↑(k0+1):Int)∧(SEq a.length (fun i=>eI (nth a i)) a.length fun i=>eI (nth a i))∧SEq b.length (fun i=>eI (nth b i)) b.length fun i=>eI (nth b i)))∧(decide ((↑k0:Int)<(↑a.length:Int))=false→true=sameL (fun x1 x2=>x1==x2) a b))) (by kernel_rfl) ?_
 simp only [stdS, imp_self, implies_true, and_true, decide_eq_true_eq, decide_eq_false_iff_not, maxLen_eq, rng_iff]
 exact same_loop (· == ·) a b
end Go.Vc.Gd
namespace Go.Vc.Gd
open Go Go.Proofs Go.Vc
variable {Gl : World → Prop}
def dayDone (plan : List Task) (t : Truth) (lost c : Int) (free : List Int) (i : Nat) : Int :=
 max (max (home plan t i (nth plan i).one (i == lost && (nth plan i).one == c)) (home plan t i (nth plan i).other (i == lost && (nth plan i).other == c)) + nth t.post (nth plan i).third.toNat) (nth free (nth plan i).third.toNat) + nth t.look (nth plan i).third.toNat
def freeTo (plan : List Task) (t : Truth) (lost c : Int) : Nat → List Int
 | 0 => List.replicate t.post.length 0
 | i + 1 => (freeTo plan t lost c i).set (nth plan i).third.toNat (dayDone plan t lost c (freeTo plan t lost c i) i)
def dayAt (plan : List Task) (t : Truth) (lost c : Int) (i : Nat) : Int := dayDone plan t lost c (freeTo plan t lost c i) i + nth t.post (nth plan i).third.toNat
def days (plan : List Task) (t : Truth) (lost c : Int) : List Int := (List.range plan.length).map (dayAt plan t lost c)
def Truth.fits (t : Truth) (n : Nat) : Prop := t.post.length = n ∧ t.sheet.length = n ∧ t.look.length = n
def tasksIn (plan : List Task) (n : Nat) : Prop := ∀ i, i < plan.length → (0 ≤ (nth plan i).one ∧ (nth plan i).one < n) ∧ (0 ≤ (nth plan i).other ∧ (nth plan i).other < n) ∧ (0 ≤ (nth plan i).third ∧ (nth plan i).third < n)
theorem nth_ge {α : Type} [Inhabited α] {l : List α} {i : Nat} (h : l.length ≤ i) : nth l i = default := by
 unfold nth
 rw [List.getD_eq_getElem?_getD, List.getElem?_eq_none h]
 rfl
theorem ok_spec {b : Book} (h : b.ok = true) : (1 ≤ b.comps.length ∧ b.comps.length ≤ 4) ∧ (1 ≤ b.dues.length ∧ b.dues.length ≤ 2) ∧ (1 ≤ b.sheets.length ∧ b.sheets.length ≤ 3) ∧
  (∀ i, i < b.comps.length → (nth b.comps i).fine = true) ∧ (∀ i, i < b.dues.length → 0 ≤ nth b.dues i ∧ nth b.dues i ≤ 99) ∧ (∀ i, i < b.sheets.length → 0 ≤ nth b.sheets i ∧ nth b.sheets i < b.dues.length) := by
 unfold Book.ok at h
 simp only [Bool.and_eq_true, inR_iff, List.all_eq_true] at h
 obtain ⟨h1, h2, h3, h4, h5, h6⟩ := h
 refine ⟨by omega, by omega, by omega, fun i hi => h4 _ (nth_mem hi), fun i hi => h5 _ (nth_mem hi), fun i hi => ?_⟩
 have := h6 _ (nth_mem hi)
 unfold Book.isTable at this
 rw [inR_iff] at this
 omega
theorem fine_spec {c : Comp} (h : c.fine = true) : (0 ≤ c.room ∧ c.room ≤ 2) ∧ (0 ≤ c.post.low ∧ c.post.low ≤ c.post.high ∧ c.post.high ≤ 5) ∧ (1 ≤ c.sheet.low ∧ c.sheet.low ≤ c.sheet.high ∧ c.sheet.high ≤ 5) ∧ (1 ≤ c.look.low ∧ c.look.low ≤ c.look.high ∧ c.look.high ≤ 3) := by
 unfold Comp.fine Span.isIn at h
 simp only [Bool.and_eq_true, inR_iff] at h
 omega
theorem end_le {s : Span} {g : Bool} {lo hi : Int} (h : lo ≤ s.low ∧ s.low ≤ s.high ∧ s.high ≤ hi) : lo ≤ s.end g ∧ s.end g ≤ hi := by
 unfold Span.end
 cases g <;> simp only [cond_true, cond_false] <;> omega
theorem small_of {l : List Int} {f : Comp → Int} {b : Book} (hl : l = b.comps.map f) (hf : ∀ i, i < b.comps.length → 0 ≤ f (nth b.comps i) ∧ f (nth b.comps i) ≤ 5) (i : Nat) : 0 ≤ nth l i ∧ nth l i ≤ 1000 := by
 subst hl
 rcases Nat.lt_or_ge i b.comps.length with h | h
 ·rw [nth_map h]
  have := hf i h
  omega
 ·rw [nth_ge (by simpa using h)]
  exact ⟨by decide, by decide⟩
theorem small_ends {b : Book} (hb : b.ok = true) (g : Bool) : small (b.ends g) := by
 obtain ⟨_, _, _, h, _⟩ := ok_spec hb
 refine ⟨small_of rfl fun i hi => ?_, small_of rfl fun i hi => ?_, small_of rfl fun i hi => ?_⟩
 ·obtain ⟨_, h1, h2, h3⟩ := fine_spec (h i hi)
  exact end_le h1
 ·obtain ⟨_, h1, h2, h3⟩ := fine_spec (h i hi)
  have := end_le (g := g) h2
  omega
 ·obtain ⟨_, h1, h2, h3⟩ := fine_spec (h i hi)
  have := end_le (g := g) h3
  omega
theorem fits_ends (b : Book) (g : Bool) : (b.ends g).fits b.comps.length := ⟨by simp [Book.ends, Book.endP], by simp [Book.ends, Book.endS], by simp [Book.ends, Book.endL]⟩
theorem fault_zero {b : Book} {t : Task} (h : b.fault t = 0) : (b.isComp t.one = true ∧ b.isComp t.other = true ∧ b.isComp t.third = true) ∧ (t.one ≠ t.other ∧ t.one ≠ t.third ∧ t.other ≠ t.third) ∧ t.one ≤ t.other ∧
  (nth b.comps t.one.toNat).room ≠ (nth b.comps t.other.toNat).room := by
 unfold Book.fault at h
 cases h1 : (!(b.isComp t.one && b.isComp t.other && b.isComp t.third)) with
 | true => rw [h1] at h; cases h
 | false =>
  rw [h1, cond_false] at h
  cases h2 : (t.one == t.other || t.one == t.third || t.other == t.third) with
  | true => rw [h2] at h; cases h
  | false =>
   rw [h2, cond_false] at h
   cases h3 : decide (t.other < t.one) with
   | true => rw [h3] at h; cases h
   | false =>
    rw [h3, cond_false] at h
    cases h4 : (nth b.comps t.one.toNat).room == (nth b.comps t.other.toNat).room with
    | true => rw [h4] at h; cases h
    | false =>
     simp only [Bool.not_eq_eq_eq_not, Bool.not_false, Bool.and_eq_true] at h1
     simp only [Bool.or_eq_false_iff, beq_eq_false_iff_ne] at h2
     have h3 := of_decide_eq_false h3
     exact ⟨⟨h1.1.1, h1.1.2, h1.2⟩, ⟨h2.1.1, h2.1.2, h2.2⟩, by omega, beq_eq_false_iff_ne.1 h4⟩
theorem good_spec {b : Book} {plan : List Task} (h : b.good plan = true) : plan.length = b.sheets.length ∧ ∀ i, i < plan.length → b.fault (nth plan i) = 0 := by
 unfold Book.good Book.isWhy at h
 simp only [Bool.and_eq_true, beq_iff_eq, Bool.not_not, List.all_eq_true] at h
 exact ⟨h.1, fun i hi => h.2 _ (nth_mem hi)⟩
theorem good_in {b : Book} {plan : List Task} (h : b.good plan = true) : tasksIn plan b.comps.length := by
 intro i hi
 obtain ⟨⟨h1, h2, h3⟩, _⟩ := fault_zero ((good_spec h).2 i hi)
 simp only [Book.isComp, inR_iff] at h1 h2 h3
 omega
theorem days_len (plan : List Task) (t : Truth) (lost c : Int) : (days plan t lost c).length = plan.length := by simp [days]
theorem spansOf_len (a b : List Int) : (spansOf a b).length = a.length := by simp [spansOf]
theorem nth_set {α : Type} [Inhabited α] (l : List α) (i : Nat) (x : α) (j : Nat) : nth (l.set i x) j = if i = j ∧ i < l.length then x else nth l j := by
 unfold nth
 rw [List.getD_eq_getElem?_getD, List.getD_eq_getElem?_getD, List.getElem?_set]
 by_cases h : i = j
 ·subst h
  by_cases h2 : i < l.length
  ·simp [h2]
  ·simp [h2]
 ·simp [h]
theorem freeTo_len (plan : List Task) (t : Truth) (lost c : Int) : ∀ k, (freeTo plan t lost c k).length = t.post.length
 | 0 => by simp [freeTo]
 | k + 1 => by simp [freeTo, freeTo_len plan t lost c k]
theorem home_rng {plan : List Task} {t : Truth} (hs : small t) (hp : plan.length ≤ 1000) (s c : Int) (l : Bool) : 0 ≤ home plan t s c l ∧ home plan t s c l ≤ 1003000 := by
 have h1 := hs.1 c.toNat
 have h2 := hs.2.1 c.toNat
 have hm : many plan s c l ≤ 1001 := by
  have := manyTo_le (plan := plan) (sheet := s) (c := c) (lost := l) plan.length
  unfold many
  cases l <;> simp <;> omega
 have h3 : (0 : Int) ≤ (many plan s c l : Int) * nth t.sheet c.toNat := Int.mul_nonneg (by omega) h2.1
 have h4 : (many plan s c l : Int) * nth t.sheet c.toNat ≤ 1001 * 1000 := Int.mul_le_mul (by omega) h2.2 h2.1 (by omega)
 unfold home
 omega
theorem freeTo_rng {plan : List Task} {t : Truth} (hs : small t) (hp : plan.length ≤ 1000) (lost c : Int) : ∀ k j, 0 ≤ nth (freeTo plan t lost c k) j ∧ nth (freeTo plan t lost c k) j ≤ 1005000 + 1000 * k
 | 0, j => by
  unfold freeTo nth
  rw [List.getD_eq_getElem?_getD, List.getElem?_replicate]
  split <;> simp [default]
 | k + 1, j => by
  have ih := freeTo_rng hs hp lost c k
  unfold freeTo
  rw [nth_set]
  split
  ·have a1 := home_rng hs hp k (nth plan k).one (k == lost && (nth plan k).one == c)
   have a2 := home_rng hs hp k (nth plan k).other (k == lost && (nth plan k).other == c)
   have a3 := hs.1 (nth plan k).third.toNat
   have a4 := hs.2.2 (nth plan k).third.toNat
   have a5 := ih (nth plan k).third.toNat
   unfold dayDone
   omega
  ·have := ih j; omega
def backs (b : Book) (plan : List Task) : List Span := spansOf (days plan (b.ends false) (-1) (-1)) (days plan (b.ends true) (-1) (-1))
def losts (b : Book) (plan : List Task) (sheet c : Int) : List Span := spansOf (days plan (b.ends false) sheet c) (days plan (b.ends true) sheet c)
def spanTo (b : Book) (l : List Span) (n : Nat) : Nat → Span
 | 0 => ⟨0, 0⟩
 | i + 1 => bif nth b.sheets i == (n : Int) then ⟨max (spanTo b l n i).low (nth l i).low, max (spanTo b l n i).high (nth l i).high⟩ else spanTo b l n i
def wordOf (s : Span) (due : Int) : Int := bif decide (s.high ≤ due) then 3 else bif decide (due < s.low) then 1 else 2
def wordAt (b : Book) (plan : List Task) (n : Nat) : Int := wordOf (spanTo b (backs b plan) n (backs b plan).length) (nth b.dues n)
def tables (b : Book) (plan : List Task) : List Int := (List.range b.dues.length).map (wordAt b plan)
def lateAt (b : Book) (plan : List Task) (n i : Nat) : Bool := nth b.sheets i == (n : Int) && decide (nth b.dues n < (nth (backs b plan) i).high)
def rowFine (b : Book) (plan : List Task) (n : Nat) : Bool := (wordAt b plan n == 3) || (List.range (backs b plan).length).all fun i => !lateAt b plan n i
def proofN (b : Book) (plan : List Task) : Nat := upto (rowFine b plan) (List.range b.dues.length)
def proofI (b : Book) (plan : List Task) (n : Nat) : Nat := bif wordAt b plan n == 3 then 0 else upto (fun i => !lateAt b plan n i) (List.range (backs b plan).length)
def isProof (b : Book) (plan : List Task) : Bool := !(List.range b.dues.length).all (rowFine b plan)
def proof1 (b : Book) (plan : List Task) : Int := bif isProof b plan then proofN b plan else 0
def proof2 (b : Book) (plan : List Task) : Int := bif isProof b plan then proofI b plan (proofN b plan) else 0
def proof3 (b : Book) (plan : List Task) : Int := bif isProof b plan then (nth (backs b plan) (proofI b plan (proofN b plan))).high else 0
def busyTo (plan : List Task) (n : Nat) : Nat → Bool
 | 0 => false
 | j + 1 => busyTo plan n j || (hand (nth plan j) n || (nth plan j).third == (n : Int))
def idleTo (plan : List Task) : Nat → List Int
 | 0 => []
 | k + 1 => bif busyTo plan k plan.length then idleTo plan k else idleTo plan k ++ [(k : Int)]
def taskNo (n i : Int) : Task := ⟨(i.tdiv n).tdiv n, (i.tdiv n).tmod n, i.tmod n⟩
def tasksTo (b : Book) : Nat → List Task
 | 0 => []
 | i + 1 => bif b.fault (taskNo b.comps.length i) == 0 then tasksTo b i ++ [taskNo b.comps.length i] else tasksTo b i
theorem idleTo_len (plan : List Task) : ∀ k, (idleTo plan k).length ≤ k
 | 0 => Nat.le_refl _
 | k + 1 => by
  have := idleTo_len plan k
  unfold idleTo
  cases busyTo plan k plan.length <;> simp <;> omega
theorem tasksTo_len (b : Book) : ∀ k, (tasksTo b k).length ≤ k
 | 0 => Nat.le_refl _
 | k + 1 => by
  have := tasksTo_len b k
  unfold tasksTo
  cases (b.fault (taskNo b.comps.length k) == 0) <;> simp <;> omega
def Book.tasks (b : Book) : List Task := tasksTo b (b.comps.length * b.comps.length * b.comps.length)
end Go.Vc.Gd
namespace Go.Vc.Gd
open Go Go.Proofs Go.Vc
variable {Gl : World → Prop}
def extTo (out : List (List Task)) (l : List Task) : Nat → List (List Task)
 | 0 => []
 | k + 1 => extTo out l k ++ l.map (fun t => nth out k ++ [t])
def plansTo (l : List Task) : Nat → List (List Task)
 | 0 => [[]]
 | i + 1 => extTo (plansTo l i) l (plansTo l i).length
def Book.plans (b : Book) : List (List Task) := plansTo b.tasks b.sheets.length
def allTo (b : Book) (l : List (List Task)) : Nat → List (List Task)
 | 0 => []
 | k + 1 => bif isProof b (nth l k) then allTo b l k else allTo b l k ++ [nth l k]
def Book.all (b : Book) : List (List Task) := allTo b b.plans b.plans.length
theorem ne_of_beq_false {a b : Int} (h : (a == b) = false) : a ≠ b := beq_eq_false_iff_ne.1 h
theorem tasks_len {b : Book} (hb : b.ok = true) : b.tasks.length ≤ 64 := by
 obtain ⟨o1, _⟩ := ok_spec hb
 have hnn : b.comps.length * b.comps.length ≤ 4 * 4 := Nat.mul_le_mul o1.2 o1.2
 have hnnn : b.comps.length * b.comps.length * b.comps.length ≤ 4 * 4 * 4 := Nat.mul_le_mul hnn o1.2
 have := tasksTo_len b (b.comps.length * b.comps.length * b.comps.length)
 unfold Book.tasks
 omega
theorem pow_le {n i : Nat} (hn : n ≤ 64) (hi : i ≤ 3) : n ^ i ≤ 262144 := by
 have h1 : n ^ i ≤ 64 ^ i := Nat.pow_le_pow_left hn i
 have h2 : 64 ^ i ≤ 64 ^ 3 := Nat.pow_le_pow_right (by omega) hi
 have h3 : 64 ^ 3 = 262144 := by decide
 omega
theorem mem_tasksTo {b : Book} {t : Task} : ∀ {k : Nat}, t ∈ tasksTo b k → b.fault t = 0
 | 0, h => by cases h
 | k + 1, h => by
  unfold tasksTo at h
  cases hf : (b.fault (taskNo b.comps.length k) == 0) with
  | false => rw [hf] at h; exact mem_tasksTo (k := k) h
  | true =>
   rw [hf] at h
   rcases List.mem_append.1 h with h | h
   ·exact mem_tasksTo (k := k) h
   ·rw [List.mem_singleton.1 h]; exact eq_of_beq hf
end Go.Vc.Gd
namespace Go.Vc.Gd
open Go Go.Proofs Go.Vc
variable {Gl : World → Prop}
def lastL (l : List Int) : Nat → Int
 | 0 => 0
 | k + 1 => max (lastL l k) (nth l k)
structure Work where
 book : Book
 plan : List Task
def cWork (w : Work) : List C := [.l eComp w.book.comps, .l eI w.book.dues, .l eI w.book.sheets, .l eTask w.plan]
def tWork (w : Work) : T := .d (.agg (cWork w))
def tLost (s c : Int) : T := .d (.agg [Ci s, Ci c])
def isGone (gs gc sheet c : Int) : Bool := gs == sheet && (gc == c && true)
theorem last116 (S : Set Tryz.prog Y Gl) (l : List Int) : Computes Tryz.prog Gl 116 [L eI l] (.ret (I (lastL l l.length))) := by
 refine fn_is S (.loop l.length (fun k=>[v 8 (I ↑k),v 7 (I ↑l.length),v 6 (L eI l),v 3 (I (lastL l k))]) fun k0=>.br .nil .nil) Tryz.func116 (by kernel_rfl) (l.length≤maxLen→(0=(↑(0:Nat):Int)∧(↑l.length:Int)=(↑l.length:Int)∧(SEq l.length (fun i=>eI (nth l i)) l.length fun i=>eI (nth l i))∧(0:Int)=lastL l (0:Nat))∧∀ (k0:Nat),k0≤l.length→(decide ((↑k0:Int)<(↑l.length:Int))=true→(0≤(↑k0:Int)∧(↑k0:Int)<(↑l.length:Int))∧inRange IntKind.i64 ((↑k0:Int)+1)∧k0<l.length∧(↑k0:Int)+1=(↑(k0+1):Int)∧(↑l.length:Int)=(↑l.length:Int)∧(SEq l.length (fun i=>eI (nth l i)) l.length fun i=>eI (nth l i))∧max (lastL l k0) (nth l k0)=lastL l (k0+1))∧(decide ((↑k0:Int)<(↑l.length:Int))=false→lastL l k0=lastL l l.length)) (by kernel_rfl) ?_
 simp only [stdS, imp_self, implies_true, and_true, decide_eq_true_eq, decide_eq_false_iff_not, maxLen_eq, rng_iff]
 refine fun _ => ⟨rfl, fun k hk => ⟨fun hl => ⟨by omega, by omega, by omega, by omega, rfl⟩, fun hl => ?_⟩⟩
 have hke : k = l.length := by omega
 rw [hke]
theorem none81 (S : Set Tryz.prog Y Gl)  : Computes Tryz.prog Gl 81 [] (.ret (tLost (-1) (-1))) := by
 refine fn_is S (.nil) Tryz.func81 (by kernel_rfl) ((-1:Int)=(-1:Int)∧(-1:Int)=(-1:Int)) (by kernel_rfl) ?_
 exact ⟨rfl, rfl⟩
theorem isTruth82 (S : Set Tryz.prog Y Gl) (b : Book) (t : Truth) : Computes Tryz.prog Gl 82 [tBook b, tTruth t] (.ret (B (t.ok b))) := by
 refine fn_is S (.br .nil (.loop (upto (truthAt b t) (List.range (List.length (Book.comps b)))) (fun k=>v 33 (I ↑k)::v 32 (I (↑(List.length (Book.comps b)):Int))::v 31 (L eComp (Book.comps b))::v 3 (ad 3)::bx 3 (cTruth t)) fun k0=>.br (.r (.ret (B (inR (nth t.1 k0) (nth b.1 k0).2.1 (nth b.1 k0).2.2))) (.r (.ret (B (inR (nth t.2 k0) (nth b.1 k0).3.1 (nth b.1 k0).3.2))) (.r (.ret (B (inR (nth t.3 k0) (nth b.1 k0).4.1 (nth b.1 k0).4.2))) (.br .nil .nil)))) .nil)) Tryz.func82 (by kernel_rfl) (let A0:=fun (k0:Nat)=>(bif !inR (nth t.1 k0) (nth b.1 k0).2.1 (nth b.1 k0).2.2 then true else !inR (nth t.2 k0) (nth b.1 k0).3.1 (nth b.1 k0).3.2);let A1:=fun (k0:Nat)=>(eqB (!inR (nth t.1 k0) (nth b.1 k0).2.1 (nth b.1 k0).2.2) false=true→eqB (!inR (nth t.1 k0) (nth b.1 k0).2.1 (nth b.1 k0).2.2) false=true);let A2:=(bif (↑t.1.length:Int) != (↑b.1.length:Int) then true else (↑t.2.length:Int) != (↑b.1.length:Int));let A3:=fun (k0:Nat)=>(eqB (A0 k0) false=true→eqB (A0 k0) false=true);let A4:=((↑t.1.length:Int) != (↑b.1.length:Int));let A5:=(↑b.1.length:Int);let A6:=fun (k0:Nat)=>(nth b.1 k0);let A7:=(eqB A4 false=true→eqB A4 false=true);let A8:=(eqB A2 false=true→eqB A2 false=true);let A9:=fun (k0:Nat)=>(!inR (nth t.1 k0) (A6 k0).2.1 (A6 k0).2.2);b.1.length≤maxLen→t.1.length≤maxLen→A7∧A7∧((eqB A4 false=true→t.2.length≤maxLen)→A7∧A7∧(A4=false→eqB A4 false=true)∧A8∧A8∧((eqB A2 false=true→t.3.length≤maxLen)→A8∧A8∧(A2=false→eqB A2 false=true)∧((bif bif (↑t.1.length:Int) != A5 then true else (↑t.2.length:Int) != A5 then true else (↑t.3.length:Int) != A5)=true→false=Truth.ok b t)∧((bif bif (↑t.1.length:Int) != A5 then true else (↑t.2.length:Int) != A5 then true else (↑t.3.length:Int) != A5)=false→b.1.length≤maxLen→(0=(↑(0:Nat):Int)∧A5=A5∧(SEq b.1.length (fun i=>eComp (nth b.1 i)) b.1.length fun i=>eComp (nth b.1 i))∧(SEq t.1.length (fun i=>eI (nth t.1 i)) t.1.length fun i=>eI (nth t.1 i))∧(SEq t.2.length (fun i=>eI (nth t.2 i)) t.2.length fun i=>eI (nth t.2 i))∧SEq t.3.length (fun i=>eI (nth t.3 i)) t.3.length fun i=>eI (nth t.3 i))∧∀ (k0:Nat),k0≤upto (truthAt b t) (List.range (List.length (Book.comps b)))→(decide ((↑k0:Int)<(↑b.1.length:Int))=true→(0≤(↑k0:Int)∧(↑k0:Int)<A5)∧(0≤(↑k0:Int)∧(↑k0:Int)<(↑t.1.length:Int))∧Computes Tryz.prog Gl 91 [I (nth t.1 k0),I (A6 k0).2.1,I (A6 k0).2.2] (.ret (B (inR (nth t.1 k0) (A6 k0).2.1 (A6 k0).2.2)))∧(A1 k0)∧(A1 k0)∧(A1 k0)∧(eqB (A9 k0) false=true→0≤(↑k0:Int)∧(↑k0:Int)<(↑t.2.length:Int))∧(A1 k0)∧(A1 k0)∧(A1 k0)∧(A1 k0)∧(A1 k0)∧(A1 k0)∧(A1 k0)∧(A1 k0)∧(eqB (A9 k0) false=true→Computes Tryz.prog Gl 91 [I (nth t.2 k0),I (A6 k0).3.1,I (A6 k0).3.2] (.ret (B (inR (nth t.2 k0) (A6 k0).3.1 (A6 k0).3.2))))∧(A1 k0)∧((A9 k0)=false→eqB (A9 k0) false=true)∧(A3 k0)∧(A3 k0)∧(A3 k0)∧(eqB (A0 k0) false=true→0≤(↑k0:Int)∧(↑k0:Int)<(↑t.3.length:Int))∧(A3 k0)∧(A3 k0)∧(A3 k0)∧(A3 k0)∧(A3 k0)∧(A3 k0)∧(A3 k0)∧(A3 k0)∧(eqB (A0 k0) false=true→Computes Tryz.prog Gl 91 [I (nth t.3 k0),I (A6 k0).4.1,I (A6 k0).4.2] (.ret (B (inR (nth t.3 k0) (A6 k0).4.1 (A6 k0).4.2))))∧(A3 k0)∧((A0 k0)=false→eqB (A0 k0) false=true)∧((bif bif !inR (nth t.1 k0) (A6 k0).2.1 (A6 k0).2.2 then true else !inR (nth t.2 k0) (A6 k0).3.1 (A6 k0).3.2 then true else !inR (nth t.3 k0) (A6 k0).4.1 (A6 k0).4.2)=true→false=Truth.ok b t)∧((bif bif !inR (nth t.1 k0) (A6 k0).2.1 (A6 k0).2.2 then true else !inR (nth t.2 k0) (A6 k0).3.1 (A6 k0).3.2 then true else !inR (nth t.3 k0) (A6 k0).4.1 (A6 k0).4.2)=false→inRange IntKind.i64 ((↑k0:Int)+1)∧k0<upto (truthAt b t) (List.range (List.length (Book.comps b)))∧(↑k0:Int)+1=(↑(k0+1):Int)∧A5=A5∧(SEq b.1.length (fun i=>eComp (nth b.1 i)) b.1.length fun i=>eComp (nth b.1 i))∧(SEq t.1.length (fun i=>eI (nth t.1 i)) t.1.length fun i=>eI (nth t.1 i))∧(SEq t.2.length (fun i=>eI (nth t.2 i)) t.2.length fun i=>eI (nth t.2 i))∧SEq t.3.length (fun i=>eI (nth t.3 i)) t.3.length fun i=>eI (nth t.3 i)))∧(decide ((↑k0:Int)<(↑b.1.length:Int))=false→true=Truth.ok b t))))) (by kernel_rfl) ?_
 simp only [stdS, imp_self, implies_true, and_true, in91 S, decide_eq_true_eq, decide_eq_false_iff_not, maxLen_eq, rng_iff]
 intro h1 h2 h3 h4
 refine ⟨fun h => ?_, fun h _ k hk => ?_⟩
 ·simp only [Bool.or_eq_true, bne_iff_ne, ne_eq, Int.natCast_inj] at h
  unfold Truth.ok
  rcases h with (h | h) | h <;> simp [h]
 ·simp only [Bool.or_eq_false_iff, bne_eq_false_iff_eq, Int.natCast_inj] at h
  obtain ⟨⟨e1, e2⟩, e3⟩ := h
  refine ⟨fun hl => ⟨⟨by omega, hl⟩, by omega, fun _ => by omega, fun _ => by omega, fun hb => ?_, fun hb => ⟨by omega, ?_, by omega, trivial⟩⟩, fun hl => ?_⟩
  ·have hlt : k < (List.range b.comps.length).length := by rw [List.length_range]; omega
   have : truthAt b t (nth (List.range b.comps.length) k) = false := by
    rw [nth_eq hlt, List.getElem_range]
    unfold truthAt
    rw [← Bool.not_eq_true']
    simpa [Bool.not_and, or_assoc] using hb
   unfold Truth.ok
   rw [upto_some hlt this]
   simp
  ·have hlt : k < (List.range b.comps.length).length := by rw [List.length_range]; omega
   refine upto_lt hk hlt ?_
   rw [nth_eq hlt, List.getElem_range]
   unfold truthAt
   simp only [Bool.or_eq_false_iff, Bool.not_eq_eq_eq_not, Bool.not_false] at hb
   rw [hb.1.1, hb.1.2, hb.2]
   rfl
  ·have := upto_all (p := truthAt b t) (l := List.range b.comps.length) (by rw [List.length_range]; omega)
   unfold Truth.ok
   rw [this, e1, e2, e3]
   simp
theorem least86 (S : Set Tryz.prog Y Gl) (b : Book) (h : b.comps.length ≤ 1000) : Computes Tryz.prog Gl 86 [tBook b] (.ret (tTruth (b.ends false))) := by
 refine fn_is S (.loop (List.length (Book.comps b)) (fun k=>v 9 (I ↑k)::v 8 (I (↑(List.length (Book.comps b)):Int))::v 7 (L eComp (Book.comps b))::v 3 (ad 3)::v 2 (ad 2)::tk 100 3::tk 101 3::tk 102 3::(bx 2 nil3 ++ bx 3 [C.lt (100:Nat) eI (List.take k (Book.endP b false)),C.lt (101:Nat) eI (List.take k (Book.endS b false)),C.lt (102:Nat) eI (List.take k (Book.endL b false))])) fun k0=>.br .nil .nil) Tryz.func86 (by kernel_rfl) (let A0:=(Book.endP b false);let A1:=(Book.endS b false);let A2:=(Book.endL b false);let A3:=(↑b.1.length:Int);b.1.length≤maxLen→(0=(↑(0:Nat):Int)∧A3=A3∧(SEq b.1.length (fun i=>eComp (nth b.1 i)) b.1.length fun i=>eComp (nth b.1 i))∧Value.slice none 0 0=Value.slice none 0 0∧Value.slice none 0 0=Value.slice none 0 0∧Value.slice none 0 0=Value.slice none 0 0∧(0:Nat)=(0:Nat)∧(0:Nat)=(0:Nat)∧(0:Nat)=(0:Nat))∧∀ (k0:Nat),k0≤List.length (Book.comps b)→(decide ((↑k0:Int)<(↑b.1.length:Int))=true→(0≤(↑k0:Int)∧(↑k0:Int)<A3)∧(List.length (List.take k0 A0)+1)*8≤140737488355328∧List.length (List.take k0 A0)+1≤140737488355328∧(List.length (List.take k0 A1)+1)*8≤140737488355328∧List.length (List.take k0 A1)+1≤140737488355328∧(List.length (List.take k0 A2)+1)*8≤140737488355328∧List.length (List.take k0 A2)+1≤140737488355328∧inRange IntKind.i64 ((↑k0:Int)+1)∧k0<List.length (Book.comps b)∧(↑k0:Int)+1=(↑(k0+1):Int)∧A3=A3∧(SEq b.1.length (fun i=>eComp (nth b.1 i)) b.1.length fun i=>eComp (nth b.1 i))∧Value.slice none 0 0=Value.slice none 0 0∧Value.slice none 0 0=Value.slice none 0 0∧Value.slice none 0 0=Value.slice none 0 0∧(SEq (List.length (List.take k0 A0)+1) (catF (List.length (List.take k0 A0)) (fun i=>eI (nth (List.take k0 A0) i)) fun i=>List.getD [List.map C.dem [C.v (Value.int IntKind.i64 (nth b.1 k0).2.1)]] i []) (List.length (List.take (k0+1) A0)) fun i=>eI (nth (List.take (k0+1) A0) i))∧(SEq (List.length (List.take k0 A1)+1) (catF (List.length (List.take k0 A1)) (fun i=>eI (nth (List.take k0 A1) i)) fun i=>List.getD [List.map C.dem [C.v (Value.int IntKind.i64 (nth b.1 k0).3.1)]] i []) (List.length (List.take (k0+1) A1)) fun i=>eI (nth (List.take (k0+1) A1) i))∧SEq (List.length (List.take k0 A2)+1) (catF (List.length (List.take k0 A2)) (fun i=>eI (nth (List.take k0 A2) i)) fun i=>List.getD [List.map C.dem [C.v (Value.int IntKind.i64 (nth b.1 k0).4.1)]] i []) (List.length (List.take (k0+1) A2)) fun i=>eI (nth (List.take (k0+1) A2) i))∧(decide ((↑k0:Int)<(↑b.1.length:Int))=false→(SEq (List.length (List.take k0 A0)) (fun i=>eI (nth (List.take k0 A0) i)) (List.length A0) fun i=>eI (nth A0 i))∧(SEq (List.length (List.take k0 A1)) (fun i=>eI (nth (List.take k0 A1) i)) (List.length A1) fun i=>eI (nth A1 i))∧SEq (List.length (List.take k0 A2)) (fun i=>eI (nth (List.take k0 A2) i)) (List.length A2) fun i=>eI (nth A2 i))) (by kernel_rfl) ?_
 simp only [stdS, imp_self, implies_true, and_true, decide_eq_true_eq, decide_eq_false_iff_not, maxLen_eq, rng_iff]
 have lp : (b.endP false).length = b.comps.length := by simp [Book.endP]
 have ls : (b.endS false).length = b.comps.length := by simp [Book.endS]
 have ll : (b.endL false).length = b.comps.length := by simp [Book.endL]
 refine fun _ k hk => ⟨fun hl => ?_, fun hl => ?_⟩
 ·have hlt : k < b.comps.length := by omega
  have bp : ((b.endP false).take k).length ≤ 1000 := by rw [List.length_take]; omega
  have bs : ((b.endS false).take k).length ≤ 1000 := by rw [List.length_take]; omega
  have bl : ((b.endL false).take k).length ≤ 1000 := by rw [List.length_take]; omega
  have np : nth (b.endP false) k = (nth b.comps k).post.end false := nth_map hlt
  have ns : nth (b.endS false) k = (nth b.comps k).sheet.end false := nth_map hlt
  have nl : nth (b.endL false) k = (nth b.comps k).look.end false := nth_map hlt
  refine ⟨by omega, by omega, by omega, by omega, by omega, by omega, by omega, by omega, hlt, by omega, ?_, ?_, ?_⟩
  ·exact SEq_push (by omega) (by rw [np]; rfl)
  ·exact SEq_push (by omega) (by rw [ns]; rfl)
  ·exact SEq_push (by omega) (by rw [nl]; rfl)
 ·have hke : k = b.comps.length := by omega
  exact ⟨SEq_whole (by rw [List.take_of_length_le (by omega)]), SEq_whole (by rw [List.take_of_length_le (by omega)]), SEq_whole (by rw [List.take_of_length_le (by omega)])⟩
theorem greatest87 (S : Set Tryz.prog Y Gl) (b : Book) (h : b.comps.length ≤ 1000) : Computes Tryz.prog Gl 87 [tBook b] (.ret (tTruth (b.ends true))) := by
 refine fn_is S (.loop (List.length (Book.comps b)) (fun k=>v 9 (I ↑k)::v 8 (I (↑(List.length (Book.comps b)):Int))::v 7 (L eComp (Book.comps b))::v 3 (ad 3)::v 2 (ad 2)::tk 100 3::tk 101 3::tk 102 3::(bx 2 nil3 ++ bx 3 [C.lt (100:Nat) eI (List.take k (Book.endP b true)),C.lt (101:Nat) eI (List.take k (Book.endS b true)),C.lt (102:Nat) eI (List.take k (Book.endL b true))])) fun k0=>.br .nil .nil) Tryz.func87 (by kernel_rfl) (let A0:=(Book.endP b true);let A1:=(Book.endS b true);let A2:=(Book.endL b true);let A3:=(↑b.1.length:Int);b.1.length≤maxLen→(0=(↑(0:Nat):Int)∧A3=A3∧(SEq b.1.length (fun i=>eComp (nth b.1 i)) b.1.length fun i=>eComp (nth b.1 i))∧Value.slice none 0 0=Value.slice none 0 0∧Value.slice none 0 0=Value.slice none 0 0∧Value.slice none 0 0=Value.slice none 0 0∧(0:Nat)=(0:Nat)∧(0:Nat)=(0:Nat)∧(0:Nat)=(0:Nat))∧∀ (k0:Nat),k0≤List.length (Book.comps b)→(decide ((↑k0:Int)<(↑b.1.length:Int))=true→(0≤(↑k0:Int)∧(↑k0:Int)<A3)∧(List.length (List.take k0 A0)+1)*8≤140737488355328∧List.length (List.take k0 A0)+1≤140737488355328∧(List.length (List.take k0 A1)+1)*8≤140737488355328∧List.length (List.take k0 A1)+1≤140737488355328∧(List.length (List.take k0 A2)+1)*8≤140737488355328∧List.length (List.take k0 A2)+1≤140737488355328∧inRange IntKind.i64 ((↑k0:Int)+1)∧k0<List.length (Book.comps b)∧(↑k0:Int)+1=(↑(k0+1):Int)∧A3=A3∧(SEq b.1.length (fun i=>eComp (nth b.1 i)) b.1.length fun i=>eComp (nth b.1 i))∧Value.slice none 0 0=Value.slice none 0 0∧Value.slice none 0 0=Value.slice none 0 0∧Value.slice none 0 0=Value.slice none 0 0∧(SEq (List.length (List.take k0 A0)+1) (catF (List.length (List.take k0 A0)) (fun i=>eI (nth (List.take k0 A0) i)) fun i=>List.getD [List.map C.dem [C.v (Value.int IntKind.i64 (nth b.1 k0).2.2)]] i []) (List.length (List.take (k0+1) A0)) fun i=>eI (nth (List.take (k0+1) A0) i))∧(SEq (List.length (List.take k0 A1)+1) (catF (List.length (List.take k0 A1)) (fun i=>eI (nth (List.take k0 A1) i)) fun i=>List.getD [List.map C.dem [C.v (Value.int IntKind.i64 (nth b.1 k0).3.2)]] i []) (List.length (List.take (k0+1) A1)) fun i=>eI (nth (List.take (k0+1) A1) i))∧SEq (List.length (List.take k0 A2)+1) (catF (List.length (List.take k0 A2)) (fun i=>eI (nth (List.take k0 A2) i)) fun i=>List.getD [List.map C.dem [C.v (Value.int IntKind.i64 (nth b.1 k0).4.2)]] i []) (List.length (List.take (k0+1) A2)) fun i=>eI (nth (List.take (k0+1) A2) i))∧(decide ((↑k0:Int)<(↑b.1.length:Int))=false→(SEq (List.length (List.take k0 A0)) (fun i=>eI (nth (List.take k0 A0) i)) (List.length A0) fun i=>eI (nth A0 i))∧(SEq (List.length (List.take k0 A1)) (fun i=>eI (nth (List.take k0 A1) i)) (List.length A1) fun i=>eI (nth A1 i))∧SEq (List.length (List.take k0 A2)) (fun i=>eI (nth (List.take k0 A2) i)) (List.length A2) fun i=>eI (nth A2 i))) (by kernel_rfl) ?_
 simp only [stdS, imp_self, implies_true, and_true, decide_eq_true_eq, decide_eq_false_iff_not, maxLen_eq, rng_iff]
 have lp : (b.endP true).length = b.comps.length := by simp [Book.endP]
 have ls : (b.endS true).length = b.comps.length := by simp [Book.endS]
 have ll : (b.endL true).length = b.comps.length := by simp [Book.endL]
 refine fun _ k hk => ⟨fun hl => ?_, fun hl => ?_⟩
 ·have hlt : k < b.comps.length := by omega
  have bp : ((b.endP true).take k).length ≤ 1000 := by rw [List.length_take]; omega
  have bs : ((b.endS true).take k).length ≤ 1000 := by rw [List.length_take]; omega
  have bl : ((b.endL true).take k).length ≤ 1000 := by rw [List.length_take]; omega
  have np : nth (b.endP true) k = (nth b.comps k).post.end true := nth_map hlt
  have ns : nth (b.endS true) k = (nth b.comps k).sheet.end true := nth_map hlt
  have nl : nth (b.endL true) k = (nth b.comps k).look.end true := nth_map hlt
  refine ⟨by omega, by omega, by omega, by omega, by omega, by omega, by omega, by omega, hlt, by omega, ?_, ?_, ?_⟩
  ·exact SEq_push (by omega) (by rw [np]; rfl)
  ·exact SEq_push (by omega) (by rw [ns]; rfl)
  ·exact SEq_push (by omega) (by rw [nl]; rfl)
 ·have hke : k = b.comps.length := by omega
  exact ⟨SEq_whole (by rw [List.take_of_length_le (by omega)]), SEq_whole (by rw [List.take_of_length_le (by omega)]), SEq_whole (by rw [List.take_of_length_le (by omega)])⟩
theorem home117 (S : Set Tryz.prog Y Gl) (w : Work) (t : Truth) (sheet c gs gc : Int) (hs : small t) (hp : w.plan.length ≤ 1000) (hc1 : 0 ≤ c ∧ c < t.post.length) (hc2 : 0 ≤ c ∧ c < t.sheet.length) : Computes Tryz.prog Gl 117 [tWork w, tTruth t, I sheet, I c, tLost gs gc] (.ret (I (home w.plan t sheet c (isGone gs gc sheet c)))) := by
 refine fn_is S (.loop (List.length (Work.plan w)) (fun k=>v 17 (I ↑k)::v 16 (I (↑(List.length (Work.plan w)):Int))::v 15 (L eTask (Work.plan w))::v 11 (I (↑(manyTo (Work.plan w) sheet c (isGone gs gc sheet c) k):Int))::v 2 (I sheet)::v 3 (I c)::v 6 (ad 6)::v 9 (ad 9)::(bx 6 (cTruth t) ++ bx 9 [Ci gs,Ci gc])) fun k0=>.br (.br .nil .nil) (.br .nil .nil)) Tryz.func117 (by kernel_rfl) (let A0:=fun (k0:Nat)=>(bif (nth w.2 k0).1==c then true else (nth w.2 k0).2==c);let A1:=fun (k0:Nat)=>(↑(manyTo w.2 sheet c (isGone gs gc sheet c) k0):Int);let A2:=fun (k0:Nat)=>(eqB (A0 k0) true&&eqB (decide ((↑k0:Int)≤sheet)) false);let A3:=(SEq w.2.length (fun i=>eTask (nth w.2 i)) w.2.length fun i=>eTask (nth w.2 i));let A4:=(SEq t.1.length (fun i=>eI (nth t.1 i)) t.1.length fun i=>eI (nth t.1 i));let A5:=(SEq t.2.length (fun i=>eI (nth t.2 i)) t.2.length fun i=>eI (nth t.2 i));let A6:=(SEq t.3.length (fun i=>eI (nth t.3 i)) t.3.length fun i=>eI (nth t.3 i));let A7:=fun (k0:Nat)=>(eqB ((nth w.2 k0).1==c) false=true→eqB ((nth w.2 k0).1==c) false=true);let A8:=(Int.toNat c);let A9:=fun (k0:Nat)=>(eqB (A0 k0) true=true→eqB (A0 k0) true=true);let A10:=(↑w.2.length:Int);let A11:=(isGone gs gc sheet c);w.2.length≤maxLen→(0=(↑(0:Nat):Int)∧A10=A10∧A3∧0=(↑(manyTo w.2 sheet c A11 (0:Nat)):Int)∧sheet=sheet∧c=c∧A4∧A5∧A6∧gs=gs∧gc=gc)∧∀ (k0:Nat),k0≤List.length (Work.plan w)→(decide ((↑k0:Int)<(↑w.2.length:Int))=true→(0≤(↑k0:Int)∧(↑k0:Int)<A10)∧(A7 k0)∧(A7 k0)∧(A7 k0)∧(((nth w.2 k0).1==c)=false→eqB ((nth w.2 k0).1==c) false=true)∧(A9 k0)∧(A9 k0)∧(A9 k0)∧((A2 k0)=true→(A2 k0)=true)∧((A2 k0)=true→(A2 k0)=true)∧((A2 k0)=true→(A2 k0)=true)∧((A2 k0)=true→(A2 k0)=true)∧(A9 k0)∧(eqB (A0 k0) true=true→decide ((↑k0:Int)≤sheet)=false→(A2 k0)=true)∧((A0 k0)=true→eqB (A0 k0) true=true)∧((bif bif (nth w.2 k0).1==c then true else (nth w.2 k0).2==c then bif decide ((↑k0:Int)≤sheet) then true else bif false then !eqL [gs,gc] [sheet,c] else eqL [gs,gc] [sheet,c] else false)=true→inRange IntKind.i64 ((A1 k0)+1)∧inRange IntKind.i64 ((↑k0:Int)+1)∧k0<List.length (Work.plan w)∧(↑k0:Int)+1=(↑(k0+1):Int)∧A10=A10∧A3∧(A1 k0)+1=(↑(manyTo w.2 sheet c A11 (k0+1)):Int)∧sheet=sheet∧c=c∧A4∧A5∧A6∧gs=gs∧gc=gc)∧((bif bif (nth w.2 k0).1==c then true else (nth w.2 k0).2==c then bif decide ((↑k0:Int)≤sheet) then true else bif false then !eqL [gs,gc] [sheet,c] else eqL [gs,gc] [sheet,c] else false)=false→inRange IntKind.i64 ((↑k0:Int)+1)∧k0<List.length (Work.plan w)∧(↑k0:Int)+1=(↑(k0+1):Int)∧A10=A10∧A3∧(A1 k0)=(↑(manyTo w.2 sheet c A11 (k0+1)):Int)∧sheet=sheet∧c=c∧A4∧A5∧A6∧gs=gs∧gc=gc))∧(decide ((↑k0:Int)<(↑w.2.length:Int))=false→((bif false then !eqL [gs,gc] [sheet,c] else eqL [gs,gc] [sheet,c])=true→inRange IntKind.i64 ((A1 k0)+1)∧((0:Int)≤c∧c<(↑t.1.length:Int))∧inRange IntKind.i64 ((2:Int)*nth t.1 A8)∧((0:Int)≤c∧c<(↑t.2.length:Int))∧inRange IntKind.i64 (((A1 k0)+1)*nth t.2 A8)∧inRange IntKind.i64 ((2:Int)*nth t.1 A8+((A1 k0)+1)*nth t.2 A8)∧(2:Int)*nth t.1 A8+((A1 k0)+1)*nth t.2 A8=home w.2 t sheet c A11)∧((bif false then !eqL [gs,gc] [sheet,c] else eqL [gs,gc] [sheet,c])=false→((0:Int)≤c∧c<(↑t.1.length:Int))∧inRange IntKind.i64 ((2:Int)*nth t.1 A8)∧((0:Int)≤c∧c<(↑t.2.length:Int))∧inRange IntKind.i64 ((A1 k0)*nth t.2 A8)∧inRange IntKind.i64 ((2:Int)*nth t.1 A8+(A1 k0)*nth t.2 A8)∧(2:Int)*nth t.1 A8+(A1 k0)*nth t.2 A8=home w.2 t sheet c A11))) (by kernel_rfl) ?_
 simp only [stdS, imp_self, implies_true, and_true, decide_eq_true_eq, decide_eq_false_iff_not, maxLen_eq, rng_iff]
 obtain ⟨s1, s2, s3⟩ := hs
 have bp := s1 c.toNat
 have bs := s2 c.toNat
 generalize hG : isGone gs gc sheet c = lost
 have hG' : (bif false then !eqL [gs, gc] [sheet, c] else eqL [gs, gc] [sheet, c]) = lost := hG
 rw [hG']
 refine fun _ => ⟨⟨rfl, trivial⟩, fun k hk => ⟨fun hl => ?_, fun hl => ?_⟩⟩
 ·have hle := manyTo_le (plan := w.plan) (sheet := sheet) (c := c) (lost := lost) k
  refine ⟨⟨by omega, hl⟩, fun h1 h2 => by rw [h1, decide_eq_false h2]; rfl, fun h => ?_, fun h => ?_⟩
  ·have hc : counts (nth w.plan k) k sheet c lost = true := h
   refine ⟨by omega, by omega, by omega, by omega, ?_, trivial⟩
   rw [manyTo, hc]; rfl
  ·have hc : counts (nth w.plan k) k sheet c lost = false := h
   refine ⟨by omega, by omega, by omega, ?_, trivial⟩
   rw [manyTo, hc]; rfl
 ·have hke : k = w.plan.length := by omega
  subst hke
  have hle := manyTo_le (plan := w.plan) (sheet := sheet) (c := c) (lost := lost) w.plan.length
  generalize hq : manyTo w.plan sheet c lost w.plan.length = q at hle
  have e1 : home w.plan t sheet c lost = 2 * nth t.post c.toNat + ((q + bif lost then 1 else 0 : Nat) : Int) * nth t.sheet c.toNat := by unfold home many; rw [hq]
  rw [e1]
  generalize nth t.post c.toNat = p at *
  generalize nth t.sheet c.toNat = s at *
  have m1 : 0 ≤ ((q : Int) + 1) * s := Int.mul_nonneg (by omega) bs.1
  have m2 : ((q : Int) + 1) * s ≤ 1001 * 1000 := Int.mul_le_mul (by omega) bs.2 bs.1 (by omega)
  have m3 : 0 ≤ (q : Int) * s := Int.mul_nonneg (by omega) bs.1
  have m4 : (q : Int) * s ≤ 1001 * 1000 := Int.mul_le_mul (by omega) bs.2 bs.1 (by omega)
  refine ⟨fun h => ⟨by omega, hc1, by omega, hc2, by omega, by omega, ?_⟩, fun h => ⟨hc1, by omega, hc2, by omega, by omega, ?_⟩⟩
  ·rw [h]; simp
  ·rw [h]; simp
end Go.Vc.Gd
namespace Go.Vc.Gd
open Go Go.Proofs Go.Vc
variable {Gl : World → Prop}
def upIdx {α : Type} [Inhabited α] (p : α → Bool) (l : List α) : Nat := upto (fun x => !p x) l
def idxI {α : Type} [Inhabited α] (p : α → Bool) (l : List α) : Int := bif l.all (fun x => !p x) then -1 else upIdx p l
theorem idxI_spec {α : Type} [Inhabited α] (p : α → Bool) (l : List α) : decide (0 ≤ idxI p l) = !l.all (fun x => !p x) := by
 unfold idxI
 cases l.all (fun x => !p x) with
 | true => rfl
 | false =>
  simp only [cond_false]
  exact decide_eq_true (Int.natCast_nonneg _)
theorem idx_loop {α : Type} [Inhabited α] (p : α → Bool) (l : List α) (C : Nat → Prop) (hC : ∀ k, k < l.length → C k) : l.length ≤ 9223372036854775807 → ∀ k : Nat, k ≤ upIdx p l →
  ((k : Int) < (l.length : Int) → (0 ≤ (k : Int) ∧ (k : Int) < (l.length : Int)) ∧ C k ∧ (p (nth l k) = true → (k : Int) = idxI p l) ∧
   (p (nth l k) = false → (-9223372036854775808 ≤ (k : Int) + 1 ∧ (k : Int) + 1 ≤ 9223372036854775807) ∧ k < upIdx p l ∧ (k : Int) + 1 = ((k + 1 : Nat) : Int) ∧ True)) ∧
  (¬ (k : Int) < (l.length : Int) → -1 = idxI p l) := by
 intro hm k hk
 refine ⟨fun hl => ⟨by omega, hC k (by omega), fun h => ?_, fun h => ⟨by omega, upto_lt hk (by omega) (by rw [h]; rfl), by omega, trivial⟩⟩, fun hl => ?_⟩
 ·have ha : l.all (fun x => !p x) = false := upto_some (p := fun x => !p x) (k := k) (by omega) (by rw [h]; rfl)
  have he : upIdx p l = k := by
   rcases Nat.lt_or_ge k (upIdx p l) with h2 | h2
   ·have := upto_before (p := fun x => !p x) h2
    rw [h] at this
    cases this
   ·omega
  unfold idxI
  rw [ha, he]
  rfl
 ·have ha : l.all (fun x => !p x) = true := upto_all (by unfold upIdx at hk; omega)
  unfold idxI
  rw [ha]
  rfl
theorem idx165 (S : Set Tryz.prog Y Gl) (l : List Comp) (f : FuncId) (p : Comp → Bool) (hf : ∀ i, i < l.length → Computes Tryz.prog Gl f [tComp (nth l i)] (.ret (B (p (nth l i))))) : Computes Tryz.prog Gl 165 [L eComp l, .fn f [] []] (.ret (I (idxI p l))) := by
 refine fn_is S (.loop (upIdx p l) (fun k=>[v 8 (I ↑k),v 7 (I ↑l.length),v 0 (L eComp l),v 1 (T.fn f [] [])]) fun k0=>.br (.r (.ret (B (p (nth l k0)))) (.br .nil .nil)) .nil) Tryz.func165 (by kernel_rfl) (l.length≤maxLen→(0=(↑(0:Nat):Int)∧(↑l.length:Int)=(↑l.length:Int)∧(SEq l.length (fun i=>eComp (nth l i)) l.length fun i=>eComp (nth l i))∧f=f)∧∀ (k0:Nat),k0≤upIdx p l→(decide ((↑k0:Int)<(↑l.length:Int))=true→(0≤(↑k0:Int)∧(↑k0:Int)<(↑l.length:Int))∧Computes Tryz.prog Gl f [tComp (nth l k0)] (.ret (B (p (nth l k0))))∧(p (nth l k0)=true→(↑k0:Int)=idxI p l)∧(p (nth l k0)=false→inRange IntKind.i64 ((↑k0:Int)+1)∧k0<upIdx p l∧(↑k0:Int)+1=(↑(k0+1):Int)∧(↑l.length:Int)=(↑l.length:Int)∧(SEq l.length (fun i=>eComp (nth l i)) l.length fun i=>eComp (nth l i))∧f=f))∧(decide ((↑k0:Int)<(↑l.length:Int))=false→(-1:Int)=idxI p l)) (by kernel_rfl) ?_
 simp only [stdS, imp_self, implies_true, and_true, decide_eq_true_eq, decide_eq_false_iff_not, maxLen_eq, rng_iff]
 exact idx_loop p l _ hf
theorem idx166 (S : Set Tryz.prog Y Gl) (l : List Int) (f : FuncId) (p : Int → Bool) (hf : ∀ i, i < l.length → Computes Tryz.prog Gl f [I (nth l i)] (.ret (B (p (nth l i))))) : Computes Tryz.prog Gl 166 [L eI l, .fn f [] []] (.ret (I (idxI p l))) := by
 refine fn_is S (.loop (upIdx p l) (fun k=>[v 8 (I ↑k),v 7 (I ↑l.length),v 0 (L eI l),v 1 (T.fn f [] [])]) fun k0=>.br (.r (.ret (B (p (nth l k0)))) (.br .nil .nil)) .nil) Tryz.func166 (by kernel_rfl) (l.length≤maxLen→(0=(↑(0:Nat):Int)∧(↑l.length:Int)=(↑l.length:Int)∧(SEq l.length (fun i=>eI (nth l i)) l.length fun i=>eI (nth l i))∧f=f)∧∀ (k0:Nat),k0≤upIdx p l→(decide ((↑k0:Int)<(↑l.length:Int))=true→(0≤(↑k0:Int)∧(↑k0:Int)<(↑l.length:Int))∧Computes Tryz.prog Gl f [I (nth l k0)] (.ret (B (p (nth l k0))))∧(p (nth l k0)=true→(↑k0:Int)=idxI p l)∧(p (nth l k0)=false→inRange IntKind.i64 ((↑k0:Int)+1)∧k0<upIdx p l∧(↑k0:Int)+1=(↑(k0+1):Int)∧(↑l.length:Int)=(↑l.length:Int)∧(SEq l.length (fun i=>eI (nth l i)) l.length fun i=>eI (nth l i))∧f=f))∧(decide ((↑k0:Int)<(↑l.length:Int))=false→(-1:Int)=idxI p l)) (by kernel_rfl) ?_
 simp only [stdS, imp_self, implies_true, and_true, decide_eq_true_eq, decide_eq_false_iff_not, maxLen_eq, rng_iff]
 exact idx_loop p l _ hf
theorem idx166c (S : Set Tryz.prog Y Gl) (l : List Int) (f : FuncId) (d : Book) (p : Int → Bool) (hf : ∀ i, i < l.length → Computes Tryz.prog Gl f [I (nth l i), .d (.rd (cBook d))] (.ret (B (p (nth l i))))) : Computes Tryz.prog Gl 166 [L eI l, .fn f [] [.d (.rd (cBook d))]] (.ret (I (idxI p l))) := by
 refine fn_is S (.loop (upIdx p l) (fun k=>[v 8 (I ↑k),v 7 (I ↑l.length),v 0 (L eI l),v 1 (T.fn f [] [T.d (D.rd (cBook d))])]) fun k0=>.br (.r (.ret (B (p (nth l k0)))) (.br .nil .nil)) .nil) Tryz.func166 (by kernel_rfl) (l.length≤maxLen→(0=(↑(0:Nat):Int)∧(↑l.length:Int)=(↑l.length:Int)∧(SEq l.length (fun i=>eI (nth l i)) l.length fun i=>eI (nth l i))∧f=f∧(SEq d.1.length (fun i=>eComp (nth d.1 i)) d.1.length fun i=>eComp (nth d.1 i))∧(SEq d.2.length (fun i=>eI (nth d.2 i)) d.2.length fun i=>eI (nth d.2 i))∧SEq d.3.length (fun i=>eI (nth d.3 i)) d.3.length fun i=>eI (nth d.3 i))∧∀ (k0:Nat),k0≤upIdx p l→(decide ((↑k0:Int)<(↑l.length:Int))=true→(0≤(↑k0:Int)∧(↑k0:Int)<(↑l.length:Int))∧Computes Tryz.prog Gl f [I (nth l k0),T.d (D.rd (cBook d))] (.ret (B (p (nth l k0))))∧(p (nth l k0)=true→(↑k0:Int)=idxI p l)∧(p (nth l k0)=false→inRange IntKind.i64 ((↑k0:Int)+1)∧k0<upIdx p l∧(↑k0:Int)+1=(↑(k0+1):Int)∧(↑l.length:Int)=(↑l.length:Int)∧(SEq l.length (fun i=>eI (nth l i)) l.length fun i=>eI (nth l i))∧f=f∧(SEq d.1.length (fun i=>eComp (nth d.1 i)) d.1.length fun i=>eComp (nth d.1 i))∧(SEq d.2.length (fun i=>eI (nth d.2 i)) d.2.length fun i=>eI (nth d.2 i))∧SEq d.3.length (fun i=>eI (nth d.3 i)) d.3.length fun i=>eI (nth d.3 i)))∧(decide ((↑k0:Int)<(↑l.length:Int))=false→(-1:Int)=idxI p l)) (by kernel_rfl) ?_
 simp only [stdS, imp_self, implies_true, and_true, decide_eq_true_eq, decide_eq_false_iff_not, maxLen_eq, rng_iff]
 exact idx_loop p l _ hf
theorem idx119 (S : Set Tryz.prog Y Gl) (l : List Task) (f : FuncId) (n : Int) (p : Task → Bool) (hf : ∀ i, i < l.length → Computes Tryz.prog Gl f [tTask (nth l i), .d (.rd [Ci n])] (.ret (B (p (nth l i))))) : Computes Tryz.prog Gl 119 [L eTask l, .fn f [] [.d (.rd [Ci n])]] (.ret (I (idxI p l))) := by
 refine fn_is S (.loop (upIdx p l) (fun k=>[v 8 (I ↑k),v 7 (I ↑l.length),v 0 (L eTask l),v 1 (T.fn f [] [T.d (D.rd [Ci n])])]) fun k0=>.br (.r (.ret (B (p (nth l k0)))) (.br .nil .nil)) .nil) Tryz.func119 (by kernel_rfl) (l.length≤maxLen→(0=(↑(0:Nat):Int)∧(↑l.length:Int)=(↑l.length:Int)∧(SEq l.length (fun i=>eTask (nth l i)) l.length fun i=>eTask (nth l i))∧f=f∧n=n)∧∀ (k0:Nat),k0≤upIdx p l→(decide ((↑k0:Int)<(↑l.length:Int))=true→(0≤(↑k0:Int)∧(↑k0:Int)<(↑l.length:Int))∧Computes Tryz.prog Gl f [tTask (nth l k0),T.d (D.rd [Ci n])] (.ret (B (p (nth l k0))))∧(p (nth l k0)=true→(↑k0:Int)=idxI p l)∧(p (nth l k0)=false→inRange IntKind.i64 ((↑k0:Int)+1)∧k0<upIdx p l∧(↑k0:Int)+1=(↑(k0+1):Int)∧(↑l.length:Int)=(↑l.length:Int)∧(SEq l.length (fun i=>eTask (nth l i)) l.length fun i=>eTask (nth l i))∧f=f∧n=n))∧(decide ((↑k0:Int)<(↑l.length:Int))=false→(-1:Int)=idxI p l)) (by kernel_rfl) ?_
 simp only [stdS, imp_self, implies_true, and_true, decide_eq_true_eq, decide_eq_false_iff_not, maxLen_eq, rng_iff]
 exact idx_loop p l _ hf
theorem has147 (S : Set Tryz.prog Y Gl) (l : List Comp) (f : FuncId) (p : Comp → Bool) (hf : ∀ i, i < l.length → Computes Tryz.prog Gl f [tComp (nth l i)] (.ret (B (p (nth l i))))) : Computes Tryz.prog Gl 147 [L eComp l, .fn f [] []] (.ret (B (!l.all (fun x => !p x)))) := by
 refine fn_is S (.r (.ret (I (idxI p l))) .nil) Tryz.func147 (by kernel_rfl) (Computes Tryz.prog Gl 165 [L eComp l,T.fn f [] []] (.ret (I (idxI p l)))∧decide ((0:Int)≤idxI p l)=!List.all l fun x=>!p x) (by kernel_rfl) ?_
 exact ⟨idx165 S l f p hf, idxI_spec p l⟩
theorem has148 (S : Set Tryz.prog Y Gl) (l : List Int) (f : FuncId) (p : Int → Bool) (hf : ∀ i, i < l.length → Computes Tryz.prog Gl f [I (nth l i)] (.ret (B (p (nth l i))))) : Computes Tryz.prog Gl 148 [L eI l, .fn f [] []] (.ret (B (!l.all (fun x => !p x)))) := by
 refine fn_is S (.r (.ret (I (idxI p l))) .nil) Tryz.func148 (by kernel_rfl) (Computes Tryz.prog Gl 166 [L eI l,T.fn f [] []] (.ret (I (idxI p l)))∧decide ((0:Int)≤idxI p l)=!List.all l fun x=>!p x) (by kernel_rfl) ?_
 exact ⟨idx166 S l f p hf, idxI_spec p l⟩
theorem has148c (S : Set Tryz.prog Y Gl) (l : List Int) (f : FuncId) (d : Book) (p : Int → Bool) (hf : ∀ i, i < l.length → Computes Tryz.prog Gl f [I (nth l i), .d (.rd (cBook d))] (.ret (B (p (nth l i))))) : Computes Tryz.prog Gl 148 [L eI l, .fn f [] [.d (.rd (cBook d))]] (.ret (B (!l.all (fun x => !p x)))) := by
 refine fn_is S (.r (.ret (I (idxI p l))) .nil) Tryz.func148 (by kernel_rfl) (Computes Tryz.prog Gl 166 [L eI l,T.fn f [] [T.d (D.rd (cBook d))]] (.ret (I (idxI p l)))∧decide ((0:Int)≤idxI p l)=!List.all l fun x=>!p x) (by kernel_rfl) ?_
 exact ⟨idx166c S l f d p hf, idxI_spec p l⟩
theorem has89 (S : Set Tryz.prog Y Gl) (l : List Task) (f : FuncId) (n : Int) (p : Task → Bool) (hf : ∀ i, i < l.length → Computes Tryz.prog Gl f [tTask (nth l i), .d (.rd [Ci n])] (.ret (B (p (nth l i))))) : Computes Tryz.prog Gl 89 [L eTask l, .fn f [] [.d (.rd [Ci n])]] (.ret (B (!l.all (fun x => !p x)))) := by
 refine fn_is S (.r (.ret (I (idxI p l))) .nil) Tryz.func89 (by kernel_rfl) (Computes Tryz.prog Gl 119 [L eTask l,T.fn f [] [T.d (D.rd [Ci n])]] (.ret (I (idxI p l)))∧decide ((0:Int)≤idxI p l)=!List.all l fun x=>!p x) (by kernel_rfl) ?_
 exact ⟨idx119 S l f n p hf, idxI_spec p l⟩
theorem late145 (S : Set Tryz.prog Y Gl) (n : Int) : Computes Tryz.prog Gl 145 [I n] (.ret (B (!inR n 0 99))) := by
 refine fn_is S (.r (.ret (B (inR n (0:Int) (99:Int)))) .nil) Tryz.func145 (by kernel_rfl) (Computes Tryz.prog Gl 91 [I n,I 0,I 99] (.ret (B (inR n (0:Int) (99:Int))))∧(!inR n (0:Int) (99:Int))=!inR n (0:Int) (99:Int)) (by kernel_rfl) ?_
 exact ⟨in91 S n 0 99, rfl⟩
theorem none146 (S : Set Tryz.prog Y Gl) (b : Book) (n : Int) : Computes Tryz.prog Gl 146 [I n, .d (.rd (cBook b))] (.ret (B (!b.isTable n))) := by
 refine fn_is S (.r (.ret (B (inR n (0:Int) ((↑b.2.length:Int)-1)))) .nil) Tryz.func146 (by kernel_rfl) (b.2.length≤maxLen→inRange IntKind.i64 ((↑b.2.length:Int)-1)∧Computes Tryz.prog Gl 91 [I n,I 0,I ((↑b.2.length:Int)-1)] (.ret (B (inR n (0:Int) ((↑b.2.length:Int)-1))))∧(!inR n (0:Int) ((↑b.2.length:Int)-1))=!Book.isTable b n) (by kernel_rfl) ?_
 intro h
 rw [maxLen_eq] at h
 exact ⟨(rng_iff _).2 (by omega), in91 S _ _ _, rfl⟩
def Book.isBook (b : Book) : Bool :=
 !(b.comps.length == 0) && (b.comps.all Comp.fine && (inR b.dues.length 1 2 && (inR b.sheets.length 1 3 && (b.dues.all (fun n => inR n 0 99) && b.sheets.all b.isTable))))
theorem fine_ok (b : Book) : (b.isBook && decide ((b.comps.length : Int) ≤ 4)) = b.ok := by
 unfold Book.isBook Book.ok
 have : inR b.comps.length 1 4 = (!(b.comps.length == 0) && decide ((b.comps.length : Int) ≤ 4)) := by
  rw [Bool.eq_iff_iff]
  simp only [inR_iff, Bool.and_eq_true, Bool.not_eq_eq_eq_not, Bool.not_true, beq_eq_false_iff_ne, decide_eq_true_eq]
  omega
 rw [this]
 cases !(b.comps.length == 0) <;> cases b.comps.all Comp.fine <;> cases inR b.dues.length 1 2 <;> cases inR b.sheets.length 1 3 <;> cases b.dues.all (fun n => inR n 0 99) <;> cases b.sheets.all b.isTable <;> cases decide ((b.comps.length : Int) ≤ 4) <;> rfl
theorem isBook120 (S : Set Tryz.prog Y Gl) (b : Book) : Computes Tryz.prog Gl 120 [tBook b] (.ret (B b.isBook)) := by
 refine fn_is S (.r (.ret (B !List.all (Book.comps b) fun x=>!!Comp.fine x)) (.br .nil (.r (.ret (B (inR (↑b.2.length:Int) (1:Int) (2:Int)))) (.r (.ret (B (inR (↑b.3.length:Int) (1:Int) (3:Int)))) (.r (.ret (B !List.all (Book.dues b) fun x=>!!inR x (0:Int) (99:Int))) (.r (.ret (B !List.all (Book.sheets b) fun x=>!!Book.isTable b x)) .nil)))))) Tryz.func120 (by kernel_rfl) (let A0:=(bif bif inR (↑b.2.length:Int) (1:Int) (2:Int) then inR (↑b.3.length:Int) (1:Int) (3:Int) else false then !!List.all b.2 fun x=>!!inR x (0:Int) (99:Int) else false);let A1:=(bif inR (↑b.2.length:Int) (1:Int) (2:Int) then inR (↑b.3.length:Int) (1:Int) (3:Int) else false);let A2:=(inR (↑b.2.length:Int) (1:Int) (2:Int));let A3:=((↑b.1.length:Int)==0);let A4:=(eqB A1 true=true→eqB A1 true=true);let A5:=(eqB A0 true=true→eqB A0 true=true);let A6:=(eqB A3 false=true→eqB A3 false=true);let A7:=(eqB A2 true=true→eqB A2 true=true);b.1.length≤maxLen→A6∧A6∧A6∧(eqB A3 false=true→Computes Tryz.prog Gl 147 [L eComp (Book.comps b),T.fn (143:FuncId) [] []] (.ret (B !List.all (Book.comps b) fun x=>!!Comp.fine x)))∧(A3=false→eqB A3 false=true)∧((bif (↑b.1.length:Int)==0 then true else !List.all b.1 fun x=>!!Comp.fine x)=true→false=Book.isBook b)∧((bif (↑b.1.length:Int)==0 then true else !List.all b.1 fun x=>!!Comp.fine x)=false→b.2.length≤maxLen→Computes Tryz.prog Gl 91 [I ↑b.2.length,I 1,I 2] (.ret (B A2))∧A7∧A7∧((eqB A2 true=true→b.3.length≤maxLen)→A7∧(eqB A2 true=true→Computes Tryz.prog Gl 91 [I ↑b.3.length,I 1,I 3] (.ret (B (inR (↑b.3.length:Int) (1:Int) (3:Int)))))∧(inR (↑b.2.length:Int) (1:Int) (2:Int)=true→eqB A2 true=true)∧A4∧A4∧A4∧(eqB A1 true=true→Computes Tryz.prog Gl 148 [L eI (Book.dues b),T.fn (145:FuncId) [] []] (.ret (B !List.all (Book.dues b) fun x=>!!inR x (0:Int) (99:Int))))∧A4∧(A1=true→eqB A1 true=true)∧A5∧A5∧A5∧(eqB A0 true=true→Computes Tryz.prog Gl 148 [L eI (Book.sheets b),T.fn (146:FuncId) [] [T.d (D.rd (cBook b))]] (.ret (B !List.all (Book.sheets b) fun x=>!!Book.isTable b x)))∧A5∧(A0=true→eqB A0 true=true)∧(bif bif bif inR (↑b.2.length:Int) (1:Int) (2:Int) then inR (↑b.3.length:Int) (1:Int) (3:Int) else false then !!List.all b.2 fun x=>!!inR x (0:Int) (99:Int) else false then !!List.all b.3 fun x=>!!Book.isTable b x else false)=Book.isBook b))) (by kernel_rfl) ?_
 have h1 := has147 S b.comps 143 (fun c => !c.fine) (fun i _ => bad143 S _)
 have h2 := has148 S b.dues 145 (fun n => !inR n 0 99) (fun i _ => late145 S _)
 have h3 := has148c S b.sheets 146 b (fun n => !b.isTable n) (fun i _ => none146 S b _)
 simp only [stdS, imp_self, implies_true, and_true, in91 S, h1, h2, h3, decide_eq_true_eq, decide_eq_false_iff_not, maxLen_eq, rng_iff]
 simp only [Bool.not_not]
 have hc : ((b.comps.length : Int) == 0) = (b.comps.length == 0) := by
  rw [Bool.eq_iff_iff]
  simp only [beq_iff_eq]
  omega
 rw [hc]
 unfold Book.isBook
 refine fun _ => ⟨fun h => ?_, fun h _ _ => ?_⟩
 ·revert h
  cases (b.comps.length == 0) <;> cases b.comps.all Comp.fine <;> simp
 ·revert h
  cases (b.comps.length == 0) <;> cases b.comps.all Comp.fine <;> simp
theorem fine94 (S : Set Tryz.prog Y Gl) (b : Book) : Computes Tryz.prog Gl 94 [tBook b] (.ret (B b.ok)) := by
 refine fn_is S (.r (.ret (B (Book.isBook b))) .nil) Tryz.func94 (by kernel_rfl) (Computes Tryz.prog Gl 120 [tBook b] (.ret (B (Book.isBook b)))∧(eqB (Book.isBook b) true=true→eqB (Book.isBook b) true=true)∧(eqB (Book.isBook b) true=true→eqB (Book.isBook b) true=true)∧((eqB (Book.isBook b) true=true→b.1.length≤maxLen)→(eqB (Book.isBook b) true=true→eqB (Book.isBook b) true=true)∧(Book.isBook b=true→eqB (Book.isBook b) true=true)∧(bif Book.isBook b then decide ((↑b.1.length:Int)≤4) else false)=Book.ok b)) (by kernel_rfl) ?_
 simp only [stdS, imp_self, implies_true, and_true, isBook120 S, decide_eq_true_eq, decide_eq_false_iff_not, maxLen_eq, rng_iff]
 intro _
 exact fine_ok b
end Go.Vc.Gd
namespace Go.Vc.Gd
open Go Go.Proofs Go.Vc
variable {Gl : World → Prop}
def usedTo (plan : List Task) (k : Nat) (x : List Int) : Bool := (List.range k).any fun i => [(nth plan i).third] == x
def freeOf (plan : List Task) (t : Truth) (lost c : Int) (k : Nat) (x : List Int) : List C := [Ci (nth (freeTo plan t lost c k) (x.headD 0).toNat)]
theorem lastPair (S : Set Tryz.prog Y Gl) (a b : Int) (ha : 0 ≤ a) (hb : 0 ≤ b) : Computes Tryz.prog Gl 116 [.d (.c (.s .n 2 fun i => [[Ci a], [Ci b]].getD i []))] (.ret (I (max a b))) := by
 have h := last116 S [a, b]
 have e : lastL [a, b] [a, b].length = max a b := by
  show max (max 0 a) b = max a b
  omega
 rw [e] at h
 refine Computes.args h (show SEq 2 (fun i => [[Ci a], [Ci b]].getD i []) 2 (fun i => eI (nth [a, b] i)) from .of ⟨rfl, fun i hi => ?_⟩)
 match i, hi with
 | 0, _ => rfl
 | 1, _ => rfl
theorem isGone_eq (gs gc s c : Int) : isGone gs gc s c = (s == gs && c == gc) := by
 unfold isGone
 rw [Bool.and_true, BEq.comm (a := gs), BEq.comm (a := gc)]
theorem usedTo_succ (plan : List Task) (k : Nat) (x : List Int) : usedTo plan (k + 1) x = (usedTo plan k x || [(nth plan k).third] == x) := by
 unfold usedTo
 rw [List.range_succ, List.any_append]
 simp
theorem used_third {plan : List Task} : ∀ {k : Nat} {x : List Int}, usedTo plan k x = true → ∃ i, i < k ∧ x = [(nth plan i).third] := by
 intro k x h
 unfold usedTo at h
 obtain ⟨i, hi, he⟩ := List.any_eq_true.1 h
 exact ⟨i, List.mem_range.1 hi, (by simpa using he : [(nth plan i).third] = x).symm⟩
theorem free_unused {plan : List Task} {t : Truth} {lost c x : Int} (hx : 0 ≤ x) : ∀ {k : Nat}, (∀ i, i < k → 0 ≤ (nth plan i).third) → usedTo plan k [x] = false → nth (freeTo plan t lost c k) x.toNat = 0
 | 0, _, _ => by
  unfold freeTo nth
  rw [List.getD_eq_getElem?_getD, List.getElem?_replicate]
  split <;> simp [default]
 | k + 1, h, hu => by
  rw [usedTo_succ, Bool.or_eq_false_iff] at hu
  have h3 := h k (by omega)
  have hne : (nth plan k).third ≠ x := by simpa using hu.2
  unfold freeTo
  rw [nth_set, if_neg (by omega)]
  exact free_unused hx (fun i hi => h i (by omega)) hu.1
theorem days83 (S : Set Tryz.prog Y Gl) (w : Work) (t : Truth) (gs gc : Int) (hs : small t) (hp : w.plan.length ≤ 1000) (n : Nat) (hn : n ≤ 1000) (hf : t.fits n) (ht : tasksIn w.plan n) : Computes Tryz.prog Gl 83 [tWork w, tTruth t, tLost gs gc] (.ret (L eI (days w.plan t gs gc))) := by
 refine fn_is S (.loop (List.length (Work.plan w)) (fun k=>v 17 (I ↑k)::v 16 (I (↑(List.length (Work.plan w)):Int))::v 15 (L eTask (Work.plan w))::tk 100 3::v 8 (Lt 100 eI (List.take k (days (Work.plan w) t gs gc)))::v 7 (T.mp (13:Nat))::((2:Nat),(13:Nat),T.mapc false (0:Nat) false (usedTo (Work.plan w) k) (freeOf (Work.plan w) t gs gc k))::v 5 (ad 5)::v 4 (ad 4)::v 3 (ad 3)::(bx 5 [Ci gs,Ci gc] ++ bx 4 (cTruth t) ++ bx 3 (cWork w))) fun k0=>.br (.r (.ret (I (home (Work.plan w) t (↑k0:Int) (nth w.2 k0).1 (isGone gs gc (↑k0:Int) (nth w.2 k0).1)))) (.r (.ret (I (home (Work.plan w) t (↑k0:Int) (nth w.2 k0).2 (isGone gs gc (↑k0:Int) (nth w.2 k0).2)))) (.r (.ret (I (max (home w.2 t (↑k0:Int) (nth w.2 k0).1 (isGone gs gc (↑k0:Int) (nth w.2 k0).1)) (home w.2 t (↑k0:Int) (nth w.2 k0).2 (isGone gs gc (↑k0:Int) (nth w.2 k0).2))))) (.r (.ret (I (max (max (home w.2 t (↑k0:Int) (nth w.2 k0).1 (isGone gs gc (↑k0:Int) (nth w.2 k0).1)) (home w.2 t (↑k0:Int) (nth w.2 k0).2 (isGone gs gc (↑k0:Int) (nth w.2 k0).2))+nth t.1 (Int.toNat (nth w.2 k0).3)) (nth (freeTo w.2 t gs gc k0) (Int.toNat (List.headD [(nth w.2 k0).3] (0:Int))))))) .nil)))) .nil) Tryz.func83 (by kernel_rfl) (let A0:=fun (k0:Nat)=>(max (home w.2 t (↑k0:Int) (nth w.2 k0).1 (isGone gs gc (↑k0:Int) (nth w.2 k0).1)) (home w.2 t (↑k0:Int) (nth w.2 k0).2 (isGone gs gc (↑k0:Int) (nth w.2 k0).2))+nth t.1 (Int.toNat (nth w.2 k0).3));let A1:=fun (k0:Nat)=>(nth (freeTo w.2 t gs gc k0) (Int.toNat (List.headD [(nth w.2 k0).3] (0:Int))));let A2:=(days w.2 t gs gc);let A3:=fun (k0:Nat)=>(nth w.2 k0);let A4:=(fun i=>eTask (nth w.2 i));let A5:=(↑w.2.length:Int);w.2.length≤maxLen→(0=(↑(0:Nat):Int)∧A5=A5∧(SEq w.2.length A4 w.2.length fun i=>eTask (nth w.2 i))∧(0:Nat)=(0:Nat)∧MEq (fun x=>false) (fun x=>vsC [Value.int IntKind.i64 (0:Int)]) (usedTo w.2 (0:Nat)) (freeOf w.2 t gs gc (0:Nat))∧gs=gs∧gc=gc∧(SEq t.1.length (fun i=>eI (nth t.1 i)) t.1.length fun i=>eI (nth t.1 i))∧(SEq t.2.length (fun i=>eI (nth t.2 i)) t.2.length fun i=>eI (nth t.2 i))∧(SEq t.3.length (fun i=>eI (nth t.3 i)) t.3.length fun i=>eI (nth t.3 i))∧(SEq w.1.1.length (fun i=>eComp (nth w.1.1 i)) w.1.1.length fun i=>eComp (nth w.1.1 i))∧(SEq w.1.2.length (fun i=>eI (nth w.1.2 i)) w.1.2.length fun i=>eI (nth w.1.2 i))∧(SEq w.1.3.length (fun i=>eI (nth w.1.3 i)) w.1.3.length fun i=>eI (nth w.1.3 i))∧SEq w.2.length A4 w.2.length fun i=>eTask (nth w.2 i))∧∀ (k0:Nat),k0≤List.length (Work.plan w)→(decide ((↑k0:Int)<(↑w.2.length:Int))=true→(0≤(↑k0:Int)∧(↑k0:Int)<A5)∧Computes Tryz.prog Gl 117 [tWork w,tTruth t,I ↑k0,I (A3 k0).1,tLost gs gc] (.ret (I (home (Work.plan w) t (↑k0:Int) (A3 k0).1 (isGone gs gc (↑k0:Int) (A3 k0).1))))∧Computes Tryz.prog Gl 117 [tWork w,tTruth t,I ↑k0,I (A3 k0).2,tLost gs gc] (.ret (I (home (Work.plan w) t (↑k0:Int) (A3 k0).2 (isGone gs gc (↑k0:Int) (A3 k0).2))))∧Computes Tryz.prog Gl 116 [T.d (D.c (C.s Tag.n (2:Nat) fun i=>List.getD [[Ci (home w.2 t (↑k0:Int) (A3 k0).1 (isGone gs gc (↑k0:Int) (A3 k0).1))],[Ci (home w.2 t (↑k0:Int) (A3 k0).2 (isGone gs gc (↑k0:Int) (A3 k0).2))]] i []))] (.ret (I (max (home w.2 t (↑k0:Int) (A3 k0).1 (isGone gs gc (↑k0:Int) (A3 k0).1)) (home w.2 t (↑k0:Int) (A3 k0).2 (isGone gs gc (↑k0:Int) (A3 k0).2)))))∧((0:Int)≤(A3 k0).3∧(A3 k0).3<(↑t.1.length:Int))∧inRange IntKind.i64 (A0 k0)∧(usedTo w.2 k0 [(A3 k0).3]=false→[C.v (Value.int IntKind.i64 (A1 k0))]=[C.v (Value.int IntKind.i64 (0:Int))])∧Computes Tryz.prog Gl 116 [T.d (D.c (C.s Tag.n (2:Nat) fun i=>List.getD [[Ci (A0 k0)],[Ci (A1 k0)]] i []))] (.ret (I (max (A0 k0) (A1 k0))))∧((0:Int)≤(A3 k0).3∧(A3 k0).3<(↑t.3.length:Int))∧inRange IntKind.i64 (max (A0 k0) (A1 k0)+nth t.3 (Int.toNat (A3 k0).3))∧((0:Int)≤(A3 k0).3∧(A3 k0).3<(↑t.1.length:Int))∧inRange IntKind.i64 (max (A0 k0) (A1 k0)+nth t.3 (Int.toNat (A3 k0).3)+nth t.1 (Int.toNat (A3 k0).3))∧(List.length (List.take k0 A2)+1)*8≤140737488355328∧List.length (List.take k0 A2)+1≤140737488355328∧inRange IntKind.i64 ((↑k0:Int)+1)∧k0<List.length (Work.plan w)∧(↑k0:Int)+1=(↑(k0+1):Int)∧A5=A5∧(SEq w.2.length A4 w.2.length fun i=>eTask (nth w.2 i))∧(SEq (List.length (List.take k0 A2)+1) (catF (List.length (List.take k0 A2)) (fun i=>eI (nth (List.take k0 A2) i)) fun i=>List.getD [List.map C.dem [C.v (Value.int IntKind.i64 (max (A0 k0) (A1 k0)+nth t.3 (Int.toNat (A3 k0).3)+nth t.1 (Int.toNat (A3 k0).3)))]] i []) (List.length (List.take (k0+1) A2)) fun i=>eI (nth (List.take (k0+1) A2) i))∧MEq (updD (usedTo w.2 k0) [(A3 k0).3]) (updV (freeOf w.2 t gs gc k0) [(A3 k0).3] (List.map C.dem [C.v (Value.int IntKind.i64 (max (A0 k0) (A1 k0)+nth t.3 (Int.toNat (A3 k0).3)))])) (usedTo w.2 (k0+1)) (freeOf w.2 t gs gc (k0+1))∧gs=gs∧gc=gc∧(SEq t.1.length (fun i=>eI (nth t.1 i)) t.1.length fun i=>eI (nth t.1 i))∧(SEq t.2.length (fun i=>eI (nth t.2 i)) t.2.length fun i=>eI (nth t.2 i))∧(SEq t.3.length (fun i=>eI (nth t.3 i)) t.3.length fun i=>eI (nth t.3 i))∧(SEq w.1.1.length (fun i=>eComp (nth w.1.1 i)) w.1.1.length fun i=>eComp (nth w.1.1 i))∧(SEq w.1.2.length (fun i=>eI (nth w.1.2 i)) w.1.2.length fun i=>eI (nth w.1.2 i))∧(SEq w.1.3.length (fun i=>eI (nth w.1.3 i)) w.1.3.length fun i=>eI (nth w.1.3 i))∧SEq w.2.length A4 w.2.length fun i=>eTask (nth w.2 i))∧(decide ((↑k0:Int)<(↑w.2.length:Int))=false→SEq (List.length (List.take k0 A2)) (fun i=>eI (nth (List.take k0 A2) i)) (List.length A2) fun i=>eI (nth A2 i))) (by kernel_rfl) ?_
 simp only [stdS, imp_self, implies_true, and_true, decide_eq_true_eq, decide_eq_false_iff_not, maxLen_eq, rng_iff, isGone_eq]
 obtain ⟨f1, f2, f3⟩ := hf
 have hdl := days_len w.plan t gs gc
 refine fun _ => ⟨⟨fun key => ⟨rfl, fun h => (by cases h)⟩, trivial⟩, fun k hk => ⟨fun hlt => ?_, fun hge => ?_⟩⟩
 ·have hk' : k < w.plan.length := by omega
  obtain ⟨⟨t1, t2⟩, ⟨t3, t4⟩, t5, t6⟩ := ht k hk'
  have a1 := home_rng hs hp k (nth w.plan k).one (k == gs && (nth w.plan k).one == gc)
  have a2 := home_rng hs hp k (nth w.plan k).other (k == gs && (nth w.plan k).other == gc)
  have a3 := hs.1 (nth w.plan k).third.toNat
  have a4 := hs.2.2 (nth w.plan k).third.toNat
  have a5 := freeTo_rng hs hp gs gc k (nth w.plan k).third.toNat
  have hfl := freeTo_len w.plan t gs gc k
  have htk : ((days w.plan t gs gc).take k).length = k := by rw [List.length_take]; omega
  have hd : nth (days w.plan t gs gc) k = dayAt w.plan t gs gc k := by
   unfold days
   rw [nth_map (by rw [List.length_range]; omega), nth_range (by omega)]
  have c1 := home117 S w t k (nth w.plan k).one gs gc hs hp (by omega) (by omega)
  have c2 := home117 S w t k (nth w.plan k).other gs gc hs hp (by omega) (by omega)
  rw [isGone_eq] at c1 c2
  simp only [List.headD_cons]
  refine ⟨by omega, c1, c2, lastPair S _ _ a1.1 a2.1, by omega, by omega, fun hu => ?_, lastPair S _ _ (by omega) a5.1, ?_⟩
  ·rw [free_unused t5 (fun i hi => (ht i (by omega)).2.2.1) hu]
  repeat (refine And.intro (by omega) ?_)
  refine ⟨SEq_push (by omega) (by rw [hd]; rfl), ?_, trivial⟩
  intro key
  refine ⟨?_, fun h => .inl ?_⟩
  ·rw [usedTo_succ]
   unfold updD
   rw [Bool.or_comm]
   congr 1
   rw [Bool.eq_iff_iff, eqK_iff]
   exact ⟨fun h => by rw [h]; simp, fun h => (beq_iff_eq.1 h).symm⟩
  ·unfold updV
   cases he : eqK key [(nth w.plan k).third] with
   | true =>
    have := eqK_iff.1 he
    subst this
    have hfs : freeTo w.plan t gs gc (k + 1) = (freeTo w.plan t gs gc k).set (nth w.plan k).third.toNat (dayDone w.plan t gs gc (freeTo w.plan t gs gc k) k) := rfl
    unfold freeOf
    rw [List.headD_cons, hfs, nth_set, if_pos ⟨rfl, by omega⟩]
    rfl
   | false =>
    unfold updD at h
    rw [he, Bool.false_or] at h
    obtain ⟨i, hi, rfl⟩ := used_third h
    have h5 := (ht i (by omega)).2.2.1
    have hne : (nth w.plan i).third ≠ (nth w.plan k).third := fun hh => by
     have := eqK_iff.2 (congrArg (fun x => [x]) hh)
     rw [this] at he; cases he
    unfold freeOf
    rw [freeTo, nth_set, if_neg (fun hh => by have := hh.1; simp only [List.headD_cons] at this; omega)]
    rfl
 ·exact SEq_whole (by rw [List.take_of_length_le (by omega)])
theorem spans80 (S : Set Tryz.prog Y Gl) (w : Work) (gs gc : Int) (hb : w.book.ok = true) (hg : w.book.good w.plan = true) : Computes Tryz.prog Gl 80 [tWork w, tLost gs gc] (.ret (L eSpan (spansOf (days w.plan (w.book.ends false) gs gc) (days w.plan (w.book.ends true) gs gc)))) := by
 refine fn_is S (.r (.ret (tTruth (Book.ends (Work.book w) false))) (.r (.ret (L eI (days (Work.plan w) (Book.ends (Work.book w) false) gs gc))) (.r (.ret (tTruth (Book.ends (Work.book w) true))) (.r (.ret (L eI (days (Work.plan w) (Book.ends (Work.book w) true) gs gc))) (.loop (List.length (days (Work.plan w) (Book.ends (Work.book w) false) gs gc)) (fun k=>[v 23 (I ↑k),v 22 (I (↑(List.length (days (Work.plan w) (Book.ends (Work.book w) false) gs gc)):Int)),v 5 (L eI (days (Work.plan w) (Book.ends (Work.book w) false) gs gc)),v 6 (L eI (days (Work.plan w) (Book.ends (Work.book w) true) gs gc)),tk 100 37,v 7 (Lt 100 eSpan (List.take k (spansOf (days (Work.plan w) (Book.ends (Work.book w) false) gs gc) (days (Work.plan w) (Book.ends (Work.book w) true) gs gc))))]) fun k0=>.br .nil .nil))))) Tryz.func80 (by kernel_rfl) (let A0:=(days w.2 (Book.ends w.1 false) gs gc);let A1:=(days w.2 (Book.ends w.1 true) gs gc);let A2:=(spansOf A0 A1);let A3:=(Book.ends (Work.book w) false);let A4:=(List.length A0);Computes Tryz.prog Gl 86 [tBook (Work.book w)] (.ret (tTruth A3))∧Computes Tryz.prog Gl 83 [tWork w,tTruth A3,tLost gs gc] (.ret (L eI (days (Work.plan w) A3 gs gc)))∧Computes Tryz.prog Gl 87 [tBook (Work.book w)] (.ret (tTruth (Book.ends (Work.book w) true)))∧Computes Tryz.prog Gl 83 [tWork w,tTruth (Book.ends (Work.book w) true),tLost gs gc] (.ret (L eI (days (Work.plan w) (Book.ends (Work.book w) true) gs gc)))∧(List.length A0≤maxLen→(0=(↑(0:Nat):Int)∧(↑A4:Int)=(↑A4:Int)∧(SEq A4 (fun i=>eI (nth A0 i)) A4 fun i=>eI (nth A0 i))∧(SEq (List.length A1) (fun i=>eI (nth A1 i)) (List.length A1) fun i=>eI (nth A1 i))∧(0:Nat)=(0:Nat))∧∀ (k0:Nat),k0≤List.length (days (Work.plan w) A3 gs gc)→(decide ((↑k0:Int)<(↑(List.length (days w.2 (Book.ends w.1 false) gs gc)):Int))=true→(0≤(↑k0:Int)∧(↑k0:Int)<(↑A4:Int))∧(0≤(↑k0:Int)∧(↑k0:Int)<(↑(List.length A1):Int))∧(List.length (List.take k0 A2)+1)*16≤140737488355328∧List.length (List.take k0 A2)+1≤140737488355328∧inRange IntKind.i64 ((↑k0:Int)+1)∧k0<List.length (days (Work.plan w) A3 gs gc)∧(↑k0:Int)+1=(↑(k0+1):Int)∧(↑A4:Int)=(↑A4:Int)∧(SEq A4 (fun i=>eI (nth A0 i)) A4 fun i=>eI (nth A0 i))∧(SEq (List.length A1) (fun i=>eI (nth A1 i)) (List.length A1) fun i=>eI (nth A1 i))∧SEq (List.length (List.take k0 A2)+1) (catF (List.length (List.take k0 A2)) (fun i=>eSpan (nth (List.take k0 A2) i)) fun i=>List.getD [List.map C.dem (List.map C.dem [C.v (Value.int IntKind.i64 (nth A0 k0)),C.v (Value.int IntKind.i64 (nth A1 k0))])] i []) (List.length (List.take (k0+1) A2)) fun i=>eSpan (nth (List.take (k0+1) A2) i))∧(decide ((↑k0:Int)<(↑(List.length (days w.2 (Book.ends w.1 false) gs gc)):Int))=false→SEq (List.length (List.take k0 A2)) (fun i=>eSpan (nth (List.take k0 A2) i)) (List.length A2) fun i=>eSpan (nth A2 i)))) (by kernel_rfl) ?_
 obtain ⟨o1, o2, o3, _⟩ := ok_spec hb
 obtain ⟨g1, g2⟩ := good_spec hg
 simp only [stdS, imp_self, implies_true, and_true, decide_eq_true_eq, decide_eq_false_iff_not, maxLen_eq, rng_iff]
 have wd := fun g => days83 S w (w.book.ends g) gs gc (small_ends hb g) (by omega) w.book.comps.length (by omega) (fits_ends w.book g) (good_in hg)
 have w0 := wd false
 have w1 := wd true
 have l0 := days_len w.plan (w.book.ends false) gs gc
 have l1 := days_len w.plan (w.book.ends true) gs gc
 clear wd
 generalize days w.plan (w.book.ends false) gs gc = a at *
 generalize days w.plan (w.book.ends true) gs gc = c at *
 refine ⟨least86 S w.book (by omega), w0, greatest87 S w.book (by omega), w1, fun _ k hk => ⟨fun hlt => ?_, fun hge => ?_⟩⟩
 ·have hsp := spansOf_len a c
  have hn : nth (spansOf a c) k = ⟨nth a k, nth c k⟩ := by
   unfold spansOf
   rw [nth_map (by rw [List.length_range]; omega), nth_range (by omega)]
  have : ((spansOf a c).take k).length ≤ 1000 := by rw [List.length_take]; omega
  exact ⟨by omega, by omega, by omega, by omega, by omega, by omega, by omega, SEq_push (by omega) (by rw [hn]; rfl)⟩
 ·have hsp := spansOf_len a c
  exact SEq_whole (by rw [List.take_of_length_le (by omega)])
theorem last2 (S : Set Tryz.prog Y Gl) (x y : Int) : Computes Tryz.prog Gl 116 [.d (.c (.s .n 2 fun i => [[Ci x], [Ci y]].getD i []))] (.ret (I (max (max 0 x) y))) :=
 (last116 S [x, y]).args (show SEq 2 _ 2 _ from .of ⟨rfl, fun i hi => match i, hi with
  | 0, _ => rfl
  | 1, _ => rfl⟩)
def tabTo (sheets : List Int) (n : Int) (days : List Int) : Nat → Int
 | 0 => 0
 | k + 1 => bif nth sheets k == n then max (max 0 (tabTo sheets n days k)) (nth days k) else tabTo sheets n days k
theorem table88 (S : Set Tryz.prog Y Gl) (w : Work) (n : Int) (days : List Int) (hd : w.book.sheets.length ≤ days.length) : Computes Tryz.prog Gl 88 [tWork w, I n, L eI days] (.ret (I (tabTo w.book.sheets n days w.book.sheets.length))) := by
 refine fn_is S (.loop (List.length (Book.sheets (Work.book w))) (fun k=>[v 14 (I ↑k),v 13 (I (↑(List.length (Book.sheets (Work.book w))):Int)),v 12 (L eI (Book.sheets (Work.book w))),v 7 (I (tabTo (Book.sheets (Work.book w)) n days k)),v 1 (I n),v 2 (L eI days)]) fun k0=>.br (.br (.r (.ret (I (max (max (0:Int) (tabTo w.1.3 n days k0)) (nth days k0)))) .nil) .nil) .nil) Tryz.func88 (by kernel_rfl) (w.1.3.length≤maxLen→(0=(↑(0:Nat):Int)∧(↑w.1.3.length:Int)=(↑w.1.3.length:Int)∧(SEq w.1.3.length (fun i=>eI (nth w.1.3 i)) w.1.3.length fun i=>eI (nth w.1.3 i))∧(0:Int)=tabTo w.1.3 n days (0:Nat)∧n=n∧SEq days.length (fun i=>eI (nth days i)) days.length fun i=>eI (nth days i))∧∀ (k0:Nat),k0≤List.length (Book.sheets (Work.book w))→(decide ((↑k0:Int)<(↑w.1.3.length:Int))=true→(0≤(↑k0:Int)∧(↑k0:Int)<(↑w.1.3.length:Int))∧((nth w.1.3 k0==n)=true→(0≤(↑k0:Int)∧(↑k0:Int)<(↑days.length:Int))∧Computes Tryz.prog Gl 116 [T.d (D.c (C.s Tag.n (2:Nat) fun i=>List.getD [[Ci (tabTo w.1.3 n days k0)],[Ci (nth days k0)]] i []))] (.ret (I (max (max (0:Int) (tabTo w.1.3 n days k0)) (nth days k0))))∧inRange IntKind.i64 ((↑k0:Int)+1)∧k0<List.length (Book.sheets (Work.book w))∧(↑k0:Int)+1=(↑(k0+1):Int)∧(↑w.1.3.length:Int)=(↑w.1.3.length:Int)∧(SEq w.1.3.length (fun i=>eI (nth w.1.3 i)) w.1.3.length fun i=>eI (nth w.1.3 i))∧max (max (0:Int) (tabTo w.1.3 n days k0)) (nth days k0)=tabTo w.1.3 n days (k0+1)∧n=n∧SEq days.length (fun i=>eI (nth days i)) days.length fun i=>eI (nth days i))∧((nth w.1.3 k0==n)=false→inRange IntKind.i64 ((↑k0:Int)+1)∧k0<List.length (Book.sheets (Work.book w))∧(↑k0:Int)+1=(↑(k0+1):Int)∧(↑w.1.3.length:Int)=(↑w.1.3.length:Int)∧(SEq w.1.3.length (fun i=>eI (nth w.1.3 i)) w.1.3.length fun i=>eI (nth w.1.3 i))∧tabTo w.1.3 n days k0=tabTo w.1.3 n days (k0+1)∧n=n∧SEq days.length (fun i=>eI (nth days i)) days.length fun i=>eI (nth days i)))∧(decide ((↑k0:Int)<(↑w.1.3.length:Int))=false→tabTo w.1.3 n days k0=tabTo w.1.3 n days w.1.3.length)) (by kernel_rfl) ?_
 simp only [stdS, imp_self, implies_true, and_true, decide_eq_true_eq, decide_eq_false_iff_not, maxLen_eq, rng_iff]
 refine fun _ => ⟨⟨rfl, trivial⟩, fun k hk => ⟨fun hl => ⟨by omega, fun h => ⟨by omega, last2 S _ _, by omega, by omega, by omega, ?_, trivial⟩, fun h => ⟨by omega, by omega, by omega, ?_, trivial⟩⟩, fun hl => ?_⟩⟩
 ·rw [tabTo, h]; rfl
 ·rw [tabTo, h]; rfl
 ·have hke : k = w.book.sheets.length := by omega
  rw [hke]
theorem idle90 (S : Set Tryz.prog Y Gl) (t : Task) (n : Int) : Computes Tryz.prog Gl 90 [tTask t, .d (.rd [Ci n])] (.ret (B (hand t n || t.third == n))) := by
 refine fn_is S (.nil) Tryz.func90 (by kernel_rfl) ((eqB (t.1==n) false=true→eqB (t.1==n) false=true)∧(eqB (t.1==n) false=true→eqB (t.1==n) false=true)∧(eqB (t.1==n) false=true→eqB (t.1==n) false=true)∧((t.1==n)=false→eqB (t.1==n) false=true)∧(eqB (bif t.1==n then true else t.2==n) false=true→eqB (bif t.1==n then true else t.2==n) false=true)∧(eqB (bif t.1==n then true else t.2==n) false=true→eqB (bif t.1==n then true else t.2==n) false=true)∧(eqB (bif t.1==n then true else t.2==n) false=true→eqB (bif t.1==n then true else t.2==n) false=true)∧((bif t.1==n then true else t.2==n)=false→eqB (bif t.1==n then true else t.2==n) false=true)∧(bif bif t.1==n then true else t.2==n then true else t.3==n)=(hand t n||t.3==n)) (by kernel_rfl) ?_
 simp only [stdS, imp_self, implies_true, and_true, decide_eq_true_eq, decide_eq_false_iff_not, maxLen_eq, rng_iff, hand]
end Go.Vc.Gd
namespace Go.Vc.Gd
open Go Go.Proofs Go.Vc
variable {Gl : World → Prop}
def daysOf (w : Work) : List Int := days w.plan (w.book.ends true) (-1) (-1)
def dueFine (w : Work) (n : Nat) : Bool := !decide (nth w.book.dues n < tabTo w.book.sheets n (daysOf w) w.book.sheets.length)
def Work.surely (w : Work) : Bool := (List.range w.book.dues.length).all (dueFine w)
theorem surely96 (S : Set Tryz.prog Y Gl) (w : Work) (hb : w.book.ok = true) (hg : w.book.good w.plan = true) : Computes Tryz.prog Gl 96 [tWork w] (.ret (B w.surely)) := by
 refine fn_is S (.r (.ret (tTruth (Book.ends (Work.book w) true))) (.r (.ret (tLost (-1:Int) (-1:Int))) (.r (.ret (L eI (days (Work.plan w) (Book.ends (Work.book w) true) (-1:Int) (-1:Int)))) (.loop (upto (dueFine w) (List.range (List.length (Book.dues (Work.book w))))) (fun k=>v 16 (I ↑k)::v 15 (I (↑(List.length (Book.dues (Work.book w))):Int))::v 14 (L eI (Book.dues (Work.book w)))::v 3 (L eI (days (Work.plan w) (Book.ends (Work.book w) true) (-1:Int) (-1:Int)))::v 1 (ad 1)::bx 1 (cWork w)) fun k0=>.br (.r (.ret (I (tabTo (Book.sheets (Work.book w)) (↑k0:Int) (days (Work.plan w) (Book.ends (Work.book w) true) (-1:Int) (-1:Int)) (List.length (Book.sheets (Work.book w)))))) (.br .nil .nil)) .nil)))) Tryz.func96 (by kernel_rfl) (let A0:=(days w.2 (Book.ends w.1 true) (-1:Int) (-1:Int));let A1:=(SEq w.1.2.length (fun i=>eI (nth w.1.2 i)) w.1.2.length fun i=>eI (nth w.1.2 i));let A2:=(days (Work.plan w) (Book.ends (Work.book w) true) (-1:Int) (-1:Int));let A3:=(↑w.1.2.length:Int);let A4:=(Work.book w);Computes Tryz.prog Gl 87 [tBook A4] (.ret (tTruth (Book.ends A4 true)))∧Computes Tryz.prog Gl 81 [] (.ret (tLost (-1:Int) (-1:Int)))∧Computes Tryz.prog Gl 83 [tWork w,tTruth (Book.ends A4 true),tLost (-1:Int) (-1:Int)] (.ret (L eI A2))∧(w.1.2.length≤maxLen→(0=(↑(0:Nat):Int)∧A3=A3∧A1∧(SEq (List.length A0) (fun i=>eI (nth A0 i)) (List.length A0) fun i=>eI (nth A0 i))∧(SEq w.1.1.length (fun i=>eComp (nth w.1.1 i)) w.1.1.length fun i=>eComp (nth w.1.1 i))∧A1∧(SEq w.1.3.length (fun i=>eI (nth w.1.3 i)) w.1.3.length fun i=>eI (nth w.1.3 i))∧SEq w.2.length (fun i=>eTask (nth w.2 i)) w.2.length fun i=>eTask (nth w.2 i))∧∀ (k0:Nat),k0≤upto (dueFine w) (List.range (List.length (Book.dues A4)))→(decide ((↑k0:Int)<(↑w.1.2.length:Int))=true→(0≤(↑k0:Int)∧(↑k0:Int)<A3)∧Computes Tryz.prog Gl 88 [tWork w,I ↑k0,L eI A2] (.ret (I (tabTo (Book.sheets A4) (↑k0:Int) A2 (List.length (Book.sheets A4)))))∧(decide (nth w.1.2 k0<tabTo w.1.3 (↑k0:Int) (days w.2 (Book.ends w.1 true) (-1:Int) (-1:Int)) w.1.3.length)=true→false=Work.surely w)∧(decide (nth w.1.2 k0<tabTo w.1.3 (↑k0:Int) (days w.2 (Book.ends w.1 true) (-1:Int) (-1:Int)) w.1.3.length)=false→inRange IntKind.i64 ((↑k0:Int)+1)∧k0<upto (dueFine w) (List.range (List.length (Book.dues A4)))∧(↑k0:Int)+1=(↑(k0+1):Int)∧A3=A3∧A1∧(SEq (List.length A0) (fun i=>eI (nth A0 i)) (List.length A0) fun i=>eI (nth A0 i))∧(SEq w.1.1.length (fun i=>eComp (nth w.1.1 i)) w.1.1.length fun i=>eComp (nth w.1.1 i))∧A1∧(SEq w.1.3.length (fun i=>eI (nth w.1.3 i)) w.1.3.length fun i=>eI (nth w.1.3 i))∧SEq w.2.length (fun i=>eTask (nth w.2 i)) w.2.length fun i=>eTask (nth w.2 i)))∧(decide ((↑k0:Int)<(↑w.1.2.length:Int))=false→true=Work.surely w))) (by kernel_rfl) ?_
 obtain ⟨o1, o2, o3, _⟩ := ok_spec hb
 obtain ⟨g1, g2⟩ := good_spec hg
 have hd := days_len w.plan (w.book.ends true) (-1) (-1)
 simp only [stdS, imp_self, implies_true, and_true, decide_eq_true_eq, decide_eq_false_iff_not, maxLen_eq, rng_iff]
 refine ⟨greatest87 S w.book (by omega), none81 S, days83 S w (w.book.ends true) _ _ (small_ends hb true) (by omega) w.book.comps.length (by omega) (fits_ends w.book true) (good_in hg), fun _ k hk => ⟨fun hl => ?_, fun hl => ?_⟩⟩
 ·have hr : k < (List.range w.book.dues.length).length := by rw [List.length_range]; omega
  have hn : nth (List.range w.book.dues.length) k = k := nth_range (by omega)
  refine ⟨by omega, table88 S w k _ (by omega), fun h => ?_, fun h => ⟨by omega, upto_lt hk hr ?_, by omega, trivial⟩⟩
  ·have : dueFine w (nth (List.range w.book.dues.length) k) = false := by
    rw [hn]
    unfold dueFine daysOf
    rw [decide_eq_true h]
    rfl
   unfold Work.surely
   rw [upto_some hr this]
  ·rw [hn]
   unfold dueFine daysOf
   rw [decide_eq_false h]
   rfl
 ·unfold Work.surely
  rw [upto_all (by rw [List.length_range]; omega)]
end Go.Vc.Gd
namespace Go.Vc.Gd
open Go Go.Proofs Go.Vc
variable {Gl : World → Prop}
def flatC (a : Comp) : List Int := [a.room, a.post.low, a.post.high, a.sheet.low, a.sheet.high, a.look.low, a.look.high]
def sameComp (a b : Comp) : Bool := eqL (flatC a) (flatC b)
def sameBooks (a b : Book) : Bool := a.comps.length == b.comps.length && (sameL (· == ·) a.dues b.dues && (sameL (· == ·) a.sheets b.sheets && (List.range a.comps.length).all fun i => sameComp (nth a.comps i) (nth b.comps i)))
theorem sameBooks72 (S : Set Tryz.prog Y Gl) (a b : Book) : Computes Tryz.prog Gl 72 [tBook a, tBook b] (.ret (B (sameBooks a b))) := by
 refine fn_is S (.r (.ret (B (sameL (fun x1 x2=>x1==x2) a.2 b.2))) (.r (.ret (B (sameL (fun x1 x2=>x1==x2) a.3 b.3))) (.br .nil (.loop (upto (fun i=>sameComp (nth (Book.comps a) i) (nth (Book.comps b) i)) (List.range (List.length (Book.comps a)))) (fun k=>v 5 (I ↑k)::v 2 (ad 2)::v 3 (ad 3)::(bx 2 (cBook a) ++ bx 3 (cBook b))) fun k0=>.br (.br .nil .nil) .nil)))) Tryz.func72 (by kernel_rfl) (let A0:=(bif (↑a.1.length:Int) != (↑b.1.length:Int) then true else !sameL (fun x1 x2=>x1==x2) a.2 b.2);let A1:=((↑a.1.length:Int) != (↑b.1.length:Int));let A2:=(eqB A1 false=true→eqB A1 false=true);let A3:=(eqB A0 false=true→eqB A0 false=true);let A4:=fun (k0:Nat)=>(nth a.1 k0);let A5:=fun (k0:Nat)=>(nth b.1 k0);let A6:=(fun x1 x2=>x1==x2);a.1.length≤maxLen→b.1.length≤maxLen→A2∧A2∧A2∧A2∧(eqB A1 false=true→Computes Tryz.prog Gl 34 [L eI a.2,L eI b.2] (.ret (B (sameL A6 a.2 b.2))))∧A2∧(A1=false→eqB A1 false=true)∧A3∧A3∧A3∧A3∧(eqB A0 false=true→Computes Tryz.prog Gl 34 [L eI a.3,L eI b.3] (.ret (B (sameL A6 a.3 b.3))))∧A3∧(A0=false→eqB A0 false=true)∧((bif bif (↑a.1.length:Int) != (↑b.1.length:Int) then true else !sameL A6 a.2 b.2 then true else !sameL A6 a.3 b.3)=true→false=sameBooks a b)∧((bif bif (↑a.1.length:Int) != (↑b.1.length:Int) then true else !sameL A6 a.2 b.2 then true else !sameL A6 a.3 b.3)=false→(0=(↑(0:Nat):Int)∧(SEq a.1.length (fun i=>eComp (nth a.1 i)) a.1.length fun i=>eComp (nth a.1 i))∧(SEq a.2.length (fun i=>eI (nth a.2 i)) a.2.length fun i=>eI (nth a.2 i))∧(SEq a.3.length (fun i=>eI (nth a.3 i)) a.3.length fun i=>eI (nth a.3 i))∧(SEq b.1.length (fun i=>eComp (nth b.1 i)) b.1.length fun i=>eComp (nth b.1 i))∧(SEq b.2.length (fun i=>eI (nth b.2 i)) b.2.length fun i=>eI (nth b.2 i))∧SEq b.3.length (fun i=>eI (nth b.3 i)) b.3.length fun i=>eI (nth b.3 i))∧∀ (k0:Nat),k0≤upto (fun i=>sameComp (nth (Book.comps a) i) (nth (Book.comps b) i)) (List.range (List.length (Book.comps a)))→a.1.length≤maxLen→(decide ((↑k0:Int)<(↑a.1.length:Int))=true→(0≤(↑k0:Int)∧(↑k0:Int)<(↑a.1.length:Int))∧(0≤(↑k0:Int)∧(↑k0:Int)<(↑b.1.length:Int))∧((bif true then !eqL [(A4 k0).1,(A4 k0).2.1,(A4 k0).2.2,(A4 k0).3.1,(A4 k0).3.2,(A4 k0).4.1,(A4 k0).4.2] [(A5 k0).1,(A5 k0).2.1,(A5 k0).2.2,(A5 k0).3.1,(A5 k0).3.2,(A5 k0).4.1,(A5 k0).4.2] else eqL [(A4 k0).1,(A4 k0).2.1,(A4 k0).2.2,(A4 k0).3.1,(A4 k0).3.2,(A4 k0).4.1,(A4 k0).4.2] [(A5 k0).1,(A5 k0).2.1,(A5 k0).2.2,(A5 k0).3.1,(A5 k0).3.2,(A5 k0).4.1,(A5 k0).4.2])=true→false=sameBooks a b)∧((bif true then !eqL [(A4 k0).1,(A4 k0).2.1,(A4 k0).2.2,(A4 k0).3.1,(A4 k0).3.2,(A4 k0).4.1,(A4 k0).4.2] [(A5 k0).1,(A5 k0).2.1,(A5 k0).2.2,(A5 k0).3.1,(A5 k0).3.2,(A5 k0).4.1,(A5 k0).4.2] else eqL [(A4 k0).1,(A4 k0).2.1,(A4 k0).2.2,(A4 k0).3.1,(A4 k0).3.2,(A4 k0).4.1,(A4 k0).4.2] [(A5 k0).1,(A5 k0).2.1,(A5 k0).2.2,(A5 k0).3.1,(A5 k0).3.2,(A5 k0).4.1,(A5 k0).4.2])=false→inRange IntKind.i64 ((↑k0:Int)+1)∧k0<upto (fun i=>sameComp (nth (Book.comps a) i) (nth (Book.comps b) i)) (List.range (List.length (Book.comps a)))∧(↑k0:Int)+1=(↑(k0+1):Int)∧(SEq a.1.length (fun i=>eComp (nth a.1 i)) a.1.length fun i=>eComp (nth a.1 i))∧(SEq a.2.length (fun i=>eI (nth a.2 i)) a.2.length fun i=>eI (nth a.2 i))∧(SEq a.3.length (fun i=>eI (nth a.3 i)) a.3.length fun i=>eI (nth a.3 i))∧(SEq b.1.length (fun i=>eComp (nth b.1 i)) b.1.length fun i=>eComp (nth b.1 i))∧(SEq b.2.length (fun i=>eI (nth b.2 i)) b.2.length fun i=>eI (nth b.2 i))∧SEq b.3.length (fun i=>eI (nth b.3 i)) b.3.length fun i=>eI (nth b.3 i)))∧(decide ((↑k0:Int)<(↑a.1.length:Int))=false→true=sameBooks a b))) (by kernel_rfl) ?_
 simp only [stdS, imp_self, implies_true, and_true, same34 S, decide_eq_true_eq, decide_eq_false_iff_not, maxLen_eq, rng_iff]
 intro h1 h2
 obtain ⟨_, s2⟩ := same_loop sameComp a.comps b.comps h1 h2
 refine ⟨fun h => ?_, fun h => ?_⟩
 ·unfold sameBooks
  cases hd : sameL (fun x1 x2 => x1 == x2) a.dues b.dues with
  | false => simp
  | true =>
   cases hs : sameL (fun x1 x2 => x1 == x2) a.sheets b.sheets with
   | false => simp
   | true =>
    rw [hd, hs] at h
    simp only [Bool.not_true, Bool.or_false, bne_iff_ne, ne_eq, Int.natCast_inj] at h
    simp [h]
 ·simp only [Bool.or_eq_false_iff, Bool.not_eq_eq_eq_not, Bool.not_false] at h
  have e : sameBooks a b = sameL sameComp a.comps b.comps := by
   unfold sameBooks
   rw [h.1.2, h.2]
   unfold sameL
   rw [Bool.true_and, Bool.true_and]
  rw [e]
  exact s2 h.1.1
end Go.Vc.Gd
namespace Go.Vc.Gd
open Go Go.Proofs Go.Vc
theorem run_equalIn_iface_nil {P : Program} {t tx : TypeId} {vx : Value} {w : World} (d : Nat) (h : ∃ ms, P.underlying t = some (.interface ms)) : (Op.equalIn (d + 1) t (.iface tx vx) .nilIface).run P w = .ok false w := by
 obtain ⟨ms, h⟩ := h
 simp [Op.equalIn, run_underlying h]
theorem run_eql_iface_nil {P : Program} {t tx : TypeId} {vx : Value} {w : World} (h : ∃ ms, P.underlying t = some (.interface ms)) : (binOp .eql t (.iface tx vx) .nilIface).run P w = .ok (.bool false) w := by
 have : (Op.equal t (.iface tx vx) .nilIface).run P w = .ok false w := run_equalIn_iface_nil 9999 h
 simp only [binOp]
 simp [this]
theorem run_equalIn_nil_nil {P : Program} {t : TypeId} {w : World} (d : Nat) (h : ∃ ms, P.underlying t = some (.interface ms)) : (Op.equalIn (d + 1) t .nilIface .nilIface).run P w = .ok true w := by
 obtain ⟨ms, h⟩ := h
 simp [Op.equalIn, run_underlying h]
theorem run_eql_nil_nil {P : Program} {t : TypeId} {w : World} (h : ∃ ms, P.underlying t = some (.interface ms)) : (binOp .eql t .nilIface .nilIface).run P w = .ok (.bool true) w := by
 have : (Op.equal t .nilIface .nilIface).run P w = .ok true w := run_equalIn_nil_nil 9999 h
 simp only [binOp]
 simp [this]
theorem run_assert_yes {P : Program} {t xt : TypeId} {v : Value} {w : World} {y : Ty} (hY : TyOK P t y) (hk : ∃ fs, y.kind = .struct fs) : (Instr.typeAssert (.iface t v) xt t true).run P w = .ok (.tuple #[v, .bool true]) w := by
 obtain ⟨d, i, z, h1, _, _, _, _, _, h7, _⟩ := hY
 obtain ⟨fs, hk⟩ := hk
 rw [hk] at h7
 obtain ⟨fields, rfl, _⟩ := h7
 simp [Instr.typeAssert, run_underlying h1]
theorem run_assert_no {P : Program} {Y : TypeId → Ty} {t t' xt : TypeId} {v : Value} {w : World} (hY : YOK P Y) (hk : ∃ fs, (Y t).kind = .struct fs) (hne : t' ≠ t) : ∃ z, (Instr.typeAssert (.iface t' v) xt t true).run P w = .ok (.tuple #[z, .bool false]) w := by
 obtain ⟨fs, hk⟩ := hk
 have hkn : (Y t).known = true := struct_known hk
 obtain ⟨z, hz, _⟩ := run_zeroValue hY hkn w
 obtain ⟨d, i, z', h1, _, _, _, _, _, h7, _⟩ := hY t hkn
 rw [hk] at h7
 obtain ⟨fields, rfl, _⟩ := h7
 refine ⟨z, ?_⟩
 simp [Instr.typeAssert, run_underlying h1, hne, hz]
theorem und20 : ∃ ms, Tryz.prog.underlying 20 = some (.interface ms) := by
 obtain ⟨d, i, z, h1, _, _, _, _, _, h7, _⟩ := yok 20 (by kernel_rfl)
 obtain ⟨ms, rfl⟩ : ∃ ms, d = .interface ms := h7
 exact ⟨ms, h1⟩
theorem k118 : (Y 118).kind = .struct [(0, 3), (1, 29)] := by kernel_rfl
theorem k183 : (Y 183).kind = .struct [(0, 9)] := by kernel_rfl
theorem a118 : (Y 118).agg = some true := by kernel_rfl
theorem a183 : (Y 183).agg = some true := by kernel_rfl
theorem z118 : (Y 118).zero.toArray = #[.int .i64 0, .int .i64 0] := by kernel_rfl
theorem z183 : (Y 183).zero.toArray = #[.string (ByteArray.mk #[])] := by kernel_rfl
theorem z30 : (Y 30).zero.toArray = #[.int .i64 0] := by kernel_rfl
theorem s118 : (Y 118).size = 2 := by kernel_rfl
theorem s183 : (Y 183).size = 1 := by kernel_rfl
theorem s30 : (Y 30).size = 1 := by kernel_rfl
theorem kn118 : (Y 118).known = true := by kernel_rfl
theorem kn183 : (Y 183).known = true := by kernel_rfl
theorem kn30 : (Y 30).known = true := by kernel_rfl
theorem ev_const {a : Act} {v : Value} : a.eval (.const v) = v := rfl
theorem sl2 (p q v : Value) : SL { tmps := #[p, q] ++ (Array.replicate 14 undef).setIfInBounds 4 v, defers := [] } 16 (upd (fun t => #[p, q].getD t undef) 6 v) [] := by
 have := (SL.start #[p, q] 16 (Nat.le_of_ble_eq_true rfl)).put (d := 6) (by decide) v
 simpa [Act.put] using this
theorem catch_idle (p q : Value) (w : World) :
  CallsD Tryz.prog 132 #[p, q] .returning w fun e u' w' => e = .returned (.tuple #[]) ∧ u' = .returning ∧ w' = w := by
 refine callsD_of_wpS Tryz.func132 rfl fun c₀ cs hu => ?_
 apply wpS_seq
 apply wpS_region
 simp [wpOpsS, go_sem, recoverD, hu, Tryz.ntmps132, Exit.thenS]
 have S := sl2 p q .nilIface
 refine wpS_of_wp (wp_block (wp_seq (wp_region_list ?_)))
 generalize ({ tmps := #[p, q] ++ (Array.replicate 14 undef).setIfInBounds 4 Value.nilIface, defers := [] } : Act) = a at S ⊢
 refine rl_val S (d := 8) (v := .bool true) (w' := w) rfl (by decide) rfl ?_ fun a1 S1 => ?_
 ·simp [execOp, S.eval, upd, run_eql_nil_nil und20, ev_const, eqGuard]
 refine wp_cond_true (by simp [S1.eval, upd]) (wp_region_list ?_)
 refine rl_val S1 (d := 2) (v := .nilIface) (w' := w) rfl (by decide) rfl ?_ fun a2 S2 => ?_
 ·simp [execOp, S1.eval, upd]
 cases c₀
 simp_all [wpList, bodyPostS, results, Tryz.results132, Exit.inBlock, S2.defers]
theorem catch_foul (b1 b2 : Nat) (x y : Int) (older : List PanicEntry) (w : World) (h1 : w.heap[b1]? = some (.cells #[.int .i64 0, .int .i64 0] 118 (0, 0))) (h2 : w.heap[b2]? = some (.cells #[.int .i64 0] 30 (0, 0))) (hne : b1 ≠ b2) :
  CallsD Tryz.prog 132 #[.pointer (some ⟨b1, 0, none⟩), .pointer (some ⟨b2, 0, none⟩)] (.panicking ({ v := .iface 118 (.agg #[.int .i64 x, .int .i64 y]), recovered := false } :: older)) w fun e u' w' =>
   e = .returned (.tuple #[]) ∧ u' = .panicking ({ v := .iface 118 (.agg #[.int .i64 x, .int .i64 y]), recovered := true } :: older) ∧ Same w w' ∧ w'.heap[b1]? = some (.cells #[.int .i64 x, .int .i64 y] 118 (0, 0)) ∧ w'.heap[b2]? = some (.cells #[.int .i64 7] 30 (0, 0)) ∧
   ∀ b, b < w.heap.size → b ≠ b1 → b ≠ b2 → w'.heap[b]? = w.heap[b]? := by
 have l1 : b1 < w.heap.size := (Array.getElem?_eq_some_iff.1 h1).1
 have l2 : b2 < w.heap.size := (Array.getElem?_eq_some_iff.1 h2).1
 refine callsD_of_wpS Tryz.func132 rfl fun c₀ cs hu => ?_
 apply wpS_seq
 apply wpS_region
 simp [wpOpsS, go_sem, recoverD, hu, Tryz.ntmps132, Exit.thenS]
 have S := sl2 (.pointer (some ⟨b1, 0, none⟩)) (.pointer (some ⟨b2, 0, none⟩)) (.iface 118 (.agg #[.int .i64 x, .int .i64 y]))
 refine wpS_of_wp (wp_block (wp_seq (wp_region_list ?_)))
 generalize ({ tmps := #[Value.pointer (some ⟨b1, 0, none⟩), Value.pointer (some ⟨b2, 0, none⟩)] ++ (Array.replicate 14 undef).setIfInBounds 4 (Value.iface 118 (.agg #[.int .i64 x, .int .i64 y])), defers := [] } : Act) = a at S ⊢
 refine rl_val S (d := 8) (v := .bool false) (w' := w) rfl (by decide) rfl ?_ fun a1 S1 => ?_
 ·simp [execOp, S.eval, upd, run_eql_iface_nil und20, ev_const, eqGuard]
 refine wp_cond_false (by simp [S1.eval, upd]) (wp_seq (wp_region_list ?_))
 refine rl_val S1 (d := 9) (v := .tuple #[.agg #[.int .i64 x, .int .i64 y], .bool true]) (w' := w) rfl (by decide) rfl ?_ fun a2 S2 => ?_
 ·simp [execOp, S1.eval, upd, run_assert_yes (yok 118 kn118) ⟨_, k118⟩]
 refine rl_val S2 (d := 10) (v := .bool true) (w' := w) rfl (by decide) rfl ?_ fun a3 S3 => ?_
 ·simp [execOp, S2.eval, upd, Instr.extract]
 refine rl_val S3 (d := 11) (v := .agg #[.int .i64 x, .int .i64 y]) (w' := w) rfl (by decide) rfl ?_ fun a4 S4 => ?_
 ·simp [execOp, S3.eval, upd, Instr.extract]
 refine wp_cond_true (by simp [S4.eval, upd]) (wp_seq (wp_region_list ?_))
 have hal := raw_alloc (a := a4) (w := w) (o := { dst := some 3, op := Op.alloc 118, type := 0, pos := "give.go:102", after := #[], guard := none }) yok (t := 118) rfl kn118
 rw [z118] at hal
 refine rl_val S4 (d := 3) rfl (by decide) rfl hal fun a5 S5 => ?_
 obtain ⟨w1, hw1⟩ : ∃ w1, w.alloc (.cells #[.int .i64 0, .int .i64 0] 118 (0, 0)) = w1 := ⟨_, rfl⟩
 have hw1' : w.alloc (.cells #[.int .i64 0, .int .i64 0] 118) = w1 := hw1
 rw [hw1']
 have g1 : Same w w1 := by rw [← hw1]; exact same_alloc _ _
 have g2 : ∀ b, b < w.heap.size → w1.heap[b]? = w.heap[b]? := fun b hb => by rw [← hw1]; exact heap_alloc_lt _ _ hb
 have g3 : w1.heap[w.heap.size]? = some (.cells #[.int .i64 0, .int .i64 0] 118 (0, 0)) := by rw [← hw1]; exact World.alloc_heap_new w _
 obtain ⟨r1, r2, r3, r4⟩ := raw_store (a := a5) (w := w1) (v := .agg #[.int .i64 x, .int .i64 y]) (b := w.heap.size) (o := { dst := none, op := Op.store 118 (Operand.tmp 3) (Operand.tmp 11), type := 0, pos := "give.go:102", after := #[{ on := 0, ground := Ground.data }, { on := 0, ground := Ground.phase }], guard := none })
  yok (t := 118) rfl kn118 (by simp [S5.eval, upd]) (by simp [S5.eval, upd]) (by rw [s118]; rfl) (by rw [s118]; rfl) (by simp [Value.cells, Value.oneCell']) g3
 refine rl_skip S5 rfl rfl r1 fun a6 S6 => ?_
 generalize w1.setRow w.heap.size (Value.agg #[.int .i64 x, .int .i64 y]).cells = w2 at r2 r3 r4 ⊢
 refine wp_region_list ?_
 refine rl_val S6 (d := 12) (v := .agg #[.int .i64 x, .int .i64 y]) (w' := w2) rfl (by decide) rfl ?_ fun a7 S7 => ?_
 ·exact raw_load yok (b := w.heap.size) (cur := #[.int .i64 x, .int .i64 y]) (t := 118) rfl a118 (by simp [S6.eval, upd]) (by rw [s118]; rfl) r2
 have g4 : w2.heap[b1]? = some (.cells #[.int .i64 0, .int .i64 0] 118 (0, 0)) := by rw [r4 _ (by omega), g2 _ l1]; exact h1
 obtain ⟨q1, q2, q3, q4⟩ := raw_store (a := a7) (w := w2) (v := .agg #[.int .i64 x, .int .i64 y]) (b := b1) (o := { dst := none, op := Op.store 118 (Operand.tmp 0) (Operand.tmp 12), type := 0, pos := "give.go:105", after := #[{ on := 0, ground := Ground.data }, { on := 0, ground := Ground.phase }], guard := none })
  yok (t := 118) rfl kn118 (by simp [S7.eval, upd]) (by simp [S7.eval, upd]) (by rw [s118]; rfl) (by rw [s118]; rfl) (by simp [Value.cells, Value.oneCell']) g4
 refine rl_skip S7 rfl rfl q1 fun a8 S8 => ?_
 generalize w2.setRow b1 (Value.agg #[.int .i64 x, .int .i64 y]).cells = w3 at q2 q3 q4 ⊢
 have g5 : w3.heap[b2]? = some (.cells #[.int .i64 0] 30 (0, 0)) := by rw [q4 _ (fun h => hne h.symm), r4 _ (by omega), g2 _ l2]; exact h2
 obtain ⟨t1, t2, t3, t4⟩ := raw_store (a := a8) (w := w3) (v := .int .i64 7) (b := b2) (o := { dst := none, op := Op.store 30 (Operand.tmp 1) (Operand.const (Value.int IntKind.i64 7)), type := 0, pos := "give.go:105", after := #[{ on := 1, ground := Ground.chain }, { on := 0, ground := Ground.phase }, { on := 1, ground := Ground.phase }], guard := none })
  yok (t := 30) rfl kn30 (by simp [S8.eval, upd]) rfl (by rw [s30]; rfl) (by rw [s30]; rfl) (by simp [Value.cells, Value.oneCell']) g5
 refine rl_skip S8 rfl rfl t1 fun a9 S9 => ?_
 generalize w3.setRow b2 (Value.int .i64 7).cells = w4 at t2 t3 t4 ⊢
 have e1 : w4.heap[b1]? = some (.cells #[.int .i64 x, .int .i64 y] 118 (0, 0)) := by rw [t4 _ hne]; exact q2
 have e3 : ∀ b, b < w.heap.size → b ≠ b1 → b ≠ b2 → w4.heap[b]? = w.heap[b]? := fun b hb h1 h2 => by rw [t4 _ h2, q4 _ h1, r4 _ (by omega), g2 _ hb]
 have e4 : Same w w4 := ((g1.trans r3).trans q3).trans t3
 exact ⟨S9.defers, _, rfl, .tuple #[], by simp [results, Tryz.results132], rfl, rfl, e4, e1, t2, e3⟩
theorem catch_text (b1 b2 : Nat) (x : ByteArray) (older : List PanicEntry) (w : World) (h1 : w.heap[b1]? = some (.cells #[.int .i64 0, .int .i64 0] 118 (0, 0))) (h2 : w.heap[b2]? = some (.cells #[.int .i64 0] 30 (0, 0))) (hne : b1 ≠ b2) :
  CallsD Tryz.prog 132 #[.pointer (some ⟨b1, 0, none⟩), .pointer (some ⟨b2, 0, none⟩)] (.panicking ({ v := .iface 183 (.agg #[.string x]), recovered := false } :: older)) w fun e u' w' =>
   e = .returned (.tuple #[]) ∧ u' = .panicking ({ v := .iface 183 (.agg #[.string x]), recovered := true } :: older) ∧ Same w w' ∧ w'.heap[b1]? = some (.cells #[.int .i64 0, .int .i64 0] 118 (0, 0)) ∧ w'.heap[b2]? = some (.cells #[.int .i64 4] 30 (0, 0)) ∧
   ∀ b, b < w.heap.size → b ≠ b1 → b ≠ b2 → w'.heap[b]? = w.heap[b]? := by
 have l1 : b1 < w.heap.size := (Array.getElem?_eq_some_iff.1 h1).1
 have l2 : b2 < w.heap.size := (Array.getElem?_eq_some_iff.1 h2).1
 refine callsD_of_wpS Tryz.func132 rfl fun c₀ cs hu => ?_
 apply wpS_seq
 apply wpS_region
 simp [wpOpsS, go_sem, recoverD, hu, Tryz.ntmps132, Exit.thenS]
 have S := sl2 (.pointer (some ⟨b1, 0, none⟩)) (.pointer (some ⟨b2, 0, none⟩)) (.iface 183 (.agg #[.string x]))
 refine wpS_of_wp (wp_block (wp_seq (wp_region_list ?_)))
 generalize ({ tmps := #[Value.pointer (some ⟨b1, 0, none⟩), Value.pointer (some ⟨b2, 0, none⟩)] ++ (Array.replicate 14 undef).setIfInBounds 4 (Value.iface 183 (.agg #[.string x])), defers := [] } : Act) = a at S ⊢
 refine rl_val S (d := 8) (v := .bool false) (w' := w) rfl (by decide) rfl ?_ fun a1 S1 => ?_
 ·simp [execOp, S.eval, upd, run_eql_iface_nil und20, ev_const, eqGuard]
 refine wp_cond_false (by simp [S1.eval, upd]) (wp_seq (wp_region_list ?_))
 obtain ⟨z, hz⟩ := run_assert_no (Y := Y) (t := 118) (t' := 183) (xt := 20) (v := .agg #[.string x]) (w := w) yok ⟨_, k118⟩ (by decide)
 refine rl_val S1 (d := 9) (v := .tuple #[z, .bool false]) (w' := w) rfl (by decide) rfl ?_ fun a2 S2 => ?_
 ·simp [execOp, S1.eval, upd, hz]
 refine rl_val S2 (d := 10) (v := .bool false) (w' := w) rfl (by decide) rfl ?_ fun a3 S3 => ?_
 ·simp [execOp, S2.eval, upd, Instr.extract]
 refine rl_val S3 (d := 11) (v := z) (w' := w) rfl (by decide) rfl ?_ fun a4 S4 => ?_
 ·simp [execOp, S3.eval, upd, Instr.extract]
 refine wp_cond_false (by simp [S4.eval, upd]) (wp_seq (wp_region_list ?_))
 refine rl_val S4 (d := 13) (v := .tuple #[.agg #[.string x], .bool true]) (w' := w) rfl (by decide) rfl ?_ fun a5 S5 => ?_
 ·simp [execOp, S4.eval, upd, run_assert_yes (yok 183 kn183) ⟨_, k183⟩]
 refine rl_val S5 (d := 14) (v := .bool true) (w' := w) rfl (by decide) rfl ?_ fun a6 S6 => ?_
 ·simp [execOp, S5.eval, upd, Instr.extract]
 refine rl_val S6 (d := 15) (v := .agg #[.string x]) (w' := w) rfl (by decide) rfl ?_ fun a7 S7 => ?_
 ·simp [execOp, S6.eval, upd, Instr.extract]
 refine wp_cond_true (by simp [S7.eval, upd]) (wp_seq (wp_region_list ?_))
 have hal := raw_alloc (a := a7) (w := w) (o := { dst := some 4, op := Op.alloc 183, type := 0, pos := "give.go:102", after := #[], guard := none }) yok (t := 183) rfl kn183
 rw [z183] at hal
 refine rl_val S7 (d := 4) rfl (by decide) rfl hal fun a8 S8 => ?_
 obtain ⟨w1, hw1⟩ : ∃ w1, w.alloc (.cells #[.string (ByteArray.mk #[])] 183 (0, 0)) = w1 := ⟨_, rfl⟩
 have hw1' : w.alloc (.cells #[.string (ByteArray.mk #[])] 183) = w1 := hw1
 rw [hw1']
 have g1 : Same w w1 := by rw [← hw1]; exact same_alloc _ _
 have g2 : ∀ b, b < w.heap.size → w1.heap[b]? = w.heap[b]? := fun b hb => by rw [← hw1]; exact heap_alloc_lt _ _ hb
 have g3 : w1.heap[w.heap.size]? = some (.cells #[.string (ByteArray.mk #[])] 183 (0, 0)) := by rw [← hw1]; exact World.alloc_heap_new w _
 obtain ⟨r1, r2, r3, r4⟩ := raw_store (a := a8) (w := w1) (v := .agg #[.string x]) (b := w.heap.size) (o := { dst := none, op := Op.store 183 (Operand.tmp 4) (Operand.tmp 15), type := 0, pos := "give.go:102", after := #[{ on := 0, ground := Ground.data }, { on := 0, ground := Ground.phase }], guard := none })
  yok (t := 183) rfl kn183 (by simp [S8.eval, upd]) (by simp [S8.eval, upd]) (by rw [s183]; rfl) (by rw [s183]; rfl) (by simp [Value.cells, Value.oneCell']) g3
 refine rl_skip S8 rfl rfl r1 fun a9 S9 => ?_
 generalize w1.setRow w.heap.size (Value.agg #[.string x]).cells = w2 at r2 r3 r4 ⊢
 refine wp_region_list ?_
 have g5 : w2.heap[b2]? = some (.cells #[.int .i64 0] 30 (0, 0)) := by rw [r4 _ (by omega), g2 _ l2]; exact h2
 obtain ⟨t1, t2, t3, t4⟩ := raw_store (a := a9) (w := w2) (v := .int .i64 4) (b := b2) (o := { dst := none, op := Op.store 30 (Operand.tmp 1) (Operand.const (Value.int IntKind.i64 4)), type := 0, pos := "give.go:107", after := #[{ on := 0, ground := Ground.phase }], guard := none })
  yok (t := 30) rfl kn30 (by simp [S9.eval, upd]) rfl (by rw [s30]; rfl) (by rw [s30]; rfl) (by simp [Value.cells, Value.oneCell']) g5
 refine rl_skip S9 rfl rfl t1 fun a10 S10 => ?_
 generalize w2.setRow b2 (Value.int .i64 4).cells = w4 at t2 t3 t4 ⊢
 have e1 : w4.heap[b1]? = some (.cells #[.int .i64 0, .int .i64 0] 118 (0, 0)) := by rw [t4 _ hne, r4 _ (by omega), g2 _ l1]; exact h1
 have e3 : ∀ b, b < w.heap.size → b ≠ b1 → b ≠ b2 → w4.heap[b]? = w.heap[b]? := fun b hb h1 h2 => by rw [t4 _ h2, r4 _ (by omega), g2 _ hb]
 have e4 : Same w w4 := (g1.trans r3).trans t3
 exact ⟨S10.defers, _, rfl, .tuple #[], by simp [results, Tryz.results132], rfl, rfl, e4, e1, t2, e3⟩
theorem built118 : Tryz.prog.built 118 [] = some #[.int .i64 0, .int .i64 0] := by kernel_rfl
def attV : Ending → Value
 | .panicked [{ v := .iface 118 x, .. }] => .tuple #[x, .int .i64 7]
 | .panicked [{ v := .iface 183 _, .. }] => .tuple #[.agg #[.int .i64 0, .int .i64 0], .int .i64 4]
 | _ => .tuple #[.agg #[.int .i64 0, .int .i64 0], .int .i64 0]
def attW (w : World) : World := (w.alloc (.cells #[.int .i64 0, .int .i64 0] 118 (0, 0))).alloc (.cells #[.int .i64 0] 30 (0, 0))
structure AttOK (w w' : World) (en : Ending) : Prop where
 one : w'.heap[w.heap.size]? = some (.cells #[.int .i64 0, .int .i64 0] 118 (0, 0))
 two : w'.heap[w.heap.size + 1]? = some (.cells #[.int .i64 0] 30 (0, 0))
 en : en = .returned (.tuple #[]) ∨ (∃ x y, en = .panicked [{ v := .iface 118 (.agg #[.int .i64 x, .int .i64 y]), recovered := false }]) ∨ ∃ s, en = .panicked [{ v := .iface 183 (.agg #[.string s]), recovered := false }]
theorem att_results {a : Act} {w : World} {b1 b2 : Nat} {cs : Array Value} {x : Value} (h1 : a.tmps.getD 2 undef = .pointer (some ⟨b1, 0, none⟩)) (h2 : a.tmps.getD 3 undef = .pointer (some ⟨b2, 0, none⟩)) (hc : cs.size = 2)
  (g1 : w.heap[b1]? = some (.cells cs 118 (0, 0))) (g2 : w.heap[b2]? = some (.cells #[x] 30 (0, 0))) : (results Tryz.f107 a.tmps).run Tryz.prog w = .ok (.tuple #[.agg cs, x]) w := by
 have l1 := run_loadAgg yok a118 (w := w) (b := b1) (off := 0) (us := cs.toList) (by rw [s118]; simpa using hc) fun j u hj => by
  simp only [World.cell?, g1, Nat.zero_add]
  simpa using hj
 have l2 := run_load1 yok (t := 30) (by kernel_rfl) (w := w) (b := b2) (off := 0) (u := x) (by simp [World.cell?, g2])
 have he : Tryz.f107.results.mapM (resM a.tmps) = List.toArray <$> Tryz.f107.results.toList.mapM (resM a.tmps) := Array.mapM_eq_mapM_toList ..
 have he2 : results Tryz.f107 a.tmps = (Tryz.f107.results.mapM (resM a.tmps) >>= fun vs => pure (if h : vs.size = 1 then vs[0] else .tuple vs)) := rfl
 have hrun : ([ResultVar.cell 2 118, ResultVar.cell 3 30].mapM (resM a.tmps)).run Tryz.prog w = .ok [.agg cs, x] w := by
  have r1 : (resM a.tmps (.cell 2 118)).run Tryz.prog w = .ok (.agg cs) w := by simp [resM, h1, asAddr, l1]
  have r2 : (resM a.tmps (.cell 3 30)).run Tryz.prog w = .ok x w := by simp [resM, h2, asAddr, l2]
  rw [run_mapM_cons, r1, Result.andThen_ok, run_mapM_cons, r2, Result.andThen_ok]
  simp
 rw [he2, he, Tryz.results107]
 simp only [Sem.run_bind, Sem.run_map, hrun, Result.andThen_ok, Sem.run_pure]
 rfl
theorem attempt_calls (g : FuncId) (hg : FnOK Tryz.prog g) (us vs : Array Value) (w : World) (R : Ending → World → Prop) (hcall : Calls Tryz.prog g (us ++ vs) (attW w) R) (hR : ∀ en w', R en w' → AttOK w w' en) :
  Calls Tryz.prog 107 #[.func (.func g) us vs] w fun en w'' => ∃ en0 w', R en0 w' ∧ Same w' w'' ∧ (∀ b, b < w'.heap.size → b ≠ w.heap.size → b ≠ w.heap.size + 1 → w''.heap[b]? = w'.heap[b]?) ∧ en = .returned (attV en0) := by
 go_enter_defers Tryz.func107, Tryz.ntmps107
 have S : SL { tmps := #[Value.func (Fn.func g) us vs, undef, undef, undef, undef, undef, undef, undef], defers := [] } 8 (fun t => #[Value.func (Fn.func g) us vs].getD t undef) [] := by
  exact SL.start #[Value.func (Fn.func g) us vs] 8 (Nat.le_of_ble_eq_true rfl)
 generalize ({ tmps := #[Value.func (Fn.func g) us vs, undef, undef, undef, undef, undef, undef, undef], defers := [] } : Act) = a at S ⊢
 refine wp_seq (wp_region_list ?_)
 have hal := raw_alloc (a := a) (w := w) (o := { dst := some 2, op := Op.alloc 118, type := 0, pos := "give.go:100", after := #[], guard := none }) yok (t := 118) rfl kn118
 rw [z118] at hal
 refine rl_val S (d := 2) rfl (by decide) rfl hal fun a1 S1 => ?_
 have hal := raw_alloc (a := a1) (w := w.alloc (.cells #[.int .i64 0, .int .i64 0] 118 (0, 0))) (o := { dst := some 3, op := Op.alloc 30, type := 0, pos := "give.go:100", after := #[], guard := none }) yok (t := 30) rfl kn30
 rw [z30, World.size_alloc] at hal
 refine rl_val S1 (d := 3) rfl (by decide) rfl hal fun a2 S2 => ?_
 show Code.wp Tryz.prog _ _ a2 (attW w)
 generalize hw1 : attW w = w1 at hcall ⊢
 refine wp_seq (wp_region_list ?_)
 refine rl_val S2 (d := 4) (v := .func (.func 132) #[] #[.pointer (some ⟨w.heap.size, 0, none⟩), .pointer (some ⟨w.heap.size + 1, 0, none⟩)]) (w' := w1) rfl (by decide) rfl ?_ fun a3 S3 => ?_
 ·simp [execOp, S2.eval, upd, Instr.makeFunc]
 refine rl_defer S3 (d := { target := .fn (.func 132) #[.pointer (some ⟨w.heap.size, 0, none⟩), .pointer (some ⟨w.heap.size + 1, 0, none⟩)], args := #[] }) rfl rfl ?_ fun a4 S4 => ?_
 ·simp [execOp, resolve, S3.eval, upd, Deferred.ofValue]
 refine wp_seq (wp_region_list ?_)
 refine rl_val S4 (d := 5) (v := .func (.func g) us vs) (w' := w1) rfl (by decide) rfl ?_ fun a5 S5 => ?_
 ·simp [execOp, S4.eval, upd]
 have hinv : ∀ (p q : Value) (w : World), (invoke (.fn (.func 132) #[p, q]) #[]).run Tryz.prog w = .ok (.enter 132 #[p, q]) w := fun p q w => by
  have h2 : (Tryz.f132.name == "runtime.NumGoroutine") = false := by kernel_rfl
  have h3 : Tryz.f132.body.isNone = false := by kernel_rfl
  have h2' : Tryz.f132.name ≠ "runtime.NumGoroutine" := by simpa using h2
  have h3' : Tryz.f132.body ≠ none := by intro hh; rw [hh] at h3; cases h3
  simp [invoke, callFunc, Tryz.func132, h2', h3']
 refine rl_call S5 (d := 6) (g := g) (vs := us ++ vs) (R := R) rfl (by decide) rfl ?_ hcall (fun v w2 hr a6 S6 => ?_) (fun ch w2 hr => ?_) (fun w2 hr => ?_)
 ·have := exec_call (P := Tryz.prog) (a := a5) (w := w1) (o := { dst := some 6, op := Op.call { callee := Callee.value (Operand.tmp 5), args := #[], argTypes := #[] }, type := 0, pos := "give.go:112", after := #[{ on := 0, ground := Ground.data }], guard := none }) rfl (by simp [S5.eval, upd]) hg (us := us) (cvs := vs)
  simpa using this
 ·obtain ⟨c1, c2, c3⟩ := hR _ _ hr
  have l1 : w.heap.size < w2.heap.size := (Array.getElem?_eq_some_iff.1 c1).1
  have l2 : w.heap.size + 1 < w2.heap.size := (Array.getElem?_eq_some_iff.1 c2).1
  refine wp_seq (wp_region_list ?_)
  refine rl_val S6 (d := 7) (v := .agg #[.int .i64 0, .int .i64 0]) (w' := w2) rfl (by decide) rfl ?_ fun a7 S7 => ?_
  ·simp [execOp, run_build (P := Tryz.prog) w2 118 #[] _ built118]
  obtain ⟨q1, q2, q3, q4⟩ := raw_store (a := a7) (w := w2) (v := .agg #[.int .i64 0, .int .i64 0]) (b := w.heap.size) (o := { dst := none, op := Op.store 118 (Operand.tmp 2) (Operand.tmp 7), type := 0, pos := "give.go:113", after := #[{ on := 0, ground := Ground.data }, { on := 0, ground := Ground.phase }], guard := none })
   yok (t := 118) rfl kn118 (by simp [S7.eval, upd]) (by simp [S7.eval, upd]) (by rw [s118]; rfl) (by rw [s118]; rfl) (by simp [Value.cells, Value.oneCell']) c1
  refine rl_skip S7 rfl rfl q1 fun a8 S8 => ?_
  generalize w2.setRow w.heap.size (Value.agg #[.int .i64 0, .int .i64 0]).cells = w3 at q2 q3 q4 ⊢
  have g5 : w3.heap[w.heap.size + 1]? = some (.cells #[.int .i64 0] 30 (0, 0)) := by rw [q4 _ (by omega)]; exact c2
  obtain ⟨t1, t2, t3, t4⟩ := raw_store (a := a8) (w := w3) (v := .int .i64 0) (b := w.heap.size + 1) (o := { dst := none, op := Op.store 30 (Operand.tmp 3) (Operand.const (Value.int IntKind.i64 0)), type := 0, pos := "give.go:113", after := #[{ on := 1, ground := Ground.chain }, { on := 0, ground := Ground.phase }, { on := 1, ground := Ground.phase }], guard := none })
   yok (t := 30) rfl kn30 (by simp [S8.eval, upd]) rfl (by rw [s30]; rfl) (by rw [s30]; rfl) (by simp [Value.cells, Value.oneCell']) g5
  refine rl_skip S8 rfl rfl t1 fun a9 S9 => ?_
  generalize w3.setRow (w.heap.size + 1) (Value.int .i64 0).cells = w4 at t2 t3 t4 ⊢
  refine wp_ret ?_
  show Leaves Tryz.prog Tryz.f107 a9.tmps _ a9.defers .returning w4
  rw [S9.defers]
  refine leaves_cons (by simp) (hinv _ _ w4) ((catch_idle _ _ w4).mono ?_)
  rintro e u' w5 ⟨rfl, rfl, rfl⟩
  have r1 := att_results (a := a9) (w := w5) (b1 := w.heap.size) (b2 := w.heap.size + 1) (by rw [S9.get 2 (by decide)]; simp [upd]) (by rw [S9.get 3 (by decide)]; simp [upd]) rfl (by rw [t4 _ (by omega)]; exact q2) t2
  refine ⟨_, r1, _, _, hr, q3.trans t3, fun b hb h1 h2 => by rw [t4 _ h2, q4 _ h1], ?_⟩
  rcases c3 with h | ⟨_, _, h⟩ | ⟨_, h⟩ <;> cases h
  rfl
 ·obtain ⟨c1, c2, c3⟩ := hR _ _ hr
  have l1 : w.heap.size < w2.heap.size := (Array.getElem?_eq_some_iff.1 c1).1
  have l2 : w.heap.size + 1 < w2.heap.size := (Array.getElem?_eq_some_iff.1 c2).1
  show Leaves Tryz.prog Tryz.f107 a5.tmps _ a5.defers (.panicking ch) w2
  rw [S5.defers]
  refine leaves_cons (by simp) (hinv _ _ w2) ?_
  have e1 : a5.tmps.getD 2 undef = .pointer (some ⟨w.heap.size, 0, none⟩) := by rw [S5.get 2 (by decide)]; simp [upd]
  have e2 : a5.tmps.getD 3 undef = .pointer (some ⟨w.heap.size + 1, 0, none⟩) := by rw [S5.get 3 (by decide)]; simp [upd]
  rcases c3 with h | ⟨x, y, h⟩ | ⟨s, h⟩
  ·cases h
  ·obtain rfl : ch = [{ v := .iface 118 (.agg #[.int .i64 x, .int .i64 y]), recovered := false }] := Ending.panicked.inj h
   refine (catch_foul _ _ x y [] w2 c1 c2 (by omega)).mono ?_
   rintro e u' w5 ⟨rfl, rfl, g1, g2, g3, g4⟩
   have r1 := att_results (a := a5) (w := w5) e1 e2 rfl g2 g3
   exact ⟨_, r1, _, _, hr, g1, g4, rfl⟩
  ·obtain rfl : ch = [{ v := .iface 183 (.agg #[.string s]), recovered := false }] := Ending.panicked.inj h
   refine (catch_text _ _ s [] w2 c1 c2 (by omega)).mono ?_
   rintro e u' w5 ⟨rfl, rfl, g1, g2, g3, g4⟩
   have r1 := att_results (a := a5) (w := w5) e1 e2 rfl g2 g3
   exact ⟨_, r1, _, _, hr, g1, g4, rfl⟩
 ·obtain ⟨_, _, c3⟩ := hR _ _ hr
  rcases c3 with h | ⟨_, _, h⟩ | ⟨_, h⟩ <;> cases h
end Go.Vc.Gd
namespace Go.Vc
open Go Go.RowKit
mutual
theorem RelT.weak {G : Gh} {w : World} {O O' : Nat → Prop} (h : ∀ b, O b → O' b) : ∀ {x : T} {v : Value}, RelT G w O x v → RelT G w O' x v
 | .d x, v, r => by simp only [RelT] at r ⊢; exact r.weak h
 | .tup xs, v, r => by simp only [RelT] at r ⊢; obtain ⟨vs, hv, hr⟩ := r; exact ⟨vs, hv, hr.1, fun j x v hj hv => (hr.2 j x v hj hv).weak h⟩
 | .fn f a b, v, r => by
  simp only [RelT] at r ⊢
  obtain ⟨us, vs, hv, h1, h2⟩ := r
  exact ⟨us, vs, hv, RelTs.weak h h1, RelTs.weak h h2⟩
 | .may b x, v, r => by simp only [RelT] at r ⊢; exact ⟨fun hb => RelT.weak h (r.1 hb), r.2⟩
 | .nx b xs, v, r => by
  simp only [RelT] at r ⊢
  exact ⟨fun hb => by obtain ⟨vs, hv, hr⟩ := r.1 hb; exact ⟨vs, hv, hr.1, fun j x v hj hv => (hr.2 j x v hj hv).weak h⟩, r.2⟩
 | .ag xs, v, r => by simp only [RelT] at r ⊢; obtain ⟨vs, hv, hr⟩ := r; exact ⟨vs, hv, RelTs.weak h hr⟩
 | .addr _ _, v, r | .any, v, r | .arr _ _, v, r | .elt _ _ _, v, r | .mp _, v, r | .it _, v, r | .yl _, v, r | .tr _, v, r => by simp only [RelT] at r ⊢ <;> exact r
 | .tok _, v, r | .tkd _ _ _ _, v, r | .own _ _ _, v, r | .arrc _ _ _ _, v, r | .mapc _ _ _ _ _, v, r | .itc _ _, v, r => by simp only [RelT] at r
theorem RelTs.weak {G : Gh} {w : World} {O O' : Nat → Prop} (h : ∀ b, O b → O' b) : ∀ {xs : List T} {vs : List Value}, RelTs G w O xs vs → RelTs G w O' xs vs
 | [], vs, r => by simp only [RelTs] at r ⊢; exact r
 | x :: xs, vs, r => by
  simp only [RelTs] at r ⊢
  obtain ⟨v, us, hv, h1, h2⟩ := r
  exact ⟨v, us, hv, RelT.weak h h1, RelTs.weak h h2⟩
end
theorem Mem.keep {Y : TypeId → Ty} {m : Env} {w w' : World} {G : Gh} (h1 : ∀ k, m.get 1 k = .any) (hb : ∀ id, m.get 2 id ≠ .any → w'.heap[G.bk id]? = w.heap[G.bk id]?) (hk : KeepV G.vis w w') (hs : Same w w') (M : Mem Y (fun _ => False) m w G) : Mem Y (fun _ => False) m w' G := by
 have hext : Ext (fun _ => False) G G w w' := ⟨fun _ => Nat.le_refl _, hk, fun _ h => h.elim⟩
 refine ⟨fun id k hid => ?_, fun id hid => ?_, M.inj⟩
 ·obtain ⟨q1, q2, u, q3, q4⟩ := M.cells id k hid
  refine ⟨q1, q2, u, ?_, VOK.mono hext (fun _ _ => rfl) (fun _ h => h) (fun k h => absurd (h1 k) h) (fun k b h => absurd (h1 k) h) q4⟩
  rw [World.cell?_of_block (hb id (by rw [q1]; exact live_ne))]
  exact q3
 ·obtain ⟨q1, q2, q3⟩ := M.box id hid
  refine ⟨q1, Nat.lt_of_lt_of_le q2 hs.size, ?_⟩
  have hh := hb id hid
  unfold ObjOK at q3 ⊢
  split at q3
  ·rw [hh]; exact q3
  ·rw [hh]
   obtain ⟨⟨cs, t, z, h3, hz, h4, h5⟩, h6⟩ := q3
   refine ⟨⟨cs, t, z, h3, hz, h4, fun i hi => ?_⟩, h6⟩
   obtain ⟨h7, h8⟩ := h5 i hi
   exact ⟨h7, fun j c hc => by obtain ⟨u, h9, h10⟩ := h8 j c hc; exact ⟨u, h9, h10.mono hext⟩⟩
  ·rw [hh]
   obtain ⟨⟨es, cl, h3, h4, h5⟩, h6⟩ := q3
   exact ⟨⟨es, cl, h3, h4, fun i en k he hk => ⟨(h5 i en k he hk).1, (h5 i en k he hk).2.mono hext⟩⟩, h6⟩
  ·rw [hh]; exact q3
  ·exact q3.elim
end Go.Vc
namespace Go.Vc.Gd
open Go Go.Proofs Go.Vc Go.RowKit
variable {Gl : World → Prop}
inductive AttR : Res → List D → Prop
 | ok : AttR (.ret (.tup [])) [.agg [Ci 0, Ci 0], .c (Ci 0)]
 | foul (x y : Int) : AttR (.pan (.iface 118 (.agg #[.int .i64 x, .int .i64 y]))) [.agg [Ci x, Ci y], .c (Ci 7)]
 | text (s : ByteArray) : AttR (.pan (.iface 183 (.agg #[.string s]))) [.agg [Ci 0, Ci 0], .c (Ci 4)]
theorem attW_size (w : World) : (attW w).heap.size = w.heap.size + 2 := by simp [attW, World.size_alloc]
theorem attW_lt (w : World) {b : Nat} (h : b < w.heap.size) : (attW w).heap[b]? = w.heap[b]? := by
 unfold attW
 rw [heap_alloc_lt _ _ (by rw [World.size_alloc]; omega), heap_alloc_lt _ _ h]
theorem attW_same (w : World) : Same w (attW w) := (same_alloc _ _).trans (same_alloc _ _)
theorem attW_one (w : World) : (attW w).heap[w.heap.size]? = some (.cells #[.int .i64 0, .int .i64 0] 118 (0, 0)) := by
 unfold attW
 rw [heap_alloc_lt _ _ (by rw [World.size_alloc]; omega)]
 exact World.alloc_heap_new w _
theorem attW_two (w : World) : (attW w).heap[w.heap.size + 1]? = some (.cells #[.int .i64 0] 30 (0, 0)) := by
 unfold attW
 have := World.alloc_heap_new (w.alloc (.cells #[.int .i64 0, .int .i64 0] 118 (0, 0))) (.cells #[.int .i64 0] 30 (0, 0))
 rw [World.size_alloc] at this
 exact this
theorem attW_keep {vis : Nat → Nat} {w : World} (h : ∀ b, w.heap.size ≤ b → vis b = 0) : KeepV vis w (attW w) :=
 ⟨fun b i hi => World.cell?_of_block (attW_lt w (by
  rcases Nat.lt_or_ge b w.heap.size with hb | hb
  ·exact hb
  ·rw [h b hb] at hi; omega)), fun b hb es c he => by rw [attW_lt w (Array.getElem?_eq_some_iff.1 he).1]; exact he⟩
theorem att_ret {base : Nat} {vis : Nat → Nat} {w : World} (x y e : Int) : RetOK base vis w (.tup [.agg [Ci x, Ci y], .c (Ci e)]) (.tuple #[.agg #[.int .i64 x, .int .i64 y], .int .i64 e]) := by
 refine ⟨_, rfl, rfl, fun j d v hd hv => ?_⟩
 match j, hd, hv with
 | 0, hd, hv =>
  simp at hd hv; subst hd; subst hv
  refine ⟨_, rfl, rfl, fun j c u hc hu => ?_⟩
  match j, hc, hu with
  | 0, hc, hu => simp at hc hu; subst hc; subst hu; exact .v _ rfl
  | 1, hc, hu => simp at hc hu; subst hc; subst hu; exact .v _ rfl
  | j + 2, hc, hu => simp at hc
 | 1, hd, hv => simp at hd hv; subst hd; subst hv; exact Rep.v _ rfl
 | j + 2, hd, hv => simp at hd
theorem attempt107 (S : Set Tryz.prog Y Gl) {g : FuncId} {fst caps : List T} {r : Res} {ds : List D} (h : Computes Tryz.prog Gl g (fst ++ caps) r) (ha : AttR r ds) : Computes Tryz.prog Gl 107 [.fn g fst caps] (.ret (.tup ds)) := by
 refine ⟨⟨_, Tryz.func107, name107, by kernel_rfl⟩, fun vis w vs hvis hgl hargs => ?_⟩
 simp only [RelTs, RelT] at hargs
 obtain ⟨v, vs1, hvs, ⟨us, cvs, rfl, hu, hc⟩, rfl⟩ := hargs
 obtain rfl : vs = #[.func (.func g) us cvs] := by rw [← Array.toArray_toList (xs := vs), hvs]
 have hb : Below w.heap.size w (attW w) := ⟨(attW_same w).os, (attW_same w).tape, (attW_same w).output, (attW_same w).size, fun k hk => attW_lt w hk⟩
 have hext : Ext (Lo w.heap.size) (Gh0 vis) (Gh0 vis) w (attW w) := ⟨fun _ => Nat.le_refl _, attW_keep hvis, fun b hb => attW_lt w hb⟩
 have hrel : RelTs (Gh0 vis) (attW w) (Lo (attW w).heap.size) (fst ++ caps) (us ++ cvs).toList := by
  rw [Array.toList_append]
  exact RelTs.weak (fun b hb => by have := attW_size w; unfold Lo at hb ⊢; omega) ((RelTs.mono hext (fun _ _ => rfl) hu).app (RelTs.mono hext (fun _ _ => rfl) hc))
 have hcall := h.2 vis (attW w) (us ++ cvs) (fun b hb => hvis b (by rw [attW_size] at hb; omega)) (S.gl _ _ hgl hb) hrel
 refine (attempt_calls g h.1 us cvs w _ hcall fun en w' ⟨hbe, han⟩ => ⟨?_, ?_, ?_⟩).mono ?_
 ·rw [hbe.block _ (by rw [attW_size]; omega)]; exact attW_one w
 ·rw [hbe.block _ (by rw [attW_size]; omega)]; exact attW_two w
 ·cases ha with
  | ok =>
   obtain ⟨v, vis', rfl, _, _, vs, rfl, hr⟩ := han
   obtain rfl : vs = #[] := by
    have := hr.1
    exact Array.eq_empty_of_size_eq_zero (by simpa using this.symm)
   exact .inl rfl
  | foul x y => exact .inr (.inl ⟨x, y, han⟩)
  | text s => exact .inr (.inr ⟨s, han⟩)
 ·rintro en w2 ⟨en0, w', ⟨hbe, han⟩, hs, hh, rfl⟩
  have hsz : w.heap.size ≤ w2.heap.size := by
   have h1 := hbe.size
   have h2 := hs.size
   rw [attW_size] at h1; omega
  refine ⟨⟨hs.os.trans (hbe.os.trans hb.os), hs.tape.trans (hbe.tape.trans hb.tape), hs.output.trans (hbe.output.trans hb.output), hsz, fun k hk => ?_⟩, _, vis, rfl, fun _ _ => rfl, fun b hb => hvis b (by omega), ?_⟩
  ·have h1 := hbe.size
   rw [attW_size] at h1
   rw [hh k (by omega) (by omega) (by omega), hbe.block k (by rw [attW_size]; omega), attW_lt w hk]
  ·cases ha with
   | ok =>
    obtain ⟨v, vis', rfl, _⟩ := han
    exact att_ret 0 0 0
   | foul x y =>
    have han : en0 = _ := han
    subst han
    exact att_ret x y 7
   | text s =>
    have han : en0 = _ := han
    subst han
    exact att_ret 0 0 4
theorem attempt107_does {g : FuncId} {fst caps : List T} {r : Res} {ds : List D} {pre post : Env} {yd : Yd} (hpre : preOK pre = true) (hpost : postOK pre post = true) (h : Does Tryz.prog Y Gl yd g (fst ++ caps) pre r post) (ha : AttR r ds) : Does Tryz.prog Y Gl yd 107 [.fn g fst caps] pre (.ret (.tup ds)) post := by
 obtain ⟨p0, p1, p2⟩ := preOK_get hpre
 obtain ⟨o1, o2, o3⟩ := postOK_get hpost
 refine ⟨⟨_, Tryz.func107, name107, by kernel_rfl⟩, fun J G w vs hst hgl hyl hfr hH hJ hmem hargs => ?_⟩
 simp only [RelTs, RelT] at hargs
 obtain ⟨v, vs1, hvs, ⟨us, cvs, rfl, hu, hc⟩, rfl⟩ := hargs
 obtain rfl : vs = #[.func (.func g) us cvs] := by rw [← Array.toArray_toList (xs := vs), hvs]
 have hkv := attW_keep (w := w) hfr
 have hext : Ext (fun _ => False) G G w (attW w) := ⟨fun _ => Nat.le_refl _, hkv, fun b hb => hb.elim⟩
 have hrel : RelTs G (attW w) (fun _ => False) (fst ++ caps) (us ++ cvs).toList := by
  rw [Array.toList_append]
  exact (RelTs.mono hext (fun _ _ => rfl) hu).app (RelTs.mono hext (fun _ _ => rfl) hc)
 have hbk : ∀ id, pre.get 2 id ≠ .any → G.bk id < w.heap.size := fun id hid => (hmem.box id hid).2.1
 have hJ1 := hst.1 _ _ _ _ _ hJ (fun b hb => attW_lt w (hH b hb)) hkv (attW_same w)
 have hmem1 : Mem Y (fun _ => False) pre (attW w) G := Mem.keep p1 (fun id hid => attW_lt w (hbk id hid)) hkv (attW_same w) hmem
 have hsz := attW_size w
 have hused : ∀ id, Env.get (over post pre) 2 id ≠ .any → pre.get 2 id ≠ .any := fun id hid => by
  rw [get_over] at hid
  split at hid
  ·rename_i hk
   have := o2 id hk
   intro hh
   rw [hh] at this
   unfold kindOK at this
   split at this <;> first | (rename_i hx; cases hx; done) | cases this
  ·exact hid
 have htok : ∀ k, Env.get (over post pre) 1 k = .any := fun k => by
  rw [get_over, o1 k, if_neg (by decide)]; exact p1 k
 have hcall := h.2 J G (attW w) (us ++ cvs) hst hgl hyl (fun b hb => hfr b (by omega)) (fun b hb => by have := hH b hb; omega) hJ1 hmem1 hrel
 refine (attempt_calls g h.1 us cvs w _ hcall fun en w' ⟨h1, h2, h3, h4, h5⟩ => ⟨?_, ?_, ?_⟩).mono ?_
 ·rw [h3 _ (by omega) (fun hh => by have := hH _ hh; omega) (fun id hid hh => by have := hbk id hid; omega)]; exact attW_one w
 ·rw [h3 _ (by omega) (fun hh => by have := hH _ hh; omega) (fun id hid hh => by have := hbk id hid; omega)]; exact attW_two w
 ·obtain ⟨G', _, _, _, _, _, _, _, hr⟩ := h5
  cases ha with
  | ok =>
   obtain ⟨v, rfl, vs, rfl, hr⟩ := hr
   obtain rfl : vs = #[] := by
    have := hr.1
    exact Array.eq_empty_of_size_eq_zero (by simpa using this.symm)
   exact .inl rfl
  | foul x y => exact .inr (.inl ⟨x, y, hr⟩)
  | text s => exact .inr (.inr ⟨s, hr⟩)
 ·rintro en w2 ⟨en0, w', ⟨h1, h2, h3, h4, h5⟩, hs, hh, rfl⟩
  have s1 := h1.size
  have s2 := hs.size
  obtain ⟨G', g1, g2, g3, g4, g5, g6, g7, hr⟩ := h5
  have hkeep2 : ∀ vis : Nat → Nat, (∀ b, w'.heap.size ≤ b → vis b = 0) → vis w.heap.size = 0 → vis (w.heap.size + 1) = 0 → KeepV vis w' w2 := fun vis v1 v2 v3 => by
   have hv : ∀ b, 0 < vis b → w2.heap[b]? = w'.heap[b]? := fun b hb => hh b (by
    rcases Nat.lt_or_ge b w'.heap.size with h | h
    ·exact h
    ·rw [v1 b h] at hb; omega) (fun h => by rw [h, v2] at hb; omega) (fun h => by rw [h, v3] at hb; omega)
   exact ⟨fun b i hi => World.cell?_of_block (hv b (by omega)), fun b hb es c he => by rw [hv b hb]; exact he⟩
  have hH' : ∀ b, G'.H b → w2.heap[b]? = w'.heap[b]? := fun b hb => by
   refine hh b (g5 b hb) (fun he => ?_) (fun he => ?_)
   ·have := hH b ((g4 b (by omega)).1 hb); omega
   ·have := hH b ((g4 b (by omega)).1 hb); omega
  have v1 : G'.vis w.heap.size = 0 := by rw [g2 _ (by omega)]; exact hfr _ (by omega)
  have v2 : G'.vis (w.heap.size + 1) = 0 := by rw [g2 _ (by omega)]; exact hfr _ (by omega)
  refine ⟨((attW_same w).trans h1).trans hs, (hkv.trans h2).trans (hkeep2 G.vis (fun b hb => hfr b (by omega)) (hfr _ (by omega)) (hfr _ (by omega))), fun b hb hn hno => ?_, fun id k hl hk => ?_, G', g1, fun b hb => g2 b (by omega), fun b hb => g3 b (by omega),
   fun b hb => g4 b (by omega), fun b hb => by have := g5 b hb; omega, hst.1 _ _ _ _ _ g6 hH' (hkeep2 G'.vis g3 v1 v2) hs, Mem.keep htok (fun id hid => ?_) (hkeep2 G'.vis g3 v1 v2) hs g7, ?_⟩
  ·rw [hh b (by omega) (by omega) (by omega), h3 b (by omega) hn hno, attW_lt w hb]
  ·have hid : pre.get 2 id ≠ .any := by rw [hl]; exact live_ne
   have hlt := hbk id hid
   rw [World.cell?_of_block (show w2.heap[G.bk id]? = w'.heap[G.bk id]? from hh _ (by omega) (by omega) (by omega)), h4 id k hl hk, World.cell?_of_block (show (attW w).heap[G.bk id]? = w.heap[G.bk id]? from attW_lt w hlt)]
  ·have hlt := hbk id (hused id hid)
   rw [g1]
   exact hh _ (by omega) (by omega) (by omega)
  ·cases ha with
   | ok =>
    obtain ⟨v, rfl, _⟩ := hr
    exact ⟨_, rfl, att_ret 0 0 0⟩
   | foul x y =>
    have hr : en0 = _ := hr
    subst hr
    exact ⟨_, rfl, att_ret x y 7⟩
   | text s =>
    have hr : en0 = _ := hr
    subst hr
    exact ⟨_, rfl, att_ret 0 0 4⟩
end Go.Vc.Gd
namespace Go.Vc.Gd
open Go Go.Proofs Go.Vc
variable {Gl : World → Prop}
def c190 (b : Book) (x : Task) : List C := [.l eComp b.comps, .l eI b.dues, .l eI b.sheets, Ci x.one, Ci x.other, Ci x.third]
theorem nobody139 (S : Set Tryz.prog Y Gl) (b : Book) (x : Task) : Computes Tryz.prog Gl 139 [.d (.agg (c190 b x))] (.ret (B (!(b.isComp x.one && b.isComp x.other && b.isComp x.third)))) := by
 refine fn_is S (.r (.ret (B (Book.isComp b x.1))) (.r (.ret (B (Book.isComp b x.2))) (.r (.ret (B (Book.isComp b x.3))) .nil))) Tryz.func139 (by kernel_rfl) (Computes Tryz.prog Gl 92 [tBook b,I x.1] (.ret (B (Book.isComp b x.1)))∧(eqB (!Book.isComp b x.1) false=true→eqB (!Book.isComp b x.1) false=true)∧(eqB (!Book.isComp b x.1) false=true→eqB (!Book.isComp b x.1) false=true)∧(eqB (!Book.isComp b x.1) false=true→eqB (!Book.isComp b x.1) false=true)∧(eqB (!Book.isComp b x.1) false=true→eqB (!Book.isComp b x.1) false=true)∧(eqB (!Book.isComp b x.1) false=true→eqB (!Book.isComp b x.1) false=true)∧(eqB (!Book.isComp b x.1) false=true→Computes Tryz.prog Gl 92 [tBook b,I x.2] (.ret (B (Book.isComp b x.2))))∧(eqB (!Book.isComp b x.1) false=true→eqB (!Book.isComp b x.1) false=true)∧((!Book.isComp b x.1)=false→eqB (!Book.isComp b x.1) false=true)∧(eqB (bif !Book.isComp b x.1 then true else !Book.isComp b x.2) false=true→eqB (bif !Book.isComp b x.1 then true else !Book.isComp b x.2) false=true)∧(eqB (bif !Book.isComp b x.1 then true else !Book.isComp b x.2) false=true→eqB (bif !Book.isComp b x.1 then true else !Book.isComp b x.2) false=true)∧(eqB (bif !Book.isComp b x.1 then true else !Book.isComp b x.2) false=true→eqB (bif !Book.isComp b x.1 then true else !Book.isComp b x.2) false=true)∧(eqB (bif !Book.isComp b x.1 then true else !Book.isComp b x.2) false=true→eqB (bif !Book.isComp b x.1 then true else !Book.isComp b x.2) false=true)∧(eqB (bif !Book.isComp b x.1 then true else !Book.isComp b x.2) false=true→eqB (bif !Book.isComp b x.1 then true else !Book.isComp b x.2) false=true)∧(eqB (bif !Book.isComp b x.1 then true else !Book.isComp b x.2) false=true→Computes Tryz.prog Gl 92 [tBook b,I x.3] (.ret (B (Book.isComp b x.3))))∧(eqB (bif !Book.isComp b x.1 then true else !Book.isComp b x.2) false=true→eqB (bif !Book.isComp b x.1 then true else !Book.isComp b x.2) false=true)∧((bif !Book.isComp b x.1 then true else !Book.isComp b x.2)=false→eqB (bif !Book.isComp b x.1 then true else !Book.isComp b x.2) false=true)∧(bif bif !Book.isComp b x.1 then true else !Book.isComp b x.2 then true else !Book.isComp b x.3)=!(Book.isComp b x.1&&Book.isComp b x.2&&Book.isComp b x.3)) (by kernel_rfl) ?_
 simp only [stdS, imp_self, implies_true, and_true, comp92 S b]
 cases h1 : b.isComp x.one <;> cases h2 : b.isComp x.other <;> cases h3 : b.isComp x.third <;> simp
theorem twice140 (S : Set Tryz.prog Y Gl) (b : Book) (x : Task) : Computes Tryz.prog Gl 140 [.d (.agg (c190 b x))] (.ret (B (x.one == x.other || x.one == x.third || x.other == x.third))) := by
 refine fn_is S (.nil) Tryz.func140 (by kernel_rfl) ((eqB (x.1==x.2) false=true→eqB (x.1==x.2) false=true)∧(eqB (x.1==x.2) false=true→eqB (x.1==x.2) false=true)∧(eqB (x.1==x.2) false=true→eqB (x.1==x.2) false=true)∧(eqB (x.1==x.2) false=true→eqB (x.1==x.2) false=true)∧(eqB (x.1==x.2) false=true→eqB (x.1==x.2) false=true)∧(eqB (x.1==x.2) false=true→eqB (x.1==x.2) false=true)∧((x.1==x.2)=false→eqB (x.1==x.2) false=true)∧(eqB (bif x.1==x.2 then true else x.1==x.3) false=true→eqB (bif x.1==x.2 then true else x.1==x.3) false=true)∧(eqB (bif x.1==x.2 then true else x.1==x.3) false=true→eqB (bif x.1==x.2 then true else x.1==x.3) false=true)∧(eqB (bif x.1==x.2 then true else x.1==x.3) false=true→eqB (bif x.1==x.2 then true else x.1==x.3) false=true)∧(eqB (bif x.1==x.2 then true else x.1==x.3) false=true→eqB (bif x.1==x.2 then true else x.1==x.3) false=true)∧(eqB (bif x.1==x.2 then true else x.1==x.3) false=true→eqB (bif x.1==x.2 then true else x.1==x.3) false=true)∧(eqB (bif x.1==x.2 then true else x.1==x.3) false=true→eqB (bif x.1==x.2 then true else x.1==x.3) false=true)∧((bif x.1==x.2 then true else x.1==x.3)=false→eqB (bif x.1==x.2 then true else x.1==x.3) false=true)∧(bif bif x.1==x.2 then true else x.1==x.3 then true else x.2==x.3)=(x.1==x.2||x.1==x.3||x.2==x.3)) (by kernel_rfl) ?_
 simp only [stdS, imp_self, implies_true, and_true]
theorem order141 (S : Set Tryz.prog Y Gl) (b : Book) (x : Task) : Computes Tryz.prog Gl 141 [.d (.agg (c190 b x))] (.ret (B (decide (x.other < x.one)))) := by
 refine fn_is S (.nil) Tryz.func141 (by kernel_rfl) (decide (x.2<x.1)=decide (x.2<x.1)) (by kernel_rfl) ?_
 rfl
theorem together142 (S : Set Tryz.prog Y Gl) (b : Book) (x : Task) (h1 : b.isComp x.one = true) (h2 : b.isComp x.other = true) : Computes Tryz.prog Gl 142 [.d (.agg (c190 b x))] (.ret (B ((nth b.comps x.one.toNat).room == (nth b.comps x.other.toNat).room))) := by
 refine fn_is S (.nil) Tryz.func142 (by kernel_rfl) (((0:Int)≤x.1∧x.1<(↑b.1.length:Int))∧((0:Int)≤x.2∧x.2<(↑b.1.length:Int))∧((nth b.1 (Int.toNat x.1)).1==(nth b.1 (Int.toNat x.2)).1)=((nth b.1 (Int.toNat x.1)).1==(nth b.1 (Int.toNat x.2)).1)) (by kernel_rfl) ?_
 simp only [Book.isComp, inR_iff] at h1 h2
 exact ⟨by omega, by omega, rfl⟩
theorem check115ok (S : Set Tryz.prog Y Gl) (b : Book) (s : Int) (x : Task) (hf : b.fault x = 0) : Computes Tryz.prog Gl 115 [tBook b, I s, tTask x] (.ret (.tup [])) := by
 refine fn_is S (.un (5:Nat) (.tt (.r (.ret (B !(Book.isComp b (Task.one {one:=x.1,other:=x.2,third:=x.3})&&Book.isComp b (Task.other {one:=x.1,other:=x.2,third:=x.3})&&Book.isComp b (Task.third {one:=x.1,other:=x.2,third:=x.3})))) (.br .nil (.tt (.r (.ret (B (Task.one {one:=x.1,other:=x.2,third:=x.3}==Task.other {one:=x.1,other:=x.2,third:=x.3}||Task.one {one:=x.1,other:=x.2,third:=x.3}==Task.third {one:=x.1,other:=x.2,third:=x.3}||Task.other {one:=x.1,other:=x.2,third:=x.3}==Task.third {one:=x.1,other:=x.2,third:=x.3}))) (.br .nil (.tt (.r (.ret (B (decide (Task.other {one:=x.1,other:=x.2,third:=x.3}<Task.one {one:=x.1,other:=x.2,third:=x.3})))) (.br .nil (.tt (.r (.ret (B (Comp.room (nth (Book.comps b) (Int.toNat (Task.one {one:=x.1,other:=x.2,third:=x.3})))==Comp.room (nth (Book.comps b) (Int.toNat (Task.other {one:=x.1,other:=x.2,third:=x.3})))))) (.br .nil (.ff .nil)))))))))))))) Tryz.func115 (by kernel_rfl) (true=true∧Computes Tryz.prog Gl 139 [T.d (D.agg (c190 b {one:=x.1,other:=x.2,third:=x.3}))] (.ret (B !(Book.isComp b (Task.one {one:=x.1,other:=x.2,third:=x.3})&&Book.isComp b (Task.other {one:=x.1,other:=x.2,third:=x.3})&&Book.isComp b (Task.third {one:=x.1,other:=x.2,third:=x.3}))))∧((!(Book.isComp b x.1&&Book.isComp b x.2&&Book.isComp b x.3))=true→False)∧((!(Book.isComp b x.1&&Book.isComp b x.2&&Book.isComp b x.3))=false→inRange IntKind.i64 ((1:Int)+1)∧true=true∧Computes Tryz.prog Gl 140 [T.d (D.agg (c190 b {one:=x.1,other:=x.2,third:=x.3}))] (.ret (B (Task.one {one:=x.1,other:=x.2,third:=x.3}==Task.other {one:=x.1,other:=x.2,third:=x.3}||Task.one {one:=x.1,other:=x.2,third:=x.3}==Task.third {one:=x.1,other:=x.2,third:=x.3}||Task.other {one:=x.1,other:=x.2,third:=x.3}==Task.third {one:=x.1,other:=x.2,third:=x.3})))∧((x.1==x.2||x.1==x.3||x.2==x.3)=true→False)∧((x.1==x.2||x.1==x.3||x.2==x.3)=false→inRange IntKind.i64 ((1:Int)+1+(1:Int))∧true=true∧Computes Tryz.prog Gl 141 [T.d (D.agg (c190 b {one:=x.1,other:=x.2,third:=x.3}))] (.ret (B (decide (Task.other {one:=x.1,other:=x.2,third:=x.3}<Task.one {one:=x.1,other:=x.2,third:=x.3}))))∧(decide (x.2<x.1)=true→False)∧(decide (x.2<x.1)=false→inRange IntKind.i64 ((1:Int)+1+(1:Int)+1)∧true=true∧Computes Tryz.prog Gl 142 [T.d (D.agg (c190 b {one:=x.1,other:=x.2,third:=x.3}))] (.ret (B (Comp.room (nth (Book.comps b) (Int.toNat (Task.one {one:=x.1,other:=x.2,third:=x.3})))==Comp.room (nth (Book.comps b) (Int.toNat (Task.other {one:=x.1,other:=x.2,third:=x.3}))))))∧(((nth b.1 (Int.toNat x.1)).1==(nth b.1 (Int.toNat x.2)).1)=true→False)∧(((nth b.1 (Int.toNat x.1)).1==(nth b.1 (Int.toNat x.2)).1)=false→inRange IntKind.i64 ((1:Int)+1+(1:Int)+1+(1:Int))∧false=false∧True))))) (by kernel_rfl) ?_
 have c1 := nobody139 S b x
 have c2 := twice140 S b x
 have c3 := order141 S b x
 have c4 := together142 S b x
 obtain ⟨⟨a1, a2, a3⟩, ⟨n1, n2, n3⟩, le, rm⟩ := fault_zero hf
 refine ⟨rfl, c1, fun h => ?_, fun _ => ⟨(rng_iff _).2 (by decide), rfl, c2, fun h => ?_, fun _ => ⟨(rng_iff _).2 (by decide), rfl, c3, fun h => ?_, fun _ => ⟨(rng_iff _).2 (by decide), rfl, c4 a1 a2, fun h => ?_, fun _ => ⟨(rng_iff _).2 (by decide), rfl, trivial⟩⟩⟩⟩⟩
 ·rw [a1, a2, a3] at h; cases h
 ·simp only [Bool.or_eq_true, beq_iff_eq] at h
  rcases h with (h | h) | h
  ·exact n1 h
  ·exact n2 h
  ·exact n3 h
 ·have := of_decide_eq_true h; omega
 ·exact rm (eq_of_beq h)
theorem check115bad (S : Set Tryz.prog Y Gl) (b : Book) (s : Int) (x : Task) (hf : b.fault x ≠ 0) : Computes Tryz.prog Gl 115 [tBook b, I s, tTask x] (.pan (.iface 118 (.agg #[.int .i64 s, .int .i64 (b.fault x)]))) := by
 refine fn_is S (.un (5:Nat) (.tt (.r (.ret (B !(Book.isComp b (Task.one {one:=x.1,other:=x.2,third:=x.3})&&Book.isComp b (Task.other {one:=x.1,other:=x.2,third:=x.3})&&Book.isComp b (Task.third {one:=x.1,other:=x.2,third:=x.3})))) (.br .nil (.tt (.r (.ret (B (Task.one {one:=x.1,other:=x.2,third:=x.3}==Task.other {one:=x.1,other:=x.2,third:=x.3}||Task.one {one:=x.1,other:=x.2,third:=x.3}==Task.third {one:=x.1,other:=x.2,third:=x.3}||Task.other {one:=x.1,other:=x.2,third:=x.3}==Task.third {one:=x.1,other:=x.2,third:=x.3}))) (.br .nil (.tt (.r (.ret (B (decide (Task.other {one:=x.1,other:=x.2,third:=x.3}<Task.one {one:=x.1,other:=x.2,third:=x.3})))) (.br .nil (.tt (.r (.ret (B (Comp.room (nth (Book.comps b) (Int.toNat (Task.one {one:=x.1,other:=x.2,third:=x.3})))==Comp.room (nth (Book.comps b) (Int.toNat (Task.other {one:=x.1,other:=x.2,third:=x.3})))))) (.br .nil (.ff .nil)))))))))))))) Tryz.func115 (by kernel_rfl) (true=true∧Computes Tryz.prog Gl 139 [T.d (D.agg (c190 b {one:=x.1,other:=x.2,third:=x.3}))] (.ret (B !(Book.isComp b (Task.one {one:=x.1,other:=x.2,third:=x.3})&&Book.isComp b (Task.other {one:=x.1,other:=x.2,third:=x.3})&&Book.isComp b (Task.third {one:=x.1,other:=x.2,third:=x.3}))))∧((!(Book.isComp b x.1&&Book.isComp b x.2&&Book.isComp b x.3))=true→Value.iface (118:Nat) (Value.agg {toList:=[Value.int IntKind.i64 s,Value.int IntKind.i64 (1:Int)]})=Value.iface (118:Nat) (Value.agg {toList:=[Value.int IntKind.i64 s,Value.int IntKind.i64 (Book.fault b x)]}))∧((!(Book.isComp b x.1&&Book.isComp b x.2&&Book.isComp b x.3))=false→inRange IntKind.i64 ((1:Int)+1)∧true=true∧Computes Tryz.prog Gl 140 [T.d (D.agg (c190 b {one:=x.1,other:=x.2,third:=x.3}))] (.ret (B (Task.one {one:=x.1,other:=x.2,third:=x.3}==Task.other {one:=x.1,other:=x.2,third:=x.3}||Task.one {one:=x.1,other:=x.2,third:=x.3}==Task.third {one:=x.1,other:=x.2,third:=x.3}||Task.other {one:=x.1,other:=x.2,third:=x.3}==Task.third {one:=x.1,other:=x.2,third:=x.3})))∧((x.1==x.2||x.1==x.3||x.2==x.3)=true→Value.iface (118:Nat) (Value.agg {toList:=[Value.int IntKind.i64 s,Value.int IntKind.i64 ((1:Int)+1)]})=Value.iface (118:Nat) (Value.agg {toList:=[Value.int IntKind.i64 s,Value.int IntKind.i64 (Book.fault b x)]}))∧((x.1==x.2||x.1==x.3||x.2==x.3)=false→inRange IntKind.i64 ((1:Int)+1+(1:Int))∧true=true∧Computes Tryz.prog Gl 141 [T.d (D.agg (c190 b {one:=x.1,other:=x.2,third:=x.3}))] (.ret (B (decide (Task.other {one:=x.1,other:=x.2,third:=x.3}<Task.one {one:=x.1,other:=x.2,third:=x.3}))))∧(decide (x.2<x.1)=true→Value.iface (118:Nat) (Value.agg {toList:=[Value.int IntKind.i64 s,Value.int IntKind.i64 ((1:Int)+1+(1:Int))]})=Value.iface (118:Nat) (Value.agg {toList:=[Value.int IntKind.i64 s,Value.int IntKind.i64 (Book.fault b x)]}))∧(decide (x.2<x.1)=false→inRange IntKind.i64 ((1:Int)+1+(1:Int)+1)∧true=true∧Computes Tryz.prog Gl 142 [T.d (D.agg (c190 b {one:=x.1,other:=x.2,third:=x.3}))] (.ret (B (Comp.room (nth (Book.comps b) (Int.toNat (Task.one {one:=x.1,other:=x.2,third:=x.3})))==Comp.room (nth (Book.comps b) (Int.toNat (Task.other {one:=x.1,other:=x.2,third:=x.3}))))))∧(((nth b.1 (Int.toNat x.1)).1==(nth b.1 (Int.toNat x.2)).1)=true→Value.iface (118:Nat) (Value.agg {toList:=[Value.int IntKind.i64 s,Value.int IntKind.i64 ((1:Int)+1+(1:Int)+1)]})=Value.iface (118:Nat) (Value.agg {toList:=[Value.int IntKind.i64 s,Value.int IntKind.i64 (Book.fault b x)]}))∧(((nth b.1 (Int.toNat x.1)).1==(nth b.1 (Int.toNat x.2)).1)=false→inRange IntKind.i64 ((1:Int)+1+(1:Int)+1+(1:Int))∧false=false∧False))))) (by kernel_rfl) ?_
 have c1 := nobody139 S b x
 have c2 := twice140 S b x
 have c3 := order141 S b x
 have c4 := together142 S b x
 have e : ∀ y, b.fault x = y → Value.iface 118 (.agg #[.int .i64 s, .int .i64 y]) = Value.iface 118 (.agg #[.int .i64 s, .int .i64 (b.fault x)]) := fun y h => by rw [h]
 have hb : b.fault x = (bif !(b.isComp x.one && b.isComp x.other && b.isComp x.third) then 1
  else bif x.one == x.other || x.one == x.third || x.other == x.third then 2
  else bif decide (x.other < x.one) then 3
  else bif (nth b.comps x.one.toNat).room == (nth b.comps x.other.toNat).room then 4 else 0) := rfl
 refine ⟨rfl, c1, fun h => e _ ?_, fun h1 => ⟨(rng_iff _).2 (by decide), rfl, c2, fun h => e _ ?_, fun h2 => ⟨(rng_iff _).2 (by decide), rfl, c3, fun h => e _ ?_, fun h3 => ⟨(rng_iff _).2 (by decide), rfl, c4 ?_ ?_, fun h => e _ ?_, fun h4 => ?_⟩⟩⟩⟩
 ·rw [hb, h]; rfl
 ·rw [hb, h1, h]; rfl
 ·rw [hb, h1, h2, h]; rfl
 ·simp only [Bool.not_eq_eq_eq_not, Bool.not_false, Bool.and_eq_true] at h1; exact h1.1.1
 ·simp only [Bool.not_eq_eq_eq_not, Bool.not_false, Bool.and_eq_true] at h1; exact h1.1.2
 ·rw [hb, h1, h2, h3, h]; rfl
 ·rw [hb, h1, h2, h3, h4] at hf
  exact absurd rfl hf
end Go.Vc.Gd
namespace Go.Vc.Gd
open Go Go.Proofs Go.Vc
variable {Gl : World → Prop}
def chkErr (f : Int) : Int := bif f == 0 then 0 else 7
theorem tasks149ok (S : Set Tryz.prog Y Gl) (b : Book) (x : Task) (hf : b.fault x = 0) : Computes Tryz.prog Gl 149 [.d (.rd (cBook b)), .d (.rd (eTask x))] (.ret (.tup [])) := by
 refine fn_is S (.r (.ret (.tup [])) .nil) Tryz.func149 (by kernel_rfl) (Computes Tryz.prog Gl 115 [tBook b,I 0,tTask {one:=x.1,other:=x.2,third:=x.3}] (.ret (.tup []))∧True) (by kernel_rfl) ?_
 exact ⟨check115ok S b 0 x hf, trivial⟩
theorem tasks149bad (S : Set Tryz.prog Y Gl) (b : Book) (x : Task) (hf : b.fault x ≠ 0) : Computes Tryz.prog Gl 149 [.d (.rd (cBook b)), .d (.rd (eTask x))] (.pan (.iface 118 (.agg #[.int .i64 0, .int .i64 (b.fault x)]))) := by
 refine fn_is S (.r (Res.pan (Value.iface (118:TypeId) (Value.agg #[Value.int IntKind.i64 (0:Int),Value.int IntKind.i64 (Book.fault b {one:=x.1,other:=x.2,third:=x.3})]))) .nil) Tryz.func149 (by kernel_rfl) (Computes Tryz.prog Gl 115 [tBook b,I 0,tTask {one:=x.1,other:=x.2,third:=x.3}] (Res.pan (Value.iface (118:TypeId) (Value.agg #[Value.int IntKind.i64 (0:Int),Value.int IntKind.i64 (Book.fault b {one:=x.1,other:=x.2,third:=x.3})])))∧Value.iface (118:Nat) (Value.agg {toList:=[Value.int IntKind.i64 (0:Int),Value.int IntKind.i64 (Book.fault b {one:=x.1,other:=x.2,third:=x.3})]})=Value.iface (118:Nat) (Value.agg {toList:=[Value.int IntKind.i64 (0:Int),Value.int IntKind.i64 (Book.fault b x)]})) (by kernel_rfl) ?_
 exact ⟨check115bad S b 0 x hf, rfl⟩
theorem attTask (S : Set Tryz.prog Y Gl) (b : Book) (x : Task) : Computes Tryz.prog Gl 107 [.fn 149 [] [.d (.rd (cBook b)), .d (.rd (eTask x))]] (.ret (.tup [.agg [Ci 0, Ci (b.fault x)], .c (Ci (chkErr (b.fault x)))])) := by
 by_cases h : b.fault x = 0
 ·have := attempt107 S (fst := []) (tasks149ok S b x h) .ok
  rw [h]; exact this
 ·have := attempt107 S (fst := []) (tasks149bad S b x h) (.foul 0 (b.fault x))
  unfold chkErr
  rw [beq_eq_false_iff_ne.2 h]
  exact this
theorem why_none {b : Book} {plan : List Task} (h : b.isWhy plan = false) : ∀ i, i < plan.length → b.fault (nth plan i) = 0 := fun i hi => by
 unfold Book.isWhy at h
 simp only [Bool.not_eq_eq_eq_not, Bool.not_false, List.all_eq_true, beq_iff_eq] at h
 exact h _ (nth_mem hi)
theorem why_some {b : Book} {plan : List Task} (h : b.isWhy plan = true) : b.why plan < plan.length ∧ b.fault (nth plan (b.why plan)) ≠ 0 ∧ b.why1 plan = b.why plan ∧ b.why2 plan = b.fault (nth plan (b.why plan)) := by
 have hlt : b.why plan < plan.length := by
  rcases Nat.lt_or_ge (b.why plan) plan.length with hl | hl
  ·exact hl
  ·have := upto_all (p := fun t => b.fault t == 0) (l := plan) hl
   unfold Book.isWhy at h
   rw [this] at h
   cases h
 refine ⟨hlt, fun h0 => ?_, ?_, ?_⟩
 ·have := upto_at (p := fun t => b.fault t == 0) hlt
  rw [beq_eq_false_iff_ne] at this
  exact this h0
 ·unfold Book.why1; rw [h]; rfl
 ·unfold Book.why2; rw [h]; rfl
theorem why_before {b : Book} {plan : List Task} {i : Nat} (h : i < b.why plan) : b.fault (nth plan i) = 0 := by
 have := upto_before (p := fun t => b.fault t == 0) h
 exact eq_of_beq this
theorem open114ok (S : Set Tryz.prog Y Gl) (b : Book) (plan : List Task) (hf : b.isWhy plan = false) : Computes Tryz.prog Gl 114 [.d (.rd [.l eTask plan]), .d (.rd (cBook b))] (.ret (.tup [])) := by
 refine fn_is S (.loop plan.length (fun k=>[v 6 (I ↑k),v 5 (I ↑plan.length),v 4 (L eTask plan),v 1 (T.d (D.rd (cBook b)))]) fun k0=>.br (.r (.ret (.tup [])) .nil) .nil) Tryz.func114 (by kernel_rfl) (plan.length≤maxLen→(0=(↑(0:Nat):Int)∧(↑plan.length:Int)=(↑plan.length:Int)∧(SEq plan.length (fun i=>eTask (nth plan i)) plan.length fun i=>eTask (nth plan i))∧(SEq b.1.length (fun i=>eComp (nth b.1 i)) b.1.length fun i=>eComp (nth b.1 i))∧(SEq b.2.length (fun i=>eI (nth b.2 i)) b.2.length fun i=>eI (nth b.2 i))∧SEq b.3.length (fun i=>eI (nth b.3 i)) b.3.length fun i=>eI (nth b.3 i))∧∀ (k0:Nat),k0≤plan.length→(decide ((↑k0:Int)<(↑plan.length:Int))=true→(0≤(↑k0:Int)∧(↑k0:Int)<(↑plan.length:Int))∧Computes Tryz.prog Gl 115 [tBook b,I ↑k0,tTask {one:=(nth plan k0).1,other:=(nth plan k0).2,third:=(nth plan k0).3}] (.ret (.tup []))∧inRange IntKind.i64 ((↑k0:Int)+1)∧k0<plan.length∧(↑k0:Int)+1=(↑(k0+1):Int)∧(↑plan.length:Int)=(↑plan.length:Int)∧(SEq plan.length (fun i=>eTask (nth plan i)) plan.length fun i=>eTask (nth plan i))∧(SEq b.1.length (fun i=>eComp (nth b.1 i)) b.1.length fun i=>eComp (nth b.1 i))∧(SEq b.2.length (fun i=>eI (nth b.2 i)) b.2.length fun i=>eI (nth b.2 i))∧SEq b.3.length (fun i=>eI (nth b.3 i)) b.3.length fun i=>eI (nth b.3 i))∧(decide ((↑k0:Int)<(↑plan.length:Int))=false→True)) (by kernel_rfl) ?_
 simp only [stdS, imp_self, implies_true, and_true, decide_eq_true_eq, decide_eq_false_iff_not, maxLen_eq, rng_iff]
 refine fun _ k hk => ⟨fun hl => ⟨by omega, check115ok S b k _ (why_none hf k (by omega)), by omega, by omega, by omega, trivial⟩, trivial⟩
theorem open114bad (S : Set Tryz.prog Y Gl) (b : Book) (plan : List Task) (hf : b.isWhy plan = true) : Computes Tryz.prog Gl 114 [.d (.rd [.l eTask plan]), .d (.rd (cBook b))] (.pan (.iface 118 (.agg #[.int .i64 (b.why1 plan), .int .i64 (b.why2 plan)]))) := by
 refine fn_is S (.loop (Book.why b plan) (fun k=>[v 6 (I ↑k),v 5 (I ↑plan.length),v 4 (L eTask plan),v 1 (T.d (D.rd (cBook b)))]) fun k0=>.ite (decide (k0<Book.why b plan)) (.br (.r (.ret (.tup [])) .nil) .nil) (.br (.r (Res.pan (Value.iface (118:TypeId) (Value.agg #[Value.int IntKind.i64 (↑k0:Int),Value.int IntKind.i64 (Book.fault b {one:=(nth plan k0).1,other:=(nth plan k0).2,third:=(nth plan k0).3})]))) .nil) .nil)) Tryz.func114 (by kernel_rfl) (plan.length≤maxLen→(0=(↑(0:Nat):Int)∧(↑plan.length:Int)=(↑plan.length:Int)∧(SEq plan.length (fun i=>eTask (nth plan i)) plan.length fun i=>eTask (nth plan i))∧(SEq b.1.length (fun i=>eComp (nth b.1 i)) b.1.length fun i=>eComp (nth b.1 i))∧(SEq b.2.length (fun i=>eI (nth b.2 i)) b.2.length fun i=>eI (nth b.2 i))∧SEq b.3.length (fun i=>eI (nth b.3 i)) b.3.length fun i=>eI (nth b.3 i))∧∀ (k0:Nat),k0≤Book.why b plan→(decide (k0<Book.why b plan)=true→(decide ((↑k0:Int)<(↑plan.length:Int))=true→(0≤(↑k0:Int)∧(↑k0:Int)<(↑plan.length:Int))∧Computes Tryz.prog Gl 115 [tBook b,I ↑k0,tTask {one:=(nth plan k0).1,other:=(nth plan k0).2,third:=(nth plan k0).3}] (.ret (.tup []))∧inRange IntKind.i64 ((↑k0:Int)+1)∧k0<Book.why b plan∧(↑k0:Int)+1=(↑(k0+1):Int)∧(↑plan.length:Int)=(↑plan.length:Int)∧(SEq plan.length (fun i=>eTask (nth plan i)) plan.length fun i=>eTask (nth plan i))∧(SEq b.1.length (fun i=>eComp (nth b.1 i)) b.1.length fun i=>eComp (nth b.1 i))∧(SEq b.2.length (fun i=>eI (nth b.2 i)) b.2.length fun i=>eI (nth b.2 i))∧SEq b.3.length (fun i=>eI (nth b.3 i)) b.3.length fun i=>eI (nth b.3 i))∧(decide ((↑k0:Int)<(↑plan.length:Int))=false→False))∧(decide (k0<Book.why b plan)=false→(decide ((↑k0:Int)<(↑plan.length:Int))=true→(0≤(↑k0:Int)∧(↑k0:Int)<(↑plan.length:Int))∧Computes Tryz.prog Gl 115 [tBook b,I ↑k0,tTask {one:=(nth plan k0).1,other:=(nth plan k0).2,third:=(nth plan k0).3}] (Res.pan (Value.iface (118:TypeId) (Value.agg #[Value.int IntKind.i64 (↑k0:Int),Value.int IntKind.i64 (Book.fault b {one:=(nth plan k0).1,other:=(nth plan k0).2,third:=(nth plan k0).3})])))∧Value.iface (118:Nat) (Value.agg {toList:=[Value.int IntKind.i64 (↑k0:Int),Value.int IntKind.i64 (Book.fault b {one:=(nth plan k0).1,other:=(nth plan k0).2,third:=(nth plan k0).3})]})=Value.iface (118:Nat) (Value.agg {toList:=[Value.int IntKind.i64 (Book.why1 b plan),Value.int IntKind.i64 (Book.why2 b plan)]}))∧(decide ((↑k0:Int)<(↑plan.length:Int))=false→False))) (by kernel_rfl) ?_
 simp only [stdS, imp_self, implies_true, and_true, decide_eq_true_eq, decide_eq_false_iff_not, maxLen_eq, rng_iff]
 obtain ⟨w1, w2, w3, w4⟩ := why_some hf
 refine fun _ k hk => ⟨fun hw => ⟨fun hl => ⟨by omega, check115ok S b k _ (why_before hw), by omega, by omega, by omega, trivial⟩, fun hl => by omega⟩, fun hw => ⟨fun hl => ?_, fun hl => by omega⟩⟩
 have hke : k = b.why plan := by omega
 subst hke
 refine ⟨by omega, check115bad S b _ _ w2, ?_⟩
 rw [w3, w4]
def openErr (b : Book) (plan : List Task) : Int := bif b.ok && plan.length == b.sheets.length then (bif b.isWhy plan then 7 else 0) else 2
def openWork (b : Book) (plan : List Task) : Work := bif b.ok && plan.length == b.sheets.length then ⟨b, plan⟩ else ⟨⟨[], [], []⟩, []⟩
def openS (b : Book) (plan : List Task) : Int := bif b.ok && plan.length == b.sheets.length then b.why1 plan else 0
def openF (b : Book) (plan : List Task) : Int := bif b.ok && plan.length == b.sheets.length then b.why2 plan else 0
theorem attOpen (S : Set Tryz.prog Y Gl) (b : Book) (plan : List Task) : Computes Tryz.prog Gl 107 [.fn 114 [] [.d (.rd [.l eTask plan]), .d (.rd (cBook b))]] (.ret (.tup [.agg [Ci (b.why1 plan), Ci (b.why2 plan)], .c (Ci (bif b.isWhy plan then 7 else 0))])) := by
 cases h : b.isWhy plan with
 | false =>
  have := attempt107 S (fst := []) (open114ok S b plan h) .ok
  have e1 : b.why1 plan = 0 := by unfold Book.why1; rw [h]; rfl
  have e2 : b.why2 plan = 0 := by unfold Book.why2; rw [h]; rfl
  rw [e1, e2]; exact this
 | true => exact attempt107 S (fst := []) (open114bad S b plan h) (.foul _ _)
theorem open78 (S : Set Tryz.prog Y Gl) (b : Book) (plan : List Task) : Computes Tryz.prog Gl 78 [tBook b, L eTask plan] (.ret (.tup [.agg (cWork (openWork b plan)), .agg [Ci (openS b plan), Ci (openF b plan)], .c (Ci (openErr b plan))])) := by
 refine fn_is S (.r (.ret (B (Book.ok b))) (.br .nil (.r (.ret (.tup [D.agg [Ci (Book.why1 b plan),Ci (Book.why2 b plan)],D.c (Ci (bif Book.isWhy b plan then (7:Int) else (0:Int)))])) .nil))) Tryz.func78 (by kernel_rfl) (Computes Tryz.prog Gl 94 [tBook b] (.ret (B (Book.ok b)))∧(eqB (!Book.ok b) false=true→eqB (!Book.ok b) false=true)∧((eqB (!Book.ok b) false=true→plan.length≤maxLen)→(eqB (!Book.ok b) false=true→eqB (!Book.ok b) false=true)∧(eqB (!Book.ok b) false=true→eqB (!Book.ok b) false=true)∧((eqB (!Book.ok b) false=true→b.3.length≤maxLen)→(eqB (!Book.ok b) false=true→eqB (!Book.ok b) false=true)∧(eqB (!Book.ok b) false=true→eqB (!Book.ok b) false=true)∧((!Book.ok b)=false→eqB (!Book.ok b) false=true)∧((bif !Book.ok b then true else (↑plan.length:Int) != (↑b.3.length:Int))=true→List.length (openWork b plan).1.1=(0:Nat)∧List.length (openWork b plan).1.2=(0:Nat)∧List.length (openWork b plan).1.3=(0:Nat)∧List.length (openWork b plan).2=(0:Nat)∧(0:Int)=openS b plan∧(0:Int)=openF b plan∧(2:Int)=openErr b plan)∧((bif !Book.ok b then true else (↑plan.length:Int) != (↑b.3.length:Int))=false→Computes Tryz.prog Gl 107 [T.fn (114:FuncId) [] [T.d (D.rd [C.l eTask plan]),T.d (D.rd (cBook b))]] (.ret (.tup [D.agg [Ci (Book.why1 b plan),Ci (Book.why2 b plan)],D.c (Ci (bif Book.isWhy b plan then (7:Int) else (0:Int)))]))∧(SEq b.1.length (fun i=>eComp (nth b.1 i)) (List.length (openWork b plan).1.1) fun i=>eComp (nth (openWork b plan).1.1 i))∧(SEq b.2.length (fun i=>eI (nth b.2 i)) (List.length (openWork b plan).1.2) fun i=>eI (nth (openWork b plan).1.2 i))∧(SEq b.3.length (fun i=>eI (nth b.3 i)) (List.length (openWork b plan).1.3) fun i=>eI (nth (openWork b plan).1.3 i))∧(SEq plan.length (fun i=>eTask (nth plan i)) (List.length (openWork b plan).2) fun i=>eTask (nth (openWork b plan).2 i))∧Book.why1 b plan=openS b plan∧Book.why2 b plan=openF b plan∧(bif Book.isWhy b plan then (7:Int) else (0:Int))=openErr b plan)))) (by kernel_rfl) ?_
 simp only [stdS, imp_self, implies_true, and_true, fine94 S b, decide_eq_true_eq, decide_eq_false_iff_not, maxLen_eq, rng_iff]
 have key : (b.ok && plan.length == b.sheets.length) = !(!b.ok || ((plan.length : Int) != (b.sheets.length : Int))) := by
  have : ((plan.length : Int) != (b.sheets.length : Int)) = !(plan.length == b.sheets.length) := by
   simp only [bne]
   congr 1
   rw [Bool.eq_iff_iff]
   simp only [beq_iff_eq]
   omega
  rw [this]
  cases b.ok <;> cases (plan.length == b.sheets.length) <;> rfl
 unfold openWork openS openF openErr
 refine fun _ _ => ⟨fun h => ?_, fun h => ?_⟩
 ·rw [key, h]; exact ⟨rfl, rfl, rfl, rfl, rfl, rfl, rfl⟩
 ·rw [key, h]; exact ⟨attOpen S b plan, SEq_whole rfl, SEq_whole rfl, SEq_whole rfl, SEq_whole rfl, rfl, rfl, rfl⟩
theorem open_good {b : Book} {plan : List Task} (hb : b.ok = true) (hg : b.good plan = true) : openErr b plan = 0 ∧ openWork b plan = ⟨b, plan⟩ ∧ openS b plan = 0 ∧ openF b plan = 0 := by
 unfold Book.good at hg
 simp only [Bool.and_eq_true, Bool.not_eq_eq_eq_not, Bool.not_true] at hg
 unfold openErr openWork openS openF
 have e1 : b.why1 plan = 0 := by unfold Book.why1; rw [hg.2]; rfl
 have e2 : b.why2 plan = 0 := by unfold Book.why2; rw [hg.2]; rfl
 rw [hb, hg.1, hg.2, e1, e2]
 exact ⟨rfl, rfl, rfl, rfl⟩
theorem open78ok (S : Set Tryz.prog Y Gl) (b : Book) (plan : List Task) (hb : b.ok = true) (hg : b.good plan = true) : Computes Tryz.prog Gl 78 [tBook b, L eTask plan] (.ret (.tup [.agg (cWork ⟨b, plan⟩), .agg [Ci 0, Ci 0], .c (Ci 0)])) := by
 have h := open78 S b plan
 obtain ⟨e1, e2, e3, e4⟩ := open_good hb hg
 rw [e1, e2, e3, e4] at h
 exact h
def whyErr (b : Book) (plan : List Task) : Int := bif openErr b plan == 0 then 5 else bif openErr b plan == 7 then 0 else openErr b plan
def whyS (b : Book) (plan : List Task) : Int := bif openErr b plan == 7 then openS b plan else 0
def whyF (b : Book) (plan : List Task) : Int := bif openErr b plan == 7 then openF b plan else 0
theorem why23 (S : Set Tryz.prog Y Gl) (b : Book) (plan : List Task) : Computes Tryz.prog Gl 23 [tBook b, L eTask plan] (.ret (.tup [.c (Ci (whyS b plan)), .c (Ci (whyF b plan)), .c (Ci (whyErr b plan))])) := by
 refine fn_is S (.r (.ret (.tup [D.agg (cWork (openWork b plan)),D.agg [Ci (openS b plan),Ci (openF b plan)],D.c (Ci (openErr b plan))])) (.br .nil (.br .nil .nil))) Tryz.func23 (by kernel_rfl) (Computes Tryz.prog Gl 78 [tBook b,L eTask plan] (.ret (.tup [D.agg (cWork (openWork b plan)),D.agg [Ci (openS b plan),Ci (openF b plan)],D.c (Ci (openErr b plan))]))∧((openErr b plan==(0:Int))=true→(0:Int)=whyS b plan∧(0:Int)=whyF b plan∧(5:Int)=whyErr b plan)∧((openErr b plan==(0:Int))=false→((openErr b plan==(7:Int))=true→openS b plan=whyS b plan∧openF b plan=whyF b plan∧(0:Int)=whyErr b plan)∧((openErr b plan==(7:Int))=false→(0:Int)=whyS b plan∧(0:Int)=whyF b plan∧openErr b plan=whyErr b plan))) (by kernel_rfl) ?_
 refine ⟨open78 S b plan, fun h => ?_, fun h => ⟨fun h2 => ?_, fun h2 => ?_⟩⟩
 ·unfold whyS whyF whyErr
  rw [h, eq_of_beq h]
  exact ⟨rfl, rfl, rfl⟩
 ·unfold whyS whyF whyErr
  rw [h, h2]
  exact ⟨rfl, rfl, rfl⟩
 ·unfold whyS whyF whyErr
  rw [h, h2]
  exact ⟨rfl, rfl, rfl⟩
end Go.Vc.Gd
namespace Go.Vc.Gd
open Go Go.Proofs Go.Vc
variable {Gl : World → Prop}
theorem backs_nth {b : Book} {plan : List Task} {i : Nat} (h : i < plan.length) : nth (backs b plan) i = ⟨nth (days plan (b.ends false) (-1) (-1)) i, nth (days plan (b.ends true) (-1) (-1)) i⟩ := by
 unfold backs spansOf
 rw [nth_map (by rw [List.length_range, days_len]; omega), nth_range (by rw [days_len]; omega)]
theorem backs_len (b : Book) (plan : List Task) : (backs b plan).length = plan.length := by rw [backs, spansOf_len, days_len]
theorem span_pos (b : Book) (l : List Span) (n : Nat) : ∀ k, 0 ≤ (spanTo b l n k).low ∧ 0 ≤ (spanTo b l n k).high
 | 0 => ⟨Int.le_refl _, Int.le_refl _⟩
 | k + 1 => by
  have := span_pos b l n k
  unfold spanTo
  cases nth b.sheets k == (n : Int)
  ·exact this
  ·simp only [cond_true]; omega
theorem tab_span (b : Book) (plan : List Task) (n : Nat) : ∀ k, k ≤ plan.length → tabTo b.sheets n (days plan (b.ends false) (-1) (-1)) k = (spanTo b (backs b plan) n k).low ∧ tabTo b.sheets n (days plan (b.ends true) (-1) (-1)) k = (spanTo b (backs b plan) n k).high
 | 0, _ => ⟨rfl, rfl⟩
 | k + 1, h => by
  obtain ⟨h1, h2⟩ := tab_span b plan n k (by omega)
  have hp := span_pos b (backs b plan) n k
  unfold tabTo spanTo
  rw [h1, h2, backs_nth (by omega)]
  cases nth b.sheets k == (n : Int)
  ·exact ⟨rfl, rfl⟩
  ·simp only [cond_true]; omega
theorem span_ge (b : Book) (l : List Span) (n : Nat) : ∀ k i, i < k → nth b.sheets i = (n : Int) → (nth l i).high ≤ (spanTo b l n k).high
 | 0, _, h, _ => absurd h (Nat.not_lt_zero _)
 | k + 1, i, h, hn => by
  unfold spanTo
  rcases Nat.lt_or_ge i k with hi | hi
  ·have := span_ge b l n k i hi hn
   cases nth b.sheets k == (n : Int)
   ·exact this
   ·simp only [cond_true]; omega
  ·have : i = k := by omega
   subst this
   rw [beq_iff_eq.2 hn]
   simp only [cond_true]; omega
theorem word_late {b : Book} {plan : List Task} {n i : Nat} (hi : i < (backs b plan).length) (h : lateAt b plan n i = true) : wordAt b plan n ≠ 3 := by
 unfold lateAt at h
 simp only [Bool.and_eq_true, beq_iff_eq, decide_eq_true_eq] at h
 have := span_ge b (backs b plan) n _ i hi h.1
 unfold wordAt wordOf
 rw [decide_eq_false (by omega)]
 cases decide (nth b.dues n < (spanTo b (backs b plan) n (backs b plan).length).low) <;> decide
theorem row_late (b : Book) (plan : List Task) (n : Nat) : rowFine b plan n = (List.range (backs b plan).length).all fun i => !lateAt b plan n i := by
 unfold rowFine
 cases h : (List.range (backs b plan).length).all fun i => !lateAt b plan n i with
 | true => simp
 | false =>
  rw [List.all_eq_false] at h
  obtain ⟨i, hi, hl⟩ := h
  have hw := word_late (List.mem_range.1 hi) (by simpa using hl)
  rw [beq_eq_false_iff_ne.2 hw]
  rfl
theorem small_truth {b : Book} {t : Truth} (hb : b.ok = true) (ht : t.ok b = true) : small t ∧ t.fits b.comps.length := by
 obtain ⟨_, _, _, hf, _⟩ := ok_spec hb
 unfold Truth.ok at ht
 simp only [Bool.and_eq_true, beq_iff_eq, List.all_eq_true, List.mem_range] at ht
 obtain ⟨h1, h2, h3, h4⟩ := ht
 have key : ∀ i, (0 ≤ nth t.post i ∧ nth t.post i ≤ 1000) ∧ (0 ≤ nth t.sheet i ∧ nth t.sheet i ≤ 1000) ∧ (0 ≤ nth t.look i ∧ nth t.look i ≤ 1000) := fun i => by
  rcases Nat.lt_or_ge i b.comps.length with h | h
  ·have h5 := h4 i h
   have h6 := fine_spec (hf i h)
   unfold truthAt at h5
   simp only [Bool.and_eq_true, inR_iff] at h5
   omega
  ·rw [nth_ge (by omega), nth_ge (by omega), nth_ge (by omega)]
   exact ⟨⟨by decide, by decide⟩, ⟨by decide, by decide⟩, by decide, by decide⟩
 exact ⟨⟨fun i => (key i).1, fun i => (key i).2.1, fun i => (key i).2.2⟩, h1, h2, h3⟩
theorem back28 (S : Set Tryz.prog Y Gl) (b : Book) (plan : List Task) (hb : b.ok = true) (hg : b.good plan = true) : Computes Tryz.prog Gl 28 [tBook b, L eTask plan] (.ret (.tup [.c (.l eSpan (backs b plan)), .c (Ci 0)])) := by
 refine fn_is S (.r (.ret (.tup [D.agg (cWork {book:=b,plan:=plan}),D.agg [Ci 0,Ci 0],D.c (Ci 0)])) (.ff (.r (.ret (tLost (-1:Int) (-1:Int))) (.r (.ret (L eSpan (spansOf (days (Work.plan {book:=b,plan:=plan}) (Book.ends (Work.book {book:=b,plan:=plan}) false) (-1:Int) (-1:Int)) (days (Work.plan {book:=b,plan:=plan}) (Book.ends (Work.book {book:=b,plan:=plan}) true) (-1:Int) (-1:Int))))) .nil)))) Tryz.func28 (by kernel_rfl) (Computes Tryz.prog Gl 78 [tBook b,L eTask plan] (.ret (.tup [D.agg (cWork {book:=b,plan:=plan}),D.agg [Ci 0,Ci 0],D.c (Ci 0)]))∧false=false∧Computes Tryz.prog Gl 81 [] (.ret (tLost (-1:Int) (-1:Int)))∧Computes Tryz.prog Gl 80 [tWork {book:=b,plan:=plan},tLost (-1:Int) (-1:Int)] (.ret (L eSpan (spansOf (days (Work.plan {book:=b,plan:=plan}) (Book.ends (Work.book {book:=b,plan:=plan}) false) (-1:Int) (-1:Int)) (days (Work.plan {book:=b,plan:=plan}) (Book.ends (Work.book {book:=b,plan:=plan}) true) (-1:Int) (-1:Int)))))∧(SEq (List.length (spansOf (days plan (Book.ends b false) (-1:Int) (-1:Int)) (days plan (Book.ends b true) (-1:Int) (-1:Int)))) (fun i=>eSpan (nth (spansOf (days plan (Book.ends b false) (-1:Int) (-1:Int)) (days plan (Book.ends b true) (-1:Int) (-1:Int))) i)) (List.length (backs b plan)) fun i=>eSpan (nth (backs b plan) i))∧(0:Int)=0) (by kernel_rfl) ?_
 exact ⟨open78ok S b plan hb hg, rfl, none81 S, spans80 S ⟨b, plan⟩ (-1) (-1) hb hg, SEq_whole rfl, rfl⟩
theorem when29 (S : Set Tryz.prog Y Gl) (b : Book) (plan : List Task) (t : Truth) (hb : b.ok = true) (hg : b.good plan = true) (ht : t.ok b = true) : Computes Tryz.prog Gl 29 [tBook b, L eTask plan, tTruth t] (.ret (.tup [.c (.l eI (days plan t (-1) (-1))), .c (Ci 0)])) := by
 refine fn_is S (.r (.ret (.tup [D.agg (cWork {book:=b,plan:=plan}),D.agg [Ci 0,Ci 0],D.c (Ci 0)])) (.r (.ret (B (Truth.ok b t))) (.br .nil (.ff (.r (.ret (tLost (-1:Int) (-1:Int))) (.r (.ret (L eI (days (Work.plan {book:=b,plan:=plan}) t (-1:Int) (-1:Int)))) .nil)))))) Tryz.func29 (by kernel_rfl) (Computes Tryz.prog Gl 78 [tBook b,L eTask plan] (.ret (.tup [D.agg (cWork {book:=b,plan:=plan}),D.agg [Ci 0,Ci 0],D.c (Ci 0)]))∧(true=true→true=true)∧(true=true→true=true)∧(true=true→Computes Tryz.prog Gl 82 [tBook b,tTruth t] (.ret (B (Truth.ok b t))))∧(true=true→true=true)∧(false=false→true=true)∧((bif false then true else !Truth.ok b t)=true→List.length (days plan t (-1:Int) (-1:Int))=(0:Nat)∧(2:Int)=0)∧((bif false then true else !Truth.ok b t)=false→false=false∧Computes Tryz.prog Gl 81 [] (.ret (tLost (-1:Int) (-1:Int)))∧Computes Tryz.prog Gl 83 [tWork {book:=b,plan:=plan},tTruth t,tLost (-1:Int) (-1:Int)] (.ret (L eI (days (Work.plan {book:=b,plan:=plan}) t (-1:Int) (-1:Int))))∧(SEq (List.length (days plan t (-1:Int) (-1:Int))) (fun i=>eI (nth (days plan t (-1:Int) (-1:Int)) i)) (List.length (days plan t (-1:Int) (-1:Int))) fun i=>eI (nth (days plan t (-1:Int) (-1:Int)) i))∧(0:Int)=0)) (by kernel_rfl) ?_
 obtain ⟨o1, o2, o3, _⟩ := ok_spec hb
 obtain ⟨g1, g2⟩ := good_spec hg
 obtain ⟨s1, s2⟩ := small_truth hb ht
 have h82 := isTruth82 S b t
 have hd := days83 S ⟨b, plan⟩ t (-1) (-1) s1 (show plan.length ≤ 1000 by omega) b.comps.length (by omega) s2 (good_in hg)
 rw [ht] at h82
 simp only [stdS, imp_self, implies_true, and_true, ht]
 exact ⟨open78ok S b plan hb hg, fun _ => h82, fun h => (by cases h), fun _ => ⟨none81 S, hd, trivial⟩⟩
theorem tables38 (S : Set Tryz.prog Y Gl) (b : Book) (plan : List Task) (hb : b.ok = true) (hg : b.good plan = true) : Computes Tryz.prog Gl 38 [tBook b, L eTask plan] (.ret (.tup [.c (.l eI (tables b plan)), .c (Ci 0)])) := by
 refine fn_is S (.r (.ret (.tup [D.agg (cWork {book:=b,plan:=plan}),D.agg [Ci 0,Ci 0],D.c (Ci 0)])) (.ff (.r (.ret (tTruth (Book.ends b false))) (.r (.ret (tLost (-1:Int) (-1:Int))) (.r (.ret (L eI (days (Work.plan {book:=b,plan:=plan}) (Book.ends b false) (-1:Int) (-1:Int)))) (.r (.ret (tTruth (Book.ends b true))) (.r (.ret (tLost (-1:Int) (-1:Int))) (.r (.ret (L eI (days (Work.plan {book:=b,plan:=plan}) (Book.ends b true) (-1:Int) (-1:Int)))) (.loop (List.length (Book.dues b)) (fun k=>v 38 (I ↑k)::v 37 (I (↑(List.length (Book.dues b)):Int))::v 36 (L eI (Book.dues b))::v 9 (L eI (days plan (Book.ends b false) (-1:Int) (-1:Int)))::v 10 (L eI (days plan (Book.ends b true) (-1:Int) (-1:Int)))::v 6 (ad 6)::tk 100 61::v 11 (Lt 100 eI (List.take k (tables b plan)))::bx 6 (cWork {book:=b,plan:=plan})) fun k0=>.br (.r (.ret (I (tabTo (Book.sheets (Work.book {book:=b,plan:=plan})) (↑k0:Int) (days plan (Book.ends b true) (-1:Int) (-1:Int)) (List.length (Book.sheets (Work.book {book:=b,plan:=plan})))))) (.br .nil (.r (.ret (I (tabTo (Book.sheets (Work.book {book:=b,plan:=plan})) (↑k0:Int) (days plan (Book.ends b false) (-1:Int) (-1:Int)) (List.length (Book.sheets (Work.book {book:=b,plan:=plan})))))) (.br .nil .nil)))) .nil))))))))) Tryz.func38 (by kernel_rfl) (let A0:=(SEq (List.length (days plan (Book.ends b false) (-1:Int) (-1:Int))) (fun i=>eI (nth (days plan (Book.ends b false) (-1:Int) (-1:Int)) i)) (List.length (days plan (Book.ends b false) (-1:Int) (-1:Int))) fun i=>eI (nth (days plan (Book.ends b false) (-1:Int) (-1:Int)) i));let A1:=(SEq (List.length (days plan (Book.ends b true) (-1:Int) (-1:Int))) (fun i=>eI (nth (days plan (Book.ends b true) (-1:Int) (-1:Int)) i)) (List.length (days plan (Book.ends b true) (-1:Int) (-1:Int))) fun i=>eI (nth (days plan (Book.ends b true) (-1:Int) (-1:Int)) i));let A2:=(SEq b.2.length (fun i=>eI (nth b.2 i)) b.2.length fun i=>eI (nth b.2 i));let A3:=fun (k0:Nat)=>(List.take k0 (tables b plan));let A4:=(SEq b.1.length (fun i=>eComp (nth b.1 i)) b.1.length fun i=>eComp (nth b.1 i));let A5:=(SEq b.3.length (fun i=>eI (nth b.3 i)) b.3.length fun i=>eI (nth b.3 i));let A6:=(↑b.2.length:Int);let A7:=(Book.sheets (Work.book {book:=b,plan:=plan}));let A8:=fun (k0:Nat)=>(List.take (k0+1) (tables b plan));let A9:=(fun i=>eTask (nth plan i));Computes Tryz.prog Gl 78 [tBook b,L eTask plan] (.ret (.tup [D.agg (cWork {book:=b,plan:=plan}),D.agg [Ci 0,Ci 0],D.c (Ci 0)]))∧false=false∧Computes Tryz.prog Gl 86 [tBook b] (.ret (tTruth (Book.ends b false)))∧Computes Tryz.prog Gl 81 [] (.ret (tLost (-1:Int) (-1:Int)))∧Computes Tryz.prog Gl 83 [tWork {book:=b,plan:=plan},tTruth (Book.ends b false),tLost (-1:Int) (-1:Int)] (.ret (L eI (days (Work.plan {book:=b,plan:=plan}) (Book.ends b false) (-1:Int) (-1:Int))))∧Computes Tryz.prog Gl 87 [tBook b] (.ret (tTruth (Book.ends b true)))∧Computes Tryz.prog Gl 81 [] (.ret (tLost (-1:Int) (-1:Int)))∧Computes Tryz.prog Gl 83 [tWork {book:=b,plan:=plan},tTruth (Book.ends b true),tLost (-1:Int) (-1:Int)] (.ret (L eI (days (Work.plan {book:=b,plan:=plan}) (Book.ends b true) (-1:Int) (-1:Int))))∧(b.2.length≤maxLen→(0=(↑(0:Nat):Int)∧A6=A6∧A2∧A0∧A1∧(0:Nat)=(0:Nat)∧A4∧A2∧A5∧SEq plan.length A9 plan.length fun i=>eTask (nth plan i))∧∀ (k0:Nat),k0≤List.length (Book.dues b)→(decide ((↑k0:Int)<(↑b.2.length:Int))=true→(0≤(↑k0:Int)∧(↑k0:Int)<A6)∧Computes Tryz.prog Gl 88 [tWork {book:=b,plan:=plan},I ↑k0,L eI (days plan (Book.ends b true) (-1:Int) (-1:Int))] (.ret (I (tabTo A7 (↑k0:Int) (days plan (Book.ends b true) (-1:Int) (-1:Int)) (List.length A7))))∧(decide (tabTo b.3 (↑k0:Int) (days plan (Book.ends b true) (-1:Int) (-1:Int)) b.3.length≤nth b.2 k0)=true→(List.length (A3 k0)+1)*8≤140737488355328∧List.length (A3 k0)+1≤140737488355328∧inRange IntKind.i64 ((↑k0:Int)+1)∧k0<List.length (Book.dues b)∧(↑k0:Int)+1=(↑(k0+1):Int)∧A6=A6∧A2∧A0∧A1∧(SEq (List.length (A3 k0)+1) (catF (List.length (A3 k0)) (fun i=>eI (nth (A3 k0) i)) fun i=>List.getD [List.map C.dem [C.v (Value.int IntKind.i64 (3:Int))]] i []) (List.length (A8 k0)) fun i=>eI (nth (A8 k0) i))∧A4∧A2∧A5∧SEq plan.length A9 plan.length fun i=>eTask (nth plan i))∧(decide (tabTo b.3 (↑k0:Int) (days plan (Book.ends b true) (-1:Int) (-1:Int)) b.3.length≤nth b.2 k0)=false→Computes Tryz.prog Gl 88 [tWork {book:=b,plan:=plan},I ↑k0,L eI (days plan (Book.ends b false) (-1:Int) (-1:Int))] (.ret (I (tabTo A7 (↑k0:Int) (days plan (Book.ends b false) (-1:Int) (-1:Int)) (List.length A7))))∧(decide (nth b.2 k0<tabTo b.3 (↑k0:Int) (days plan (Book.ends b false) (-1:Int) (-1:Int)) b.3.length)=true→(List.length (A3 k0)+1)*8≤140737488355328∧List.length (A3 k0)+1≤140737488355328∧inRange IntKind.i64 ((↑k0:Int)+1)∧k0<List.length (Book.dues b)∧(↑k0:Int)+1=(↑(k0+1):Int)∧A6=A6∧A2∧A0∧A1∧(SEq (List.length (A3 k0)+1) (catF (List.length (A3 k0)) (fun i=>eI (nth (A3 k0) i)) fun i=>List.getD [List.map C.dem [C.v (Value.int IntKind.i64 (1:Int))]] i []) (List.length (A8 k0)) fun i=>eI (nth (A8 k0) i))∧A4∧A2∧A5∧SEq plan.length A9 plan.length fun i=>eTask (nth plan i))∧(decide (nth b.2 k0<tabTo b.3 (↑k0:Int) (days plan (Book.ends b false) (-1:Int) (-1:Int)) b.3.length)=false→(List.length (A3 k0)+1)*8≤140737488355328∧List.length (A3 k0)+1≤140737488355328∧inRange IntKind.i64 ((↑k0:Int)+1)∧k0<List.length (Book.dues b)∧(↑k0:Int)+1=(↑(k0+1):Int)∧A6=A6∧A2∧A0∧A1∧(SEq (List.length (A3 k0)+1) (catF (List.length (A3 k0)) (fun i=>eI (nth (A3 k0) i)) fun i=>List.getD [List.map C.dem [C.v (Value.int IntKind.i64 (2:Int))]] i []) (List.length (A8 k0)) fun i=>eI (nth (A8 k0) i))∧A4∧A2∧A5∧SEq plan.length A9 plan.length fun i=>eTask (nth plan i))))∧(decide ((↑k0:Int)<(↑b.2.length:Int))=false→(SEq (List.length (A3 k0)) (fun i=>eI (nth (A3 k0) i)) (List.length (tables b plan)) fun i=>eI (nth (tables b plan) i))∧(0:Int)=0))) (by kernel_rfl) ?_
 simp only [stdS, imp_self, implies_true, and_true, decide_eq_true_eq, decide_eq_false_iff_not, maxLen_eq, rng_iff]
 obtain ⟨o1, o2, o3, _⟩ := ok_spec hb
 obtain ⟨g1, g2⟩ := good_spec hg
 have wd := fun g => days83 S ⟨b, plan⟩ (b.ends g) (-1) (-1) (small_ends hb g) (show plan.length ≤ 1000 by omega) b.comps.length (by omega) (fits_ends b g) (good_in hg)
 have hdl := fun g => days_len plan (b.ends g) (-1) (-1)
 have htl : (tables b plan).length = b.dues.length := by simp [tables]
 have hbl := backs_len b plan
 have hw : ∀ k, k < b.dues.length → nth (tables b plan) k = wordOf ⟨tabTo b.sheets k (days plan (b.ends false) (-1) (-1)) b.sheets.length, tabTo b.sheets k (days plan (b.ends true) (-1) (-1)) b.sheets.length⟩ (nth b.dues k) := fun k hk => by
  unfold tables
  rw [nth_map (by rw [List.length_range]; omega), nth_range (by omega), wordAt]
  obtain ⟨t1, t2⟩ := tab_span b plan k b.sheets.length (by omega)
  rw [t1, t2, hbl, g1]
 have c88 := fun (n : Int) (g : Bool) => table88 S ⟨b, plan⟩ n (days plan (b.ends g) (-1) (-1)) (by have := hdl g; show b.sheets.length ≤ _; omega)
 refine ⟨open78ok S b plan hb hg, least86 S b (by omega), none81 S, wd false, greatest87 S b (by omega), none81 S, wd true, fun _ k hk => ⟨fun hl => ⟨by omega, c88 k true, fun h => ?_, fun h => ⟨c88 k false, fun h2 => ?_, fun h2 => ?_⟩⟩, fun hl => ?_⟩⟩
 ·have hlen : ((tables b plan).take k).length ≤ 4 := by rw [List.length_take]; omega
  exact ⟨by omega, by omega, by omega, by omega, by omega, SEq_push (by omega) (by rw [hw k (by omega), wordOf, decide_eq_true h]; rfl), trivial⟩
 ·have hlen : ((tables b plan).take k).length ≤ 4 := by rw [List.length_take]; omega
  exact ⟨by omega, by omega, by omega, by omega, by omega, SEq_push (by omega) (by rw [hw k (by omega), wordOf, decide_eq_false h, decide_eq_true h2]; rfl), trivial⟩
 ·have hlen : ((tables b plan).take k).length ≤ 4 := by rw [List.length_take]; omega
  exact ⟨by omega, by omega, by omega, by omega, by omega, SEq_push (by omega) (by rw [hw k (by omega), wordOf, decide_eq_false h, decide_eq_false h2]; rfl), trivial⟩
 ·first
  | exact SEq_whole (by rw [List.take_of_length_le (by omega)])
  | exact ⟨SEq_whole (by rw [List.take_of_length_le (by omega)]), trivial⟩
theorem proof40 (S : Set Tryz.prog Y Gl) (b : Book) (plan : List Task) (hb : b.ok = true) (hg : b.good plan = true) : Computes Tryz.prog Gl 40 [tBook b, L eTask plan] (.ret (.tup [.c (Ci (proof1 b plan)), .c (Ci (proof2 b plan)), .c (Ci (proof3 b plan)), .c (Ci (bif isProof b plan then 0 else 5))])) := by
 refine fn_is S (.r (.ret (.tup [D.agg (cWork {book:=b,plan:=plan}),D.agg [Ci 0,Ci 0],D.c (Ci 0)])) (.ff (.r (.ret (tTruth (Book.ends b true))) (.r (.ret (tLost (-1:Int) (-1:Int))) (.r (.ret (L eI (days (Work.plan {book:=b,plan:=plan}) (Book.ends b true) (-1:Int) (-1:Int)))) (.loop (proofN b plan) (fun k=>v 34 (I ↑k)::v 33 (I (↑(List.length (Book.dues b)):Int))::v 32 (L eI (Book.dues b))::v 11 (L eI (days plan (Book.ends b true) (-1:Int) (-1:Int)))::v 2 (ad 2)::bx 2 (cBook b)) fun k0=>.br (.loop (upto (fun i=>!lateAt b plan k0 i) (List.range (List.length (backs b plan)))) (fun j=>v 41 (I ↑j)::v 40 (I (↑(List.length (days plan (Book.ends b true) (-1:Int) (-1:Int))):Int))::v 39 (L eI (days plan (Book.ends b true) (-1:Int) (-1:Int)))::v 12 (I ↑k0)::v 13 (I (nth (Book.dues b) k0))::v 34 (I ↑k0)::v 33 (I (↑(List.length (Book.dues b)):Int))::v 32 (L eI (Book.dues b))::v 11 (L eI (days plan (Book.ends b true) (-1:Int) (-1:Int)))::v 2 (ad 2)::bx 2 (cBook b)) fun k1=>.br (.br .nil .nil) .nil) .nil)))))) Tryz.func40 (by kernel_rfl) (let A0:=(days plan (Book.ends b true) (-1:Int) (-1:Int));let A1:=(SEq b.2.length (fun i=>eI (nth b.2 i)) b.2.length fun i=>eI (nth b.2 i));let A2:=(SEq (List.length A0) (fun i=>eI (nth A0 i)) (List.length A0) fun i=>eI (nth A0 i));let A3:=(SEq b.1.length (fun i=>eComp (nth b.1 i)) b.1.length fun i=>eComp (nth b.1 i));let A4:=(↑b.2.length:Int);let A5:=(↑(List.length A0):Int);Computes Tryz.prog Gl 78 [tBook b,L eTask plan] (.ret (.tup [D.agg (cWork {book:=b,plan:=plan}),D.agg [Ci 0,Ci 0],D.c (Ci 0)]))∧false=false∧Computes Tryz.prog Gl 87 [tBook b] (.ret (tTruth (Book.ends b true)))∧Computes Tryz.prog Gl 81 [] (.ret (tLost (-1:Int) (-1:Int)))∧Computes Tryz.prog Gl 83 [tWork {book:=b,plan:=plan},tTruth (Book.ends b true),tLost (-1:Int) (-1:Int)] (.ret (L eI (days (Work.plan {book:=b,plan:=plan}) (Book.ends b true) (-1:Int) (-1:Int))))∧(b.2.length≤maxLen→(0=(↑(0:Nat):Int)∧A4=A4∧A1∧A2∧A3∧A1∧SEq b.3.length (fun i=>eI (nth b.3 i)) b.3.length fun i=>eI (nth b.3 i))∧∀ (k0:Nat),k0≤proofN b plan→(decide ((↑k0:Int)<(↑b.2.length:Int))=true→(0≤(↑k0:Int)∧(↑k0:Int)<A4)∧(List.length A0≤maxLen→(0=(↑(0:Nat):Int)∧A5=A5∧A2∧(↑k0:Int)=(↑k0:Int)∧nth b.2 k0=nth b.2 k0∧(↑k0:Int)=(↑k0:Int)∧A4=A4∧A1∧A2∧A3∧A1∧SEq b.3.length (fun i=>eI (nth b.3 i)) b.3.length fun i=>eI (nth b.3 i))∧∀ (k1:Nat),k1≤upto (fun i=>!lateAt b plan k0 i) (List.range (List.length (backs b plan)))→(decide ((↑k1:Int)<(↑(List.length (days plan (Book.ends b true) (-1:Int) (-1:Int))):Int))=true→(0≤(↑k1:Int)∧(↑k1:Int)<A5)∧(0≤(↑k1:Int)∧(↑k1:Int)<(↑b.3.length:Int))∧(eqB (nth b.3 k1==(↑k0:Int)) true=true→eqB (nth b.3 k1==(↑k0:Int)) true=true)∧(eqB (nth b.3 k1==(↑k0:Int)) true=true→eqB (nth b.3 k1==(↑k0:Int)) true=true)∧((nth b.3 k1==(↑k0:Int))=true→eqB (nth b.3 k1==(↑k0:Int)) true=true)∧((bif nth b.3 k1==(↑k0:Int) then decide (nth b.2 k0<nth (days plan (Book.ends b true) (-1:Int) (-1:Int)) k1) else false)=true→(↑k0:Int)=proof1 b plan∧(↑k1:Int)=proof2 b plan∧nth A0 k1=proof3 b plan∧(0:Int)=bif isProof b plan then (0:Int) else (5:Int))∧((bif nth b.3 k1==(↑k0:Int) then decide (nth b.2 k0<nth (days plan (Book.ends b true) (-1:Int) (-1:Int)) k1) else false)=false→inRange IntKind.i64 ((↑k1:Int)+1)∧k1<upto (fun i=>!lateAt b plan k0 i) (List.range (List.length (backs b plan)))∧(↑k1:Int)+1=(↑(k1+1):Int)∧A5=A5∧A2∧(↑k0:Int)=(↑k0:Int)∧nth b.2 k0=nth b.2 k0∧(↑k0:Int)=(↑k0:Int)∧A4=A4∧A1∧A2∧A3∧A1∧SEq b.3.length (fun i=>eI (nth b.3 i)) b.3.length fun i=>eI (nth b.3 i)))∧(decide ((↑k1:Int)<(↑(List.length (days plan (Book.ends b true) (-1:Int) (-1:Int))):Int))=false→inRange IntKind.i64 ((↑k0:Int)+1)∧k0<proofN b plan∧(↑k0:Int)+1=(↑(k0+1):Int)∧A4=A4∧A1∧A2∧A3∧A1∧SEq b.3.length (fun i=>eI (nth b.3 i)) b.3.length fun i=>eI (nth b.3 i))))∧(decide ((↑k0:Int)<(↑b.2.length:Int))=false→(0:Int)=proof1 b plan∧(0:Int)=proof2 b plan∧(0:Int)=proof3 b plan∧(5:Int)=bif isProof b plan then (0:Int) else (5:Int)))) (by kernel_rfl) ?_
 simp only [stdS, imp_self, implies_true, and_true, decide_eq_true_eq, decide_eq_false_iff_not, maxLen_eq, rng_iff]
 obtain ⟨o1, o2, o3, _⟩ := ok_spec hb
 obtain ⟨g1, g2⟩ := good_spec hg
 have wd := days83 S ⟨b, plan⟩ (b.ends true) (-1) (-1) (small_ends hb true) (show plan.length ≤ 1000 by omega) b.comps.length (by omega) (fits_ends b true) (good_in hg)
 have hdl := days_len plan (b.ends true) (-1) (-1)
 have hbl := backs_len b plan
 have hrl : (List.range (backs b plan).length).length = (backs b plan).length := List.length_range
 have hrd : (List.range b.dues.length).length = b.dues.length := List.length_range
 have hlat : ∀ (k j : Nat), j < plan.length → (nth b.sheets j == (k : Int) && decide (nth b.dues k < nth (days plan (b.ends true) (-1) (-1)) j)) = lateAt b plan k j := fun k j hj => by
  unfold lateAt
  rw [backs_nth hj]
 refine ⟨open78ok S b plan hb hg, greatest87 S b (by omega), none81 S, wd, fun _ k hk => ⟨fun hl => ⟨by omega, fun _ j hj => ⟨fun hjl => ⟨by omega, by omega, fun hlate => ?_, fun hnot => ?_⟩, fun hjl => ?_⟩⟩, fun hl => ?_⟩⟩
 ·rw [hlat k j (by omega)] at hlate
  have hw := word_late (by omega) hlate
  have hI : proofI b plan k = j := by
   have hI' : proofI b plan k = upto (fun i => !lateAt b plan k i) (List.range (backs b plan).length) := by unfold proofI; rw [beq_eq_false_iff_ne.2 hw]; rfl
   rw [hI']
   rcases Nat.lt_or_ge j (upto (fun i => !lateAt b plan k i) (List.range (backs b plan).length)) with h | h
   ·have := upto_before (p := fun i => !lateAt b plan k i) h
    rw [nth_range (by omega), hlate] at this
    cases this
   ·omega
  have hrow : rowFine b plan (nth (List.range b.dues.length) k) = false := by
   rw [nth_range (by omega), row_late, upto_some (p := fun i => !lateAt b plan k i) (k := j) (by omega) (by rw [nth_range (by omega), hlate]; rfl)]
  have hN : proofN b plan = k := by
   rcases Nat.lt_or_ge k (proofN b plan) with h | h
   ·have := upto_before (p := rowFine b plan) h
    rw [hrow] at this
    cases this
   ·omega
  have hP : isProof b plan = true := by
   unfold isProof
   rw [upto_some (p := rowFine b plan) (k := k) (by omega) hrow]
   rfl
  unfold proof1 proof2 proof3
  rw [hP, hN, hI, backs_nth (by omega)]
  exact ⟨rfl, rfl, rfl, rfl⟩
 ·rw [hlat k j (by omega)] at hnot
  exact ⟨by omega, upto_lt hj (by omega) (by rw [nth_range (by omega), hnot]; rfl), by omega, trivial⟩
 ·have hrow : rowFine b plan (nth (List.range b.dues.length) k) = true := by
   rw [nth_range (by omega), row_late]
   exact upto_all (by omega)
  exact ⟨by omega, upto_lt hk (by omega) hrow, by omega, trivial⟩
 ·have hP : isProof b plan = false := by
   unfold isProof
   rw [upto_all (p := rowFine b plan) (l := List.range b.dues.length) (by unfold proofN at hk; omega)]
   rfl
  unfold proof1 proof2 proof3
  rw [hP]
  exact ⟨rfl, rfl, rfl, rfl⟩
theorem busy_all (plan : List Task) (n : Nat) : ∀ k, k ≤ plan.length → busyTo plan n k = !(plan.take k).all fun x => !(hand x n || x.third == (n : Int))
 | 0, _ => rfl
 | k + 1, h => by
  unfold busyTo
  rw [busy_all plan n k (by omega), take_succ (by omega), List.all_append]
  simp [Bool.not_and]
theorem busy_whole (plan : List Task) (n : Nat) : (plan.all fun x => !(hand x n || x.third == (n : Int))) = !busyTo plan n plan.length := by
 rw [busy_all plan n _ (Nat.le_refl _), List.take_length, Bool.not_not]
theorem idle45 (S : Set Tryz.prog Y Gl) (b : Book) (plan : List Task) (hb : b.ok = true) (hg : b.good plan = true) : Computes Tryz.prog Gl 45 [tBook b, L eTask plan] (.ret (.tup [.c (.l eI (idleTo plan b.comps.length)), .c (Ci 0)])) := by
 refine fn_is S (.r (.ret (.tup [D.agg (cWork {book:=b,plan:=plan}),D.agg [Ci 0,Ci 0],D.c (Ci 0)])) (.ff (.loop (List.length (Book.comps b)) (fun k=>v 24 (I ↑k)::v 23 (I (↑(List.length (Book.comps b)):Int))::v 6 (ad 6)::tk 100 3::v 9 (Lt 100 eI (idleTo plan k))::bx 6 (cWork {book:=b,plan:=plan})) fun k0=>.br (.r (.ret (B !List.all plan fun x=>!(hand x (↑k0:Int)||Task.third x==(↑k0:Int)))) (.br .nil .nil)) .nil))) Tryz.func45 (by kernel_rfl) (let A0:=(SEq b.1.length (fun i=>eComp (nth b.1 i)) b.1.length fun i=>eComp (nth b.1 i));let A1:=(SEq b.2.length (fun i=>eI (nth b.2 i)) b.2.length fun i=>eI (nth b.2 i));let A2:=(SEq b.3.length (fun i=>eI (nth b.3 i)) b.3.length fun i=>eI (nth b.3 i));let A3:=(↑b.1.length:Int);Computes Tryz.prog Gl 78 [tBook b,L eTask plan] (.ret (.tup [D.agg (cWork {book:=b,plan:=plan}),D.agg [Ci 0,Ci 0],D.c (Ci 0)]))∧false=false∧(b.1.length≤maxLen→(0=(↑(0:Nat):Int)∧A3=A3∧(0:Nat)=(0:Nat)∧A0∧A1∧A2∧SEq plan.length (fun i=>eTask (nth plan i)) plan.length fun i=>eTask (nth plan i))∧∀ (k0:Nat),k0≤List.length (Book.comps b)→(decide ((↑k0:Int)<(↑b.1.length:Int))=true→Computes Tryz.prog Gl 89 [L eTask plan,T.fn (90:FuncId) [] [T.d (D.rd [Ci ↑k0])]] (.ret (B !List.all plan fun x=>!(hand x (↑k0:Int)||Task.third x==(↑k0:Int))))∧((!!List.all plan fun x=>!(hand x (↑k0:Int)||x.3==(↑k0:Int)))=true→(List.length (idleTo plan k0)+1)*8≤140737488355328∧List.length (idleTo plan k0)+1≤140737488355328∧inRange IntKind.i64 ((↑k0:Int)+1)∧k0<List.length (Book.comps b)∧(↑k0:Int)+1=(↑(k0+1):Int)∧A3=A3∧(SEq (List.length (idleTo plan k0)+1) (catF (List.length (idleTo plan k0)) (fun i=>eI (nth (idleTo plan k0) i)) fun i=>List.getD [List.map C.dem [C.v (Value.int IntKind.i64 (↑k0:Int))]] i []) (List.length (idleTo plan (k0+1))) fun i=>eI (nth (idleTo plan (k0+1)) i))∧A0∧A1∧A2∧SEq plan.length (fun i=>eTask (nth plan i)) plan.length fun i=>eTask (nth plan i))∧((!!List.all plan fun x=>!(hand x (↑k0:Int)||x.3==(↑k0:Int)))=false→inRange IntKind.i64 ((↑k0:Int)+1)∧k0<List.length (Book.comps b)∧(↑k0:Int)+1=(↑(k0+1):Int)∧A3=A3∧(SEq (List.length (idleTo plan k0)) (fun i=>eI (nth (idleTo plan k0) i)) (List.length (idleTo plan (k0+1))) fun i=>eI (nth (idleTo plan (k0+1)) i))∧A0∧A1∧A2∧SEq plan.length (fun i=>eTask (nth plan i)) plan.length fun i=>eTask (nth plan i)))∧(decide ((↑k0:Int)<(↑b.1.length:Int))=false→(SEq (List.length (idleTo plan k0)) (fun i=>eI (nth (idleTo plan k0) i)) (List.length (idleTo plan b.1.length)) fun i=>eI (nth (idleTo plan b.1.length) i))∧(0:Int)=0))) (by kernel_rfl) ?_
 simp only [stdS, imp_self, implies_true, and_true, decide_eq_true_eq, decide_eq_false_iff_not, maxLen_eq, rng_iff]
 obtain ⟨o1, _⟩ := ok_spec hb
 refine ⟨open78ok S b plan hb hg, fun _ k hk => ⟨fun hl => ⟨has89 S plan 90 k (fun t => hand t k || t.third == (k : Int)) (fun i _ => idle90 S _ k), fun h => ?_, fun h => ?_⟩, fun hl => ?_⟩⟩
 ·rw [busy_whole] at h
  simp only [Bool.not_eq_eq_eq_not, Bool.not_true] at h
  have := idleTo_len plan k
  exact ⟨by omega, by omega, by omega, by omega, by omega, SEq_push1 (x := (k : Int)) (by rw [idleTo, h]; rfl) rfl, trivial⟩
 ·rw [busy_whole] at h
  simp only [Bool.not_eq_eq_eq_not, Bool.not_false] at h
  exact ⟨by omega, by omega, by omega, SEq_whole (by rw [idleTo, h]; rfl), trivial⟩
 ·have hke : k = b.comps.length := by omega
  rw [hke]
  exact ⟨SEq_whole rfl, trivial⟩
theorem lost46 (S : Set Tryz.prog Y Gl) (b : Book) (plan : List Task) (sheet c : Int) (hb : b.ok = true) (hg : b.good plan = true) (hs : b.isSheet sheet = true) (hc : b.isComp c = true) (hh : hand (nth plan sheet.toNat) c = true) : Computes Tryz.prog Gl 46 [tBook b, L eTask plan, I sheet, I c] (.ret (.tup [.c (.l eSpan (losts b plan sheet c)), .c (Ci 0)])) := by
 refine fn_is S (.r (.ret (.tup [D.agg (cWork {book:=b,plan:=plan}),D.agg [Ci 0,Ci 0],D.c (Ci 0)])) (.r (.ret (B (inR sheet (0:Int) ((↑b.3.length:Int)-1)))) (.r (.ret (B (Book.isComp b c))) (.br .nil (.br .nil (.r (.ret (L eSpan (spansOf (days (Work.plan {book:=b,plan:=plan}) (Book.ends (Work.book {book:=b,plan:=plan}) false) sheet c) (days (Work.plan {book:=b,plan:=plan}) (Book.ends (Work.book {book:=b,plan:=plan}) true) sheet c)))) .nil)))))) Tryz.func46 (by kernel_rfl) (let A0:=(true&&eqB ((nth plan (Int.toNat sheet)).1 != c) true);let A1:=(bif false then true else !inR sheet (0:Int) ((↑b.3.length:Int)-1));let A2:=(true=true→true=true);let A3:=(nth plan (Int.toNat sheet));let A4:=(A0=true→A0=true);let A5:=((↑b.3.length:Int)-1);let A6:=(eqB A1 false=true→eqB A1 false=true);Computes Tryz.prog Gl 78 [tBook b,L eTask plan] (.ret (.tup [D.agg (cWork {book:=b,plan:=plan}),D.agg [Ci 0,Ci 0],D.c (Ci 0)]))∧A2∧A2∧((true=true→b.3.length≤maxLen)→A2∧(true=true→inRange IntKind.i64 A5)∧A2∧A2∧(true=true→Computes Tryz.prog Gl 91 [I sheet,I 0,I A5] (.ret (B (inR sheet (0:Int) A5))))∧A2∧(false=false→true=true)∧A6∧A6∧(eqB A1 false=true→Computes Tryz.prog Gl 92 [tBook b,I c] (.ret (B (Book.isComp b c))))∧A6∧(A1=false→eqB A1 false=true)∧((bif bif false then true else !inR sheet (0:Int) A5 then true else !Book.isComp b c)=true→List.length (losts b plan sheet c)=(0:Nat)∧(2:Int)=0)∧((bif bif false then true else !inR sheet (0:Int) A5 then true else !Book.isComp b c)=false→A2∧A2∧(true=true→(0:Int)≤sheet∧sheet<(↑plan.length:Int))∧A2∧A2∧A2∧A2∧A2∧A4∧A4∧(A0=true→(0:Int)≤sheet∧sheet<(↑plan.length:Int))∧A4∧A4∧A4∧A4∧A2∧(true=true→(A3.1 != c)=true→A0=true)∧(false=false→true=true)∧((bif false then true else bif A3.1 != c then A3.2 != c else false)=true→List.length (losts b plan sheet c)=(0:Nat)∧(7:Int)=0)∧((bif false then true else bif A3.1 != c then A3.2 != c else false)=false→Computes Tryz.prog Gl 80 [tWork {book:=b,plan:=plan},tLost sheet c] (.ret (L eSpan (spansOf (days (Work.plan {book:=b,plan:=plan}) (Book.ends (Work.book {book:=b,plan:=plan}) false) sheet c) (days (Work.plan {book:=b,plan:=plan}) (Book.ends (Work.book {book:=b,plan:=plan}) true) sheet c))))∧(SEq (List.length (spansOf (days plan (Book.ends b false) sheet c) (days plan (Book.ends b true) sheet c))) (fun i=>eSpan (nth (spansOf (days plan (Book.ends b false) sheet c) (days plan (Book.ends b true) sheet c)) i)) (List.length (losts b plan sheet c)) fun i=>eSpan (nth (losts b plan sheet c) i))∧(0:Int)=0)))) (by kernel_rfl) ?_
 obtain ⟨o1, o2, o3, _⟩ := ok_spec hb
 obtain ⟨g1, g2⟩ := good_spec hg
 have hs' : inR sheet 0 ((b.sheets.length : Int) - 1) = true := hs
 have hsr := inR_iff.1 hs'
 have hh' : ((nth plan sheet.toNat).one != c && (nth plan sheet.toNat).other != c) = false := by
  have e : (!hand (nth plan sheet.toNat) c) = ((nth plan sheet.toNat).one != c && (nth plan sheet.toNat).other != c) := by
   unfold hand bne
   rw [Bool.not_or]
  rw [← e, hh]; rfl
 have c91 := in91 S sheet 0 ((b.sheets.length : Int) - 1)
 have c92 := comp92 S b c
 simp only [stdS, imp_self, implies_true, and_true, decide_eq_true_eq, decide_eq_false_iff_not, maxLen_eq, rng_iff]
 refine ⟨open78ok S b plan hb hg, fun _ => ⟨fun _ => by omega, fun _ => c91, fun _ => c92, fun h => ?_, fun h => ⟨fun _ => by omega, fun _ => by omega, fun _ h => by rw [h]; rfl, fun h2 => ?_, fun h2 => ⟨spans80 S ⟨b, plan⟩ sheet c hb hg, SEq_whole rfl, trivial⟩⟩⟩⟩
 ·rw [hs', hc] at h; cases h
 ·rw [hh'] at h2; cases h2
end Go.Vc.Gd
namespace Go.Vc.Gd
open Go Go.Proofs Go.Vc
variable {Gl : World → Prop}
def idx3 (n i j k : Nat) : Nat := (i * n + j) * n + k
theorem taskNo3 {n i j k : Nat} (hj : j < n) (hk : k < n) : taskNo n (idx3 n i j k) = ⟨i, j, k⟩ := by
 have hn : 0 < n := by omega
 have d1 : (((idx3 n i j k : Nat) : Int)).tdiv (n : Int) = ((idx3 n i j k / n : Nat) : Int) := rfl
 have e1 : idx3 n i j k / n = i * n + j := by
  unfold idx3
  rw [Nat.mul_comm, Nat.mul_add_div hn, Nat.div_eq_of_lt hk, Nat.add_zero]
 have d2 : (((i * n + j : Nat) : Int)).tdiv (n : Int) = (((i * n + j) / n : Nat) : Int) := rfl
 have e2 : (i * n + j) / n = i := by
  rw [Nat.mul_comm, Nat.mul_add_div hn, Nat.div_eq_of_lt hj, Nat.add_zero]
 have m1 : (((i * n + j : Nat) : Int)).tmod (n : Int) = (((i * n + j) % n : Nat) : Int) := rfl
 have e3 : (i * n + j) % n = j := by
  rw [Nat.mul_comm, Nat.mul_add_mod, Nat.mod_eq_of_lt hj]
 have m2 : (((idx3 n i j k : Nat) : Int)).tmod (n : Int) = ((idx3 n i j k % n : Nat) : Int) := rfl
 have e4 : idx3 n i j k % n = k := by
  unfold idx3
  rw [Nat.mul_comm, Nat.mul_add_mod, Nat.mod_eq_of_lt hk]
 unfold taskNo
 rw [d1, e1, d2, e2, m1, e3, m2, e4]
theorem tasks122 (S : Set Tryz.prog Y Gl) (b : Book) (hb : b.ok = true) : Computes Tryz.prog Gl 122 [tBook b] (.ret (L eTask b.tasks)) := by
 refine fn_is S (.loop (List.length (Book.comps b)) (fun k0=>v 13 (I ↑k0)::v 12 (I (↑(List.length (Book.comps b)):Int))::v 1 (ad 1)::tk 100 35::v 3 (Lt 100 eTask (tasksTo b (idx3 (List.length (Book.comps b)) k0 (0:Nat) (0:Nat))))::bx 1 (cBook b)) fun k0=>.br (.loop (List.length (Book.comps b)) (fun k1=>v 19 (I ↑k1)::v 18 (I (↑(List.length (Book.comps b)):Int))::v 4 (I ↑k0)::v 13 (I ↑k0)::v 12 (I (↑(List.length (Book.comps b)):Int))::v 1 (ad 1)::tk 100 35::v 3 (Lt 100 eTask (tasksTo b (idx3 (List.length (Book.comps b)) k0 k1 (0:Nat))))::bx 1 (cBook b)) fun k1=>.br (.loop (List.length (Book.comps b)) (fun k2=>v 25 (I ↑k2)::v 24 (I (↑(List.length (Book.comps b)):Int))::v 5 (I ↑k1)::v 19 (I ↑k1)::v 18 (I (↑(List.length (Book.comps b)):Int))::v 4 (I ↑k0)::v 13 (I ↑k0)::v 12 (I (↑(List.length (Book.comps b)):Int))::v 1 (ad 1)::tk 100 35::v 3 (Lt 100 eTask (tasksTo b (idx3 (List.length (Book.comps b)) k0 k1 k2)))::bx 1 (cBook b)) fun k2=>.br (.r (.ret (.tup [D.agg [Ci 0,Ci (Book.fault b {one:=↑k0,other:=↑k1,third:=↑k2})],D.c (Ci (chkErr (Book.fault b {one:=↑k0,other:=↑k1,third:=↑k2})))])) (.br .nil .nil)) .nil) .nil) .nil) Tryz.func122 (by kernel_rfl) (let A0:=(↑b.1.length:Int);let A1:=(SEq b.1.length (fun i=>eComp (nth b.1 i)) b.1.length fun i=>eComp (nth b.1 i));let A2:=(SEq b.2.length (fun i=>eI (nth b.2 i)) b.2.length fun i=>eI (nth b.2 i));let A3:=fun (k0:Nat)=>(tasksTo b (idx3 b.1.length k0 (0:Nat) (0:Nat)));let A4:=fun (k0 k1 k2:Nat)=>(tasksTo b (idx3 b.1.length k0 k1 k2));let A5:=fun (k0 k1:Nat)=>(tasksTo b (idx3 b.1.length k0 k1 (0:Nat)));let A6:=(fun i=>eI (nth b.3 i));let A7:=fun (k0 k1 k2:Nat)=>(Book.fault b {one:=↑k0,other:=↑k1,third:=↑k2});let A8:=(Book.comps b);b.1.length≤maxLen→(0=(↑(0:Nat):Int)∧A0=A0∧List.length (tasksTo b (idx3 b.1.length (0:Nat) (0:Nat) (0:Nat)))=(0:Nat)∧A1∧A2∧SEq b.3.length A6 b.3.length fun i=>eI (nth b.3 i))∧∀ (k0:Nat),k0≤List.length A8→(decide ((↑k0:Int)<(↑b.1.length:Int))=true→b.1.length≤maxLen→(0=(↑(0:Nat):Int)∧A0=A0∧(↑k0:Int)=(↑k0:Int)∧(↑k0:Int)=(↑k0:Int)∧A0=A0∧(SEq (List.length (A3 k0)) (fun i=>eTask (nth (A3 k0) i)) (List.length (A3 k0)) fun i=>eTask (nth (A3 k0) i))∧A1∧A2∧SEq b.3.length A6 b.3.length fun i=>eI (nth b.3 i))∧∀ (k1:Nat),k1≤List.length A8→(decide ((↑k1:Int)<(↑b.1.length:Int))=true→b.1.length≤maxLen→(0=(↑(0:Nat):Int)∧A0=A0∧(↑k1:Int)=(↑k1:Int)∧(↑k1:Int)=(↑k1:Int)∧A0=A0∧(↑k0:Int)=(↑k0:Int)∧(↑k0:Int)=(↑k0:Int)∧A0=A0∧(SEq (List.length (A5 k0 k1)) (fun i=>eTask (nth (A5 k0 k1) i)) (List.length (A5 k0 k1)) fun i=>eTask (nth (A5 k0 k1) i))∧A1∧A2∧SEq b.3.length A6 b.3.length fun i=>eI (nth b.3 i))∧∀ (k2:Nat),k2≤List.length A8→(decide ((↑k2:Int)<(↑b.1.length:Int))=true→Computes Tryz.prog Gl 107 [T.fn (149:FuncId) [] [T.d (D.rd (cBook b)),T.d (D.rd (eTask {one:=↑k0,other:=↑k1,third:=↑k2}))]] (.ret (.tup [D.agg [Ci 0,Ci (A7 k0 k1 k2)],D.c (Ci (chkErr (A7 k0 k1 k2)))]))∧((chkErr (A7 k0 k1 k2)==(0:Int))=true→(List.length (A4 k0 k1 k2)+1)*24≤140737488355328∧List.length (A4 k0 k1 k2)+1≤140737488355328∧inRange IntKind.i64 ((↑k2:Int)+1)∧k2<List.length A8∧(↑k2:Int)+1=(↑(k2+1):Int)∧A0=A0∧(↑k1:Int)=(↑k1:Int)∧(↑k1:Int)=(↑k1:Int)∧A0=A0∧(↑k0:Int)=(↑k0:Int)∧(↑k0:Int)=(↑k0:Int)∧A0=A0∧(SEq (List.length (A4 k0 k1 k2)+1) (catF (List.length (A4 k0 k1 k2)) (fun i=>eTask (nth (A4 k0 k1 k2) i)) fun i=>List.getD [List.map C.dem (List.map C.dem [C.v (Value.int IntKind.i64 (↑k0:Int)),C.v (Value.int IntKind.i64 (↑k1:Int)),C.v (Value.int IntKind.i64 (↑k2:Int))])] i []) (List.length (tasksTo b (idx3 b.1.length k0 k1 (k2+1)))) fun i=>eTask (nth (tasksTo b (idx3 b.1.length k0 k1 (k2+1))) i))∧A1∧A2∧SEq b.3.length A6 b.3.length fun i=>eI (nth b.3 i))∧((chkErr (A7 k0 k1 k2)==(0:Int))=false→inRange IntKind.i64 ((↑k2:Int)+1)∧k2<List.length A8∧(↑k2:Int)+1=(↑(k2+1):Int)∧A0=A0∧(↑k1:Int)=(↑k1:Int)∧(↑k1:Int)=(↑k1:Int)∧A0=A0∧(↑k0:Int)=(↑k0:Int)∧(↑k0:Int)=(↑k0:Int)∧A0=A0∧(SEq (List.length (A4 k0 k1 k2)) (fun i=>eTask (nth (A4 k0 k1 k2) i)) (List.length (tasksTo b (idx3 b.1.length k0 k1 (k2+1)))) fun i=>eTask (nth (tasksTo b (idx3 b.1.length k0 k1 (k2+1))) i))∧A1∧A2∧SEq b.3.length A6 b.3.length fun i=>eI (nth b.3 i)))∧(decide ((↑k2:Int)<(↑b.1.length:Int))=false→inRange IntKind.i64 ((↑k1:Int)+1)∧k1<List.length A8∧(↑k1:Int)+1=(↑(k1+1):Int)∧A0=A0∧(↑k0:Int)=(↑k0:Int)∧(↑k0:Int)=(↑k0:Int)∧A0=A0∧(SEq (List.length (A4 k0 k1 k2)) (fun i=>eTask (nth (A4 k0 k1 k2) i)) (List.length (tasksTo b (idx3 b.1.length k0 (k1+1) (0:Nat)))) fun i=>eTask (nth (tasksTo b (idx3 b.1.length k0 (k1+1) (0:Nat))) i))∧A1∧A2∧SEq b.3.length A6 b.3.length fun i=>eI (nth b.3 i)))∧(decide ((↑k1:Int)<(↑b.1.length:Int))=false→inRange IntKind.i64 ((↑k0:Int)+1)∧k0<List.length A8∧(↑k0:Int)+1=(↑(k0+1):Int)∧A0=A0∧(SEq (List.length (A5 k0 k1)) (fun i=>eTask (nth (A5 k0 k1) i)) (List.length (tasksTo b (idx3 b.1.length (k0+1) (0:Nat) (0:Nat)))) fun i=>eTask (nth (tasksTo b (idx3 b.1.length (k0+1) (0:Nat) (0:Nat))) i))∧A1∧A2∧SEq b.3.length A6 b.3.length fun i=>eI (nth b.3 i)))∧(decide ((↑k0:Int)<(↑b.1.length:Int))=false→SEq (List.length (A3 k0)) (fun i=>eTask (nth (A3 k0) i)) (List.length (Book.tasks b)) fun i=>eTask (nth (Book.tasks b) i))) (by kernel_rfl) ?_
 simp only [stdS, imp_self, implies_true, and_true, decide_eq_true_eq, decide_eq_false_iff_not, maxLen_eq, rng_iff]
 obtain ⟨o1, _⟩ := ok_spec hb
 have hle : ∀ i j k, i < b.comps.length → j < b.comps.length → k < b.comps.length → (tasksTo b (idx3 b.comps.length i j k)).length ≤ 64 := fun i j k hi hj hk => by
  have h1 := tasksTo_len b (idx3 b.comps.length i j k)
  have h2 : i * b.comps.length ≤ 3 * 4 := Nat.mul_le_mul (by omega) o1.2
  have h3 : (i * b.comps.length + j) * b.comps.length ≤ 15 * 4 := Nat.mul_le_mul (by omega) o1.2
  unfold idx3 at *
  omega
 have hstep : ∀ i j k, j < b.comps.length → k < b.comps.length → tasksTo b (idx3 b.comps.length i j (k + 1)) = bif b.fault ⟨i, j, k⟩ == 0 then tasksTo b (idx3 b.comps.length i j k) ++ [⟨i, j, k⟩] else tasksTo b (idx3 b.comps.length i j k) := fun i j k hj hk => by
  have : idx3 b.comps.length i j (k + 1) = idx3 b.comps.length i j k + 1 := rfl
  rw [this, tasksTo, taskNo3 hj hk]
 refine fun _ => ⟨⟨by simp [idx3, tasksTo], trivial⟩, fun k0 hk0 => ⟨fun h0 _ k1 hk1 => ⟨fun h1 _ k2 hk2 => ⟨fun h2 => ⟨attTask S b _, fun he => ?_, fun he => ?_⟩, fun h2 => ?_⟩, fun h1 => ?_⟩, fun h0 => ?_⟩⟩
 ·have hl := hle k0 k1 k2 (by omega) (by omega) (by omega)
  have hf : (b.fault ⟨k0, k1, k2⟩ == 0) = true := by
   unfold chkErr at he
   cases h : (b.fault ⟨k0, k1, k2⟩ == 0) with
   | true => rfl
   | false => rw [h] at he; cases he
  exact ⟨by omega, by omega, by omega, by omega, by omega, SEq_push1 (x := ⟨k0, k1, k2⟩) (by rw [hstep _ _ _ (by omega) (by omega), hf]; rfl) rfl, trivial⟩
 ·have hf : (b.fault ⟨k0, k1, k2⟩ == 0) = false := by
   unfold chkErr at he
   cases h : (b.fault ⟨k0, k1, k2⟩ == 0) with
   | true => rw [h] at he; cases he
   | false => rfl
  exact ⟨by omega, by omega, by omega, SEq_whole (by rw [hstep _ _ _ (by omega) (by omega), hf]; rfl), trivial⟩
 ·have e : k2 = b.comps.length := by omega
  refine ⟨by omega, by omega, by omega, SEq_whole ?_, trivial⟩
  rw [e]
  congr 1
  unfold idx3
  rw [← Nat.add_assoc, Nat.succ_mul, Nat.add_zero]
 ·have e : k1 = b.comps.length := by omega
  refine ⟨by omega, by omega, by omega, SEq_whole ?_, trivial⟩
  rw [e]
  congr 1
  unfold idx3
  rw [Nat.succ_mul]
  simp only [Nat.add_zero]
 ·have e : k0 = b.comps.length := by omega
  refine SEq_whole ?_
  rw [e]
  rfl
end Go.Vc.Gd
namespace Go.Vc.Gd
open Go Go.Proofs Go.Vc
variable {Gl : World → Prop}
theorem plans95 (S : Set Tryz.prog Y Gl) (b : Book) : Computes Tryz.prog Gl 95 [tBook b] (.ret (.fn 121 [] [.d (.c (.p (cBook b)))])) := by
 refine fn_ptr S (t:=2) (id:=1) .nil Tryz.func95 (by kernel_rfl) Tryz.results95 (by decide) (by decide) (T.fn 121 [] [.addr 1 0]=T.fn 121 [] [.addr 1 0]∧live=live∧(.d (.c (.l eComp b.comps)):T)=.d (.c (.l eComp b.comps))∧(.d (.c (.l eI b.dues)):T)=.d (.c (.l eI b.dues))∧(.d (.c (.l eI b.sheets)):T)=.d (.c (.l eI b.sheets))∧True) (by kernel_rfl) ?_
 exact ⟨rfl, rfl, rfl, rfl, rfl, trivial⟩
def plansFrom (all : List Task) : Nat → List Task → List (List Task)
 | 0, now => [now]
 | d + 1, now => all.flatMap fun x => plansFrom all d (now ++ [x])
theorem plansFrom_len (all : List Task) : ∀ d now, (plansFrom all d now).length = all.length ^ d
 | 0, _ => rfl
 | d + 1, now => by
  unfold plansFrom
  rw [List.length_flatMap]
  have : (all.map fun x => (plansFrom all d (now ++ [x])).length) = all.map fun _ => all.length ^ d := by
   apply List.map_congr_left
   intro x _
   exact plansFrom_len all d _
  rw [this, List.map_const', List.sum_replicate_nat, Nat.pow_succ, Nat.mul_comm]
def fromPre (b : Book) (all : List Task) (l p : Nat) : Env :=
 [(0, BIG, .tr p), (2, FAR, live), (FAR + 3, 0, .yl l), (2, FAR + 1, live), (FAR + 4, 0, L eTask all), (2, FAR + 2, live), (FAR + 5, 0, .fn 123 [] [.d (.c (.p (cBook b))), .addr FAR 0, .addr (FAR + 1) 0, .addr (FAR + 2) 0])]
def fromYd (b : Book) (P : List (List Task)) (l m s : Nat) : Yd := ⟨l, m, s, fun q => [tWork ⟨b, nth P q⟩]⟩
theorem from123base (S : Set Tryz.prog Y Gl) (b : Book) (all now : List Task) (P : List (List Task)) (l m s p : Nat) (hd : now.length = b.sheets.length) (hm : p < m) (hs : p ≤ s) (hP : nth P p = now) : Does Tryz.prog Y Gl (fromYd b P l m s) 123 [L eTask now, .d (.c (.p (cBook b))), .addr FAR 0, .addr (FAR + 1) 0, .addr (FAR + 2) 0] (fromPre b all l p) (.ret (B (decide (p + 1 ≤ s)))) [(0, BIG, .tr (p + 1))] := by
 refine fn_is2 S (.br .nil (.loop (0:Nat) (fun k=>[]) fun k0=>.nil)) Tryz.func123 (by kernel_rfl) (now.length≤maxLen→b.3.length≤maxLen→(((↑now.length:Int)==(↑b.3.length:Int))=true→l=l∧p<m∧p≤s∧(SEq b.1.length (fun i=>eComp (nth b.1 i)) b.1.length fun i=>eComp (nth b.1 i))∧(SEq b.2.length (fun i=>eI (nth b.2 i)) b.2.length fun i=>eI (nth b.2 i))∧(SEq b.3.length (fun i=>eI (nth b.3 i)) b.3.length fun i=>eI (nth b.3 i))∧(SEq now.length (fun i=>eTask (nth now i)) (List.length (nth P p)) fun i=>eTask (nth (nth P p) i))∧(p != s)=decide (p+(1:Nat)≤s)∧p+(1:Nat)=p+(1:Nat)∧l=l∧(SEq all.length (fun i=>eTask (nth all i)) all.length fun i=>eTask (nth all i))∧(123:Nat)=(123:Nat)∧[C.l eComp b.1,C.l eI b.2,C.l eI b.3]=[C.l eComp b.1,C.l eI b.2,C.l eI b.3])∧(((↑now.length:Int)==(↑b.3.length:Int))=false→all.length≤maxLen→False∧∀ (k0:Nat),k0≤(0:Nat)→False)) (by kernel_rfl) ?_
 refine fun h1 h2 => ⟨fun _ => ⟨rfl, hm, hs, SEq_whole rfl, SEq_whole rfl, SEq_whole rfl, ?_, ?_, rfl, rfl, SEq_whole rfl, rfl, rfl⟩, fun h => ?_⟩
 ·rw [hP]; exact SEq_whole rfl
 ·rw [Bool.eq_iff_iff]
  simp only [bne_iff_ne, ne_eq, decide_eq_true_eq]
  omega
 ·rw [hd] at h; simp at h
theorem from123step (S : Set Tryz.prog Y Gl) (b : Book) (all now : List Task) (P : List (List Task)) (l m s p c : Nat) (hb : b.ok = true) (hd : now.length < b.sheets.length) (hs : p ≤ s) (ih : ∀ (n : Nat) (f : Nat → List C) (k : Nat), k < all.length → p + k * c ≤ s → SEq n f (now ++ [nth all k]).length (fun i => eTask (nth (now ++ [nth all k]) i)) → Does Tryz.prog Y Gl (fromYd b P l m s) 123 [.d (.c (.s .n n f)), .d (.c (.p (cBook b))), .addr FAR 0, .addr (FAR + 1) 0, .addr (FAR + 2) 0] (fromPre b all l (p + k * c)) (.ret (B (decide (p + k * c + c ≤ s)))) [(0, BIG, .tr (min (p + k * c + c) (s + 1)))]) : Does Tryz.prog Y Gl (fromYd b P l m s) 123 [L eTask now, .d (.c (.p (cBook b))), .addr FAR 0, .addr (FAR + 1) 0, .addr (FAR + 2) 0] (fromPre b all l p) (.ret (B (decide (p + all.length * c ≤ s)))) [(0, BIG, .tr (min (p + all.length * c) (s + 1)))] := by
 refine fn_is2 S (.br .nil (.loop (upto (fun k=>decide (p+(k+1)*c≤s)) (List.range all.length)) (fun k=>v 22 (I ↑k)::v 21 (I ↑all.length)::v 20 (L eTask all)::v 0 (L eTask now)::v 1 (T.d (D.c (C.p (cBook b))))::v 2 (T.addr FAR (0:Nat))::v 3 (T.addr (FAR+1) (0:Nat))::v 4 (T.addr (FAR+2) (0:Nat))::fromPre b all l (p+k*c)) fun k0=>.br (.w [(nat_lit 100000,nat_lit 100000),(nat_lit 100001,nat_lit 100001),(nat_lit 100002,nat_lit 100002)] [T.d (D.c (C.s Tag.n (Int.toNat ((↑now.length:Int)-0)+1) (catF (Int.toNat ((↑now.length:Int)-0)) (fun i=>eTask (nth now (Int.toNat (0:Int)+i))) fun i=>List.getD [List.map C.dem (List.map C.dem [C.v (Value.int IntKind.i64 (nth all k0).1),C.v (Value.int IntKind.i64 (nth all k0).2),C.v (Value.int IntKind.i64 (nth all k0).3)])] i []))),T.d (D.c (C.p (cBook b))),T.addr FAR (0:Nat),T.addr (FAR+1) (0:Nat),T.addr (FAR+2) (0:Nat)] (fromPre b all l (p+k0*c)) (.ret (B (decide (p+k0*c+c≤s)))) [((0:Nat),BIG,T.tr (min (p+k0*c+c) (s+1)))] (.br .nil .nil)) .nil)) Tryz.func123 (by kernel_rfl) (now.length≤maxLen→b.3.length≤maxLen→(((↑now.length:Int)==(↑b.3.length:Int))=true→l=l∧p<m∧p≤s∧(SEq b.1.length (fun i=>eComp (nth b.1 i)) b.1.length fun i=>eComp (nth b.1 i))∧(SEq b.2.length (fun i=>eI (nth b.2 i)) b.2.length fun i=>eI (nth b.2 i))∧(SEq b.3.length (fun i=>eI (nth b.3 i)) b.3.length fun i=>eI (nth b.3 i))∧(SEq now.length (fun i=>eTask (nth now i)) (List.length (nth P p)) fun i=>eTask (nth (nth P p) i))∧(p != s)=decide (p+all.length*c≤s)∧p+(1:Nat)=min (p+all.length*c) (s+1)∧l=l∧(SEq all.length (fun i=>eTask (nth all i)) all.length fun i=>eTask (nth all i))∧(123:Nat)=(123:Nat)∧[C.l eComp b.1,C.l eI b.2,C.l eI b.3]=[C.l eComp b.1,C.l eI b.2,C.l eI b.3])∧(((↑now.length:Int)==(↑b.3.length:Int))=false→all.length≤maxLen→(0=(↑(0:Nat):Int)∧(↑all.length:Int)=(↑all.length:Int)∧(SEq all.length (fun i=>eTask (nth all i)) all.length fun i=>eTask (nth all i))∧(SEq now.length (fun i=>eTask (nth now i)) now.length fun i=>eTask (nth now i))∧[C.l eComp b.1,C.l eI b.2,C.l eI b.3]=[C.l eComp b.1,C.l eI b.2,C.l eI b.3]∧p=p+(0:Nat)*c∧l=l∧(SEq all.length (fun i=>eTask (nth all i)) all.length fun i=>eTask (nth all i))∧(123:Nat)=(123:Nat)∧[C.l eComp b.1,C.l eI b.2,C.l eI b.3]=[C.l eComp b.1,C.l eI b.2,C.l eI b.3])∧∀ (k0:Nat),k0≤upto (fun k=>decide (p+(k+1)*c≤s)) (List.range all.length)→(decide ((↑k0:Int)<(↑all.length:Int))=true→(0≤(↑k0:Int)∧(↑k0:Int)<(↑all.length:Int))∧(now.length≤maxLen→now.length≤maxLen→(0:Int)≤0∧0≤(↑now.length:Int)∧(↑now.length:Int)=(↑now.length:Int)∧(↑now.length:Int)≤(↑now.length:Int)∧(Int.toNat ((↑now.length:Int)-0)+1)*24≤140737488355328∧Int.toNat ((↑now.length:Int)-0)+1≤140737488355328∧SEq (Int.toNat ((↑now.length:Int)-0)+1) (catF (Int.toNat ((↑now.length:Int)-0)) (fun i=>eTask (nth now (Int.toNat (0:Int)+i))) fun i=>List.getD [List.map C.dem (List.map C.dem [C.v (Value.int IntKind.i64 (nth all k0).1),C.v (Value.int IntKind.i64 (nth all k0).2),C.v (Value.int IntKind.i64 (nth all k0).3)])] i []) (Int.toNat ((↑now.length:Int)-0)+1) (catF (Int.toNat ((↑now.length:Int)-0)) (fun i=>eTask (nth now (Int.toNat (0:Int)+i))) fun i=>List.getD [List.map C.dem (List.map C.dem [C.v (Value.int IntKind.i64 (nth all k0).1),C.v (Value.int IntKind.i64 (nth all k0).2),C.v (Value.int IntKind.i64 (nth all k0).3)])] i [])∧[C.l eComp b.1,C.l eI b.2,C.l eI b.3]=[C.l eComp b.1,C.l eI b.2,C.l eI b.3]∧p+k0*c=p+k0*c∧l=l∧(SEq all.length (fun i=>eTask (nth all i)) all.length fun i=>eTask (nth all i))∧(123:Nat)=(123:Nat)∧[C.l eComp b.1,C.l eI b.2,C.l eI b.3]=[C.l eComp b.1,C.l eI b.2,C.l eI b.3]∧Does Tryz.prog Y Gl (fromYd b P l m s) (123:FuncId) [T.d (D.c (C.s Tag.n (Int.toNat ((↑now.length:Int)-0)+1) (catF (Int.toNat ((↑now.length:Int)-0)) (fun i=>eTask (nth now (Int.toNat (0:Int)+i))) fun i=>List.getD [List.map C.dem (List.map C.dem [C.v (Value.int IntKind.i64 (nth all k0).1),C.v (Value.int IntKind.i64 (nth all k0).2),C.v (Value.int IntKind.i64 (nth all k0).3)])] i []))),T.d (D.c (C.p (cBook b))),T.addr FAR (0:Nat),T.addr (FAR+1) (0:Nat),T.addr (FAR+2) (0:Nat)] (fromPre b all l (p+k0*c)) (.ret (B (decide (p+k0*c+c≤s)))) [((0:Nat),BIG,T.tr (min (p+k0*c+c) (s+1)))]∧((!decide (p+k0*c+c≤s))=true→false=decide (p+all.length*c≤s)∧min (p+k0*c+c) (s+1)=min (p+all.length*c) (s+1)∧l=l∧(SEq all.length (fun i=>eTask (nth all i)) all.length fun i=>eTask (nth all i))∧(123:Nat)=(123:Nat)∧[C.l eComp b.1,C.l eI b.2,C.l eI b.3]=[C.l eComp b.1,C.l eI b.2,C.l eI b.3])∧((!decide (p+k0*c+c≤s))=false→inRange IntKind.i64 ((↑k0:Int)+1)∧k0<upto (fun k=>decide (p+(k+1)*c≤s)) (List.range all.length)∧(↑k0:Int)+1=(↑(k0+1):Int)∧(↑all.length:Int)=(↑all.length:Int)∧(SEq all.length (fun i=>eTask (nth all i)) all.length fun i=>eTask (nth all i))∧(SEq now.length (fun i=>eTask (nth now i)) now.length fun i=>eTask (nth now i))∧[C.l eComp b.1,C.l eI b.2,C.l eI b.3]=[C.l eComp b.1,C.l eI b.2,C.l eI b.3]∧min (p+k0*c+c) (s+1)=p+(k0+1)*c∧l=l∧(SEq all.length (fun i=>eTask (nth all i)) all.length fun i=>eTask (nth all i))∧(123:Nat)=(123:Nat)∧[C.l eComp b.1,C.l eI b.2,C.l eI b.3]=[C.l eComp b.1,C.l eI b.2,C.l eI b.3])))∧(decide ((↑k0:Int)<(↑all.length:Int))=false→true=decide (p+all.length*c≤s)∧p+k0*c=min (p+all.length*c) (s+1)∧l=l∧(SEq all.length (fun i=>eTask (nth all i)) all.length fun i=>eTask (nth all i))∧(123:Nat)=(123:Nat)∧[C.l eComp b.1,C.l eI b.2,C.l eI b.3]=[C.l eComp b.1,C.l eI b.2,C.l eI b.3]))) (by kernel_rfl) ?_
 obtain ⟨_, _, o3, _⟩ := ok_spec hb
 have hup : ∀ k, k ≤ upto (fun k => decide (p + (k + 1) * c ≤ s)) (List.range all.length) → k ≤ all.length ∧ p + k * c ≤ s := fun k hk => by
  have h1 := upto_le (p := fun k => decide (p + (k + 1) * c ≤ s)) (l := List.range all.length)
  rw [List.length_range] at h1
  refine ⟨by omega, ?_⟩
  cases k with
  | zero => simpa using hs
  | succ k =>
   have := upto_before (p := fun k => decide (p + (k + 1) * c ≤ s)) (l := List.range all.length) (i := k) (by omega)
   rw [nth_range (by omega)] at this
   exact of_decide_eq_true this
 have hpush : ∀ k, SEq (((now.length : Int) - 0).toNat + 1) (catF ((now.length : Int) - 0).toNat (fun i => eTask (nth now (Int.toNat 0 + i))) fun i => [List.map C.dem (List.map C.dem [C.v (Value.int IntKind.i64 (nth all k).one), C.v (Value.int IntKind.i64 (nth all k).other), C.v (Value.int IntKind.i64 (nth all k).third)])].getD i []) (now ++ [nth all k]).length (fun i => eTask (nth (now ++ [nth all k]) i)) := fun k => by
  have e1 : ((now.length : Int) - 0).toNat = now.length := by omega
  have e2 : ∀ i, Int.toNat 0 + i = i := fun i => by simp
  simp only [e1, e2]
  exact SEq_push1 rfl rfl
 refine fun h1 h2 => ⟨fun h => ?_, fun _ h3 => ⟨⟨rfl, rfl, SEq_whole rfl, SEq_whole rfl, rfl, by rw [Nat.zero_mul, Nat.add_zero], rfl, SEq_whole rfl, rfl, rfl⟩, fun k hk => ⟨fun hl => ⟨?_, fun _ _ => ⟨by omega, by omega, rfl, by omega, by omega, by omega, ⟨rfl, fun _ _ => .inl rfl⟩, rfl, rfl, rfl, SEq_whole rfl, rfl, rfl, ?_, fun hr => ?_, fun hr => ?_⟩⟩, fun hl => ?_⟩⟩⟩
 ·have := eq_of_beq h
  omega
 ·have hl := of_decide_eq_true hl
  omega
 ·have hl := of_decide_eq_true hl
  exact ih _ _ k (by omega) (hup k hk).2 (hpush k)
 ·have hl := of_decide_eq_true hl
  simp only [Bool.not_eq_eq_eq_not, Bool.not_true, decide_eq_false_iff_not] at hr
  have hm : (k + 1) * c ≤ all.length * c := Nat.mul_le_mul_right _ (by omega)
  rw [Nat.succ_mul] at hm
  exact ⟨(decide_eq_false (by omega)).symm, by omega, rfl, SEq_whole rfl, rfl, rfl⟩
 ·have hl := of_decide_eq_true hl
  simp only [Bool.not_eq_eq_eq_not, Bool.not_false, decide_eq_true_eq] at hr
  have hm : (k + 1) * c = k * c + c := Nat.succ_mul _ _
  refine ⟨(rng_iff _).2 ?_, upto_lt hk (by rw [List.length_range]; omega) (by rw [nth_range (by omega)]; exact decide_eq_true (by omega)), by omega, rfl, SEq_whole rfl, SEq_whole rfl, rfl, by omega, rfl, SEq_whole rfl, rfl, rfl⟩
  rw [maxLen_eq] at h3
  omega
 ·have hl := of_decide_eq_false hl
  obtain ⟨u1, u2⟩ := hup k hk
  have hke : k = all.length := by omega
  subst hke
  exact ⟨(decide_eq_true u2).symm, by omega, rfl, SEq_whole rfl, rfl, rfl⟩
theorem nth_flat {f : Task → List (List Task)} {c : Nat} : ∀ {all : List Task}, (∀ x ∈ all, (f x).length = c) → ∀ k i, k < all.length → i < c → nth (all.flatMap f) (k * c + i) = nth (f (nth all k)) i
 | [], _, k, i, hk, _ => by simp at hk
 | x :: all, hf, k, i, hk, hi => by
  rw [List.flatMap_cons]
  have hx := hf x List.mem_cons_self
  cases k with
  | zero =>
   rw [Nat.zero_mul, Nat.zero_add, nth_append_lt (by omega)]
   rfl
  | succ k =>
   have e : (k + 1) * c + i = c + (k * c + i) := by rw [Nat.succ_mul]; omega
   rw [e, nth_append_ge (by omega), hx, Nat.add_sub_cancel_left, nth_flat (fun y hy => hf y (List.mem_cons_of_mem _ hy)) k i (by simpa using hk) hi]
   rfl
theorem from123 (S : Set Tryz.prog Y Gl) (b : Book) (hb : b.ok = true) (all : List Task) (P : List (List Task)) (l m s : Nat) : ∀ (d : Nat) (now : List Task) (p : Nat), now.length + d = b.sheets.length → p ≤ s →
  (∀ i, i < (plansFrom all d now).length → p + i < m ∧ nth P (p + i) = nth (plansFrom all d now) i) →
  Does Tryz.prog Y Gl (fromYd b P l m s) 123 [L eTask now, .d (.c (.p (cBook b))), .addr FAR 0, .addr (FAR + 1) 0, .addr (FAR + 2) 0] (fromPre b all l p) (.ret (B (decide (p + (plansFrom all d now).length ≤ s)))) [(0, BIG, .tr (min (p + (plansFrom all d now).length) (s + 1)))]
 | 0, now, p, hd, hs, hP => by
  obtain ⟨h1, h2⟩ := hP 0 (by simp [plansFrom])
  have := from123base S b all now P l m s p (by omega) (by omega) hs h2
  have e : (plansFrom all 0 now).length = 1 := rfl
  have e2 : min (p + 1) (s + 1) = p + 1 := by omega
  rw [e, e2]
  exact this
 | d + 1, now, p, hd, hs, hP => by
  have hlen := plansFrom_len all
  have e : (plansFrom all (d + 1) now).length = all.length * all.length ^ d := by rw [hlen, Nat.pow_succ, Nat.mul_comm]
  rw [e]
  refine from123step S b all now P l m s p (all.length ^ d) hb (by omega) hs fun n f k hk hks hseq => ?_
  have ih := from123 S b hb all P l m s d (now ++ [nth all k]) (p + k * all.length ^ d) (by simp; omega) hks fun i hi => ?_
  ·rw [hlen] at ih
   exact ih.args (show SEq n f (now ++ [nth all k]).length (fun i => eTask (nth (now ++ [nth all k]) i)) ∧ cBook b = cBook b from ⟨hseq, rfl⟩)
  ·rw [hlen] at hi
   have hm : (k + 1) * all.length ^ d ≤ all.length * all.length ^ d := Nat.mul_le_mul_right _ (by omega)
   rw [Nat.succ_mul] at hm
   obtain ⟨h1, h2⟩ := hP (k * all.length ^ d + i) (by rw [e]; omega)
   refine ⟨by omega, ?_⟩
   rw [Nat.add_assoc, h2]
   have e3 : plansFrom all (d + 1) now = all.flatMap fun x => plansFrom all d (now ++ [x]) := rfl
   rw [e3]
   exact nth_flat (fun x _ => hlen d _) k i hk hi
def allPlans (b : Book) : List (List Task) := plansFrom b.tasks b.sheets.length []
theorem from123nil (S : Set Tryz.prog Y Gl) (b : Book) (hb : b.ok = true) (l s : Nat) :
  Does Tryz.prog Y Gl (fromYd b (allPlans b) l (allPlans b).length s) 123 [.d (.c (.v (.slice none 0 0))), .d (.c (.p (cBook b))), .addr FAR 0, .addr (FAR + 1) 0, .addr (FAR + 2) 0] (fromPre b b.tasks l 0) (.ret (B (decide (0 + (allPlans b).length ≤ s)))) [(0, BIG, .tr (min (0 + (allPlans b).length) (s + 1)))] := by
 have := from123 S b hb b.tasks (allPlans b) l (allPlans b).length s b.sheets.length [] 0 (by simp) (Nat.zero_le _) fun i hi => ⟨by rw [Nat.zero_add]; exact hi, by rw [Nat.zero_add]; rfl⟩
 exact this.args (show ([] : List Task).length = 0 ∧ cBook b = cBook b from ⟨rfl, rfl⟩)
theorem plans121 (S : Set Tryz.prog Y Gl) (b : Book) (l s : Nat) (hb : b.ok = true) : Does Tryz.prog Y Gl (fromYd b (allPlans b) l (allPlans b).length s) 121 [.yl l, .d (.c (.p (cBook b)))] [(0, BIG, .tr 0)] (.ret (.tup [])) [(0, BIG, .tr (min (allPlans b).length (s + 1)))] := by
 refine fn_is2 S (.r (.ret (L eTask (Book.tasks b))) (.w [(nat_lit 100000,nat_lit 2),(nat_lit 100001,nat_lit 3),(nat_lit 100002,nat_lit 4)] [T.d (D.c (C.v (Value.slice none 0 0))),T.d (D.c (C.p (cBook b))),T.addr FAR (0:Nat),T.addr (FAR+1) (0:Nat),T.addr (FAR+2) (0:Nat)] (fromPre b (Book.tasks b) l (0:Nat)) (.ret (B (decide ((0:Nat)+List.length (allPlans b)≤s)))) [((0:Nat),BIG,T.tr (min ((0:Nat)+List.length (allPlans b)) (s+1)))] .nil)) Tryz.func121 (by kernel_rfl) (Computes Tryz.prog Gl 122 [tBook b] (.ret (L eTask (Book.tasks b)))∧Value.slice none 0 0=Value.slice none 0 0∧[C.l eComp b.1,C.l eI b.2,C.l eI b.3]=[C.l eComp b.1,C.l eI b.2,C.l eI b.3]∧(0:Nat)=(0:Nat)∧l=l∧(SEq (List.length (Book.tasks b)) (fun i=>eTask (nth (Book.tasks b) i)) (List.length (Book.tasks b)) fun i=>eTask (nth (Book.tasks b) i))∧(123:Nat)=(123:Nat)∧[C.l eComp b.1,C.l eI b.2,C.l eI b.3]=[C.l eComp b.1,C.l eI b.2,C.l eI b.3]∧Does Tryz.prog Y Gl (fromYd b (allPlans b) l (List.length (allPlans b)) s) (123:FuncId) [T.d (D.c (C.v (Value.slice none 0 0))),T.d (D.c (C.p (cBook b))),T.addr FAR (0:Nat),T.addr (FAR+1) (0:Nat),T.addr (FAR+2) (0:Nat)] (fromPre b (Book.tasks b) l (0:Nat)) (.ret (B (decide ((0:Nat)+List.length (allPlans b)≤s)))) [((0:Nat),BIG,T.tr (min ((0:Nat)+List.length (allPlans b)) (s+1)))]∧True∧min ((0:Nat)+List.length (allPlans b)) (s+1)=min (List.length (allPlans b)) (s+1)) (by kernel_rfl) ?_
 exact ⟨tasks122 S b hb, rfl, rfl, rfl, rfl, SEq_whole rfl, rfl, rfl, from123nil S b hb l s, trivial, by rw [Nat.zero_add]⟩
end Go.Vc.Gd
namespace Go.Vc.Gd
open Go Go.Proofs Go.Vc
variable {Gl : World → Prop}
theorem fineT (S : Set Tryz.prog Y Gl) (b : Book) (hb : b.ok = true) : Computes Tryz.prog Gl 94 [tBook b] (.ret (B true)) := by have := fine94 S b; rw [hb] at this; exact this
theorem fineF (S : Set Tryz.prog Y Gl) (b : Book) (hb : b.ok = false) : Computes Tryz.prog Gl 94 [tBook b] (.ret (B false)) := by have := fine94 S b; rw [hb] at this; exact this
def sureP (b : Book) (pl : List Task) : Bool := Work.surely ⟨b, pl⟩
def firstN (b : Book) : Nat := upto (fun pl => !sureP b pl) (allPlans b)
def noFirst (b : Book) : Bool := (allPlans b).all fun pl => !sureP b pl
def firstPlan (b : Book) : List Task := bif noFirst b then [] else nth (allPlans b) (firstN b)
def countTo (b : Book) : Nat → Int
 | 0 => 0
 | p + 1 => bif sureP b (nth (allPlans b) p) then countTo b p + 1 else countTo b p
theorem plansFrom_good {b : Book} : ∀ {d : Nat} {now p : List Task}, p ∈ plansFrom b.tasks d now → (∀ t ∈ now, b.fault t = 0) → p.length = now.length + d ∧ ∀ t ∈ p, b.fault t = 0
 | 0, now, p, h, hn => by
  rw [List.mem_singleton.1 h]
  exact ⟨rfl, hn⟩
 | d + 1, now, p, h, hn => by
  obtain ⟨x, hx, hp⟩ := List.mem_flatMap.1 h
  obtain ⟨h1, h2⟩ := plansFrom_good hp fun t ht => by
   rcases List.mem_append.1 ht with ht | ht
   ·exact hn t ht
   ·rw [List.mem_singleton.1 ht]; exact mem_tasksTo hx
  refine ⟨?_, h2⟩
  rw [h1, List.length_append, List.length_singleton]
  omega
theorem allPlans_good {b : Book} {k : Nat} (hk : k < (allPlans b).length) : b.good (nth (allPlans b) k) = true := by
 obtain ⟨h1, h2⟩ := plansFrom_good (nth_mem hk) (fun t ht => (by cases ht))
 have h1 : (nth (allPlans b) k).length = b.sheets.length := by
  have : (nth (allPlans b) k).length = ([] : List Task).length + b.sheets.length := h1
  simpa using this
 unfold Book.good Book.isWhy
 rw [h1]
 simp only [beq_self_eq_true, Bool.true_and, Bool.not_not, List.all_eq_true, beq_iff_eq]
 exact h2
theorem allPlans_len {b : Book} (hb : b.ok = true) : (allPlans b).length ≤ 262144 := by
 obtain ⟨_, _, o3, _⟩ := ok_spec hb
 unfold allPlans
 rw [plansFrom_len]
 exact pow_le (tasks_len hb) o3.2
theorem countTo_le (b : Book) : ∀ k, 0 ≤ countTo b k ∧ countTo b k ≤ k
 | 0 => ⟨Int.le_refl _, Int.le_refl _⟩
 | k + 1 => by
  have := countTo_le b k
  unfold countTo
  cases sureP b (nth (allPlans b) k) <;> simp only [cond_true, cond_false] <;> omega
theorem first49 (S : Set Tryz.prog Y Gl) (b : Book) (hb : b.ok = true) : Computes Tryz.prog Gl 49 [tBook b] (.ret (.tup [.c (.l eTask (firstPlan b)), .c (Ci (bif noFirst b then 5 else 0))])) := by
 refine fn_is S (.r (.ret (B true)) (.ff (.r (.ret (T.fn (121:FuncId) [] [T.d (D.c (C.p (cBook b)))])) (.rf (List.length (allPlans b)) (firstN b) (fun p=>[tWork {book:=b,plan:=nth (allPlans b) p}]) (fun p=>v 1 (ad 1)::v 4 (ad 4)::(bx 1 (cBook b) ++ bx 4 [C.v (Value.slice none 0 0)])) (fun k0=>.r (.ret (B (Work.surely {book:=b,plan:=nth (allPlans b) k0}))) (.br (.ff .nil) .nil)) (.tt .nil))))) Tryz.func49 (by kernel_rfl) (Computes Tryz.prog Gl 94 [tBook b] (.ret (B true))∧false=false∧Computes Tryz.prog Gl 95 [tBook b] (.ret (T.fn (121:FuncId) [] [T.d (D.c (C.p (cBook b)))]))∧Yd.m yd0=(0:Nat)∧ydOf (Does Tryz.prog Y Gl) (121:Nat) [] [T.d (D.c (C.p [C.l eComp b.1,C.l eI b.2,C.l eI b.3]))] (fun l=>{l:=l,m:=List.length (allPlans b),s:=firstN b,ys:=fun p=>[tWork {book:=b,plan:=nth (allPlans b) p}]}) (List.length (allPlans b)) (firstN b)∧((SEq b.1.length (fun i=>eComp (nth b.1 i)) b.1.length fun i=>eComp (nth b.1 i))∧(SEq b.2.length (fun i=>eI (nth b.2 i)) b.2.length fun i=>eI (nth b.2 i))∧(SEq b.3.length (fun i=>eI (nth b.3 i)) b.3.length fun i=>eI (nth b.3 i))∧Value.slice none 0 0=Value.slice none 0 0)∧(∀ (k0:Nat),k0<List.length (allPlans b)→k0≤firstN b→Computes Tryz.prog Gl 96 [tWork {book:=b,plan:=nth (allPlans b) k0}] (.ret (B (Work.surely {book:=b,plan:=nth (allPlans b) k0})))∧(Work.surely {book:=b,plan:=nth (allPlans b) k0}=true→k0=firstN b∧(0:Nat)<List.length (nth (allPlans b) k0)∧false=false∧(SEq (List.length (nth (allPlans b) k0)) (fun i=>eTask (nth (nth (allPlans b) k0) i)) (List.length (firstPlan b)) fun i=>eTask (nth (firstPlan b) i))∧(0:Int)=bif noFirst b then (5:Int) else (0:Int))∧(Work.surely {book:=b,plan:=nth (allPlans b) k0}=false→k0<firstN b∧(SEq b.1.length (fun i=>eComp (nth b.1 i)) b.1.length fun i=>eComp (nth b.1 i))∧(SEq b.2.length (fun i=>eI (nth b.2 i)) b.2.length fun i=>eI (nth b.2 i))∧(SEq b.3.length (fun i=>eI (nth b.3 i)) b.3.length fun i=>eI (nth b.3 i))∧Value.slice none 0 0=Value.slice none 0 0))∧(List.length (allPlans b)≤firstN b→true=true∧List.length (firstPlan b)=(0:Nat)∧(5:Int)=bif noFirst b then (5:Int) else (0:Int))) (by kernel_rfl) ?_
 refine ⟨fineT S b hb, rfl, plans95 S b, rfl, fun l => plans121 S b l _ hb, ⟨SEq_whole rfl, SEq_whole rfl, SEq_whole rfl, rfl⟩, fun p hm hs => ⟨surely96 S _ hb (allPlans_good hm), fun h => ?_, fun h => ?_⟩, fun h => ?_⟩
 ·have hN : firstN b = p := by
   rcases Nat.lt_or_ge p (firstN b) with h2 | h2
   ·have := upto_before (p := fun pl => !sureP b pl) h2
    unfold sureP at this
    rw [h] at this
    cases this
   ·omega
  have hno : noFirst b = false := upto_some (p := fun pl => !sureP b pl) hm (by unfold sureP; rw [h]; rfl)
  have hg := allPlans_good hm
  obtain ⟨g1, _⟩ := good_spec hg
  obtain ⟨_, _, o3, _⟩ := ok_spec hb
  have hfp : firstPlan b = nth (allPlans b) p := by unfold firstPlan; rw [hno, hN]; rfl
  exact ⟨hN.symm, by omega, rfl, by rw [hfp]; exact SEq_whole rfl, by rw [hno]; rfl⟩
 ·exact ⟨upto_lt (p := fun pl => !sureP b pl) hs hm (by unfold sureP; rw [h]; rfl), SEq_whole rfl, SEq_whole rfl, SEq_whole rfl, rfl⟩
 ·have hno : noFirst b = true := upto_all h
  have hfp : firstPlan b = [] := by unfold firstPlan; rw [hno]; rfl
  exact ⟨rfl, by rw [hfp]; rfl, by rw [hno]; rfl⟩
theorem count50 (S : Set Tryz.prog Y Gl) (b : Book) (hb : b.ok = true) : Computes Tryz.prog Gl 50 [tBook b] (.ret (.tup [.c (Ci (countTo b (allPlans b).length)), .c (Ci 0)])) := by
 refine fn_is S (.r (.ret (B true)) (.ff (.r (.ret (T.fn (121:FuncId) [] [T.d (D.c (C.p (cBook b)))])) (.rf (List.length (allPlans b)) (List.length (allPlans b)) (fun p=>[tWork {book:=b,plan:=nth (allPlans b) p}]) (fun p=>v 1 (ad 1)::v 4 (ad 4)::(bx 1 (cBook b) ++ bx 4 [Ci (countTo b p)])) (fun k0=>.r (.ret (B (Work.surely {book:=b,plan:=nth (allPlans b) k0}))) (.br .nil .nil)) .nil)))) Tryz.func50 (by kernel_rfl) (Computes Tryz.prog Gl 94 [tBook b] (.ret (B true))∧false=false∧Computes Tryz.prog Gl 95 [tBook b] (.ret (T.fn (121:FuncId) [] [T.d (D.c (C.p (cBook b)))]))∧Yd.m yd0=(0:Nat)∧ydOf (Does Tryz.prog Y Gl) (121:Nat) [] [T.d (D.c (C.p [C.l eComp b.1,C.l eI b.2,C.l eI b.3]))] (fun l=>{l:=l,m:=List.length (allPlans b),s:=List.length (allPlans b),ys:=fun p=>[tWork {book:=b,plan:=nth (allPlans b) p}]}) (List.length (allPlans b)) (List.length (allPlans b))∧((SEq b.1.length (fun i=>eComp (nth b.1 i)) b.1.length fun i=>eComp (nth b.1 i))∧(SEq b.2.length (fun i=>eI (nth b.2 i)) b.2.length fun i=>eI (nth b.2 i))∧(SEq b.3.length (fun i=>eI (nth b.3 i)) b.3.length fun i=>eI (nth b.3 i))∧(0:Int)=countTo b (0:Nat))∧(∀ (k0:Nat),k0<List.length (allPlans b)→k0≤List.length (allPlans b)→Computes Tryz.prog Gl 96 [tWork {book:=b,plan:=nth (allPlans b) k0}] (.ret (B (Work.surely {book:=b,plan:=nth (allPlans b) k0})))∧(Work.surely {book:=b,plan:=nth (allPlans b) k0}=true→inRange IntKind.i64 (countTo b k0+(1:Int))∧k0<List.length (allPlans b)∧(SEq b.1.length (fun i=>eComp (nth b.1 i)) b.1.length fun i=>eComp (nth b.1 i))∧(SEq b.2.length (fun i=>eI (nth b.2 i)) b.2.length fun i=>eI (nth b.2 i))∧(SEq b.3.length (fun i=>eI (nth b.3 i)) b.3.length fun i=>eI (nth b.3 i))∧countTo b k0+(1:Int)=countTo b (k0+1))∧(Work.surely {book:=b,plan:=nth (allPlans b) k0}=false→k0<List.length (allPlans b)∧(SEq b.1.length (fun i=>eComp (nth b.1 i)) b.1.length fun i=>eComp (nth b.1 i))∧(SEq b.2.length (fun i=>eI (nth b.2 i)) b.2.length fun i=>eI (nth b.2 i))∧(SEq b.3.length (fun i=>eI (nth b.3 i)) b.3.length fun i=>eI (nth b.3 i))∧countTo b k0=countTo b (k0+1)))∧(List.length (allPlans b)≤List.length (allPlans b)→countTo b (List.length (allPlans b))=countTo b (List.length (allPlans b))∧(0:Int)=0)) (by kernel_rfl) ?_
 have hl := allPlans_len hb
 refine ⟨fineT S b hb, rfl, plans95 S b, rfl, fun l => plans121 S b l _ hb, ⟨SEq_whole rfl, SEq_whole rfl, SEq_whole rfl, rfl⟩, fun p hm hs => ⟨surely96 S _ hb (allPlans_good hm), fun h => ?_, fun h => ?_⟩, fun h => ⟨rfl, rfl⟩⟩
 ·have hc := countTo_le b p
  have h' : sureP b (nth (allPlans b) p) = true := h
  exact ⟨(rng_iff _).2 (by omega), hm, SEq_whole rfl, SEq_whole rfl, SEq_whole rfl, by rw [countTo, h']; rfl⟩
 ·have h' : sureP b (nth (allPlans b) p) = false := h
  exact ⟨hm, SEq_whole rfl, SEq_whole rfl, SEq_whole rfl, by rw [countTo, h']; rfl⟩
structure Made where
 plan : List Task
 day : Int
instance : Inhabited Made := ⟨⟨[], 0⟩⟩
def eMade (x : Made) : List C := [.l eTask x.plan, Ci x.day]
def lastDay (b : Book) (pl : List Task) : Int := lastL (days pl (b.ends true) (-1) (-1)) (days pl (b.ends true) (-1) (-1)).length
def madeOf (b : Book) (pl : List Task) : Made := ⟨pl, lastDay b pl⟩
def mades (b : Book) : List Made := (allPlans b).map (madeOf b)
def bestM (l : List Made) : Nat → Made
 | 0 => nth l 0
 | k + 1 => bif decide ((nth l (k + 1)).day < (bestM l k).day) then nth l (k + 1) else bestM l k
def soonest (b : Book) : Made := bif (allPlans b).length == 0 then ⟨[], 0⟩ else bestM (mades b) ((mades b).length - 1)
theorem less125 (S : Set Tryz.prog Y Gl) (x y : Made) : Computes Tryz.prog Gl 125 [.d (.agg (eMade x)), .d (.agg (eMade y))] (.ret (B (decide (x.day < y.day)))) := by
 refine fn_is S (.nil) Tryz.func125 (by kernel_rfl) (decide (x.2<y.2)=decide (x.2<y.2)) (by kernel_rfl) ?_
 rfl
theorem best124 (S : Set Tryz.prog Y Gl) (l : List Made) (hl : 1 ≤ l.length) (hm : l.length ≤ 1000000) : Computes Tryz.prog Gl 124 [L eMade l, .fn 125 [] []] (.ret (.d (.agg (eMade (bestM l (l.length - 1)))))) := by
 refine fn_is S (.loop (List.length l-(1:Nat)) (fun k=>v 14 (I ↑k)::v 13 (I ((↑l.length:Int)-1))::v 12 (T.d (D.c (C.s Tag.n (List.length l-(1:Nat)) fun i=>eMade (nth l ((1:Nat)+i)))))::v 1 (T.fn (125:FuncId) [] [])::v 5 (ad 5)::v 4 (ad 4)::(bx 5 (eMade (bestM l k)) ++ bx 4 [C.v (Value.slice none 0 0),Ci 0])) fun k0=>.br (.r (.ret (B (decide (Made.day {plan:=(nth l ((1:Nat)+k0)).1,day:=(nth l ((1:Nat)+k0)).2}<Made.day {plan:=(bestM l k0).1,day:=(bestM l k0).2})))) (.br .nil .nil)) .nil) Tryz.func124 (by kernel_rfl) (((0:Int)≤0∧0<(↑l.length:Int))∧((0:Int)≤1∧1≤(↑l.length:Int)∧(↑l.length:Int)≤(↑l.length:Int))∧(Int.toNat ((↑l.length:Int)-1)≤maxLen→(0=(↑(0:Nat):Int)∧(↑(Int.toNat ((↑l.length:Int)-1)):Int)=(↑l.length:Int)-1∧(SEq (Int.toNat ((↑l.length:Int)-1)) (fun i=>eMade (nth l (Int.toNat (1:Int)+i))) (List.length l-(1:Nat)) fun i=>eMade (nth l ((1:Nat)+i)))∧(125:Nat)=(125:Nat)∧(SEq (List.length (nth l (Int.toNat (0:Int))).1) (fun i=>eTask (nth (nth l (Int.toNat (0:Int))).1 i)) (List.length (bestM l (0:Nat)).1) fun i=>eTask (nth (bestM l (0:Nat)).1 i))∧(nth l (Int.toNat (0:Int))).2=(bestM l (0:Nat)).2∧Value.slice none 0 0=Value.slice none 0 0∧(0:Int)=0)∧∀ (k0:Nat),k0≤List.length l-(1:Nat)→(decide ((↑k0:Int)<(↑l.length:Int)-1)=true→(0≤(↑k0:Int)∧(↑k0:Int)<(↑(List.length l-(1:Nat)):Int))∧Computes Tryz.prog Gl 125 [T.d (D.agg (eMade {plan:=(nth l ((1:Nat)+k0)).1,day:=(nth l ((1:Nat)+k0)).2})),T.d (D.agg (eMade {plan:=(bestM l k0).1,day:=(bestM l k0).2}))] (.ret (B (decide (Made.day {plan:=(nth l ((1:Nat)+k0)).1,day:=(nth l ((1:Nat)+k0)).2}<Made.day {plan:=(bestM l k0).1,day:=(bestM l k0).2}))))∧(decide ((nth l ((1:Nat)+k0)).2<(bestM l k0).2)=true→inRange IntKind.i64 ((↑k0:Int)+1)∧k0<List.length l-(1:Nat)∧(↑k0:Int)+1=(↑(k0+1):Int)∧(↑l.length:Int)-1=(↑l.length:Int)-1∧(SEq (List.length l-(1:Nat)) (fun i=>eMade (nth l ((1:Nat)+i))) (List.length l-(1:Nat)) fun i=>eMade (nth l ((1:Nat)+i)))∧(125:Nat)=(125:Nat)∧(SEq (List.length (nth l ((1:Nat)+k0)).1) (fun i=>eTask (nth (nth l ((1:Nat)+k0)).1 i)) (List.length (bestM l (k0+1)).1) fun i=>eTask (nth (bestM l (k0+1)).1 i))∧(nth l ((1:Nat)+k0)).2=(bestM l (k0+1)).2∧Value.slice none 0 0=Value.slice none 0 0∧(0:Int)=0)∧(decide ((nth l ((1:Nat)+k0)).2<(bestM l k0).2)=false→inRange IntKind.i64 ((↑k0:Int)+1)∧k0<List.length l-(1:Nat)∧(↑k0:Int)+1=(↑(k0+1):Int)∧(↑l.length:Int)-1=(↑l.length:Int)-1∧(SEq (List.length l-(1:Nat)) (fun i=>eMade (nth l ((1:Nat)+i))) (List.length l-(1:Nat)) fun i=>eMade (nth l ((1:Nat)+i)))∧(125:Nat)=(125:Nat)∧(SEq (List.length (bestM l k0).1) (fun i=>eTask (nth (bestM l k0).1 i)) (List.length (bestM l (k0+1)).1) fun i=>eTask (nth (bestM l (k0+1)).1 i))∧(bestM l k0).2=(bestM l (k0+1)).2∧Value.slice none 0 0=Value.slice none 0 0∧(0:Int)=0))∧(decide ((↑k0:Int)<(↑l.length:Int)-1)=false→(SEq (List.length (bestM l k0).1) (fun i=>eTask (nth (bestM l k0).1 i)) (List.length (bestM l (List.length l-(1:Nat))).1) fun i=>eTask (nth (bestM l (List.length l-(1:Nat))).1 i))∧(bestM l k0).2=(bestM l (List.length l-(1:Nat))).2))) (by kernel_rfl) ?_
 have e1 : ((l.length : Int) - 1).toNat = l.length - 1 := by omega
 refine ⟨by omega, by omega, fun _ => ⟨⟨rfl, by omega, ⟨e1, fun i _ => .inl rfl⟩, rfl, SEq_whole rfl, rfl, rfl, rfl⟩, fun k hk => ⟨fun hl => ⟨?_, less125 S _ _, fun h => ?_, fun h => ?_⟩, fun hl => ?_⟩⟩⟩
 ·have := of_decide_eq_true hl
  omega
 ·have := of_decide_eq_true hl
  have e : bestM l (k + 1) = nth l (1 + k) := by rw [bestM, Nat.add_comm k 1, h]; rfl
  exact ⟨(rng_iff _).2 (by omega), by omega, by omega, rfl, ⟨rfl, fun _ _ => .inl rfl⟩, rfl, by rw [e]; exact SEq_whole rfl, by rw [e], rfl, rfl⟩
 ·have := of_decide_eq_true hl
  have e : bestM l (k + 1) = bestM l k := by rw [bestM, Nat.add_comm k 1, h]; rfl
  exact ⟨(rng_iff _).2 (by omega), by omega, by omega, rfl, ⟨rfl, fun _ _ => .inl rfl⟩, rfl, by rw [e]; exact SEq_whole rfl, by rw [e], rfl, rfl⟩
 ·have := of_decide_eq_false hl
  have hke : k = l.length - 1 := by omega
  rw [hke]
  exact ⟨SEq_whole rfl, rfl⟩
theorem soonest97 (S : Set Tryz.prog Y Gl) (b : Book) (hb : b.ok = true) : Computes Tryz.prog Gl 97 [tBook b] (.ret (.tup [.agg (eMade (soonest b)), .c (Ci (bif (allPlans b).length == 0 then 5 else 0))])) := by
 refine fn_is S (.r (.ret (T.fn (121:FuncId) [] [T.d (D.c (C.p (cBook b)))])) (.rf (List.length (allPlans b)) (List.length (allPlans b)) (fun p=>[tWork {book:=b,plan:=nth (allPlans b) p}]) (fun p=>tk 100 138::v 1 (ad 1)::v 2 (ad 2)::v 4 (ad 4)::(bx 1 (cBook b) ++ bx 2 [C.v (Value.slice none 0 0),Ci 0] ++ bx 4 [C.lt (100:Nat) eMade (List.take p (mades b))])) (fun k0=>.r (.ret (tTruth (Book.ends b true))) (.r (.ret (tLost (-1:Int) (-1:Int))) (.r (.ret (L eI (days (Work.plan {book:=b,plan:=nth (allPlans b) k0}) (Book.ends b true) (-1:Int) (-1:Int)))) (.r (.ret (I (lastL (days (nth (allPlans b) k0) (Book.ends b true) (-1:Int) (-1:Int)) (List.length (days (nth (allPlans b) k0) (Book.ends b true) (-1:Int) (-1:Int)))))) .nil)))) (.br .nil (.r (.ret (T.d (D.agg (eMade (bestM (List.take (List.length (allPlans b)) (mades b)) (List.length (List.take (List.length (allPlans b)) (mades b))-(1:Nat))))))) .nil)))) Tryz.func97 (by kernel_rfl) (Computes Tryz.prog Gl 95 [tBook b] (.ret (T.fn (121:FuncId) [] [T.d (D.c (C.p (cBook b)))]))∧Yd.m yd0=(0:Nat)∧ydOf (Does Tryz.prog Y Gl) (121:Nat) [] [T.d (D.c (C.p [C.l eComp b.1,C.l eI b.2,C.l eI b.3]))] (fun l=>{l:=l,m:=List.length (allPlans b),s:=List.length (allPlans b),ys:=fun p=>[tWork {book:=b,plan:=nth (allPlans b) p}]}) (List.length (allPlans b)) (List.length (allPlans b))∧((SEq b.1.length (fun i=>eComp (nth b.1 i)) b.1.length fun i=>eComp (nth b.1 i))∧(SEq b.2.length (fun i=>eI (nth b.2 i)) b.2.length fun i=>eI (nth b.2 i))∧(SEq b.3.length (fun i=>eI (nth b.3 i)) b.3.length fun i=>eI (nth b.3 i))∧Value.slice none 0 0=Value.slice none 0 0∧(0:Int)=0∧(0:Nat)=(0:Nat))∧(∀ (k0:Nat),k0<List.length (allPlans b)→k0≤List.length (allPlans b)→Computes Tryz.prog Gl 87 [tBook b] (.ret (tTruth (Book.ends b true)))∧Computes Tryz.prog Gl 81 [] (.ret (tLost (-1:Int) (-1:Int)))∧Computes Tryz.prog Gl 83 [tWork {book:=b,plan:=nth (allPlans b) k0},tTruth (Book.ends b true),tLost (-1:Int) (-1:Int)] (.ret (L eI (days (Work.plan {book:=b,plan:=nth (allPlans b) k0}) (Book.ends b true) (-1:Int) (-1:Int))))∧Computes Tryz.prog Gl 116 [L eI (days (nth (allPlans b) k0) (Book.ends b true) (-1:Int) (-1:Int))] (.ret (I (lastL (days (nth (allPlans b) k0) (Book.ends b true) (-1:Int) (-1:Int)) (List.length (days (nth (allPlans b) k0) (Book.ends b true) (-1:Int) (-1:Int))))))∧(List.length (List.take k0 (mades b))+1)*32≤140737488355328∧List.length (List.take k0 (mades b))+1≤140737488355328∧k0<List.length (allPlans b)∧(SEq b.1.length (fun i=>eComp (nth b.1 i)) b.1.length fun i=>eComp (nth b.1 i))∧(SEq b.2.length (fun i=>eI (nth b.2 i)) b.2.length fun i=>eI (nth b.2 i))∧(SEq b.3.length (fun i=>eI (nth b.3 i)) b.3.length fun i=>eI (nth b.3 i))∧Value.slice none 0 0=Value.slice none 0 0∧(0:Int)=0∧SEq (List.length (List.take k0 (mades b))+1) (catF (List.length (List.take k0 (mades b))) (fun i=>eMade (nth (List.take k0 (mades b)) i)) fun i=>List.getD [List.map C.dem (List.map C.dem [C.s Tag.n (List.length (nth (allPlans b) k0)) fun i=>eTask (nth (nth (allPlans b) k0) i),C.v (Value.int IntKind.i64 (lastL (days (nth (allPlans b) k0) (Book.ends b true) (-1:Int) (-1:Int)) (List.length (days (nth (allPlans b) k0) (Book.ends b true) (-1:Int) (-1:Int)))))])] i []) (List.length (List.take (k0+1) (mades b))) fun i=>eMade (nth (List.take (k0+1) (mades b)) i))∧(List.length (allPlans b)≤List.length (allPlans b)→List.length (List.take (List.length (allPlans b)) (mades b))≤maxLen→(((↑(List.length (List.take (List.length (allPlans b)) (mades b))):Int)==0)=true→List.length (soonest b).1=(0:Nat)∧(0:Int)=(soonest b).2∧(5:Int)=bif List.length (allPlans b)==(0:Nat) then (5:Int) else (0:Int))∧(((↑(List.length (List.take (List.length (allPlans b)) (mades b))):Int)==0)=false→Computes Tryz.prog Gl 124 [L eMade (List.take (List.length (allPlans b)) (mades b)),T.fn (125:FuncId) [] []] (.ret (T.d (D.agg (eMade (bestM (List.take (List.length (allPlans b)) (mades b)) (List.length (List.take (List.length (allPlans b)) (mades b))-(1:Nat)))))))∧(SEq (List.length (bestM (List.take (List.length (allPlans b)) (mades b)) (List.length (List.take (List.length (allPlans b)) (mades b))-(1:Nat))).1) (fun i=>eTask (nth (bestM (List.take (List.length (allPlans b)) (mades b)) (List.length (List.take (List.length (allPlans b)) (mades b))-(1:Nat))).1 i)) (List.length (soonest b).1) fun i=>eTask (nth (soonest b).1 i))∧(bestM (List.take (List.length (allPlans b)) (mades b)) (List.length (List.take (List.length (allPlans b)) (mades b))-(1:Nat))).2=(soonest b).2∧(0:Int)=bif List.length (allPlans b)==(0:Nat) then (5:Int) else (0:Int)))) (by kernel_rfl) ?_
 have hl := allPlans_len hb
 obtain ⟨o1, o2, o3, _⟩ := ok_spec hb
 have hml : (mades b).length = (allPlans b).length := List.length_map _
 have htk : (mades b).take (allPlans b).length = mades b := List.take_of_length_le (by omega)
 have hc := best124 S ((mades b).take (allPlans b).length)
 rw [htk] at hc ⊢
 refine ⟨plans95 S b, rfl, fun l => plans121 S b l _ hb, ⟨SEq_whole rfl, SEq_whole rfl, SEq_whole rfl, rfl, rfl, rfl⟩, fun p hm hs => ?_, fun _ _ => ⟨fun h => ?_, fun h => ?_⟩⟩
 ·have hg := allPlans_good hm
  obtain ⟨g1, _⟩ := good_spec hg
  have hd := days83 S ⟨b, nth (allPlans b) p⟩ (b.ends true) (-1) (-1) (small_ends hb true) (show (nth (allPlans b) p).length ≤ 1000 by omega) b.comps.length (by omega) (fits_ends b true) (good_in hg)
  have hlen : ((mades b).take p).length ≤ 262144 := by rw [List.length_take]; omega
  refine ⟨greatest87 S b (by omega), none81 S, hd, last116 S _, by omega, by omega, hm, SEq_whole rfl, SEq_whole rfl, SEq_whole rfl, rfl, rfl, SEq_push (by omega) ?_⟩
  unfold mades
  rw [nth_map hm]
  rfl
 ·have h0 : (mades b).length = 0 := by have := eq_of_beq h; omega
  have h1 : ((allPlans b).length == 0) = true := beq_iff_eq.2 (by omega)
  have hs : soonest b = ⟨[], 0⟩ := by unfold soonest; rw [h1]; rfl
  rw [hs, h1]
  exact ⟨rfl, rfl, rfl⟩
 ·have h0 : (mades b).length ≠ 0 := by
   have := ne_of_beq_false h
   omega
  have h1 : ((allPlans b).length == 0) = false := beq_eq_false_iff_ne.2 (by omega)
  have hs : soonest b = bestM (mades b) ((mades b).length - 1) := by unfold soonest; rw [h1]; rfl
  rw [hs, h1]
  exact ⟨hc (by omega) (by omega), SEq_whole rfl, rfl, rfl⟩
theorem best51 (S : Set Tryz.prog Y Gl) (b : Book) (hb : b.ok = true) : Computes Tryz.prog Gl 51 [tBook b] (.ret (.tup [.c (.l eTask (soonest b).plan), .c (Ci (soonest b).day), .c (Ci (bif (allPlans b).length == 0 then 5 else 0))])) := by
 refine fn_is S (.r (.ret (B true)) (.ff (.r (.ret (.tup [D.agg (eMade (soonest b)),D.c (Ci (bif List.length (allPlans b)==(0:Nat) then (5:Int) else (0:Int)))])) .nil))) Tryz.func51 (by kernel_rfl) (Computes Tryz.prog Gl 94 [tBook b] (.ret (B true))∧false=false∧Computes Tryz.prog Gl 97 [tBook b] (.ret (.tup [D.agg (eMade (soonest b)),D.c (Ci (bif List.length (allPlans b)==(0:Nat) then (5:Int) else (0:Int)))]))∧(SEq (List.length (soonest b).1) (fun i=>eTask (nth (soonest b).1 i)) (List.length (soonest b).1) fun i=>eTask (nth (soonest b).1 i))∧(soonest b).2=(soonest b).2∧(bif List.length (allPlans b)==(0:Nat) then (5:Int) else (0:Int))=bif List.length (allPlans b)==(0:Nat) then (5:Int) else (0:Int)) (by kernel_rfl) ?_
 exact ⟨fineT S b hb, rfl, soonest97 S b hb, SEq_whole rfl, rfl, rfl⟩
end Go.Vc.Gd
