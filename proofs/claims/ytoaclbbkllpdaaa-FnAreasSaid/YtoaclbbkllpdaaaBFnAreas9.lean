/- Texts of this seat, put together: Qf3m. -/
import Derived.Test.YtoaclbbkllpdaaaZFnAreas
import Derived.Test.YtoaclbbkllpdaaaBFnAreas7
-- The law, its middle: two areas and the merged one.
namespace Go.Proofs.Ytoaclbbkllpdaaa.Q
open Go.RowKit Go.Proofs.YtoaclbbkllpdaaaW.PrintWords Go.Proofs.YtoaclbbkllpdaaaW.PrintLast Go.Proofs.YtoaclbbkllpdaaaW.PrintMore
attribute [local go_sem] max2_int min2_int max_two min_two max_three min_three max_four min_four   -- for this text's walks alone
set_option linter.unusedVariables false
set_option linter.unusedSimpArgs false
set_option maxHeartbeats 40000000 in
set_option maxRecDepth 100000 in
theorem laws_FnAreas.mid (k kj6 kj34 : Nat) (A0 : Option Addr) (c0 : Nat) (l0 : List Int) (r : Bool) (w wc : World) (t486 t487 t504 : Int) (t494 : Bool) (t481 t482 : Int) (t483 : List Int) (t489 t490 : Int) (t491 : List Int) (t496 t497 : Int) (t498 : List Int) (gb488 gb495 gb502 : Nat) (Ao11 Ao16 Ao23 : Option Addr) (co11 co16 co23 : Nat) {x0 x1 x2 x7 x9 x11 x12 x13 x14 x15 x16 x17 x18 x19 x20 x21 x22 x23 x24 x25 x26 x27 x28 x29 x30 x31 x32 x33 x34 x35 x36 x37 x38 x39 x40 x41 x42 x43 x44 x45 x46 x47 x48 x49 x50 x51 x52 x53 x54 x55 x56 x57 x58 x59 x60 x61 x62 x63 x64 x65 x66 x67 x68 x69 x70 x71 x72 x73 x74 x75 x76 x77 x78 x79 x80 x81 x82 x83 x84 x85 x86 x87 x88 x89 x90 x91 x92 x93 x94 x95 x96 x97 x98 x99 x101 x102 x103 x104 x105 x106 x107 x108 x109 x110 x111 x112 x113 x114 x115 x116 x117 x118 x119 x120 x121 x122 x123 x124 x125 x126 x127 x128 x129 x130 x131 x132 x133 x134 x135 x136 x137 x138 x139 x140 x141 x142 x143 x144 x145 x146 x147 x148 x149 x150 x151 x152 x153 x154 x155 x156 x157 x158 x159 x160 x161 x162 x163 x164 x165 x166 x167 x168 x169 x170 x171 x172 x173 x174 x175 x176 x177 x178 x179 x180 x181 x182 x183 x184 x185 x186 x187 x188 x189 x190 x191 x192 x193 x194 x195 x196 x197 x198 x199 x200 x201 x202 x203 x204 x205 x206 x207 x208 x209 x210 x211 x212 x213 x214 x215 x216 x217 x218 x219 x220 x221 x222 x223 x224 x225 x226 x227 x228 x229 x230 x231 x232 x233 x234 x235 x236 x237 x238 x239 x240 x241 x242 x243 x244 x245 x246 x247 x248 x249 x250 x251 x252 x253 x254 x255 x256 x257 x258 x259 x260 x261 x262 x263 x264 x265 x266 x267 x268 x269 x270 x271 x272 x273 x274 x275 x276 x277 x278 x279 x280 x281 x282 x283 x284 x285 x286 x287 x288 x289 x290 x291 x292 x293 x294 x295 x296 x297 x298 : Value} (J K1 : Act → World → Prop) (HR0 : Aside0 (Kd.C (Kd.int .u8) w A0 l0.length l0)) (HC0 : Aside0 (l0.length ≤ c0)) (GE488 : Aside0 (w.heap.size ≤ gb488)) (GE495 : Aside0 (w.heap.size ≤ gb495)) (GE502 : Aside0 (w.heap.size ≤ gb502)) (HJ6 : Aside0 (kj6 + 1 ≤ k)) (HJ34 : Aside0 (kj34 + 1 ≤ kj6)) (HO_489002 : Aside0 (Kd.R (Kd.int .i64) 3 wc w.heap.size (fun k_ => some k_ ≠ ((.slice Ao16 t491.length co16) : Value).ownBlock ∧ some k_ ≠ ((.slice Ao23 t498.length co23) : Value).ownBlock) (.slice Ao11 t483.length co11) t483)) (HO_496002 : Aside0 (Kd.R (Kd.int .i64) 3 wc w.heap.size (fun k_ => some k_ ≠ ((.slice Ao11 t483.length co11) : Value).ownBlock ∧ some k_ ≠ ((.slice Ao23 t498.length co23) : Value).ownBlock) (.slice Ao16 t491.length co16) t491)) (HO_503002 : Aside0 (Kd.R (Kd.int .i64) 3 wc w.heap.size (fun k_ => some k_ ≠ ((.slice Ao11 t483.length co11) : Value).ownBlock ∧ some k_ ≠ ((.slice Ao16 t491.length co16) : Value).ownBlock) (.slice Ao23 t498.length co23) t498)) (BK488 : Aside0 (wc.heap[gb488]? = some (.cells #[.int .i64 t481, .int .i64 t482, (.slice Ao11 t483.length co11)] 26 (0, 0)))) (BK495 : Aside0 (wc.heap[gb495]? = some (.cells #[.int .i64 t489, .int .i64 t490, (.slice Ao16 t491.length co16)] 26 (0, 0)))) (BK502 : Aside0 (wc.heap[gb502]? = some (.cells #[.int .i64 t496, .int .i64 t497, (.slice Ao23 t498.length co23)] 26 (0, 0)))) (HB : Aside0 (Below w.heap.size w wc)) (NB488_495 : Aside0 (gb488 ≠ gb495)) (NB488_502 : Aside0 (gb488 ≠ gb502)) (NB495_488 : Aside0 (gb495 ≠ gb488)) (NB495_502 : Aside0 (gb495 ≠ gb502)) (NB502_488 : Aside0 (gb502 ≠ gb488)) (NB502_495 : Aside0 (gb502 ≠ gb495)) (HC45 : Aside0 ((if t494 = true then ((impl_AreaCells.f kj34 t481 t482 t483 t486).bind fun bt508 => ((impl_AreaCells.f kj34 t481 t482 t483 t487).bind fun bt510 => ((impl_AreaCells.f kj34 t489 t490 t491 t486).bind fun bt512 => ((impl_AreaCells.f kj34 t489 t490 t491 t487).bind fun bt514 => ((impl_NeighborsOf.f kj34 t481 t482 t483 t486).bind fun bt516 => ((impl_NeighborsOf.f kj34 t481 t482 t483 t487).bind fun bt520 => (if bt508.2 = true then (if bt510.2 = true then (if bt512.2 = true then (if bt514.2 = true then (none) else (if bt516.2 = true then (if bt520.2 = true then (if bt512.1 = (wrap64 (bt508.1 + bt510.1)) then ((laws_rHas.f kj34 bt516.1 t487).bind fun t524 => (if (t524 != (decide (t504 > 0))) = true then (none) else ((laws_rHas.f kj34 bt520.1 t486).bind fun t525 => (laws_FnAreas.j2 kj34 l0 t486 t487 t504 (t525 != (decide (t504 > 0))) t481 t482 t483 t489 t490 t491)))) else (none)) else (none)) else (none))) else (none)) else (none)) else (none)))))))) else (laws_FnAreas.j3 kj34 l0)) = some r)) (hJ : ∀ (a2 : Act) (wc : World), (∃ u2 u14 u15 u16 u17 u18 u19 u20 u21 u22 u23 u24 u25 u26 u27 u28 u29 u30 u31 u42 u43 u44 u45 u46 u47 u48 u49 u50 u51 u52 u53 u54 u55 u56 u57 u58 u59 u60 u61 u62 u63 u64 u65 u66 u67 u68 u69 u70 u71 u72 u73 u74 u75 u76 u77 u78 u79 u80 u81 u82 u83 u84 u85 u86 u87 u88 u89 u90 u91 u92 u93 u94 u95 u96 u97 u98 u99 u100 u101 u102 u103 u104 u105 u106 u107 u108 u109 u110 u111 u112 u113 u114 u115 u116 u117 u118 u119 u120 u121 u122 u123 u124 u125 u126 u127 u128 u129 u130 u131 u132 u133 u134 u135 u136 u137 u138 u139 u140 u141 u142 u143 u144 u145 u146 u147 u148 u149 u150 u151 u152 u153 u154 u155 u156 u157 u158 u159 u160 u161 u162 u163 u164 u165 u166 u167 u168 u169 u170 u171 u172 u173 u174 u175 u176 u177 u178 u179 u180 u181 u182 u183 u184 u185 u186 u187 u188 u189 u190 u191 u192 u193 u194 u195 u196 u197 u198 u199 u200 u201 u202 u203 u204 u205 u206 u207 u208 u209 u210 u211 u212 u213 u214 u215 u216 u217 u218 u219 u220 u221 u222 u223 u224 u225 u226 u227 u228 u229 u230 u231 u232 u233 u234 u235 u236 u237 u238 u239 u240 u241 u242 u243 u244 u245 u246 u247 u248 u249 u250 u251 u252 u253 u254 u255 u256 u257 u258 u259 u260 u261 u262 u263 u264 u265 u266 u267 u268 u269 u270 u271 u272 u273 u274 u275 u276 u277 u278 u279 u280 u281 u282 u283 u284 u285 u286 u287 u288 u289 u290 u291 u292 u293 u294 u295 u296 u297 u298 : Value, (∃ (kq : Nat), Aside0 (laws_FnAreas.j3 kq l0 = some r) ∧ Aside0 (kq ≤ kj34) ∧ Aside0 (Kd.R (Kd.int .i64) 3 wc w.heap.size (fun k_ => some k_ ≠ ((.slice Ao16 t491.length co16) : Value).ownBlock ∧ some k_ ≠ ((.slice Ao23 t498.length co23) : Value).ownBlock) (.slice Ao11 t483.length co11) t483) ∧ Aside0 (Kd.R (Kd.int .i64) 3 wc w.heap.size (fun k_ => some k_ ≠ ((.slice Ao11 t483.length co11) : Value).ownBlock ∧ some k_ ≠ ((.slice Ao23 t498.length co23) : Value).ownBlock) (.slice Ao16 t491.length co16) t491) ∧ Aside0 (Kd.R (Kd.int .i64) 3 wc w.heap.size (fun k_ => some k_ ≠ ((.slice Ao11 t483.length co11) : Value).ownBlock ∧ some k_ ≠ ((.slice Ao16 t491.length co16) : Value).ownBlock) (.slice Ao23 t498.length co23) t498) ∧ Aside0 (wc.heap[gb488]? = some (.cells #[.int .i64 t481, .int .i64 t482, (.slice Ao11 t483.length co11)] 26 (0, 0))) ∧ Aside0 (wc.heap[gb495]? = some (.cells #[.int .i64 t489, .int .i64 t490, (.slice Ao16 t491.length co16)] 26 (0, 0))) ∧ Aside0 (wc.heap[gb502]? = some (.cells #[.int .i64 t496, .int .i64 t497, (.slice Ao23 t498.length co23)] 26 (0, 0))) ∧ Aside0 (Below w.heap.size w wc)) ∧ a2 = { tmps := #[x0, x1, u2, .pointer (some ⟨gb488, 0, none⟩), .int .i64 t486, .int .i64 t487, .pointer (some ⟨gb495, 0, none⟩), x7, .pointer (some ⟨gb502, 0, none⟩), x9, .int .i64 t504, x11, x12, x13, u14, u15, u16, u17, u18, u19, u20, u21, u22, u23, u24, u25, u26, u27, u28, u29, u30, u31, x32, x33, x34, x35, x36, x37, x38, x39, x40, x41, u42, u43, u44, u45, u46, u47, u48, u49, u50, u51, u52, u53, u54, u55, u56, u57, u58, u59, u60, u61, u62, u63, u64, u65, u66, u67, u68, u69, u70, u71, u72, u73, u74, u75, u76, u77, u78, u79, u80, u81, u82, u83, u84, u85, u86, u87, u88, u89, u90, u91, u92, u93, u94, u95, u96, u97, u98, u99, u100, u101, u102, u103, u104, u105, u106, u107, u108, u109, u110, u111, u112, u113, u114, u115, u116, u117, u118, u119, u120, u121, u122, u123, u124, u125, u126, u127, u128, u129, u130, u131, u132, u133, u134, u135, u136, u137, u138, u139, u140, u141, u142, u143, u144, u145, u146, u147, u148, u149, u150, u151, u152, u153, u154, u155, u156, u157, u158, u159, u160, u161, u162, u163, u164, u165, u166, u167, u168, u169, u170, u171, u172, u173, u174, u175, u176, u177, u178, u179, u180, u181, u182, u183, u184, u185, u186, u187, u188, u189, u190, u191, u192, u193, u194, u195, u196, u197, u198, u199, u200, u201, u202, u203, u204, u205, u206, u207, u208, u209, u210, u211, u212, u213, u214, u215, u216, u217, u218, u219, u220, u221, u222, u223, u224, u225, u226, u227, u228, u229, u230, u231, u232, u233, u234, u235, u236, u237, u238, u239, u240, u241, u242, u243, u244, u245, u246, u247, u248, u249, u250, u251, u252, u253, u254, u255, u256, u257, u258, u259, u260, u261, u262, u263, u264, u265, u266, u267, u268, u269, u270, u271, u272, u273, u274, u275, u276, u277, u278, u279, u280, u281, u282, u283, u284, u285, u286, u287, u288, u289, u290, u291, u292, u293, u294, u295, u296, u297, u298], defers := [] }) → J a2 wc) (hM : ∀ (a2 : Act) (w2 : World), Met J a2 w2 → K1 a2 w2) :
  Code.wp Try.prog laws_FnAreas.midC (Exit.then K1 (bodyPost Try.prog Try.f3 fun e w' => e = .returned (.bool r) ∧ Below w.heap.size w w')) { tmps := #[x0, x1, x2, .pointer (some ⟨gb488, 0, none⟩), .int .i64 t486, .int .i64 t487, .pointer (some ⟨gb495, 0, none⟩), x7, .pointer (some ⟨gb502, 0, none⟩), x9, .int .i64 t504, x11, x12, x13, x14, x15, x16, x17, x18, x19, x20, x21, x22, x23, x24, x25, x26, x27, x28, x29, x30, x31, x32, x33, x34, x35, x36, x37, x38, x39, x40, x41, x42, x43, x44, x45, x46, x47, x48, x49, x50, x51, x52, x53, x54, x55, x56, x57, x58, x59, x60, x61, x62, x63, x64, x65, x66, x67, x68, x69, x70, x71, x72, x73, x74, x75, x76, x77, x78, x79, x80, x81, x82, x83, x84, x85, x86, x87, x88, x89, x90, x91, x92, x93, x94, x95, x96, x97, x98, x99, .bool t494, x101, x102, x103, x104, x105, x106, x107, x108, x109, x110, x111, x112, x113, x114, x115, x116, x117, x118, x119, x120, x121, x122, x123, x124, x125, x126, x127, x128, x129, x130, x131, x132, x133, x134, x135, x136, x137, x138, x139, x140, x141, x142, x143, x144, x145, x146, x147, x148, x149, x150, x151, x152, x153, x154, x155, x156, x157, x158, x159, x160, x161, x162, x163, x164, x165, x166, x167, x168, x169, x170, x171, x172, x173, x174, x175, x176, x177, x178, x179, x180, x181, x182, x183, x184, x185, x186, x187, x188, x189, x190, x191, x192, x193, x194, x195, x196, x197, x198, x199, x200, x201, x202, x203, x204, x205, x206, x207, x208, x209, x210, x211, x212, x213, x214, x215, x216, x217, x218, x219, x220, x221, x222, x223, x224, x225, x226, x227, x228, x229, x230, x231, x232, x233, x234, x235, x236, x237, x238, x239, x240, x241, x242, x243, x244, x245, x246, x247, x248, x249, x250, x251, x252, x253, x254, x255, x256, x257, x258, x259, x260, x261, x262, x263, x264, x265, x266, x267, x268, x269, x270, x271, x272, x273, x274, x275, x276, x277, x278, x279, x280, x281, x282, x283, x284, x285, x286, x287, x288, x289, x290, x291, x292, x293, x294, x295, x296, x297, x298], defers := [] } wc := by
 have hu26 := Try.underlying26
 conv => arg 2; whnf
 have H := HC45.out
 clear HC45
 by_cases c46 : t494 = true
 ·
  subst c46
  have H1 : ((impl_AreaCells.f kj34 t481 t482 t483 t486).bind fun bt508 => ((impl_AreaCells.f kj34 t481 t482 t483 t487).bind fun bt510 => ((impl_AreaCells.f kj34 t489 t490 t491 t486).bind fun bt512 => ((impl_AreaCells.f kj34 t489 t490 t491 t487).bind fun bt514 => ((impl_NeighborsOf.f kj34 t481 t482 t483 t486).bind fun bt516 => ((impl_NeighborsOf.f kj34 t481 t482 t483 t487).bind fun bt520 => (if bt508.2 = true then (if bt510.2 = true then (if bt512.2 = true then (if bt514.2 = true then (none) else (if bt516.2 = true then (if bt520.2 = true then (if bt512.1 = (wrap64 (bt508.1 + bt510.1)) then ((laws_rHas.f kj34 bt516.1 t487).bind fun t524 => (if (t524 != (decide (t504 > 0))) = true then (none) else ((laws_rHas.f kj34 bt520.1 t486).bind fun t525 => (laws_FnAreas.j2 kj34 l0 t486 t487 t504 (t525 != (decide (t504 > 0))) t481 t482 t483 t489 t490 t491)))) else (none)) else (none)) else (none))) else (none)) else (none)) else (none)))))))) = some r := by rw [if_pos rfl] at H; exact H
  clear H
  have H := H1
  clear H1
  replace H := Option.bind_eq_some_iff.mp H
  obtain ⟨⟨t508, t509⟩, A470, H⟩ := H
  replace H : ((impl_AreaCells.f kj34 t481 t482 t483 t487).bind fun bt510 => ((impl_AreaCells.f kj34 t489 t490 t491 t486).bind fun bt512 => ((impl_AreaCells.f kj34 t489 t490 t491 t487).bind fun bt514 => ((impl_NeighborsOf.f kj34 t481 t482 t483 t486).bind fun bt516 => ((impl_NeighborsOf.f kj34 t481 t482 t483 t487).bind fun bt520 => (if t509 = true then (if bt510.2 = true then (if bt512.2 = true then (if bt514.2 = true then (none) else (if bt516.2 = true then (if bt520.2 = true then (if bt512.1 = (wrap64 (t508 + bt510.1)) then ((laws_rHas.f kj34 bt516.1 t487).bind fun t524 => (if (t524 != (decide (t504 > 0))) = true then (none) else ((laws_rHas.f kj34 bt520.1 t486).bind fun t525 => (laws_FnAreas.j2 kj34 l0 t486 t487 t504 (t525 != (decide (t504 > 0))) t481 t482 t483 t489 t490 t491)))) else (none)) else (none)) else (none))) else (none)) else (none)) else (none))))))) = some r := H
  have A47 := Aside0.mk A470
  clear A470
  replace H := Option.bind_eq_some_iff.mp H
  obtain ⟨⟨t510, t511⟩, A480, H⟩ := H
  replace H : ((impl_AreaCells.f kj34 t489 t490 t491 t486).bind fun bt512 => ((impl_AreaCells.f kj34 t489 t490 t491 t487).bind fun bt514 => ((impl_NeighborsOf.f kj34 t481 t482 t483 t486).bind fun bt516 => ((impl_NeighborsOf.f kj34 t481 t482 t483 t487).bind fun bt520 => (if t509 = true then (if t511 = true then (if bt512.2 = true then (if bt514.2 = true then (none) else (if bt516.2 = true then (if bt520.2 = true then (if bt512.1 = (wrap64 (t508 + t510)) then ((laws_rHas.f kj34 bt516.1 t487).bind fun t524 => (if (t524 != (decide (t504 > 0))) = true then (none) else ((laws_rHas.f kj34 bt520.1 t486).bind fun t525 => (laws_FnAreas.j2 kj34 l0 t486 t487 t504 (t525 != (decide (t504 > 0))) t481 t482 t483 t489 t490 t491)))) else (none)) else (none)) else (none))) else (none)) else (none)) else (none)))))) = some r := H
  have A48 := Aside0.mk A480
  clear A480
  replace H := Option.bind_eq_some_iff.mp H
  obtain ⟨⟨t512, t513⟩, A490, H⟩ := H
  replace H : ((impl_AreaCells.f kj34 t489 t490 t491 t487).bind fun bt514 => ((impl_NeighborsOf.f kj34 t481 t482 t483 t486).bind fun bt516 => ((impl_NeighborsOf.f kj34 t481 t482 t483 t487).bind fun bt520 => (if t509 = true then (if t511 = true then (if t513 = true then (if bt514.2 = true then (none) else (if bt516.2 = true then (if bt520.2 = true then (if t512 = (wrap64 (t508 + t510)) then ((laws_rHas.f kj34 bt516.1 t487).bind fun t524 => (if (t524 != (decide (t504 > 0))) = true then (none) else ((laws_rHas.f kj34 bt520.1 t486).bind fun t525 => (laws_FnAreas.j2 kj34 l0 t486 t487 t504 (t525 != (decide (t504 > 0))) t481 t482 t483 t489 t490 t491)))) else (none)) else (none)) else (none))) else (none)) else (none)) else (none))))) = some r := H
  have A49 := Aside0.mk A490
  clear A490
  replace H := Option.bind_eq_some_iff.mp H
  obtain ⟨⟨t514, t515⟩, A500, H⟩ := H
  replace H : ((impl_NeighborsOf.f kj34 t481 t482 t483 t486).bind fun bt516 => ((impl_NeighborsOf.f kj34 t481 t482 t483 t487).bind fun bt520 => (if t509 = true then (if t511 = true then (if t513 = true then (if t515 = true then (none) else (if bt516.2 = true then (if bt520.2 = true then (if t512 = (wrap64 (t508 + t510)) then ((laws_rHas.f kj34 bt516.1 t487).bind fun t524 => (if (t524 != (decide (t504 > 0))) = true then (none) else ((laws_rHas.f kj34 bt520.1 t486).bind fun t525 => (laws_FnAreas.j2 kj34 l0 t486 t487 t504 (t525 != (decide (t504 > 0))) t481 t482 t483 t489 t490 t491)))) else (none)) else (none)) else (none))) else (none)) else (none)) else (none)))) = some r := H
  have A50 := Aside0.mk A500
  clear A500
  replace H := Option.bind_eq_some_iff.mp H
  obtain ⟨⟨t516, t519⟩, A510, H⟩ := H
  replace H : ((impl_NeighborsOf.f kj34 t481 t482 t483 t487).bind fun bt520 => (if t509 = true then (if t511 = true then (if t513 = true then (if t515 = true then (none) else (if t519 = true then (if bt520.2 = true then (if t512 = (wrap64 (t508 + t510)) then ((laws_rHas.f kj34 t516 t487).bind fun t524 => (if (t524 != (decide (t504 > 0))) = true then (none) else ((laws_rHas.f kj34 bt520.1 t486).bind fun t525 => (laws_FnAreas.j2 kj34 l0 t486 t487 t504 (t525 != (decide (t504 > 0))) t481 t482 t483 t489 t490 t491)))) else (none)) else (none)) else (none))) else (none)) else (none)) else (none))) = some r := H
  have A51 := Aside0.mk A510
  clear A510
  replace H := Option.bind_eq_some_iff.mp H
  obtain ⟨⟨t520, t523⟩, A520, H⟩ := H
  replace H : (if t509 = true then (if t511 = true then (if t513 = true then (if t515 = true then (none) else (if t519 = true then (if t523 = true then (if t512 = (wrap64 (t508 + t510)) then ((laws_rHas.f kj34 t516 t487).bind fun t524 => (if (t524 != (decide (t504 > 0))) = true then (none) else ((laws_rHas.f kj34 t520 t486).bind fun t525 => (laws_FnAreas.j2 kj34 l0 t486 t487 t504 (t525 != (decide (t504 > 0))) t481 t482 t483 t489 t490 t491)))) else (none)) else (none)) else (none))) else (none)) else (none)) else (none)) = some r := H
  have A52 := Aside0.mk A520
  clear A520
  have HC53 := Aside0.mk H
  clear H
  have hnb54 := NB488_495.out
  have hnc54 := NB495_488.out
  have hnb55 := NB488_502.out
  have hnc55 := NB502_488.out
  have hcz56_0 : wc.cell? ⟨gb488, 0, none⟩ = some (.int .i64 t481) := (blk_cell BK488.out 0).trans rfl
  have hcz56_1 : wc.cell? ⟨gb488, 1, none⟩ = some (.int .i64 t482) := (blk_cell BK488.out 1).trans rfl
  have hcz56_2 : wc.cell? ⟨gb488, 2, none⟩ = some (.slice Ao11 t483.length co11) := (blk_cell BK488.out 2).trans rfl
  have hfz56_0 := blk_frozen BK488.out 0
  have hfz56_1 := blk_frozen BK488.out 1
  have hfz56_2 := blk_frozen BK488.out 2
  go_upto_region 19 with (first | ((with_reducible refine gate_callee (f := 11) rfl ?_); refine goesL_ (some 104) rfl rfl Try.func11 (by kernel_rfl) rfl #[.agg #[.int .i64 t481, .int .i64 t482, .slice Ao11 t483.length co11], .int .i64 t486] rfl (by (try simp only [List.map_toArray, List.map_cons, List.map_nil]); first | done | rfl | (simp only [List.length_drop, List.length_take]; rfl)) ?_; (with_reducible refine (impl_AreaCells.calls kj34 t481 t482 _ _ t483 t486 t508 t509 _ ?side1 ?side2 A47.out).mono ?_); (case side1 => repeat (first | exact (Kd.R_reads' HO_489002.out).2.2 | (with_reducible refine Kd.C_alloc ?_ _) | (with_reducible refine Kd.C_drewN ?_ _) | (with_reducible refine Kd.C_drew ?_))); (case side2 => exact (Kd.R_reads' HO_489002.out).2.1); rintro e w57 ⟨rfl, hb⟩; refine ⟨_, rfl, ?_⟩; replace HO_489002 := Aside0.mk (Kd.R_below (by (with_reducible repeat (first | apply Kd.R_alloc | apply Kd.R_drewN | apply Kd.R_drew)); exact HO_489002.out) hb); replace HO_496002 := Aside0.mk (Kd.R_below (by (with_reducible repeat (first | apply Kd.R_alloc | apply Kd.R_drewN | apply Kd.R_drew)); exact HO_496002.out) hb); replace HO_503002 := Aside0.mk (Kd.R_below (by (with_reducible repeat (first | apply Kd.R_alloc | apply Kd.R_drewN | apply Kd.R_drew)); exact HO_503002.out) hb); replace BK488 := Aside0.mk (blk_below (g := gb488) (o := .cells #[.int .i64 t481, .int .i64 t482, .slice Ao11 t483.length co11] 26 (0, 0)) (by (with_reducible repeat (first | refine blk_drewN ?_ _ | refine blk_drew ?_ | refine blk_alloc ?_ _)); exact BK488.out) hb); replace BK495 := Aside0.mk (blk_below (g := gb495) (o := .cells #[.int .i64 t489, .int .i64 t490, .slice Ao16 t491.length co16] 26 (0, 0)) (by (with_reducible repeat (first | refine blk_drewN ?_ _ | refine blk_drew ?_ | refine blk_alloc ?_ _)); exact BK495.out) hb); replace BK502 := Aside0.mk (blk_below (g := gb502) (o := .cells #[.int .i64 t496, .int .i64 t497, .slice Ao23 t498.length co23] 26 (0, 0)) (by (with_reducible repeat (first | refine blk_drewN ?_ _ | refine blk_drew ?_ | refine blk_alloc ?_ _)); exact BK502.out) hb); replace HB := Aside0.mk (below_step (by repeat (first | (with_reducible first | exact HB.out | apply below_alloc | apply pw_below_drewN | apply below_drew1 | refine below_set ?_ GE488.out | refine below_set ?_ GE495.out | refine below_set ?_ GE502.out) | exact HB.out)) hb); (try clear hb); (try clear hb2); (try clear hk); (try clear hi); have hcz58_0 : w57.cell? ⟨gb488, 0, none⟩ = some (.int .i64 t481) := (blk_cell BK488.out 0).trans rfl; have hcz58_1 : w57.cell? ⟨gb488, 1, none⟩ = some (.int .i64 t482) := (blk_cell BK488.out 1).trans rfl; have hcz58_2 : w57.cell? ⟨gb488, 2, none⟩ = some (.slice Ao11 t483.length co11) := (blk_cell BK488.out 2).trans rfl; have hfz58_0 := blk_frozen BK488.out 0; have hfz58_1 := blk_frozen BK488.out 1; have hfz58_2 := blk_frozen BK488.out 2) | ((with_reducible refine gate_callee (f := 11) rfl ?_); refine goesL_ (some 110) rfl rfl Try.func11 (by kernel_rfl) rfl #[.agg #[.int .i64 t481, .int .i64 t482, .slice Ao11 t483.length co11], .int .i64 t487] rfl (by (try simp only [List.map_toArray, List.map_cons, List.map_nil]); first | done | rfl | (simp only [List.length_drop, List.length_take]; rfl)) ?_; (with_reducible refine (impl_AreaCells.calls kj34 t481 t482 _ _ t483 t487 t510 t511 _ ?side1 ?side2 A48.out).mono ?_); (case side1 => repeat (first | exact (Kd.R_reads' HO_489002.out).2.2 | (with_reducible refine Kd.C_alloc ?_ _) | (with_reducible refine Kd.C_drewN ?_ _) | (with_reducible refine Kd.C_drew ?_))); (case side2 => exact (Kd.R_reads' HO_489002.out).2.1); rintro e w59 ⟨rfl, hb⟩; refine ⟨_, rfl, ?_⟩; replace HO_489002 := Aside0.mk (Kd.R_below (by (with_reducible repeat (first | apply Kd.R_alloc | apply Kd.R_drewN | apply Kd.R_drew)); exact HO_489002.out) hb); replace HO_496002 := Aside0.mk (Kd.R_below (by (with_reducible repeat (first | apply Kd.R_alloc | apply Kd.R_drewN | apply Kd.R_drew)); exact HO_496002.out) hb); replace HO_503002 := Aside0.mk (Kd.R_below (by (with_reducible repeat (first | apply Kd.R_alloc | apply Kd.R_drewN | apply Kd.R_drew)); exact HO_503002.out) hb); replace BK488 := Aside0.mk (blk_below (g := gb488) (o := .cells #[.int .i64 t481, .int .i64 t482, .slice Ao11 t483.length co11] 26 (0, 0)) (by (with_reducible repeat (first | refine blk_drewN ?_ _ | refine blk_drew ?_ | refine blk_alloc ?_ _)); exact BK488.out) hb); replace BK495 := Aside0.mk (blk_below (g := gb495) (o := .cells #[.int .i64 t489, .int .i64 t490, .slice Ao16 t491.length co16] 26 (0, 0)) (by (with_reducible repeat (first | refine blk_drewN ?_ _ | refine blk_drew ?_ | refine blk_alloc ?_ _)); exact BK495.out) hb); replace BK502 := Aside0.mk (blk_below (g := gb502) (o := .cells #[.int .i64 t496, .int .i64 t497, .slice Ao23 t498.length co23] 26 (0, 0)) (by (with_reducible repeat (first | refine blk_drewN ?_ _ | refine blk_drew ?_ | refine blk_alloc ?_ _)); exact BK502.out) hb); replace HB := Aside0.mk (below_step (by repeat (first | (with_reducible first | exact HB.out | apply below_alloc | apply pw_below_drewN | apply below_drew1 | refine below_set ?_ GE488.out | refine below_set ?_ GE495.out | refine below_set ?_ GE502.out) | exact HB.out)) hb); (try clear hb); (try clear hb2); (try clear hk); (try clear hi); have hnb60 := NB495_502.out; have hnc60 := NB502_495.out; have hcz61_0 : w59.cell? ⟨gb495, 0, none⟩ = some (.int .i64 t489) := (blk_cell BK495.out 0).trans rfl; have hcz61_1 : w59.cell? ⟨gb495, 1, none⟩ = some (.int .i64 t490) := (blk_cell BK495.out 1).trans rfl; have hcz61_2 : w59.cell? ⟨gb495, 2, none⟩ = some (.slice Ao16 t491.length co16) := (blk_cell BK495.out 2).trans rfl; have hfz61_0 := blk_frozen BK495.out 0; have hfz61_1 := blk_frozen BK495.out 1; have hfz61_2 := blk_frozen BK495.out 2) | ((with_reducible refine gate_callee (f := 11) rfl ?_); refine goesL_ (some 116) rfl rfl Try.func11 (by kernel_rfl) rfl #[.agg #[.int .i64 t489, .int .i64 t490, .slice Ao16 t491.length co16], .int .i64 t486] rfl (by (try simp only [List.map_toArray, List.map_cons, List.map_nil]); first | done | rfl | (simp only [List.length_drop, List.length_take]; rfl)) ?_; (with_reducible refine (impl_AreaCells.calls kj34 t489 t490 _ _ t491 t486 t512 t513 _ ?side1 ?side2 A49.out).mono ?_); (case side1 => repeat (first | exact (Kd.R_reads' HO_496002.out).2.2 | (with_reducible refine Kd.C_alloc ?_ _) | (with_reducible refine Kd.C_drewN ?_ _) | (with_reducible refine Kd.C_drew ?_))); (case side2 => exact (Kd.R_reads' HO_496002.out).2.1); rintro e w62 ⟨rfl, hb⟩; refine ⟨_, rfl, ?_⟩; replace HO_489002 := Aside0.mk (Kd.R_below (by (with_reducible repeat (first | apply Kd.R_alloc | apply Kd.R_drewN | apply Kd.R_drew)); exact HO_489002.out) hb); replace HO_496002 := Aside0.mk (Kd.R_below (by (with_reducible repeat (first | apply Kd.R_alloc | apply Kd.R_drewN | apply Kd.R_drew)); exact HO_496002.out) hb); replace HO_503002 := Aside0.mk (Kd.R_below (by (with_reducible repeat (first | apply Kd.R_alloc | apply Kd.R_drewN | apply Kd.R_drew)); exact HO_503002.out) hb); replace BK488 := Aside0.mk (blk_below (g := gb488) (o := .cells #[.int .i64 t481, .int .i64 t482, .slice Ao11 t483.length co11] 26 (0, 0)) (by (with_reducible repeat (first | refine blk_drewN ?_ _ | refine blk_drew ?_ | refine blk_alloc ?_ _)); exact BK488.out) hb); replace BK495 := Aside0.mk (blk_below (g := gb495) (o := .cells #[.int .i64 t489, .int .i64 t490, .slice Ao16 t491.length co16] 26 (0, 0)) (by (with_reducible repeat (first | refine blk_drewN ?_ _ | refine blk_drew ?_ | refine blk_alloc ?_ _)); exact BK495.out) hb); replace BK502 := Aside0.mk (blk_below (g := gb502) (o := .cells #[.int .i64 t496, .int .i64 t497, .slice Ao23 t498.length co23] 26 (0, 0)) (by (with_reducible repeat (first | refine blk_drewN ?_ _ | refine blk_drew ?_ | refine blk_alloc ?_ _)); exact BK502.out) hb); replace HB := Aside0.mk (below_step (by repeat (first | (with_reducible first | exact HB.out | apply below_alloc | apply pw_below_drewN | apply below_drew1 | refine below_set ?_ GE488.out | refine below_set ?_ GE495.out | refine below_set ?_ GE502.out) | exact HB.out)) hb); (try clear hb); (try clear hb2); (try clear hk); (try clear hi); have hcz63_0 : w62.cell? ⟨gb495, 0, none⟩ = some (.int .i64 t489) := (blk_cell BK495.out 0).trans rfl; have hcz63_1 : w62.cell? ⟨gb495, 1, none⟩ = some (.int .i64 t490) := (blk_cell BK495.out 1).trans rfl; have hcz63_2 : w62.cell? ⟨gb495, 2, none⟩ = some (.slice Ao16 t491.length co16) := (blk_cell BK495.out 2).trans rfl; have hfz63_0 := blk_frozen BK495.out 0; have hfz63_1 := blk_frozen BK495.out 1; have hfz63_2 := blk_frozen BK495.out 2) | ((with_reducible refine gate_callee (f := 11) rfl ?_); refine goesL_ (some 122) rfl rfl Try.func11 (by kernel_rfl) rfl #[.agg #[.int .i64 t489, .int .i64 t490, .slice Ao16 t491.length co16], .int .i64 t487] rfl (by (try simp only [List.map_toArray, List.map_cons, List.map_nil]); first | done | rfl | (simp only [List.length_drop, List.length_take]; rfl)) ?_; (with_reducible refine (impl_AreaCells.calls kj34 t489 t490 _ _ t491 t487 t514 t515 _ ?side1 ?side2 A50.out).mono ?_); (case side1 => repeat (first | exact (Kd.R_reads' HO_496002.out).2.2 | (with_reducible refine Kd.C_alloc ?_ _) | (with_reducible refine Kd.C_drewN ?_ _) | (with_reducible refine Kd.C_drew ?_))); (case side2 => exact (Kd.R_reads' HO_496002.out).2.1); rintro e w64 ⟨rfl, hb⟩; refine ⟨_, rfl, ?_⟩; replace HO_489002 := Aside0.mk (Kd.R_below (by (with_reducible repeat (first | apply Kd.R_alloc | apply Kd.R_drewN | apply Kd.R_drew)); exact HO_489002.out) hb); replace HO_496002 := Aside0.mk (Kd.R_below (by (with_reducible repeat (first | apply Kd.R_alloc | apply Kd.R_drewN | apply Kd.R_drew)); exact HO_496002.out) hb); replace HO_503002 := Aside0.mk (Kd.R_below (by (with_reducible repeat (first | apply Kd.R_alloc | apply Kd.R_drewN | apply Kd.R_drew)); exact HO_503002.out) hb); replace BK488 := Aside0.mk (blk_below (g := gb488) (o := .cells #[.int .i64 t481, .int .i64 t482, .slice Ao11 t483.length co11] 26 (0, 0)) (by (with_reducible repeat (first | refine blk_drewN ?_ _ | refine blk_drew ?_ | refine blk_alloc ?_ _)); exact BK488.out) hb); replace BK495 := Aside0.mk (blk_below (g := gb495) (o := .cells #[.int .i64 t489, .int .i64 t490, .slice Ao16 t491.length co16] 26 (0, 0)) (by (with_reducible repeat (first | refine blk_drewN ?_ _ | refine blk_drew ?_ | refine blk_alloc ?_ _)); exact BK495.out) hb); replace BK502 := Aside0.mk (blk_below (g := gb502) (o := .cells #[.int .i64 t496, .int .i64 t497, .slice Ao23 t498.length co23] 26 (0, 0)) (by (with_reducible repeat (first | refine blk_drewN ?_ _ | refine blk_drew ?_ | refine blk_alloc ?_ _)); exact BK502.out) hb); replace HB := Aside0.mk (below_step (by repeat (first | (with_reducible first | exact HB.out | apply below_alloc | apply pw_below_drewN | apply below_drew1 | refine below_set ?_ GE488.out | refine below_set ?_ GE495.out | refine below_set ?_ GE502.out) | exact HB.out)) hb); (try clear hb); (try clear hb2); (try clear hk); (try clear hi); have hcz65_0 : w64.cell? ⟨gb488, 0, none⟩ = some (.int .i64 t481) := (blk_cell BK488.out 0).trans rfl; have hcz65_1 : w64.cell? ⟨gb488, 1, none⟩ = some (.int .i64 t482) := (blk_cell BK488.out 1).trans rfl; have hcz65_2 : w64.cell? ⟨gb488, 2, none⟩ = some (.slice Ao11 t483.length co11) := (blk_cell BK488.out 2).trans rfl; have hfz65_0 := blk_frozen BK488.out 0; have hfz65_1 := blk_frozen BK488.out 1; have hfz65_2 := blk_frozen BK488.out 2) | ((with_reducible refine gate_callee (f := 12) rfl ?_); refine goesL_ (some 128) rfl rfl Try.func12 (by kernel_rfl) rfl #[.agg #[.int .i64 t481, .int .i64 t482, .slice Ao11 t483.length co11], .int .i64 t486] rfl (by (try simp only [List.map_toArray, List.map_cons, List.map_nil]); first | done | rfl | (simp only [List.length_drop, List.length_take]; rfl)) ?_; (with_reducible refine (impl_NeighborsOf.calls kj34 t481 t482 _ _ t483 t486 t516 t519 _ ?side1 ?side2 A51.out).mono ?_); (case side1 => repeat (first | exact (Kd.R_reads' HO_489002.out).2.2 | (with_reducible refine Kd.C_alloc ?_ _) | (with_reducible refine Kd.C_drewN ?_ _) | (with_reducible refine Kd.C_drew ?_))); (case side2 => exact (Kd.R_reads' HO_489002.out).2.1); rintro e w66 ⟨v517, rfl, ho0, hb⟩; refine ⟨_, rfl, ?_⟩; have HO518 := Aside0.mk (Kd.R_lower (Kd.R_new' (Kd.R_new' (Kd.R_new' ho0 (Kd.R_lt (by (with_reducible repeat (first | apply Kd.R_alloc | apply Kd.R_drewN | apply Kd.R_drew)); exact HO_489002.out))) (Kd.R_lt (by (with_reducible repeat (first | apply Kd.R_alloc | apply Kd.R_drewN | apply Kd.R_drew)); exact HO_496002.out))) (Kd.R_lt (by (with_reducible repeat (first | apply Kd.R_alloc | apply Kd.R_drewN | apply Kd.R_drew)); exact HO_503002.out))) (below_size (by repeat (first | (with_reducible first | exact HB.out | apply below_alloc | apply pw_below_drewN | apply below_drew1 | refine below_set ?_ GE488.out | refine below_set ?_ GE495.out | refine below_set ?_ GE502.out) | exact HB.out)))); replace HO_489002 := Aside0.mk (Kd.R_elder' (by (with_reducible repeat (first | apply Kd.R_alloc | apply Kd.R_drewN | apply Kd.R_drew)); exact HO_489002.out) (Kd.R_base ho0) hb); replace HO_496002 := Aside0.mk (Kd.R_elder' (by (with_reducible repeat (first | apply Kd.R_alloc | apply Kd.R_drewN | apply Kd.R_drew)); exact HO_496002.out) (Kd.R_base ho0) hb); replace HO_503002 := Aside0.mk (Kd.R_elder' (by (with_reducible repeat (first | apply Kd.R_alloc | apply Kd.R_drewN | apply Kd.R_drew)); exact HO_503002.out) (Kd.R_base ho0) hb); replace BK488 := Aside0.mk (blk_below (g := gb488) (o := .cells #[.int .i64 t481, .int .i64 t482, .slice Ao11 t483.length co11] 26 (0, 0)) (by (with_reducible repeat (first | refine blk_drewN ?_ _ | refine blk_drew ?_ | refine blk_alloc ?_ _)); exact BK488.out) hb); replace BK495 := Aside0.mk (blk_below (g := gb495) (o := .cells #[.int .i64 t489, .int .i64 t490, .slice Ao16 t491.length co16] 26 (0, 0)) (by (with_reducible repeat (first | refine blk_drewN ?_ _ | refine blk_drew ?_ | refine blk_alloc ?_ _)); exact BK495.out) hb); replace BK502 := Aside0.mk (blk_below (g := gb502) (o := .cells #[.int .i64 t496, .int .i64 t497, .slice Ao23 t498.length co23] 26 (0, 0)) (by (with_reducible repeat (first | refine blk_drewN ?_ _ | refine blk_drew ?_ | refine blk_alloc ?_ _)); exact BK502.out) hb); replace HB := Aside0.mk (below_step (by repeat (first | (with_reducible first | exact HB.out | apply below_alloc | apply pw_below_drewN | apply below_drew1 | refine below_set ?_ GE488.out | refine below_set ?_ GE495.out | refine below_set ?_ GE502.out) | exact HB.out)) hb); (try clear hb); (try clear hb2); (try clear hk); (try clear hi); (try clear ho0); have hcz67_0 : w66.cell? ⟨gb488, 0, none⟩ = some (.int .i64 t481) := (blk_cell BK488.out 0).trans rfl; have hcz67_1 : w66.cell? ⟨gb488, 1, none⟩ = some (.int .i64 t482) := (blk_cell BK488.out 1).trans rfl; have hcz67_2 : w66.cell? ⟨gb488, 2, none⟩ = some (.slice Ao11 t483.length co11) := (blk_cell BK488.out 2).trans rfl; have hfz67_0 := blk_frozen BK488.out 0; have hfz67_1 := blk_frozen BK488.out 1; have hfz67_2 := blk_frozen BK488.out 2) | ((with_reducible refine gate_callee (f := 12) rfl ?_); refine goesL_ (some 134) rfl rfl Try.func12 (by kernel_rfl) rfl #[.agg #[.int .i64 t481, .int .i64 t482, .slice Ao11 t483.length co11], .int .i64 t487] rfl (by (try simp only [List.map_toArray, List.map_cons, List.map_nil]); first | done | rfl | (simp only [List.length_drop, List.length_take]; rfl)) ?_; (with_reducible refine (impl_NeighborsOf.calls kj34 t481 t482 _ _ t483 t487 t520 t523 _ ?side1 ?side2 A52.out).mono ?_); (case side1 => repeat (first | exact (Kd.R_reads' HO_489002.out).2.2 | (with_reducible refine Kd.C_alloc ?_ _) | (with_reducible refine Kd.C_drewN ?_ _) | (with_reducible refine Kd.C_drew ?_))); (case side2 => exact (Kd.R_reads' HO_489002.out).2.1); rintro e w68 ⟨v521, rfl, ho0, hb⟩; refine ⟨_, rfl, ?_⟩; have HO522 := Aside0.mk (Kd.R_lower (Kd.R_new' (Kd.R_new' (Kd.R_new' (Kd.R_new' ho0 (Kd.R_lt (by (with_reducible repeat (first | apply Kd.R_alloc | apply Kd.R_drewN | apply Kd.R_drew)); exact HO_489002.out))) (Kd.R_lt (by (with_reducible repeat (first | apply Kd.R_alloc | apply Kd.R_drewN | apply Kd.R_drew)); exact HO_496002.out))) (Kd.R_lt (by (with_reducible repeat (first | apply Kd.R_alloc | apply Kd.R_drewN | apply Kd.R_drew)); exact HO_503002.out))) (Kd.R_lt (by (with_reducible repeat (first | apply Kd.R_alloc | apply Kd.R_drewN | apply Kd.R_drew)); exact HO518.out))) (below_size (by repeat (first | (with_reducible first | exact HB.out | apply below_alloc | apply pw_below_drewN | apply below_drew1 | refine below_set ?_ GE488.out | refine below_set ?_ GE495.out | refine below_set ?_ GE502.out) | exact HB.out)))); replace HO_489002 := Aside0.mk (Kd.R_elder' (by (with_reducible repeat (first | apply Kd.R_alloc | apply Kd.R_drewN | apply Kd.R_drew)); exact HO_489002.out) (Kd.R_base ho0) hb); replace HO_496002 := Aside0.mk (Kd.R_elder' (by (with_reducible repeat (first | apply Kd.R_alloc | apply Kd.R_drewN | apply Kd.R_drew)); exact HO_496002.out) (Kd.R_base ho0) hb); replace HO_503002 := Aside0.mk (Kd.R_elder' (by (with_reducible repeat (first | apply Kd.R_alloc | apply Kd.R_drewN | apply Kd.R_drew)); exact HO_503002.out) (Kd.R_base ho0) hb); replace HO518 := Aside0.mk (Kd.R_elder' (by (with_reducible repeat (first | apply Kd.R_alloc | apply Kd.R_drewN | apply Kd.R_drew)); exact HO518.out) (Kd.R_base ho0) hb); replace BK488 := Aside0.mk (blk_below (g := gb488) (o := .cells #[.int .i64 t481, .int .i64 t482, .slice Ao11 t483.length co11] 26 (0, 0)) (by (with_reducible repeat (first | refine blk_drewN ?_ _ | refine blk_drew ?_ | refine blk_alloc ?_ _)); exact BK488.out) hb); replace BK495 := Aside0.mk (blk_below (g := gb495) (o := .cells #[.int .i64 t489, .int .i64 t490, .slice Ao16 t491.length co16] 26 (0, 0)) (by (with_reducible repeat (first | refine blk_drewN ?_ _ | refine blk_drew ?_ | refine blk_alloc ?_ _)); exact BK495.out) hb); replace BK502 := Aside0.mk (blk_below (g := gb502) (o := .cells #[.int .i64 t496, .int .i64 t497, .slice Ao23 t498.length co23] 26 (0, 0)) (by (with_reducible repeat (first | refine blk_drewN ?_ _ | refine blk_drew ?_ | refine blk_alloc ?_ _)); exact BK502.out) hb); replace HB := Aside0.mk (below_step (by repeat (first | (with_reducible first | exact HB.out | apply below_alloc | apply pw_below_drewN | apply below_drew1 | refine below_set ?_ GE488.out | refine below_set ?_ GE495.out | refine below_set ?_ GE502.out) | exact HB.out)) hb); (try clear hb); (try clear hb2); (try clear hk); (try clear hi); (try clear ho0)))
  (try simp only [Act.put, List.setIfInBounds_toArray, List.set_cons_zero, List.set_cons_succ])
  go_cut [180] (fun v180 wc => ∃ (kq : Nat) (x180_52 : Bool), v180 = .bool x180_52 ∧ Aside0 (laws_FnAreas.j2 kq l0 t486 t487 t504 x180_52 t481 t482 t483 t489 t490 t491 = some r) ∧ Aside0 (kq ≤ kj34) ∧ Aside0 (Kd.R (Kd.int .i64) 3 wc w.heap.size (fun k_ => some k_ ≠ ((.slice Ao16 t491.length co16) : Value).ownBlock ∧ some k_ ≠ ((.slice Ao23 t498.length co23) : Value).ownBlock) (.slice Ao11 t483.length co11) t483) ∧ Aside0 (Kd.R (Kd.int .i64) 3 wc w.heap.size (fun k_ => some k_ ≠ ((.slice Ao11 t483.length co11) : Value).ownBlock ∧ some k_ ≠ ((.slice Ao23 t498.length co23) : Value).ownBlock) (.slice Ao16 t491.length co16) t491) ∧ Aside0 (Kd.R (Kd.int .i64) 3 wc w.heap.size (fun k_ => some k_ ≠ ((.slice Ao11 t483.length co11) : Value).ownBlock ∧ some k_ ≠ ((.slice Ao16 t491.length co16) : Value).ownBlock) (.slice Ao23 t498.length co23) t498) ∧ Aside0 (wc.heap[gb488]? = some (.cells #[.int .i64 t481, .int .i64 t482, (.slice Ao11 t483.length co11)] 26 (0, 0))) ∧ Aside0 (wc.heap[gb495]? = some (.cells #[.int .i64 t489, .int .i64 t490, (.slice Ao16 t491.length co16)] 26 (0, 0))) ∧ Aside0 (wc.heap[gb502]? = some (.cells #[.int .i64 t496, .int .i64 t497, (.slice Ao23 t498.length co23)] 26 (0, 0))) ∧ Aside0 (Below w.heap.size w wc))
  case first =>
   have H := HC53.out
   clear HC53
   by_cases c69 : t509 = true
   ·
    subst c69
    have H1 : (if t511 = true then (if t513 = true then (if t515 = true then (none) else (if t519 = true then (if t523 = true then (if t512 = (wrap64 (t508 + t510)) then ((laws_rHas.f kj34 t516 t487).bind fun t524 => (if (t524 != (decide (t504 > 0))) = true then (none) else ((laws_rHas.f kj34 t520 t486).bind fun t525 => (laws_FnAreas.j2 kj34 l0 t486 t487 t504 (t525 != (decide (t504 > 0))) t481 t482 t483 t489 t490 t491)))) else (none)) else (none)) else (none))) else (none)) else (none)) = some r := by rw [if_pos rfl] at H; exact H
    clear H
    have H := H1
    clear H1
    by_cases c70 : t511 = true
    ·
     subst c70
     have H1 : (if t513 = true then (if t515 = true then (none) else (if t519 = true then (if t523 = true then (if t512 = (wrap64 (t508 + t510)) then ((laws_rHas.f kj34 t516 t487).bind fun t524 => (if (t524 != (decide (t504 > 0))) = true then (none) else ((laws_rHas.f kj34 t520 t486).bind fun t525 => (laws_FnAreas.j2 kj34 l0 t486 t487 t504 (t525 != (decide (t504 > 0))) t481 t482 t483 t489 t490 t491)))) else (none)) else (none)) else (none))) else (none)) = some r := by rw [if_pos rfl] at H; exact H
     clear H
     have H := H1
     clear H1
     by_cases c71 : t513 = true
     ·
      subst c71
      have H1 : (if t515 = true then (none) else (if t519 = true then (if t523 = true then (if t512 = (wrap64 (t508 + t510)) then ((laws_rHas.f kj34 t516 t487).bind fun t524 => (if (t524 != (decide (t504 > 0))) = true then (none) else ((laws_rHas.f kj34 t520 t486).bind fun t525 => (laws_FnAreas.j2 kj34 l0 t486 t487 t504 (t525 != (decide (t504 > 0))) t481 t482 t483 t489 t490 t491)))) else (none)) else (none)) else (none))) = some r := by rw [if_pos rfl] at H; exact H
      clear H
      have H := H1
      clear H1
      by_cases c72 : t515 = true
      ·
       subst c72
       have H1 : (none) = some r := by rw [if_pos rfl] at H; exact H
       clear H
       have H := H1
       clear H1
       exact absurd H (by simp)
      ·
       replace c72 := Bool.eq_false_iff.mpr c72
       subst c72
       have H1 : (if t519 = true then (if t523 = true then (if t512 = (wrap64 (t508 + t510)) then ((laws_rHas.f kj34 t516 t487).bind fun t524 => (if (t524 != (decide (t504 > 0))) = true then (none) else ((laws_rHas.f kj34 t520 t486).bind fun t525 => (laws_FnAreas.j2 kj34 l0 t486 t487 t504 (t525 != (decide (t504 > 0))) t481 t482 t483 t489 t490 t491)))) else (none)) else (none)) else (none)) = some r := by rw [if_neg (show ¬ (false = true) by decide)] at H; exact H
       clear H
       have H := H1
       clear H1
       by_cases c73 : t519 = true
       ·
        subst c73
        have H1 : (if t523 = true then (if t512 = (wrap64 (t508 + t510)) then ((laws_rHas.f kj34 t516 t487).bind fun t524 => (if (t524 != (decide (t504 > 0))) = true then (none) else ((laws_rHas.f kj34 t520 t486).bind fun t525 => (laws_FnAreas.j2 kj34 l0 t486 t487 t504 (t525 != (decide (t504 > 0))) t481 t482 t483 t489 t490 t491)))) else (none)) else (none)) = some r := by rw [if_pos rfl] at H; exact H
        clear H
        have H := H1
        clear H1
        by_cases c74 : t523 = true
        ·
         subst c74
         have H1 : (if t512 = (wrap64 (t508 + t510)) then ((laws_rHas.f kj34 t516 t487).bind fun t524 => (if (t524 != (decide (t504 > 0))) = true then (none) else ((laws_rHas.f kj34 t520 t486).bind fun t525 => (laws_FnAreas.j2 kj34 l0 t486 t487 t504 (t525 != (decide (t504 > 0))) t481 t482 t483 t489 t490 t491)))) else (none)) = some r := by rw [if_pos rfl] at H; exact H
         clear H
         have H := H1
         clear H1
         by_cases c75 : t512 = (wrap64 (t508 + t510))
         ·
          rw [if_pos c75] at H
          have c75b0 : (t512 == (wrap64 (t508 + t510))) = true := beq_iff_eq.mpr c75
          have c75b1 : (t512 != (wrap64 (t508 + t510))) = false := bne_eq_false_iff_eq.mpr c75
          clear c75
          (first | rw [c75b0] | (simp only [i64_w, i32_w]; rw [c75b0]) | rw [c75b1] | skip)
          replace H := Option.bind_eq_some_iff.mp H
          obtain ⟨t524, A760, H⟩ := H
          replace H : (if (t524 != (decide (t504 > 0))) = true then (none) else ((laws_rHas.f kj34 t520 t486).bind fun t525 => (laws_FnAreas.j2 kj34 l0 t486 t487 t504 (t525 != (decide (t504 > 0))) t481 t482 t483 t489 t490 t491))) = some r := H
          have A76 := Aside0.mk A760
          clear A760
          by_cases c77 : (t524 != (decide (t504 > 0))) = true
          ·
           rw [if_pos c77] at H
           exact absurd H (by simp)
          ·
           rw [if_neg c77] at H
           have c77b0 : (t524 != (decide (t504 > 0))) = false := by simpa using c77
           (try (have c77b1 : decide (t524 = (decide (t504 > 0))) = true := by simpa using c77))
           (try (have c77b2 : (t524 == (decide (t504 > 0))) = true := by simpa using c77))
           clear c77
           replace H := Option.bind_eq_some_iff.mp H
           obtain ⟨t525, A780, H⟩ := H
           replace H : (laws_FnAreas.j2 kj34 l0 t486 t487 t504 (t525 != (decide (t504 > 0))) t481 t482 t483 t489 t490 t491) = some r := H
           have A78 := Aside0.mk A780
           clear A780
           have H' := Aside0.mk H
           clear H
           obtain ⟨Ao79, co79, eo79⟩ := Kd.R_slice HO518.out
           subst eo79
           go_wp2_with (first | (go_at_call 13; (with_reducible refine (laws_rHas.calls kj34 _ _ t516 t487 t524 _ ?side1 ?side2 A76.out).mono ?_); (case side1 => repeat (first | exact (Kd.R_reads' HO518.out).2.2 | (with_reducible refine Kd.C_alloc ?_ _) | (with_reducible refine Kd.C_drewN ?_ _) | (with_reducible refine Kd.C_drew ?_))); (case side2 => exact (Kd.R_reads' HO518.out).2.1); rintro e w' ⟨rfl, ⟨nd, rfl⟩⟩; simp only []; obtain ⟨Ao80, co80, eo80⟩ := Kd.R_slice HO522.out; subst eo80) | (go_at_call 13; (with_reducible refine (laws_rHas.calls kj34 _ _ t520 t486 t525 _ ?side1 ?side2 A78.out).mono ?_); (case side1 => repeat (first | exact (Kd.R_reads' HO522.out).2.2 | (with_reducible refine Kd.C_alloc ?_ _) | (with_reducible refine Kd.C_drewN ?_ _) | (with_reducible refine Kd.C_drew ?_))); (case side2 => exact (Kd.R_reads' HO522.out).2.1); rintro e w' ⟨rfl, ⟨nd, rfl⟩⟩; simp only []))
           go_meet
           case rel => exact ⟨_, ((t525 != (decide (t504 > 0)))), (by first | rfl | (simp; done) | (simp [*]; done)), H', ⟨by have := HJ6.out; have := HJ34.out; first | omega | exact Nat.le_refl _⟩, ⟨by (with_reducible repeat (first | apply Kd.R_alloc | apply Kd.R_drewN | apply Kd.R_drew)); exact Kd.R_mono HO_489002.out (fun _ hk => ⟨hk.1.1.1, hk.1.1.2⟩)⟩, ⟨by (with_reducible repeat (first | apply Kd.R_alloc | apply Kd.R_drewN | apply Kd.R_drew)); exact Kd.R_mono HO_496002.out (fun _ hk => ⟨hk.1.1.1, hk.1.1.2⟩)⟩, ⟨by (with_reducible repeat (first | apply Kd.R_alloc | apply Kd.R_drewN | apply Kd.R_drew)); exact Kd.R_mono HO_503002.out (fun _ hk => ⟨hk.1.1.1, hk.1.1.2⟩)⟩, ⟨by (with_reducible repeat (first | refine blk_drewN ?_ _ | refine blk_drew ?_ | refine blk_alloc ?_ _)); exact BK488.out⟩, ⟨by (with_reducible repeat (first | refine blk_drewN ?_ _ | refine blk_drew ?_ | refine blk_alloc ?_ _)); exact BK495.out⟩, ⟨by (with_reducible repeat (first | refine blk_drewN ?_ _ | refine blk_drew ?_ | refine blk_alloc ?_ _)); exact BK502.out⟩, ⟨by repeat (first | (with_reducible first | exact HB.out | apply below_alloc | apply pw_below_drewN | apply below_drew1 | refine below_set ?_ GE488.out | refine below_set ?_ GE495.out | refine below_set ?_ GE502.out) | exact HB.out)⟩⟩
         ·
          rw [if_neg c75] at H
          exact absurd H (by simp)
        ·
         replace c74 := Bool.eq_false_iff.mpr c74
         subst c74
         have H1 : (none) = some r := by rw [if_neg (show ¬ (false = true) by decide)] at H; exact H
         clear H
         have H := H1
         clear H1
         exact absurd H (by simp)
       ·
        replace c73 := Bool.eq_false_iff.mpr c73
        subst c73
        have H1 : (none) = some r := by rw [if_neg (show ¬ (false = true) by decide)] at H; exact H
        clear H
        have H := H1
        clear H1
        exact absurd H (by simp)
     ·
      replace c71 := Bool.eq_false_iff.mpr c71
      subst c71
      have H1 : (none) = some r := by rw [if_neg (show ¬ (false = true) by decide)] at H; exact H
      clear H
      have H := H1
      clear H1
      exact absurd H (by simp)
    ·
     replace c70 := Bool.eq_false_iff.mpr c70
     subst c70
     have H1 : (none) = some r := by rw [if_neg (show ¬ (false = true) by decide)] at H; exact H
     clear H
     have H := H1
     clear H1
     exact absurd H (by simp)
   ·
    replace c69 := Bool.eq_false_iff.mpr c69
    subst c69
    have H1 : (none) = some r := by rw [if_neg (show ¬ (false = true) by decide)] at H; exact H
    clear H
    have H := H1
    clear H1
    exact absurd H (by simp)
  case rest =>
   clear HC53
   try clear c1
   try clear c2
   try clear p2
   try clear c3
   try clear c4
   try clear c5
   try clear c6
   try clear p6
   try clear c7
   try clear c9
   try clear c10
   try clear c11
   try clear c12
   try clear c14
   try clear c20
   try clear c21
   try clear c24
   try clear c24b0
   try clear c24b1
   try clear c24b2
   try clear c26
   try clear c27
   try clear c29
   try clear c32
   try clear c36
   try clear c37
   try clear c42
   try clear c42b0
   try clear c42b1
   try clear c43
   try clear c43b0
   try clear c43b1
   try clear c43b2
   try clear c44
   try clear c46
   try clear c54
   try clear c55
   try clear c60
   try clear p64
   try clear c69
   try clear c70
   try clear c71
   try clear c72
   try clear c73
   try clear c74
   try clear c75
   try clear c75b0
   try clear c75b1
   try clear c77
   try clear c77b0
   try clear c77b1
   try clear c77b2
   try clear hcz10_0
   try clear hcz10_1
   try clear hcz10_2
   try clear hcz15_0
   try clear hcz15_1
   try clear hcz15_2
   try clear hcz17_0
   try clear hcz17_1
   try clear hcz17_2
   try clear hcz22_0
   try clear hcz22_1
   try clear hcz22_2
   try clear hcz28_0
   try clear hcz28_1
   try clear hcz28_2
   try clear hcz30_0
   try clear hcz30_1
   try clear hcz30_2
   try clear hcz38_0
   try clear hcz38_1
   try clear hcz38_2
   try clear hcz40_0
   try clear hcz40_1
   try clear hcz40_2
   try clear hcz56_0
   try clear hcz56_1
   try clear hcz56_2
   try clear hcz58_0
   try clear hcz58_1
   try clear hcz58_2
   try clear hcz61_0
   try clear hcz61_1
   try clear hcz61_2
   try clear hcz63_0
   try clear hcz63_1
   try clear hcz63_2
   try clear hcz65_0
   try clear hcz65_1
   try clear hcz65_2
   try clear hcz67_0
   try clear hcz67_1
   try clear hcz67_2
   try clear hfz10_0
   try clear hfz10_1
   try clear hfz10_2
   try clear hfz15_0
   try clear hfz15_1
   try clear hfz15_2
   try clear hfz17_0
   try clear hfz17_1
   try clear hfz17_2
   try clear hfz22_0
   try clear hfz22_1
   try clear hfz22_2
   try clear hfz28_0
   try clear hfz28_1
   try clear hfz28_2
   try clear hfz30_0
   try clear hfz30_1
   try clear hfz30_2
   try clear hfz38_0
   try clear hfz38_1
   try clear hfz38_2
   try clear hfz40_0
   try clear hfz40_1
   try clear hfz40_2
   try clear hfz56_0
   try clear hfz56_1
   try clear hfz56_2
   try clear hfz58_0
   try clear hfz58_1
   try clear hfz58_2
   try clear hfz61_0
   try clear hfz61_1
   try clear hfz61_2
   try clear hfz63_0
   try clear hfz63_1
   try clear hfz63_2
   try clear hfz65_0
   try clear hfz65_1
   try clear hfz65_2
   try clear hfz67_0
   try clear hfz67_1
   try clear hfz67_2
   try clear p2
   obtain ⟨kq, x180_52, rfl, HA, HJ52, HO_489002, HO_496002, HO_503002, BK488, BK495, BK502, HB⟩ := hcut
   cases kq with
   | zero => exact absurd HA.out (by simp [laws_FnAreas.j2])
   | succ kj52 =>
    have H := HA.out
    clear HA
    simp only [laws_FnAreas.j2] at H
    by_cases c81 : x180_52 = true
    ·
     subst c81
     have H1 : (none) = some r := by rw [if_pos rfl] at H; exact H
     clear H
     have H := H1
     clear H1
     exact absurd H (by simp)
    ·
     replace c81 := Bool.eq_false_iff.mpr c81
     subst c81
     have H1 : ((impl_IsConnectedArea.f kj52 t481 t482 t483 t486).bind fun bt526 => ((impl_IsConnectedArea.f kj52 t481 t482 t483 t487).bind fun bt528 => ((impl_IsConnectedArea.f kj52 t489 t490 t491 t486).bind fun bt530 => (if bt526.2 = true then (if bt528.2 = true then (if bt530.2 = true then (if bt526.1 = true then (if bt528.1 = true then (if (bt530.1 != (decide (t504 > 0))) = true then (none) else (laws_FnAreas.j3 kj52 l0)) else (laws_FnAreas.j3 kj52 l0)) else (laws_FnAreas.j3 kj52 l0)) else (none)) else (none)) else (none))))) = some r := by rw [if_neg (show ¬ (false = true) by decide)] at H; exact H
     clear H
     have H := H1
     clear H1
     replace H := Option.bind_eq_some_iff.mp H
     obtain ⟨⟨t526, t527⟩, A820, H⟩ := H
     replace H : ((impl_IsConnectedArea.f kj52 t481 t482 t483 t487).bind fun bt528 => ((impl_IsConnectedArea.f kj52 t489 t490 t491 t486).bind fun bt530 => (if t527 = true then (if bt528.2 = true then (if bt530.2 = true then (if t526 = true then (if bt528.1 = true then (if (bt530.1 != (decide (t504 > 0))) = true then (none) else (laws_FnAreas.j3 kj52 l0)) else (laws_FnAreas.j3 kj52 l0)) else (laws_FnAreas.j3 kj52 l0)) else (none)) else (none)) else (none)))) = some r := H
     have A82 := Aside0.mk A820
     clear A820
     replace H := Option.bind_eq_some_iff.mp H
     obtain ⟨⟨t528, t529⟩, A830, H⟩ := H
     replace H : ((impl_IsConnectedArea.f kj52 t489 t490 t491 t486).bind fun bt530 => (if t527 = true then (if t529 = true then (if bt530.2 = true then (if t526 = true then (if t528 = true then (if (bt530.1 != (decide (t504 > 0))) = true then (none) else (laws_FnAreas.j3 kj52 l0)) else (laws_FnAreas.j3 kj52 l0)) else (laws_FnAreas.j3 kj52 l0)) else (none)) else (none)) else (none))) = some r := H
     have A83 := Aside0.mk A830
     clear A830
     replace H := Option.bind_eq_some_iff.mp H
     obtain ⟨⟨t530, t531⟩, A840, H⟩ := H
     replace H : (if t527 = true then (if t529 = true then (if t531 = true then (if t526 = true then (if t528 = true then (if (t530 != (decide (t504 > 0))) = true then (none) else (laws_FnAreas.j3 kj52 l0)) else (laws_FnAreas.j3 kj52 l0)) else (laws_FnAreas.j3 kj52 l0)) else (none)) else (none)) else (none)) = some r := H
     have A84 := Aside0.mk A840
     clear A840
     by_cases c85 : t527 = true
     ·
      subst c85
      have H1 : (if t529 = true then (if t531 = true then (if t526 = true then (if t528 = true then (if (t530 != (decide (t504 > 0))) = true then (none) else (laws_FnAreas.j3 kj52 l0)) else (laws_FnAreas.j3 kj52 l0)) else (laws_FnAreas.j3 kj52 l0)) else (none)) else (none)) = some r := by rw [if_pos rfl] at H; exact H
      clear H
      have H := H1
      clear H1
      by_cases c86 : t529 = true
      ·
       subst c86
       have H1 : (if t531 = true then (if t526 = true then (if t528 = true then (if (t530 != (decide (t504 > 0))) = true then (none) else (laws_FnAreas.j3 kj52 l0)) else (laws_FnAreas.j3 kj52 l0)) else (laws_FnAreas.j3 kj52 l0)) else (none)) = some r := by rw [if_pos rfl] at H; exact H
       clear H
       have H := H1
       clear H1
       by_cases c87 : t531 = true
       ·
        subst c87
        have H1 : (if t526 = true then (if t528 = true then (if (t530 != (decide (t504 > 0))) = true then (none) else (laws_FnAreas.j3 kj52 l0)) else (laws_FnAreas.j3 kj52 l0)) else (laws_FnAreas.j3 kj52 l0)) = some r := by rw [if_pos rfl] at H; exact H
        clear H
        have H := H1
        clear H1
        by_cases c88 : t526 = true
        ·
         subst c88
         have H1 : (if t528 = true then (if (t530 != (decide (t504 > 0))) = true then (none) else (laws_FnAreas.j3 kj52 l0)) else (laws_FnAreas.j3 kj52 l0)) = some r := by rw [if_pos rfl] at H; exact H
         clear H
         have H := H1
         clear H1
         by_cases c89 : t528 = true
         ·
          subst c89
          have H1 : (if (t530 != (decide (t504 > 0))) = true then (none) else (laws_FnAreas.j3 kj52 l0)) = some r := by rw [if_pos rfl] at H; exact H
          clear H
          have H := H1
          clear H1
          by_cases c90 : (t530 != (decide (t504 > 0))) = true
          ·
           rw [if_pos c90] at H
           exact absurd H (by simp)
          ·
           rw [if_neg c90] at H
           have c90b0 : (t530 != (decide (t504 > 0))) = false := by simpa using c90
           (try (have c90b1 : decide (t530 = (decide (t504 > 0))) = true := by simpa using c90))
           (try (have c90b2 : (t530 == (decide (t504 > 0))) = true := by simpa using c90))
           clear c90
           have H' := Aside0.mk H
           clear H
           have hnb91 := NB488_495.out
           have hnc91 := NB495_488.out
           have hnb92 := NB488_502.out
           have hnc92 := NB502_488.out
           have hcz93_0 : wc.cell? ⟨gb488, 0, none⟩ = some (.int .i64 t481) := (blk_cell BK488.out 0).trans rfl
           have hcz93_1 : wc.cell? ⟨gb488, 1, none⟩ = some (.int .i64 t482) := (blk_cell BK488.out 1).trans rfl
           have hcz93_2 : wc.cell? ⟨gb488, 2, none⟩ = some (.slice Ao11 t483.length co11) := (blk_cell BK488.out 2).trans rfl
           have hfz93_0 := blk_frozen BK488.out 0
           have hfz93_1 := blk_frozen BK488.out 1
           have hfz93_2 := blk_frozen BK488.out 2
           go_wp2_with (first | ((with_reducible refine gate_callee (f := 14) rfl ?_); refine goesL_ (some 184) rfl rfl Try.func14 (by kernel_rfl) rfl #[.agg #[.int .i64 t481, .int .i64 t482, .slice Ao11 t483.length co11], .int .i64 t486] rfl (by (try simp only [List.map_toArray, List.map_cons, List.map_nil]); first | done | rfl | (simp only [List.length_drop, List.length_take]; rfl)) ?_; (with_reducible refine (impl_IsConnectedArea.calls kj52 t481 t482 _ _ t483 t486 true true _ ?side1 ?side2 A82.out).mono ?_); (case side1 => repeat (first | exact (Kd.R_reads' HO_489002.out).2.2 | (with_reducible refine Kd.C_alloc ?_ _) | (with_reducible refine Kd.C_drewN ?_ _) | (with_reducible refine Kd.C_drew ?_))); (case side2 => exact (Kd.R_reads' HO_489002.out).2.1); rintro e w94 ⟨rfl, hb⟩; refine ⟨_, rfl, ?_⟩; replace HO_489002 := Aside0.mk (Kd.R_below (by (with_reducible repeat (first | apply Kd.R_alloc | apply Kd.R_drewN | apply Kd.R_drew)); exact HO_489002.out) hb); replace HO_496002 := Aside0.mk (Kd.R_below (by (with_reducible repeat (first | apply Kd.R_alloc | apply Kd.R_drewN | apply Kd.R_drew)); exact HO_496002.out) hb); replace HO_503002 := Aside0.mk (Kd.R_below (by (with_reducible repeat (first | apply Kd.R_alloc | apply Kd.R_drewN | apply Kd.R_drew)); exact HO_503002.out) hb); replace BK488 := Aside0.mk (blk_below (g := gb488) (o := .cells #[.int .i64 t481, .int .i64 t482, .slice Ao11 t483.length co11] 26 (0, 0)) (by (with_reducible repeat (first | refine blk_drewN ?_ _ | refine blk_drew ?_ | refine blk_alloc ?_ _)); exact BK488.out) hb); replace BK495 := Aside0.mk (blk_below (g := gb495) (o := .cells #[.int .i64 t489, .int .i64 t490, .slice Ao16 t491.length co16] 26 (0, 0)) (by (with_reducible repeat (first | refine blk_drewN ?_ _ | refine blk_drew ?_ | refine blk_alloc ?_ _)); exact BK495.out) hb); replace BK502 := Aside0.mk (blk_below (g := gb502) (o := .cells #[.int .i64 t496, .int .i64 t497, .slice Ao23 t498.length co23] 26 (0, 0)) (by (with_reducible repeat (first | refine blk_drewN ?_ _ | refine blk_drew ?_ | refine blk_alloc ?_ _)); exact BK502.out) hb); replace HB := Aside0.mk (below_step (by repeat (first | (with_reducible first | exact HB.out | apply below_alloc | apply pw_below_drewN | apply below_drew1 | refine below_set ?_ GE488.out | refine below_set ?_ GE495.out | refine below_set ?_ GE502.out) | exact HB.out)) hb); (try clear hb); (try clear hb2); (try clear hk); (try clear hi); have hcz95_0 : w94.cell? ⟨gb488, 0, none⟩ = some (.int .i64 t481) := (blk_cell BK488.out 0).trans rfl; have hcz95_1 : w94.cell? ⟨gb488, 1, none⟩ = some (.int .i64 t482) := (blk_cell BK488.out 1).trans rfl; have hcz95_2 : w94.cell? ⟨gb488, 2, none⟩ = some (.slice Ao11 t483.length co11) := (blk_cell BK488.out 2).trans rfl; have hfz95_0 := blk_frozen BK488.out 0; have hfz95_1 := blk_frozen BK488.out 1; have hfz95_2 := blk_frozen BK488.out 2) | ((with_reducible refine gate_callee (f := 14) rfl ?_); refine goesL_ (some 190) rfl rfl Try.func14 (by kernel_rfl) rfl #[.agg #[.int .i64 t481, .int .i64 t482, .slice Ao11 t483.length co11], .int .i64 t487] rfl (by (try simp only [List.map_toArray, List.map_cons, List.map_nil]); first | done | rfl | (simp only [List.length_drop, List.length_take]; rfl)) ?_; (with_reducible refine (impl_IsConnectedArea.calls kj52 t481 t482 _ _ t483 t487 true true _ ?side1 ?side2 A83.out).mono ?_); (case side1 => repeat (first | exact (Kd.R_reads' HO_489002.out).2.2 | (with_reducible refine Kd.C_alloc ?_ _) | (with_reducible refine Kd.C_drewN ?_ _) | (with_reducible refine Kd.C_drew ?_))); (case side2 => exact (Kd.R_reads' HO_489002.out).2.1); rintro e w96 ⟨rfl, hb⟩; refine ⟨_, rfl, ?_⟩; replace HO_489002 := Aside0.mk (Kd.R_below (by (with_reducible repeat (first | apply Kd.R_alloc | apply Kd.R_drewN | apply Kd.R_drew)); exact HO_489002.out) hb); replace HO_496002 := Aside0.mk (Kd.R_below (by (with_reducible repeat (first | apply Kd.R_alloc | apply Kd.R_drewN | apply Kd.R_drew)); exact HO_496002.out) hb); replace HO_503002 := Aside0.mk (Kd.R_below (by (with_reducible repeat (first | apply Kd.R_alloc | apply Kd.R_drewN | apply Kd.R_drew)); exact HO_503002.out) hb); replace BK488 := Aside0.mk (blk_below (g := gb488) (o := .cells #[.int .i64 t481, .int .i64 t482, .slice Ao11 t483.length co11] 26 (0, 0)) (by (with_reducible repeat (first | refine blk_drewN ?_ _ | refine blk_drew ?_ | refine blk_alloc ?_ _)); exact BK488.out) hb); replace BK495 := Aside0.mk (blk_below (g := gb495) (o := .cells #[.int .i64 t489, .int .i64 t490, .slice Ao16 t491.length co16] 26 (0, 0)) (by (with_reducible repeat (first | refine blk_drewN ?_ _ | refine blk_drew ?_ | refine blk_alloc ?_ _)); exact BK495.out) hb); replace BK502 := Aside0.mk (blk_below (g := gb502) (o := .cells #[.int .i64 t496, .int .i64 t497, .slice Ao23 t498.length co23] 26 (0, 0)) (by (with_reducible repeat (first | refine blk_drewN ?_ _ | refine blk_drew ?_ | refine blk_alloc ?_ _)); exact BK502.out) hb); replace HB := Aside0.mk (below_step (by repeat (first | (with_reducible first | exact HB.out | apply below_alloc | apply pw_below_drewN | apply below_drew1 | refine below_set ?_ GE488.out | refine below_set ?_ GE495.out | refine below_set ?_ GE502.out) | exact HB.out)) hb); (try clear hb); (try clear hb2); (try clear hk); (try clear hi); have hnb97 := NB495_502.out; have hnc97 := NB502_495.out; have hcz98_0 : w96.cell? ⟨gb495, 0, none⟩ = some (.int .i64 t489) := (blk_cell BK495.out 0).trans rfl; have hcz98_1 : w96.cell? ⟨gb495, 1, none⟩ = some (.int .i64 t490) := (blk_cell BK495.out 1).trans rfl; have hcz98_2 : w96.cell? ⟨gb495, 2, none⟩ = some (.slice Ao16 t491.length co16) := (blk_cell BK495.out 2).trans rfl; have hfz98_0 := blk_frozen BK495.out 0; have hfz98_1 := blk_frozen BK495.out 1; have hfz98_2 := blk_frozen BK495.out 2) | ((with_reducible refine gate_callee (f := 14) rfl ?_); refine goesL_ (some 196) rfl rfl Try.func14 (by kernel_rfl) rfl #[.agg #[.int .i64 t489, .int .i64 t490, .slice Ao16 t491.length co16], .int .i64 t486] rfl (by (try simp only [List.map_toArray, List.map_cons, List.map_nil]); first | done | rfl | (simp only [List.length_drop, List.length_take]; rfl)) ?_; (with_reducible refine (impl_IsConnectedArea.calls kj52 t489 t490 _ _ t491 t486 t530 true _ ?side1 ?side2 A84.out).mono ?_); (case side1 => repeat (first | exact (Kd.R_reads' HO_496002.out).2.2 | (with_reducible refine Kd.C_alloc ?_ _) | (with_reducible refine Kd.C_drewN ?_ _) | (with_reducible refine Kd.C_drew ?_))); (case side2 => exact (Kd.R_reads' HO_496002.out).2.1); rintro e w99 ⟨rfl, hb⟩; refine ⟨_, rfl, ?_⟩; replace HO_489002 := Aside0.mk (Kd.R_below (by (with_reducible repeat (first | apply Kd.R_alloc | apply Kd.R_drewN | apply Kd.R_drew)); exact HO_489002.out) hb); replace HO_496002 := Aside0.mk (Kd.R_below (by (with_reducible repeat (first | apply Kd.R_alloc | apply Kd.R_drewN | apply Kd.R_drew)); exact HO_496002.out) hb); replace HO_503002 := Aside0.mk (Kd.R_below (by (with_reducible repeat (first | apply Kd.R_alloc | apply Kd.R_drewN | apply Kd.R_drew)); exact HO_503002.out) hb); replace BK488 := Aside0.mk (blk_below (g := gb488) (o := .cells #[.int .i64 t481, .int .i64 t482, .slice Ao11 t483.length co11] 26 (0, 0)) (by (with_reducible repeat (first | refine blk_drewN ?_ _ | refine blk_drew ?_ | refine blk_alloc ?_ _)); exact BK488.out) hb); replace BK495 := Aside0.mk (blk_below (g := gb495) (o := .cells #[.int .i64 t489, .int .i64 t490, .slice Ao16 t491.length co16] 26 (0, 0)) (by (with_reducible repeat (first | refine blk_drewN ?_ _ | refine blk_drew ?_ | refine blk_alloc ?_ _)); exact BK495.out) hb); replace BK502 := Aside0.mk (blk_below (g := gb502) (o := .cells #[.int .i64 t496, .int .i64 t497, .slice Ao23 t498.length co23] 26 (0, 0)) (by (with_reducible repeat (first | refine blk_drewN ?_ _ | refine blk_drew ?_ | refine blk_alloc ?_ _)); exact BK502.out) hb); replace HB := Aside0.mk (below_step (by repeat (first | (with_reducible first | exact HB.out | apply below_alloc | apply pw_below_drewN | apply below_drew1 | refine below_set ?_ GE488.out | refine below_set ?_ GE495.out | refine below_set ?_ GE502.out) | exact HB.out)) hb); (try clear hb); (try clear hb2); (try clear hk); (try clear hi)))
           go_meet
           case rel => exact ⟨_, H', ⟨by have := HJ6.out; have := HJ34.out; have := HJ52.out; first | omega | exact Nat.le_refl _⟩, ⟨by (with_reducible repeat (first | apply Kd.R_alloc | apply Kd.R_drewN | apply Kd.R_drew)); exact HO_489002.out⟩, ⟨by (with_reducible repeat (first | apply Kd.R_alloc | apply Kd.R_drewN | apply Kd.R_drew)); exact HO_496002.out⟩, ⟨by (with_reducible repeat (first | apply Kd.R_alloc | apply Kd.R_drewN | apply Kd.R_drew)); exact HO_503002.out⟩, ⟨by (with_reducible repeat (first | refine blk_drewN ?_ _ | refine blk_drew ?_ | refine blk_alloc ?_ _)); exact BK488.out⟩, ⟨by (with_reducible repeat (first | refine blk_drewN ?_ _ | refine blk_drew ?_ | refine blk_alloc ?_ _)); exact BK495.out⟩, ⟨by (with_reducible repeat (first | refine blk_drewN ?_ _ | refine blk_drew ?_ | refine blk_alloc ?_ _)); exact BK502.out⟩, ⟨by repeat (first | (with_reducible first | exact HB.out | apply below_alloc | apply pw_below_drewN | apply below_drew1 | refine below_set ?_ GE488.out | refine below_set ?_ GE495.out | refine below_set ?_ GE502.out) | exact HB.out)⟩⟩
         ·
          replace c89 := Bool.eq_false_iff.mpr c89
          subst c89
          have H1 : (laws_FnAreas.j3 kj52 l0) = some r := by rw [if_neg (show ¬ (false = true) by decide)] at H; exact H
          clear H
          have H := H1
          clear H1
          have H' := Aside0.mk H
          clear H
          have hnb100 := NB488_495.out
          have hnc100 := NB495_488.out
          have hnb101 := NB488_502.out
          have hnc101 := NB502_488.out
          have hcz102_0 : wc.cell? ⟨gb488, 0, none⟩ = some (.int .i64 t481) := (blk_cell BK488.out 0).trans rfl
          have hcz102_1 : wc.cell? ⟨gb488, 1, none⟩ = some (.int .i64 t482) := (blk_cell BK488.out 1).trans rfl
          have hcz102_2 : wc.cell? ⟨gb488, 2, none⟩ = some (.slice Ao11 t483.length co11) := (blk_cell BK488.out 2).trans rfl
          have hfz102_0 := blk_frozen BK488.out 0
          have hfz102_1 := blk_frozen BK488.out 1
          have hfz102_2 := blk_frozen BK488.out 2
          go_wp2_with (first | ((with_reducible refine gate_callee (f := 14) rfl ?_); refine goesL_ (some 184) rfl rfl Try.func14 (by kernel_rfl) rfl #[.agg #[.int .i64 t481, .int .i64 t482, .slice Ao11 t483.length co11], .int .i64 t486] rfl (by (try simp only [List.map_toArray, List.map_cons, List.map_nil]); first | done | rfl | (simp only [List.length_drop, List.length_take]; rfl)) ?_; (with_reducible refine (impl_IsConnectedArea.calls kj52 t481 t482 _ _ t483 t486 true true _ ?side1 ?side2 A82.out).mono ?_); (case side1 => repeat (first | exact (Kd.R_reads' HO_489002.out).2.2 | (with_reducible refine Kd.C_alloc ?_ _) | (with_reducible refine Kd.C_drewN ?_ _) | (with_reducible refine Kd.C_drew ?_))); (case side2 => exact (Kd.R_reads' HO_489002.out).2.1); rintro e w103 ⟨rfl, hb⟩; refine ⟨_, rfl, ?_⟩; replace HO_489002 := Aside0.mk (Kd.R_below (by (with_reducible repeat (first | apply Kd.R_alloc | apply Kd.R_drewN | apply Kd.R_drew)); exact HO_489002.out) hb); replace HO_496002 := Aside0.mk (Kd.R_below (by (with_reducible repeat (first | apply Kd.R_alloc | apply Kd.R_drewN | apply Kd.R_drew)); exact HO_496002.out) hb); replace HO_503002 := Aside0.mk (Kd.R_below (by (with_reducible repeat (first | apply Kd.R_alloc | apply Kd.R_drewN | apply Kd.R_drew)); exact HO_503002.out) hb); replace BK488 := Aside0.mk (blk_below (g := gb488) (o := .cells #[.int .i64 t481, .int .i64 t482, .slice Ao11 t483.length co11] 26 (0, 0)) (by (with_reducible repeat (first | refine blk_drewN ?_ _ | refine blk_drew ?_ | refine blk_alloc ?_ _)); exact BK488.out) hb); replace BK495 := Aside0.mk (blk_below (g := gb495) (o := .cells #[.int .i64 t489, .int .i64 t490, .slice Ao16 t491.length co16] 26 (0, 0)) (by (with_reducible repeat (first | refine blk_drewN ?_ _ | refine blk_drew ?_ | refine blk_alloc ?_ _)); exact BK495.out) hb); replace BK502 := Aside0.mk (blk_below (g := gb502) (o := .cells #[.int .i64 t496, .int .i64 t497, .slice Ao23 t498.length co23] 26 (0, 0)) (by (with_reducible repeat (first | refine blk_drewN ?_ _ | refine blk_drew ?_ | refine blk_alloc ?_ _)); exact BK502.out) hb); replace HB := Aside0.mk (below_step (by repeat (first | (with_reducible first | exact HB.out | apply below_alloc | apply pw_below_drewN | apply below_drew1 | refine below_set ?_ GE488.out | refine below_set ?_ GE495.out | refine below_set ?_ GE502.out) | exact HB.out)) hb); (try clear hb); (try clear hb2); (try clear hk); (try clear hi); have hcz104_0 : w103.cell? ⟨gb488, 0, none⟩ = some (.int .i64 t481) := (blk_cell BK488.out 0).trans rfl; have hcz104_1 : w103.cell? ⟨gb488, 1, none⟩ = some (.int .i64 t482) := (blk_cell BK488.out 1).trans rfl; have hcz104_2 : w103.cell? ⟨gb488, 2, none⟩ = some (.slice Ao11 t483.length co11) := (blk_cell BK488.out 2).trans rfl; have hfz104_0 := blk_frozen BK488.out 0; have hfz104_1 := blk_frozen BK488.out 1; have hfz104_2 := blk_frozen BK488.out 2) | ((with_reducible refine gate_callee (f := 14) rfl ?_); refine goesL_ (some 190) rfl rfl Try.func14 (by kernel_rfl) rfl #[.agg #[.int .i64 t481, .int .i64 t482, .slice Ao11 t483.length co11], .int .i64 t487] rfl (by (try simp only [List.map_toArray, List.map_cons, List.map_nil]); first | done | rfl | (simp only [List.length_drop, List.length_take]; rfl)) ?_; (with_reducible refine (impl_IsConnectedArea.calls kj52 t481 t482 _ _ t483 t487 false true _ ?side1 ?side2 A83.out).mono ?_); (case side1 => repeat (first | exact (Kd.R_reads' HO_489002.out).2.2 | (with_reducible refine Kd.C_alloc ?_ _) | (with_reducible refine Kd.C_drewN ?_ _) | (with_reducible refine Kd.C_drew ?_))); (case side2 => exact (Kd.R_reads' HO_489002.out).2.1); rintro e w105 ⟨rfl, hb⟩; refine ⟨_, rfl, ?_⟩; replace HO_489002 := Aside0.mk (Kd.R_below (by (with_reducible repeat (first | apply Kd.R_alloc | apply Kd.R_drewN | apply Kd.R_drew)); exact HO_489002.out) hb); replace HO_496002 := Aside0.mk (Kd.R_below (by (with_reducible repeat (first | apply Kd.R_alloc | apply Kd.R_drewN | apply Kd.R_drew)); exact HO_496002.out) hb); replace HO_503002 := Aside0.mk (Kd.R_below (by (with_reducible repeat (first | apply Kd.R_alloc | apply Kd.R_drewN | apply Kd.R_drew)); exact HO_503002.out) hb); replace BK488 := Aside0.mk (blk_below (g := gb488) (o := .cells #[.int .i64 t481, .int .i64 t482, .slice Ao11 t483.length co11] 26 (0, 0)) (by (with_reducible repeat (first | refine blk_drewN ?_ _ | refine blk_drew ?_ | refine blk_alloc ?_ _)); exact BK488.out) hb); replace BK495 := Aside0.mk (blk_below (g := gb495) (o := .cells #[.int .i64 t489, .int .i64 t490, .slice Ao16 t491.length co16] 26 (0, 0)) (by (with_reducible repeat (first | refine blk_drewN ?_ _ | refine blk_drew ?_ | refine blk_alloc ?_ _)); exact BK495.out) hb); replace BK502 := Aside0.mk (blk_below (g := gb502) (o := .cells #[.int .i64 t496, .int .i64 t497, .slice Ao23 t498.length co23] 26 (0, 0)) (by (with_reducible repeat (first | refine blk_drewN ?_ _ | refine blk_drew ?_ | refine blk_alloc ?_ _)); exact BK502.out) hb); replace HB := Aside0.mk (below_step (by repeat (first | (with_reducible first | exact HB.out | apply below_alloc | apply pw_below_drewN | apply below_drew1 | refine below_set ?_ GE488.out | refine below_set ?_ GE495.out | refine below_set ?_ GE502.out) | exact HB.out)) hb); (try clear hb); (try clear hb2); (try clear hk); (try clear hi); have hnb106 := NB495_502.out; have hnc106 := NB502_495.out; have hcz107_0 : w105.cell? ⟨gb495, 0, none⟩ = some (.int .i64 t489) := (blk_cell BK495.out 0).trans rfl; have hcz107_1 : w105.cell? ⟨gb495, 1, none⟩ = some (.int .i64 t490) := (blk_cell BK495.out 1).trans rfl; have hcz107_2 : w105.cell? ⟨gb495, 2, none⟩ = some (.slice Ao16 t491.length co16) := (blk_cell BK495.out 2).trans rfl; have hfz107_0 := blk_frozen BK495.out 0; have hfz107_1 := blk_frozen BK495.out 1; have hfz107_2 := blk_frozen BK495.out 2) | ((with_reducible refine gate_callee (f := 14) rfl ?_); refine goesL_ (some 196) rfl rfl Try.func14 (by kernel_rfl) rfl #[.agg #[.int .i64 t489, .int .i64 t490, .slice Ao16 t491.length co16], .int .i64 t486] rfl (by (try simp only [List.map_toArray, List.map_cons, List.map_nil]); first | done | rfl | (simp only [List.length_drop, List.length_take]; rfl)) ?_; (with_reducible refine (impl_IsConnectedArea.calls kj52 t489 t490 _ _ t491 t486 t530 true _ ?side1 ?side2 A84.out).mono ?_); (case side1 => repeat (first | exact (Kd.R_reads' HO_496002.out).2.2 | (with_reducible refine Kd.C_alloc ?_ _) | (with_reducible refine Kd.C_drewN ?_ _) | (with_reducible refine Kd.C_drew ?_))); (case side2 => exact (Kd.R_reads' HO_496002.out).2.1); rintro e w108 ⟨rfl, hb⟩; refine ⟨_, rfl, ?_⟩; replace HO_489002 := Aside0.mk (Kd.R_below (by (with_reducible repeat (first | apply Kd.R_alloc | apply Kd.R_drewN | apply Kd.R_drew)); exact HO_489002.out) hb); replace HO_496002 := Aside0.mk (Kd.R_below (by (with_reducible repeat (first | apply Kd.R_alloc | apply Kd.R_drewN | apply Kd.R_drew)); exact HO_496002.out) hb); replace HO_503002 := Aside0.mk (Kd.R_below (by (with_reducible repeat (first | apply Kd.R_alloc | apply Kd.R_drewN | apply Kd.R_drew)); exact HO_503002.out) hb); replace BK488 := Aside0.mk (blk_below (g := gb488) (o := .cells #[.int .i64 t481, .int .i64 t482, .slice Ao11 t483.length co11] 26 (0, 0)) (by (with_reducible repeat (first | refine blk_drewN ?_ _ | refine blk_drew ?_ | refine blk_alloc ?_ _)); exact BK488.out) hb); replace BK495 := Aside0.mk (blk_below (g := gb495) (o := .cells #[.int .i64 t489, .int .i64 t490, .slice Ao16 t491.length co16] 26 (0, 0)) (by (with_reducible repeat (first | refine blk_drewN ?_ _ | refine blk_drew ?_ | refine blk_alloc ?_ _)); exact BK495.out) hb); replace BK502 := Aside0.mk (blk_below (g := gb502) (o := .cells #[.int .i64 t496, .int .i64 t497, .slice Ao23 t498.length co23] 26 (0, 0)) (by (with_reducible repeat (first | refine blk_drewN ?_ _ | refine blk_drew ?_ | refine blk_alloc ?_ _)); exact BK502.out) hb); replace HB := Aside0.mk (below_step (by repeat (first | (with_reducible first | exact HB.out | apply below_alloc | apply pw_below_drewN | apply below_drew1 | refine below_set ?_ GE488.out | refine below_set ?_ GE495.out | refine below_set ?_ GE502.out) | exact HB.out)) hb); (try clear hb); (try clear hb2); (try clear hk); (try clear hi)))
          go_meet
          case rel => exact ⟨_, H', ⟨by have := HJ6.out; have := HJ34.out; have := HJ52.out; first | omega | exact Nat.le_refl _⟩, ⟨by (with_reducible repeat (first | apply Kd.R_alloc | apply Kd.R_drewN | apply Kd.R_drew)); exact HO_489002.out⟩, ⟨by (with_reducible repeat (first | apply Kd.R_alloc | apply Kd.R_drewN | apply Kd.R_drew)); exact HO_496002.out⟩, ⟨by (with_reducible repeat (first | apply Kd.R_alloc | apply Kd.R_drewN | apply Kd.R_drew)); exact HO_503002.out⟩, ⟨by (with_reducible repeat (first | refine blk_drewN ?_ _ | refine blk_drew ?_ | refine blk_alloc ?_ _)); exact BK488.out⟩, ⟨by (with_reducible repeat (first | refine blk_drewN ?_ _ | refine blk_drew ?_ | refine blk_alloc ?_ _)); exact BK495.out⟩, ⟨by (with_reducible repeat (first | refine blk_drewN ?_ _ | refine blk_drew ?_ | refine blk_alloc ?_ _)); exact BK502.out⟩, ⟨by repeat (first | (with_reducible first | exact HB.out | apply below_alloc | apply pw_below_drewN | apply below_drew1 | refine below_set ?_ GE488.out | refine below_set ?_ GE495.out | refine below_set ?_ GE502.out) | exact HB.out)⟩⟩
        ·
         replace c88 := Bool.eq_false_iff.mpr c88
         subst c88
         have H1 : (laws_FnAreas.j3 kj52 l0) = some r := by rw [if_neg (show ¬ (false = true) by decide)] at H; exact H
         clear H
         have H := H1
         clear H1
         have H' := Aside0.mk H
         clear H
         have hnb109 := NB488_495.out
         have hnc109 := NB495_488.out
         have hnb110 := NB488_502.out
         have hnc110 := NB502_488.out
         have hcz111_0 : wc.cell? ⟨gb488, 0, none⟩ = some (.int .i64 t481) := (blk_cell BK488.out 0).trans rfl
         have hcz111_1 : wc.cell? ⟨gb488, 1, none⟩ = some (.int .i64 t482) := (blk_cell BK488.out 1).trans rfl
         have hcz111_2 : wc.cell? ⟨gb488, 2, none⟩ = some (.slice Ao11 t483.length co11) := (blk_cell BK488.out 2).trans rfl
         have hfz111_0 := blk_frozen BK488.out 0
         have hfz111_1 := blk_frozen BK488.out 1
         have hfz111_2 := blk_frozen BK488.out 2
         go_wp2_with (first | ((with_reducible refine gate_callee (f := 14) rfl ?_); refine goesL_ (some 184) rfl rfl Try.func14 (by kernel_rfl) rfl #[.agg #[.int .i64 t481, .int .i64 t482, .slice Ao11 t483.length co11], .int .i64 t486] rfl (by (try simp only [List.map_toArray, List.map_cons, List.map_nil]); first | done | rfl | (simp only [List.length_drop, List.length_take]; rfl)) ?_; (with_reducible refine (impl_IsConnectedArea.calls kj52 t481 t482 _ _ t483 t486 false true _ ?side1 ?side2 A82.out).mono ?_); (case side1 => repeat (first | exact (Kd.R_reads' HO_489002.out).2.2 | (with_reducible refine Kd.C_alloc ?_ _) | (with_reducible refine Kd.C_drewN ?_ _) | (with_reducible refine Kd.C_drew ?_))); (case side2 => exact (Kd.R_reads' HO_489002.out).2.1); rintro e w112 ⟨rfl, hb⟩; refine ⟨_, rfl, ?_⟩; replace HO_489002 := Aside0.mk (Kd.R_below (by (with_reducible repeat (first | apply Kd.R_alloc | apply Kd.R_drewN | apply Kd.R_drew)); exact HO_489002.out) hb); replace HO_496002 := Aside0.mk (Kd.R_below (by (with_reducible repeat (first | apply Kd.R_alloc | apply Kd.R_drewN | apply Kd.R_drew)); exact HO_496002.out) hb); replace HO_503002 := Aside0.mk (Kd.R_below (by (with_reducible repeat (first | apply Kd.R_alloc | apply Kd.R_drewN | apply Kd.R_drew)); exact HO_503002.out) hb); replace BK488 := Aside0.mk (blk_below (g := gb488) (o := .cells #[.int .i64 t481, .int .i64 t482, .slice Ao11 t483.length co11] 26 (0, 0)) (by (with_reducible repeat (first | refine blk_drewN ?_ _ | refine blk_drew ?_ | refine blk_alloc ?_ _)); exact BK488.out) hb); replace BK495 := Aside0.mk (blk_below (g := gb495) (o := .cells #[.int .i64 t489, .int .i64 t490, .slice Ao16 t491.length co16] 26 (0, 0)) (by (with_reducible repeat (first | refine blk_drewN ?_ _ | refine blk_drew ?_ | refine blk_alloc ?_ _)); exact BK495.out) hb); replace BK502 := Aside0.mk (blk_below (g := gb502) (o := .cells #[.int .i64 t496, .int .i64 t497, .slice Ao23 t498.length co23] 26 (0, 0)) (by (with_reducible repeat (first | refine blk_drewN ?_ _ | refine blk_drew ?_ | refine blk_alloc ?_ _)); exact BK502.out) hb); replace HB := Aside0.mk (below_step (by repeat (first | (with_reducible first | exact HB.out | apply below_alloc | apply pw_below_drewN | apply below_drew1 | refine below_set ?_ GE488.out | refine below_set ?_ GE495.out | refine below_set ?_ GE502.out) | exact HB.out)) hb); (try clear hb); (try clear hb2); (try clear hk); (try clear hi); have hcz113_0 : w112.cell? ⟨gb488, 0, none⟩ = some (.int .i64 t481) := (blk_cell BK488.out 0).trans rfl; have hcz113_1 : w112.cell? ⟨gb488, 1, none⟩ = some (.int .i64 t482) := (blk_cell BK488.out 1).trans rfl; have hcz113_2 : w112.cell? ⟨gb488, 2, none⟩ = some (.slice Ao11 t483.length co11) := (blk_cell BK488.out 2).trans rfl; have hfz113_0 := blk_frozen BK488.out 0; have hfz113_1 := blk_frozen BK488.out 1; have hfz113_2 := blk_frozen BK488.out 2) | ((with_reducible refine gate_callee (f := 14) rfl ?_); refine goesL_ (some 190) rfl rfl Try.func14 (by kernel_rfl) rfl #[.agg #[.int .i64 t481, .int .i64 t482, .slice Ao11 t483.length co11], .int .i64 t487] rfl (by (try simp only [List.map_toArray, List.map_cons, List.map_nil]); first | done | rfl | (simp only [List.length_drop, List.length_take]; rfl)) ?_; (with_reducible refine (impl_IsConnectedArea.calls kj52 t481 t482 _ _ t483 t487 t528 true _ ?side1 ?side2 A83.out).mono ?_); (case side1 => repeat (first | exact (Kd.R_reads' HO_489002.out).2.2 | (with_reducible refine Kd.C_alloc ?_ _) | (with_reducible refine Kd.C_drewN ?_ _) | (with_reducible refine Kd.C_drew ?_))); (case side2 => exact (Kd.R_reads' HO_489002.out).2.1); rintro e w114 ⟨rfl, hb⟩; refine ⟨_, rfl, ?_⟩; replace HO_489002 := Aside0.mk (Kd.R_below (by (with_reducible repeat (first | apply Kd.R_alloc | apply Kd.R_drewN | apply Kd.R_drew)); exact HO_489002.out) hb); replace HO_496002 := Aside0.mk (Kd.R_below (by (with_reducible repeat (first | apply Kd.R_alloc | apply Kd.R_drewN | apply Kd.R_drew)); exact HO_496002.out) hb); replace HO_503002 := Aside0.mk (Kd.R_below (by (with_reducible repeat (first | apply Kd.R_alloc | apply Kd.R_drewN | apply Kd.R_drew)); exact HO_503002.out) hb); replace BK488 := Aside0.mk (blk_below (g := gb488) (o := .cells #[.int .i64 t481, .int .i64 t482, .slice Ao11 t483.length co11] 26 (0, 0)) (by (with_reducible repeat (first | refine blk_drewN ?_ _ | refine blk_drew ?_ | refine blk_alloc ?_ _)); exact BK488.out) hb); replace BK495 := Aside0.mk (blk_below (g := gb495) (o := .cells #[.int .i64 t489, .int .i64 t490, .slice Ao16 t491.length co16] 26 (0, 0)) (by (with_reducible repeat (first | refine blk_drewN ?_ _ | refine blk_drew ?_ | refine blk_alloc ?_ _)); exact BK495.out) hb); replace BK502 := Aside0.mk (blk_below (g := gb502) (o := .cells #[.int .i64 t496, .int .i64 t497, .slice Ao23 t498.length co23] 26 (0, 0)) (by (with_reducible repeat (first | refine blk_drewN ?_ _ | refine blk_drew ?_ | refine blk_alloc ?_ _)); exact BK502.out) hb); replace HB := Aside0.mk (below_step (by repeat (first | (with_reducible first | exact HB.out | apply below_alloc | apply pw_below_drewN | apply below_drew1 | refine below_set ?_ GE488.out | refine below_set ?_ GE495.out | refine below_set ?_ GE502.out) | exact HB.out)) hb); (try clear hb); (try clear hb2); (try clear hk); (try clear hi); have hnb115 := NB495_502.out; have hnc115 := NB502_495.out; have hcz116_0 : w114.cell? ⟨gb495, 0, none⟩ = some (.int .i64 t489) := (blk_cell BK495.out 0).trans rfl; have hcz116_1 : w114.cell? ⟨gb495, 1, none⟩ = some (.int .i64 t490) := (blk_cell BK495.out 1).trans rfl; have hcz116_2 : w114.cell? ⟨gb495, 2, none⟩ = some (.slice Ao16 t491.length co16) := (blk_cell BK495.out 2).trans rfl; have hfz116_0 := blk_frozen BK495.out 0; have hfz116_1 := blk_frozen BK495.out 1; have hfz116_2 := blk_frozen BK495.out 2) | ((with_reducible refine gate_callee (f := 14) rfl ?_); refine goesL_ (some 196) rfl rfl Try.func14 (by kernel_rfl) rfl #[.agg #[.int .i64 t489, .int .i64 t490, .slice Ao16 t491.length co16], .int .i64 t486] rfl (by (try simp only [List.map_toArray, List.map_cons, List.map_nil]); first | done | rfl | (simp only [List.length_drop, List.length_take]; rfl)) ?_; (with_reducible refine (impl_IsConnectedArea.calls kj52 t489 t490 _ _ t491 t486 t530 true _ ?side1 ?side2 A84.out).mono ?_); (case side1 => repeat (first | exact (Kd.R_reads' HO_496002.out).2.2 | (with_reducible refine Kd.C_alloc ?_ _) | (with_reducible refine Kd.C_drewN ?_ _) | (with_reducible refine Kd.C_drew ?_))); (case side2 => exact (Kd.R_reads' HO_496002.out).2.1); rintro e w117 ⟨rfl, hb⟩; refine ⟨_, rfl, ?_⟩; replace HO_489002 := Aside0.mk (Kd.R_below (by (with_reducible repeat (first | apply Kd.R_alloc | apply Kd.R_drewN | apply Kd.R_drew)); exact HO_489002.out) hb); replace HO_496002 := Aside0.mk (Kd.R_below (by (with_reducible repeat (first | apply Kd.R_alloc | apply Kd.R_drewN | apply Kd.R_drew)); exact HO_496002.out) hb); replace HO_503002 := Aside0.mk (Kd.R_below (by (with_reducible repeat (first | apply Kd.R_alloc | apply Kd.R_drewN | apply Kd.R_drew)); exact HO_503002.out) hb); replace BK488 := Aside0.mk (blk_below (g := gb488) (o := .cells #[.int .i64 t481, .int .i64 t482, .slice Ao11 t483.length co11] 26 (0, 0)) (by (with_reducible repeat (first | refine blk_drewN ?_ _ | refine blk_drew ?_ | refine blk_alloc ?_ _)); exact BK488.out) hb); replace BK495 := Aside0.mk (blk_below (g := gb495) (o := .cells #[.int .i64 t489, .int .i64 t490, .slice Ao16 t491.length co16] 26 (0, 0)) (by (with_reducible repeat (first | refine blk_drewN ?_ _ | refine blk_drew ?_ | refine blk_alloc ?_ _)); exact BK495.out) hb); replace BK502 := Aside0.mk (blk_below (g := gb502) (o := .cells #[.int .i64 t496, .int .i64 t497, .slice Ao23 t498.length co23] 26 (0, 0)) (by (with_reducible repeat (first | refine blk_drewN ?_ _ | refine blk_drew ?_ | refine blk_alloc ?_ _)); exact BK502.out) hb); replace HB := Aside0.mk (below_step (by repeat (first | (with_reducible first | exact HB.out | apply below_alloc | apply pw_below_drewN | apply below_drew1 | refine below_set ?_ GE488.out | refine below_set ?_ GE495.out | refine below_set ?_ GE502.out) | exact HB.out)) hb); (try clear hb); (try clear hb2); (try clear hk); (try clear hi)))
         go_meet
         case rel => exact ⟨_, H', ⟨by have := HJ6.out; have := HJ34.out; have := HJ52.out; first | omega | exact Nat.le_refl _⟩, ⟨by (with_reducible repeat (first | apply Kd.R_alloc | apply Kd.R_drewN | apply Kd.R_drew)); exact HO_489002.out⟩, ⟨by (with_reducible repeat (first | apply Kd.R_alloc | apply Kd.R_drewN | apply Kd.R_drew)); exact HO_496002.out⟩, ⟨by (with_reducible repeat (first | apply Kd.R_alloc | apply Kd.R_drewN | apply Kd.R_drew)); exact HO_503002.out⟩, ⟨by (with_reducible repeat (first | refine blk_drewN ?_ _ | refine blk_drew ?_ | refine blk_alloc ?_ _)); exact BK488.out⟩, ⟨by (with_reducible repeat (first | refine blk_drewN ?_ _ | refine blk_drew ?_ | refine blk_alloc ?_ _)); exact BK495.out⟩, ⟨by (with_reducible repeat (first | refine blk_drewN ?_ _ | refine blk_drew ?_ | refine blk_alloc ?_ _)); exact BK502.out⟩, ⟨by repeat (first | (with_reducible first | exact HB.out | apply below_alloc | apply pw_below_drewN | apply below_drew1 | refine below_set ?_ GE488.out | refine below_set ?_ GE495.out | refine below_set ?_ GE502.out) | exact HB.out)⟩⟩
       ·
        replace c87 := Bool.eq_false_iff.mpr c87
        subst c87
        have H1 : (none) = some r := by rw [if_neg (show ¬ (false = true) by decide)] at H; exact H
        clear H
        have H := H1
        clear H1
        exact absurd H (by simp)
      ·
       replace c86 := Bool.eq_false_iff.mpr c86
       subst c86
       have H1 : (none) = some r := by rw [if_neg (show ¬ (false = true) by decide)] at H; exact H
       clear H
       have H := H1
       clear H1
       exact absurd H (by simp)
     ·
      replace c85 := Bool.eq_false_iff.mpr c85
      subst c85
      have H1 : (none) = some r := by rw [if_neg (show ¬ (false = true) by decide)] at H; exact H
      clear H
      have H := H1
      clear H1
      exact absurd H (by simp)
 ·
  replace c46 := Bool.eq_false_iff.mpr c46
  subst c46
  have H1 : (laws_FnAreas.j3 kj34 l0) = some r := by rw [if_neg (show ¬ (false = true) by decide)] at H; exact H
  clear H
  have H := H1
  clear H1
  have H' := Aside0.mk H
  clear H
  go_wp2
  go_meet
  case rel => exact ⟨_, H', ⟨by have := HJ6.out; have := HJ34.out; first | omega | exact Nat.le_refl _⟩, ⟨by (with_reducible repeat (first | apply Kd.R_alloc | apply Kd.R_drewN | apply Kd.R_drew)); exact HO_489002.out⟩, ⟨by (with_reducible repeat (first | apply Kd.R_alloc | apply Kd.R_drewN | apply Kd.R_drew)); exact HO_496002.out⟩, ⟨by (with_reducible repeat (first | apply Kd.R_alloc | apply Kd.R_drewN | apply Kd.R_drew)); exact HO_503002.out⟩, ⟨by (with_reducible repeat (first | refine blk_drewN ?_ _ | refine blk_drew ?_ | refine blk_alloc ?_ _)); exact BK488.out⟩, ⟨by (with_reducible repeat (first | refine blk_drewN ?_ _ | refine blk_drew ?_ | refine blk_alloc ?_ _)); exact BK495.out⟩, ⟨by (with_reducible repeat (first | refine blk_drewN ?_ _ | refine blk_drew ?_ | refine blk_alloc ?_ _)); exact BK502.out⟩, ⟨by repeat (first | (with_reducible first | exact HB.out | apply below_alloc | apply pw_below_drewN | apply below_drew1 | refine below_set ?_ GE488.out | refine below_set ?_ GE495.out | refine below_set ?_ GE502.out) | exact HB.out)⟩⟩
end Go.Proofs.Ytoaclbbkllpdaaa.Q
