/- Texts of this seat, put together: Qf3t. -/
import Derived.Test.YtoaclbbkllpdaaaZFnAreas
import Derived.Test.YtoaclbbkllpdaaaBFnAreas7
-- The law behind its first part: the areas of a drawn map.
namespace Go.Proofs.Ytoaclbbkllpdaaa.Q
open Go.RowKit Go.Proofs.YtoaclbbkllpdaaaW.PrintWords Go.Proofs.YtoaclbbkllpdaaaW.PrintLast Go.Proofs.YtoaclbbkllpdaaaW.PrintMore
attribute [local go_sem] max2_int min2_int max_two min_two max_three min_three max_four min_four   -- for this text's walks alone
set_option linter.unusedVariables false
set_option linter.unusedSimpArgs false
set_option maxHeartbeats 40000000 in
set_option maxRecDepth 100000 in
theorem laws_FnAreas.tail (k kj6 kj34 kq : Nat) (A0 : Option Addr) (c0 : Nat) (l0 : List Int) (r : Bool) (w wc : World) (t481 t482 : Int) (t483 : List Int) (t489 t490 : Int) (t491 : List Int) (t496 t497 : Int) (t498 : List Int) (gb488 gb495 gb502 : Nat) (Ao11 Ao16 Ao23 : Option Addr) (co11 co16 co23 : Nat) {x1 x2 x3 x4 x5 x6 x7 x8 x9 x10 x11 x12 x13 x14 x15 x16 x17 x18 x19 x20 x21 x22 x23 x24 x25 x26 x27 x28 x29 x30 x31 x32 x33 x34 x35 x36 x37 x38 x39 x40 x41 x42 x43 x44 x45 x46 x47 x48 x49 x50 x51 x52 x53 x54 x55 x56 x57 x58 x59 x60 x61 x62 x63 x64 x65 x66 x67 x68 x69 x70 x71 x72 x73 x74 x75 x76 x77 x78 x79 x80 x81 x82 x83 x84 x85 x86 x87 x88 x89 x90 x91 x92 x93 x94 x95 x96 x97 x98 x99 x100 x101 x102 x103 x104 x105 x106 x107 x108 x109 x110 x111 x112 x113 x114 x115 x116 x117 x118 x119 x120 x121 x122 x123 x124 x125 x126 x127 x128 x129 x130 x131 x132 x133 x134 x135 x136 x137 x138 x139 x140 x141 x142 x143 x144 x145 x146 x147 x148 x149 x150 x151 x152 x153 x154 x155 x156 x157 x158 x159 x160 x161 x162 x163 x164 x165 x166 x167 x168 x169 x170 x171 x172 x173 x174 x175 x176 x177 x178 x179 x180 x181 x182 x183 x184 x185 x186 x187 x188 x189 x190 x191 x192 x193 x194 x195 x196 x197 x198 x199 x200 x201 x202 x203 x204 x205 x206 x207 x208 x209 x210 x211 x212 x213 x214 x215 x216 x217 x218 x219 x220 x221 x222 x223 x224 x225 x226 x227 x228 x229 x230 x231 x232 x233 x234 x235 x236 x237 x238 x239 x240 x241 x242 x243 x244 x245 x246 x247 x248 x249 x250 x251 x252 x253 x254 x255 x256 x257 x258 x259 x260 x261 x262 x263 x264 x265 x266 x267 x268 x269 x270 x271 x272 x273 x274 x275 x276 x277 x278 x279 x280 x281 x282 x283 x284 x285 x286 x287 x288 x289 x290 x291 x292 x293 x294 x295 x296 x297 x298 : Value} (HR0 : Aside0 (Kd.C (Kd.int .u8) w A0 l0.length l0)) (HC0 : Aside0 (l0.length ≤ c0)) (GE488 : Aside0 (w.heap.size ≤ gb488)) (GE495 : Aside0 (w.heap.size ≤ gb495)) (GE502 : Aside0 (w.heap.size ≤ gb502)) (HJ6 : Aside0 (kj6 + 1 ≤ k)) (HJ34 : Aside0 (kj34 + 1 ≤ kj6)) (HA : Aside0 (laws_FnAreas.j3 kq l0 = some r)) (HJ44 : Aside0 (kq ≤ kj34)) (HO_489002 : Aside0 (Kd.R (Kd.int .i64) 3 wc w.heap.size (fun k_ => some k_ ≠ ((.slice Ao16 t491.length co16) : Value).ownBlock ∧ some k_ ≠ ((.slice Ao23 t498.length co23) : Value).ownBlock) (.slice Ao11 t483.length co11) t483)) (HO_496002 : Aside0 (Kd.R (Kd.int .i64) 3 wc w.heap.size (fun k_ => some k_ ≠ ((.slice Ao11 t483.length co11) : Value).ownBlock ∧ some k_ ≠ ((.slice Ao23 t498.length co23) : Value).ownBlock) (.slice Ao16 t491.length co16) t491)) (HO_503002 : Aside0 (Kd.R (Kd.int .i64) 3 wc w.heap.size (fun k_ => some k_ ≠ ((.slice Ao11 t483.length co11) : Value).ownBlock ∧ some k_ ≠ ((.slice Ao16 t491.length co16) : Value).ownBlock) (.slice Ao23 t498.length co23) t498)) (BK488 : Aside0 (wc.heap[gb488]? = some (.cells #[.int .i64 t481, .int .i64 t482, (.slice Ao11 t483.length co11)] 26 (0, 0)))) (BK495 : Aside0 (wc.heap[gb495]? = some (.cells #[.int .i64 t489, .int .i64 t490, (.slice Ao16 t491.length co16)] 26 (0, 0)))) (BK502 : Aside0 (wc.heap[gb502]? = some (.cells #[.int .i64 t496, .int .i64 t497, (.slice Ao23 t498.length co23)] 26 (0, 0)))) (HB : Aside0 (Below w.heap.size w wc)) :
  Code.wp Try.prog laws_FnAreas.tailC (bodyPost Try.prog Try.f3 fun e w' => e = .returned (.bool r) ∧ Below w.heap.size w w') { tmps := #[.slice A0 l0.length c0, x1, x2, x3, x4, x5, x6, x7, x8, x9, x10, x11, x12, x13, x14, x15, x16, x17, x18, x19, x20, x21, x22, x23, x24, x25, x26, x27, x28, x29, x30, x31, x32, x33, x34, x35, x36, x37, x38, x39, x40, x41, x42, x43, x44, x45, x46, x47, x48, x49, x50, x51, x52, x53, x54, x55, x56, x57, x58, x59, x60, x61, x62, x63, x64, x65, x66, x67, x68, x69, x70, x71, x72, x73, x74, x75, x76, x77, x78, x79, x80, x81, x82, x83, x84, x85, x86, x87, x88, x89, x90, x91, x92, x93, x94, x95, x96, x97, x98, x99, x100, x101, x102, x103, x104, x105, x106, x107, x108, x109, x110, x111, x112, x113, x114, x115, x116, x117, x118, x119, x120, x121, x122, x123, x124, x125, x126, x127, x128, x129, x130, x131, x132, x133, x134, x135, x136, x137, x138, x139, x140, x141, x142, x143, x144, x145, x146, x147, x148, x149, x150, x151, x152, x153, x154, x155, x156, x157, x158, x159, x160, x161, x162, x163, x164, x165, x166, x167, x168, x169, x170, x171, x172, x173, x174, x175, x176, x177, x178, x179, x180, x181, x182, x183, x184, x185, x186, x187, x188, x189, x190, x191, x192, x193, x194, x195, x196, x197, x198, x199, x200, x201, x202, x203, x204, x205, x206, x207, x208, x209, x210, x211, x212, x213, x214, x215, x216, x217, x218, x219, x220, x221, x222, x223, x224, x225, x226, x227, x228, x229, x230, x231, x232, x233, x234, x235, x236, x237, x238, x239, x240, x241, x242, x243, x244, x245, x246, x247, x248, x249, x250, x251, x252, x253, x254, x255, x256, x257, x258, x259, x260, x261, x262, x263, x264, x265, x266, x267, x268, x269, x270, x271, x272, x273, x274, x275, x276, x277, x278, x279, x280, x281, x282, x283, x284, x285, x286, x287, x288, x289, x290, x291, x292, x293, x294, x295, x296, x297, x298], defers := [] } wc := by
 have hu26 := Try.underlying26
 conv => arg 2; whnf
 cases kq with
 | zero => exact absurd HA.out (by simp [laws_FnAreas.j3])
 | succ kj44 =>
  have H := HA.out
  clear HA
  simp only [laws_FnAreas.j3] at H
  replace H := Option.bind_eq_some_iff.mp H
  obtain ⟨⟨t532, t533, t534⟩, A1180, H⟩ := H
  replace H : ((impl_AreasOf.f kj44 t532 t533 t534).bind fun bt538 => ((spec_AreasOf.f kj44 t532 t533 t534).bind fun bt542 => (if (bt538.2 != bt542.2) = true then (none) else ((laws_rInts.f kj44 bt538.1 bt542.1).bind fun t546 => (if t546 = true then ((impl_IsValidAreaMap.f kj44 t532 t533 t534).bind fun t547 => (laws_FnAreas.j4 kj44 bt538.1 bt538.2 (bt538.2 != t547) t532 t533 t534)) else (none)))))) = some r := H
  have A118 := Aside0.mk A1180
  clear A1180
  replace H := Option.bind_eq_some_iff.mp H
  obtain ⟨⟨t538, t541⟩, A1190, H⟩ := H
  replace H : ((spec_AreasOf.f kj44 t532 t533 t534).bind fun bt542 => (if (t541 != bt542.2) = true then (none) else ((laws_rInts.f kj44 t538 bt542.1).bind fun t546 => (if t546 = true then ((impl_IsValidAreaMap.f kj44 t532 t533 t534).bind fun t547 => (laws_FnAreas.j4 kj44 t538 t541 (t541 != t547) t532 t533 t534)) else (none))))) = some r := H
  have A119 := Aside0.mk A1190
  clear A1190
  replace H := Option.bind_eq_some_iff.mp H
  obtain ⟨⟨t542, t545⟩, A1200, H⟩ := H
  replace H : (if (t541 != t545) = true then (none) else ((laws_rInts.f kj44 t538 t542).bind fun t546 => (if t546 = true then ((impl_IsValidAreaMap.f kj44 t532 t533 t534).bind fun t547 => (laws_FnAreas.j4 kj44 t538 t541 (t541 != t547) t532 t533 t534)) else (none)))) = some r := H
  have A120 := Aside0.mk A1200
  clear A1200
  have HC121 := Aside0.mk H
  clear H
  go_upto_region 29 with (first | ((with_reducible refine gate_callee (f := 15) rfl ?_); refine goesL_ (some 222) rfl rfl Try.func15 (by kernel_rfl) rfl #[.slice A0 l0.length c0] rfl (by (try simp only [List.map_toArray, List.map_cons, List.map_nil]); first | done | rfl | (simp only [List.length_drop, List.length_take]; rfl)) ?_; (with_reducible refine (spec_DrawAreasOf.calls kj44 _ _ l0 t532 t533 t534 _ ?side1 ?side2 A118.out).mono ?_); (case side1 => repeat (first | exact (Kd.C_below HR0.out HB.out) | (with_reducible refine Kd.C_alloc ?_ _) | (with_reducible refine Kd.C_drewN ?_ _) | (with_reducible refine Kd.C_drew ?_))); (case side2 => exact HC0.out); rintro e w122 ⟨v535, rfl, ho0, hb⟩; refine ⟨_, rfl, ?_⟩; have HO536 := Aside0.mk (Kd.R_lower (Kd.R_new' (Kd.R_new' (Kd.R_new' ho0 (Kd.R_lt (by (with_reducible repeat (first | apply Kd.R_alloc | apply Kd.R_drewN | apply Kd.R_drew)); exact HO_489002.out))) (Kd.R_lt (by (with_reducible repeat (first | apply Kd.R_alloc | apply Kd.R_drewN | apply Kd.R_drew)); exact HO_496002.out))) (Kd.R_lt (by (with_reducible repeat (first | apply Kd.R_alloc | apply Kd.R_drewN | apply Kd.R_drew)); exact HO_503002.out))) (below_size (by repeat (first | (with_reducible first | exact HB.out | apply below_alloc | apply pw_below_drewN | apply below_drew1 | refine below_set ?_ GE488.out | refine below_set ?_ GE495.out | refine below_set ?_ GE502.out) | exact HB.out)))); replace HO_489002 := Aside0.mk (Kd.R_elder' (by (with_reducible repeat (first | apply Kd.R_alloc | apply Kd.R_drewN | apply Kd.R_drew)); exact HO_489002.out) (Kd.R_base ho0) hb); replace HO_496002 := Aside0.mk (Kd.R_elder' (by (with_reducible repeat (first | apply Kd.R_alloc | apply Kd.R_drewN | apply Kd.R_drew)); exact HO_496002.out) (Kd.R_base ho0) hb); replace HO_503002 := Aside0.mk (Kd.R_elder' (by (with_reducible repeat (first | apply Kd.R_alloc | apply Kd.R_drewN | apply Kd.R_drew)); exact HO_503002.out) (Kd.R_base ho0) hb); replace BK488 := Aside0.mk (blk_below (g := gb488) (o := .cells #[.int .i64 t481, .int .i64 t482, .slice Ao11 t483.length co11] 26 (0, 0)) (by (with_reducible repeat (first | refine blk_drewN ?_ _ | refine blk_drew ?_ | refine blk_alloc ?_ _)); exact BK488.out) hb); replace BK495 := Aside0.mk (blk_below (g := gb495) (o := .cells #[.int .i64 t489, .int .i64 t490, .slice Ao16 t491.length co16] 26 (0, 0)) (by (with_reducible repeat (first | refine blk_drewN ?_ _ | refine blk_drew ?_ | refine blk_alloc ?_ _)); exact BK495.out) hb); replace BK502 := Aside0.mk (blk_below (g := gb502) (o := .cells #[.int .i64 t496, .int .i64 t497, .slice Ao23 t498.length co23] 26 (0, 0)) (by (with_reducible repeat (first | refine blk_drewN ?_ _ | refine blk_drew ?_ | refine blk_alloc ?_ _)); exact BK502.out) hb); replace HB := Aside0.mk (below_step (by repeat (first | (with_reducible first | exact HB.out | apply below_alloc | apply pw_below_drewN | apply below_drew1 | refine below_set ?_ GE488.out | refine below_set ?_ GE495.out | refine below_set ?_ GE502.out) | exact HB.out)) hb); (try clear hb); (try clear hb2); (try clear hk); (try clear hi); (try clear ho0)) | ((with_reducible refine gate_dst (N := 32) rfl ?_); refine box_event ?hg (N := 32) ?hd (cs := #[.int .i64 0, .int .i64 0, .slice none 0 0]) (t := 26) ?hr ?_; (case hd => rfl); (case hg => rfl); (case hr => first | (go_simp; done) | (go_simp; rfl)); intro gb537 hg w123 hbox hb; replace HO_489002 := Aside0.mk (Kd.R_below (by (with_reducible repeat (first | apply Kd.R_alloc | apply Kd.R_drewN | apply Kd.R_drew)); exact HO_489002.out) hb); replace HO_496002 := Aside0.mk (Kd.R_below (by (with_reducible repeat (first | apply Kd.R_alloc | apply Kd.R_drewN | apply Kd.R_drew)); exact HO_496002.out) hb); replace HO_503002 := Aside0.mk (Kd.R_below (by (with_reducible repeat (first | apply Kd.R_alloc | apply Kd.R_drewN | apply Kd.R_drew)); exact HO_503002.out) hb); replace HO536 := Aside0.mk (Kd.R_below (by (with_reducible repeat (first | apply Kd.R_alloc | apply Kd.R_drewN | apply Kd.R_drew)); exact HO536.out) hb); have BK537 := Aside0.mk (hbox); have GW537 := Aside0.mk ((by rw [hg]; exact (below_size (by repeat (first | (with_reducible first | exact HB.out | apply below_alloc | apply pw_below_drewN | apply below_drew1 | refine below_set ?_ GE488.out | refine below_set ?_ GE495.out | refine below_set ?_ GE502.out) | exact HB.out))) : w.heap.size ≤ gb537)); have GE537 := Aside0.mk ((by rw [hg]; exact (below_size (by repeat (first | (with_reducible first | exact HB.out | apply below_alloc | apply pw_below_drewN | apply below_drew1 | refine below_set ?_ GE488.out | refine below_set ?_ GE495.out | refine below_set ?_ GE502.out) | exact HB.out))) : w.heap.size ≤ gb537)); replace HB := Aside0.mk (below_step (by repeat (first | (with_reducible first | exact HB.out | apply below_alloc | apply pw_below_drewN | apply below_drew1 | refine below_set ?_ GE488.out | refine below_set ?_ GE495.out | refine below_set ?_ GE502.out) | exact HB.out)) hb); have NB488_537 := Aside0.mk ((by rw [hg]; exact Nat.ne_of_lt (blk_lt (g := gb488) (o := .cells #[.int .i64 t481, .int .i64 t482, .slice Ao11 t483.length co11] 26 (0, 0)) (by (with_reducible repeat (first | refine blk_drewN ?_ _ | refine blk_drew ?_ | refine blk_alloc ?_ _)); exact BK488.out)) : gb488 ≠ gb537)); have NB537_488 := Aside0.mk ((by rw [hg]; exact Nat.ne_of_gt (blk_lt (g := gb488) (o := .cells #[.int .i64 t481, .int .i64 t482, .slice Ao11 t483.length co11] 26 (0, 0)) (by (with_reducible repeat (first | refine blk_drewN ?_ _ | refine blk_drew ?_ | refine blk_alloc ?_ _)); exact BK488.out)) : gb537 ≠ gb488)); replace BK488 := Aside0.mk (blk_below (g := gb488) (o := .cells #[.int .i64 t481, .int .i64 t482, .slice Ao11 t483.length co11] 26 (0, 0)) (by (with_reducible repeat (first | refine blk_drewN ?_ _ | refine blk_drew ?_ | refine blk_alloc ?_ _)); exact BK488.out) hb); have NB495_537 := Aside0.mk ((by rw [hg]; exact Nat.ne_of_lt (blk_lt (g := gb495) (o := .cells #[.int .i64 t489, .int .i64 t490, .slice Ao16 t491.length co16] 26 (0, 0)) (by (with_reducible repeat (first | refine blk_drewN ?_ _ | refine blk_drew ?_ | refine blk_alloc ?_ _)); exact BK495.out)) : gb495 ≠ gb537)); have NB537_495 := Aside0.mk ((by rw [hg]; exact Nat.ne_of_gt (blk_lt (g := gb495) (o := .cells #[.int .i64 t489, .int .i64 t490, .slice Ao16 t491.length co16] 26 (0, 0)) (by (with_reducible repeat (first | refine blk_drewN ?_ _ | refine blk_drew ?_ | refine blk_alloc ?_ _)); exact BK495.out)) : gb537 ≠ gb495)); replace BK495 := Aside0.mk (blk_below (g := gb495) (o := .cells #[.int .i64 t489, .int .i64 t490, .slice Ao16 t491.length co16] 26 (0, 0)) (by (with_reducible repeat (first | refine blk_drewN ?_ _ | refine blk_drew ?_ | refine blk_alloc ?_ _)); exact BK495.out) hb); have NB502_537 := Aside0.mk ((by rw [hg]; exact Nat.ne_of_lt (blk_lt (g := gb502) (o := .cells #[.int .i64 t496, .int .i64 t497, .slice Ao23 t498.length co23] 26 (0, 0)) (by (with_reducible repeat (first | refine blk_drewN ?_ _ | refine blk_drew ?_ | refine blk_alloc ?_ _)); exact BK502.out)) : gb502 ≠ gb537)); have NB537_502 := Aside0.mk ((by rw [hg]; exact Nat.ne_of_gt (blk_lt (g := gb502) (o := .cells #[.int .i64 t496, .int .i64 t497, .slice Ao23 t498.length co23] 26 (0, 0)) (by (with_reducible repeat (first | refine blk_drewN ?_ _ | refine blk_drew ?_ | refine blk_alloc ?_ _)); exact BK502.out)) : gb537 ≠ gb502)); replace BK502 := Aside0.mk (blk_below (g := gb502) (o := .cells #[.int .i64 t496, .int .i64 t497, .slice Ao23 t498.length co23] 26 (0, 0)) (by (with_reducible repeat (first | refine blk_drewN ?_ _ | refine blk_drew ?_ | refine blk_alloc ?_ _)); exact BK502.out) hb); clear hb hbox hg; have hnb124 := NB537_488.out; have hnc124 := NB488_537.out; have hnb125 := NB537_495.out; have hnc125 := NB495_537.out; have hnb126 := NB537_502.out; have hnc126 := NB502_537.out; have hcz127_0 : w123.cell? ⟨gb537, 0, none⟩ = some (.int .i64 0) := (blk_cell BK537.out 0).trans rfl; have hcz127_1 : w123.cell? ⟨gb537, 1, none⟩ = some (.int .i64 0) := (blk_cell BK537.out 1).trans rfl; have hcz127_2 : w123.cell? ⟨gb537, 2, none⟩ = some (.slice none 0 0) := (blk_cell BK537.out 2).trans rfl; have hfz127_0 := blk_frozen BK537.out 0; have hfz127_1 := blk_frozen BK537.out 1; have hfz127_2 := blk_frozen BK537.out 2; obtain ⟨Ao128, co128, eo128⟩ := Kd.R_slice HO536.out; subst eo128) | ((with_reducible refine gate_callee (f := 16) rfl ?_); refine goesL_ (some 225) rfl rfl Try.func16 (by kernel_rfl) rfl #[.agg #[.int .i64 t532, .int .i64 t533, .slice Ao128 t534.length co128]] rfl (by (try simp only [List.map_toArray, List.map_cons, List.map_nil]); first | done | rfl | (simp only [List.length_drop, List.length_take]; rfl)) ?_; (with_reducible refine (impl_AreasOf.calls kj44 t532 t533 _ _ t534 t538 t541 _ ?side1 ?side2 A119.out).mono ?_); (case side1 => refine (Kd.R_reads' (e := 3) (base := w.heap.size) (ok := fun k_ => (((True ∧ some k_ ≠ (.slice Ao11 t483.length co11 : Value).ownBlock) ∧ some k_ ≠ (.slice Ao16 t491.length co16 : Value).ownBlock) ∧ some k_ ≠ (.slice Ao23 t498.length co23 : Value).ownBlock)) (n := t534.length) (c := co128) ?_).2.2; exact (by (with_reducible repeat (first | apply Kd.R_alloc | apply Kd.R_drewN | apply Kd.R_drew)); exact (Kd.R_mono (Kd.R_far (p := ⟨gb537, 2, none⟩) (Kd.R_far (p := ⟨gb537, 1, none⟩) (Kd.R_far (p := ⟨gb537, 0, none⟩) (Kd.R_types HO536.out BK537.out (by decide)) (fun _ hk => hk.2) (.int .i64 t532)) (fun _ hk => hk.2) (.int .i64 t533)) (fun _ hk => hk.2) (.slice Ao128 t534.length co128)) (fun _ h_ => h_.1)))); (case side2 => exact (Kd.R_reads' HO536.out).2.1); rintro e w129 ⟨v539, rfl, ho0, hb⟩; refine ⟨_, rfl, ?_⟩; have HO540 := Aside0.mk (Kd.R_lower (Kd.R_new' (Kd.R_new' (Kd.R_new' (Kd.R_new' ho0 (Kd.R_lt (by (with_reducible repeat (first | apply Kd.R_alloc | apply Kd.R_drewN | apply Kd.R_drew)); exact (Kd.R_mono (Kd.R_far (p := ⟨gb537, 2, none⟩) (Kd.R_far (p := ⟨gb537, 1, none⟩) (Kd.R_far (p := ⟨gb537, 0, none⟩) (Kd.R_types HO_489002.out BK537.out (by decide)) (fun _ hk => hk.2) (.int .i64 t532)) (fun _ hk => hk.2) (.int .i64 t533)) (fun _ hk => hk.2) (.slice Ao128 t534.length co128)) (fun _ h_ => h_.1))))) (Kd.R_lt (by (with_reducible repeat (first | apply Kd.R_alloc | apply Kd.R_drewN | apply Kd.R_drew)); exact (Kd.R_mono (Kd.R_far (p := ⟨gb537, 2, none⟩) (Kd.R_far (p := ⟨gb537, 1, none⟩) (Kd.R_far (p := ⟨gb537, 0, none⟩) (Kd.R_types HO_496002.out BK537.out (by decide)) (fun _ hk => hk.2) (.int .i64 t532)) (fun _ hk => hk.2) (.int .i64 t533)) (fun _ hk => hk.2) (.slice Ao128 t534.length co128)) (fun _ h_ => h_.1))))) (Kd.R_lt (by (with_reducible repeat (first | apply Kd.R_alloc | apply Kd.R_drewN | apply Kd.R_drew)); exact (Kd.R_mono (Kd.R_far (p := ⟨gb537, 2, none⟩) (Kd.R_far (p := ⟨gb537, 1, none⟩) (Kd.R_far (p := ⟨gb537, 0, none⟩) (Kd.R_types HO_503002.out BK537.out (by decide)) (fun _ hk => hk.2) (.int .i64 t532)) (fun _ hk => hk.2) (.int .i64 t533)) (fun _ hk => hk.2) (.slice Ao128 t534.length co128)) (fun _ h_ => h_.1))))) (Kd.R_lt (by (with_reducible repeat (first | apply Kd.R_alloc | apply Kd.R_drewN | apply Kd.R_drew)); exact (Kd.R_mono (Kd.R_far (p := ⟨gb537, 2, none⟩) (Kd.R_far (p := ⟨gb537, 1, none⟩) (Kd.R_far (p := ⟨gb537, 0, none⟩) (Kd.R_types HO536.out BK537.out (by decide)) (fun _ hk => hk.2) (.int .i64 t532)) (fun _ hk => hk.2) (.int .i64 t533)) (fun _ hk => hk.2) (.slice Ao128 t534.length co128)) (fun _ h_ => h_.1))))) (below_size (by repeat (first | (with_reducible first | exact HB.out | apply below_alloc | apply pw_below_drewN | apply below_drew1 | refine below_set ?_ GE488.out | refine below_set ?_ GE495.out | refine below_set ?_ GE502.out | refine below_set ?_ GE537.out) | exact HB.out)))); replace HO_489002 := Aside0.mk (Kd.R_elder' (by (with_reducible repeat (first | apply Kd.R_alloc | apply Kd.R_drewN | apply Kd.R_drew)); exact (Kd.R_mono (Kd.R_far (p := ⟨gb537, 2, none⟩) (Kd.R_far (p := ⟨gb537, 1, none⟩) (Kd.R_far (p := ⟨gb537, 0, none⟩) (Kd.R_types HO_489002.out BK537.out (by decide)) (fun _ hk => hk.2) (.int .i64 t532)) (fun _ hk => hk.2) (.int .i64 t533)) (fun _ hk => hk.2) (.slice Ao128 t534.length co128)) (fun _ h_ => h_.1))) (Kd.R_base ho0) hb); replace HO_496002 := Aside0.mk (Kd.R_elder' (by (with_reducible repeat (first | apply Kd.R_alloc | apply Kd.R_drewN | apply Kd.R_drew)); exact (Kd.R_mono (Kd.R_far (p := ⟨gb537, 2, none⟩) (Kd.R_far (p := ⟨gb537, 1, none⟩) (Kd.R_far (p := ⟨gb537, 0, none⟩) (Kd.R_types HO_496002.out BK537.out (by decide)) (fun _ hk => hk.2) (.int .i64 t532)) (fun _ hk => hk.2) (.int .i64 t533)) (fun _ hk => hk.2) (.slice Ao128 t534.length co128)) (fun _ h_ => h_.1))) (Kd.R_base ho0) hb); replace HO_503002 := Aside0.mk (Kd.R_elder' (by (with_reducible repeat (first | apply Kd.R_alloc | apply Kd.R_drewN | apply Kd.R_drew)); exact (Kd.R_mono (Kd.R_far (p := ⟨gb537, 2, none⟩) (Kd.R_far (p := ⟨gb537, 1, none⟩) (Kd.R_far (p := ⟨gb537, 0, none⟩) (Kd.R_types HO_503002.out BK537.out (by decide)) (fun _ hk => hk.2) (.int .i64 t532)) (fun _ hk => hk.2) (.int .i64 t533)) (fun _ hk => hk.2) (.slice Ao128 t534.length co128)) (fun _ h_ => h_.1))) (Kd.R_base ho0) hb); replace HO536 := Aside0.mk (Kd.R_elder' (by (with_reducible repeat (first | apply Kd.R_alloc | apply Kd.R_drewN | apply Kd.R_drew)); exact (Kd.R_mono (Kd.R_far (p := ⟨gb537, 2, none⟩) (Kd.R_far (p := ⟨gb537, 1, none⟩) (Kd.R_far (p := ⟨gb537, 0, none⟩) (Kd.R_types HO536.out BK537.out (by decide)) (fun _ hk => hk.2) (.int .i64 t532)) (fun _ hk => hk.2) (.int .i64 t533)) (fun _ hk => hk.2) (.slice Ao128 t534.length co128)) (fun _ h_ => h_.1))) (Kd.R_base ho0) hb); replace BK488 := Aside0.mk (blk_below (g := gb488) (o := .cells #[.int .i64 t481, .int .i64 t482, .slice Ao11 t483.length co11] 26 (0, 0)) (by (with_reducible repeat (first | refine blk_drewN ?_ _ | refine blk_drew ?_ | refine blk_alloc ?_ _)); refine blk_far ?_ NB488_537.out _; (with_reducible repeat (first | refine blk_drewN ?_ _ | refine blk_drew ?_ | refine blk_alloc ?_ _)); refine blk_far ?_ NB488_537.out _; (with_reducible repeat (first | refine blk_drewN ?_ _ | refine blk_drew ?_ | refine blk_alloc ?_ _)); refine blk_far ?_ NB488_537.out _; (with_reducible repeat (first | refine blk_drewN ?_ _ | refine blk_drew ?_ | refine blk_alloc ?_ _)); exact BK488.out) hb); replace BK495 := Aside0.mk (blk_below (g := gb495) (o := .cells #[.int .i64 t489, .int .i64 t490, .slice Ao16 t491.length co16] 26 (0, 0)) (by (with_reducible repeat (first | refine blk_drewN ?_ _ | refine blk_drew ?_ | refine blk_alloc ?_ _)); refine blk_far ?_ NB495_537.out _; (with_reducible repeat (first | refine blk_drewN ?_ _ | refine blk_drew ?_ | refine blk_alloc ?_ _)); refine blk_far ?_ NB495_537.out _; (with_reducible repeat (first | refine blk_drewN ?_ _ | refine blk_drew ?_ | refine blk_alloc ?_ _)); refine blk_far ?_ NB495_537.out _; (with_reducible repeat (first | refine blk_drewN ?_ _ | refine blk_drew ?_ | refine blk_alloc ?_ _)); exact BK495.out) hb); replace BK502 := Aside0.mk (blk_below (g := gb502) (o := .cells #[.int .i64 t496, .int .i64 t497, .slice Ao23 t498.length co23] 26 (0, 0)) (by (with_reducible repeat (first | refine blk_drewN ?_ _ | refine blk_drew ?_ | refine blk_alloc ?_ _)); refine blk_far ?_ NB502_537.out _; (with_reducible repeat (first | refine blk_drewN ?_ _ | refine blk_drew ?_ | refine blk_alloc ?_ _)); refine blk_far ?_ NB502_537.out _; (with_reducible repeat (first | refine blk_drewN ?_ _ | refine blk_drew ?_ | refine blk_alloc ?_ _)); refine blk_far ?_ NB502_537.out _; (with_reducible repeat (first | refine blk_drewN ?_ _ | refine blk_drew ?_ | refine blk_alloc ?_ _)); exact BK502.out) hb); replace BK537 := Aside0.mk (blk_below (g := gb537) (o := .cells #[.int .i64 t532, .int .i64 t533, .slice Ao128 t534.length co128] 26 (0, 0)) (by (with_reducible repeat (first | refine blk_drewN ?_ _ | refine blk_drew ?_ | refine blk_alloc ?_ _)); refine blk_put (cs := #[.int .i64 t532, .int .i64 t533, .slice none 0 0]) ?_ 2 _ rfl; (with_reducible repeat (first | refine blk_drewN ?_ _ | refine blk_drew ?_ | refine blk_alloc ?_ _)); refine blk_put (cs := #[.int .i64 t532, .int .i64 0, .slice none 0 0]) ?_ 1 _ rfl; (with_reducible repeat (first | refine blk_drewN ?_ _ | refine blk_drew ?_ | refine blk_alloc ?_ _)); refine blk_put (cs := #[.int .i64 0, .int .i64 0, .slice none 0 0]) ?_ 0 _ rfl; (with_reducible repeat (first | refine blk_drewN ?_ _ | refine blk_drew ?_ | refine blk_alloc ?_ _)); exact BK537.out) hb); replace HB := Aside0.mk (below_step (by repeat (first | (with_reducible first | exact HB.out | apply below_alloc | apply pw_below_drewN | apply below_drew1 | refine below_set ?_ GE488.out | refine below_set ?_ GE495.out | refine below_set ?_ GE502.out | refine below_set ?_ GE537.out) | exact HB.out)) hb); (try clear hb); (try clear hb2); (try clear hk); (try clear hi); (try clear ho0); have hcz130_0 : w129.cell? ⟨gb537, 0, none⟩ = some (.int .i64 t532) := (blk_cell BK537.out 0).trans rfl; have hcz130_1 : w129.cell? ⟨gb537, 1, none⟩ = some (.int .i64 t533) := (blk_cell BK537.out 1).trans rfl; have hcz130_2 : w129.cell? ⟨gb537, 2, none⟩ = some (.slice Ao128 t534.length co128) := (blk_cell BK537.out 2).trans rfl; have hfz130_0 := blk_frozen BK537.out 0; have hfz130_1 := blk_frozen BK537.out 1; have hfz130_2 := blk_frozen BK537.out 2) | ((with_reducible refine gate_callee (f := 17) rfl ?_); refine goesL_ (some 230) rfl rfl Try.func17 (by kernel_rfl) rfl #[.agg #[.int .i64 t532, .int .i64 t533, .slice Ao128 t534.length co128]] rfl (by (try simp only [List.map_toArray, List.map_cons, List.map_nil]); first | done | rfl | (simp only [List.length_drop, List.length_take]; rfl)) ?_; (with_reducible refine (spec_AreasOf.calls kj44 t532 t533 _ _ t534 t542 t545 _ ?side1 ?side2 A120.out).mono ?_); (case side1 => repeat (first | exact (Kd.R_reads' HO536.out).2.2 | (with_reducible refine Kd.C_alloc ?_ _) | (with_reducible refine Kd.C_drewN ?_ _) | (with_reducible refine Kd.C_drew ?_))); (case side2 => exact (Kd.R_reads' HO536.out).2.1); rintro e w131 ⟨v543, rfl, ho0, hb⟩; refine ⟨_, rfl, ?_⟩; have HO544 := Aside0.mk (Kd.R_lower (Kd.R_new' (Kd.R_new' (Kd.R_new' (Kd.R_new' (Kd.R_new' ho0 (Kd.R_lt (by (with_reducible repeat (first | apply Kd.R_alloc | apply Kd.R_drewN | apply Kd.R_drew)); exact HO_489002.out))) (Kd.R_lt (by (with_reducible repeat (first | apply Kd.R_alloc | apply Kd.R_drewN | apply Kd.R_drew)); exact HO_496002.out))) (Kd.R_lt (by (with_reducible repeat (first | apply Kd.R_alloc | apply Kd.R_drewN | apply Kd.R_drew)); exact HO_503002.out))) (Kd.R_lt (by (with_reducible repeat (first | apply Kd.R_alloc | apply Kd.R_drewN | apply Kd.R_drew)); exact HO536.out))) (Kd.R_lt (by (with_reducible repeat (first | apply Kd.R_alloc | apply Kd.R_drewN | apply Kd.R_drew)); exact HO540.out))) (below_size (by repeat (first | (with_reducible first | exact HB.out | apply below_alloc | apply pw_below_drewN | apply below_drew1 | refine below_set ?_ GE488.out | refine below_set ?_ GE495.out | refine below_set ?_ GE502.out | refine below_set ?_ GE537.out) | exact HB.out)))); replace HO_489002 := Aside0.mk (Kd.R_elder' (by (with_reducible repeat (first | apply Kd.R_alloc | apply Kd.R_drewN | apply Kd.R_drew)); exact HO_489002.out) (Kd.R_base ho0) hb); replace HO_496002 := Aside0.mk (Kd.R_elder' (by (with_reducible repeat (first | apply Kd.R_alloc | apply Kd.R_drewN | apply Kd.R_drew)); exact HO_496002.out) (Kd.R_base ho0) hb); replace HO_503002 := Aside0.mk (Kd.R_elder' (by (with_reducible repeat (first | apply Kd.R_alloc | apply Kd.R_drewN | apply Kd.R_drew)); exact HO_503002.out) (Kd.R_base ho0) hb); replace HO536 := Aside0.mk (Kd.R_elder' (by (with_reducible repeat (first | apply Kd.R_alloc | apply Kd.R_drewN | apply Kd.R_drew)); exact HO536.out) (Kd.R_base ho0) hb); replace HO540 := Aside0.mk (Kd.R_elder' (by (with_reducible repeat (first | apply Kd.R_alloc | apply Kd.R_drewN | apply Kd.R_drew)); exact HO540.out) (Kd.R_base ho0) hb); replace BK488 := Aside0.mk (blk_below (g := gb488) (o := .cells #[.int .i64 t481, .int .i64 t482, .slice Ao11 t483.length co11] 26 (0, 0)) (by (with_reducible repeat (first | refine blk_drewN ?_ _ | refine blk_drew ?_ | refine blk_alloc ?_ _)); exact BK488.out) hb); replace BK495 := Aside0.mk (blk_below (g := gb495) (o := .cells #[.int .i64 t489, .int .i64 t490, .slice Ao16 t491.length co16] 26 (0, 0)) (by (with_reducible repeat (first | refine blk_drewN ?_ _ | refine blk_drew ?_ | refine blk_alloc ?_ _)); exact BK495.out) hb); replace BK502 := Aside0.mk (blk_below (g := gb502) (o := .cells #[.int .i64 t496, .int .i64 t497, .slice Ao23 t498.length co23] 26 (0, 0)) (by (with_reducible repeat (first | refine blk_drewN ?_ _ | refine blk_drew ?_ | refine blk_alloc ?_ _)); exact BK502.out) hb); replace BK537 := Aside0.mk (blk_below (g := gb537) (o := .cells #[.int .i64 t532, .int .i64 t533, .slice Ao128 t534.length co128] 26 (0, 0)) (by (with_reducible repeat (first | refine blk_drewN ?_ _ | refine blk_drew ?_ | refine blk_alloc ?_ _)); exact BK537.out) hb); replace HB := Aside0.mk (below_step (by repeat (first | (with_reducible first | exact HB.out | apply below_alloc | apply pw_below_drewN | apply below_drew1 | refine below_set ?_ GE488.out | refine below_set ?_ GE495.out | refine below_set ?_ GE502.out | refine below_set ?_ GE537.out) | exact HB.out)) hb); (try clear hb); (try clear hb2); (try clear hk); (try clear hi); (try clear ho0)))
  (try simp only [Act.put, List.setIfInBounds_toArray, List.set_cons_zero, List.set_cons_succ])
  go_cut [247] (fun v247 wc => ∃ (kq : Nat) (x247_120 : Bool), v247 = .bool x247_120 ∧ Aside0 (laws_FnAreas.j4 kq t538 t541 x247_120 t532 t533 t534 = some r) ∧ Aside0 (kq ≤ kj44) ∧ Aside0 (Kd.R (Kd.int .i64) 3 wc w.heap.size (fun k_ => some k_ ≠ ((.slice Ao11 t483.length co11) : Value).ownBlock ∧ some k_ ≠ ((.slice Ao16 t491.length co16) : Value).ownBlock ∧ some k_ ≠ ((.slice Ao23 t498.length co23) : Value).ownBlock ∧ some k_ ≠ ((.slice Ao128 t534.length co128) : Value).ownBlock) v539 t538) ∧ Aside0 (Kd.R (Kd.int .i64) 3 wc w.heap.size (fun k_ => some k_ ≠ (v539 : Value).ownBlock ∧ some k_ ≠ ((.slice Ao16 t491.length co16) : Value).ownBlock ∧ some k_ ≠ ((.slice Ao23 t498.length co23) : Value).ownBlock ∧ some k_ ≠ ((.slice Ao128 t534.length co128) : Value).ownBlock) (.slice Ao11 t483.length co11) t483) ∧ Aside0 (Kd.R (Kd.int .i64) 3 wc w.heap.size (fun k_ => some k_ ≠ (v539 : Value).ownBlock ∧ some k_ ≠ ((.slice Ao11 t483.length co11) : Value).ownBlock ∧ some k_ ≠ ((.slice Ao23 t498.length co23) : Value).ownBlock ∧ some k_ ≠ ((.slice Ao128 t534.length co128) : Value).ownBlock) (.slice Ao16 t491.length co16) t491) ∧ Aside0 (Kd.R (Kd.int .i64) 3 wc w.heap.size (fun k_ => some k_ ≠ (v539 : Value).ownBlock ∧ some k_ ≠ ((.slice Ao11 t483.length co11) : Value).ownBlock ∧ some k_ ≠ ((.slice Ao16 t491.length co16) : Value).ownBlock ∧ some k_ ≠ ((.slice Ao128 t534.length co128) : Value).ownBlock) (.slice Ao23 t498.length co23) t498) ∧ Aside0 (Kd.R (Kd.int .i64) 3 wc w.heap.size (fun k_ => some k_ ≠ (v539 : Value).ownBlock ∧ some k_ ≠ ((.slice Ao11 t483.length co11) : Value).ownBlock ∧ some k_ ≠ ((.slice Ao16 t491.length co16) : Value).ownBlock ∧ some k_ ≠ ((.slice Ao23 t498.length co23) : Value).ownBlock) (.slice Ao128 t534.length co128) t534) ∧ Aside0 (wc.heap[gb488]? = some (.cells #[.int .i64 t481, .int .i64 t482, (.slice Ao11 t483.length co11)] 26 (0, 0))) ∧ Aside0 (wc.heap[gb495]? = some (.cells #[.int .i64 t489, .int .i64 t490, (.slice Ao16 t491.length co16)] 26 (0, 0))) ∧ Aside0 (wc.heap[gb502]? = some (.cells #[.int .i64 t496, .int .i64 t497, (.slice Ao23 t498.length co23)] 26 (0, 0))) ∧ Aside0 (wc.heap[gb537]? = some (.cells #[.int .i64 t532, .int .i64 t533, (.slice Ao128 t534.length co128)] 26 (0, 0))) ∧ Aside0 (Below w.heap.size w wc))
  case first =>
   have H := HC121.out
   clear HC121
   by_cases c132 : (t541 != t545) = true
   ·
    rw [if_pos c132] at H
    exact absurd H (by simp)
   ·
    rw [if_neg c132] at H
    have c132b0 : (t541 != t545) = false := by simpa using c132
    (try (have c132b1 : decide (t541 = t545) = true := by simpa using c132))
    (try (have c132b2 : (t541 == t545) = true := by simpa using c132))
    clear c132
    (first | rw [c132b0] | (simp only [i64_w, i32_w]; rw [c132b0]) | rw [c132b1] | skip)
    replace H := Option.bind_eq_some_iff.mp H
    obtain ⟨t546, A1330, H⟩ := H
    replace H : (if t546 = true then ((impl_IsValidAreaMap.f kj44 t532 t533 t534).bind fun t547 => (laws_FnAreas.j4 kj44 t538 t541 (t541 != t547) t532 t533 t534)) else (none)) = some r := H
    have A133 := Aside0.mk A1330
    clear A1330
    by_cases c134 : t546 = true
    ·
     subst c134
     have H1 : ((impl_IsValidAreaMap.f kj44 t532 t533 t534).bind fun t547 => (laws_FnAreas.j4 kj44 t538 t541 (t541 != t547) t532 t533 t534)) = some r := by rw [if_pos rfl] at H; exact H
     clear H
     have H := H1
     clear H1
     replace H := Option.bind_eq_some_iff.mp H
     obtain ⟨t547, A1350, H⟩ := H
     replace H : (laws_FnAreas.j4 kj44 t538 t541 (t541 != t547) t532 t533 t534) = some r := H
     have A135 := Aside0.mk A1350
     clear A1350
     have H' := Aside0.mk H
     clear H
     obtain ⟨Ao136, co136, eo136⟩ := Kd.R_slice HO540.out
     subst eo136
     obtain ⟨Ao137, co137, eo137⟩ := Kd.R_slice HO544.out
     subst eo137
     go_wp2_with (first | (go_at_call 18; (with_reducible refine (laws_rInts.calls kj44 _ _ t538 _ _ t542 true _ ?side1 ?side2 ?side3 ?side4 A133.out).mono ?_); (case side1 => repeat (first | exact (Kd.R_reads' HO540.out).2.2 | (with_reducible refine Kd.C_alloc ?_ _) | (with_reducible refine Kd.C_drewN ?_ _) | (with_reducible refine Kd.C_drew ?_))); (case side2 => exact (Kd.R_reads' HO540.out).2.1); (case side3 => repeat (first | exact (Kd.R_reads' HO544.out).2.2 | (with_reducible refine Kd.C_alloc ?_ _) | (with_reducible refine Kd.C_drewN ?_ _) | (with_reducible refine Kd.C_drew ?_))); (case side4 => exact (Kd.R_reads' HO544.out).2.1); rintro e w' ⟨rfl, ⟨nd, rfl⟩⟩; have hnb138 := NB537_488.out; have hnc138 := NB488_537.out; have hnb139 := NB537_495.out; have hnc139 := NB495_537.out; have hnb140 := NB537_502.out; have hnc140 := NB502_537.out; have hcz141_0 : w131.cell? ⟨gb537, 0, none⟩ = some (.int .i64 t532) := (blk_cell BK537.out 0).trans rfl; have hcz141_1 : w131.cell? ⟨gb537, 1, none⟩ = some (.int .i64 t533) := (blk_cell BK537.out 1).trans rfl; have hcz141_2 : w131.cell? ⟨gb537, 2, none⟩ = some (.slice Ao128 t534.length co128) := (blk_cell BK537.out 2).trans rfl; have hfz141_0 := blk_frozen BK537.out 0; have hfz141_1 := blk_frozen BK537.out 1; have hfz141_2 := blk_frozen BK537.out 2) | (go_at_call 19; (with_reducible refine (impl_IsValidAreaMap.calls kj44 t532 t533 _ _ t534 t547 _ ?side1 ?side2 A135.out).mono ?_); (case side1 => repeat (first | exact (Kd.R_reads' HO536.out).2.2 | (with_reducible refine Kd.C_alloc ?_ _) | (with_reducible refine Kd.C_drewN ?_ _) | (with_reducible refine Kd.C_drew ?_))); (case side2 => exact (Kd.R_reads' HO536.out).2.1); rintro e w142 ⟨rfl, hb⟩; replace HO_489002 := Aside0.mk (Kd.R_below (by (with_reducible repeat (first | apply Kd.R_alloc | apply Kd.R_drewN | apply Kd.R_drew)); exact HO_489002.out) hb); replace HO_496002 := Aside0.mk (Kd.R_below (by (with_reducible repeat (first | apply Kd.R_alloc | apply Kd.R_drewN | apply Kd.R_drew)); exact HO_496002.out) hb); replace HO_503002 := Aside0.mk (Kd.R_below (by (with_reducible repeat (first | apply Kd.R_alloc | apply Kd.R_drewN | apply Kd.R_drew)); exact HO_503002.out) hb); replace HO536 := Aside0.mk (Kd.R_below (by (with_reducible repeat (first | apply Kd.R_alloc | apply Kd.R_drewN | apply Kd.R_drew)); exact HO536.out) hb); replace HO540 := Aside0.mk (Kd.R_below (by (with_reducible repeat (first | apply Kd.R_alloc | apply Kd.R_drewN | apply Kd.R_drew)); exact HO540.out) hb); replace HO544 := Aside0.mk (Kd.R_below (by (with_reducible repeat (first | apply Kd.R_alloc | apply Kd.R_drewN | apply Kd.R_drew)); exact HO544.out) hb); replace BK488 := Aside0.mk (blk_below (g := gb488) (o := .cells #[.int .i64 t481, .int .i64 t482, .slice Ao11 t483.length co11] 26 (0, 0)) (by (with_reducible repeat (first | refine blk_drewN ?_ _ | refine blk_drew ?_ | refine blk_alloc ?_ _)); exact BK488.out) hb); replace BK495 := Aside0.mk (blk_below (g := gb495) (o := .cells #[.int .i64 t489, .int .i64 t490, .slice Ao16 t491.length co16] 26 (0, 0)) (by (with_reducible repeat (first | refine blk_drewN ?_ _ | refine blk_drew ?_ | refine blk_alloc ?_ _)); exact BK495.out) hb); replace BK502 := Aside0.mk (blk_below (g := gb502) (o := .cells #[.int .i64 t496, .int .i64 t497, .slice Ao23 t498.length co23] 26 (0, 0)) (by (with_reducible repeat (first | refine blk_drewN ?_ _ | refine blk_drew ?_ | refine blk_alloc ?_ _)); exact BK502.out) hb); replace BK537 := Aside0.mk (blk_below (g := gb537) (o := .cells #[.int .i64 t532, .int .i64 t533, .slice Ao128 t534.length co128] 26 (0, 0)) (by (with_reducible repeat (first | refine blk_drewN ?_ _ | refine blk_drew ?_ | refine blk_alloc ?_ _)); exact BK537.out) hb); replace HB := Aside0.mk (below_step (by repeat (first | (with_reducible first | exact HB.out | apply below_alloc | apply pw_below_drewN | apply below_drew1 | refine below_set ?_ GE488.out | refine below_set ?_ GE495.out | refine below_set ?_ GE502.out | refine below_set ?_ GE537.out) | exact HB.out)) hb); (try clear hb); (try clear hb2); (try clear hk); (try clear hi)))
     go_meet
     case rel => exact ⟨_, ((t541 != t547)), (by first | rfl | (simp; done) | (simp [*]; done)), H', ⟨by have := HJ6.out; have := HJ34.out; have := HJ44.out; first | omega | exact Nat.le_refl _⟩, ⟨by (with_reducible repeat (first | apply Kd.R_alloc | apply Kd.R_drewN | apply Kd.R_drew)); exact Kd.R_mono HO540.out (fun _ hk => ⟨hk.1.1.1.1.2, ⟨hk.1.1.1.2, ⟨hk.1.1.2, hk.1.2⟩⟩⟩)⟩, ⟨by (with_reducible repeat (first | apply Kd.R_alloc | apply Kd.R_drewN | apply Kd.R_drew)); exact Kd.R_mono HO_489002.out (fun _ hk => ⟨hk.1.2, ⟨hk.1.1.1.1, ⟨hk.1.1.1.2, hk.1.1.2⟩⟩⟩)⟩, ⟨by (with_reducible repeat (first | apply Kd.R_alloc | apply Kd.R_drewN | apply Kd.R_drew)); exact Kd.R_mono HO_496002.out (fun _ hk => ⟨hk.1.2, ⟨hk.1.1.1.1, ⟨hk.1.1.1.2, hk.1.1.2⟩⟩⟩)⟩, ⟨by (with_reducible repeat (first | apply Kd.R_alloc | apply Kd.R_drewN | apply Kd.R_drew)); exact Kd.R_mono HO_503002.out (fun _ hk => ⟨hk.1.2, ⟨hk.1.1.1.1, ⟨hk.1.1.1.2, hk.1.1.2⟩⟩⟩)⟩, ⟨by (with_reducible repeat (first | apply Kd.R_alloc | apply Kd.R_drewN | apply Kd.R_drew)); exact Kd.R_mono HO536.out (fun _ hk => ⟨hk.1.2, ⟨hk.1.1.1.1.2, ⟨hk.1.1.1.2, hk.1.1.2⟩⟩⟩)⟩, ⟨by (with_reducible repeat (first | refine blk_drewN ?_ _ | refine blk_drew ?_ | refine blk_alloc ?_ _)); exact BK488.out⟩, ⟨by (with_reducible repeat (first | refine blk_drewN ?_ _ | refine blk_drew ?_ | refine blk_alloc ?_ _)); exact BK495.out⟩, ⟨by (with_reducible repeat (first | refine blk_drewN ?_ _ | refine blk_drew ?_ | refine blk_alloc ?_ _)); exact BK502.out⟩, ⟨by (with_reducible repeat (first | refine blk_drewN ?_ _ | refine blk_drew ?_ | refine blk_alloc ?_ _)); exact BK537.out⟩, ⟨by repeat (first | (with_reducible first | exact HB.out | apply below_alloc | apply pw_below_drewN | apply below_drew1 | refine below_set ?_ GE488.out | refine below_set ?_ GE495.out | refine below_set ?_ GE502.out | refine below_set ?_ GE537.out) | exact HB.out)⟩⟩
    ·
     replace c134 := Bool.eq_false_iff.mpr c134
     subst c134
     have H1 : (none) = some r := by rw [if_neg (show ¬ (false = true) by decide)] at H; exact H
     clear H
     have H := H1
     clear H1
     exact absurd H (by simp)
  case rest =>
   clear HC121
   try clear c1
   try clear c2
   try clear p2
   try clear c3
   try clear c4
   try clear c5
   try clear c6
   try clear p6
   try clear c7
   try clear c8
   try clear c9
   try clear c10
   try clear c11
   try clear c12
   try clear c13
   try clear c14
   try clear c15
   try clear c16
   try clear c17
   try clear c20
   try clear c21
   try clear c24
   try clear c24b0
   try clear c24b1
   try clear c24b2
   try clear c26
   try clear c27
   try clear c29
   try clear c32
   try clear c36
   try clear c37
   try clear c42
   try clear c42b0
   try clear c42b1
   try clear c43
   try clear c43b0
   try clear c43b1
   try clear c43b2
   try clear c44
   try clear c46
   try clear c54
   try clear c55
   try clear c60
   try clear p64
   try clear c69
   try clear c70
   try clear c71
   try clear c72
   try clear c73
   try clear c74
   try clear c75
   try clear c75b0
   try clear c75b1
   try clear c77
   try clear c77b0
   try clear c77b1
   try clear c77b2
   try clear c81
   try clear c85
   try clear c86
   try clear c87
   try clear c88
   try clear c89
   try clear c90
   try clear c90b0
   try clear c90b1
   try clear c90b2
   try clear c91
   try clear c92
   try clear c97
   try clear c100
   try clear c101
   try clear c106
   try clear c109
   try clear c110
   try clear c115
   try clear c124
   try clear c125
   try clear c126
   try clear c132
   try clear c132b0
   try clear c132b1
   try clear c132b2
   try clear c134
   try clear c138
   try clear c139
   try clear c140
   try clear hcz102_0
   try clear hcz102_1
   try clear hcz102_2
   try clear hcz104_0
   try clear hcz104_1
   try clear hcz104_2
   try clear hcz107_0
   try clear hcz107_1
   try clear hcz107_2
   try clear hcz10_0
   try clear hcz10_1
   try clear hcz10_2
   try clear hcz111_0
   try clear hcz111_1
   try clear hcz111_2
   try clear hcz113_0
   try clear hcz113_1
   try clear hcz113_2
   try clear hcz116_0
   try clear hcz116_1
   try clear hcz116_2
   try clear hcz127_0
   try clear hcz127_1
   try clear hcz127_2
   try clear hcz130_0
   try clear hcz130_1
   try clear hcz130_2
   try clear hcz141_0
   try clear hcz141_1
   try clear hcz141_2
   try clear hcz15_0
   try clear hcz15_1
   try clear hcz15_2
   try clear hcz17_0
   try clear hcz17_1
   try clear hcz17_2
   try clear hcz22_0
   try clear hcz22_1
   try clear hcz22_2
   try clear hcz28_0
   try clear hcz28_1
   try clear hcz28_2
   try clear hcz30_0
   try clear hcz30_1
   try clear hcz30_2
   try clear hcz38_0
   try clear hcz38_1
   try clear hcz38_2
   try clear hcz40_0
   try clear hcz40_1
   try clear hcz40_2
   try clear hcz56_0
   try clear hcz56_1
   try clear hcz56_2
   try clear hcz58_0
   try clear hcz58_1
   try clear hcz58_2
   try clear hcz61_0
   try clear hcz61_1
   try clear hcz61_2
   try clear hcz63_0
   try clear hcz63_1
   try clear hcz63_2
   try clear hcz65_0
   try clear hcz65_1
   try clear hcz65_2
   try clear hcz67_0
   try clear hcz67_1
   try clear hcz67_2
   try clear hcz93_0
   try clear hcz93_1
   try clear hcz93_2
   try clear hcz95_0
   try clear hcz95_1
   try clear hcz95_2
   try clear hcz98_0
   try clear hcz98_1
   try clear hcz98_2
   try clear hfz102_0
   try clear hfz102_1
   try clear hfz102_2
   try clear hfz104_0
   try clear hfz104_1
   try clear hfz104_2
   try clear hfz107_0
   try clear hfz107_1
   try clear hfz107_2
   try clear hfz10_0
   try clear hfz10_1
   try clear hfz10_2
   try clear hfz111_0
   try clear hfz111_1
   try clear hfz111_2
   try clear hfz113_0
   try clear hfz113_1
   try clear hfz113_2
   try clear hfz116_0
   try clear hfz116_1
   try clear hfz116_2
   try clear hfz127_0
   try clear hfz127_1
   try clear hfz127_2
   try clear hfz130_0
   try clear hfz130_1
   try clear hfz130_2
   try clear hfz141_0
   try clear hfz141_1
   try clear hfz141_2
   try clear hfz15_0
   try clear hfz15_1
   try clear hfz15_2
   try clear hfz17_0
   try clear hfz17_1
   try clear hfz17_2
   try clear hfz22_0
   try clear hfz22_1
   try clear hfz22_2
   try clear hfz28_0
   try clear hfz28_1
   try clear hfz28_2
   try clear hfz30_0
   try clear hfz30_1
   try clear hfz30_2
   try clear hfz38_0
   try clear hfz38_1
   try clear hfz38_2
   try clear hfz40_0
   try clear hfz40_1
   try clear hfz40_2
   try clear hfz56_0
   try clear hfz56_1
   try clear hfz56_2
   try clear hfz58_0
   try clear hfz58_1
   try clear hfz58_2
   try clear hfz61_0
   try clear hfz61_1
   try clear hfz61_2
   try clear hfz63_0
   try clear hfz63_1
   try clear hfz63_2
   try clear hfz65_0
   try clear hfz65_1
   try clear hfz65_2
   try clear hfz67_0
   try clear hfz67_1
   try clear hfz67_2
   try clear hfz93_0
   try clear hfz93_1
   try clear hfz93_2
   try clear hfz95_0
   try clear hfz95_1
   try clear hfz95_2
   try clear hfz98_0
   try clear hfz98_1
   try clear hfz98_2
   try clear p2
   try clear p6
   try clear p64
   obtain ⟨kq, x247_120, rfl, HA, HJ120, HO_33, HO_489002, HO_496002, HO_503002, HO_538002, BK488, BK495, BK502, BK537, HB⟩ := hcut
   cases kq with
   | zero => exact absurd HA.out (by simp [laws_FnAreas.j4])
   | succ kj120 =>
    have H := HA.out
    clear HA
    simp only [laws_FnAreas.j4] at H
    by_cases c143 : x247_120 = true
    ·
     subst c143
     have H1 : (none) = some r := by rw [if_pos rfl] at H; exact H
     clear H
     have H := H1
     clear H1
     exact absurd H (by simp)
    ·
     replace c143 := Bool.eq_false_iff.mpr c143
     subst c143
     have H1 : (laws_FnAreas.l0 kj120 t538 t541 0 0 t532 t533 t534) = some r := by rw [if_neg (show ¬ (false = true) by decide)] at H; exact H
     clear H
     have H := H1
     clear H1
     have H' := Aside0.mk H
     clear H
     go_wp2
     go_loopg [37, 38] kj120 (fun kq v37 v38 w' => ∃ (x37_5 : Int) (x38_5 : Int), v37 = .int .i64 x37_5 ∧ v38 = .int .i64 x38_5 ∧ Aside0 (laws_FnAreas.l0 kq t538 t541 x37_5 x38_5 t532 t533 t534 = some r) ∧ Aside0 (kq ≤ kj120) ∧ Aside0 (Kd.R (Kd.int .i64) 3 w' w.heap.size (fun k_ => some k_ ≠ ((.slice Ao11 t483.length co11) : Value).ownBlock ∧ some k_ ≠ ((.slice Ao16 t491.length co16) : Value).ownBlock ∧ some k_ ≠ ((.slice Ao23 t498.length co23) : Value).ownBlock ∧ some k_ ≠ ((.slice Ao128 t534.length co128) : Value).ownBlock) v539 t538) ∧ Aside0 (Kd.R (Kd.int .i64) 3 w' w.heap.size (fun k_ => some k_ ≠ (v539 : Value).ownBlock ∧ some k_ ≠ ((.slice Ao16 t491.length co16) : Value).ownBlock ∧ some k_ ≠ ((.slice Ao23 t498.length co23) : Value).ownBlock ∧ some k_ ≠ ((.slice Ao128 t534.length co128) : Value).ownBlock) (.slice Ao11 t483.length co11) t483) ∧ Aside0 (Kd.R (Kd.int .i64) 3 w' w.heap.size (fun k_ => some k_ ≠ (v539 : Value).ownBlock ∧ some k_ ≠ ((.slice Ao11 t483.length co11) : Value).ownBlock ∧ some k_ ≠ ((.slice Ao23 t498.length co23) : Value).ownBlock ∧ some k_ ≠ ((.slice Ao128 t534.length co128) : Value).ownBlock) (.slice Ao16 t491.length co16) t491) ∧ Aside0 (Kd.R (Kd.int .i64) 3 w' w.heap.size (fun k_ => some k_ ≠ (v539 : Value).ownBlock ∧ some k_ ≠ ((.slice Ao11 t483.length co11) : Value).ownBlock ∧ some k_ ≠ ((.slice Ao16 t491.length co16) : Value).ownBlock ∧ some k_ ≠ ((.slice Ao128 t534.length co128) : Value).ownBlock) (.slice Ao23 t498.length co23) t498) ∧ Aside0 (Kd.R (Kd.int .i64) 3 w' w.heap.size (fun k_ => some k_ ≠ (v539 : Value).ownBlock ∧ some k_ ≠ ((.slice Ao11 t483.length co11) : Value).ownBlock ∧ some k_ ≠ ((.slice Ao16 t491.length co16) : Value).ownBlock ∧ some k_ ≠ ((.slice Ao23 t498.length co23) : Value).ownBlock) (.slice Ao128 t534.length co128) t534) ∧ Aside0 (w'.heap[gb488]? = some (.cells #[.int .i64 t481, .int .i64 t482, (.slice Ao11 t483.length co11)] 26 (0, 0))) ∧ Aside0 (w'.heap[gb495]? = some (.cells #[.int .i64 t489, .int .i64 t490, (.slice Ao16 t491.length co16)] 26 (0, 0))) ∧ Aside0 (w'.heap[gb502]? = some (.cells #[.int .i64 t496, .int .i64 t497, (.slice Ao23 t498.length co23)] 26 (0, 0))) ∧ Aside0 (w'.heap[gb537]? = some (.cells #[.int .i64 t532, .int .i64 t533, (.slice Ao128 t534.length co128)] 26 (0, 0))) ∧ Aside0 (Below w.heap.size w w'))
     case atStart => exact ⟨(0), (0), (by first | rfl | (simp; done) | (simp [*]; done)), (by first | rfl | (simp; done) | (simp [*]; done)), H', ⟨Nat.le_refl _⟩, ⟨by (with_reducible repeat (first | apply Kd.R_alloc | apply Kd.R_drewN | apply Kd.R_drew)); exact HO_33.out⟩, ⟨by (with_reducible repeat (first | apply Kd.R_alloc | apply Kd.R_drewN | apply Kd.R_drew)); exact HO_489002.out⟩, ⟨by (with_reducible repeat (first | apply Kd.R_alloc | apply Kd.R_drewN | apply Kd.R_drew)); exact HO_496002.out⟩, ⟨by (with_reducible repeat (first | apply Kd.R_alloc | apply Kd.R_drewN | apply Kd.R_drew)); exact HO_503002.out⟩, ⟨by (with_reducible repeat (first | apply Kd.R_alloc | apply Kd.R_drewN | apply Kd.R_drew)); exact HO_538002.out⟩, ⟨by (with_reducible repeat (first | refine blk_drewN ?_ _ | refine blk_drew ?_ | refine blk_alloc ?_ _)); exact BK488.out⟩, ⟨by (with_reducible repeat (first | refine blk_drewN ?_ _ | refine blk_drew ?_ | refine blk_alloc ?_ _)); exact BK495.out⟩, ⟨by (with_reducible repeat (first | refine blk_drewN ?_ _ | refine blk_drew ?_ | refine blk_alloc ?_ _)); exact BK502.out⟩, ⟨by (with_reducible repeat (first | refine blk_drewN ?_ _ | refine blk_drew ?_ | refine blk_alloc ?_ _)); exact BK537.out⟩, ⟨by repeat (first | (with_reducible first | exact HB.out | apply below_alloc | apply pw_below_drewN | apply below_drew1 | refine below_set ?_ GE488.out | refine below_set ?_ GE495.out | refine below_set ?_ GE502.out | refine below_set ?_ GE537.out) | exact HB.out)⟩⟩
     case round =>
      clear H'
      try clear c1
      try clear c2
      try clear p2
      try clear c3
      try clear c4
      try clear c5
      try clear c6
      try clear p6
      try clear c7
      try clear c8
      try clear c9
      try clear c10
      try clear c11
      try clear c12
      try clear c13
      try clear c14
      try clear c15
      try clear c16
      try clear c17
      try clear c20
      try clear c21
      try clear c24
      try clear c24b0
      try clear c24b1
      try clear c24b2
      try clear c26
      try clear c27
      try clear c29
      try clear c32
      try clear c36
      try clear c37
      try clear c42
      try clear c42b0
      try clear c42b1
      try clear c43
      try clear c43b0
      try clear c43b1
      try clear c43b2
      try clear c44
      try clear c46
      try clear c54
      try clear c55
      try clear c60
      try clear p64
      try clear c69
      try clear c70
      try clear c71
      try clear c72
      try clear c73
      try clear c74
      try clear c75
      try clear c75b0
      try clear c75b1
      try clear c77
      try clear c77b0
      try clear c77b1
      try clear c77b2
      try clear c81
      try clear c85
      try clear c86
      try clear c87
      try clear c88
      try clear c89
      try clear c90
      try clear c90b0
      try clear c90b1
      try clear c90b2
      try clear c91
      try clear c92
      try clear c97
      try clear c100
      try clear c101
      try clear c106
      try clear c109
      try clear c110
      try clear c115
      try clear c124
      try clear c125
      try clear c126
      try clear c132
      try clear c132b0
      try clear c132b1
      try clear c132b2
      try clear c134
      try clear c138
      try clear c139
      try clear c140
      try clear c143
      try clear hcz102_0
      try clear hcz102_1
      try clear hcz102_2
      try clear hcz104_0
      try clear hcz104_1
      try clear hcz104_2
      try clear hcz107_0
      try clear hcz107_1
      try clear hcz107_2
      try clear hcz10_0
      try clear hcz10_1
      try clear hcz10_2
      try clear hcz111_0
      try clear hcz111_1
      try clear hcz111_2
      try clear hcz113_0
      try clear hcz113_1
      try clear hcz113_2
      try clear hcz116_0
      try clear hcz116_1
      try clear hcz116_2
      try clear hcz127_0
      try clear hcz127_1
      try clear hcz127_2
      try clear hcz130_0
      try clear hcz130_1
      try clear hcz130_2
      try clear hcz141_0
      try clear hcz141_1
      try clear hcz141_2
      try clear hcz15_0
      try clear hcz15_1
      try clear hcz15_2
      try clear hcz17_0
      try clear hcz17_1
      try clear hcz17_2
      try clear hcz22_0
      try clear hcz22_1
      try clear hcz22_2
      try clear hcz28_0
      try clear hcz28_1
      try clear hcz28_2
      try clear hcz30_0
      try clear hcz30_1
      try clear hcz30_2
      try clear hcz38_0
      try clear hcz38_1
      try clear hcz38_2
      try clear hcz40_0
      try clear hcz40_1
      try clear hcz40_2
      try clear hcz56_0
      try clear hcz56_1
      try clear hcz56_2
      try clear hcz58_0
      try clear hcz58_1
      try clear hcz58_2
      try clear hcz61_0
      try clear hcz61_1
      try clear hcz61_2
      try clear hcz63_0
      try clear hcz63_1
      try clear hcz63_2
      try clear hcz65_0
      try clear hcz65_1
      try clear hcz65_2
      try clear hcz67_0
      try clear hcz67_1
      try clear hcz67_2
      try clear hcz93_0
      try clear hcz93_1
      try clear hcz93_2
      try clear hcz95_0
      try clear hcz95_1
      try clear hcz95_2
      try clear hcz98_0
      try clear hcz98_1
      try clear hcz98_2
      try clear hfz102_0
      try clear hfz102_1
      try clear hfz102_2
      try clear hfz104_0
      try clear hfz104_1
      try clear hfz104_2
      try clear hfz107_0
      try clear hfz107_1
      try clear hfz107_2
      try clear hfz10_0
      try clear hfz10_1
      try clear hfz10_2
      try clear hfz111_0
      try clear hfz111_1
      try clear hfz111_2
      try clear hfz113_0
      try clear hfz113_1
      try clear hfz113_2
      try clear hfz116_0
      try clear hfz116_1
      try clear hfz116_2
      try clear hfz127_0
      try clear hfz127_1
      try clear hfz127_2
      try clear hfz130_0
      try clear hfz130_1
      try clear hfz130_2
      try clear hfz141_0
      try clear hfz141_1
      try clear hfz141_2
      try clear hfz15_0
      try clear hfz15_1
      try clear hfz15_2
      try clear hfz17_0
      try clear hfz17_1
      try clear hfz17_2
      try clear hfz22_0
      try clear hfz22_1
      try clear hfz22_2
      try clear hfz28_0
      try clear hfz28_1
      try clear hfz28_2
      try clear hfz30_0
      try clear hfz30_1
      try clear hfz30_2
      try clear hfz38_0
      try clear hfz38_1
      try clear hfz38_2
      try clear hfz40_0
      try clear hfz40_1
      try clear hfz40_2
      try clear hfz56_0
      try clear hfz56_1
      try clear hfz56_2
      try clear hfz58_0
      try clear hfz58_1
      try clear hfz58_2
      try clear hfz61_0
      try clear hfz61_1
      try clear hfz61_2
      try clear hfz63_0
      try clear hfz63_1
      try clear hfz63_2
      try clear hfz65_0
      try clear hfz65_1
      try clear hfz65_2
      try clear hfz67_0
      try clear hfz67_1
      try clear hfz67_2
      try clear hfz93_0
      try clear hfz93_1
      try clear hfz93_2
      try clear hfz95_0
      try clear hfz95_1
      try clear hfz95_2
      try clear hfz98_0
      try clear hfz98_1
      try clear hfz98_2
      try clear p2
      try clear p6
      try clear p64
      obtain ⟨x37_5, x38_5, rfl, rfl, HA, HK5, HO_33, HO_489002, HO_496002, HO_503002, HO_538002, BK488, BK495, BK502, BK537, HB⟩ := hrel
      cases gk with
      | zero => exact absurd HA.out (by simp [laws_FnAreas.l0])
      | succ k5 =>
       have H := HA.out
       clear HA
       simp only [laws_FnAreas.l0] at H
       by_cases c144 : x38_5 < (t538.length : Int)
       ·
        rw [if_pos c144] at H
        have c144b0 : decide (x38_5 < (t538.length : Int)) = true := decide_eq_true c144
        clear c144
        by_cases c145 : 0 ≤ x38_5
        ·
         rw [if_pos c145] at H
         have c145b0 : decide (0 ≤ x38_5) = true := decide_eq_true c145
         clear c145
         replace H := Option.bind_eq_some_iff.mp H
         obtain ⟨⟨t549, t550⟩, A1460, H⟩ := H
         replace H : (if t550 = true then (if t549 < 1 then (none) else (laws_FnAreas.l0 k5 t538 t541 (wrap64 (x37_5 + t549)) (wrap64 (x38_5 + 1)) t532 t533 t534)) else (none)) = some r := H
         have A146 := Aside0.mk A1460
         clear A1460
         by_cases c147 : t550 = true
         ·
          subst c147
          have H1 : (if t549 < 1 then (none) else (laws_FnAreas.l0 k5 t538 t541 (wrap64 (x37_5 + t549)) (wrap64 (x38_5 + 1)) t532 t533 t534)) = some r := by rw [if_pos rfl] at H; exact H
          clear H
          have H := H1
          clear H1
          by_cases c148 : t549 < 1
          ·
           rw [if_pos c148] at H
           exact absurd H (by simp)
          ·
           rw [if_neg c148] at H
           have c148b0 : decide (t549 < 1) = false := decide_eq_false c148
           clear c148
           have H' := Aside0.mk H
           clear H
           obtain ⟨Ao149, co149, eo149⟩ := Kd.R_slice HO_33.out
           subst eo149
           try go_wp2
           have n0_ := Aside0.mk (Kd.R_drew HO_33.out)
           have n1_ := Aside0.mk (Kd.R_drew HO_489002.out)
           have n2_ := Aside0.mk (Kd.R_drew HO_496002.out)
           have n3_ := Aside0.mk (Kd.R_drew HO_503002.out)
           have n4_ := Aside0.mk (Kd.R_drew HO_538002.out)
           have n5_ := Aside0.mk (blk_drew BK488.out)
           have n6_ := Aside0.mk (blk_drew BK495.out)
           have n7_ := Aside0.mk (blk_drew BK502.out)
           have n8_ := Aside0.mk (blk_drew BK537.out)
           have n9_ := Aside0.mk (below_drew1 HB.out)
           clear HO_33
           clear HO_489002
           clear HO_496002
           clear HO_503002
           clear HO_538002
           clear BK488
           clear BK495
           clear BK502
           clear BK537
           clear HB
           have HO_33 := n0_
           have HO_489002 := n1_
           have HO_496002 := n2_
           have HO_503002 := n3_
           have HO_538002 := n4_
           have BK488 := n5_
           have BK495 := n6_
           have BK502 := n7_
           have BK537 := n8_
           have HB := n9_
           clear n0_ n1_ n2_ n3_ n4_ n5_ n6_ n7_ n8_ n9_
           have p548 : 0 ≤ (x38_5 : Int) := of_decide_eq_true (by first | (with_reducible assumption) | assumption)
           have q548 : x38_5 < (t538.length : Int) := of_decide_eq_true (by first | (with_reducible assumption) | assumption)
           obtain ⟨ad548, e548, hx548_0⟩ := Kd.at_int (Kd.R_reads' HO_33.out).2.2 x38_5 p548 q548
           cases e548
           replace p548 := eq_true p548
           replace q548 := eq_true q548
           refine start_ (n := 11) (S := fun w' => w'.cell? ⟨gb537, 0, none⟩ = some (.int .i64 t532) ∧ w'.cell? ⟨gb537, 1, none⟩ = some (.int .i64 t533) ∧ w'.cell? ⟨gb537, 2, none⟩ = some (.slice Ao128 t534.length co128) ∧ w'.cell? (ad548.add (x38_5).toNat) = some (.int .i64 (rd t538 x38_5))) (ds := []) #[false, false, false, false, false, false, false, false, false, false, false] (by kernel_rfl) rfl rfl ⟨(blk_cell BK537.out 0).trans rfl, (blk_cell BK537.out 1).trans rfl, (blk_cell BK537.out 2).trans rfl, hx548_0⟩ (fun hHeld => ?_); refine with_tabW laws_FnAreas.tab35 laws_FnAreas.bits35 (fun HT_ HW_ => ?_)
           generalize wr.drew = w150 at HO_33 HO_489002 HO_496002 HO_503002 HO_538002 BK488 BK495 BK502 BK537 HB hx548_0 hHeld ⊢
           refine pure_ (i := 1) (N := some 256) (v := ?_) (a' := ?_) #[false, true, false, false, false, false, false, false, false, false, false] rfl rfl (any_of HT_.out (by kernel_rfl)) (fun _ _ _ h => h) (Or.inl ⟨by rfl, ?_⟩) ?_ ?_
           rotate_left
           ·
            intro w'
            go_simp
            with_reducible rfl
           rotate_left
           ·
            simp only [Act.put, List.setIfInBounds_toArray, List.set_cons_zero, List.set_cons_succ, i64_w, i32_w]
            rfl
           refine pure_ (i := 2) (N := some 257) (v := ?_) (a' := ?_) #[false, true, true, false, false, false, false, false, false, false, false] rfl rfl (any_of HT_.out (by kernel_rfl)) (fun _ _ _ h => h) (Or.inl ⟨by rfl, ?_⟩) ?_ ?_
           rotate_left
           ·
            intro w'
            go_simp
            with_reducible rfl
           rotate_left
           ·
            simp only [Act.put, List.setIfInBounds_toArray, List.set_cons_zero, List.set_cons_succ, i64_w, i32_w]
            rfl
           refine pure_ (i := 3) (N := some 258) (v := ?_) (a' := ?_) #[false, true, true, true, false, false, false, false, false, false, false] rfl rfl (any_of HT_.out (by kernel_rfl)) (fun _ _ _ h => h) (Or.inl ⟨by rfl, ?_⟩) ?_ ?_
           rotate_left
           ·
            intro w'
            go_simp
            with_reducible rfl
           rotate_left
           ·
            simp only [Act.put, List.setIfInBounds_toArray, List.set_cons_zero, List.set_cons_succ, i64_w, i32_w]
            rfl
           refine take_ (i := 0) (N := some 255) (v := ?_) (a' := ?_) #[true, true, true, true, false, false, false, false, false, false, false] rfl rfl (take_ofW HT_.out HW_.out (by kernel_rfl)) (fun _ _ _ h => h) (Or.inl ⟨by rfl, ?_⟩) hHeld ?_ ?_
           rotate_left
           ·
            rintro w' ⟨s0, s1, s2, s3⟩
            go_simp
            with_reducible rfl
           rotate_left
           ·
            simp only [Act.put, List.setIfInBounds_toArray, List.set_cons_zero, List.set_cons_succ, i64_w, i32_w]
            rfl
           refine take_ (i := 4) (N := some 259) (v := ?_) (a' := ?_) #[true, true, true, true, true, false, false, false, false, false, false] rfl rfl (take_ofW HT_.out HW_.out (by kernel_rfl)) (fun _ _ _ h => h) (Or.inl ⟨by rfl, ?_⟩) hHeld ?_ ?_
           rotate_left
           ·
            rintro w' ⟨s0, s1, s2, s3⟩
            go_simp
            with_reducible rfl
           rotate_left
           ·
            simp only [Act.put, List.setIfInBounds_toArray, List.set_cons_zero, List.set_cons_succ, i64_w, i32_w]
            rfl
           refine one_ (i := 5) (N := some 260) #[true, true, true, true, true, true, false, false, false, false, false] rfl rfl (one_of HT_.out (by kernel_rfl)) (by decide) (fun K hK => ?_)
           refine goes_ Try.func11 (by kernel_rfl) rfl #[.agg #[.int .i64 t532, .int .i64 t533, .slice Ao128 t534.length co128], .int .i64 (rd t538 x38_5)] (by rfl) rfl rfl (by (try simp only [List.map_toArray, List.map_cons, List.map_nil]); first | done | rfl | (simp only [List.length_drop, List.length_take]; rfl)) ?_
           with_reducible refine (impl_AreaCells.calls k5 t532 t533 _ _ t534 (rd t538 x38_5) t549 true _ ?side1 ?side2 A146.out).mono ?_
           (case side1 => repeat (first | exact (Kd.R_reads' HO_538002.out).2.2 | (with_reducible refine Kd.C_alloc ?_ _) | (with_reducible refine Kd.C_drewN ?_ _) | (with_reducible refine Kd.C_drew ?_)))
           (case side2 => exact (Kd.R_reads' HO_538002.out).2.1)
           rintro e w151 ⟨rfl, hb⟩
           have HS3_ := (hb.cell (World.block_lt_of_cell? _ _ (hHeld.2.2.2))).trans (hHeld.2.2.2)
           refine ⟨_, rfl, ?_⟩
           have n0_ := Aside0.mk (Kd.R_below (by (with_reducible repeat (first | apply Kd.R_alloc | apply Kd.R_drewN | apply Kd.R_drew)); exact HO_33.out) hb)
           have n1_ := Aside0.mk (Kd.R_below (by (with_reducible repeat (first | apply Kd.R_alloc | apply Kd.R_drewN | apply Kd.R_drew)); exact HO_489002.out) hb)
           have n2_ := Aside0.mk (Kd.R_below (by (with_reducible repeat (first | apply Kd.R_alloc | apply Kd.R_drewN | apply Kd.R_drew)); exact HO_496002.out) hb)
           have n3_ := Aside0.mk (Kd.R_below (by (with_reducible repeat (first | apply Kd.R_alloc | apply Kd.R_drewN | apply Kd.R_drew)); exact HO_503002.out) hb)
           have n4_ := Aside0.mk (Kd.R_below (by (with_reducible repeat (first | apply Kd.R_alloc | apply Kd.R_drewN | apply Kd.R_drew)); exact HO_538002.out) hb)
           have n5_ := Aside0.mk (blk_below (g := gb488) (o := .cells #[.int .i64 t481, .int .i64 t482, .slice Ao11 t483.length co11] 26 (0, 0)) (by (with_reducible repeat (first | refine blk_drewN ?_ _ | refine blk_drew ?_ | refine blk_alloc ?_ _)); exact BK488.out) hb)
           have n6_ := Aside0.mk (blk_below (g := gb495) (o := .cells #[.int .i64 t489, .int .i64 t490, .slice Ao16 t491.length co16] 26 (0, 0)) (by (with_reducible repeat (first | refine blk_drewN ?_ _ | refine blk_drew ?_ | refine blk_alloc ?_ _)); exact BK495.out) hb)
           have n7_ := Aside0.mk (blk_below (g := gb502) (o := .cells #[.int .i64 t496, .int .i64 t497, .slice Ao23 t498.length co23] 26 (0, 0)) (by (with_reducible repeat (first | refine blk_drewN ?_ _ | refine blk_drew ?_ | refine blk_alloc ?_ _)); exact BK502.out) hb)
           have n8_ := Aside0.mk (blk_below (g := gb537) (o := .cells #[.int .i64 t532, .int .i64 t533, .slice Ao128 t534.length co128] 26 (0, 0)) (by (with_reducible repeat (first | refine blk_drewN ?_ _ | refine blk_drew ?_ | refine blk_alloc ?_ _)); exact BK537.out) hb)
           have n9_ := Aside0.mk (below_step (by repeat (first | (with_reducible first | exact HB.out | apply below_alloc | apply pw_below_drewN | apply below_drew1 | refine below_set ?_ GE488.out | refine below_set ?_ GE495.out | refine below_set ?_ GE502.out | refine below_set ?_ GE537.out) | exact HB.out)) hb)
           clear HO_33
           clear HO_489002
           clear HO_496002
           clear HO_503002
           clear HO_538002
           clear BK488
           clear BK495
           clear BK502
           clear BK537
           clear HB
           have HO_33 := n0_
           have HO_489002 := n1_
           have HO_496002 := n2_
           have HO_503002 := n3_
           have HO_538002 := n4_
           have BK488 := n5_
           have BK495 := n6_
           have BK502 := n7_
           have BK537 := n8_
           have HB := n9_
           clear n0_ n1_ n2_ n3_ n4_ n5_ n6_ n7_ n8_ n9_
           (try clear hb)
           (try clear hb2)
           (try clear hk)
           (try clear hi)
           refine hK.out _ _ ⟨(blk_cell BK537.out 0).trans rfl, (blk_cell BK537.out 1).trans rfl, (blk_cell BK537.out 2).trans rfl, HS3_⟩ (fun hHeld => ?_)
           clear hK K
           refine norm_ (a' := ?_) ?_ ?_
           rotate_left
           ·
            show Act.put _ (some 260) _ = _
            simp only [Act.put, List.setIfInBounds_toArray, List.set_cons_zero, List.set_cons_succ, i64_w, i32_w]
            rfl
           refine pure_ (i := 6) (N := some 254) (v := ?_) (a' := ?_) #[true, true, true, true, true, true, true, false, false, false, false] rfl rfl (any_of HT_.out (by kernel_rfl)) (fun _ _ _ h => h) (Or.inl ⟨by rfl, ?_⟩) ?_ ?_
           rotate_left
           ·
            intro w'
            go_simp
            with_reducible rfl
           rotate_left
           ·
            simp only [Act.put, List.setIfInBounds_toArray, List.set_cons_zero, List.set_cons_succ, i64_w, i32_w]
            rfl
           refine pure_ (i := 7) (N := some 261) (v := ?_) (a' := ?_) #[true, true, true, true, true, true, true, true, false, false, false] rfl rfl (any_of HT_.out (by kernel_rfl)) (fun _ _ _ h => h) (Or.inl ⟨by rfl, ?_⟩) ?_ ?_
           rotate_left
           ·
            intro w'
            go_simp
            with_reducible rfl
           rotate_left
           ·
            simp only [Act.put, List.setIfInBounds_toArray, List.set_cons_zero, List.set_cons_succ, i64_w, i32_w]
            rfl
           refine pure_ (i := 8) (N := some 262) (v := ?_) (a' := ?_) #[true, true, true, true, true, true, true, true, true, false, false] rfl rfl (any_of HT_.out (by kernel_rfl)) (fun _ _ _ h => h) (Or.inl ⟨by rfl, ?_⟩) ?_ ?_
           rotate_left
           ·
            intro w'
            go_simp
            with_reducible rfl
           rotate_left
           ·
            simp only [Act.put, List.setIfInBounds_toArray, List.set_cons_zero, List.set_cons_succ, i64_w, i32_w]
            rfl
           refine pure_ (i := 9) (N := some 39) (v := ?_) (a' := ?_) #[true, true, true, true, true, true, true, true, true, true, false] rfl rfl (any_of HT_.out (by kernel_rfl)) (fun _ _ _ h => h) (Or.inl ⟨by rfl, ?_⟩) ?_ ?_
           rotate_left
           ·
            intro w'
            go_simp
            with_reducible rfl
           rotate_left
           ·
            simp only [Act.put, List.setIfInBounds_toArray, List.set_cons_zero, List.set_cons_succ, i64_w, i32_w]
            rfl
           refine pure_ (i := 10) (N := some 40) (v := ?_) (a' := ?_) #[true, true, true, true, true, true, true, true, true, true, true] rfl rfl (any_of HT_.out (by kernel_rfl)) (fun _ _ _ h => h) (Or.inl ⟨by rfl, ?_⟩) ?_ ?_
           rotate_left
           ·
            intro w'
            go_simp
            with_reducible rfl
           rotate_left
           ·
            simp only [Act.put, List.setIfInBounds_toArray, List.set_cons_zero, List.set_cons_succ, i64_w, i32_w]
            rfl
           refine done_ (done_of HT_.out (by kernel_rfl)) ?_
           try go_wp2
           go_roundg k5
           case measure => have := HJ6.out; have := HJ34.out; have := HJ44.out; have := HJ120.out; have := HK5.out; omega
           case rel => exact ⟨(wrap64 (x37_5 + t549)), (wrap64 (x38_5 + 1)), (by first | rfl | (simp; done) | (simp [*]; done)), (by first | rfl | (simp; done) | (simp [*]; done)), H', ⟨by have := HJ6.out; have := HJ34.out; have := HJ44.out; have := HJ120.out; have := HK5.out; omega⟩, ⟨by (with_reducible repeat (first | apply Kd.R_alloc | apply Kd.R_drewN | apply Kd.R_drew)); exact HO_33.out⟩, ⟨by (with_reducible repeat (first | apply Kd.R_alloc | apply Kd.R_drewN | apply Kd.R_drew)); exact HO_489002.out⟩, ⟨by (with_reducible repeat (first | apply Kd.R_alloc | apply Kd.R_drewN | apply Kd.R_drew)); exact HO_496002.out⟩, ⟨by (with_reducible repeat (first | apply Kd.R_alloc | apply Kd.R_drewN | apply Kd.R_drew)); exact HO_503002.out⟩, ⟨by (with_reducible repeat (first | apply Kd.R_alloc | apply Kd.R_drewN | apply Kd.R_drew)); exact HO_538002.out⟩, ⟨by (with_reducible repeat (first | refine blk_drewN ?_ _ | refine blk_drew ?_ | refine blk_alloc ?_ _)); exact BK488.out⟩, ⟨by (with_reducible repeat (first | refine blk_drewN ?_ _ | refine blk_drew ?_ | refine blk_alloc ?_ _)); exact BK495.out⟩, ⟨by (with_reducible repeat (first | refine blk_drewN ?_ _ | refine blk_drew ?_ | refine blk_alloc ?_ _)); exact BK502.out⟩, ⟨by (with_reducible repeat (first | refine blk_drewN ?_ _ | refine blk_drew ?_ | refine blk_alloc ?_ _)); exact BK537.out⟩, ⟨by repeat (first | (with_reducible first | exact HB.out | apply below_alloc | apply pw_below_drewN | apply below_drew1 | refine below_set ?_ GE488.out | refine below_set ?_ GE495.out | refine below_set ?_ GE502.out | refine below_set ?_ GE537.out) | exact HB.out)⟩⟩
         ·
          replace c147 := Bool.eq_false_iff.mpr c147
          subst c147
          have H1 : (none) = some r := by rw [if_neg (show ¬ (false = true) by decide)] at H; exact H
          clear H
          have H := H1
          clear H1
          exact absurd H (by simp)
        ·
         rw [if_neg c145] at H
         exact absurd H (by simp)
       ·
        rw [if_neg c144] at H
        have c144b0 : decide (x38_5 < (t538.length : Int)) = false := decide_eq_false c144
        clear c144
        have H' := Aside0.mk H
        clear H
        obtain ⟨Ao152, co152, eo152⟩ := Kd.R_slice HO_33.out
        subst eo152
        go_wp2
        go_loopg [37, 41] k5 (fun kq v37 v41 w' => ∃ (x37_6 : Int) (x41_6 : Int), v37 = .int .i64 x37_6 ∧ v41 = .int .i64 x41_6 ∧ Aside0 (laws_FnAreas.l1 kq t541 x37_6 x41_6 t532 t533 t534 = some r) ∧ Aside0 (kq ≤ k5) ∧ Aside0 (Kd.R (Kd.int .i64) 3 w' w.heap.size (fun k_ => some k_ ≠ ((.slice Ao16 t491.length co16) : Value).ownBlock ∧ some k_ ≠ ((.slice Ao23 t498.length co23) : Value).ownBlock ∧ some k_ ≠ ((.slice Ao128 t534.length co128) : Value).ownBlock) (.slice Ao11 t483.length co11) t483) ∧ Aside0 (Kd.R (Kd.int .i64) 3 w' w.heap.size (fun k_ => some k_ ≠ ((.slice Ao11 t483.length co11) : Value).ownBlock ∧ some k_ ≠ ((.slice Ao23 t498.length co23) : Value).ownBlock ∧ some k_ ≠ ((.slice Ao128 t534.length co128) : Value).ownBlock) (.slice Ao16 t491.length co16) t491) ∧ Aside0 (Kd.R (Kd.int .i64) 3 w' w.heap.size (fun k_ => some k_ ≠ ((.slice Ao11 t483.length co11) : Value).ownBlock ∧ some k_ ≠ ((.slice Ao16 t491.length co16) : Value).ownBlock ∧ some k_ ≠ ((.slice Ao128 t534.length co128) : Value).ownBlock) (.slice Ao23 t498.length co23) t498) ∧ Aside0 (Kd.R (Kd.int .i64) 3 w' w.heap.size (fun k_ => some k_ ≠ ((.slice Ao11 t483.length co11) : Value).ownBlock ∧ some k_ ≠ ((.slice Ao16 t491.length co16) : Value).ownBlock ∧ some k_ ≠ ((.slice Ao23 t498.length co23) : Value).ownBlock) (.slice Ao128 t534.length co128) t534) ∧ Aside0 (w'.heap[gb488]? = some (.cells #[.int .i64 t481, .int .i64 t482, (.slice Ao11 t483.length co11)] 26 (0, 0))) ∧ Aside0 (w'.heap[gb495]? = some (.cells #[.int .i64 t489, .int .i64 t490, (.slice Ao16 t491.length co16)] 26 (0, 0))) ∧ Aside0 (w'.heap[gb502]? = some (.cells #[.int .i64 t496, .int .i64 t497, (.slice Ao23 t498.length co23)] 26 (0, 0))) ∧ Aside0 (w'.heap[gb537]? = some (.cells #[.int .i64 t532, .int .i64 t533, (.slice Ao128 t534.length co128)] 26 (0, 0))) ∧ Aside0 (Below w.heap.size w w'))
        case atStart => exact ⟨(x37_5), (0), (by first | rfl | (simp; done) | (simp [*]; done)), (by first | rfl | (simp; done) | (simp [*]; done)), H', ⟨Nat.le_refl _⟩, ⟨by (with_reducible repeat (first | apply Kd.R_alloc | apply Kd.R_drewN | apply Kd.R_drew)); exact Kd.R_mono HO_489002.out (fun _ hk => ⟨hk.2.1, ⟨hk.2.2.1, hk.2.2.2⟩⟩)⟩, ⟨by (with_reducible repeat (first | apply Kd.R_alloc | apply Kd.R_drewN | apply Kd.R_drew)); exact Kd.R_mono HO_496002.out (fun _ hk => ⟨hk.2.1, ⟨hk.2.2.1, hk.2.2.2⟩⟩)⟩, ⟨by (with_reducible repeat (first | apply Kd.R_alloc | apply Kd.R_drewN | apply Kd.R_drew)); exact Kd.R_mono HO_503002.out (fun _ hk => ⟨hk.2.1, ⟨hk.2.2.1, hk.2.2.2⟩⟩)⟩, ⟨by (with_reducible repeat (first | apply Kd.R_alloc | apply Kd.R_drewN | apply Kd.R_drew)); exact Kd.R_mono HO_538002.out (fun _ hk => ⟨hk.2.1, ⟨hk.2.2.1, hk.2.2.2⟩⟩)⟩, ⟨by (with_reducible repeat (first | refine blk_drewN ?_ _ | refine blk_drew ?_ | refine blk_alloc ?_ _)); exact BK488.out⟩, ⟨by (with_reducible repeat (first | refine blk_drewN ?_ _ | refine blk_drew ?_ | refine blk_alloc ?_ _)); exact BK495.out⟩, ⟨by (with_reducible repeat (first | refine blk_drewN ?_ _ | refine blk_drew ?_ | refine blk_alloc ?_ _)); exact BK502.out⟩, ⟨by (with_reducible repeat (first | refine blk_drewN ?_ _ | refine blk_drew ?_ | refine blk_alloc ?_ _)); exact BK537.out⟩, ⟨by repeat (first | (with_reducible first | exact HB.out | apply below_alloc | apply pw_below_drewN | apply below_drew1 | refine below_set ?_ GE488.out | refine below_set ?_ GE495.out | refine below_set ?_ GE502.out | refine below_set ?_ GE537.out) | exact HB.out)⟩⟩
        case round =>
         clear H'
         try clear c1
         try clear c2
         try clear p2
         try clear c3
         try clear c4
         try clear c5
         try clear p5
         try clear q5
         try clear hx5
         try clear c6
         try clear p6
         try clear c7
         try clear c8
         try clear c9
         try clear c10
         try clear c11
         try clear c12
         try clear c13
         try clear c14
         try clear c15
         try clear c16
         try clear c17
         try clear c20
         try clear c21
         try clear c24
         try clear c24b0
         try clear c24b1
         try clear c24b2
         try clear c26
         try clear c27
         try clear c29
         try clear c32
         try clear c36
         try clear c37
         try clear c42
         try clear c42b0
         try clear c42b1
         try clear c43
         try clear c43b0
         try clear c43b1
         try clear c43b2
         try clear c44
         try clear c46
         try clear c54
         try clear p54
         try clear q54
         try clear hx54
         try clear c55
         try clear c60
         try clear p64
         try clear c69
         try clear c70
         try clear c71
         try clear c72
         try clear c73
         try clear c74
         try clear c75
         try clear c75b0
         try clear c75b1
         try clear c77
         try clear c77b0
         try clear c77b1
         try clear c77b2
         try clear c81
         try clear c85
         try clear c86
         try clear c87
         try clear c88
         try clear c89
         try clear c90
         try clear c90b0
         try clear c90b1
         try clear c90b2
         try clear c91
         try clear c92
         try clear c97
         try clear c100
         try clear c101
         try clear c106
         try clear c109
         try clear c110
         try clear c115
         try clear c124
         try clear c125
         try clear c126
         try clear c132
         try clear c132b0
         try clear c132b1
         try clear c132b2
         try clear c134
         try clear c138
         try clear c139
         try clear c140
         try clear c143
         try clear c144
         try clear c144b0
         try clear c145
         try clear c145b0
         try clear c147
         try clear c148
         try clear c148b0
         try clear hcz102_0
         try clear hcz102_1
         try clear hcz102_2
         try clear hcz104_0
         try clear hcz104_1
         try clear hcz104_2
         try clear hcz107_0
         try clear hcz107_1
         try clear hcz107_2
         try clear hcz10_0
         try clear hcz10_1
         try clear hcz10_2
         try clear hcz111_0
         try clear hcz111_1
         try clear hcz111_2
         try clear hcz113_0
         try clear hcz113_1
         try clear hcz113_2
         try clear hcz116_0
         try clear hcz116_1
         try clear hcz116_2
         try clear hcz127_0
         try clear hcz127_1
         try clear hcz127_2
         try clear hcz130_0
         try clear hcz130_1
         try clear hcz130_2
         try clear hcz141_0
         try clear hcz141_1
         try clear hcz141_2
         try clear hcz15_0
         try clear hcz15_1
         try clear hcz15_2
         try clear hcz17_0
         try clear hcz17_1
         try clear hcz17_2
         try clear hcz22_0
         try clear hcz22_1
         try clear hcz22_2
         try clear hcz28_0
         try clear hcz28_1
         try clear hcz28_2
         try clear hcz30_0
         try clear hcz30_1
         try clear hcz30_2
         try clear hcz38_0
         try clear hcz38_1
         try clear hcz38_2
         try clear hcz40_0
         try clear hcz40_1
         try clear hcz40_2
         try clear hcz56_0
         try clear hcz56_1
         try clear hcz56_2
         try clear hcz58_0
         try clear hcz58_1
         try clear hcz58_2
         try clear hcz61_0
         try clear hcz61_1
         try clear hcz61_2
         try clear hcz63_0
         try clear hcz63_1
         try clear hcz63_2
         try clear hcz65_0
         try clear hcz65_1
         try clear hcz65_2
         try clear hcz67_0
         try clear hcz67_1
         try clear hcz67_2
         try clear hcz93_0
         try clear hcz93_1
         try clear hcz93_2
         try clear hcz95_0
         try clear hcz95_1
         try clear hcz95_2
         try clear hcz98_0
         try clear hcz98_1
         try clear hcz98_2
         try clear hfz102_0
         try clear hfz102_1
         try clear hfz102_2
         try clear hfz104_0
         try clear hfz104_1
         try clear hfz104_2
         try clear hfz107_0
         try clear hfz107_1
         try clear hfz107_2
         try clear hfz10_0
         try clear hfz10_1
         try clear hfz10_2
         try clear hfz111_0
         try clear hfz111_1
         try clear hfz111_2
         try clear hfz113_0
         try clear hfz113_1
         try clear hfz113_2
         try clear hfz116_0
         try clear hfz116_1
         try clear hfz116_2
         try clear hfz127_0
         try clear hfz127_1
         try clear hfz127_2
         try clear hfz130_0
         try clear hfz130_1
         try clear hfz130_2
         try clear hfz141_0
         try clear hfz141_1
         try clear hfz141_2
         try clear hfz15_0
         try clear hfz15_1
         try clear hfz15_2
         try clear hfz17_0
         try clear hfz17_1
         try clear hfz17_2
         try clear hfz22_0
         try clear hfz22_1
         try clear hfz22_2
         try clear hfz28_0
         try clear hfz28_1
         try clear hfz28_2
         try clear hfz30_0
         try clear hfz30_1
         try clear hfz30_2
         try clear hfz38_0
         try clear hfz38_1
         try clear hfz38_2
         try clear hfz40_0
         try clear hfz40_1
         try clear hfz40_2
         try clear hfz56_0
         try clear hfz56_1
         try clear hfz56_2
         try clear hfz58_0
         try clear hfz58_1
         try clear hfz58_2
         try clear hfz61_0
         try clear hfz61_1
         try clear hfz61_2
         try clear hfz63_0
         try clear hfz63_1
         try clear hfz63_2
         try clear hfz65_0
         try clear hfz65_1
         try clear hfz65_2
         try clear hfz67_0
         try clear hfz67_1
         try clear hfz67_2
         try clear hfz93_0
         try clear hfz93_1
         try clear hfz93_2
         try clear hfz95_0
         try clear hfz95_1
         try clear hfz95_2
         try clear hfz98_0
         try clear hfz98_1
         try clear hfz98_2
         try clear hx548_0
         try clear p2
         try clear p548
         try clear p6
         try clear p64
         try clear q548
         obtain ⟨x37_6, x41_6, rfl, rfl, HA, HK6, HO_489002, HO_496002, HO_503002, HO_538002, BK488, BK495, BK502, BK537, HB⟩ := hrel
         cases gk with
         | zero => exact absurd HA.out (by simp [laws_FnAreas.l1])
         | succ k6 =>
          have H := HA.out
          clear HA
          simp only [laws_FnAreas.l1] at H
          have HC153 := Aside0.mk H
          clear H
          go_upto_region 40 with (fail)
          go_cut [279] (fun v279 wc => ∃ (kq : Nat) (x279_152 : Bool), v279 = .bool x279_152 ∧ Aside0 (laws_FnAreas.j7 kq t541 x37_6 x41_6 x279_152 t532 t533 t534 = some r) ∧ Aside0 (kq ≤ k6) ∧ Aside0 (Kd.R (Kd.int .i64) 3 wc w.heap.size (fun k_ => some k_ ≠ ((.slice Ao16 t491.length co16) : Value).ownBlock ∧ some k_ ≠ ((.slice Ao23 t498.length co23) : Value).ownBlock ∧ some k_ ≠ ((.slice Ao128 t534.length co128) : Value).ownBlock) (.slice Ao11 t483.length co11) t483) ∧ Aside0 (Kd.R (Kd.int .i64) 3 wc w.heap.size (fun k_ => some k_ ≠ ((.slice Ao11 t483.length co11) : Value).ownBlock ∧ some k_ ≠ ((.slice Ao23 t498.length co23) : Value).ownBlock ∧ some k_ ≠ ((.slice Ao128 t534.length co128) : Value).ownBlock) (.slice Ao16 t491.length co16) t491) ∧ Aside0 (Kd.R (Kd.int .i64) 3 wc w.heap.size (fun k_ => some k_ ≠ ((.slice Ao11 t483.length co11) : Value).ownBlock ∧ some k_ ≠ ((.slice Ao16 t491.length co16) : Value).ownBlock ∧ some k_ ≠ ((.slice Ao128 t534.length co128) : Value).ownBlock) (.slice Ao23 t498.length co23) t498) ∧ Aside0 (Kd.R (Kd.int .i64) 3 wc w.heap.size (fun k_ => some k_ ≠ ((.slice Ao11 t483.length co11) : Value).ownBlock ∧ some k_ ≠ ((.slice Ao16 t491.length co16) : Value).ownBlock ∧ some k_ ≠ ((.slice Ao23 t498.length co23) : Value).ownBlock) (.slice Ao128 t534.length co128) t534) ∧ Aside0 (wc.heap[gb488]? = some (.cells #[.int .i64 t481, .int .i64 t482, (.slice Ao11 t483.length co11)] 26 (0, 0))) ∧ Aside0 (wc.heap[gb495]? = some (.cells #[.int .i64 t489, .int .i64 t490, (.slice Ao16 t491.length co16)] 26 (0, 0))) ∧ Aside0 (wc.heap[gb502]? = some (.cells #[.int .i64 t496, .int .i64 t497, (.slice Ao23 t498.length co23)] 26 (0, 0))) ∧ Aside0 (wc.heap[gb537]? = some (.cells #[.int .i64 t532, .int .i64 t533, (.slice Ao128 t534.length co128)] 26 (0, 0))) ∧ Aside0 (Below w.heap.size w wc))
          case first =>
           have H := HC153.out
           clear HC153
           by_cases c154 : x41_6 < (t534.length : Int)
           ·
            rw [if_pos c154] at H
            have c154b0 : decide (x41_6 < (t534.length : Int)) = true := decide_eq_true c154
            clear c154
            (first | rw [c154b0] | (simp only [i64_w, i32_w]; rw [c154b0]) | skip)
            have H' := Aside0.mk H
            clear H
            have hnb155 := NB537_488.out
            have hnc155 := NB488_537.out
            have hnb156 := NB537_495.out
            have hnc156 := NB495_537.out
            have hnb157 := NB537_502.out
            have hnc157 := NB502_537.out
            have hcz158_0 : wr.cell? ⟨gb537, 0, none⟩ = some (.int .i64 t532) := (blk_cell BK537.out 0).trans rfl
            have hcz158_1 : wr.cell? ⟨gb537, 1, none⟩ = some (.int .i64 t533) := (blk_cell BK537.out 1).trans rfl
            have hcz158_2 : wr.cell? ⟨gb537, 2, none⟩ = some (.slice Ao128 t534.length co128) := (blk_cell BK537.out 2).trans rfl
            have hfz158_0 := blk_frozen BK537.out 0
            have hfz158_1 := blk_frozen BK537.out 1
            have hfz158_2 := blk_frozen BK537.out 2
            go_wp2
            go_meet
            case rel => exact ⟨_, (t541), (by first | rfl | (simp; done) | (simp [*]; done)), H', ⟨by have := HJ6.out; have := HJ34.out; have := HJ44.out; have := HJ120.out; have := HK5.out; have := HK6.out; first | omega | exact Nat.le_refl _⟩, ⟨by (with_reducible repeat (first | apply Kd.R_alloc | apply Kd.R_drewN | apply Kd.R_drew)); exact HO_489002.out⟩, ⟨by (with_reducible repeat (first | apply Kd.R_alloc | apply Kd.R_drewN | apply Kd.R_drew)); exact HO_496002.out⟩, ⟨by (with_reducible repeat (first | apply Kd.R_alloc | apply Kd.R_drewN | apply Kd.R_drew)); exact HO_503002.out⟩, ⟨by (with_reducible repeat (first | apply Kd.R_alloc | apply Kd.R_drewN | apply Kd.R_drew)); exact HO_538002.out⟩, ⟨by (with_reducible repeat (first | refine blk_drewN ?_ _ | refine blk_drew ?_ | refine blk_alloc ?_ _)); exact BK488.out⟩, ⟨by (with_reducible repeat (first | refine blk_drewN ?_ _ | refine blk_drew ?_ | refine blk_alloc ?_ _)); exact BK495.out⟩, ⟨by (with_reducible repeat (first | refine blk_drewN ?_ _ | refine blk_drew ?_ | refine blk_alloc ?_ _)); exact BK502.out⟩, ⟨by (with_reducible repeat (first | refine blk_drewN ?_ _ | refine blk_drew ?_ | refine blk_alloc ?_ _)); exact BK537.out⟩, ⟨by repeat (first | (with_reducible first | exact HB.out | apply below_alloc | apply pw_below_drewN | apply below_drew1 | refine below_set ?_ GE488.out | refine below_set ?_ GE495.out | refine below_set ?_ GE502.out | refine below_set ?_ GE537.out) | exact HB.out)⟩⟩
           ·
            rw [if_neg c154] at H
            have c154b0 : decide (x41_6 < (t534.length : Int)) = false := decide_eq_false c154
            clear c154
            (first | rw [c154b0] | (simp only [i64_w, i32_w]; rw [c154b0]) | skip)
            have H' := Aside0.mk H
            clear H
            have hnb159 := NB537_488.out
            have hnc159 := NB488_537.out
            have hnb160 := NB537_495.out
            have hnc160 := NB495_537.out
            have hnb161 := NB537_502.out
            have hnc161 := NB502_537.out
            have hcz162_0 : wr.cell? ⟨gb537, 0, none⟩ = some (.int .i64 t532) := (blk_cell BK537.out 0).trans rfl
            have hcz162_1 : wr.cell? ⟨gb537, 1, none⟩ = some (.int .i64 t533) := (blk_cell BK537.out 1).trans rfl
            have hcz162_2 : wr.cell? ⟨gb537, 2, none⟩ = some (.slice Ao128 t534.length co128) := (blk_cell BK537.out 2).trans rfl
            have hfz162_0 := blk_frozen BK537.out 0
            have hfz162_1 := blk_frozen BK537.out 1
            have hfz162_2 := blk_frozen BK537.out 2
            go_wp2
            go_meet
            case rel => exact ⟨_, (false), (by first | rfl | (simp; done) | (simp [*]; done)), H', ⟨by have := HJ6.out; have := HJ34.out; have := HJ44.out; have := HJ120.out; have := HK5.out; have := HK6.out; first | omega | exact Nat.le_refl _⟩, ⟨by (with_reducible repeat (first | apply Kd.R_alloc | apply Kd.R_drewN | apply Kd.R_drew)); exact HO_489002.out⟩, ⟨by (with_reducible repeat (first | apply Kd.R_alloc | apply Kd.R_drewN | apply Kd.R_drew)); exact HO_496002.out⟩, ⟨by (with_reducible repeat (first | apply Kd.R_alloc | apply Kd.R_drewN | apply Kd.R_drew)); exact HO_503002.out⟩, ⟨by (with_reducible repeat (first | apply Kd.R_alloc | apply Kd.R_drewN | apply Kd.R_drew)); exact HO_538002.out⟩, ⟨by (with_reducible repeat (first | refine blk_drewN ?_ _ | refine blk_drew ?_ | refine blk_alloc ?_ _)); exact BK488.out⟩, ⟨by (with_reducible repeat (first | refine blk_drewN ?_ _ | refine blk_drew ?_ | refine blk_alloc ?_ _)); exact BK495.out⟩, ⟨by (with_reducible repeat (first | refine blk_drewN ?_ _ | refine blk_drew ?_ | refine blk_alloc ?_ _)); exact BK502.out⟩, ⟨by (with_reducible repeat (first | refine blk_drewN ?_ _ | refine blk_drew ?_ | refine blk_alloc ?_ _)); exact BK537.out⟩, ⟨by repeat (first | (with_reducible first | exact HB.out | apply below_alloc | apply pw_below_drewN | apply below_drew1 | refine below_set ?_ GE488.out | refine below_set ?_ GE495.out | refine below_set ?_ GE502.out | refine below_set ?_ GE537.out) | exact HB.out)⟩⟩
          case rest =>
           clear HC153
           try clear c1
           try clear c2
           try clear p2
           try clear c3
           try clear c4
           try clear c5
           try clear p5
           try clear q5
           try clear hx5
           try clear c6
           try clear p6
           try clear c7
           try clear c8
           try clear c9
           try clear c10
           try clear c11
           try clear c12
           try clear c13
           try clear c14
           try clear c15
           try clear c16
           try clear c17
           try clear c20
           try clear c21
           try clear c24
           try clear c24b0
           try clear c24b1
           try clear c24b2
           try clear c26
           try clear c27
           try clear c29
           try clear c32
           try clear c36
           try clear c37
           try clear c42
           try clear c42b0
           try clear c42b1
           try clear c43
           try clear c43b0
           try clear c43b1
           try clear c43b2
           try clear c44
           try clear c46
           try clear c54
           try clear p54
           try clear q54
           try clear hx54
           try clear c55
           try clear c60
           try clear p64
           try clear c69
           try clear c70
           try clear c71
           try clear c72
           try clear c73
           try clear c74
           try clear c75
           try clear c75b0
           try clear c75b1
           try clear c77
           try clear c77b0
           try clear c77b1
           try clear c77b2
           try clear c81
           try clear c85
           try clear c86
           try clear c87
           try clear c88
           try clear c89
           try clear c90
           try clear c90b0
           try clear c90b1
           try clear c90b2
           try clear c91
           try clear c92
           try clear c97
           try clear c100
           try clear c101
           try clear c106
           try clear c109
           try clear c110
           try clear c115
           try clear c124
           try clear c125
           try clear c126
           try clear c132
           try clear c132b0
           try clear c132b1
           try clear c132b2
           try clear c134
           try clear c138
           try clear c139
           try clear c140
           try clear c143
           try clear c144
           try clear c144b0
           try clear c145
           try clear c145b0
           try clear c147
           try clear c148
           try clear c148b0
           try clear c154
           try clear c154b0
           try clear c155
           try clear c156
           try clear c157
           try clear c159
           try clear c160
           try clear c161
           try clear hcz102_0
           try clear hcz102_1
           try clear hcz102_2
           try clear hcz104_0
           try clear hcz104_1
           try clear hcz104_2
           try clear hcz107_0
           try clear hcz107_1
           try clear hcz107_2
           try clear hcz10_0
           try clear hcz10_1
           try clear hcz10_2
           try clear hcz111_0
           try clear hcz111_1
           try clear hcz111_2
           try clear hcz113_0
           try clear hcz113_1
           try clear hcz113_2
           try clear hcz116_0
           try clear hcz116_1
           try clear hcz116_2
           try clear hcz127_0
           try clear hcz127_1
           try clear hcz127_2
           try clear hcz130_0
           try clear hcz130_1
           try clear hcz130_2
           try clear hcz141_0
           try clear hcz141_1
           try clear hcz141_2
           try clear hcz158_0
           try clear hcz158_1
           try clear hcz158_2
           try clear hcz15_0
           try clear hcz15_1
           try clear hcz15_2
           try clear hcz162_0
           try clear hcz162_1
           try clear hcz162_2
           try clear hcz17_0
           try clear hcz17_1
           try clear hcz17_2
           try clear hcz22_0
           try clear hcz22_1
           try clear hcz22_2
           try clear hcz28_0
           try clear hcz28_1
           try clear hcz28_2
           try clear hcz30_0
           try clear hcz30_1
           try clear hcz30_2
           try clear hcz38_0
           try clear hcz38_1
           try clear hcz38_2
           try clear hcz40_0
           try clear hcz40_1
           try clear hcz40_2
           try clear hcz56_0
           try clear hcz56_1
           try clear hcz56_2
           try clear hcz58_0
           try clear hcz58_1
           try clear hcz58_2
           try clear hcz61_0
           try clear hcz61_1
           try clear hcz61_2
           try clear hcz63_0
           try clear hcz63_1
           try clear hcz63_2
           try clear hcz65_0
           try clear hcz65_1
           try clear hcz65_2
           try clear hcz67_0
           try clear hcz67_1
           try clear hcz67_2
           try clear hcz93_0
           try clear hcz93_1
           try clear hcz93_2
           try clear hcz95_0
           try clear hcz95_1
           try clear hcz95_2
           try clear hcz98_0
           try clear hcz98_1
           try clear hcz98_2
           try clear hfz102_0
           try clear hfz102_1
           try clear hfz102_2
           try clear hfz104_0
           try clear hfz104_1
           try clear hfz104_2
           try clear hfz107_0
           try clear hfz107_1
           try clear hfz107_2
           try clear hfz10_0
           try clear hfz10_1
           try clear hfz10_2
           try clear hfz111_0
           try clear hfz111_1
           try clear hfz111_2
           try clear hfz113_0
           try clear hfz113_1
           try clear hfz113_2
           try clear hfz116_0
           try clear hfz116_1
           try clear hfz116_2
           try clear hfz127_0
           try clear hfz127_1
           try clear hfz127_2
           try clear hfz130_0
           try clear hfz130_1
           try clear hfz130_2
           try clear hfz141_0
           try clear hfz141_1
           try clear hfz141_2
           try clear hfz158_0
           try clear hfz158_1
           try clear hfz158_2
           try clear hfz15_0
           try clear hfz15_1
           try clear hfz15_2
           try clear hfz162_0
           try clear hfz162_1
           try clear hfz162_2
           try clear hfz17_0
           try clear hfz17_1
           try clear hfz17_2
           try clear hfz22_0
           try clear hfz22_1
           try clear hfz22_2
           try clear hfz28_0
           try clear hfz28_1
           try clear hfz28_2
           try clear hfz30_0
           try clear hfz30_1
           try clear hfz30_2
           try clear hfz38_0
           try clear hfz38_1
           try clear hfz38_2
           try clear hfz40_0
           try clear hfz40_1
           try clear hfz40_2
           try clear hfz56_0
           try clear hfz56_1
           try clear hfz56_2
           try clear hfz58_0
           try clear hfz58_1
           try clear hfz58_2
           try clear hfz61_0
           try clear hfz61_1
           try clear hfz61_2
           try clear hfz63_0
           try clear hfz63_1
           try clear hfz63_2
           try clear hfz65_0
           try clear hfz65_1
           try clear hfz65_2
           try clear hfz67_0
           try clear hfz67_1
           try clear hfz67_2
           try clear hfz93_0
           try clear hfz93_1
           try clear hfz93_2
           try clear hfz95_0
           try clear hfz95_1
           try clear hfz95_2
           try clear hfz98_0
           try clear hfz98_1
           try clear hfz98_2
           try clear hx548_0
           try clear p2
           try clear p5
           try clear p54
           try clear p548
           try clear p6
           try clear p64
           try clear q5
           try clear q54
           try clear q548
           obtain ⟨kq, x279_152, rfl, HA, HJ152, HO_489002, HO_496002, HO_503002, HO_538002, BK488, BK495, BK502, BK537, HB⟩ := hcut
           cases kq with
           | zero => exact absurd HA.out (by simp [laws_FnAreas.j7])
           | succ kj152 =>
            have H := HA.out
            clear HA
            simp only [laws_FnAreas.j7] at H
            by_cases c163 : x279_152 = true
            ·
             subst c163
             have H1 : (if 0 ≤ x41_6 then (if x41_6 < (t534.length : Int) then (if (rd t534 x41_6) = 0 then (laws_FnAreas.l1 kj152 t541 (wrap64 (x37_6 + 1)) (wrap64 (x41_6 + 1)) t532 t533 t534) else (laws_FnAreas.l1 kj152 t541 x37_6 (wrap64 (x41_6 + 1)) t532 t533 t534)) else (none)) else (none)) = some r := by rw [if_pos rfl] at H; exact H
             clear H
             have H := H1
             clear H1
             by_cases c164 : 0 ≤ x41_6
             ·
              rw [if_pos c164] at H
              have c164b0 : decide (0 ≤ x41_6) = true := decide_eq_true c164
              clear c164
              by_cases c165 : x41_6 < (t534.length : Int)
              ·
               rw [if_pos c165] at H
               have c165b0 : decide (x41_6 < (t534.length : Int)) = true := decide_eq_true c165
               clear c165
               by_cases c166 : (rd t534 x41_6) = 0
               ·
                rw [if_pos c166] at H
                have c166b0 : ((rd t534 x41_6) == 0) = true := beq_iff_eq.mpr c166
                have c166b1 : ((rd t534 x41_6) != 0) = false := bne_eq_false_iff_eq.mpr c166
                clear c166
                have H' := Aside0.mk H
                clear H
                have hnb167 := NB537_488.out
                have hnc167 := NB488_537.out
                have hnb168 := NB537_495.out
                have hnc168 := NB495_537.out
                have hnb169 := NB537_502.out
                have hnc169 := NB502_537.out
                have hcz170_0 : wc.cell? ⟨gb537, 0, none⟩ = some (.int .i64 t532) := (blk_cell BK537.out 0).trans rfl
                have hcz170_1 : wc.cell? ⟨gb537, 1, none⟩ = some (.int .i64 t533) := (blk_cell BK537.out 1).trans rfl
                have hcz170_2 : wc.cell? ⟨gb537, 2, none⟩ = some (.slice Ao128 t534.length co128) := (blk_cell BK537.out 2).trans rfl
                have hfz170_0 := blk_frozen BK537.out 0
                have hfz170_1 := blk_frozen BK537.out 1
                have hfz170_2 := blk_frozen BK537.out 2
                have p551 : 0 ≤ (x41_6 : Int) := of_decide_eq_true (by first | (with_reducible assumption) | assumption)
                have q551 : x41_6 < (t534.length : Int) := of_decide_eq_true (by first | (with_reducible assumption) | assumption)
                obtain ⟨ad551, e551, hx551_0⟩ := Kd.at_int (Kd.R_reads' HO_538002.out).2.2 x41_6 p551 q551
                cases e551
                replace p551 := eq_true p551
                replace q551 := eq_true q551
                go_wp2
                go_roundg kj152
                case measure => have := HJ6.out; have := HJ34.out; have := HJ44.out; have := HJ120.out; have := HK5.out; have := HK6.out; have := HJ152.out; omega
                case rel => exact ⟨(wrap64 (x37_6 + 1)), (wrap64 (x41_6 + 1)), (by first | rfl | (simp; done) | (simp [*]; done)), (by first | rfl | (simp; done) | (simp [*]; done)), H', ⟨by have := HJ6.out; have := HJ34.out; have := HJ44.out; have := HJ120.out; have := HK5.out; have := HK6.out; have := HJ152.out; omega⟩, ⟨by (with_reducible repeat (first | apply Kd.R_alloc | apply Kd.R_drewN | apply Kd.R_drew)); exact HO_489002.out⟩, ⟨by (with_reducible repeat (first | apply Kd.R_alloc | apply Kd.R_drewN | apply Kd.R_drew)); exact HO_496002.out⟩, ⟨by (with_reducible repeat (first | apply Kd.R_alloc | apply Kd.R_drewN | apply Kd.R_drew)); exact HO_503002.out⟩, ⟨by (with_reducible repeat (first | apply Kd.R_alloc | apply Kd.R_drewN | apply Kd.R_drew)); exact HO_538002.out⟩, ⟨by (with_reducible repeat (first | refine blk_drewN ?_ _ | refine blk_drew ?_ | refine blk_alloc ?_ _)); exact BK488.out⟩, ⟨by (with_reducible repeat (first | refine blk_drewN ?_ _ | refine blk_drew ?_ | refine blk_alloc ?_ _)); exact BK495.out⟩, ⟨by (with_reducible repeat (first | refine blk_drewN ?_ _ | refine blk_drew ?_ | refine blk_alloc ?_ _)); exact BK502.out⟩, ⟨by (with_reducible repeat (first | refine blk_drewN ?_ _ | refine blk_drew ?_ | refine blk_alloc ?_ _)); exact BK537.out⟩, ⟨by repeat (first | (with_reducible first | exact HB.out | apply below_alloc | apply pw_below_drewN | apply below_drew1 | refine below_set ?_ GE488.out | refine below_set ?_ GE495.out | refine below_set ?_ GE502.out | refine below_set ?_ GE537.out) | exact HB.out)⟩⟩
               ·
                rw [if_neg c166] at H
                have c166b0 : ((rd t534 x41_6) == 0) = false := beq_eq_false_iff_ne.mpr c166
                have c166b1 : ((rd t534 x41_6) != 0) = true := bne_iff_ne.mpr c166
                have H' := Aside0.mk H
                clear H
                have hnb171 := NB537_488.out
                have hnc171 := NB488_537.out
                have hnb172 := NB537_495.out
                have hnc172 := NB495_537.out
                have hnb173 := NB537_502.out
                have hnc173 := NB502_537.out
                have hcz174_0 : wc.cell? ⟨gb537, 0, none⟩ = some (.int .i64 t532) := (blk_cell BK537.out 0).trans rfl
                have hcz174_1 : wc.cell? ⟨gb537, 1, none⟩ = some (.int .i64 t533) := (blk_cell BK537.out 1).trans rfl
                have hcz174_2 : wc.cell? ⟨gb537, 2, none⟩ = some (.slice Ao128 t534.length co128) := (blk_cell BK537.out 2).trans rfl
                have hfz174_0 := blk_frozen BK537.out 0
                have hfz174_1 := blk_frozen BK537.out 1
                have hfz174_2 := blk_frozen BK537.out 2
                have p551 : 0 ≤ (x41_6 : Int) := of_decide_eq_true (by first | (with_reducible assumption) | assumption)
                have q551 : x41_6 < (t534.length : Int) := of_decide_eq_true (by first | (with_reducible assumption) | assumption)
                obtain ⟨ad551, e551, hx551_0⟩ := Kd.at_int (Kd.R_reads' HO_538002.out).2.2 x41_6 p551 q551
                cases e551
                replace p551 := eq_true p551
                replace q551 := eq_true q551
                go_wp2
                go_roundg kj152
                case measure => have := HJ6.out; have := HJ34.out; have := HJ44.out; have := HJ120.out; have := HK5.out; have := HK6.out; have := HJ152.out; omega
                case rel => exact ⟨(x37_6), (wrap64 (x41_6 + 1)), (by first | rfl | (simp; done) | (simp [*]; done)), (by first | rfl | (simp; done) | (simp [*]; done)), H', ⟨by have := HJ6.out; have := HJ34.out; have := HJ44.out; have := HJ120.out; have := HK5.out; have := HK6.out; have := HJ152.out; omega⟩, ⟨by (with_reducible repeat (first | apply Kd.R_alloc | apply Kd.R_drewN | apply Kd.R_drew)); exact HO_489002.out⟩, ⟨by (with_reducible repeat (first | apply Kd.R_alloc | apply Kd.R_drewN | apply Kd.R_drew)); exact HO_496002.out⟩, ⟨by (with_reducible repeat (first | apply Kd.R_alloc | apply Kd.R_drewN | apply Kd.R_drew)); exact HO_503002.out⟩, ⟨by (with_reducible repeat (first | apply Kd.R_alloc | apply Kd.R_drewN | apply Kd.R_drew)); exact HO_538002.out⟩, ⟨by (with_reducible repeat (first | refine blk_drewN ?_ _ | refine blk_drew ?_ | refine blk_alloc ?_ _)); exact BK488.out⟩, ⟨by (with_reducible repeat (first | refine blk_drewN ?_ _ | refine blk_drew ?_ | refine blk_alloc ?_ _)); exact BK495.out⟩, ⟨by (with_reducible repeat (first | refine blk_drewN ?_ _ | refine blk_drew ?_ | refine blk_alloc ?_ _)); exact BK502.out⟩, ⟨by (with_reducible repeat (first | refine blk_drewN ?_ _ | refine blk_drew ?_ | refine blk_alloc ?_ _)); exact BK537.out⟩, ⟨by repeat (first | (with_reducible first | exact HB.out | apply below_alloc | apply pw_below_drewN | apply below_drew1 | refine below_set ?_ GE488.out | refine below_set ?_ GE495.out | refine below_set ?_ GE502.out | refine below_set ?_ GE537.out) | exact HB.out)⟩⟩
              ·
               rw [if_neg c165] at H
               exact absurd H (by simp)
             ·
              rw [if_neg c164] at H
              exact absurd H (by simp)
            ·
             replace c163 := Bool.eq_false_iff.mpr c163
             subst c163
             have H1 : (if t541 = true then (some (x37_6 == (t534.length : Int))) else (some true)) = some r := by rw [if_neg (show ¬ (false = true) by decide)] at H; exact H
             clear H
             have H := H1
             clear H1
             by_cases c175 : t541 = true
             ·
              subst c175
              have H1 : (some (x37_6 == (t534.length : Int))) = some r := by rw [if_pos rfl] at H; exact H
              clear H
              have H := H1
              clear H1
              obtain rfl := Option.some.inj H
              have hnb176 := NB537_488.out
              have hnc176 := NB488_537.out
              have hnb177 := NB537_495.out
              have hnc177 := NB495_537.out
              have hnb178 := NB537_502.out
              have hnc178 := NB502_537.out
              have hcz179_0 : wc.cell? ⟨gb537, 0, none⟩ = some (.int .i64 t532) := (blk_cell BK537.out 0).trans rfl
              have hcz179_1 : wc.cell? ⟨gb537, 1, none⟩ = some (.int .i64 t533) := (blk_cell BK537.out 1).trans rfl
              have hcz179_2 : wc.cell? ⟨gb537, 2, none⟩ = some (.slice Ao128 t534.length co128) := (blk_cell BK537.out 2).trans rfl
              have hfz179_0 := blk_frozen BK537.out 0
              have hfz179_1 := blk_frozen BK537.out 1
              have hfz179_2 := blk_frozen BK537.out 2
              go_wp2
              go_ret
              exact ⟨by first | rfl | (simp [errW_none, errW_some] <;> rfl) | (simp [*, errW_none, errW_some] <;> rfl), by repeat (first | (with_reducible first | exact HB.out | apply below_alloc | apply pw_below_drewN | apply below_drew1 | refine below_set ?_ GE488.out | refine below_set ?_ GE495.out | refine below_set ?_ GE502.out | refine below_set ?_ GE537.out) | exact HB.out)⟩
             ·
              replace c175 := Bool.eq_false_iff.mpr c175
              subst c175
              have H1 : (some true) = some r := by rw [if_neg (show ¬ (false = true) by decide)] at H; exact H
              clear H
              have H := H1
              clear H1
              obtain rfl := Option.some.inj H
              go_wp2
              go_ret
              exact ⟨by first | rfl | (simp [errW_none, errW_some] <;> rfl) | (simp [*, errW_none, errW_some] <;> rfl), by repeat (first | (with_reducible first | exact HB.out | apply below_alloc | apply pw_below_drewN | apply below_drew1 | refine below_set ?_ GE488.out | refine below_set ?_ GE495.out | refine below_set ?_ GE502.out | refine below_set ?_ GE537.out) | exact HB.out)⟩

end Go.Proofs.Ytoaclbbkllpdaaa.Q
