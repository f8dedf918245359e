/- Texts of this claim, put together: walks of the program's functions, and plain facts. -/
import Derived.Test.YtleadjbfcenofaaGreatDoorZFnWarningTexts
import Derived.Test.YtleadjbfcenofaaGreatDoorBFnWarningTexts0
import Derived.Test.YtleadjbfcenofaaGreatDoorBFnWarningTexts1
import Derived.Test.YtleadjbfcenofaaGreatDoorBFnWarningTexts2
import Derived.Test.YtleadjbfcenofaaGreatDoorBFnWarningTexts3
namespace Go.Proofs.YtleadjbfcenofaaGreatDoor.Q
open Go.RowKit Go.Proofs.YtleadjbfcenofaaGreatDoorW.PrintWords Go.Proofs.YtleadjbfcenofaaGreatDoorW.PrintLast Go.Proofs.YtleadjbfcenofaaGreatDoorW.PrintMore
attribute [local go_sem] max2_int min2_int max_two min_two max_three min_three max_four min_four
set_option linter.unusedVariables false
set_option linter.unusedSimpArgs false
def impl_ParseWarning.j0 : Nat → ByteArray → ByteArray → ByteArray → List Int → Int → Int → Bool → Option (Int × Int × Int × Int × Int × Int × Bool)
 | 0, _, _, _, _, _, _, _ => none
 | k + 1, x0, x4, x7, x18, x20, x22, x87 => if x87 = true then (some (0, 0, 0, 0, 0, 0, false)) else (if 1 < (x18.length : Int) then ((slices_Index_h.f 0 x7).bind fun t274 => ((slices_Index_h.f 1 x4).bind fun t275 => (if 0 < (x18.length : Int) then ((impl_IsValidWarning.f (rd x18 1) t274 t275 (rd x18 0) x20 x22).bind fun t278 => (if t278 = true then ((impl_warningText.f (rd x18 1) t274 t275 (rd x18 0) x20 x22).bind fun t279 => (if t279.toList = x0.toList then (some (rd x18 1, t274, t275, rd x18 0, x20, x22, true)) else (some (0, 0, 0, 0, 0, 0, false)))) else (some (0, 0, 0, 0, 0, 0, false)))) else (none)))) else (none))
def impl_ParseWarning.f (k : Nat) (a0 : ByteArray) : Option (Int × Int × Int × Int × Int × Int × Bool) := (strings_Cut.f a0 (⟨#[32, 119, 97, 114, 110, 105, 110, 103, 32, 111, 102, 32]⟩ : ByteArray)).bind fun bt244 => ((strings_Cut.f bt244.2.1 (⟨#[32, 102, 111, 114, 32, 97, 114, 101, 97, 32]⟩ : ByteArray)).bind fun bt247 => ((strings_Cut.f bt247.2.1 (⟨#[32, 102, 114, 111, 109, 32]⟩ : ByteArray)).bind fun bt250 => ((strings_Cut.f bt250.2.1 (⟨#[32, 117, 110, 116, 105, 108, 32]⟩ : ByteArray)).bind fun bt253 => ((strings_Cut.f bt253.2.1 (⟨#[32, 40, 110, 111, 46, 32]⟩ : ByteArray)).bind fun bt256 => ((strings_Cut.f bt256.2.1 (⟨#[41, 46]⟩ : ByteArray)).bind fun bt259 => ((impl_readInts.f k (([bt250.1, bt259.1] : List ByteArray))).bind fun bt265 => ((impl_ParseHour.f k bt253.1).bind fun bt269 => ((impl_ParseHour.f k bt256.1).bind fun bt271 => (if bt265.2 = true then (if bt269.2 = true then (impl_ParseWarning.j0 k a0 bt244.1 bt247.1 bt265.1 bt269.1 bt271.1 (!bt271.2)) else (impl_ParseWarning.j0 k a0 bt244.1 bt247.1 bt265.1 bt269.1 bt271.1 true)) else (impl_ParseWarning.j0 k a0 bt244.1 bt247.1 bt265.1 bt269.1 bt271.1 true))))))))))
theorem impl_ParseWarning.mono_l : ∀ k, (∀ y0 y1 y2 y3 y4 y5 y6, LeO (impl_ParseWarning.j0 k y0 y1 y2 y3 y4 y5 y6) (impl_ParseWarning.j0 (k + 1) y0 y1 y2 y3 y4 y5 y6))
 | 0 => fun _ _ _ _ _ _ _ r h => by simp [impl_ParseWarning.j0] at h
 | k + 1 => by
  have ih0 := impl_ParseWarning.mono_l k
  ·
   intro y0 y1 y2 y3 y4 y5 y6
   unfold impl_ParseWarning.j0
   repeat' first
   | (with_reducible exact ih0 _ _ _ _ _ _ _)
   | (with_reducible exact impl_ParseHour.mono _ _)
   | (with_reducible exact impl_readInts.mono _ _)
   | (with_reducible exact LeO.refl _)
   | (with_reducible exact LeO.none _)
   | (with_reducible refine LeO.ite ?_ ?_)
   | (with_reducible refine LeO.bind ?_ (fun _ => ?_))
   | exact ih0 _ _ _ _ _ _ _
   | exact impl_ParseHour.mono _ _
   | exact impl_readInts.mono _ _
   | exact LeO.none _
   | refine LeO.ite ?_ ?_
   | refine LeO.bind ?_ (fun _ => ?_)
theorem impl_ParseWarning.mono : ∀ a0 k, LeO (impl_ParseWarning.f k a0) (impl_ParseWarning.f (k + 1) a0) := by
 intro a0 k
 have ih0 := impl_ParseWarning.mono_l k
 unfold impl_ParseWarning.f
 repeat' first
   | (with_reducible exact ih0 _ _ _ _ _ _ _)
   | (with_reducible exact impl_ParseHour.mono _ _)
   | (with_reducible exact impl_readInts.mono _ _)
   | (with_reducible exact LeO.refl _)
   | (with_reducible exact LeO.none _)
   | (with_reducible refine LeO.ite ?_ ?_)
   | (with_reducible refine LeO.bind ?_ (fun _ => ?_))
   | exact ih0 _ _ _ _ _ _ _
   | exact impl_ParseHour.mono _ _
   | exact impl_readInts.mono _ _
   | exact LeO.none _
   | refine LeO.ite ?_ ?_
   | refine LeO.bind ?_ (fun _ => ?_)
def impl_ParseWarning.T12 : Bool × List (List Nat × List Nat) := (true, [([], []), ([0], [0]), ([1], [1]), ([], []), ([], []), ([3, 4], [3, 4]), ([], []), ([], []), ([6, 7, 5], [6, 7]), ([], []), ([9], [9]), ([10], [10]), ([], []), ([], []), ([2, 5, 8, 11, 12, 13], [2, 5, 8, 11, 12, 13]), ([], []), ([15, 14, 8, 0, 1, 2, 3, 4, 5, 6, 7, 8, 9, 10, 11, 12, 13, 14, 15], [14, 15])])
def impl_ParseWarning.B12 : List Nat := [0, 1, 3, 0, 0, 24, 0, 0, 248, 0, 512, 1536, 0, 0, 16383, 0, 65535]
theorem impl_ParseWarning.tab12 : rtab .any (opsOf Tryz.f8 12) = impl_ParseWarning.T12 := by kernel_rfl
theorem impl_ParseWarning.bits12 : waitsOk impl_ParseWarning.T12.2 impl_ParseWarning.B12 = true := by kernel_rfl
set_option maxHeartbeats 8000000 in
set_option maxRecDepth 100000 in
theorem impl_ParseWarning.calls (k : Nat) (a0 : ByteArray) (r1 : Int) (r2 : Int) (r3 : Int) (r4 : Int) (r5 : Int) (r6 : Int) (r7 : Bool) (w : World) (htE : TabE w) (htL : TabL w) (htM : TabM w) (htN : TabN w) (htO : TabO w) (h : impl_ParseWarning.f k a0 = some (r1, r2, r3, r4, r5, r6, r7)) :
  Calls Tryz.prog 8 #[.string a0] w fun e w' => e = .returned (.tuple #[.agg #[.int .i64 r1, .int .i64 r2, .int .i64 r3, .int .i64 r4, .int .i64 r5, .int .i64 r6], .bool r7]) ∧ Below w.heap.size w w' := by
 have HTE := zm htE
 clear htE
 have HTL := zm htL
 clear htL
 have HTM := zm htM
 clear htM
 have HTN := zm htN
 clear htN
 have HTO := zm htO
 clear htO
 have hu25 := Tryz.underlying25
 have HB := zm (Below.refl w.heap.size w)
 have H : ((strings_Cut.f a0 (⟨#[32, 119, 97, 114, 110, 105, 110, 103, 32, 111, 102, 32]⟩ : ByteArray)).bind fun bt244 => ((strings_Cut.f bt244.2.1 (⟨#[32, 102, 111, 114, 32, 97, 114, 101, 97, 32]⟩ : ByteArray)).bind fun bt247 => ((strings_Cut.f bt247.2.1 (⟨#[32, 102, 114, 111, 109, 32]⟩ : ByteArray)).bind fun bt250 => ((strings_Cut.f bt250.2.1 (⟨#[32, 117, 110, 116, 105, 108, 32]⟩ : ByteArray)).bind fun bt253 => ((strings_Cut.f bt253.2.1 (⟨#[32, 40, 110, 111, 46, 32]⟩ : ByteArray)).bind fun bt256 => ((strings_Cut.f bt256.2.1 (⟨#[41, 46]⟩ : ByteArray)).bind fun bt259 => ((impl_readInts.f k (([bt250.1, bt259.1] : List ByteArray))).bind fun bt265 => ((impl_ParseHour.f k bt253.1).bind fun bt269 => ((impl_ParseHour.f k bt256.1).bind fun bt271 => (if bt265.2 = true then (if bt269.2 = true then (impl_ParseWarning.j0 k a0 bt244.1 bt247.1 bt265.1 bt269.1 bt271.1 (!bt271.2)) else (impl_ParseWarning.j0 k a0 bt244.1 bt247.1 bt265.1 bt269.1 bt271.1 true)) else (impl_ParseWarning.j0 k a0 bt244.1 bt247.1 bt265.1 bt269.1 bt271.1 true))))))))))) = some (r1, r2, r3, r4, r5, r6, r7) := h
 clear h
 obtain ⟨⟨t244, t245, t246⟩, A20, H⟩ := zob H
 replace H : ((strings_Cut.f t245 (⟨#[32, 102, 111, 114, 32, 97, 114, 101, 97, 32]⟩ : ByteArray)).bind fun bt247 => ((strings_Cut.f bt247.2.1 (⟨#[32, 102, 114, 111, 109, 32]⟩ : ByteArray)).bind fun bt250 => ((strings_Cut.f bt250.2.1 (⟨#[32, 117, 110, 116, 105, 108, 32]⟩ : ByteArray)).bind fun bt253 => ((strings_Cut.f bt253.2.1 (⟨#[32, 40, 110, 111, 46, 32]⟩ : ByteArray)).bind fun bt256 => ((strings_Cut.f bt256.2.1 (⟨#[41, 46]⟩ : ByteArray)).bind fun bt259 => ((impl_readInts.f k (([bt250.1, bt259.1] : List ByteArray))).bind fun bt265 => ((impl_ParseHour.f k bt253.1).bind fun bt269 => ((impl_ParseHour.f k bt256.1).bind fun bt271 => (if bt265.2 = true then (if bt269.2 = true then (impl_ParseWarning.j0 k a0 t244 bt247.1 bt265.1 bt269.1 bt271.1 (!bt271.2)) else (impl_ParseWarning.j0 k a0 t244 bt247.1 bt265.1 bt269.1 bt271.1 true)) else (impl_ParseWarning.j0 k a0 t244 bt247.1 bt265.1 bt269.1 bt271.1 true)))))))))) = some (r1, r2, r3, r4, r5, r6, r7) := H
 have A2 := zm A20
 clear A20
 obtain ⟨⟨t247, t248, t249⟩, A30, H⟩ := zob H
 replace H : ((strings_Cut.f t248 (⟨#[32, 102, 114, 111, 109, 32]⟩ : ByteArray)).bind fun bt250 => ((strings_Cut.f bt250.2.1 (⟨#[32, 117, 110, 116, 105, 108, 32]⟩ : ByteArray)).bind fun bt253 => ((strings_Cut.f bt253.2.1 (⟨#[32, 40, 110, 111, 46, 32]⟩ : ByteArray)).bind fun bt256 => ((strings_Cut.f bt256.2.1 (⟨#[41, 46]⟩ : ByteArray)).bind fun bt259 => ((impl_readInts.f k (([bt250.1, bt259.1] : List ByteArray))).bind fun bt265 => ((impl_ParseHour.f k bt253.1).bind fun bt269 => ((impl_ParseHour.f k bt256.1).bind fun bt271 => (if bt265.2 = true then (if bt269.2 = true then (impl_ParseWarning.j0 k a0 t244 t247 bt265.1 bt269.1 bt271.1 (!bt271.2)) else (impl_ParseWarning.j0 k a0 t244 t247 bt265.1 bt269.1 bt271.1 true)) else (impl_ParseWarning.j0 k a0 t244 t247 bt265.1 bt269.1 bt271.1 true))))))))) = some (r1, r2, r3, r4, r5, r6, r7) := H
 have A3 := zm A30
 clear A30
 obtain ⟨⟨t250, t251, t252⟩, A40, H⟩ := zob H
 replace H : ((strings_Cut.f t251 (⟨#[32, 117, 110, 116, 105, 108, 32]⟩ : ByteArray)).bind fun bt253 => ((strings_Cut.f bt253.2.1 (⟨#[32, 40, 110, 111, 46, 32]⟩ : ByteArray)).bind fun bt256 => ((strings_Cut.f bt256.2.1 (⟨#[41, 46]⟩ : ByteArray)).bind fun bt259 => ((impl_readInts.f k (([t250, bt259.1] : List ByteArray))).bind fun bt265 => ((impl_ParseHour.f k bt253.1).bind fun bt269 => ((impl_ParseHour.f k bt256.1).bind fun bt271 => (if bt265.2 = true then (if bt269.2 = true then (impl_ParseWarning.j0 k a0 t244 t247 bt265.1 bt269.1 bt271.1 (!bt271.2)) else (impl_ParseWarning.j0 k a0 t244 t247 bt265.1 bt269.1 bt271.1 true)) else (impl_ParseWarning.j0 k a0 t244 t247 bt265.1 bt269.1 bt271.1 true)))))))) = some (r1, r2, r3, r4, r5, r6, r7) := H
 have A4 := zm A40
 clear A40
 obtain ⟨⟨t253, t254, t255⟩, A50, H⟩ := zob H
 replace H : ((strings_Cut.f t254 (⟨#[32, 40, 110, 111, 46, 32]⟩ : ByteArray)).bind fun bt256 => ((strings_Cut.f bt256.2.1 (⟨#[41, 46]⟩ : ByteArray)).bind fun bt259 => ((impl_readInts.f k (([t250, bt259.1] : List ByteArray))).bind fun bt265 => ((impl_ParseHour.f k t253).bind fun bt269 => ((impl_ParseHour.f k bt256.1).bind fun bt271 => (if bt265.2 = true then (if bt269.2 = true then (impl_ParseWarning.j0 k a0 t244 t247 bt265.1 bt269.1 bt271.1 (!bt271.2)) else (impl_ParseWarning.j0 k a0 t244 t247 bt265.1 bt269.1 bt271.1 true)) else (impl_ParseWarning.j0 k a0 t244 t247 bt265.1 bt269.1 bt271.1 true))))))) = some (r1, r2, r3, r4, r5, r6, r7) := H
 have A5 := zm A50
 clear A50
 obtain ⟨⟨t256, t257, t258⟩, A60, H⟩ := zob H
 replace H : ((strings_Cut.f t257 (⟨#[41, 46]⟩ : ByteArray)).bind fun bt259 => ((impl_readInts.f k (([t250, bt259.1] : List ByteArray))).bind fun bt265 => ((impl_ParseHour.f k t253).bind fun bt269 => ((impl_ParseHour.f k t256).bind fun bt271 => (if bt265.2 = true then (if bt269.2 = true then (impl_ParseWarning.j0 k a0 t244 t247 bt265.1 bt269.1 bt271.1 (!bt271.2)) else (impl_ParseWarning.j0 k a0 t244 t247 bt265.1 bt269.1 bt271.1 true)) else (impl_ParseWarning.j0 k a0 t244 t247 bt265.1 bt269.1 bt271.1 true)))))) = some (r1, r2, r3, r4, r5, r6, r7) := H
 have A6 := zm A60
 clear A60
 obtain ⟨⟨t259, t260, t261⟩, A70, H⟩ := zob H
 replace H : ((impl_readInts.f k (([t250, t259] : List ByteArray))).bind fun bt265 => ((impl_ParseHour.f k t253).bind fun bt269 => ((impl_ParseHour.f k t256).bind fun bt271 => (if bt265.2 = true then (if bt269.2 = true then (impl_ParseWarning.j0 k a0 t244 t247 bt265.1 bt269.1 bt271.1 (!bt271.2)) else (impl_ParseWarning.j0 k a0 t244 t247 bt265.1 bt269.1 bt271.1 true)) else (impl_ParseWarning.j0 k a0 t244 t247 bt265.1 bt269.1 bt271.1 true))))) = some (r1, r2, r3, r4, r5, r6, r7) := H
 have A7 := zm A70
 clear A70
 obtain ⟨y262, hy262⟩ : ∃ y_ : List ByteArray, y_ = (([t250, t259] : List ByteArray)) := ⟨_, rfl⟩
 replace H : ((impl_readInts.f k y262).bind fun bt265 => ((impl_ParseHour.f k t253).bind fun bt269 => ((impl_ParseHour.f k t256).bind fun bt271 => (if bt265.2 = true then (if bt269.2 = true then (impl_ParseWarning.j0 k a0 t244 t247 bt265.1 bt269.1 bt271.1 (!bt271.2)) else (impl_ParseWarning.j0 k a0 t244 t247 bt265.1 bt269.1 bt271.1 true)) else (impl_ParseWarning.j0 k a0 t244 t247 bt265.1 bt269.1 bt271.1 true))))) = some (r1, r2, r3, r4, r5, r6, r7) := zqH hy262 H
 have Ny262 := zm hy262
 clear hy262
 obtain ⟨⟨t265, t266⟩, A80, H⟩ := zob H
 replace H : ((impl_ParseHour.f k t253).bind fun bt269 => ((impl_ParseHour.f k t256).bind fun bt271 => (if t266 = true then (if bt269.2 = true then (impl_ParseWarning.j0 k a0 t244 t247 t265 bt269.1 bt271.1 (!bt271.2)) else (impl_ParseWarning.j0 k a0 t244 t247 t265 bt269.1 bt271.1 true)) else (impl_ParseWarning.j0 k a0 t244 t247 t265 bt269.1 bt271.1 true)))) = some (r1, r2, r3, r4, r5, r6, r7) := H
 have A8 := zm A80
 clear A80
 obtain ⟨⟨t269, t270⟩, A90, H⟩ := zob H
 replace H : ((impl_ParseHour.f k t256).bind fun bt271 => (if t266 = true then (if t270 = true then (impl_ParseWarning.j0 k a0 t244 t247 t265 t269 bt271.1 (!bt271.2)) else (impl_ParseWarning.j0 k a0 t244 t247 t265 t269 bt271.1 true)) else (impl_ParseWarning.j0 k a0 t244 t247 t265 t269 bt271.1 true))) = some (r1, r2, r3, r4, r5, r6, r7) := H
 have A9 := zm A90
 clear A90
 obtain ⟨⟨t271, t272⟩, A100, H⟩ := zob H
 replace H : (if t266 = true then (if t270 = true then (impl_ParseWarning.j0 k a0 t244 t247 t265 t269 t271 (!t272)) else (impl_ParseWarning.j0 k a0 t244 t247 t265 t269 t271 true)) else (impl_ParseWarning.j0 k a0 t244 t247 t265 t269 t271 true)) = some (r1, r2, r3, r4, r5, r6, r7) := H
 have A10 := zm A100
 clear A100
 have HC11 := zm H
 clear H
 go_enter Tryz.func8, Tryz.ntmps8
 go_upto_region 10 with (first | ((with_reducible refine gate_dst (N := 2) rfl ?_); refine box_event ?hg (N := 2) ?hd (cs := #[.int .i64 0, .int .i64 0, .int .i64 0, .int .i64 0, .int .i64 0, .int .i64 0]) (t := 25) ?hr ?_; (case hd => rfl); (case hg => rfl); (case hr => exact zqS); intro gb243 hg w12 hbox hb; have BK243 := zm (hbox); have GW243 := zm ((by rw [hg]; exact (below_size zq0) : w.heap.size ≤ gb243)); replace HB := zm (below_step zq0 hb); have GE243 := GW243; clear hb hbox hg) | ((with_reducible refine gate_callee (f := 27) rfl ?_); refine goesL_ (some 27) rfl rfl Tryz.func27 (by kernel_rfl) rfl #[.string a0, .string (⟨#[32, 119, 97, 114, 110, 105, 110, 103, 32, 111, 102, 32]⟩ : ByteArray)] rfl zq1 ?_; (with_reducible refine (strings_Cut.calls a0 (⟨#[32, 119, 97, 114, 110, 105, 110, 103, 32, 111, 102, 32]⟩ : ByteArray) t244 t245 t246 _ (HTM.out.below zq3) A2.out).mono ?_); rintro e w13 ⟨rfl, hb⟩; refine ⟨_, rfl, ?_⟩; replace BK243 := zm (blk_below (g := gb243) (o := .cells #[.int .i64 0, .int .i64 0, .int .i64 0, .int .i64 0, .int .i64 0, .int .i64 0] 25 (0, 0)) (zqK BK243.out) hb); replace HB := zm (below_step zq4 hb); (try clear hb); (try clear hb2); (try clear hk); (try clear hi)) | ((with_reducible refine gate_callee (f := 27) rfl ?_); refine goesL_ (some 33) rfl rfl Tryz.func27 (by kernel_rfl) rfl #[.string t245, .string (⟨#[32, 102, 111, 114, 32, 97, 114, 101, 97, 32]⟩ : ByteArray)] rfl zq1 ?_; (with_reducible refine (strings_Cut.calls t245 (⟨#[32, 102, 111, 114, 32, 97, 114, 101, 97, 32]⟩ : ByteArray) t247 t248 t249 _ (HTM.out.below zq3) A3.out).mono ?_); rintro e w14 ⟨rfl, hb⟩; refine ⟨_, rfl, ?_⟩; replace BK243 := zm (blk_below (g := gb243) (o := .cells #[.int .i64 0, .int .i64 0, .int .i64 0, .int .i64 0, .int .i64 0, .int .i64 0] 25 (0, 0)) (zqK BK243.out) hb); replace HB := zm (below_step zq4 hb); (try clear hb); (try clear hb2); (try clear hk); (try clear hi)) | ((with_reducible refine gate_callee (f := 27) rfl ?_); refine goesL_ (some 39) rfl rfl Tryz.func27 (by kernel_rfl) rfl #[.string t248, .string (⟨#[32, 102, 114, 111, 109, 32]⟩ : ByteArray)] rfl zq1 ?_; (with_reducible refine (strings_Cut.calls t248 (⟨#[32, 102, 114, 111, 109, 32]⟩ : ByteArray) t250 t251 t252 _ (HTM.out.below zq3) A4.out).mono ?_); rintro e w15 ⟨rfl, hb⟩; refine ⟨_, rfl, ?_⟩; replace BK243 := zm (blk_below (g := gb243) (o := .cells #[.int .i64 0, .int .i64 0, .int .i64 0, .int .i64 0, .int .i64 0, .int .i64 0] 25 (0, 0)) (zqK BK243.out) hb); replace HB := zm (below_step zq4 hb); (try clear hb); (try clear hb2); (try clear hk); (try clear hi)) | ((with_reducible refine gate_callee (f := 27) rfl ?_); refine goesL_ (some 45) rfl rfl Tryz.func27 (by kernel_rfl) rfl #[.string t251, .string (⟨#[32, 117, 110, 116, 105, 108, 32]⟩ : ByteArray)] rfl zq1 ?_; (with_reducible refine (strings_Cut.calls t251 (⟨#[32, 117, 110, 116, 105, 108, 32]⟩ : ByteArray) t253 t254 t255 _ (HTM.out.below zq3) A5.out).mono ?_); rintro e w16 ⟨rfl, hb⟩; refine ⟨_, rfl, ?_⟩; replace BK243 := zm (blk_below (g := gb243) (o := .cells #[.int .i64 0, .int .i64 0, .int .i64 0, .int .i64 0, .int .i64 0, .int .i64 0] 25 (0, 0)) (zqK BK243.out) hb); replace HB := zm (below_step zq4 hb); (try clear hb); (try clear hb2); (try clear hk); (try clear hi)) | ((with_reducible refine gate_callee (f := 27) rfl ?_); refine goesL_ (some 51) rfl rfl Tryz.func27 (by kernel_rfl) rfl #[.string t254, .string (⟨#[32, 40, 110, 111, 46, 32]⟩ : ByteArray)] rfl zq1 ?_; (with_reducible refine (strings_Cut.calls t254 (⟨#[32, 40, 110, 111, 46, 32]⟩ : ByteArray) t256 t257 t258 _ (HTM.out.below zq3) A6.out).mono ?_); rintro e w17 ⟨rfl, hb⟩; refine ⟨_, rfl, ?_⟩; replace BK243 := zm (blk_below (g := gb243) (o := .cells #[.int .i64 0, .int .i64 0, .int .i64 0, .int .i64 0, .int .i64 0, .int .i64 0] 25 (0, 0)) (zqK BK243.out) hb); replace HB := zm (below_step zq4 hb); (try clear hb); (try clear hb2); (try clear hk); (try clear hi)) | ((with_reducible refine gate_callee (f := 27) rfl ?_); refine goesL_ (some 57) rfl rfl Tryz.func27 (by kernel_rfl) rfl #[.string t257, .string (⟨#[41, 46]⟩ : ByteArray)] rfl zq1 ?_; (with_reducible refine (strings_Cut.calls t257 (⟨#[41, 46]⟩ : ByteArray) t259 t260 t261 _ (HTM.out.below zq3) A7.out).mono ?_); rintro e w18 ⟨rfl, hb⟩; refine ⟨_, rfl, ?_⟩; replace BK243 := zm (blk_below (g := gb243) (o := .cells #[.int .i64 0, .int .i64 0, .int .i64 0, .int .i64 0, .int .i64 0, .int .i64 0] 25 (0, 0)) (zqK BK243.out) hb); replace HB := zm (below_step zq4 hb); (try clear hb); (try clear hb2); (try clear hk); (try clear hi)) | ((with_reducible refine gate_dst (N := 64) rfl ?_); refine Kd.R_lit Kd.string _ 9 ?hg (N := 64) ?hd (xs := ([t250, t259] : List ByteArray)) (inner := [.string t250, .string t259]) (ok := fun _ => True) (okp := fun _ => True) ?hr ?hp (fun _ hk => hk) trivial (Below.refl _ _) (Nat.le_refl _) (by simp) ?_; (case hd => rfl); (case hg => rfl); (case hr => exact zqS); (case hp => exact (Reps.one (show Kd.M Kd.string _ _ _ t250 [.string t250] from rfl) (Reps.one (show Kd.M Kd.string _ _ _ t259 [.string t259] from rfl) (Reps.none _ _)))); intro v263 w19 ho20 hb hg_ hnew_; clear hg_ hnew_; (first | rw [← Ny262.out] at ho20 | (simp only [Int.reduceToNat] at ho20; rw [← Ny262.out] at ho20)); have HO264 := zm (Kd.R_lower ho20 (below_size zq4)); replace BK243 := zm (blk_below (g := gb243) (o := .cells #[.int .i64 0, .int .i64 0, .int .i64 0, .int .i64 0, .int .i64 0, .int .i64 0] 25 (0, 0)) (zqK BK243.out) hb); replace HB := zm (below_step zq4 hb); clear hb ho20; obtain ⟨Ao21, co21, eo21⟩ := Kd.R_slice HO264.out; subst eo21) | ((with_reducible refine gate_callee (f := 28) rfl ?_); refine goesL_ (some 65) rfl rfl Tryz.func28 (by kernel_rfl) rfl #[.slice Ao21 y262.length co21] rfl zq1 ?_; (with_reducible refine (impl_readInts.calls k _ _ y262 t265 t266 _ (HTE.out.below zq3) (HTN.out.below zq3) ?side1 ?side2 A8.out).mono ?_); (case side1 => exact zqC (Kd.R_reads' HO264.out).2.2); (case side2 => exact (Kd.R_reads' HO264.out).2.1); rintro e w22 ⟨v267, rfl, ho0, hb⟩; refine ⟨_, rfl, ?_⟩; replace HO264 := zm (Kd.R_below (zqR HO264.out) hb); have HO268 := zm (Kd.R_lower ho0 (below_size zq4)); replace BK243 := zm (blk_below (g := gb243) (o := .cells #[.int .i64 0, .int .i64 0, .int .i64 0, .int .i64 0, .int .i64 0, .int .i64 0] 25 (0, 0)) (zqK BK243.out) hb); replace HB := zm (below_step zq4 hb); (try clear hb); (try clear hb2); (try clear hk); (try clear hi); (try clear ho0)) | ((with_reducible refine gate_callee (f := 20) rfl ?_); refine goesL_ (some 70) rfl rfl Tryz.func20 (by kernel_rfl) rfl #[.string t253] rfl zq1 ?_; (with_reducible refine (impl_ParseHour.calls k t253 t269 t270 _ (HTN.out.below zq3) A9.out).mono ?_); rintro e w23 ⟨rfl, hb⟩; refine ⟨_, rfl, ?_⟩; replace HO264 := zm (Kd.R_below (zqR HO264.out) hb); replace HO268 := zm (Kd.R_below (zqR HO268.out) hb); replace BK243 := zm (blk_below (g := gb243) (o := .cells #[.int .i64 0, .int .i64 0, .int .i64 0, .int .i64 0, .int .i64 0, .int .i64 0] 25 (0, 0)) (zqK BK243.out) hb); replace HB := zm (below_step zq4 hb); (try clear hb); (try clear hb2); (try clear hk); (try clear hi)) | ((with_reducible refine gate_callee (f := 20) rfl ?_); refine goesL_ (some 75) rfl rfl Tryz.func20 (by kernel_rfl) rfl #[.string t256] rfl zq1 ?_; (with_reducible refine (impl_ParseHour.calls k t256 t271 t272 _ (HTN.out.below zq3) A10.out).mono ?_); rintro e w24 ⟨rfl, hb⟩; refine ⟨_, rfl, ?_⟩; replace HO264 := zm (Kd.R_below (zqR HO264.out) hb); replace HO268 := zm (Kd.R_below (zqR HO268.out) hb); replace BK243 := zm (blk_below (g := gb243) (o := .cells #[.int .i64 0, .int .i64 0, .int .i64 0, .int .i64 0, .int .i64 0, .int .i64 0] 25 (0, 0)) (zqK BK243.out) hb); replace HB := zm (below_step zq4 hb); (try clear hb); (try clear hb2); (try clear hk); (try clear hi)))
 (try simp only [Act.put, List.setIfInBounds_toArray, List.set_cons_zero, List.set_cons_succ])
 go_cut [87] (fun v87 wc => ∃ (kq : Nat) (x87_10 : Bool), v87 = .bool x87_10 ∧ Aside0 (impl_ParseWarning.j0 kq a0 t244 t247 t265 t269 t271 x87_10 = some (r1, r2, r3, r4, r5, r6, r7)) ∧ Aside0 (kq ≤ k) ∧ Aside0 (Kd.R (Kd.int .i64) 3 wc w.heap.size (fun _ => True) v267 t265) ∧ Aside0 (wc.heap[gb243]? = some (.cells #[.int .i64 0, .int .i64 0, .int .i64 0, .int .i64 0, .int .i64 0, .int .i64 0] 25 (0, 0))) ∧ Aside0 (Below w.heap.size w wc))
 case first =>
  have H := HC11.out
  clear HC11
  by_cases c25 : t266 = true
  case neg =>
   replace c25 := Bool.eq_false_iff.mpr c25
   subst c25
   have H1 : (impl_ParseWarning.j0 k a0 t244 t247 t265 t269 t271 true) = some (r1, r2, r3, r4, r5, r6, r7) := by rw [if_neg (show ¬ (false = true) by decide)] at H; exact H
   clear H
   have H := H1
   clear H1
   have H' := zm H
   clear H
   go_wp2
   go_meet
   case rel => exact ⟨_, (true), (by first | rfl | (simp; done) | (simp [*]; done)), H', ⟨by first | omega | exact Nat.le_refl _⟩, ⟨zqR HO268.out⟩, ⟨by (with_reducible repeat (first | refine zN ?_ _ | refine zD ?_ | refine zL ?_ _)); exact BK243.out⟩, ⟨zq4⟩⟩
  subst c25
  have H1 : (if t270 = true then (impl_ParseWarning.j0 k a0 t244 t247 t265 t269 t271 (!t272)) else (impl_ParseWarning.j0 k a0 t244 t247 t265 t269 t271 true)) = some (r1, r2, r3, r4, r5, r6, r7) := by rw [if_pos rfl] at H; exact H
  clear H
  have H := H1
  clear H1
  by_cases c26 : t270 = true
  case pos =>
   subst c26
   have H1 : (impl_ParseWarning.j0 k a0 t244 t247 t265 t269 t271 (!t272)) = some (r1, r2, r3, r4, r5, r6, r7) := by rw [if_pos rfl] at H; exact H
   clear H
   have H := H1
   clear H1
   have H' := zm H
   clear H
   go_wp2
   go_meet
   case rel => exact ⟨_, (!t272), (by first | rfl | (simp; done) | (simp [*]; done)), H', ⟨by first | omega | exact Nat.le_refl _⟩, ⟨zqR HO268.out⟩, ⟨by (with_reducible repeat (first | refine zN ?_ _ | refine zD ?_ | refine zL ?_ _)); exact BK243.out⟩, ⟨zq4⟩⟩
  replace c26 := Bool.eq_false_iff.mpr c26
  subst c26
  have H1 : (impl_ParseWarning.j0 k a0 t244 t247 t265 t269 t271 true) = some (r1, r2, r3, r4, r5, r6, r7) := by rw [if_neg (show ¬ (false = true) by decide)] at H; exact H
  clear H
  have H := H1
  clear H1
  have H' := zm H
  clear H
  go_wp2
  go_meet
  case rel => exact ⟨_, (true), (by first | rfl | (simp; done) | (simp [*]; done)), H', ⟨by first | omega | exact Nat.le_refl _⟩, ⟨zqR HO268.out⟩, ⟨by (with_reducible repeat (first | refine zN ?_ _ | refine zD ?_ | refine zL ?_ _)); exact BK243.out⟩, ⟨zq4⟩⟩
 clear HC11
 try clear c2
 try clear p2
 try clear c8
 try clear c20
 try clear c25
 try clear c26
 obtain ⟨kq, x87_10, rfl, HA, HJ10, HO_18, BK243, HB⟩ := hcut
 cases kq with
 | zero => exact absurd HA.out (by simp [impl_ParseWarning.j0])
 | succ kj10 =>
  have H := HA.out
  clear HA
  simp only [impl_ParseWarning.j0] at H
  by_cases c27 : x87_10 = true
  case pos =>
   subst c27
   have H1 : (some (0, 0, 0, 0, 0, 0, false)) = some (r1, r2, r3, r4, r5, r6, r7) := by rw [if_pos rfl] at H; exact H
   clear H
   have H := H1
   clear H1
   simp only [Option.some.injEq, Prod.mk.injEq] at H
   obtain ⟨rfl, rfl, rfl, rfl, rfl, rfl, rfl⟩ := H
   obtain ⟨hcz28_0, hcz28_1, hcz28_2, hcz28_3, hcz28_4, hcz28_5, hfz28_0, hfz28_1, hfz28_2, hfz28_3, hfz28_4, hfz28_5⟩ := bz6 BK243.out
   go_wp2
   refine bodyPost_ret (results_ct rfl _ _ gb243 25 #[.int .i64 0, .int .i64 0, .int .i64 0, .int .i64 0, .int .i64 0, .int .i64 0] (0, 0) _ rfl zq18 Tryz.underlying25 rfl (by kernel_rfl)) rfl ?_
   exact ⟨zqE, zq4⟩
  replace c27 := Bool.eq_false_iff.mpr c27
  subst c27
  have H1 : (if 1 < (t265.length : Int) then ((slices_Index_h.f 0 t247).bind fun t274 => ((slices_Index_h.f 1 t244).bind fun t275 => (if 0 < (t265.length : Int) then ((impl_IsValidWarning.f (rd t265 1) t274 t275 (rd t265 0) t269 t271).bind fun t278 => (if t278 = true then ((impl_warningText.f (rd t265 1) t274 t275 (rd t265 0) t269 t271).bind fun t279 => (if t279.toList = a0.toList then (some (rd t265 1, t274, t275, rd t265 0, t269, t271, true)) else (some (0, 0, 0, 0, 0, 0, false)))) else (some (0, 0, 0, 0, 0, 0, false)))) else (none)))) else (none)) = some (r1, r2, r3, r4, r5, r6, r7) := by rw [if_neg (show ¬ (false = true) by decide)] at H; exact H
  clear H
  have H := H1
  clear H1
  by_cases c29 : 1 < (t265.length : Int)
  case neg =>
   rw [if_neg c29] at H
   exact absurd H (by simp)
  rw [if_pos c29] at H
  have c29b0 : decide (1 < (t265.length : Int)) = true := decide_eq_true c29
  have c29b1 : decide (1 < t265.length) = true := decide_eq_true (by omega)
  clear c29
  obtain ⟨t274, A300, H⟩ := zob H
  replace H : ((slices_Index_h.f 1 t244).bind fun t275 => (if 0 < (t265.length : Int) then ((impl_IsValidWarning.f (rd t265 1) t274 t275 (rd t265 0) t269 t271).bind fun t278 => (if t278 = true then ((impl_warningText.f (rd t265 1) t274 t275 (rd t265 0) t269 t271).bind fun t279 => (if t279.toList = a0.toList then (some (rd t265 1, t274, t275, rd t265 0, t269, t271, true)) else (some (0, 0, 0, 0, 0, 0, false)))) else (some (0, 0, 0, 0, 0, 0, false)))) else (none))) = some (r1, r2, r3, r4, r5, r6, r7) := H
  have A30 := zm A300
  clear A300
  obtain ⟨t275, A310, H⟩ := zob H
  replace H : (if 0 < (t265.length : Int) then ((impl_IsValidWarning.f (rd t265 1) t274 t275 (rd t265 0) t269 t271).bind fun t278 => (if t278 = true then ((impl_warningText.f (rd t265 1) t274 t275 (rd t265 0) t269 t271).bind fun t279 => (if t279.toList = a0.toList then (some (rd t265 1, t274, t275, rd t265 0, t269, t271, true)) else (some (0, 0, 0, 0, 0, 0, false)))) else (some (0, 0, 0, 0, 0, 0, false)))) else (none)) = some (r1, r2, r3, r4, r5, r6, r7) := H
  have A31 := zm A310
  clear A310
  by_cases c32 : 0 < (t265.length : Int)
  case neg =>
   rw [if_neg c32] at H
   exact absurd H (by simp)
  rw [if_pos c32] at H
  have c32b0 : decide (0 < (t265.length : Int)) = true := decide_eq_true c32
  have c32b1 : decide (0 < t265.length) = true := decide_eq_true (by omega)
  clear c32
  obtain ⟨t278, A330, H⟩ := zob H
  replace H : (if t278 = true then ((impl_warningText.f (rd t265 1) t274 t275 (rd t265 0) t269 t271).bind fun t279 => (if t279.toList = a0.toList then (some (rd t265 1, t274, t275, rd t265 0, t269, t271, true)) else (some (0, 0, 0, 0, 0, 0, false)))) else (some (0, 0, 0, 0, 0, 0, false))) = some (r1, r2, r3, r4, r5, r6, r7) := H
  have A33 := zm A330
  clear A330
  by_cases c34 : t278 = true
  case neg =>
   replace c34 := Bool.eq_false_iff.mpr c34
   subst c34
   have H1 : (some (0, 0, 0, 0, 0, 0, false)) = some (r1, r2, r3, r4, r5, r6, r7) := by rw [if_neg (show ¬ (false = true) by decide)] at H; exact H
   clear H
   have H := H1
   clear H1
   simp only [Option.some.injEq, Prod.mk.injEq] at H
   obtain ⟨rfl, rfl, rfl, rfl, rfl, rfl, rfl⟩ := H
   try go_wp2
   have n0_ := zm (Kd.R_drew HO_18.out)
   have n1_ := zm (zD BK243.out)
   have n2_ := zm (below_drew1 HB.out)
   clear HO_18
   clear BK243
   clear HB
   have HO_18 := n0_
   have BK243 := n1_
   have HB := n2_
   clear n0_ n1_ n2_
   obtain ⟨Ao75, co75, eo75⟩ := Kd.R_slice HO_18.out
   (first | subst eo75 | (injection eo75 with f1_ f2_ f3_; have f4_ := f1_.symm; have f5_ := f3_.symm; clear f1_ f2_ f3_; subst f4_; subst f5_))
   have p273 : 0 ≤ (1 : Int) := (by omega)
   have q273 : 1 < (t265.length : Int) := of_decide_eq_true zq8
   obtain ⟨ad273, e273, hx273_0⟩ := Kd.at_int (Kd.R_reads' HO_18.out).2.2 1 p273 q273
   cases e273
   (try simp only [show (1 : Int).toNat = 1 from rfl, Nat.reduceMul, Nat.reduceEqDiff, Go.Addr.add, ↓reduceIte] at hx273_0)
   have qi273 : (1 < t265.length) = True := eq_true (by omega)
   (try rw [show ((1 : Int)).toNat = 1 from rfl] at hx273_0)
   replace p273 := eq_true p273
   replace q273 := eq_true q273
   have p276 : 0 ≤ (0 : Int) := (by omega)
   have q276 : 0 < (t265.length : Int) := of_decide_eq_true zq8
   obtain ⟨ad276, e276, hx276_0⟩ := Kd.at_int (Kd.R_reads' HO_18.out).2.2 0 p276 q276
   obtain rfl : ad273 = ad276 := (by injection e276)
   have qi276 : (0 < t265.length) = True := eq_true (by omega)
   (try rw [show ((0 : Int)).toNat = 0 from rfl] at hx276_0)
   (try rw [Addr.add_zero'] at hx276_0)
   replace p276 := eq_true p276
   replace q276 := eq_true q276
   refine start_ (n := 17) (S := fun w' => w'.cell? ⟨ad273.block, ad273.off + 1, none⟩ = some (.int .i64 (rd t265 1)) ∧ w'.cell? ad273 = some (.int .i64 (rd t265 0))) (ds := []) #[zf, zf, zf, zf, zf, zf, zf, zf, zf, zf, zf, zf, zf, zf, zf, zf, zf] (by kernel_rfl) rfl rfl ⟨hx273_0, hx276_0⟩ (fun hHeld => ?_); refine with_tabW impl_ParseWarning.tab12 impl_ParseWarning.bits12 (fun HT_ HW_ => ?_)
   generalize wc.drew = w74 at HO_18 BK243 HB hx273_0 hx276_0 hHeld ⊢
   refine zP 0 (some 89) #[zt, zf, zf, zf, zf, zf, zf, zf, zf, zf, zf, zf, zf, zf, zf, zf, zf] ?_ rfl rfl HT_ (Or.inl ⟨by rfl, ?_⟩) ?_ ?_ ?_
   rotate_left; · exact zqB
   rotate_left; · exact zqA
   refine zP 1 (some 90) #[zt, zt, zf, zf, zf, zf, zf, zf, zf, zf, zf, zf, zf, zf, zf, zf, zf] ?_ rfl rfl HT_ (Or.inl ⟨by rfl, ?_⟩) ?_ ?_ ?_
   rotate_left; · exact zqB
   rotate_left; · exact zqA
   refine zP 3 (some 92) #[zt, zt, zf, zt, zf, zf, zf, zf, zf, zf, zf, zf, zf, zf, zf, zf, zf] ?_ rfl rfl HT_ (Or.inl ⟨by rfl, ?_⟩) ?_ ?_ ?_
   rotate_left; · exact zqB
   rotate_left; · exact zqA
   refine zP 4 (some 93) #[zt, zt, zf, zt, zt, zf, zf, zf, zf, zf, zf, zf, zf, zf, zf, zf, zf] ?_ rfl rfl HT_ (Or.inl ⟨by rfl, ?_⟩) ?_ ?_ ?_
   rotate_left; · exact zqB
   rotate_left; · exact zqA
   refine zP 6 (some 95) #[zt, zt, zf, zt, zt, zf, zt, zf, zf, zf, zf, zf, zf, zf, zf, zf, zf] ?_ rfl rfl HT_ (Or.inl ⟨by rfl, ?_⟩) ?_ ?_ ?_
   rotate_left; · exact zqB
   rotate_left; · exact zqA
   refine zP 7 (some 96) #[zt, zt, zf, zt, zt, zf, zt, zt, zf, zf, zf, zf, zf, zf, zf, zf, zf] ?_ rfl rfl HT_ (Or.inl ⟨by rfl, ?_⟩) ?_ ?_ ?_
   rotate_left; · exact zqB
   rotate_left; · exact zqA
   refine zP 9 (some 98) #[zt, zt, zf, zt, zt, zf, zt, zt, zf, zt, zf, zf, zf, zf, zf, zf, zf] ?_ rfl rfl HT_ (Or.inl ⟨by rfl, ?_⟩) ?_ ?_ ?_
   rotate_left; · exact zqB
   rotate_left; · exact zqA
   refine zP 10 (some 99) #[zt, zt, zf, zt, zt, zf, zt, zt, zf, zt, zt, zf, zf, zf, zf, zf, zf] ?_ rfl rfl HT_ (Or.inl ⟨by rfl, ?_⟩) ?_ ?_ ?_
   rotate_left; · exact zqB
   rotate_left; · exact zqA
   refine zP 12 (some 101) #[zt, zt, zf, zt, zt, zf, zt, zt, zf, zt, zt, zf, zt, zf, zf, zf, zf] ?_ rfl rfl HT_ (Or.inl ⟨by rfl, ?_⟩) ?_ ?_ ?_
   rotate_left; · exact zqB
   rotate_left; · exact zqA
   refine zP 13 (some 102) #[zt, zt, zf, zt, zt, zf, zt, zt, zf, zt, zt, zf, zt, zt, zf, zf, zf] ?_ rfl rfl HT_ (Or.inl ⟨by rfl, ?_⟩) ?_ ?_ ?_
   rotate_left; · exact zqB
   rotate_left; · exact zqA
   refine zT 2 (some 91) #[zt, zt, zt, zt, zt, zf, zt, zt, zf, zt, zt, zf, zt, zt, zf, zf, zf] ?_ rfl rfl HT_ HW_ (Or.inl ⟨by rfl, ?_⟩) hHeld ?_ ?_ ?_
   rotate_left
   ·
    rintro w' ⟨s0, s1⟩
    go_simp
    with_reducible rfl
   rotate_left; · exact zqA
   refine zT 11 (some 100) #[zt, zt, zt, zt, zt, zf, zt, zt, zf, zt, zt, zt, zt, zt, zf, zf, zf] ?_ rfl rfl HT_ HW_ (Or.inl ⟨by rfl, ?_⟩) hHeld ?_ ?_ ?_
   rotate_left
   ·
    rintro w' ⟨s0, s1⟩
    go_simp
    with_reducible rfl
   rotate_left; · exact zqA
   refine join_ (σ := Nat) 1 #[zt, zt, zt, zt, zt, zt, zt, zt, zt, zt, zt, zt, zt, zt, zt, zt, zf] (fun s_ => [(94, .int .i64 t274), (97, .int .i64 t275), (24, .pointer (some ⟨s_, 0, none⟩)), (103, .agg #[.int .i64 (rd t265 1), .int .i64 t274, .int .i64 t275, .int .i64 (rd t265 0), .int .i64 t269, .int .i64 t271])]) (fun s_ w' => (w'.cell? ⟨ad273.block, ad273.off + 1, none⟩ = some (.int .i64 (rd t265 1)) ∧ w'.cell? ad273 = some (.int .i64 (rd t265 0))) ∧ (Kd.R (Kd.int .i64) 3 w' w.heap.size (fun _ => True) (.slice (some ad273) t265.length co75) t265) ∧ (w'.heap[gb243]? = some (.cells #[.int .i64 0, .int .i64 0, .int .i64 0, .int .i64 0, .int .i64 0, .int .i64 0] 25 (0, 0))) ∧ (w'.heap[s_]? = some (.cells #[.int .i64 0, .int .i64 0, .int .i64 0, .int .i64 0, .int .i64 0, .int .i64 0] 25 (0, 0))) ∧ (w.heap.size ≤ s_) ∧ (w.heap.size ≤ s_) ∧ (gb243 ≠ s_) ∧ (s_ ≠ gb243) ∧ (Below w.heap.size w w')) ?_ ?_
   rotate_left
   ·
    intro hCont
    refine two_ (i := 5) (j := 15) (Ni := some 94) (Nj := some 24) #[zt, zt, zt, zt, zt, zt, zt, zt, zf, zt, zt, zt, zt, zt, zf, zf, zf] #[zt, zt, zt, zt, zt, zf, zt, zt, zf, zt, zt, zt, zt, zt, zf, zt, zf] rfl rfl rfl rfl (two_of HT_.out (by kernel_rfl)) (by decide) (by decide) (fun K hK => ?_) (fun K hK => ?_)
    ·
     skip
     refine goes_ Tryz.func29 (by kernel_rfl) rfl #[.slice (some ⟨0, 0, none⟩) 6 6, .string t247] (by rfl) rfl rfl zq1 ?_
     with_reducible refine (slices_Index_h.calls0 t247 t274 _ (HTL.out.below zq3) (HTO.out.below zq3) A30.out).mono ?_
     rintro e w76 ⟨rfl, hb⟩
     have HS0_ := (hb.cell (World.block_lt_of_cell? _ _ (hHeld.1))).trans (hHeld.1)
     have HS1_ := (hb.cell (World.block_lt_of_cell? _ _ (hHeld.2))).trans (hHeld.2)
     refine ⟨_, rfl, ?_⟩
     have n0_ := zm (Kd.R_below (zqR HO_18.out) hb)
     have n1_ := zm (blk_below (g := gb243) (o := .cells #[.int .i64 0, .int .i64 0, .int .i64 0, .int .i64 0, .int .i64 0, .int .i64 0] 25 (0, 0)) (zqK BK243.out) hb)
     have n2_ := zm (below_step zq4 hb)
     clear HO_18
     clear BK243
     clear HB
     have HO_18 := n0_
     have BK243 := n1_
     have HB := n2_
     clear n0_ n1_ n2_
     (try clear hb)
     (try clear hb2)
     (try clear hk)
     (try clear hi)
     refine hK.out _ _ ⟨HS0_, HS1_⟩ (fun hHeld => ?_)
     clear hK K
     refine norm_ (a' := ?_) ?_ ?_
     rotate_left
     ·
      show Act.put _ (some 94) _ = _
      simp only [Act.put, List.setIfInBounds_toArray, List.set_cons_zero, List.set_cons_succ, i64_w, i32_w]
      rfl
     refine two_ (i := 8) (j := 15) (Ni := some 97) (Nj := some 24) #[zt, zt, zt, zt, zt, zt, zt, zt, zt, zt, zt, zt, zt, zt, zf, zf, zf] #[zt, zt, zt, zt, zt, zt, zt, zt, zf, zt, zt, zt, zt, zt, zf, zt, zf] rfl rfl rfl rfl (two_of HT_.out (by kernel_rfl)) (by decide) (by decide) (fun K hK => ?_) (fun K hK => ?_)
     ·
      skip
      refine goes_ Tryz.func29 (by kernel_rfl) rfl #[.slice (some ⟨1, 0, none⟩) 4 4, .string t244] (by rfl) rfl rfl zq1 ?_
      with_reducible refine (slices_Index_h.calls1 t244 t275 _ (HTL.out.below zq3) (HTO.out.below zq3) A31.out).mono ?_
      rintro e w77 ⟨rfl, hb⟩
      have HS0_ := (hb.cell (World.block_lt_of_cell? _ _ (hHeld.1))).trans (hHeld.1)
      have HS1_ := (hb.cell (World.block_lt_of_cell? _ _ (hHeld.2))).trans (hHeld.2)
      refine ⟨_, rfl, ?_⟩
      have n0_ := zm (Kd.R_below (zqR HO_18.out) hb)
      have n1_ := zm (blk_below (g := gb243) (o := .cells #[.int .i64 0, .int .i64 0, .int .i64 0, .int .i64 0, .int .i64 0, .int .i64 0] 25 (0, 0)) (zqK BK243.out) hb)
      have n2_ := zm (below_step zq4 hb)
      clear HO_18
      clear BK243
      clear HB
      have HO_18 := n0_
      have BK243 := n1_
      have HB := n2_
      clear n0_ n1_ n2_
      (try clear hb)
      (try clear hb2)
      (try clear hk)
      (try clear hi)
      refine hK.out _ _ ⟨HS0_, HS1_⟩ (fun hHeld => ?_)
      clear hK K
      refine norm_ (a' := ?_) ?_ ?_
      rotate_left
      ·
       show Act.put _ (some 97) _ = _
       simp only [Act.put, List.setIfInBounds_toArray, List.set_cons_zero, List.set_cons_succ, i64_w, i32_w]
       rfl
      refine zP 14 (some 103) #[zt, zt, zt, zt, zt, zt, zt, zt, zt, zt, zt, zt, zt, zt, zt, zf, zf] ?_ rfl rfl HT_ (Or.inl ⟨by rfl, ?_⟩) ?_ ?_ ?_
      rotate_left; · exact zqB
      rotate_left; · exact zqA
      refine one_ (i := 15) (N := some 24) #[zt, zt, zt, zt, zt, zt, zt, zt, zt, zt, zt, zt, zt, zt, zt, zt, zf] rfl rfl (one_of HT_.out (by kernel_rfl)) (by decide) (fun K hK => ?_)
      refine box_step ?hg (N := 24) ?hd (cs := #[.int .i64 0, .int .i64 0, .int .i64 0, .int .i64 0, .int .i64 0, .int .i64 0]) (t := 25) ?hr ?_; (case hd => rfl); (case hg => rfl); (case hr => exact zqS)
      intro gb277 hg w78 hbox hb
      have HS0_ := (hb.cell (World.block_lt_of_cell? _ _ (hHeld.1))).trans (hHeld.1)
      have HS1_ := (hb.cell (World.block_lt_of_cell? _ _ (hHeld.2))).trans (hHeld.2)
      have n0_ := zm (Kd.R_below (zqR HO_18.out) hb)
      have n1_ := zm (blk_below (g := gb243) (o := .cells #[.int .i64 0, .int .i64 0, .int .i64 0, .int .i64 0, .int .i64 0, .int .i64 0] 25 (0, 0)) (zqK BK243.out) hb)
      have n2_ := zm (below_step zq4 hb)
      have n3_ := zm (hbox)
      have n4_ := zm ((by rw [hg]; exact (below_size zq4) : w.heap.size ≤ gb277))
      have n5_ := zm ((by rw [hg]; exact (below_size zq4) : w.heap.size ≤ gb277))
      have n6_ := zm ((by rw [hg]; exact Nat.ne_of_lt (blk_lt (g := gb243) (o := .cells #[.int .i64 0, .int .i64 0, .int .i64 0, .int .i64 0, .int .i64 0, .int .i64 0] 25 (0, 0)) (zqK BK243.out)) : gb243 ≠ gb277))
      have n7_ := zm ((by rw [hg]; exact Nat.ne_of_gt (blk_lt (g := gb243) (o := .cells #[.int .i64 0, .int .i64 0, .int .i64 0, .int .i64 0, .int .i64 0, .int .i64 0] 25 (0, 0)) (zqK BK243.out)) : gb277 ≠ gb243))
      clear HO_18
      clear BK243
      clear HB
      have HO_18 := n0_
      have BK243 := n1_
      have HB := n2_
      have BK277 := n3_
      have GW277 := n4_
      have GE277 := n5_
      have NB243_277 := n6_
      have NB277_243 := n7_
      clear n0_ n1_ n2_ n3_ n4_ n5_ n6_ n7_
      clear hb hbox hg
      refine hK.out _ _ ⟨HS0_, HS1_⟩ (fun hHeld => ?_)
      clear hK K
      refine norm_ (a' := ?_) ?_ ?_
      rotate_left
      ·
       show Act.put _ (some 24) _ = _
       simp only [Act.put, List.setIfInBounds_toArray, List.set_cons_zero, List.set_cons_succ, i64_w, i32_w]
       rfl
      exact norm_ (by simp only [putAll, Act.put, List.setIfInBounds_toArray, List.set_cons_zero, List.set_cons_succ]) (hCont (gb277) _ ⟨hHeld, (zqR HO_18.out), (zqK BK243.out), (zqK BK277.out), GW277.out, GE277.out, NB243_277.out, NB277_243.out, zq3⟩)
     ·
      skip
      refine box_step ?hg (N := 24) ?hd (cs := #[.int .i64 0, .int .i64 0, .int .i64 0, .int .i64 0, .int .i64 0, .int .i64 0]) (t := 25) ?hr ?_; (case hd => rfl); (case hg => rfl); (case hr => exact zqS)
      intro gb277 hg w77 hbox hb
      have HS0_ := (hb.cell (World.block_lt_of_cell? _ _ (hHeld.1))).trans (hHeld.1)
      have HS1_ := (hb.cell (World.block_lt_of_cell? _ _ (hHeld.2))).trans (hHeld.2)
      have n0_ := zm (Kd.R_below (zqR HO_18.out) hb)
      have n1_ := zm (blk_below (g := gb243) (o := .cells #[.int .i64 0, .int .i64 0, .int .i64 0, .int .i64 0, .int .i64 0, .int .i64 0] 25 (0, 0)) (zqK BK243.out) hb)
      have n2_ := zm (below_step zq4 hb)
      have n3_ := zm (hbox)
      have n4_ := zm ((by rw [hg]; exact (below_size zq4) : w.heap.size ≤ gb277))
      have n5_ := zm ((by rw [hg]; exact (below_size zq4) : w.heap.size ≤ gb277))
      have n6_ := zm ((by rw [hg]; exact Nat.ne_of_lt (blk_lt (g := gb243) (o := .cells #[.int .i64 0, .int .i64 0, .int .i64 0, .int .i64 0, .int .i64 0, .int .i64 0] 25 (0, 0)) (zqK BK243.out)) : gb243 ≠ gb277))
      have n7_ := zm ((by rw [hg]; exact Nat.ne_of_gt (blk_lt (g := gb243) (o := .cells #[.int .i64 0, .int .i64 0, .int .i64 0, .int .i64 0, .int .i64 0, .int .i64 0] 25 (0, 0)) (zqK BK243.out)) : gb277 ≠ gb243))
      clear HO_18
      clear BK243
      clear HB
      have HO_18 := n0_
      have BK243 := n1_
      have HB := n2_
      have BK277 := n3_
      have GW277 := n4_
      have GE277 := n5_
      have NB243_277 := n6_
      have NB277_243 := n7_
      clear n0_ n1_ n2_ n3_ n4_ n5_ n6_ n7_
      clear hb hbox hg
      refine hK.out _ _ ⟨HS0_, HS1_⟩ (fun hHeld => ?_)
      clear hK K
      refine norm_ (a' := ?_) ?_ ?_
      rotate_left
      ·
       show Act.put _ (some 24) _ = _
       simp only [Act.put, List.setIfInBounds_toArray, List.set_cons_zero, List.set_cons_succ, i64_w, i32_w]
       rfl
      refine one_ (i := 8) (N := some 97) #[zt, zt, zt, zt, zt, zt, zt, zt, zt, zt, zt, zt, zt, zt, zf, zt, zf] rfl rfl (one_of HT_.out (by kernel_rfl)) (by decide) (fun K hK => ?_)
      refine goes_ Tryz.func29 (by kernel_rfl) rfl #[.slice (some ⟨1, 0, none⟩) 4 4, .string t244] (by rfl) rfl rfl zq1 ?_
      with_reducible refine (slices_Index_h.calls1 t244 t275 _ (HTL.out.below zq3) (HTO.out.below zq3) A31.out).mono ?_
      rintro e w78 ⟨rfl, hb⟩
      have HS0_ := (hb.cell (World.block_lt_of_cell? _ _ (hHeld.1))).trans (hHeld.1)
      have HS1_ := (hb.cell (World.block_lt_of_cell? _ _ (hHeld.2))).trans (hHeld.2)
      refine ⟨_, rfl, ?_⟩
      have n0_ := zm (Kd.R_below (zqR HO_18.out) hb)
      have n1_ := zm (blk_below (g := gb243) (o := .cells #[.int .i64 0, .int .i64 0, .int .i64 0, .int .i64 0, .int .i64 0, .int .i64 0] 25 (0, 0)) (zqK BK243.out) hb)
      have n2_ := zm (blk_below (g := gb277) (o := .cells #[.int .i64 0, .int .i64 0, .int .i64 0, .int .i64 0, .int .i64 0, .int .i64 0] 25 (0, 0)) (zqK BK277.out) hb)
      have n3_ := zm (below_step zq3 hb)
      clear HO_18
      clear BK243
      clear BK277
      clear HB
      have HO_18 := n0_
      have BK243 := n1_
      have BK277 := n2_
      have HB := n3_
      clear n0_ n1_ n2_ n3_
      (try clear hb)
      (try clear hb2)
      (try clear hk)
      (try clear hi)
      refine hK.out _ _ ⟨HS0_, HS1_⟩ (fun hHeld => ?_)
      clear hK K
      refine norm_ (a' := ?_) ?_ ?_
      rotate_left
      ·
       show Act.put _ (some 97) _ = _
       simp only [Act.put, List.setIfInBounds_toArray, List.set_cons_zero, List.set_cons_succ, i64_w, i32_w]
       rfl
      refine zP 14 (some 103) #[zt, zt, zt, zt, zt, zt, zt, zt, zt, zt, zt, zt, zt, zt, zt, zt, zf] ?_ rfl rfl HT_ (Or.inl ⟨by rfl, ?_⟩) ?_ ?_ ?_
      rotate_left; · exact zqB
      rotate_left; · exact zqA
      exact norm_ (by simp only [putAll, Act.put, List.setIfInBounds_toArray, List.set_cons_zero, List.set_cons_succ]) (hCont (gb277) _ ⟨hHeld, (zqR HO_18.out), (zqK BK243.out), (zqK BK277.out), GW277.out, GE277.out, NB243_277.out, NB277_243.out, zq3⟩)
    ·
     skip
     refine box_step ?hg (N := 24) ?hd (cs := #[.int .i64 0, .int .i64 0, .int .i64 0, .int .i64 0, .int .i64 0, .int .i64 0]) (t := 25) ?hr ?_; (case hd => rfl); (case hg => rfl); (case hr => exact zqS)
     intro gb277 hg w76 hbox hb
     have HS0_ := (hb.cell (World.block_lt_of_cell? _ _ (hHeld.1))).trans (hHeld.1)
     have HS1_ := (hb.cell (World.block_lt_of_cell? _ _ (hHeld.2))).trans (hHeld.2)
     have n0_ := zm (Kd.R_below (zqR HO_18.out) hb)
     have n1_ := zm (blk_below (g := gb243) (o := .cells #[.int .i64 0, .int .i64 0, .int .i64 0, .int .i64 0, .int .i64 0, .int .i64 0] 25 (0, 0)) (zqK BK243.out) hb)
     have n2_ := zm (below_step zq4 hb)
     have n3_ := zm (hbox)
     have n4_ := zm ((by rw [hg]; exact (below_size zq4) : w.heap.size ≤ gb277))
     have n5_ := zm ((by rw [hg]; exact (below_size zq4) : w.heap.size ≤ gb277))
     have n6_ := zm ((by rw [hg]; exact Nat.ne_of_lt (blk_lt (g := gb243) (o := .cells #[.int .i64 0, .int .i64 0, .int .i64 0, .int .i64 0, .int .i64 0, .int .i64 0] 25 (0, 0)) (zqK BK243.out)) : gb243 ≠ gb277))
     have n7_ := zm ((by rw [hg]; exact Nat.ne_of_gt (blk_lt (g := gb243) (o := .cells #[.int .i64 0, .int .i64 0, .int .i64 0, .int .i64 0, .int .i64 0, .int .i64 0] 25 (0, 0)) (zqK BK243.out)) : gb277 ≠ gb243))
     clear HO_18
     clear BK243
     clear HB
     have HO_18 := n0_
     have BK243 := n1_
     have HB := n2_
     have BK277 := n3_
     have GW277 := n4_
     have GE277 := n5_
     have NB243_277 := n6_
     have NB277_243 := n7_
     clear n0_ n1_ n2_ n3_ n4_ n5_ n6_ n7_
     clear hb hbox hg
     refine hK.out _ _ ⟨HS0_, HS1_⟩ (fun hHeld => ?_)
     clear hK K
     refine norm_ (a' := ?_) ?_ ?_
     rotate_left
     ·
      show Act.put _ (some 24) _ = _
      simp only [Act.put, List.setIfInBounds_toArray, List.set_cons_zero, List.set_cons_succ, i64_w, i32_w]
      rfl
     refine one_ (i := 5) (N := some 94) #[zt, zt, zt, zt, zt, zt, zt, zt, zf, zt, zt, zt, zt, zt, zf, zt, zf] rfl rfl (one_of HT_.out (by kernel_rfl)) (by decide) (fun K hK => ?_)
     refine goes_ Tryz.func29 (by kernel_rfl) rfl #[.slice (some ⟨0, 0, none⟩) 6 6, .string t247] (by rfl) rfl rfl zq1 ?_
     with_reducible refine (slices_Index_h.calls0 t247 t274 _ (HTL.out.below zq3) (HTO.out.below zq3) A30.out).mono ?_
     rintro e w77 ⟨rfl, hb⟩
     have HS0_ := (hb.cell (World.block_lt_of_cell? _ _ (hHeld.1))).trans (hHeld.1)
     have HS1_ := (hb.cell (World.block_lt_of_cell? _ _ (hHeld.2))).trans (hHeld.2)
     refine ⟨_, rfl, ?_⟩
     have n0_ := zm (Kd.R_below (zqR HO_18.out) hb)
     have n1_ := zm (blk_below (g := gb243) (o := .cells #[.int .i64 0, .int .i64 0, .int .i64 0, .int .i64 0, .int .i64 0, .int .i64 0] 25 (0, 0)) (zqK BK243.out) hb)
     have n2_ := zm (blk_below (g := gb277) (o := .cells #[.int .i64 0, .int .i64 0, .int .i64 0, .int .i64 0, .int .i64 0, .int .i64 0] 25 (0, 0)) (zqK BK277.out) hb)
     have n3_ := zm (below_step zq3 hb)
     clear HO_18
     clear BK243
     clear BK277
     clear HB
     have HO_18 := n0_
     have BK243 := n1_
     have BK277 := n2_
     have HB := n3_
     clear n0_ n1_ n2_ n3_
     (try clear hb)
     (try clear hb2)
     (try clear hk)
     (try clear hi)
     refine hK.out _ _ ⟨HS0_, HS1_⟩ (fun hHeld => ?_)
     clear hK K
     refine norm_ (a' := ?_) ?_ ?_
     rotate_left
     ·
      show Act.put _ (some 94) _ = _
      simp only [Act.put, List.setIfInBounds_toArray, List.set_cons_zero, List.set_cons_succ, i64_w, i32_w]
      rfl
     refine one_ (i := 8) (N := some 97) #[zt, zt, zt, zt, zt, zt, zt, zt, zt, zt, zt, zt, zt, zt, zf, zt, zf] rfl rfl (one_of HT_.out (by kernel_rfl)) (by decide) (fun K hK => ?_)
     refine goes_ Tryz.func29 (by kernel_rfl) rfl #[.slice (some ⟨1, 0, none⟩) 4 4, .string t244] (by rfl) rfl rfl zq1 ?_
     with_reducible refine (slices_Index_h.calls1 t244 t275 _ (HTL.out.below zq3) (HTO.out.below zq3) A31.out).mono ?_
     rintro e w78 ⟨rfl, hb⟩
     have HS0_ := (hb.cell (World.block_lt_of_cell? _ _ (hHeld.1))).trans (hHeld.1)
     have HS1_ := (hb.cell (World.block_lt_of_cell? _ _ (hHeld.2))).trans (hHeld.2)
     refine ⟨_, rfl, ?_⟩
     have n0_ := zm (Kd.R_below (zqR HO_18.out) hb)
     have n1_ := zm (blk_below (g := gb243) (o := .cells #[.int .i64 0, .int .i64 0, .int .i64 0, .int .i64 0, .int .i64 0, .int .i64 0] 25 (0, 0)) (zqK BK243.out) hb)
     have n2_ := zm (blk_below (g := gb277) (o := .cells #[.int .i64 0, .int .i64 0, .int .i64 0, .int .i64 0, .int .i64 0, .int .i64 0] 25 (0, 0)) (zqK BK277.out) hb)
     have n3_ := zm (below_step zq3 hb)
     clear HO_18
     clear BK243
     clear BK277
     clear HB
     have HO_18 := n0_
     have BK243 := n1_
     have BK277 := n2_
     have HB := n3_
     clear n0_ n1_ n2_ n3_
     (try clear hb)
     (try clear hb2)
     (try clear hk)
     (try clear hi)
     refine hK.out _ _ ⟨HS0_, HS1_⟩ (fun hHeld => ?_)
     clear hK K
     refine norm_ (a' := ?_) ?_ ?_
     rotate_left
     ·
      show Act.put _ (some 97) _ = _
      simp only [Act.put, List.setIfInBounds_toArray, List.set_cons_zero, List.set_cons_succ, i64_w, i32_w]
      rfl
     refine zP 14 (some 103) #[zt, zt, zt, zt, zt, zt, zt, zt, zt, zt, zt, zt, zt, zt, zt, zt, zf] ?_ rfl rfl HT_ (Or.inl ⟨by rfl, ?_⟩) ?_ ?_ ?_
     rotate_left; · exact zqB
     rotate_left; · exact zqA
     exact norm_ (by simp only [putAll, Act.put, List.setIfInBounds_toArray, List.set_cons_zero, List.set_cons_succ]) (hCont (gb277) _ ⟨hHeld, (zqR HO_18.out), (zqK BK243.out), (zqK BK277.out), GW277.out, GE277.out, NB243_277.out, NB277_243.out, zq3⟩)
   rintro gb277 w79 ⟨hS_, h0_, h1_, h2_, h3_, h4_, h5_, h6_, h7_⟩
   have n0_ : Aside0 (Kd.R (Kd.int .i64) 3 w79 w.heap.size (fun _ => True) (.slice (some ad273) t265.length co75) t265) := ⟨h0_⟩
   have n1_ : Aside0 (w79.heap[gb243]? = some (.cells #[.int .i64 0, .int .i64 0, .int .i64 0, .int .i64 0, .int .i64 0, .int .i64 0] 25 (0, 0))) := ⟨h1_⟩
   have n2_ : Aside0 (w79.heap[gb277]? = some (.cells #[.int .i64 0, .int .i64 0, .int .i64 0, .int .i64 0, .int .i64 0, .int .i64 0] 25 (0, 0))) := ⟨h2_⟩
   have n3_ : Aside0 (w.heap.size ≤ gb277) := ⟨h3_⟩
   have n4_ : Aside0 (w.heap.size ≤ gb277) := ⟨h4_⟩
   have n5_ : Aside0 (gb243 ≠ gb277) := ⟨h5_⟩
   have n6_ : Aside0 (gb277 ≠ gb243) := ⟨h6_⟩
   have n7_ : Aside0 (Below w.heap.size w w79) := ⟨h7_⟩
   clear HO_18
   clear BK243
   clear HB
   clear h0_ h1_ h2_ h3_ h4_ h5_ h6_ h7_
   have HO_18 := n0_
   have BK243 := n1_
   have BK277 := n2_
   have GW277 := n3_
   have GE277 := n4_
   have NB243_277 := n5_
   have NB277_243 := n6_
   have HB := n7_
   clear n0_ n1_ n2_ n3_ n4_ n5_ n6_ n7_
   have hHeld : w79.cell? ⟨ad273.block, ad273.off + 1, none⟩ = some (.int .i64 (rd t265 1)) ∧ w79.cell? ad273 = some (.int .i64 (rd t265 0)) := hS_
   refine norm_ (a' := ?_) ?_ ?_
   rotate_left
   ·
    simp only [putAll, Act.put, List.setIfInBounds_toArray, List.set_cons_zero, List.set_cons_succ]
    rfl
   refine one_ (i := 16) (N := none) #[zt, zt, zt, zt, zt, zt, zt, zt, zt, zt, zt, zt, zt, zt, zt, zt, zt] rfl rfl (one_of HT_.out (by kernel_rfl)) (by decide) (fun K hK => ?_)
   have hs80 : w79.cell? ⟨gb277, 0, none⟩ = some (.int .i64 0) := (blk_cell BK277.out 0).trans rfl
   have hfs80 := blk_frozen BK277.out 0
   have hns80_0 := NB243_277.out
   have hms80_0 := NB277_243.out
   have hs81 : w79.cell? ⟨gb277, 1, none⟩ = some (.int .i64 0) := (blk_cell BK277.out 1).trans rfl
   have hfs81 := blk_frozen BK277.out 1
   have hns81_0 := NB243_277.out
   have hms81_0 := NB277_243.out
   have hs82 : w79.cell? ⟨gb277, 2, none⟩ = some (.int .i64 0) := (blk_cell BK277.out 2).trans rfl
   have hfs82 := blk_frozen BK277.out 2
   have hns82_0 := NB243_277.out
   have hms82_0 := NB277_243.out
   have hs83 : w79.cell? ⟨gb277, 3, none⟩ = some (.int .i64 0) := (blk_cell BK277.out 3).trans rfl
   have hfs83 := blk_frozen BK277.out 3
   have hns83_0 := NB243_277.out
   have hms83_0 := NB277_243.out
   have hs84 : w79.cell? ⟨gb277, 4, none⟩ = some (.int .i64 0) := (blk_cell BK277.out 4).trans rfl
   have hfs84 := blk_frozen BK277.out 4
   have hns84_0 := NB243_277.out
   have hms84_0 := NB277_243.out
   have hs85 : w79.cell? ⟨gb277, 5, none⟩ = some (.int .i64 0) := (blk_cell BK277.out 5).trans rfl
   have hfs85 := blk_frozen BK277.out 5
   have hns85_0 := NB243_277.out
   have hms85_0 := NB277_243.out
   refine skip_ (w1 := ?_) (by rfl) rfl ?_ ?_
   rotate_left
   ·
    go_simp
    rfl
   refine hK.out _ _ ⟨far6 hHeld.1 zq49 _ _ _ _ _ _, far6 hHeld.2 zq49 _ _ _ _ _ _⟩ (fun hHeld => ?_)
   clear hK K
   refine done_ (done_of HT_.out (by kernel_rfl)) ?_
   have hnb86 := NB277_243.out
   have hnc86 := NB243_277.out
   obtain ⟨hcz87_0, hcz87_1, hcz87_2, hcz87_3, hcz87_4, hcz87_5, hfz87_0, hfz87_1, hfz87_2, hfz87_3, hfz87_4, hfz87_5⟩ := bz6 BK277.out
   try go_wp2_with (first | ((with_reducible refine gate_callee (f := 23) rfl ?_); refine goesL_ (some 105) rfl rfl Tryz.func23 (by kernel_rfl) rfl #[.agg #[.int .i64 (rd t265 1), .int .i64 t274, .int .i64 t275, .int .i64 (rd t265 0), .int .i64 t269, .int .i64 t271]] rfl zq1 ?_; (with_reducible refine (impl_IsValidWarning.calls (rd t265 1) t274 t275 (rd t265 0) t269 t271 false _ A33.out).mono ?_); rintro e w88 ⟨rfl, hb⟩; refine ⟨_, rfl, ?_⟩; replace HO_18 := zm (Kd.R_below zq38 hb); replace BK243 := zm (blk_below (g := gb243) (o := .cells #[.int .i64 0, .int .i64 0, .int .i64 0, .int .i64 0, .int .i64 0, .int .i64 0] 25 (0, 0)) zq24 hb); replace BK277 := zm (blk_below (g := gb277) (o := .cells #[.int .i64 (rd t265 1), .int .i64 t274, .int .i64 t275, .int .i64 (rd t265 0), .int .i64 t269, .int .i64 t271] 25 (0, 0)) zq16 hb); replace HB := zm (below_step zq3 hb); (try clear hb); (try clear hb2); (try clear hk); (try clear hi); obtain ⟨hcz89_0, hcz89_1, hcz89_2, hcz89_3, hcz89_4, hcz89_5, hfz89_0, hfz89_1, hfz89_2, hfz89_3, hfz89_4, hfz89_5⟩ := bz6 BK243.out))
   refine bodyPost_ret (results_ct rfl _ _ gb243 25 #[.int .i64 0, .int .i64 0, .int .i64 0, .int .i64 0, .int .i64 0, .int .i64 0] (0, 0) _ rfl zq18 Tryz.underlying25 rfl (by kernel_rfl)) rfl ?_
   exact ⟨zqE, zq3⟩
  subst c34
  have H1 : ((impl_warningText.f (rd t265 1) t274 t275 (rd t265 0) t269 t271).bind fun t279 => (if t279.toList = a0.toList then (some (rd t265 1, t274, t275, rd t265 0, t269, t271, true)) else (some (0, 0, 0, 0, 0, 0, false)))) = some (r1, r2, r3, r4, r5, r6, r7) := by rw [if_pos rfl] at H; exact H
  clear H
  have H := H1
  clear H1
  obtain ⟨t279, A350, H⟩ := zob H
  replace H : (if t279.toList = a0.toList then (some (rd t265 1, t274, t275, rd t265 0, t269, t271, true)) else (some (0, 0, 0, 0, 0, 0, false))) = some (r1, r2, r3, r4, r5, r6, r7) := H
  have A35 := zm A350
  clear A350
  by_cases c36 : t279.toList = a0.toList
  case neg =>
   rw [if_neg c36] at H
   have c36b0 : (t279.toList == a0.toList) = false := beq_eq_false_iff_ne.mpr c36
   have c36b1 : (t279.toList != a0.toList) = true := bne_iff_ne.mpr c36
   simp only [Option.some.injEq, Prod.mk.injEq] at H
   obtain ⟨rfl, rfl, rfl, rfl, rfl, rfl, rfl⟩ := H
   try go_wp2
   have n0_ := zm (Kd.R_drew HO_18.out)
   have n1_ := zm (zD BK243.out)
   have n2_ := zm (below_drew1 HB.out)
   clear HO_18
   clear BK243
   clear HB
   have HO_18 := n0_
   have BK243 := n1_
   have HB := n2_
   clear n0_ n1_ n2_
   obtain ⟨Ao57, co57, eo57⟩ := Kd.R_slice HO_18.out
   (first | subst eo57 | (injection eo57 with f1_ f2_ f3_; have f4_ := f1_.symm; have f5_ := f3_.symm; clear f1_ f2_ f3_; subst f4_; subst f5_))
   have p273 : 0 ≤ (1 : Int) := (by omega)
   have q273 : 1 < (t265.length : Int) := of_decide_eq_true zq8
   obtain ⟨ad273, e273, hx273_0⟩ := Kd.at_int (Kd.R_reads' HO_18.out).2.2 1 p273 q273
   cases e273
   (try simp only [show (1 : Int).toNat = 1 from rfl, Nat.reduceMul, Nat.reduceEqDiff, Go.Addr.add, ↓reduceIte] at hx273_0)
   have qi273 : (1 < t265.length) = True := eq_true (by omega)
   (try rw [show ((1 : Int)).toNat = 1 from rfl] at hx273_0)
   replace p273 := eq_true p273
   replace q273 := eq_true q273
   have p276 : 0 ≤ (0 : Int) := (by omega)
   have q276 : 0 < (t265.length : Int) := of_decide_eq_true zq8
   obtain ⟨ad276, e276, hx276_0⟩ := Kd.at_int (Kd.R_reads' HO_18.out).2.2 0 p276 q276
   obtain rfl : ad273 = ad276 := (by injection e276)
   have qi276 : (0 < t265.length) = True := eq_true (by omega)
   (try rw [show ((0 : Int)).toNat = 0 from rfl] at hx276_0)
   (try rw [Addr.add_zero'] at hx276_0)
   replace p276 := eq_true p276
   replace q276 := eq_true q276
   refine start_ (n := 17) (S := fun w' => w'.cell? ⟨ad273.block, ad273.off + 1, none⟩ = some (.int .i64 (rd t265 1)) ∧ w'.cell? ad273 = some (.int .i64 (rd t265 0))) (ds := []) #[zf, zf, zf, zf, zf, zf, zf, zf, zf, zf, zf, zf, zf, zf, zf, zf, zf] (by kernel_rfl) rfl rfl ⟨hx273_0, hx276_0⟩ (fun hHeld => ?_); refine with_tabW impl_ParseWarning.tab12 impl_ParseWarning.bits12 (fun HT_ HW_ => ?_)
   generalize wc.drew = w56 at HO_18 BK243 HB hx273_0 hx276_0 hHeld ⊢
   refine zP 0 (some 89) #[zt, zf, zf, zf, zf, zf, zf, zf, zf, zf, zf, zf, zf, zf, zf, zf, zf] ?_ rfl rfl HT_ (Or.inl ⟨by rfl, ?_⟩) ?_ ?_ ?_
   rotate_left; · exact zqB
   rotate_left; · exact zqA
   refine zP 1 (some 90) #[zt, zt, zf, zf, zf, zf, zf, zf, zf, zf, zf, zf, zf, zf, zf, zf, zf] ?_ rfl rfl HT_ (Or.inl ⟨by rfl, ?_⟩) ?_ ?_ ?_
   rotate_left; · exact zqB
   rotate_left; · exact zqA
   refine zP 3 (some 92) #[zt, zt, zf, zt, zf, zf, zf, zf, zf, zf, zf, zf, zf, zf, zf, zf, zf] ?_ rfl rfl HT_ (Or.inl ⟨by rfl, ?_⟩) ?_ ?_ ?_
   rotate_left; · exact zqB
   rotate_left; · exact zqA
   refine zP 4 (some 93) #[zt, zt, zf, zt, zt, zf, zf, zf, zf, zf, zf, zf, zf, zf, zf, zf, zf] ?_ rfl rfl HT_ (Or.inl ⟨by rfl, ?_⟩) ?_ ?_ ?_
   rotate_left; · exact zqB
   rotate_left; · exact zqA
   refine zP 6 (some 95) #[zt, zt, zf, zt, zt, zf, zt, zf, zf, zf, zf, zf, zf, zf, zf, zf, zf] ?_ rfl rfl HT_ (Or.inl ⟨by rfl, ?_⟩) ?_ ?_ ?_
   rotate_left; · exact zqB
   rotate_left; · exact zqA
   refine zP 7 (some 96) #[zt, zt, zf, zt, zt, zf, zt, zt, zf, zf, zf, zf, zf, zf, zf, zf, zf] ?_ rfl rfl HT_ (Or.inl ⟨by rfl, ?_⟩) ?_ ?_ ?_
   rotate_left; · exact zqB
   rotate_left; · exact zqA
   refine zP 9 (some 98) #[zt, zt, zf, zt, zt, zf, zt, zt, zf, zt, zf, zf, zf, zf, zf, zf, zf] ?_ rfl rfl HT_ (Or.inl ⟨by rfl, ?_⟩) ?_ ?_ ?_
   rotate_left; · exact zqB
   rotate_left; · exact zqA
   refine zP 10 (some 99) #[zt, zt, zf, zt, zt, zf, zt, zt, zf, zt, zt, zf, zf, zf, zf, zf, zf] ?_ rfl rfl HT_ (Or.inl ⟨by rfl, ?_⟩) ?_ ?_ ?_
   rotate_left; · exact zqB
   rotate_left; · exact zqA
   refine zP 12 (some 101) #[zt, zt, zf, zt, zt, zf, zt, zt, zf, zt, zt, zf, zt, zf, zf, zf, zf] ?_ rfl rfl HT_ (Or.inl ⟨by rfl, ?_⟩) ?_ ?_ ?_
   rotate_left; · exact zqB
   rotate_left; · exact zqA
   refine zP 13 (some 102) #[zt, zt, zf, zt, zt, zf, zt, zt, zf, zt, zt, zf, zt, zt, zf, zf, zf] ?_ rfl rfl HT_ (Or.inl ⟨by rfl, ?_⟩) ?_ ?_ ?_
   rotate_left; · exact zqB
   rotate_left; · exact zqA
   refine zT 2 (some 91) #[zt, zt, zt, zt, zt, zf, zt, zt, zf, zt, zt, zf, zt, zt, zf, zf, zf] ?_ rfl rfl HT_ HW_ (Or.inl ⟨by rfl, ?_⟩) hHeld ?_ ?_ ?_
   rotate_left
   ·
    rintro w' ⟨s0, s1⟩
    go_simp
    with_reducible rfl
   rotate_left; · exact zqA
   refine zT 11 (some 100) #[zt, zt, zt, zt, zt, zf, zt, zt, zf, zt, zt, zt, zt, zt, zf, zf, zf] ?_ rfl rfl HT_ HW_ (Or.inl ⟨by rfl, ?_⟩) hHeld ?_ ?_ ?_
   rotate_left
   ·
    rintro w' ⟨s0, s1⟩
    go_simp
    with_reducible rfl
   rotate_left; · exact zqA
   refine join_ (σ := Nat) 1 #[zt, zt, zt, zt, zt, zt, zt, zt, zt, zt, zt, zt, zt, zt, zt, zt, zf] (fun s_ => [(94, .int .i64 t274), (97, .int .i64 t275), (24, .pointer (some ⟨s_, 0, none⟩)), (103, .agg #[.int .i64 (rd t265 1), .int .i64 t274, .int .i64 t275, .int .i64 (rd t265 0), .int .i64 t269, .int .i64 t271])]) (fun s_ w' => (w'.cell? ⟨ad273.block, ad273.off + 1, none⟩ = some (.int .i64 (rd t265 1)) ∧ w'.cell? ad273 = some (.int .i64 (rd t265 0))) ∧ (Kd.R (Kd.int .i64) 3 w' w.heap.size (fun _ => True) (.slice (some ad273) t265.length co57) t265) ∧ (w'.heap[gb243]? = some (.cells #[.int .i64 0, .int .i64 0, .int .i64 0, .int .i64 0, .int .i64 0, .int .i64 0] 25 (0, 0))) ∧ (w'.heap[s_]? = some (.cells #[.int .i64 0, .int .i64 0, .int .i64 0, .int .i64 0, .int .i64 0, .int .i64 0] 25 (0, 0))) ∧ (w.heap.size ≤ s_) ∧ (w.heap.size ≤ s_) ∧ (gb243 ≠ s_) ∧ (s_ ≠ gb243) ∧ (Below w.heap.size w w')) ?_ ?_
   rotate_left
   ·
    intro hCont
    refine two_ (i := 5) (j := 15) (Ni := some 94) (Nj := some 24) #[zt, zt, zt, zt, zt, zt, zt, zt, zf, zt, zt, zt, zt, zt, zf, zf, zf] #[zt, zt, zt, zt, zt, zf, zt, zt, zf, zt, zt, zt, zt, zt, zf, zt, zf] rfl rfl rfl rfl (two_of HT_.out (by kernel_rfl)) (by decide) (by decide) (fun K hK => ?_) (fun K hK => ?_)
    ·
     skip
     refine goes_ Tryz.func29 (by kernel_rfl) rfl #[.slice (some ⟨0, 0, none⟩) 6 6, .string t247] (by rfl) rfl rfl zq1 ?_
     with_reducible refine (slices_Index_h.calls0 t247 t274 _ (HTL.out.below zq3) (HTO.out.below zq3) A30.out).mono ?_
     rintro e w58 ⟨rfl, hb⟩
     have HS0_ := (hb.cell (World.block_lt_of_cell? _ _ (hHeld.1))).trans (hHeld.1)
     have HS1_ := (hb.cell (World.block_lt_of_cell? _ _ (hHeld.2))).trans (hHeld.2)
     refine ⟨_, rfl, ?_⟩
     have n0_ := zm (Kd.R_below (zqR HO_18.out) hb)
     have n1_ := zm (blk_below (g := gb243) (o := .cells #[.int .i64 0, .int .i64 0, .int .i64 0, .int .i64 0, .int .i64 0, .int .i64 0] 25 (0, 0)) (zqK BK243.out) hb)
     have n2_ := zm (below_step zq4 hb)
     clear HO_18
     clear BK243
     clear HB
     have HO_18 := n0_
     have BK243 := n1_
     have HB := n2_
     clear n0_ n1_ n2_
     (try clear hb)
     (try clear hb2)
     (try clear hk)
     (try clear hi)
     refine hK.out _ _ ⟨HS0_, HS1_⟩ (fun hHeld => ?_)
     clear hK K
     refine norm_ (a' := ?_) ?_ ?_
     rotate_left
     ·
      show Act.put _ (some 94) _ = _
      simp only [Act.put, List.setIfInBounds_toArray, List.set_cons_zero, List.set_cons_succ, i64_w, i32_w]
      rfl
     refine two_ (i := 8) (j := 15) (Ni := some 97) (Nj := some 24) #[zt, zt, zt, zt, zt, zt, zt, zt, zt, zt, zt, zt, zt, zt, zf, zf, zf] #[zt, zt, zt, zt, zt, zt, zt, zt, zf, zt, zt, zt, zt, zt, zf, zt, zf] rfl rfl rfl rfl (two_of HT_.out (by kernel_rfl)) (by decide) (by decide) (fun K hK => ?_) (fun K hK => ?_)
     ·
      skip
      refine goes_ Tryz.func29 (by kernel_rfl) rfl #[.slice (some ⟨1, 0, none⟩) 4 4, .string t244] (by rfl) rfl rfl zq1 ?_
      with_reducible refine (slices_Index_h.calls1 t244 t275 _ (HTL.out.below zq3) (HTO.out.below zq3) A31.out).mono ?_
      rintro e w59 ⟨rfl, hb⟩
      have HS0_ := (hb.cell (World.block_lt_of_cell? _ _ (hHeld.1))).trans (hHeld.1)
      have HS1_ := (hb.cell (World.block_lt_of_cell? _ _ (hHeld.2))).trans (hHeld.2)
      refine ⟨_, rfl, ?_⟩
      have n0_ := zm (Kd.R_below (zqR HO_18.out) hb)
      have n1_ := zm (blk_below (g := gb243) (o := .cells #[.int .i64 0, .int .i64 0, .int .i64 0, .int .i64 0, .int .i64 0, .int .i64 0] 25 (0, 0)) (zqK BK243.out) hb)
      have n2_ := zm (below_step zq4 hb)
      clear HO_18
      clear BK243
      clear HB
      have HO_18 := n0_
      have BK243 := n1_
      have HB := n2_
      clear n0_ n1_ n2_
      (try clear hb)
      (try clear hb2)
      (try clear hk)
      (try clear hi)
      refine hK.out _ _ ⟨HS0_, HS1_⟩ (fun hHeld => ?_)
      clear hK K
      refine norm_ (a' := ?_) ?_ ?_
      rotate_left
      ·
       show Act.put _ (some 97) _ = _
       simp only [Act.put, List.setIfInBounds_toArray, List.set_cons_zero, List.set_cons_succ, i64_w, i32_w]
       rfl
      refine zP 14 (some 103) #[zt, zt, zt, zt, zt, zt, zt, zt, zt, zt, zt, zt, zt, zt, zt, zf, zf] ?_ rfl rfl HT_ (Or.inl ⟨by rfl, ?_⟩) ?_ ?_ ?_
      rotate_left; · exact zqB
      rotate_left; · exact zqA
      refine one_ (i := 15) (N := some 24) #[zt, zt, zt, zt, zt, zt, zt, zt, zt, zt, zt, zt, zt, zt, zt, zt, zf] rfl rfl (one_of HT_.out (by kernel_rfl)) (by decide) (fun K hK => ?_)
      refine box_step ?hg (N := 24) ?hd (cs := #[.int .i64 0, .int .i64 0, .int .i64 0, .int .i64 0, .int .i64 0, .int .i64 0]) (t := 25) ?hr ?_; (case hd => rfl); (case hg => rfl); (case hr => exact zqS)
      intro gb277 hg w60 hbox hb
      have HS0_ := (hb.cell (World.block_lt_of_cell? _ _ (hHeld.1))).trans (hHeld.1)
      have HS1_ := (hb.cell (World.block_lt_of_cell? _ _ (hHeld.2))).trans (hHeld.2)
      have n0_ := zm (Kd.R_below (zqR HO_18.out) hb)
      have n1_ := zm (blk_below (g := gb243) (o := .cells #[.int .i64 0, .int .i64 0, .int .i64 0, .int .i64 0, .int .i64 0, .int .i64 0] 25 (0, 0)) (zqK BK243.out) hb)
      have n2_ := zm (below_step zq4 hb)
      have n3_ := zm (hbox)
      have n4_ := zm ((by rw [hg]; exact (below_size zq4) : w.heap.size ≤ gb277))
      have n5_ := zm ((by rw [hg]; exact (below_size zq4) : w.heap.size ≤ gb277))
      have n6_ := zm ((by rw [hg]; exact Nat.ne_of_lt (blk_lt (g := gb243) (o := .cells #[.int .i64 0, .int .i64 0, .int .i64 0, .int .i64 0, .int .i64 0, .int .i64 0] 25 (0, 0)) (zqK BK243.out)) : gb243 ≠ gb277))
      have n7_ := zm ((by rw [hg]; exact Nat.ne_of_gt (blk_lt (g := gb243) (o := .cells #[.int .i64 0, .int .i64 0, .int .i64 0, .int .i64 0, .int .i64 0, .int .i64 0] 25 (0, 0)) (zqK BK243.out)) : gb277 ≠ gb243))
      clear HO_18
      clear BK243
      clear HB
      have HO_18 := n0_
      have BK243 := n1_
      have HB := n2_
      have BK277 := n3_
      have GW277 := n4_
      have GE277 := n5_
      have NB243_277 := n6_
      have NB277_243 := n7_
      clear n0_ n1_ n2_ n3_ n4_ n5_ n6_ n7_
      clear hb hbox hg
      refine hK.out _ _ ⟨HS0_, HS1_⟩ (fun hHeld => ?_)
      clear hK K
      refine norm_ (a' := ?_) ?_ ?_
      rotate_left
      ·
       show Act.put _ (some 24) _ = _
       simp only [Act.put, List.setIfInBounds_toArray, List.set_cons_zero, List.set_cons_succ, i64_w, i32_w]
       rfl
      exact norm_ (by simp only [putAll, Act.put, List.setIfInBounds_toArray, List.set_cons_zero, List.set_cons_succ]) (hCont (gb277) _ ⟨hHeld, (zqR HO_18.out), (zqK BK243.out), (zqK BK277.out), GW277.out, GE277.out, NB243_277.out, NB277_243.out, zq3⟩)
     ·
      skip
      refine box_step ?hg (N := 24) ?hd (cs := #[.int .i64 0, .int .i64 0, .int .i64 0, .int .i64 0, .int .i64 0, .int .i64 0]) (t := 25) ?hr ?_; (case hd => rfl); (case hg => rfl); (case hr => exact zqS)
      intro gb277 hg w59 hbox hb
      have HS0_ := (hb.cell (World.block_lt_of_cell? _ _ (hHeld.1))).trans (hHeld.1)
      have HS1_ := (hb.cell (World.block_lt_of_cell? _ _ (hHeld.2))).trans (hHeld.2)
      have n0_ := zm (Kd.R_below (zqR HO_18.out) hb)
      have n1_ := zm (blk_below (g := gb243) (o := .cells #[.int .i64 0, .int .i64 0, .int .i64 0, .int .i64 0, .int .i64 0, .int .i64 0] 25 (0, 0)) (zqK BK243.out) hb)
      have n2_ := zm (below_step zq4 hb)
      have n3_ := zm (hbox)
      have n4_ := zm ((by rw [hg]; exact (below_size zq4) : w.heap.size ≤ gb277))
      have n5_ := zm ((by rw [hg]; exact (below_size zq4) : w.heap.size ≤ gb277))
      have n6_ := zm ((by rw [hg]; exact Nat.ne_of_lt (blk_lt (g := gb243) (o := .cells #[.int .i64 0, .int .i64 0, .int .i64 0, .int .i64 0, .int .i64 0, .int .i64 0] 25 (0, 0)) (zqK BK243.out)) : gb243 ≠ gb277))
      have n7_ := zm ((by rw [hg]; exact Nat.ne_of_gt (blk_lt (g := gb243) (o := .cells #[.int .i64 0, .int .i64 0, .int .i64 0, .int .i64 0, .int .i64 0, .int .i64 0] 25 (0, 0)) (zqK BK243.out)) : gb277 ≠ gb243))
      clear HO_18
      clear BK243
      clear HB
      have HO_18 := n0_
      have BK243 := n1_
      have HB := n2_
      have BK277 := n3_
      have GW277 := n4_
      have GE277 := n5_
      have NB243_277 := n6_
      have NB277_243 := n7_
      clear n0_ n1_ n2_ n3_ n4_ n5_ n6_ n7_
      clear hb hbox hg
      refine hK.out _ _ ⟨HS0_, HS1_⟩ (fun hHeld => ?_)
      clear hK K
      refine norm_ (a' := ?_) ?_ ?_
      rotate_left
      ·
       show Act.put _ (some 24) _ = _
       simp only [Act.put, List.setIfInBounds_toArray, List.set_cons_zero, List.set_cons_succ, i64_w, i32_w]
       rfl
      refine one_ (i := 8) (N := some 97) #[zt, zt, zt, zt, zt, zt, zt, zt, zt, zt, zt, zt, zt, zt, zf, zt, zf] rfl rfl (one_of HT_.out (by kernel_rfl)) (by decide) (fun K hK => ?_)
      refine goes_ Tryz.func29 (by kernel_rfl) rfl #[.slice (some ⟨1, 0, none⟩) 4 4, .string t244] (by rfl) rfl rfl zq1 ?_
      with_reducible refine (slices_Index_h.calls1 t244 t275 _ (HTL.out.below zq3) (HTO.out.below zq3) A31.out).mono ?_
      rintro e w60 ⟨rfl, hb⟩
      have HS0_ := (hb.cell (World.block_lt_of_cell? _ _ (hHeld.1))).trans (hHeld.1)
      have HS1_ := (hb.cell (World.block_lt_of_cell? _ _ (hHeld.2))).trans (hHeld.2)
      refine ⟨_, rfl, ?_⟩
      have n0_ := zm (Kd.R_below (zqR HO_18.out) hb)
      have n1_ := zm (blk_below (g := gb243) (o := .cells #[.int .i64 0, .int .i64 0, .int .i64 0, .int .i64 0, .int .i64 0, .int .i64 0] 25 (0, 0)) (zqK BK243.out) hb)
      have n2_ := zm (blk_below (g := gb277) (o := .cells #[.int .i64 0, .int .i64 0, .int .i64 0, .int .i64 0, .int .i64 0, .int .i64 0] 25 (0, 0)) (zqK BK277.out) hb)
      have n3_ := zm (below_step zq3 hb)
      clear HO_18
      clear BK243
      clear BK277
      clear HB
      have HO_18 := n0_
      have BK243 := n1_
      have BK277 := n2_
      have HB := n3_
      clear n0_ n1_ n2_ n3_
      (try clear hb)
      (try clear hb2)
      (try clear hk)
      (try clear hi)
      refine hK.out _ _ ⟨HS0_, HS1_⟩ (fun hHeld => ?_)
      clear hK K
      refine norm_ (a' := ?_) ?_ ?_
      rotate_left
      ·
       show Act.put _ (some 97) _ = _
       simp only [Act.put, List.setIfInBounds_toArray, List.set_cons_zero, List.set_cons_succ, i64_w, i32_w]
       rfl
      refine zP 14 (some 103) #[zt, zt, zt, zt, zt, zt, zt, zt, zt, zt, zt, zt, zt, zt, zt, zt, zf] ?_ rfl rfl HT_ (Or.inl ⟨by rfl, ?_⟩) ?_ ?_ ?_
      rotate_left; · exact zqB
      rotate_left; · exact zqA
      exact norm_ (by simp only [putAll, Act.put, List.setIfInBounds_toArray, List.set_cons_zero, List.set_cons_succ]) (hCont (gb277) _ ⟨hHeld, (zqR HO_18.out), (zqK BK243.out), (zqK BK277.out), GW277.out, GE277.out, NB243_277.out, NB277_243.out, zq3⟩)
    ·
     skip
     refine box_step ?hg (N := 24) ?hd (cs := #[.int .i64 0, .int .i64 0, .int .i64 0, .int .i64 0, .int .i64 0, .int .i64 0]) (t := 25) ?hr ?_; (case hd => rfl); (case hg => rfl); (case hr => exact zqS)
     intro gb277 hg w58 hbox hb
     have HS0_ := (hb.cell (World.block_lt_of_cell? _ _ (hHeld.1))).trans (hHeld.1)
     have HS1_ := (hb.cell (World.block_lt_of_cell? _ _ (hHeld.2))).trans (hHeld.2)
     have n0_ := zm (Kd.R_below (zqR HO_18.out) hb)
     have n1_ := zm (blk_below (g := gb243) (o := .cells #[.int .i64 0, .int .i64 0, .int .i64 0, .int .i64 0, .int .i64 0, .int .i64 0] 25 (0, 0)) (zqK BK243.out) hb)
     have n2_ := zm (below_step zq4 hb)
     have n3_ := zm (hbox)
     have n4_ := zm ((by rw [hg]; exact (below_size zq4) : w.heap.size ≤ gb277))
     have n5_ := zm ((by rw [hg]; exact (below_size zq4) : w.heap.size ≤ gb277))
     have n6_ := zm ((by rw [hg]; exact Nat.ne_of_lt (blk_lt (g := gb243) (o := .cells #[.int .i64 0, .int .i64 0, .int .i64 0, .int .i64 0, .int .i64 0, .int .i64 0] 25 (0, 0)) (zqK BK243.out)) : gb243 ≠ gb277))
     have n7_ := zm ((by rw [hg]; exact Nat.ne_of_gt (blk_lt (g := gb243) (o := .cells #[.int .i64 0, .int .i64 0, .int .i64 0, .int .i64 0, .int .i64 0, .int .i64 0] 25 (0, 0)) (zqK BK243.out)) : gb277 ≠ gb243))
     clear HO_18
     clear BK243
     clear HB
     have HO_18 := n0_
     have BK243 := n1_
     have HB := n2_
     have BK277 := n3_
     have GW277 := n4_
     have GE277 := n5_
     have NB243_277 := n6_
     have NB277_243 := n7_
     clear n0_ n1_ n2_ n3_ n4_ n5_ n6_ n7_
     clear hb hbox hg
     refine hK.out _ _ ⟨HS0_, HS1_⟩ (fun hHeld => ?_)
     clear hK K
     refine norm_ (a' := ?_) ?_ ?_
     rotate_left
     ·
      show Act.put _ (some 24) _ = _
      simp only [Act.put, List.setIfInBounds_toArray, List.set_cons_zero, List.set_cons_succ, i64_w, i32_w]
      rfl
     refine one_ (i := 5) (N := some 94) #[zt, zt, zt, zt, zt, zt, zt, zt, zf, zt, zt, zt, zt, zt, zf, zt, zf] rfl rfl (one_of HT_.out (by kernel_rfl)) (by decide) (fun K hK => ?_)
     refine goes_ Tryz.func29 (by kernel_rfl) rfl #[.slice (some ⟨0, 0, none⟩) 6 6, .string t247] (by rfl) rfl rfl zq1 ?_
     with_reducible refine (slices_Index_h.calls0 t247 t274 _ (HTL.out.below zq3) (HTO.out.below zq3) A30.out).mono ?_
     rintro e w59 ⟨rfl, hb⟩
     have HS0_ := (hb.cell (World.block_lt_of_cell? _ _ (hHeld.1))).trans (hHeld.1)
     have HS1_ := (hb.cell (World.block_lt_of_cell? _ _ (hHeld.2))).trans (hHeld.2)
     refine ⟨_, rfl, ?_⟩
     have n0_ := zm (Kd.R_below (zqR HO_18.out) hb)
     have n1_ := zm (blk_below (g := gb243) (o := .cells #[.int .i64 0, .int .i64 0, .int .i64 0, .int .i64 0, .int .i64 0, .int .i64 0] 25 (0, 0)) (zqK BK243.out) hb)
     have n2_ := zm (blk_below (g := gb277) (o := .cells #[.int .i64 0, .int .i64 0, .int .i64 0, .int .i64 0, .int .i64 0, .int .i64 0] 25 (0, 0)) (zqK BK277.out) hb)
     have n3_ := zm (below_step zq3 hb)
     clear HO_18
     clear BK243
     clear BK277
     clear HB
     have HO_18 := n0_
     have BK243 := n1_
     have BK277 := n2_
     have HB := n3_
     clear n0_ n1_ n2_ n3_
     (try clear hb)
     (try clear hb2)
     (try clear hk)
     (try clear hi)
     refine hK.out _ _ ⟨HS0_, HS1_⟩ (fun hHeld => ?_)
     clear hK K
     refine norm_ (a' := ?_) ?_ ?_
     rotate_left
     ·
      show Act.put _ (some 94) _ = _
      simp only [Act.put, List.setIfInBounds_toArray, List.set_cons_zero, List.set_cons_succ, i64_w, i32_w]
      rfl
     refine one_ (i := 8) (N := some 97) #[zt, zt, zt, zt, zt, zt, zt, zt, zt, zt, zt, zt, zt, zt, zf, zt, zf] rfl rfl (one_of HT_.out (by kernel_rfl)) (by decide) (fun K hK => ?_)
     refine goes_ Tryz.func29 (by kernel_rfl) rfl #[.slice (some ⟨1, 0, none⟩) 4 4, .string t244] (by rfl) rfl rfl zq1 ?_
     with_reducible refine (slices_Index_h.calls1 t244 t275 _ (HTL.out.below zq3) (HTO.out.below zq3) A31.out).mono ?_
     rintro e w60 ⟨rfl, hb⟩
     have HS0_ := (hb.cell (World.block_lt_of_cell? _ _ (hHeld.1))).trans (hHeld.1)
     have HS1_ := (hb.cell (World.block_lt_of_cell? _ _ (hHeld.2))).trans (hHeld.2)
     refine ⟨_, rfl, ?_⟩
     have n0_ := zm (Kd.R_below (zqR HO_18.out) hb)
     have n1_ := zm (blk_below (g := gb243) (o := .cells #[.int .i64 0, .int .i64 0, .int .i64 0, .int .i64 0, .int .i64 0, .int .i64 0] 25 (0, 0)) (zqK BK243.out) hb)
     have n2_ := zm (blk_below (g := gb277) (o := .cells #[.int .i64 0, .int .i64 0, .int .i64 0, .int .i64 0, .int .i64 0, .int .i64 0] 25 (0, 0)) (zqK BK277.out) hb)
     have n3_ := zm (below_step zq3 hb)
     clear HO_18
     clear BK243
     clear BK277
     clear HB
     have HO_18 := n0_
     have BK243 := n1_
     have BK277 := n2_
     have HB := n3_
     clear n0_ n1_ n2_ n3_
     (try clear hb)
     (try clear hb2)
     (try clear hk)
     (try clear hi)
     refine hK.out _ _ ⟨HS0_, HS1_⟩ (fun hHeld => ?_)
     clear hK K
     refine norm_ (a' := ?_) ?_ ?_
     rotate_left
     ·
      show Act.put _ (some 97) _ = _
      simp only [Act.put, List.setIfInBounds_toArray, List.set_cons_zero, List.set_cons_succ, i64_w, i32_w]
      rfl
     refine zP 14 (some 103) #[zt, zt, zt, zt, zt, zt, zt, zt, zt, zt, zt, zt, zt, zt, zt, zt, zf] ?_ rfl rfl HT_ (Or.inl ⟨by rfl, ?_⟩) ?_ ?_ ?_
     rotate_left; · exact zqB
     rotate_left; · exact zqA
     exact norm_ (by simp only [putAll, Act.put, List.setIfInBounds_toArray, List.set_cons_zero, List.set_cons_succ]) (hCont (gb277) _ ⟨hHeld, (zqR HO_18.out), (zqK BK243.out), (zqK BK277.out), GW277.out, GE277.out, NB243_277.out, NB277_243.out, zq3⟩)
   rintro gb277 w61 ⟨hS_, h0_, h1_, h2_, h3_, h4_, h5_, h6_, h7_⟩
   have n0_ : Aside0 (Kd.R (Kd.int .i64) 3 w61 w.heap.size (fun _ => True) (.slice (some ad273) t265.length co57) t265) := ⟨h0_⟩
   have n1_ : Aside0 (w61.heap[gb243]? = some (.cells #[.int .i64 0, .int .i64 0, .int .i64 0, .int .i64 0, .int .i64 0, .int .i64 0] 25 (0, 0))) := ⟨h1_⟩
   have n2_ : Aside0 (w61.heap[gb277]? = some (.cells #[.int .i64 0, .int .i64 0, .int .i64 0, .int .i64 0, .int .i64 0, .int .i64 0] 25 (0, 0))) := ⟨h2_⟩
   have n3_ : Aside0 (w.heap.size ≤ gb277) := ⟨h3_⟩
   have n4_ : Aside0 (w.heap.size ≤ gb277) := ⟨h4_⟩
   have n5_ : Aside0 (gb243 ≠ gb277) := ⟨h5_⟩
   have n6_ : Aside0 (gb277 ≠ gb243) := ⟨h6_⟩
   have n7_ : Aside0 (Below w.heap.size w w61) := ⟨h7_⟩
   clear HO_18
   clear BK243
   clear HB
   clear h0_ h1_ h2_ h3_ h4_ h5_ h6_ h7_
   have HO_18 := n0_
   have BK243 := n1_
   have BK277 := n2_
   have GW277 := n3_
   have GE277 := n4_
   have NB243_277 := n5_
   have NB277_243 := n6_
   have HB := n7_
   clear n0_ n1_ n2_ n3_ n4_ n5_ n6_ n7_
   have hHeld : w61.cell? ⟨ad273.block, ad273.off + 1, none⟩ = some (.int .i64 (rd t265 1)) ∧ w61.cell? ad273 = some (.int .i64 (rd t265 0)) := hS_
   refine norm_ (a' := ?_) ?_ ?_
   rotate_left
   ·
    simp only [putAll, Act.put, List.setIfInBounds_toArray, List.set_cons_zero, List.set_cons_succ]
    rfl
   refine one_ (i := 16) (N := none) #[zt, zt, zt, zt, zt, zt, zt, zt, zt, zt, zt, zt, zt, zt, zt, zt, zt] rfl rfl (one_of HT_.out (by kernel_rfl)) (by decide) (fun K hK => ?_)
   have hs62 : w61.cell? ⟨gb277, 0, none⟩ = some (.int .i64 0) := (blk_cell BK277.out 0).trans rfl
   have hfs62 := blk_frozen BK277.out 0
   have hns62_0 := NB243_277.out
   have hms62_0 := NB277_243.out
   have hs63 : w61.cell? ⟨gb277, 1, none⟩ = some (.int .i64 0) := (blk_cell BK277.out 1).trans rfl
   have hfs63 := blk_frozen BK277.out 1
   have hns63_0 := NB243_277.out
   have hms63_0 := NB277_243.out
   have hs64 : w61.cell? ⟨gb277, 2, none⟩ = some (.int .i64 0) := (blk_cell BK277.out 2).trans rfl
   have hfs64 := blk_frozen BK277.out 2
   have hns64_0 := NB243_277.out
   have hms64_0 := NB277_243.out
   have hs65 : w61.cell? ⟨gb277, 3, none⟩ = some (.int .i64 0) := (blk_cell BK277.out 3).trans rfl
   have hfs65 := blk_frozen BK277.out 3
   have hns65_0 := NB243_277.out
   have hms65_0 := NB277_243.out
   have hs66 : w61.cell? ⟨gb277, 4, none⟩ = some (.int .i64 0) := (blk_cell BK277.out 4).trans rfl
   have hfs66 := blk_frozen BK277.out 4
   have hns66_0 := NB243_277.out
   have hms66_0 := NB277_243.out
   have hs67 : w61.cell? ⟨gb277, 5, none⟩ = some (.int .i64 0) := (blk_cell BK277.out 5).trans rfl
   have hfs67 := blk_frozen BK277.out 5
   have hns67_0 := NB243_277.out
   have hms67_0 := NB277_243.out
   refine skip_ (w1 := ?_) (by rfl) rfl ?_ ?_
   rotate_left
   ·
    go_simp
    rfl
   refine hK.out _ _ ⟨far6 hHeld.1 zq49 _ _ _ _ _ _, far6 hHeld.2 zq49 _ _ _ _ _ _⟩ (fun hHeld => ?_)
   clear hK K
   refine done_ (done_of HT_.out (by kernel_rfl)) ?_
   have hnb68 := NB277_243.out
   have hnc68 := NB243_277.out
   obtain ⟨hcz69_0, hcz69_1, hcz69_2, hcz69_3, hcz69_4, hcz69_5, hfz69_0, hfz69_1, hfz69_2, hfz69_3, hfz69_4, hfz69_5⟩ := bz6 BK277.out
   try go_wp2_with (first | ((with_reducible refine gate_callee (f := 23) rfl ?_); refine goesL_ (some 105) rfl rfl Tryz.func23 (by kernel_rfl) rfl #[.agg #[.int .i64 (rd t265 1), .int .i64 t274, .int .i64 t275, .int .i64 (rd t265 0), .int .i64 t269, .int .i64 t271]] rfl zq1 ?_; (with_reducible refine (impl_IsValidWarning.calls (rd t265 1) t274 t275 (rd t265 0) t269 t271 true _ A33.out).mono ?_); rintro e w70 ⟨rfl, hb⟩; refine ⟨_, rfl, ?_⟩; replace HO_18 := zm (Kd.R_below zq38 hb); replace BK243 := zm (blk_below (g := gb243) (o := .cells #[.int .i64 0, .int .i64 0, .int .i64 0, .int .i64 0, .int .i64 0, .int .i64 0] 25 (0, 0)) zq24 hb); replace BK277 := zm (blk_below (g := gb277) (o := .cells #[.int .i64 (rd t265 1), .int .i64 t274, .int .i64 t275, .int .i64 (rd t265 0), .int .i64 t269, .int .i64 t271] 25 (0, 0)) zq16 hb); replace HB := zm (below_step zq3 hb); (try clear hb); (try clear hb2); (try clear hk); (try clear hi); obtain ⟨hcz71_0, hcz71_1, hcz71_2, hcz71_3, hcz71_4, hcz71_5, hfz71_0, hfz71_1, hfz71_2, hfz71_3, hfz71_4, hfz71_5⟩ := bz6 BK277.out) | (go_at_call 24; (with_reducible refine (impl_warningText.calls (rd t265 1) t274 t275 (rd t265 0) t269 t271 t279 _ (HTL.out.below zq3) (HTN.out.below zq3) (HTO.out.below zq3) A35.out).mono ?_); rintro e w72 ⟨rfl, hb⟩; replace HO_18 := zm (Kd.R_below (zqR HO_18.out) hb); replace BK243 := zm (blk_below (g := gb243) (o := .cells #[.int .i64 0, .int .i64 0, .int .i64 0, .int .i64 0, .int .i64 0, .int .i64 0] 25 (0, 0)) (zqK BK243.out) hb); replace BK277 := zm (blk_below (g := gb277) (o := .cells #[.int .i64 (rd t265 1), .int .i64 t274, .int .i64 t275, .int .i64 (rd t265 0), .int .i64 t269, .int .i64 t271] 25 (0, 0)) (zqK BK277.out) hb); replace HB := zm (below_step zq3 hb); (try clear hb); (try clear hb2); (try clear hk); (try clear hi); obtain ⟨hcz73_0, hcz73_1, hcz73_2, hcz73_3, hcz73_4, hcz73_5, hfz73_0, hfz73_1, hfz73_2, hfz73_3, hfz73_4, hfz73_5⟩ := bz6 BK243.out))
   refine bodyPost_ret (results_ct rfl _ _ gb243 25 #[.int .i64 0, .int .i64 0, .int .i64 0, .int .i64 0, .int .i64 0, .int .i64 0] (0, 0) _ rfl zq18 Tryz.underlying25 rfl (by kernel_rfl)) rfl ?_
   exact ⟨zqE, zq3⟩
  rw [if_pos c36] at H
  have c36b0 : (t279.toList == a0.toList) = true := beq_iff_eq.mpr c36
  have c36b1 : (t279.toList != a0.toList) = false := bne_eq_false_iff_eq.mpr c36
  clear c36
  simp only [Option.some.injEq, Prod.mk.injEq] at H
  obtain ⟨rfl, rfl, rfl, rfl, rfl, rfl, rfl⟩ := H
  try go_wp2
  have n0_ := zm (Kd.R_drew HO_18.out)
  have n1_ := zm (zD BK243.out)
  have n2_ := zm (below_drew1 HB.out)
  clear HO_18
  clear BK243
  clear HB
  have HO_18 := n0_
  have BK243 := n1_
  have HB := n2_
  clear n0_ n1_ n2_
  obtain ⟨Ao38, co38, eo38⟩ := Kd.R_slice HO_18.out
  (first | subst eo38 | (injection eo38 with f1_ f2_ f3_; have f4_ := f1_.symm; have f5_ := f3_.symm; clear f1_ f2_ f3_; subst f4_; subst f5_))
  have p273 : 0 ≤ (1 : Int) := (by omega)
  have q273 : 1 < (t265.length : Int) := of_decide_eq_true zq8
  obtain ⟨ad273, e273, hx273_0⟩ := Kd.at_int (Kd.R_reads' HO_18.out).2.2 1 p273 q273
  cases e273
  (try simp only [show (1 : Int).toNat = 1 from rfl, Nat.reduceMul, Nat.reduceEqDiff, Go.Addr.add, ↓reduceIte] at hx273_0)
  have qi273 : (1 < t265.length) = True := eq_true (by omega)
  (try rw [show ((1 : Int)).toNat = 1 from rfl] at hx273_0)
  replace p273 := eq_true p273
  replace q273 := eq_true q273
  have p276 : 0 ≤ (0 : Int) := (by omega)
  have q276 : 0 < (t265.length : Int) := of_decide_eq_true zq8
  obtain ⟨ad276, e276, hx276_0⟩ := Kd.at_int (Kd.R_reads' HO_18.out).2.2 0 p276 q276
  obtain rfl : ad273 = ad276 := (by injection e276)
  have qi276 : (0 < t265.length) = True := eq_true (by omega)
  (try rw [show ((0 : Int)).toNat = 0 from rfl] at hx276_0)
  (try rw [Addr.add_zero'] at hx276_0)
  replace p276 := eq_true p276
  replace q276 := eq_true q276
  refine start_ (n := 17) (S := fun w' => w'.cell? ⟨ad273.block, ad273.off + 1, none⟩ = some (.int .i64 (rd t265 1)) ∧ w'.cell? ad273 = some (.int .i64 (rd t265 0))) (ds := []) #[zf, zf, zf, zf, zf, zf, zf, zf, zf, zf, zf, zf, zf, zf, zf, zf, zf] (by kernel_rfl) rfl rfl ⟨hx273_0, hx276_0⟩ (fun hHeld => ?_); refine with_tabW impl_ParseWarning.tab12 impl_ParseWarning.bits12 (fun HT_ HW_ => ?_)
  generalize wc.drew = w37 at HO_18 BK243 HB hx273_0 hx276_0 hHeld ⊢
  refine zP 0 (some 89) #[zt, zf, zf, zf, zf, zf, zf, zf, zf, zf, zf, zf, zf, zf, zf, zf, zf] ?_ rfl rfl HT_ (Or.inl ⟨by rfl, ?_⟩) ?_ ?_ ?_
  rotate_left; · exact zqB
  rotate_left; · exact zqA
  refine zP 1 (some 90) #[zt, zt, zf, zf, zf, zf, zf, zf, zf, zf, zf, zf, zf, zf, zf, zf, zf] ?_ rfl rfl HT_ (Or.inl ⟨by rfl, ?_⟩) ?_ ?_ ?_
  rotate_left; · exact zqB
  rotate_left; · exact zqA
  refine zP 3 (some 92) #[zt, zt, zf, zt, zf, zf, zf, zf, zf, zf, zf, zf, zf, zf, zf, zf, zf] ?_ rfl rfl HT_ (Or.inl ⟨by rfl, ?_⟩) ?_ ?_ ?_
  rotate_left; · exact zqB
  rotate_left; · exact zqA
  refine zP 4 (some 93) #[zt, zt, zf, zt, zt, zf, zf, zf, zf, zf, zf, zf, zf, zf, zf, zf, zf] ?_ rfl rfl HT_ (Or.inl ⟨by rfl, ?_⟩) ?_ ?_ ?_
  rotate_left; · exact zqB
  rotate_left; · exact zqA
  refine zP 6 (some 95) #[zt, zt, zf, zt, zt, zf, zt, zf, zf, zf, zf, zf, zf, zf, zf, zf, zf] ?_ rfl rfl HT_ (Or.inl ⟨by rfl, ?_⟩) ?_ ?_ ?_
  rotate_left; · exact zqB
  rotate_left; · exact zqA
  refine zP 7 (some 96) #[zt, zt, zf, zt, zt, zf, zt, zt, zf, zf, zf, zf, zf, zf, zf, zf, zf] ?_ rfl rfl HT_ (Or.inl ⟨by rfl, ?_⟩) ?_ ?_ ?_
  rotate_left; · exact zqB
  rotate_left; · exact zqA
  refine zP 9 (some 98) #[zt, zt, zf, zt, zt, zf, zt, zt, zf, zt, zf, zf, zf, zf, zf, zf, zf] ?_ rfl rfl HT_ (Or.inl ⟨by rfl, ?_⟩) ?_ ?_ ?_
  rotate_left; · exact zqB
  rotate_left; · exact zqA
  refine zP 10 (some 99) #[zt, zt, zf, zt, zt, zf, zt, zt, zf, zt, zt, zf, zf, zf, zf, zf, zf] ?_ rfl rfl HT_ (Or.inl ⟨by rfl, ?_⟩) ?_ ?_ ?_
  rotate_left; · exact zqB
  rotate_left; · exact zqA
  refine zP 12 (some 101) #[zt, zt, zf, zt, zt, zf, zt, zt, zf, zt, zt, zf, zt, zf, zf, zf, zf] ?_ rfl rfl HT_ (Or.inl ⟨by rfl, ?_⟩) ?_ ?_ ?_
  rotate_left; · exact zqB
  rotate_left; · exact zqA
  refine zP 13 (some 102) #[zt, zt, zf, zt, zt, zf, zt, zt, zf, zt, zt, zf, zt, zt, zf, zf, zf] ?_ rfl rfl HT_ (Or.inl ⟨by rfl, ?_⟩) ?_ ?_ ?_
  rotate_left; · exact zqB
  rotate_left; · exact zqA
  refine zT 2 (some 91) #[zt, zt, zt, zt, zt, zf, zt, zt, zf, zt, zt, zf, zt, zt, zf, zf, zf] ?_ rfl rfl HT_ HW_ (Or.inl ⟨by rfl, ?_⟩) hHeld ?_ ?_ ?_
  rotate_left
  ·
   rintro w' ⟨s0, s1⟩
   go_simp
   with_reducible rfl
  rotate_left; · exact zqA
  refine zT 11 (some 100) #[zt, zt, zt, zt, zt, zf, zt, zt, zf, zt, zt, zt, zt, zt, zf, zf, zf] ?_ rfl rfl HT_ HW_ (Or.inl ⟨by rfl, ?_⟩) hHeld ?_ ?_ ?_
  rotate_left
  ·
   rintro w' ⟨s0, s1⟩
   go_simp
   with_reducible rfl
  rotate_left; · exact zqA
  refine join_ (σ := Nat) 1 #[zt, zt, zt, zt, zt, zt, zt, zt, zt, zt, zt, zt, zt, zt, zt, zt, zf] (fun s_ => [(94, .int .i64 t274), (97, .int .i64 t275), (24, .pointer (some ⟨s_, 0, none⟩)), (103, .agg #[.int .i64 (rd t265 1), .int .i64 t274, .int .i64 t275, .int .i64 (rd t265 0), .int .i64 t269, .int .i64 t271])]) (fun s_ w' => (w'.cell? ⟨ad273.block, ad273.off + 1, none⟩ = some (.int .i64 (rd t265 1)) ∧ w'.cell? ad273 = some (.int .i64 (rd t265 0))) ∧ (Kd.R (Kd.int .i64) 3 w' w.heap.size (fun _ => True) (.slice (some ad273) t265.length co38) t265) ∧ (w'.heap[gb243]? = some (.cells #[.int .i64 0, .int .i64 0, .int .i64 0, .int .i64 0, .int .i64 0, .int .i64 0] 25 (0, 0))) ∧ (w'.heap[s_]? = some (.cells #[.int .i64 0, .int .i64 0, .int .i64 0, .int .i64 0, .int .i64 0, .int .i64 0] 25 (0, 0))) ∧ (w.heap.size ≤ s_) ∧ (w.heap.size ≤ s_) ∧ (gb243 ≠ s_) ∧ (s_ ≠ gb243) ∧ (Below w.heap.size w w')) ?_ ?_
  rotate_left
  ·
   intro hCont
   refine two_ (i := 5) (j := 15) (Ni := some 94) (Nj := some 24) #[zt, zt, zt, zt, zt, zt, zt, zt, zf, zt, zt, zt, zt, zt, zf, zf, zf] #[zt, zt, zt, zt, zt, zf, zt, zt, zf, zt, zt, zt, zt, zt, zf, zt, zf] rfl rfl rfl rfl (two_of HT_.out (by kernel_rfl)) (by decide) (by decide) (fun K hK => ?_) (fun K hK => ?_)
   ·
    skip
    refine goes_ Tryz.func29 (by kernel_rfl) rfl #[.slice (some ⟨0, 0, none⟩) 6 6, .string t247] (by rfl) rfl rfl zq1 ?_
    with_reducible refine (slices_Index_h.calls0 t247 t274 _ (HTL.out.below zq3) (HTO.out.below zq3) A30.out).mono ?_
    rintro e w39 ⟨rfl, hb⟩
    have HS0_ := (hb.cell (World.block_lt_of_cell? _ _ (hHeld.1))).trans (hHeld.1)
    have HS1_ := (hb.cell (World.block_lt_of_cell? _ _ (hHeld.2))).trans (hHeld.2)
    refine ⟨_, rfl, ?_⟩
    have n0_ := zm (Kd.R_below (zqR HO_18.out) hb)
    have n1_ := zm (blk_below (g := gb243) (o := .cells #[.int .i64 0, .int .i64 0, .int .i64 0, .int .i64 0, .int .i64 0, .int .i64 0] 25 (0, 0)) (zqK BK243.out) hb)
    have n2_ := zm (below_step zq4 hb)
    clear HO_18
    clear BK243
    clear HB
    have HO_18 := n0_
    have BK243 := n1_
    have HB := n2_
    clear n0_ n1_ n2_
    (try clear hb)
    (try clear hb2)
    (try clear hk)
    (try clear hi)
    refine hK.out _ _ ⟨HS0_, HS1_⟩ (fun hHeld => ?_)
    clear hK K
    refine norm_ (a' := ?_) ?_ ?_
    rotate_left
    ·
     show Act.put _ (some 94) _ = _
     simp only [Act.put, List.setIfInBounds_toArray, List.set_cons_zero, List.set_cons_succ, i64_w, i32_w]
     rfl
    refine two_ (i := 8) (j := 15) (Ni := some 97) (Nj := some 24) #[zt, zt, zt, zt, zt, zt, zt, zt, zt, zt, zt, zt, zt, zt, zf, zf, zf] #[zt, zt, zt, zt, zt, zt, zt, zt, zf, zt, zt, zt, zt, zt, zf, zt, zf] rfl rfl rfl rfl (two_of HT_.out (by kernel_rfl)) (by decide) (by decide) (fun K hK => ?_) (fun K hK => ?_)
    ·
     skip
     refine goes_ Tryz.func29 (by kernel_rfl) rfl #[.slice (some ⟨1, 0, none⟩) 4 4, .string t244] (by rfl) rfl rfl zq1 ?_
     with_reducible refine (slices_Index_h.calls1 t244 t275 _ (HTL.out.below zq3) (HTO.out.below zq3) A31.out).mono ?_
     rintro e w40 ⟨rfl, hb⟩
     have HS0_ := (hb.cell (World.block_lt_of_cell? _ _ (hHeld.1))).trans (hHeld.1)
     have HS1_ := (hb.cell (World.block_lt_of_cell? _ _ (hHeld.2))).trans (hHeld.2)
     refine ⟨_, rfl, ?_⟩
     have n0_ := zm (Kd.R_below (zqR HO_18.out) hb)
     have n1_ := zm (blk_below (g := gb243) (o := .cells #[.int .i64 0, .int .i64 0, .int .i64 0, .int .i64 0, .int .i64 0, .int .i64 0] 25 (0, 0)) (zqK BK243.out) hb)
     have n2_ := zm (below_step zq4 hb)
     clear HO_18
     clear BK243
     clear HB
     have HO_18 := n0_
     have BK243 := n1_
     have HB := n2_
     clear n0_ n1_ n2_
     (try clear hb)
     (try clear hb2)
     (try clear hk)
     (try clear hi)
     refine hK.out _ _ ⟨HS0_, HS1_⟩ (fun hHeld => ?_)
     clear hK K
     refine norm_ (a' := ?_) ?_ ?_
     rotate_left
     ·
      show Act.put _ (some 97) _ = _
      simp only [Act.put, List.setIfInBounds_toArray, List.set_cons_zero, List.set_cons_succ, i64_w, i32_w]
      rfl
     refine zP 14 (some 103) #[zt, zt, zt, zt, zt, zt, zt, zt, zt, zt, zt, zt, zt, zt, zt, zf, zf] ?_ rfl rfl HT_ (Or.inl ⟨by rfl, ?_⟩) ?_ ?_ ?_
     rotate_left; · exact zqB
     rotate_left; · exact zqA
     refine one_ (i := 15) (N := some 24) #[zt, zt, zt, zt, zt, zt, zt, zt, zt, zt, zt, zt, zt, zt, zt, zt, zf] rfl rfl (one_of HT_.out (by kernel_rfl)) (by decide) (fun K hK => ?_)
     refine box_step ?hg (N := 24) ?hd (cs := #[.int .i64 0, .int .i64 0, .int .i64 0, .int .i64 0, .int .i64 0, .int .i64 0]) (t := 25) ?hr ?_; (case hd => rfl); (case hg => rfl); (case hr => exact zqS)
     intro gb277 hg w41 hbox hb
     have HS0_ := (hb.cell (World.block_lt_of_cell? _ _ (hHeld.1))).trans (hHeld.1)
     have HS1_ := (hb.cell (World.block_lt_of_cell? _ _ (hHeld.2))).trans (hHeld.2)
     have n0_ := zm (Kd.R_below (zqR HO_18.out) hb)
     have n1_ := zm (blk_below (g := gb243) (o := .cells #[.int .i64 0, .int .i64 0, .int .i64 0, .int .i64 0, .int .i64 0, .int .i64 0] 25 (0, 0)) (zqK BK243.out) hb)
     have n2_ := zm (below_step zq4 hb)
     have n3_ := zm (hbox)
     have n4_ := zm ((by rw [hg]; exact (below_size zq4) : w.heap.size ≤ gb277))
     have n5_ := zm ((by rw [hg]; exact (below_size zq4) : w.heap.size ≤ gb277))
     have n6_ := zm ((by rw [hg]; exact Nat.ne_of_lt (blk_lt (g := gb243) (o := .cells #[.int .i64 0, .int .i64 0, .int .i64 0, .int .i64 0, .int .i64 0, .int .i64 0] 25 (0, 0)) (zqK BK243.out)) : gb243 ≠ gb277))
     have n7_ := zm ((by rw [hg]; exact Nat.ne_of_gt (blk_lt (g := gb243) (o := .cells #[.int .i64 0, .int .i64 0, .int .i64 0, .int .i64 0, .int .i64 0, .int .i64 0] 25 (0, 0)) (zqK BK243.out)) : gb277 ≠ gb243))
     clear HO_18
     clear BK243
     clear HB
     have HO_18 := n0_
     have BK243 := n1_
     have HB := n2_
     have BK277 := n3_
     have GW277 := n4_
     have GE277 := n5_
     have NB243_277 := n6_
     have NB277_243 := n7_
     clear n0_ n1_ n2_ n3_ n4_ n5_ n6_ n7_
     clear hb hbox hg
     refine hK.out _ _ ⟨HS0_, HS1_⟩ (fun hHeld => ?_)
     clear hK K
     refine norm_ (a' := ?_) ?_ ?_
     rotate_left
     ·
      show Act.put _ (some 24) _ = _
      simp only [Act.put, List.setIfInBounds_toArray, List.set_cons_zero, List.set_cons_succ, i64_w, i32_w]
      rfl
     exact norm_ (by simp only [putAll, Act.put, List.setIfInBounds_toArray, List.set_cons_zero, List.set_cons_succ]) (hCont (gb277) _ ⟨hHeld, (zqR HO_18.out), (zqK BK243.out), (zqK BK277.out), GW277.out, GE277.out, NB243_277.out, NB277_243.out, zq3⟩)
    ·
     skip
     refine box_step ?hg (N := 24) ?hd (cs := #[.int .i64 0, .int .i64 0, .int .i64 0, .int .i64 0, .int .i64 0, .int .i64 0]) (t := 25) ?hr ?_; (case hd => rfl); (case hg => rfl); (case hr => exact zqS)
     intro gb277 hg w40 hbox hb
     have HS0_ := (hb.cell (World.block_lt_of_cell? _ _ (hHeld.1))).trans (hHeld.1)
     have HS1_ := (hb.cell (World.block_lt_of_cell? _ _ (hHeld.2))).trans (hHeld.2)
     have n0_ := zm (Kd.R_below (zqR HO_18.out) hb)
     have n1_ := zm (blk_below (g := gb243) (o := .cells #[.int .i64 0, .int .i64 0, .int .i64 0, .int .i64 0, .int .i64 0, .int .i64 0] 25 (0, 0)) (zqK BK243.out) hb)
     have n2_ := zm (below_step zq4 hb)
     have n3_ := zm (hbox)
     have n4_ := zm ((by rw [hg]; exact (below_size zq4) : w.heap.size ≤ gb277))
     have n5_ := zm ((by rw [hg]; exact (below_size zq4) : w.heap.size ≤ gb277))
     have n6_ := zm ((by rw [hg]; exact Nat.ne_of_lt (blk_lt (g := gb243) (o := .cells #[.int .i64 0, .int .i64 0, .int .i64 0, .int .i64 0, .int .i64 0, .int .i64 0] 25 (0, 0)) (zqK BK243.out)) : gb243 ≠ gb277))
     have n7_ := zm ((by rw [hg]; exact Nat.ne_of_gt (blk_lt (g := gb243) (o := .cells #[.int .i64 0, .int .i64 0, .int .i64 0, .int .i64 0, .int .i64 0, .int .i64 0] 25 (0, 0)) (zqK BK243.out)) : gb277 ≠ gb243))
     clear HO_18
     clear BK243
     clear HB
     have HO_18 := n0_
     have BK243 := n1_
     have HB := n2_
     have BK277 := n3_
     have GW277 := n4_
     have GE277 := n5_
     have NB243_277 := n6_
     have NB277_243 := n7_
     clear n0_ n1_ n2_ n3_ n4_ n5_ n6_ n7_
     clear hb hbox hg
     refine hK.out _ _ ⟨HS0_, HS1_⟩ (fun hHeld => ?_)
     clear hK K
     refine norm_ (a' := ?_) ?_ ?_
     rotate_left
     ·
      show Act.put _ (some 24) _ = _
      simp only [Act.put, List.setIfInBounds_toArray, List.set_cons_zero, List.set_cons_succ, i64_w, i32_w]
      rfl
     refine one_ (i := 8) (N := some 97) #[zt, zt, zt, zt, zt, zt, zt, zt, zt, zt, zt, zt, zt, zt, zf, zt, zf] rfl rfl (one_of HT_.out (by kernel_rfl)) (by decide) (fun K hK => ?_)
     refine goes_ Tryz.func29 (by kernel_rfl) rfl #[.slice (some ⟨1, 0, none⟩) 4 4, .string t244] (by rfl) rfl rfl zq1 ?_
     with_reducible refine (slices_Index_h.calls1 t244 t275 _ (HTL.out.below zq3) (HTO.out.below zq3) A31.out).mono ?_
     rintro e w41 ⟨rfl, hb⟩
     have HS0_ := (hb.cell (World.block_lt_of_cell? _ _ (hHeld.1))).trans (hHeld.1)
     have HS1_ := (hb.cell (World.block_lt_of_cell? _ _ (hHeld.2))).trans (hHeld.2)
     refine ⟨_, rfl, ?_⟩
     have n0_ := zm (Kd.R_below (zqR HO_18.out) hb)
     have n1_ := zm (blk_below (g := gb243) (o := .cells #[.int .i64 0, .int .i64 0, .int .i64 0, .int .i64 0, .int .i64 0, .int .i64 0] 25 (0, 0)) (zqK BK243.out) hb)
     have n2_ := zm (blk_below (g := gb277) (o := .cells #[.int .i64 0, .int .i64 0, .int .i64 0, .int .i64 0, .int .i64 0, .int .i64 0] 25 (0, 0)) (zqK BK277.out) hb)
     have n3_ := zm (below_step zq3 hb)
     clear HO_18
     clear BK243
     clear BK277
     clear HB
     have HO_18 := n0_
     have BK243 := n1_
     have BK277 := n2_
     have HB := n3_
     clear n0_ n1_ n2_ n3_
     (try clear hb)
     (try clear hb2)
     (try clear hk)
     (try clear hi)
     refine hK.out _ _ ⟨HS0_, HS1_⟩ (fun hHeld => ?_)
     clear hK K
     refine norm_ (a' := ?_) ?_ ?_
     rotate_left
     ·
      show Act.put _ (some 97) _ = _
      simp only [Act.put, List.setIfInBounds_toArray, List.set_cons_zero, List.set_cons_succ, i64_w, i32_w]
      rfl
     refine zP 14 (some 103) #[zt, zt, zt, zt, zt, zt, zt, zt, zt, zt, zt, zt, zt, zt, zt, zt, zf] ?_ rfl rfl HT_ (Or.inl ⟨by rfl, ?_⟩) ?_ ?_ ?_
     rotate_left; · exact zqB
     rotate_left; · exact zqA
     exact norm_ (by simp only [putAll, Act.put, List.setIfInBounds_toArray, List.set_cons_zero, List.set_cons_succ]) (hCont (gb277) _ ⟨hHeld, (zqR HO_18.out), (zqK BK243.out), (zqK BK277.out), GW277.out, GE277.out, NB243_277.out, NB277_243.out, zq3⟩)
   ·
    skip
    refine box_step ?hg (N := 24) ?hd (cs := #[.int .i64 0, .int .i64 0, .int .i64 0, .int .i64 0, .int .i64 0, .int .i64 0]) (t := 25) ?hr ?_; (case hd => rfl); (case hg => rfl); (case hr => exact zqS)
    intro gb277 hg w39 hbox hb
    have HS0_ := (hb.cell (World.block_lt_of_cell? _ _ (hHeld.1))).trans (hHeld.1)
    have HS1_ := (hb.cell (World.block_lt_of_cell? _ _ (hHeld.2))).trans (hHeld.2)
    have n0_ := zm (Kd.R_below (zqR HO_18.out) hb)
    have n1_ := zm (blk_below (g := gb243) (o := .cells #[.int .i64 0, .int .i64 0, .int .i64 0, .int .i64 0, .int .i64 0, .int .i64 0] 25 (0, 0)) (zqK BK243.out) hb)
    have n2_ := zm (below_step zq4 hb)
    have n3_ := zm (hbox)
    have n4_ := zm ((by rw [hg]; exact (below_size zq4) : w.heap.size ≤ gb277))
    have n5_ := zm ((by rw [hg]; exact (below_size zq4) : w.heap.size ≤ gb277))
    have n6_ := zm ((by rw [hg]; exact Nat.ne_of_lt (blk_lt (g := gb243) (o := .cells #[.int .i64 0, .int .i64 0, .int .i64 0, .int .i64 0, .int .i64 0, .int .i64 0] 25 (0, 0)) (zqK BK243.out)) : gb243 ≠ gb277))
    have n7_ := zm ((by rw [hg]; exact Nat.ne_of_gt (blk_lt (g := gb243) (o := .cells #[.int .i64 0, .int .i64 0, .int .i64 0, .int .i64 0, .int .i64 0, .int .i64 0] 25 (0, 0)) (zqK BK243.out)) : gb277 ≠ gb243))
    clear HO_18
    clear BK243
    clear HB
    have HO_18 := n0_
    have BK243 := n1_
    have HB := n2_
    have BK277 := n3_
    have GW277 := n4_
    have GE277 := n5_
    have NB243_277 := n6_
    have NB277_243 := n7_
    clear n0_ n1_ n2_ n3_ n4_ n5_ n6_ n7_
    clear hb hbox hg
    refine hK.out _ _ ⟨HS0_, HS1_⟩ (fun hHeld => ?_)
    clear hK K
    refine norm_ (a' := ?_) ?_ ?_
    rotate_left
    ·
     show Act.put _ (some 24) _ = _
     simp only [Act.put, List.setIfInBounds_toArray, List.set_cons_zero, List.set_cons_succ, i64_w, i32_w]
     rfl
    refine one_ (i := 5) (N := some 94) #[zt, zt, zt, zt, zt, zt, zt, zt, zf, zt, zt, zt, zt, zt, zf, zt, zf] rfl rfl (one_of HT_.out (by kernel_rfl)) (by decide) (fun K hK => ?_)
    refine goes_ Tryz.func29 (by kernel_rfl) rfl #[.slice (some ⟨0, 0, none⟩) 6 6, .string t247] (by rfl) rfl rfl zq1 ?_
    with_reducible refine (slices_Index_h.calls0 t247 t274 _ (HTL.out.below zq3) (HTO.out.below zq3) A30.out).mono ?_
    rintro e w40 ⟨rfl, hb⟩
    have HS0_ := (hb.cell (World.block_lt_of_cell? _ _ (hHeld.1))).trans (hHeld.1)
    have HS1_ := (hb.cell (World.block_lt_of_cell? _ _ (hHeld.2))).trans (hHeld.2)
    refine ⟨_, rfl, ?_⟩
    have n0_ := zm (Kd.R_below (zqR HO_18.out) hb)
    have n1_ := zm (blk_below (g := gb243) (o := .cells #[.int .i64 0, .int .i64 0, .int .i64 0, .int .i64 0, .int .i64 0, .int .i64 0] 25 (0, 0)) (zqK BK243.out) hb)
    have n2_ := zm (blk_below (g := gb277) (o := .cells #[.int .i64 0, .int .i64 0, .int .i64 0, .int .i64 0, .int .i64 0, .int .i64 0] 25 (0, 0)) (zqK BK277.out) hb)
    have n3_ := zm (below_step zq3 hb)
    clear HO_18
    clear BK243
    clear BK277
    clear HB
    have HO_18 := n0_
    have BK243 := n1_
    have BK277 := n2_
    have HB := n3_
    clear n0_ n1_ n2_ n3_
    (try clear hb)
    (try clear hb2)
    (try clear hk)
    (try clear hi)
    refine hK.out _ _ ⟨HS0_, HS1_⟩ (fun hHeld => ?_)
    clear hK K
    refine norm_ (a' := ?_) ?_ ?_
    rotate_left
    ·
     show Act.put _ (some 94) _ = _
     simp only [Act.put, List.setIfInBounds_toArray, List.set_cons_zero, List.set_cons_succ, i64_w, i32_w]
     rfl
    refine one_ (i := 8) (N := some 97) #[zt, zt, zt, zt, zt, zt, zt, zt, zt, zt, zt, zt, zt, zt, zf, zt, zf] rfl rfl (one_of HT_.out (by kernel_rfl)) (by decide) (fun K hK => ?_)
    refine goes_ Tryz.func29 (by kernel_rfl) rfl #[.slice (some ⟨1, 0, none⟩) 4 4, .string t244] (by rfl) rfl rfl zq1 ?_
    with_reducible refine (slices_Index_h.calls1 t244 t275 _ (HTL.out.below zq3) (HTO.out.below zq3) A31.out).mono ?_
    rintro e w41 ⟨rfl, hb⟩
    have HS0_ := (hb.cell (World.block_lt_of_cell? _ _ (hHeld.1))).trans (hHeld.1)
    have HS1_ := (hb.cell (World.block_lt_of_cell? _ _ (hHeld.2))).trans (hHeld.2)
    refine ⟨_, rfl, ?_⟩
    have n0_ := zm (Kd.R_below (zqR HO_18.out) hb)
    have n1_ := zm (blk_below (g := gb243) (o := .cells #[.int .i64 0, .int .i64 0, .int .i64 0, .int .i64 0, .int .i64 0, .int .i64 0] 25 (0, 0)) (zqK BK243.out) hb)
    have n2_ := zm (blk_below (g := gb277) (o := .cells #[.int .i64 0, .int .i64 0, .int .i64 0, .int .i64 0, .int .i64 0, .int .i64 0] 25 (0, 0)) (zqK BK277.out) hb)
    have n3_ := zm (below_step zq3 hb)
    clear HO_18
    clear BK243
    clear BK277
    clear HB
    have HO_18 := n0_
    have BK243 := n1_
    have BK277 := n2_
    have HB := n3_
    clear n0_ n1_ n2_ n3_
    (try clear hb)
    (try clear hb2)
    (try clear hk)
    (try clear hi)
    refine hK.out _ _ ⟨HS0_, HS1_⟩ (fun hHeld => ?_)
    clear hK K
    refine norm_ (a' := ?_) ?_ ?_
    rotate_left
    ·
     show Act.put _ (some 97) _ = _
     simp only [Act.put, List.setIfInBounds_toArray, List.set_cons_zero, List.set_cons_succ, i64_w, i32_w]
     rfl
    refine zP 14 (some 103) #[zt, zt, zt, zt, zt, zt, zt, zt, zt, zt, zt, zt, zt, zt, zt, zt, zf] ?_ rfl rfl HT_ (Or.inl ⟨by rfl, ?_⟩) ?_ ?_ ?_
    rotate_left; · exact zqB
    rotate_left; · exact zqA
    exact norm_ (by simp only [putAll, Act.put, List.setIfInBounds_toArray, List.set_cons_zero, List.set_cons_succ]) (hCont (gb277) _ ⟨hHeld, (zqR HO_18.out), (zqK BK243.out), (zqK BK277.out), GW277.out, GE277.out, NB243_277.out, NB277_243.out, zq3⟩)
  rintro gb277 w42 ⟨hS_, h0_, h1_, h2_, h3_, h4_, h5_, h6_, h7_⟩
  have n0_ : Aside0 (Kd.R (Kd.int .i64) 3 w42 w.heap.size (fun _ => True) (.slice (some ad273) t265.length co38) t265) := ⟨h0_⟩
  have n1_ : Aside0 (w42.heap[gb243]? = some (.cells #[.int .i64 0, .int .i64 0, .int .i64 0, .int .i64 0, .int .i64 0, .int .i64 0] 25 (0, 0))) := ⟨h1_⟩
  have n2_ : Aside0 (w42.heap[gb277]? = some (.cells #[.int .i64 0, .int .i64 0, .int .i64 0, .int .i64 0, .int .i64 0, .int .i64 0] 25 (0, 0))) := ⟨h2_⟩
  have n3_ : Aside0 (w.heap.size ≤ gb277) := ⟨h3_⟩
  have n4_ : Aside0 (w.heap.size ≤ gb277) := ⟨h4_⟩
  have n5_ : Aside0 (gb243 ≠ gb277) := ⟨h5_⟩
  have n6_ : Aside0 (gb277 ≠ gb243) := ⟨h6_⟩
  have n7_ : Aside0 (Below w.heap.size w w42) := ⟨h7_⟩
  clear HO_18
  clear BK243
  clear HB
  clear h0_ h1_ h2_ h3_ h4_ h5_ h6_ h7_
  have HO_18 := n0_
  have BK243 := n1_
  have BK277 := n2_
  have GW277 := n3_
  have GE277 := n4_
  have NB243_277 := n5_
  have NB277_243 := n6_
  have HB := n7_
  clear n0_ n1_ n2_ n3_ n4_ n5_ n6_ n7_
  have hHeld : w42.cell? ⟨ad273.block, ad273.off + 1, none⟩ = some (.int .i64 (rd t265 1)) ∧ w42.cell? ad273 = some (.int .i64 (rd t265 0)) := hS_
  refine norm_ (a' := ?_) ?_ ?_
  rotate_left
  ·
   simp only [putAll, Act.put, List.setIfInBounds_toArray, List.set_cons_zero, List.set_cons_succ]
   rfl
  refine one_ (i := 16) (N := none) #[zt, zt, zt, zt, zt, zt, zt, zt, zt, zt, zt, zt, zt, zt, zt, zt, zt] rfl rfl (one_of HT_.out (by kernel_rfl)) (by decide) (fun K hK => ?_)
  have hs43 : w42.cell? ⟨gb277, 0, none⟩ = some (.int .i64 0) := (blk_cell BK277.out 0).trans rfl
  have hfs43 := blk_frozen BK277.out 0
  have hns43_0 := NB243_277.out
  have hms43_0 := NB277_243.out
  have hs44 : w42.cell? ⟨gb277, 1, none⟩ = some (.int .i64 0) := (blk_cell BK277.out 1).trans rfl
  have hfs44 := blk_frozen BK277.out 1
  have hns44_0 := NB243_277.out
  have hms44_0 := NB277_243.out
  have hs45 : w42.cell? ⟨gb277, 2, none⟩ = some (.int .i64 0) := (blk_cell BK277.out 2).trans rfl
  have hfs45 := blk_frozen BK277.out 2
  have hns45_0 := NB243_277.out
  have hms45_0 := NB277_243.out
  have hs46 : w42.cell? ⟨gb277, 3, none⟩ = some (.int .i64 0) := (blk_cell BK277.out 3).trans rfl
  have hfs46 := blk_frozen BK277.out 3
  have hns46_0 := NB243_277.out
  have hms46_0 := NB277_243.out
  have hs47 : w42.cell? ⟨gb277, 4, none⟩ = some (.int .i64 0) := (blk_cell BK277.out 4).trans rfl
  have hfs47 := blk_frozen BK277.out 4
  have hns47_0 := NB243_277.out
  have hms47_0 := NB277_243.out
  have hs48 : w42.cell? ⟨gb277, 5, none⟩ = some (.int .i64 0) := (blk_cell BK277.out 5).trans rfl
  have hfs48 := blk_frozen BK277.out 5
  have hns48_0 := NB243_277.out
  have hms48_0 := NB277_243.out
  refine skip_ (w1 := ?_) (by rfl) rfl ?_ ?_
  rotate_left
  ·
   go_simp
   rfl
  refine hK.out _ _ ⟨far6 hHeld.1 zq49 _ _ _ _ _ _, far6 hHeld.2 zq49 _ _ _ _ _ _⟩ (fun hHeld => ?_)
  clear hK K
  refine done_ (done_of HT_.out (by kernel_rfl)) ?_
  have hnb49 := NB277_243.out
  have hnc49 := NB243_277.out
  obtain ⟨hcz50_0, hcz50_1, hcz50_2, hcz50_3, hcz50_4, hcz50_5, hfz50_0, hfz50_1, hfz50_2, hfz50_3, hfz50_4, hfz50_5⟩ := bz6 BK277.out
  try go_wp2_with (first | ((with_reducible refine gate_callee (f := 23) rfl ?_); refine goesL_ (some 105) rfl rfl Tryz.func23 (by kernel_rfl) rfl #[.agg #[.int .i64 (rd t265 1), .int .i64 t274, .int .i64 t275, .int .i64 (rd t265 0), .int .i64 t269, .int .i64 t271]] rfl zq1 ?_; (with_reducible refine (impl_IsValidWarning.calls (rd t265 1) t274 t275 (rd t265 0) t269 t271 true _ A33.out).mono ?_); rintro e w51 ⟨rfl, hb⟩; refine ⟨_, rfl, ?_⟩; replace HO_18 := zm (Kd.R_below zq38 hb); replace BK243 := zm (blk_below (g := gb243) (o := .cells #[.int .i64 0, .int .i64 0, .int .i64 0, .int .i64 0, .int .i64 0, .int .i64 0] 25 (0, 0)) zq24 hb); replace BK277 := zm (blk_below (g := gb277) (o := .cells #[.int .i64 (rd t265 1), .int .i64 t274, .int .i64 t275, .int .i64 (rd t265 0), .int .i64 t269, .int .i64 t271] 25 (0, 0)) zq16 hb); replace HB := zm (below_step zq3 hb); (try clear hb); (try clear hb2); (try clear hk); (try clear hi); obtain ⟨hcz52_0, hcz52_1, hcz52_2, hcz52_3, hcz52_4, hcz52_5, hfz52_0, hfz52_1, hfz52_2, hfz52_3, hfz52_4, hfz52_5⟩ := bz6 BK277.out) | (go_at_call 24; (with_reducible refine (impl_warningText.calls (rd t265 1) t274 t275 (rd t265 0) t269 t271 t279 _ (HTL.out.below zq3) (HTN.out.below zq3) (HTO.out.below zq3) A35.out).mono ?_); rintro e w53 ⟨rfl, hb⟩; replace HO_18 := zm (Kd.R_below (zqR HO_18.out) hb); replace BK243 := zm (blk_below (g := gb243) (o := .cells #[.int .i64 0, .int .i64 0, .int .i64 0, .int .i64 0, .int .i64 0, .int .i64 0] 25 (0, 0)) (zqK BK243.out) hb); replace BK277 := zm (blk_below (g := gb277) (o := .cells #[.int .i64 (rd t265 1), .int .i64 t274, .int .i64 t275, .int .i64 (rd t265 0), .int .i64 t269, .int .i64 t271] 25 (0, 0)) (zqK BK277.out) hb); replace HB := zm (below_step zq3 hb); (try clear hb); (try clear hb2); (try clear hk); (try clear hi); obtain ⟨hcz54_0, hcz54_1, hcz54_2, hcz54_3, hcz54_4, hcz54_5, hfz54_0, hfz54_1, hfz54_2, hfz54_3, hfz54_4, hfz54_5⟩ := bz6 BK277.out; obtain ⟨hcz55_0, hcz55_1, hcz55_2, hcz55_3, hcz55_4, hcz55_5, hfz55_0, hfz55_1, hfz55_2, hfz55_3, hfz55_4, hfz55_5⟩ := bz6 BK243.out))
  refine bodyPost_ret (results_ct rfl _ _ gb243 25 #[.int .i64 (rd t265 1), .int .i64 t274, .int .i64 t275, .int .i64 (rd t265 0), .int .i64 t269, .int .i64 t271] (0, 0) _ rfl (by (with_reducible repeat (first | refine zN ?_ _ | refine zD ?_ | refine zL ?_ _)); refine blk_put (cs := #[.int .i64 (rd t265 1), .int .i64 t274, .int .i64 t275, .int .i64 (rd t265 0), .int .i64 t269, .int .i64 0]) ?_ 5 _ rfl; (with_reducible repeat (first | refine zN ?_ _ | refine zD ?_ | refine zL ?_ _)); refine blk_put (cs := #[.int .i64 (rd t265 1), .int .i64 t274, .int .i64 t275, .int .i64 (rd t265 0), .int .i64 0, .int .i64 0]) ?_ 4 _ rfl; (with_reducible repeat (first | refine zN ?_ _ | refine zD ?_ | refine zL ?_ _)); refine blk_put (cs := #[.int .i64 (rd t265 1), .int .i64 t274, .int .i64 t275, .int .i64 0, .int .i64 0, .int .i64 0]) ?_ 3 _ rfl; (with_reducible repeat (first | refine zN ?_ _ | refine zD ?_ | refine zL ?_ _)); refine blk_put (cs := #[.int .i64 (rd t265 1), .int .i64 t274, .int .i64 0, .int .i64 0, .int .i64 0, .int .i64 0]) ?_ 2 _ rfl; (with_reducible repeat (first | refine zN ?_ _ | refine zD ?_ | refine zL ?_ _)); refine blk_put (cs := #[.int .i64 (rd t265 1), .int .i64 0, .int .i64 0, .int .i64 0, .int .i64 0, .int .i64 0]) ?_ 1 _ rfl; (with_reducible repeat (first | refine zN ?_ _ | refine zD ?_ | refine zL ?_ _)); refine blk_put (cs := #[.int .i64 0, .int .i64 0, .int .i64 0, .int .i64 0, .int .i64 0, .int .i64 0]) ?_ 0 _ rfl; (with_reducible repeat (first | refine zN ?_ _ | refine zD ?_ | refine zL ?_ _)); exact BK243.out) Tryz.underlying25 rfl (by kernel_rfl)) rfl ?_
  exact ⟨zqE, zq3⟩
end Go.Proofs.YtleadjbfcenofaaGreatDoor.Q
