/- Texts of this seat, put together: Qf18. -/
import Derived.Test.YtfmmpjfmdhdbmaaDoorZFnExactParseWarningLine
import Derived.Test.YtfmmpjfmdhdbmaaDoorBFnExactParseWarningLine0
import Derived.Test.YtfmmpjfmdhdbmaaDoorBFnExactParseWarningLine4
import Derived.Test.YtfmmpjfmdhdbmaaDoorBFnExactParseWarningLine5
namespace Go.Proofs.YtfmmpjfmdhdbmaaDoor.Q
open Go.RowKit Go.Proofs.YtfmmpjfmdhdbmaaDoorW.PrintWords Go.Proofs.YtfmmpjfmdhdbmaaDoorW.PrintLast Go.Proofs.YtfmmpjfmdhdbmaaDoorW.PrintMore
attribute [local go_sem] max2_int min2_int max_two min_two max_three min_three max_four min_four   -- for this text's walks alone
set_option linter.unusedVariables false
set_option linter.unusedSimpArgs false

/-! ### impl_ParseWarningLine: function 18 -/
def impl_ParseWarningLine.j0 : Nat → ByteArray → ByteArray → List Int → Int → Bool → Option (Int × Int × Int × Int × Int × Int × Bool)
 | 0, _, _, _, _, _ => none
 | k + 1, x0, x9, x16, x18, x67 => if x67 = true then (some (0, 0, 0, 0, 0, 0, false)) else (if 0 < (x16.length : Int) then ((slices_Index_h.f 0 x9).bind fun t508 => (if 1 < (x16.length : Int) then (if 2 < (x16.length : Int) then (if 3 < (x16.length : Int) then ((impl_IsValidWarning.f (rd x16 0) t508 x18 (rd x16 1) (rd x16 2) (rd x16 3)).bind fun t513 => (if t513 = true then ((impl_warningLine.f k (rd x16 0) t508 x18 (rd x16 1) (rd x16 2) (rd x16 3)).bind fun t514 => (if t514.toList = x0.toList then (some (rd x16 0, t508, x18, rd x16 1, rd x16 2, rd x16 3, true)) else (some (0, 0, 0, 0, 0, 0, false)))) else (some (0, 0, 0, 0, 0, 0, false)))) else (none)) else (none)) else (none))) else (none))
def impl_ParseWarningLine.f (k : Nat) (a0 : ByteArray) : Option (Int × Int × Int × Int × Int × Int × Bool) := (strings_Cut.f a0 (⟨#[58, 32]⟩ : ByteArray)).bind fun bt484 => ((strings_Cut.f bt484.2.1 (⟨#[32]⟩ : ByteArray)).bind fun bt487 => ((strings_Cut.f bt487.2.1 (⟨#[44, 32, 97, 114, 101, 97, 32]⟩ : ByteArray)).bind fun bt490 => ((strings_Cut.f bt490.2.1 (⟨#[44, 32, 104, 111, 117, 114, 115, 32]⟩ : ByteArray)).bind fun bt493 => ((strings_Cut.f bt493.2.1 (⟨#[45]⟩ : ByteArray)).bind fun bt496 => ((impl_readInts.f k (([bt484.1, bt493.1, bt496.1, bt496.2.1] : List ByteArray))).bind fun bt502 => ((slices_IndexFunc_h.f 1 bt487.1).bind fun t506 => (if bt502.2 = true then (impl_ParseWarningLine.j0 k a0 bt490.1 bt502.1 t506 (decide (t506 < 1))) else (impl_ParseWarningLine.j0 k a0 bt490.1 bt502.1 t506 true))))))))
theorem impl_ParseWarningLine.mono_l : ∀ k, (∀ y0 y1 y2 y3 y4, LeO (impl_ParseWarningLine.j0 k y0 y1 y2 y3 y4) (impl_ParseWarningLine.j0 (k + 1) y0 y1 y2 y3 y4))
 | 0 => fun _ _ _ _ _ r h => by simp [impl_ParseWarningLine.j0] at h
 | k + 1 => by
  have ih0 := impl_ParseWarningLine.mono_l k
  ·
   intro y0 y1 y2 y3 y4
   unfold impl_ParseWarningLine.j0
   repeat' first
   | (with_reducible exact ih0 _ _ _ _ _)
   | (with_reducible exact impl_readInts.mono _ _)
   | (with_reducible exact impl_warningLine.mono _ _ _ _ _ _ _)
   | (with_reducible exact LeO.refl _)
   | (with_reducible exact LeO.none _)
   | (with_reducible refine LeO.ite ?_ ?_)
   | (with_reducible refine LeO.bind ?_ (fun _ => ?_))
   | exact ih0 _ _ _ _ _
   | exact impl_readInts.mono _ _
   | exact impl_warningLine.mono _ _ _ _ _ _ _
   | exact LeO.none _
   | refine LeO.ite ?_ ?_
   | refine LeO.bind ?_ (fun _ => ?_)
theorem impl_ParseWarningLine.mono : ∀ a0 k, LeO (impl_ParseWarningLine.f k a0) (impl_ParseWarningLine.f (k + 1) a0) := by
 intro a0 k
 have ih0 := impl_ParseWarningLine.mono_l k
 unfold impl_ParseWarningLine.f
 repeat' first
   | (with_reducible exact ih0 _ _ _ _ _)
   | (with_reducible exact impl_readInts.mono _ _)
   | (with_reducible exact impl_warningLine.mono _ _ _ _ _ _ _)
   | (with_reducible exact LeO.refl _)
   | (with_reducible exact LeO.none _)
   | (with_reducible refine LeO.ite ?_ ?_)
   | (with_reducible refine LeO.bind ?_ (fun _ => ?_))
   | exact ih0 _ _ _ _ _
   | exact impl_readInts.mono _ _
   | exact impl_warningLine.mono _ _ _ _ _ _ _
   | exact LeO.none _
   | refine LeO.ite ?_ ?_
   | refine LeO.bind ?_ (fun _ => ?_)
def impl_ParseWarningLine.T10 : Bool × List (List Nat × List Nat) := (true, [([], []), ([0], [0]), ([1], [1]), ([], []), ([], []), ([3, 4], [3, 4]), ([], []), ([], []), ([7], [7]), ([8], [8]), ([], []), ([10], [10]), ([11], [11]), ([], []), ([13], [13]), ([14], [14]), ([2, 5, 6, 9, 12, 15], [2, 5, 6, 9, 12, 15]), ([], []), ([17, 16, 5, 0, 1, 2, 3, 4, 5, 6, 7, 8, 9, 10, 11, 12, 13, 14, 15, 16, 17], [16, 17])])
def impl_ParseWarningLine.B10 : List Nat := [0, 1, 3, 0, 0, 24, 0, 0, 128, 384, 0, 1024, 3072, 0, 8192, 24576, 65535, 0, 262143]
theorem impl_ParseWarningLine.tab10 : rtab .any (opsOf Tryd.f18 10) = impl_ParseWarningLine.T10 := by kernel_rfl
theorem impl_ParseWarningLine.bits10 : waitsOk impl_ParseWarningLine.T10.2 impl_ParseWarningLine.B10 = true := by kernel_rfl
set_option maxHeartbeats 8000000 in
set_option maxRecDepth 100000 in
theorem impl_ParseWarningLine.calls (k : Nat) (a0 : ByteArray) (r1 : Int) (r2 : Int) (r3 : Int) (r4 : Int) (r5 : Int) (r6 : Int) (r7 : Bool) (w : World) (htE : TabE w) (htL : TabL w) (htM : TabM w) (htN : TabN w) (htO : TabO w) (h : impl_ParseWarningLine.f k a0 = some (r1, r2, r3, r4, r5, r6, r7)) :
  Calls Tryd.prog 18 #[.string a0] w fun e w' => e = .returned (.tuple #[.agg #[.int .i64 r1, .int .i64 r2, .int .i64 r3, .int .i64 r4, .int .i64 r5, .int .i64 r6], .bool r7]) ∧ Below w.heap.size w w' := by
 have HTE := Aside0.mk htE
 clear htE
 have HTL := Aside0.mk htL
 clear htL
 have HTM := Aside0.mk htM
 clear htM
 have HTN := Aside0.mk htN
 clear htN
 have HTO := Aside0.mk htO
 clear htO
 have hu23 := Tryd.underlying23
 have HB := Aside0.mk (Below.refl w.heap.size w)
 have H : ((strings_Cut.f a0 (⟨#[58, 32]⟩ : ByteArray)).bind fun bt484 => ((strings_Cut.f bt484.2.1 (⟨#[32]⟩ : ByteArray)).bind fun bt487 => ((strings_Cut.f bt487.2.1 (⟨#[44, 32, 97, 114, 101, 97, 32]⟩ : ByteArray)).bind fun bt490 => ((strings_Cut.f bt490.2.1 (⟨#[44, 32, 104, 111, 117, 114, 115, 32]⟩ : ByteArray)).bind fun bt493 => ((strings_Cut.f bt493.2.1 (⟨#[45]⟩ : ByteArray)).bind fun bt496 => ((impl_readInts.f k (([bt484.1, bt493.1, bt496.1, bt496.2.1] : List ByteArray))).bind fun bt502 => ((slices_IndexFunc_h.f 1 bt487.1).bind fun t506 => (if bt502.2 = true then (impl_ParseWarningLine.j0 k a0 bt490.1 bt502.1 t506 (decide (t506 < 1))) else (impl_ParseWarningLine.j0 k a0 bt490.1 bt502.1 t506 true))))))))) = some (r1, r2, r3, r4, r5, r6, r7) := h
 clear h
 replace H := Option.bind_eq_some_iff.mp H
 obtain ⟨⟨t484, t485, t486⟩, A20, H⟩ := H
 replace H : ((strings_Cut.f t485 (⟨#[32]⟩ : ByteArray)).bind fun bt487 => ((strings_Cut.f bt487.2.1 (⟨#[44, 32, 97, 114, 101, 97, 32]⟩ : ByteArray)).bind fun bt490 => ((strings_Cut.f bt490.2.1 (⟨#[44, 32, 104, 111, 117, 114, 115, 32]⟩ : ByteArray)).bind fun bt493 => ((strings_Cut.f bt493.2.1 (⟨#[45]⟩ : ByteArray)).bind fun bt496 => ((impl_readInts.f k (([t484, bt493.1, bt496.1, bt496.2.1] : List ByteArray))).bind fun bt502 => ((slices_IndexFunc_h.f 1 bt487.1).bind fun t506 => (if bt502.2 = true then (impl_ParseWarningLine.j0 k a0 bt490.1 bt502.1 t506 (decide (t506 < 1))) else (impl_ParseWarningLine.j0 k a0 bt490.1 bt502.1 t506 true)))))))) = some (r1, r2, r3, r4, r5, r6, r7) := H
 have A2 := Aside0.mk A20
 clear A20
 replace H := Option.bind_eq_some_iff.mp H
 obtain ⟨⟨t487, t488, t489⟩, A30, H⟩ := H
 replace H : ((strings_Cut.f t488 (⟨#[44, 32, 97, 114, 101, 97, 32]⟩ : ByteArray)).bind fun bt490 => ((strings_Cut.f bt490.2.1 (⟨#[44, 32, 104, 111, 117, 114, 115, 32]⟩ : ByteArray)).bind fun bt493 => ((strings_Cut.f bt493.2.1 (⟨#[45]⟩ : ByteArray)).bind fun bt496 => ((impl_readInts.f k (([t484, bt493.1, bt496.1, bt496.2.1] : List ByteArray))).bind fun bt502 => ((slices_IndexFunc_h.f 1 t487).bind fun t506 => (if bt502.2 = true then (impl_ParseWarningLine.j0 k a0 bt490.1 bt502.1 t506 (decide (t506 < 1))) else (impl_ParseWarningLine.j0 k a0 bt490.1 bt502.1 t506 true))))))) = some (r1, r2, r3, r4, r5, r6, r7) := H
 have A3 := Aside0.mk A30
 clear A30
 replace H := Option.bind_eq_some_iff.mp H
 obtain ⟨⟨t490, t491, t492⟩, A40, H⟩ := H
 replace H : ((strings_Cut.f t491 (⟨#[44, 32, 104, 111, 117, 114, 115, 32]⟩ : ByteArray)).bind fun bt493 => ((strings_Cut.f bt493.2.1 (⟨#[45]⟩ : ByteArray)).bind fun bt496 => ((impl_readInts.f k (([t484, bt493.1, bt496.1, bt496.2.1] : List ByteArray))).bind fun bt502 => ((slices_IndexFunc_h.f 1 t487).bind fun t506 => (if bt502.2 = true then (impl_ParseWarningLine.j0 k a0 t490 bt502.1 t506 (decide (t506 < 1))) else (impl_ParseWarningLine.j0 k a0 t490 bt502.1 t506 true)))))) = some (r1, r2, r3, r4, r5, r6, r7) := H
 have A4 := Aside0.mk A40
 clear A40
 replace H := Option.bind_eq_some_iff.mp H
 obtain ⟨⟨t493, t494, t495⟩, A50, H⟩ := H
 replace H : ((strings_Cut.f t494 (⟨#[45]⟩ : ByteArray)).bind fun bt496 => ((impl_readInts.f k (([t484, t493, bt496.1, bt496.2.1] : List ByteArray))).bind fun bt502 => ((slices_IndexFunc_h.f 1 t487).bind fun t506 => (if bt502.2 = true then (impl_ParseWarningLine.j0 k a0 t490 bt502.1 t506 (decide (t506 < 1))) else (impl_ParseWarningLine.j0 k a0 t490 bt502.1 t506 true))))) = some (r1, r2, r3, r4, r5, r6, r7) := H
 have A5 := Aside0.mk A50
 clear A50
 replace H := Option.bind_eq_some_iff.mp H
 obtain ⟨⟨t496, t497, t498⟩, A60, H⟩ := H
 replace H : ((impl_readInts.f k (([t484, t493, t496, t497] : List ByteArray))).bind fun bt502 => ((slices_IndexFunc_h.f 1 t487).bind fun t506 => (if bt502.2 = true then (impl_ParseWarningLine.j0 k a0 t490 bt502.1 t506 (decide (t506 < 1))) else (impl_ParseWarningLine.j0 k a0 t490 bt502.1 t506 true)))) = some (r1, r2, r3, r4, r5, r6, r7) := H
 have A6 := Aside0.mk A60
 clear A60
 obtain ⟨y499, hy499⟩ : ∃ y_ : List ByteArray, y_ = (([t484, t493, t496, t497] : List ByteArray)) := ⟨_, rfl⟩
 replace H : ((impl_readInts.f k y499).bind fun bt502 => ((slices_IndexFunc_h.f 1 t487).bind fun t506 => (if bt502.2 = true then (impl_ParseWarningLine.j0 k a0 t490 bt502.1 t506 (decide (t506 < 1))) else (impl_ParseWarningLine.j0 k a0 t490 bt502.1 t506 true)))) = some (r1, r2, r3, r4, r5, r6, r7) := zqH hy499 H
 have Ny499 := Aside0.mk hy499
 clear hy499
 replace H := Option.bind_eq_some_iff.mp H
 obtain ⟨⟨t502, t503⟩, A70, H⟩ := H
 replace H : ((slices_IndexFunc_h.f 1 t487).bind fun t506 => (if t503 = true then (impl_ParseWarningLine.j0 k a0 t490 t502 t506 (decide (t506 < 1))) else (impl_ParseWarningLine.j0 k a0 t490 t502 t506 true))) = some (r1, r2, r3, r4, r5, r6, r7) := H
 have A7 := Aside0.mk A70
 clear A70
 replace H := Option.bind_eq_some_iff.mp H
 obtain ⟨t506, A80, H⟩ := H
 replace H : (if t503 = true then (impl_ParseWarningLine.j0 k a0 t490 t502 t506 (decide (t506 < 1))) else (impl_ParseWarningLine.j0 k a0 t490 t502 t506 true)) = some (r1, r2, r3, r4, r5, r6, r7) := H
 have A8 := Aside0.mk A80
 clear A80
 have HC9 := Aside0.mk H
 clear H
 go_enter Tryd.func18, Tryd.ntmps18
 go_upto_region 3 with (first | ((with_reducible refine gate_dst (N := 2) rfl ?_); refine box_event ?hg (N := 2) ?hd (cs := #[.int .i64 0, .int .i64 0, .int .i64 0, .int .i64 0, .int .i64 0, .int .i64 0]) (t := 23) ?hr ?_; (case hd => rfl); (case hg => rfl); (case hr => exact zqS); intro gb483 hg w10 hbox hb; have n0_ := Aside0.mk (below_step zq0 hb); have n1_ := Aside0.mk (hbox); have n2_ := Aside0.mk ((by rw [hg]; exact (below_size zq0) : w.heap.size ≤ gb483)); have n3_ := n2_; clear HB; have HB := n0_; have BK483 := n1_; have GW483 := n2_; have GE483 := n3_; clear n0_ n1_ n2_ n3_; clear hb hbox hg) | ((with_reducible refine gate_callee (f := 27) rfl ?_); refine goesL_ (some 22) rfl rfl Tryd.func27 (by kernel_rfl) rfl #[.string a0, .string (⟨#[58, 32]⟩ : ByteArray)] rfl zq2 ?_; (with_reducible refine (strings_Cut.calls a0 (⟨#[58, 32]⟩ : ByteArray) t484 t485 t486 _ (HTM.out.below zq1) A2.out).mono ?_); rintro e w11 ⟨rfl, hb⟩; refine ⟨_, rfl, ?_⟩; have n0_ := Aside0.mk (blk_below (g := gb483) (o := .cells #[.int .i64 0, .int .i64 0, .int .i64 0, .int .i64 0, .int .i64 0, .int .i64 0] 23 (0, 0)) (zqK BK483.out) hb); have n1_ := Aside0.mk (below_step zq4 hb); clear BK483; clear HB; have BK483 := n0_; have HB := n1_; clear n0_ n1_; (try clear hb); (try clear hb2); (try clear hk); (try clear hi)) | ((with_reducible refine gate_callee (f := 27) rfl ?_); refine goesL_ (some 28) rfl rfl Tryd.func27 (by kernel_rfl) rfl #[.string t485, .string (⟨#[32]⟩ : ByteArray)] rfl zq2 ?_; (with_reducible refine (strings_Cut.calls t485 (⟨#[32]⟩ : ByteArray) t487 t488 t489 _ (HTM.out.below zq1) A3.out).mono ?_); rintro e w12 ⟨rfl, hb⟩; refine ⟨_, rfl, ?_⟩; have n0_ := Aside0.mk (blk_below (g := gb483) (o := .cells #[.int .i64 0, .int .i64 0, .int .i64 0, .int .i64 0, .int .i64 0, .int .i64 0] 23 (0, 0)) (zqK BK483.out) hb); have n1_ := Aside0.mk (below_step zq4 hb); clear BK483; clear HB; have BK483 := n0_; have HB := n1_; clear n0_ n1_; (try clear hb); (try clear hb2); (try clear hk); (try clear hi)) | ((with_reducible refine gate_callee (f := 27) rfl ?_); refine goesL_ (some 34) rfl rfl Tryd.func27 (by kernel_rfl) rfl #[.string t488, .string (⟨#[44, 32, 97, 114, 101, 97, 32]⟩ : ByteArray)] rfl zq2 ?_; (with_reducible refine (strings_Cut.calls t488 (⟨#[44, 32, 97, 114, 101, 97, 32]⟩ : ByteArray) t490 t491 t492 _ (HTM.out.below zq1) A4.out).mono ?_); rintro e w13 ⟨rfl, hb⟩; refine ⟨_, rfl, ?_⟩; have n0_ := Aside0.mk (blk_below (g := gb483) (o := .cells #[.int .i64 0, .int .i64 0, .int .i64 0, .int .i64 0, .int .i64 0, .int .i64 0] 23 (0, 0)) (zqK BK483.out) hb); have nx_ := Aside0.mk (blk_below (g := bx) zq16 hb); clear BX; have BX := nx_; clear nx_; have n1_ := Aside0.mk (below_step zq4 hb); clear BK483; clear HB; have BK483 := n0_; have HB := n1_; clear n0_ n1_; (try clear hb); (try clear hb2); (try clear hk); (try clear hi)) | ((with_reducible refine gate_callee (f := 27) rfl ?_); refine goesL_ (some 40) rfl rfl Tryd.func27 (by kernel_rfl) rfl #[.string t491, .string (⟨#[44, 32, 104, 111, 117, 114, 115, 32]⟩ : ByteArray)] rfl zq2 ?_; (with_reducible refine (strings_Cut.calls t491 (⟨#[44, 32, 104, 111, 117, 114, 115, 32]⟩ : ByteArray) t493 t494 t495 _ (HTM.out.below zq1) A5.out).mono ?_); rintro e w14 ⟨rfl, hb⟩; refine ⟨_, rfl, ?_⟩; have n0_ := Aside0.mk (blk_below (g := gb483) (o := .cells #[.int .i64 0, .int .i64 0, .int .i64 0, .int .i64 0, .int .i64 0, .int .i64 0] 23 (0, 0)) (zqK BK483.out) hb); have nx_ := Aside0.mk (blk_below (g := bx) zq16 hb); clear BX; have BX := nx_; clear nx_; have n1_ := Aside0.mk (below_step zq4 hb); clear BK483; clear HB; have BK483 := n0_; have HB := n1_; clear n0_ n1_; (try clear hb); (try clear hb2); (try clear hk); (try clear hi)) | ((with_reducible refine gate_callee (f := 27) rfl ?_); refine goesL_ (some 46) rfl rfl Tryd.func27 (by kernel_rfl) rfl #[.string t494, .string (⟨#[45]⟩ : ByteArray)] rfl zq2 ?_; (with_reducible refine (strings_Cut.calls t494 (⟨#[45]⟩ : ByteArray) t496 t497 t498 _ (HTM.out.below zq1) A6.out).mono ?_); rintro e w15 ⟨rfl, hb⟩; refine ⟨_, rfl, ?_⟩; have n0_ := Aside0.mk (blk_below (g := gb483) (o := .cells #[.int .i64 0, .int .i64 0, .int .i64 0, .int .i64 0, .int .i64 0, .int .i64 0] 23 (0, 0)) (zqK BK483.out) hb); have nx_ := Aside0.mk (blk_below (g := bx) zq16 hb); clear BX; have BX := nx_; clear nx_; have n1_ := Aside0.mk (below_step zq4 hb); clear BK483; clear HB; have BK483 := n0_; have HB := n1_; clear n0_ n1_; (try clear hb); (try clear hb2); (try clear hk); (try clear hi)) | ((with_reducible refine gate_dst (N := 55) rfl ?_); refine Kd.R_lit Kd.string _ 9 ?hg (N := 55) ?hd (xs := ([t484, t493, t496, t497] : List ByteArray)) (inner := [.string t484, .string t493, .string t496, .string t497]) (ok := fun _ => True) (okp := fun _ => True) ?hr ?hp (fun _ hk => hk) trivial (Below.refl _ _) (Nat.le_refl _) (by simp) ?_; (case hd => rfl); (case hg => rfl); (case hr => exact zqS); (case hp => exact (Reps.one (show Kd.M Kd.string _ _ _ t484 [.string t484] from rfl) (Reps.one (show Kd.M Kd.string _ _ _ t493 [.string t493] from rfl) (Reps.one (show Kd.M Kd.string _ _ _ t496 [.string t496] from rfl) (Reps.one (show Kd.M Kd.string _ _ _ t497 [.string t497] from rfl) (Reps.none _ _)))))); intro v500 w16 ho17 hb hg_ hnew_; clear hg_ hnew_; (first | rw [← Ny499.out] at ho17 | (simp only [Int.reduceToNat] at ho17; rw [← Ny499.out] at ho17)); have n0_ := Aside0.mk (Kd.R_lower ho17 (below_size zq4)); have n1_ := Aside0.mk (blk_below (g := gb483) (o := .cells #[.int .i64 0, .int .i64 0, .int .i64 0, .int .i64 0, .int .i64 0, .int .i64 0] 23 (0, 0)) (zqK BK483.out) hb); have nx_ := Aside0.mk (blk_below (g := bx) zq16 hb); clear BX; have BX := nx_; clear nx_; have n2_ := Aside0.mk (below_step zq4 hb); clear BK483; clear HB; have HO501 := n0_; have BK483 := n1_; have HB := n2_; clear n0_ n1_ n2_; clear hb ho17; obtain ⟨Ao18, co18, eo18⟩ := Kd.R_slice HO501.out; subst eo18) | ((with_reducible refine gate_callee (f := 28) rfl ?_); refine goesL_ (some 56) rfl rfl Tryd.func28 (by kernel_rfl) rfl #[.slice Ao18 y499.length co18] rfl zq2 ?_; (with_reducible refine (impl_readInts.calls k _ _ y499 t502 t503 _ (HTE.out.below zq1) (HTN.out.below zq1) ?side1 ?side2 A7.out).mono ?_); (case side1 => exact zqC (Kd.R_reads' HO501.out).2.2); (case side2 => exact (Kd.R_reads' HO501.out).2.1); rintro e w19 ⟨v504, rfl, ho0, hb⟩; refine ⟨_, rfl, ?_⟩; have n0_ := Aside0.mk (Kd.R_below (zqR HO501.out) hb); have n1_ := Aside0.mk (Kd.R_lower ho0 (below_size zq4)); have n2_ := Aside0.mk (blk_below (g := gb483) (o := .cells #[.int .i64 0, .int .i64 0, .int .i64 0, .int .i64 0, .int .i64 0, .int .i64 0] 23 (0, 0)) (zqK BK483.out) hb); have nx_ := Aside0.mk (blk_below (g := bx) zq16 hb); clear BX; have BX := nx_; clear nx_; have n3_ := Aside0.mk (below_step zq4 hb); clear HO501; clear BK483; clear HB; have HO501 := n0_; have HO505 := n1_; have BK483 := n2_; have HB := n3_; clear n0_ n1_ n2_ n3_; (try clear hb); (try clear hb2); (try clear hk); (try clear hi); (try clear ho0)) | ((with_reducible refine gate_callee (f := 46) rfl ?_); refine goesL_ (some 61) rfl rfl Tryd.func46 (by kernel_rfl) rfl #[.slice (some ⟨1, 0, none⟩) 4 4, .func (.func 47) #[] #[.pointer (some ⟨bx, 0, none⟩)]] rfl zq2 ?_; (with_reducible refine (slices_IndexFunc_h.calls bx t487 t506 _ (HTL.out.below zq1) ((blk_cell zq16 0).trans rfl) A8.out).mono ?_); rintro e w20 ⟨rfl, hb⟩; refine ⟨_, rfl, ?_⟩; have n0_ := Aside0.mk (Kd.R_below (zqR HO501.out) hb); have n1_ := Aside0.mk (Kd.R_below (zqR HO505.out) hb); have n2_ := Aside0.mk (blk_below (g := gb483) (o := .cells #[.int .i64 0, .int .i64 0, .int .i64 0, .int .i64 0, .int .i64 0, .int .i64 0] 23 (0, 0)) (zqK BK483.out) hb); have n3_ := Aside0.mk (below_step zq4 hb); clear HO501; clear HO505; clear BK483; clear HB; have HO501 := n0_; have HO505 := n1_; have BK483 := n2_; have HB := n3_; clear n0_ n1_ n2_ n3_; (try clear hb); (try clear hb2); (try clear hk); (try clear hi)))
 have BX := Aside0.mk (blk_new w12 (.cells #[.string t487] 9))
 generalize hbx_ : w12.heap.size = bx at BX ⊢
 clear hbx_
 go_upto_region 8 with (first | ((with_reducible refine gate_dst (N := 2) rfl ?_); refine box_event ?hg (N := 2) ?hd (cs := #[.int .i64 0, .int .i64 0, .int .i64 0, .int .i64 0, .int .i64 0, .int .i64 0]) (t := 23) ?hr ?_; (case hd => rfl); (case hg => rfl); (case hr => exact zqS); intro gb483 hg w10 hbox hb; have n0_ := Aside0.mk (below_step zq0 hb); have n1_ := Aside0.mk (hbox); have n2_ := Aside0.mk ((by rw [hg]; exact (below_size zq0) : w.heap.size ≤ gb483)); have n3_ := n2_; clear HB; have HB := n0_; have BK483 := n1_; have GW483 := n2_; have GE483 := n3_; clear n0_ n1_ n2_ n3_; clear hb hbox hg) | ((with_reducible refine gate_callee (f := 27) rfl ?_); refine goesL_ (some 22) rfl rfl Tryd.func27 (by kernel_rfl) rfl #[.string a0, .string (⟨#[58, 32]⟩ : ByteArray)] rfl zq2 ?_; (with_reducible refine (strings_Cut.calls a0 (⟨#[58, 32]⟩ : ByteArray) t484 t485 t486 _ (HTM.out.below zq1) A2.out).mono ?_); rintro e w11 ⟨rfl, hb⟩; refine ⟨_, rfl, ?_⟩; have n0_ := Aside0.mk (blk_below (g := gb483) (o := .cells #[.int .i64 0, .int .i64 0, .int .i64 0, .int .i64 0, .int .i64 0, .int .i64 0] 23 (0, 0)) (zqK BK483.out) hb); have n1_ := Aside0.mk (below_step zq4 hb); clear BK483; clear HB; have BK483 := n0_; have HB := n1_; clear n0_ n1_; (try clear hb); (try clear hb2); (try clear hk); (try clear hi)) | ((with_reducible refine gate_callee (f := 27) rfl ?_); refine goesL_ (some 28) rfl rfl Tryd.func27 (by kernel_rfl) rfl #[.string t485, .string (⟨#[32]⟩ : ByteArray)] rfl zq2 ?_; (with_reducible refine (strings_Cut.calls t485 (⟨#[32]⟩ : ByteArray) t487 t488 t489 _ (HTM.out.below zq1) A3.out).mono ?_); rintro e w12 ⟨rfl, hb⟩; refine ⟨_, rfl, ?_⟩; have n0_ := Aside0.mk (blk_below (g := gb483) (o := .cells #[.int .i64 0, .int .i64 0, .int .i64 0, .int .i64 0, .int .i64 0, .int .i64 0] 23 (0, 0)) (zqK BK483.out) hb); have n1_ := Aside0.mk (below_step zq4 hb); clear BK483; clear HB; have BK483 := n0_; have HB := n1_; clear n0_ n1_; (try clear hb); (try clear hb2); (try clear hk); (try clear hi)) | ((with_reducible refine gate_callee (f := 27) rfl ?_); refine goesL_ (some 34) rfl rfl Tryd.func27 (by kernel_rfl) rfl #[.string t488, .string (⟨#[44, 32, 97, 114, 101, 97, 32]⟩ : ByteArray)] rfl zq2 ?_; (with_reducible refine (strings_Cut.calls t488 (⟨#[44, 32, 97, 114, 101, 97, 32]⟩ : ByteArray) t490 t491 t492 _ (HTM.out.below zq1) A4.out).mono ?_); rintro e w13 ⟨rfl, hb⟩; refine ⟨_, rfl, ?_⟩; have n0_ := Aside0.mk (blk_below (g := gb483) (o := .cells #[.int .i64 0, .int .i64 0, .int .i64 0, .int .i64 0, .int .i64 0, .int .i64 0] 23 (0, 0)) (zqK BK483.out) hb); have nx_ := Aside0.mk (blk_below (g := bx) zq16 hb); clear BX; have BX := nx_; clear nx_; have n1_ := Aside0.mk (below_step zq4 hb); clear BK483; clear HB; have BK483 := n0_; have HB := n1_; clear n0_ n1_; (try clear hb); (try clear hb2); (try clear hk); (try clear hi)) | ((with_reducible refine gate_callee (f := 27) rfl ?_); refine goesL_ (some 40) rfl rfl Tryd.func27 (by kernel_rfl) rfl #[.string t491, .string (⟨#[44, 32, 104, 111, 117, 114, 115, 32]⟩ : ByteArray)] rfl zq2 ?_; (with_reducible refine (strings_Cut.calls t491 (⟨#[44, 32, 104, 111, 117, 114, 115, 32]⟩ : ByteArray) t493 t494 t495 _ (HTM.out.below zq1) A5.out).mono ?_); rintro e w14 ⟨rfl, hb⟩; refine ⟨_, rfl, ?_⟩; have n0_ := Aside0.mk (blk_below (g := gb483) (o := .cells #[.int .i64 0, .int .i64 0, .int .i64 0, .int .i64 0, .int .i64 0, .int .i64 0] 23 (0, 0)) (zqK BK483.out) hb); have nx_ := Aside0.mk (blk_below (g := bx) zq16 hb); clear BX; have BX := nx_; clear nx_; have n1_ := Aside0.mk (below_step zq4 hb); clear BK483; clear HB; have BK483 := n0_; have HB := n1_; clear n0_ n1_; (try clear hb); (try clear hb2); (try clear hk); (try clear hi)) | ((with_reducible refine gate_callee (f := 27) rfl ?_); refine goesL_ (some 46) rfl rfl Tryd.func27 (by kernel_rfl) rfl #[.string t494, .string (⟨#[45]⟩ : ByteArray)] rfl zq2 ?_; (with_reducible refine (strings_Cut.calls t494 (⟨#[45]⟩ : ByteArray) t496 t497 t498 _ (HTM.out.below zq1) A6.out).mono ?_); rintro e w15 ⟨rfl, hb⟩; refine ⟨_, rfl, ?_⟩; have n0_ := Aside0.mk (blk_below (g := gb483) (o := .cells #[.int .i64 0, .int .i64 0, .int .i64 0, .int .i64 0, .int .i64 0, .int .i64 0] 23 (0, 0)) (zqK BK483.out) hb); have nx_ := Aside0.mk (blk_below (g := bx) zq16 hb); clear BX; have BX := nx_; clear nx_; have n1_ := Aside0.mk (below_step zq4 hb); clear BK483; clear HB; have BK483 := n0_; have HB := n1_; clear n0_ n1_; (try clear hb); (try clear hb2); (try clear hk); (try clear hi)) | ((with_reducible refine gate_dst (N := 55) rfl ?_); refine Kd.R_lit Kd.string _ 9 ?hg (N := 55) ?hd (xs := ([t484, t493, t496, t497] : List ByteArray)) (inner := [.string t484, .string t493, .string t496, .string t497]) (ok := fun _ => True) (okp := fun _ => True) ?hr ?hp (fun _ hk => hk) trivial (Below.refl _ _) (Nat.le_refl _) (by simp) ?_; (case hd => rfl); (case hg => rfl); (case hr => exact zqS); (case hp => exact (Reps.one (show Kd.M Kd.string _ _ _ t484 [.string t484] from rfl) (Reps.one (show Kd.M Kd.string _ _ _ t493 [.string t493] from rfl) (Reps.one (show Kd.M Kd.string _ _ _ t496 [.string t496] from rfl) (Reps.one (show Kd.M Kd.string _ _ _ t497 [.string t497] from rfl) (Reps.none _ _)))))); intro v500 w16 ho17 hb hg_ hnew_; clear hg_ hnew_; (first | rw [← Ny499.out] at ho17 | (simp only [Int.reduceToNat] at ho17; rw [← Ny499.out] at ho17)); have n0_ := Aside0.mk (Kd.R_lower ho17 (below_size zq4)); have n1_ := Aside0.mk (blk_below (g := gb483) (o := .cells #[.int .i64 0, .int .i64 0, .int .i64 0, .int .i64 0, .int .i64 0, .int .i64 0] 23 (0, 0)) (zqK BK483.out) hb); have nx_ := Aside0.mk (blk_below (g := bx) zq16 hb); clear BX; have BX := nx_; clear nx_; have n2_ := Aside0.mk (below_step zq4 hb); clear BK483; clear HB; have HO501 := n0_; have BK483 := n1_; have HB := n2_; clear n0_ n1_ n2_; clear hb ho17; obtain ⟨Ao18, co18, eo18⟩ := Kd.R_slice HO501.out; subst eo18) | ((with_reducible refine gate_callee (f := 28) rfl ?_); refine goesL_ (some 56) rfl rfl Tryd.func28 (by kernel_rfl) rfl #[.slice Ao18 y499.length co18] rfl zq2 ?_; (with_reducible refine (impl_readInts.calls k _ _ y499 t502 t503 _ (HTE.out.below zq1) (HTN.out.below zq1) ?side1 ?side2 A7.out).mono ?_); (case side1 => exact zqC (Kd.R_reads' HO501.out).2.2); (case side2 => exact (Kd.R_reads' HO501.out).2.1); rintro e w19 ⟨v504, rfl, ho0, hb⟩; refine ⟨_, rfl, ?_⟩; have n0_ := Aside0.mk (Kd.R_below (zqR HO501.out) hb); have n1_ := Aside0.mk (Kd.R_lower ho0 (below_size zq4)); have n2_ := Aside0.mk (blk_below (g := gb483) (o := .cells #[.int .i64 0, .int .i64 0, .int .i64 0, .int .i64 0, .int .i64 0, .int .i64 0] 23 (0, 0)) (zqK BK483.out) hb); have nx_ := Aside0.mk (blk_below (g := bx) zq16 hb); clear BX; have BX := nx_; clear nx_; have n3_ := Aside0.mk (below_step zq4 hb); clear HO501; clear BK483; clear HB; have HO501 := n0_; have HO505 := n1_; have BK483 := n2_; have HB := n3_; clear n0_ n1_ n2_ n3_; (try clear hb); (try clear hb2); (try clear hk); (try clear hi); (try clear ho0)) | ((with_reducible refine gate_callee (f := 46) rfl ?_); refine goesL_ (some 61) rfl rfl Tryd.func46 (by kernel_rfl) rfl #[.slice (some ⟨1, 0, none⟩) 4 4, .func (.func 47) #[] #[.pointer (some ⟨bx, 0, none⟩)]] rfl zq2 ?_; (with_reducible refine (slices_IndexFunc_h.calls bx t487 t506 _ (HTL.out.below zq1) ((blk_cell zq16 0).trans rfl) A8.out).mono ?_); rintro e w20 ⟨rfl, hb⟩; refine ⟨_, rfl, ?_⟩; have n0_ := Aside0.mk (Kd.R_below (zqR HO501.out) hb); have n1_ := Aside0.mk (Kd.R_below (zqR HO505.out) hb); have n2_ := Aside0.mk (blk_below (g := gb483) (o := .cells #[.int .i64 0, .int .i64 0, .int .i64 0, .int .i64 0, .int .i64 0, .int .i64 0] 23 (0, 0)) (zqK BK483.out) hb); have n3_ := Aside0.mk (below_step zq4 hb); clear HO501; clear HO505; clear BK483; clear HB; have HO501 := n0_; have HO505 := n1_; have BK483 := n2_; have HB := n3_; clear n0_ n1_ n2_ n3_; (try clear hb); (try clear hb2); (try clear hk); (try clear hi)))
 (try simp only [Act.put, List.setIfInBounds_toArray, List.set_cons_zero, List.set_cons_succ])
 go_cut [67] (fun v67 wc => ∃ (kq : Nat) (x67_8 : Bool), v67 = .bool x67_8 ∧ Aside0 (impl_ParseWarningLine.j0 kq a0 t490 t502 t506 x67_8 = some (r1, r2, r3, r4, r5, r6, r7)) ∧ Aside0 (kq ≤ k) ∧ Aside0 (Kd.R (Kd.int .i64) 3 wc w.heap.size (fun _ => True) v504 t502) ∧ Aside0 (wc.heap[gb483]? = some (.cells #[.int .i64 0, .int .i64 0, .int .i64 0, .int .i64 0, .int .i64 0, .int .i64 0] 23 (0, 0))) ∧ Aside0 (Below w.heap.size w wc))
 case first =>
  have H := HC9.out
  clear HC9
  by_cases c21 : t503 = true
  case pos =>
   subst c21
   have H1 : (impl_ParseWarningLine.j0 k a0 t490 t502 t506 (decide (t506 < 1))) = some (r1, r2, r3, r4, r5, r6, r7) := by rw [if_pos rfl] at H; exact H
   clear H
   have H := H1
   clear H1
   have H' := Aside0.mk H
   clear H
   go_wp2
   go_meet
   case rel => exact ⟨_, (decide (t506 < 1)), (by first | rfl | (simp; done) | (simp [*]; done)), H', ⟨by first | omega | exact Nat.le_refl _⟩, ⟨zqR HO505.out⟩, ⟨by (with_reducible repeat (first | refine blk_drewN ?_ _ | refine blk_drew ?_ | refine blk_alloc ?_ _)); exact BK483.out⟩, ⟨zq4⟩⟩
  replace c21 := Bool.eq_false_iff.mpr c21
  subst c21
  have H1 : (impl_ParseWarningLine.j0 k a0 t490 t502 t506 true) = some (r1, r2, r3, r4, r5, r6, r7) := by rw [if_neg (show ¬ (false = true) by decide)] at H; exact H
  clear H
  have H := H1
  clear H1
  have H' := Aside0.mk H
  clear H
  go_wp2
  go_meet
  case rel => exact ⟨_, (true), (by first | rfl | (simp; done) | (simp [*]; done)), H', ⟨by first | omega | exact Nat.le_refl _⟩, ⟨zqR HO505.out⟩, ⟨by (with_reducible repeat (first | refine blk_drewN ?_ _ | refine blk_drew ?_ | refine blk_alloc ?_ _)); exact BK483.out⟩, ⟨zq4⟩⟩
 clear HC9
 try clear c1
 try clear c2
 try clear p2
 try clear c4
 try clear c18
 try clear c21
 obtain ⟨kq, x67_8, rfl, HA, HJ8, HO_16, BK483, HB⟩ := hcut
 cases kq with
 | zero => exact absurd HA.out (by simp [impl_ParseWarningLine.j0])
 | succ kj8 =>
  have H := HA.out
  clear HA
  simp only [impl_ParseWarningLine.j0] at H
  by_cases c22 : x67_8 = true
  case pos =>
   subst c22
   have H1 : (some (0, 0, 0, 0, 0, 0, false)) = some (r1, r2, r3, r4, r5, r6, r7) := by rw [if_pos rfl] at H; exact H
   clear H
   have H := H1
   clear H1
   simp only [Option.some.injEq, Prod.mk.injEq] at H
   obtain ⟨rfl, rfl, rfl, rfl, rfl, rfl, rfl⟩ := H
   obtain ⟨hcz23_0, hcz23_1, hcz23_2, hcz23_3, hcz23_4, hcz23_5, hfz23_0, hfz23_1, hfz23_2, hfz23_3, hfz23_4, hfz23_5⟩ := bz6 BK483.out
   go_wp2
   refine bodyPost_ret (results_ct rfl _ _ gb483 23 #[.int .i64 0, .int .i64 0, .int .i64 0, .int .i64 0, .int .i64 0, .int .i64 0] (0, 0) _ rfl zq10 Tryd.underlying23 rfl (by kernel_rfl)) rfl ?_
   exact ⟨zqE, zq4⟩
  replace c22 := Bool.eq_false_iff.mpr c22
  subst c22
  have H1 : (if 0 < (t502.length : Int) then ((slices_Index_h.f 0 t490).bind fun t508 => (if 1 < (t502.length : Int) then (if 2 < (t502.length : Int) then (if 3 < (t502.length : Int) then ((impl_IsValidWarning.f (rd t502 0) t508 t506 (rd t502 1) (rd t502 2) (rd t502 3)).bind fun t513 => (if t513 = true then ((impl_warningLine.f kj8 (rd t502 0) t508 t506 (rd t502 1) (rd t502 2) (rd t502 3)).bind fun t514 => (if t514.toList = a0.toList then (some (rd t502 0, t508, t506, rd t502 1, rd t502 2, rd t502 3, true)) else (some (0, 0, 0, 0, 0, 0, false)))) else (some (0, 0, 0, 0, 0, 0, false)))) else (none)) else (none)) else (none))) else (none)) = some (r1, r2, r3, r4, r5, r6, r7) := by rw [if_neg (show ¬ (false = true) by decide)] at H; exact H
  clear H
  have H := H1
  clear H1
  by_cases c24 : 0 < (t502.length : Int)
  case neg =>
   rw [if_neg c24] at H
   exact absurd H (by simp)
  rw [if_pos c24] at H
  have c24b0 : decide (0 < (t502.length : Int)) = true := decide_eq_true c24
  have c24b1 : decide (0 < t502.length) = true := decide_eq_true (by omega)
  clear c24
  replace H := Option.bind_eq_some_iff.mp H
  obtain ⟨t508, A250, H⟩ := H
  replace H : (if 1 < (t502.length : Int) then (if 2 < (t502.length : Int) then (if 3 < (t502.length : Int) then ((impl_IsValidWarning.f (rd t502 0) t508 t506 (rd t502 1) (rd t502 2) (rd t502 3)).bind fun t513 => (if t513 = true then ((impl_warningLine.f kj8 (rd t502 0) t508 t506 (rd t502 1) (rd t502 2) (rd t502 3)).bind fun t514 => (if t514.toList = a0.toList then (some (rd t502 0, t508, t506, rd t502 1, rd t502 2, rd t502 3, true)) else (some (0, 0, 0, 0, 0, 0, false)))) else (some (0, 0, 0, 0, 0, 0, false)))) else (none)) else (none)) else (none)) = some (r1, r2, r3, r4, r5, r6, r7) := H
  have A25 := Aside0.mk A250
  clear A250
  by_cases c26 : 1 < (t502.length : Int)
  case neg =>
   rw [if_neg c26] at H
   exact absurd H (by simp)
  rw [if_pos c26] at H
  have c26b0 : decide (1 < (t502.length : Int)) = true := decide_eq_true c26
  have c26b1 : decide (1 < t502.length) = true := decide_eq_true (by omega)
  clear c26
  by_cases c27 : 2 < (t502.length : Int)
  case neg =>
   rw [if_neg c27] at H
   exact absurd H (by simp)
  rw [if_pos c27] at H
  have c27b0 : decide (2 < (t502.length : Int)) = true := decide_eq_true c27
  have c27b1 : decide (2 < t502.length) = true := decide_eq_true (by omega)
  clear c27
  by_cases c28 : 3 < (t502.length : Int)
  case neg =>
   rw [if_neg c28] at H
   exact absurd H (by simp)
  rw [if_pos c28] at H
  have c28b0 : decide (3 < (t502.length : Int)) = true := decide_eq_true c28
  have c28b1 : decide (3 < t502.length) = true := decide_eq_true (by omega)
  clear c28
  replace H := Option.bind_eq_some_iff.mp H
  obtain ⟨t513, A290, H⟩ := H
  replace H : (if t513 = true then ((impl_warningLine.f kj8 (rd t502 0) t508 t506 (rd t502 1) (rd t502 2) (rd t502 3)).bind fun t514 => (if t514.toList = a0.toList then (some (rd t502 0, t508, t506, rd t502 1, rd t502 2, rd t502 3, true)) else (some (0, 0, 0, 0, 0, 0, false)))) else (some (0, 0, 0, 0, 0, 0, false))) = some (r1, r2, r3, r4, r5, r6, r7) := H
  have A29 := Aside0.mk A290
  clear A290
  by_cases c30 : t513 = true
  case neg =>
   replace c30 := Bool.eq_false_iff.mpr c30
   subst c30
   have H1 : (some (0, 0, 0, 0, 0, 0, false)) = some (r1, r2, r3, r4, r5, r6, r7) := by rw [if_neg (show ¬ (false = true) by decide)] at H; exact H
   clear H
   have H := H1
   clear H1
   simp only [Option.some.injEq, Prod.mk.injEq] at H
   obtain ⟨rfl, rfl, rfl, rfl, rfl, rfl, rfl⟩ := H
   try go_wp2
   have n0_ := Aside0.mk (Kd.R_drew HO_16.out)
   have n1_ := Aside0.mk (blk_drew BK483.out)
   have n2_ := Aside0.mk (below_drew1 HB.out)
   clear HO_16
   clear BK483
   clear HB
   have HO_16 := n0_
   have BK483 := n1_
   have HB := n2_
   clear n0_ n1_ n2_
   obtain ⟨Ao69, co69, eo69⟩ := Kd.R_slice HO_16.out
   (first | subst eo69 | (injection eo69 with f1_ f2_ f3_; have f4_ := f1_.symm; have f5_ := f3_.symm; clear f1_ f2_ f3_; subst f4_; subst f5_))
   have p507 : 0 ≤ (0 : Int) := (by omega)
   have q507 : 0 < (t502.length : Int) := of_decide_eq_true zq6
   obtain ⟨ad507, e507, hx507_0⟩ := Kd.at_int (Kd.R_reads' HO_16.out).2.2 0 p507 q507
   cases e507
   have qi507 : (0 < t502.length) = True := eq_true (by omega)
   (try rw [show ((0 : Int)).toNat = 0 from rfl] at hx507_0)
   (try rw [Addr.add_zero'] at hx507_0)
   replace p507 := eq_true p507
   replace q507 := eq_true q507
   have p509 : 0 ≤ (1 : Int) := (by omega)
   have q509 : 1 < (t502.length : Int) := of_decide_eq_true zq6
   obtain ⟨ad509, e509, hx509_0⟩ := Kd.at_int (Kd.R_reads' HO_16.out).2.2 1 p509 q509
   obtain rfl : ad507 = ad509 := (by injection e509)
   (try simp only [show (1 : Int).toNat = 1 from rfl, Nat.reduceMul, Nat.reduceEqDiff, Go.Addr.add, ↓reduceIte] at hx509_0)
   have qi509 : (1 < t502.length) = True := eq_true (by omega)
   (try rw [show ((1 : Int)).toNat = 1 from rfl] at hx509_0)
   replace p509 := eq_true p509
   replace q509 := eq_true q509
   have p510 : 0 ≤ (2 : Int) := (by omega)
   have q510 : 2 < (t502.length : Int) := of_decide_eq_true zq6
   obtain ⟨ad510, e510, hx510_0⟩ := Kd.at_int (Kd.R_reads' HO_16.out).2.2 2 p510 q510
   obtain rfl : ad507 = ad510 := (by injection e510)
   (try simp only [show (2 : Int).toNat = 2 from rfl, Nat.reduceMul, Nat.reduceEqDiff, Go.Addr.add, ↓reduceIte] at hx510_0)
   have qi510 : (2 < t502.length) = True := eq_true (by omega)
   (try rw [show ((2 : Int)).toNat = 2 from rfl] at hx510_0)
   replace p510 := eq_true p510
   replace q510 := eq_true q510
   have p511 : 0 ≤ (3 : Int) := (by omega)
   have q511 : 3 < (t502.length : Int) := of_decide_eq_true zq6
   obtain ⟨ad511, e511, hx511_0⟩ := Kd.at_int (Kd.R_reads' HO_16.out).2.2 3 p511 q511
   obtain rfl : ad507 = ad511 := (by injection e511)
   (try simp only [show (3 : Int).toNat = 3 from rfl, Nat.reduceMul, Nat.reduceEqDiff, Go.Addr.add, ↓reduceIte] at hx511_0)
   have qi511 : (3 < t502.length) = True := eq_true (by omega)
   (try rw [show ((3 : Int)).toNat = 3 from rfl] at hx511_0)
   replace p511 := eq_true p511
   replace q511 := eq_true q511
   refine start_ (n := 19) (S := fun w' => w'.cell? ad507 = some (.int .i64 (rd t502 0)) ∧ w'.cell? ⟨ad507.block, ad507.off + 1, none⟩ = some (.int .i64 (rd t502 1)) ∧ w'.cell? ⟨ad507.block, ad507.off + 2, none⟩ = some (.int .i64 (rd t502 2)) ∧ w'.cell? ⟨ad507.block, ad507.off + 3, none⟩ = some (.int .i64 (rd t502 3))) (ds := []) #[false, false, false, false, false, false, false, false, false, false, false, false, false, false, false, false, false, false, false] (by kernel_rfl) rfl rfl ⟨hx507_0, hx509_0, hx510_0, hx511_0⟩ (fun hHeld => ?_); refine with_tabW impl_ParseWarningLine.tab10 impl_ParseWarningLine.bits10 (fun HT_ HW_ => ?_)
   generalize wc.drew = w68 at HO_16 BK483 HB hx507_0 hx509_0 hx510_0 hx511_0 hHeld ⊢
   refine pure_ (i := 0) (N := some 69) (v := ?_) (a' := ?_) #[true, false, false, false, false, false, false, false, false, false, false, false, false, false, false, false, false, false, false] rfl rfl (any_of HT_.out (by kernel_rfl)) (fun _ _ _ h => h) (Or.inl ⟨by rfl, ?_⟩) ?_ ?_
   rotate_left; · exact zqB
   rotate_left; · exact zqA
   refine pure_ (i := 1) (N := some 70) (v := ?_) (a' := ?_) #[true, true, false, false, false, false, false, false, false, false, false, false, false, false, false, false, false, false, false] rfl rfl (any_of HT_.out (by kernel_rfl)) (fun _ _ _ h => h) (Or.inl ⟨by rfl, ?_⟩) ?_ ?_
   rotate_left; · exact zqB
   rotate_left; · exact zqA
   refine pure_ (i := 3) (N := some 72) (v := ?_) (a' := ?_) #[true, true, false, true, false, false, false, false, false, false, false, false, false, false, false, false, false, false, false] rfl rfl (any_of HT_.out (by kernel_rfl)) (fun _ _ _ h => h) (Or.inl ⟨by rfl, ?_⟩) ?_ ?_
   rotate_left; · exact zqB
   rotate_left; · exact zqA
   refine pure_ (i := 4) (N := some 73) (v := ?_) (a' := ?_) #[true, true, false, true, true, false, false, false, false, false, false, false, false, false, false, false, false, false, false] rfl rfl (any_of HT_.out (by kernel_rfl)) (fun _ _ _ h => h) (Or.inl ⟨by rfl, ?_⟩) ?_ ?_
   rotate_left; · exact zqB
   rotate_left; · exact zqA
   refine pure_ (i := 6) (N := some 75) (v := ?_) (a' := ?_) #[true, true, false, true, true, false, true, false, false, false, false, false, false, false, false, false, false, false, false] rfl rfl (any_of HT_.out (by kernel_rfl)) (fun _ _ _ h => h) (Or.inl ⟨by rfl, ?_⟩) ?_ ?_
   rotate_left; · exact zqB
   rotate_left; · exact zqA
   refine pure_ (i := 7) (N := some 76) (v := ?_) (a' := ?_) #[true, true, false, true, true, false, true, true, false, false, false, false, false, false, false, false, false, false, false] rfl rfl (any_of HT_.out (by kernel_rfl)) (fun _ _ _ h => h) (Or.inl ⟨by rfl, ?_⟩) ?_ ?_
   rotate_left; · exact zqB
   rotate_left; · exact zqA
   refine pure_ (i := 8) (N := some 77) (v := ?_) (a' := ?_) #[true, true, false, true, true, false, true, true, true, false, false, false, false, false, false, false, false, false, false] rfl rfl (any_of HT_.out (by kernel_rfl)) (fun _ _ _ h => h) (Or.inl ⟨by rfl, ?_⟩) ?_ ?_
   rotate_left; · exact zqB
   rotate_left; · exact zqA
   refine pure_ (i := 10) (N := some 79) (v := ?_) (a' := ?_) #[true, true, false, true, true, false, true, true, true, false, true, false, false, false, false, false, false, false, false] rfl rfl (any_of HT_.out (by kernel_rfl)) (fun _ _ _ h => h) (Or.inl ⟨by rfl, ?_⟩) ?_ ?_
   rotate_left; · exact zqB
   rotate_left; · exact zqA
   refine pure_ (i := 11) (N := some 80) (v := ?_) (a' := ?_) #[true, true, false, true, true, false, true, true, true, false, true, true, false, false, false, false, false, false, false] rfl rfl (any_of HT_.out (by kernel_rfl)) (fun _ _ _ h => h) (Or.inl ⟨by rfl, ?_⟩) ?_ ?_
   rotate_left; · exact zqB
   rotate_left; · exact zqA
   refine pure_ (i := 13) (N := some 82) (v := ?_) (a' := ?_) #[true, true, false, true, true, false, true, true, true, false, true, true, false, true, false, false, false, false, false] rfl rfl (any_of HT_.out (by kernel_rfl)) (fun _ _ _ h => h) (Or.inl ⟨by rfl, ?_⟩) ?_ ?_
   rotate_left; · exact zqB
   rotate_left; · exact zqA
   refine pure_ (i := 14) (N := some 83) (v := ?_) (a' := ?_) #[true, true, false, true, true, false, true, true, true, false, true, true, false, true, true, false, false, false, false] rfl rfl (any_of HT_.out (by kernel_rfl)) (fun _ _ _ h => h) (Or.inl ⟨by rfl, ?_⟩) ?_ ?_
   rotate_left; · exact zqB
   rotate_left; · exact zqA
   refine take_ (i := 2) (N := some 71) (v := ?_) (a' := ?_) #[true, true, true, true, true, false, true, true, true, false, true, true, false, true, true, false, false, false, false] rfl rfl (take_ofW HT_.out HW_.out (by kernel_rfl)) (fun _ _ _ h => h) (Or.inl ⟨by rfl, ?_⟩) hHeld ?_ ?_
   rotate_left
   ·
    rintro w' ⟨s0, s1, s2, s3⟩
    go_simp
    with_reducible rfl
   rotate_left; · exact zqA
   refine take_ (i := 9) (N := some 78) (v := ?_) (a' := ?_) #[true, true, true, true, true, false, true, true, true, true, true, true, false, true, true, false, false, false, false] rfl rfl (take_ofW HT_.out HW_.out (by kernel_rfl)) (fun _ _ _ h => h) (Or.inl ⟨by rfl, ?_⟩) hHeld ?_ ?_
   rotate_left
   ·
    rintro w' ⟨s0, s1, s2, s3⟩
    go_simp
    with_reducible rfl
   rotate_left; · exact zqA
   refine take_ (i := 12) (N := some 81) (v := ?_) (a' := ?_) #[true, true, true, true, true, false, true, true, true, true, true, true, true, true, true, false, false, false, false] rfl rfl (take_ofW HT_.out HW_.out (by kernel_rfl)) (fun _ _ _ h => h) (Or.inl ⟨by rfl, ?_⟩) hHeld ?_ ?_
   rotate_left
   ·
    rintro w' ⟨s0, s1, s2, s3⟩
    go_simp
    with_reducible rfl
   rotate_left; · exact zqA
   refine take_ (i := 15) (N := some 84) (v := ?_) (a' := ?_) #[true, true, true, true, true, false, true, true, true, true, true, true, true, true, true, true, false, false, false] rfl rfl (take_ofW HT_.out HW_.out (by kernel_rfl)) (fun _ _ _ h => h) (Or.inl ⟨by rfl, ?_⟩) hHeld ?_ ?_
   rotate_left
   ·
    rintro w' ⟨s0, s1, s2, s3⟩
    go_simp
    with_reducible rfl
   rotate_left; · exact zqA
   refine join_ (σ := Nat) 1 #[true, true, true, true, true, true, true, true, true, true, true, true, true, true, true, true, true, true, false] (fun s_ => [(74, .int .i64 t508), (19, .pointer (some ⟨s_, 0, none⟩)), (85, .agg #[.int .i64 (rd t502 0), .int .i64 t508, .int .i64 t506, .int .i64 (rd t502 1), .int .i64 (rd t502 2), .int .i64 (rd t502 3)])]) (fun s_ w' => (w'.cell? ad507 = some (.int .i64 (rd t502 0)) ∧ w'.cell? ⟨ad507.block, ad507.off + 1, none⟩ = some (.int .i64 (rd t502 1)) ∧ w'.cell? ⟨ad507.block, ad507.off + 2, none⟩ = some (.int .i64 (rd t502 2)) ∧ w'.cell? ⟨ad507.block, ad507.off + 3, none⟩ = some (.int .i64 (rd t502 3))) ∧ (Kd.R (Kd.int .i64) 3 w' w.heap.size (fun _ => True) (.slice (some ad507) t502.length co69) t502) ∧ (w'.heap[gb483]? = some (.cells #[.int .i64 0, .int .i64 0, .int .i64 0, .int .i64 0, .int .i64 0, .int .i64 0] 23 (0, 0))) ∧ (w'.heap[s_]? = some (.cells #[.int .i64 0, .int .i64 0, .int .i64 0, .int .i64 0, .int .i64 0, .int .i64 0] 23 (0, 0))) ∧ (w.heap.size ≤ s_) ∧ (w.heap.size ≤ s_) ∧ (gb483 ≠ s_) ∧ (s_ ≠ gb483) ∧ (Below w.heap.size w w')) ?_ ?_
   rotate_left
   ·
    intro hCont
    refine two_ (i := 5) (j := 17) (Ni := some 74) (Nj := some 19) #[true, true, true, true, true, true, true, true, true, true, true, true, true, true, true, true, false, false, false] #[true, true, true, true, true, false, true, true, true, true, true, true, true, true, true, true, false, true, false] rfl rfl rfl rfl (two_of HT_.out (by kernel_rfl)) (by decide) (by decide) (fun K hK => ?_) (fun K hK => ?_)
    ·
     skip
     refine goes_ Tryd.func30 (by kernel_rfl) rfl #[.slice (some ⟨0, 0, none⟩) 6 6, .string t490] (by rfl) rfl rfl zq2 ?_
     with_reducible refine (slices_Index_h.calls0 t490 t508 _ (HTL.out.below zq1) (HTO.out.below zq1) A25.out).mono ?_
     rintro e w70 ⟨rfl, hb⟩
     have HS0_ := (hb.cell (World.block_lt_of_cell? _ _ (hHeld.1))).trans (hHeld.1)
     have HS1_ := (hb.cell (World.block_lt_of_cell? _ _ (hHeld.2.1))).trans (hHeld.2.1)
     have HS2_ := (hb.cell (World.block_lt_of_cell? _ _ (hHeld.2.2.1))).trans (hHeld.2.2.1)
     have HS3_ := (hb.cell (World.block_lt_of_cell? _ _ (hHeld.2.2.2))).trans (hHeld.2.2.2)
     refine ⟨_, rfl, ?_⟩
     have n0_ := Aside0.mk (Kd.R_below (zqR HO_16.out) hb)
     have n1_ := Aside0.mk (blk_below (g := gb483) (o := .cells #[.int .i64 0, .int .i64 0, .int .i64 0, .int .i64 0, .int .i64 0, .int .i64 0] 23 (0, 0)) (zqK BK483.out) hb)
     have n2_ := Aside0.mk (below_step zq4 hb)
     clear HO_16
     clear BK483
     clear HB
     have HO_16 := n0_
     have BK483 := n1_
     have HB := n2_
     clear n0_ n1_ n2_
     (try clear hb)
     (try clear hb2)
     (try clear hk)
     (try clear hi)
     refine hK.out _ _ ⟨HS0_, HS1_, HS2_, HS3_⟩ (fun hHeld => ?_)
     clear hK K
     refine norm_ (a' := ?_) ?_ ?_
     rotate_left
     ·
      show Act.put _ (some 74) _ = _
      simp only [Act.put, List.setIfInBounds_toArray, List.set_cons_zero, List.set_cons_succ, i64_w, i32_w]
      rfl
     refine pure_ (i := 16) (N := some 85) (v := ?_) (a' := ?_) #[true, true, true, true, true, true, true, true, true, true, true, true, true, true, true, true, true, false, false] rfl rfl (any_of HT_.out (by kernel_rfl)) (fun _ _ _ h => h) (Or.inl ⟨by rfl, ?_⟩) ?_ ?_
     rotate_left; · exact zqB
     rotate_left; · exact zqA
     refine one_ (i := 17) (N := some 19) #[true, true, true, true, true, true, true, true, true, true, true, true, true, true, true, true, true, true, false] rfl rfl (one_of HT_.out (by kernel_rfl)) (by decide) (fun K hK => ?_)
     refine box_step ?hg (N := 19) ?hd (cs := #[.int .i64 0, .int .i64 0, .int .i64 0, .int .i64 0, .int .i64 0, .int .i64 0]) (t := 23) ?hr ?_; (case hd => rfl); (case hg => rfl); (case hr => exact zqS)
     intro gb512 hg w71 hbox hb
     have HS0_ := (hb.cell (World.block_lt_of_cell? _ _ (hHeld.1))).trans (hHeld.1)
     have HS1_ := (hb.cell (World.block_lt_of_cell? _ _ (hHeld.2.1))).trans (hHeld.2.1)
     have HS2_ := (hb.cell (World.block_lt_of_cell? _ _ (hHeld.2.2.1))).trans (hHeld.2.2.1)
     have HS3_ := (hb.cell (World.block_lt_of_cell? _ _ (hHeld.2.2.2))).trans (hHeld.2.2.2)
     have n0_ := Aside0.mk (Kd.R_below (zqR HO_16.out) hb)
     have n1_ := Aside0.mk (blk_below (g := gb483) (o := .cells #[.int .i64 0, .int .i64 0, .int .i64 0, .int .i64 0, .int .i64 0, .int .i64 0] 23 (0, 0)) (zqK BK483.out) hb)
     have n2_ := Aside0.mk (below_step zq4 hb)
     have n3_ := Aside0.mk (hbox)
     have n4_ := Aside0.mk ((by rw [hg]; exact (below_size zq4) : w.heap.size ≤ gb512))
     have n5_ := Aside0.mk ((by rw [hg]; exact (below_size zq4) : w.heap.size ≤ gb512))
     have n6_ := Aside0.mk ((by rw [hg]; exact Nat.ne_of_lt (blk_lt (g := gb483) (o := .cells #[.int .i64 0, .int .i64 0, .int .i64 0, .int .i64 0, .int .i64 0, .int .i64 0] 23 (0, 0)) (zqK BK483.out)) : gb483 ≠ gb512))
     have n7_ := Aside0.mk ((by rw [hg]; exact Nat.ne_of_gt (blk_lt (g := gb483) (o := .cells #[.int .i64 0, .int .i64 0, .int .i64 0, .int .i64 0, .int .i64 0, .int .i64 0] 23 (0, 0)) (zqK BK483.out)) : gb512 ≠ gb483))
     clear HO_16
     clear BK483
     clear HB
     have HO_16 := n0_
     have BK483 := n1_
     have HB := n2_
     have BK512 := n3_
     have GW512 := n4_
     have GE512 := n5_
     have NB483_512 := n6_
     have NB512_483 := n7_
     clear n0_ n1_ n2_ n3_ n4_ n5_ n6_ n7_
     clear hb hbox hg
     refine hK.out _ _ ⟨HS0_, HS1_, HS2_, HS3_⟩ (fun hHeld => ?_)
     clear hK K
     refine norm_ (a' := ?_) ?_ ?_
     rotate_left
     ·
      show Act.put _ (some 19) _ = _
      simp only [Act.put, List.setIfInBounds_toArray, List.set_cons_zero, List.set_cons_succ, i64_w, i32_w]
      rfl
     exact norm_ (by simp only [putAll, Act.put, List.setIfInBounds_toArray, List.set_cons_zero, List.set_cons_succ]) (hCont (gb512) _ ⟨hHeld, (zqR HO_16.out), (zqK BK483.out), (zqK BK512.out), GW512.out, GE512.out, NB483_512.out, NB512_483.out, zq1⟩)
    ·
     skip
     refine box_step ?hg (N := 19) ?hd (cs := #[.int .i64 0, .int .i64 0, .int .i64 0, .int .i64 0, .int .i64 0, .int .i64 0]) (t := 23) ?hr ?_; (case hd => rfl); (case hg => rfl); (case hr => exact zqS)
     intro gb512 hg w70 hbox hb
     have HS0_ := (hb.cell (World.block_lt_of_cell? _ _ (hHeld.1))).trans (hHeld.1)
     have HS1_ := (hb.cell (World.block_lt_of_cell? _ _ (hHeld.2.1))).trans (hHeld.2.1)
     have HS2_ := (hb.cell (World.block_lt_of_cell? _ _ (hHeld.2.2.1))).trans (hHeld.2.2.1)
     have HS3_ := (hb.cell (World.block_lt_of_cell? _ _ (hHeld.2.2.2))).trans (hHeld.2.2.2)
     have n0_ := Aside0.mk (Kd.R_below (zqR HO_16.out) hb)
     have n1_ := Aside0.mk (blk_below (g := gb483) (o := .cells #[.int .i64 0, .int .i64 0, .int .i64 0, .int .i64 0, .int .i64 0, .int .i64 0] 23 (0, 0)) (zqK BK483.out) hb)
     have n2_ := Aside0.mk (below_step zq4 hb)
     have n3_ := Aside0.mk (hbox)
     have n4_ := Aside0.mk ((by rw [hg]; exact (below_size zq4) : w.heap.size ≤ gb512))
     have n5_ := Aside0.mk ((by rw [hg]; exact (below_size zq4) : w.heap.size ≤ gb512))
     have n6_ := Aside0.mk ((by rw [hg]; exact Nat.ne_of_lt (blk_lt (g := gb483) (o := .cells #[.int .i64 0, .int .i64 0, .int .i64 0, .int .i64 0, .int .i64 0, .int .i64 0] 23 (0, 0)) (zqK BK483.out)) : gb483 ≠ gb512))
     have n7_ := Aside0.mk ((by rw [hg]; exact Nat.ne_of_gt (blk_lt (g := gb483) (o := .cells #[.int .i64 0, .int .i64 0, .int .i64 0, .int .i64 0, .int .i64 0, .int .i64 0] 23 (0, 0)) (zqK BK483.out)) : gb512 ≠ gb483))
     clear HO_16
     clear BK483
     clear HB
     have HO_16 := n0_
     have BK483 := n1_
     have HB := n2_
     have BK512 := n3_
     have GW512 := n4_
     have GE512 := n5_
     have NB483_512 := n6_
     have NB512_483 := n7_
     clear n0_ n1_ n2_ n3_ n4_ n5_ n6_ n7_
     clear hb hbox hg
     refine hK.out _ _ ⟨HS0_, HS1_, HS2_, HS3_⟩ (fun hHeld => ?_)
     clear hK K
     refine norm_ (a' := ?_) ?_ ?_
     rotate_left
     ·
      show Act.put _ (some 19) _ = _
      simp only [Act.put, List.setIfInBounds_toArray, List.set_cons_zero, List.set_cons_succ, i64_w, i32_w]
      rfl
     refine one_ (i := 5) (N := some 74) #[true, true, true, true, true, true, true, true, true, true, true, true, true, true, true, true, false, true, false] rfl rfl (one_of HT_.out (by kernel_rfl)) (by decide) (fun K hK => ?_)
     refine goes_ Tryd.func30 (by kernel_rfl) rfl #[.slice (some ⟨0, 0, none⟩) 6 6, .string t490] (by rfl) rfl rfl zq2 ?_
     with_reducible refine (slices_Index_h.calls0 t490 t508 _ (HTL.out.below zq1) (HTO.out.below zq1) A25.out).mono ?_
     rintro e w71 ⟨rfl, hb⟩
     have HS0_ := (hb.cell (World.block_lt_of_cell? _ _ (hHeld.1))).trans (hHeld.1)
     have HS1_ := (hb.cell (World.block_lt_of_cell? _ _ (hHeld.2.1))).trans (hHeld.2.1)
     have HS2_ := (hb.cell (World.block_lt_of_cell? _ _ (hHeld.2.2.1))).trans (hHeld.2.2.1)
     have HS3_ := (hb.cell (World.block_lt_of_cell? _ _ (hHeld.2.2.2))).trans (hHeld.2.2.2)
     refine ⟨_, rfl, ?_⟩
     have n0_ := Aside0.mk (Kd.R_below (zqR HO_16.out) hb)
     have n1_ := Aside0.mk (blk_below (g := gb483) (o := .cells #[.int .i64 0, .int .i64 0, .int .i64 0, .int .i64 0, .int .i64 0, .int .i64 0] 23 (0, 0)) (zqK BK483.out) hb)
     have n2_ := Aside0.mk (blk_below (g := gb512) (o := .cells #[.int .i64 0, .int .i64 0, .int .i64 0, .int .i64 0, .int .i64 0, .int .i64 0] 23 (0, 0)) (zqK BK512.out) hb)
     have n3_ := Aside0.mk (below_step zq1 hb)
     clear HO_16
     clear BK483
     clear BK512
     clear HB
     have HO_16 := n0_
     have BK483 := n1_
     have BK512 := n2_
     have HB := n3_
     clear n0_ n1_ n2_ n3_
     (try clear hb)
     (try clear hb2)
     (try clear hk)
     (try clear hi)
     refine hK.out _ _ ⟨HS0_, HS1_, HS2_, HS3_⟩ (fun hHeld => ?_)
     clear hK K
     refine norm_ (a' := ?_) ?_ ?_
     rotate_left
     ·
      show Act.put _ (some 74) _ = _
      simp only [Act.put, List.setIfInBounds_toArray, List.set_cons_zero, List.set_cons_succ, i64_w, i32_w]
      rfl
     refine pure_ (i := 16) (N := some 85) (v := ?_) (a' := ?_) #[true, true, true, true, true, true, true, true, true, true, true, true, true, true, true, true, true, true, false] rfl rfl (any_of HT_.out (by kernel_rfl)) (fun _ _ _ h => h) (Or.inl ⟨by rfl, ?_⟩) ?_ ?_
     rotate_left; · exact zqB
     rotate_left; · exact zqA
     exact norm_ (by simp only [putAll, Act.put, List.setIfInBounds_toArray, List.set_cons_zero, List.set_cons_succ]) (hCont (gb512) _ ⟨hHeld, (zqR HO_16.out), (zqK BK483.out), (zqK BK512.out), GW512.out, GE512.out, NB483_512.out, NB512_483.out, zq1⟩)
   rintro gb512 w72 ⟨hS_, h0_, h1_, h2_, h3_, h4_, h5_, h6_, h7_⟩
   have n0_ : Aside0 (Kd.R (Kd.int .i64) 3 w72 w.heap.size (fun _ => True) (.slice (some ad507) t502.length co69) t502) := ⟨h0_⟩
   have n1_ : Aside0 (w72.heap[gb483]? = some (.cells #[.int .i64 0, .int .i64 0, .int .i64 0, .int .i64 0, .int .i64 0, .int .i64 0] 23 (0, 0))) := ⟨h1_⟩
   have n2_ : Aside0 (w72.heap[gb512]? = some (.cells #[.int .i64 0, .int .i64 0, .int .i64 0, .int .i64 0, .int .i64 0, .int .i64 0] 23 (0, 0))) := ⟨h2_⟩
   have n3_ : Aside0 (w.heap.size ≤ gb512) := ⟨h3_⟩
   have n4_ : Aside0 (w.heap.size ≤ gb512) := ⟨h4_⟩
   have n5_ : Aside0 (gb483 ≠ gb512) := ⟨h5_⟩
   have n6_ : Aside0 (gb512 ≠ gb483) := ⟨h6_⟩
   have n7_ : Aside0 (Below w.heap.size w w72) := ⟨h7_⟩
   clear HO_16
   clear BK483
   clear HB
   clear h0_ h1_ h2_ h3_ h4_ h5_ h6_ h7_
   have HO_16 := n0_
   have BK483 := n1_
   have BK512 := n2_
   have GW512 := n3_
   have GE512 := n4_
   have NB483_512 := n5_
   have NB512_483 := n6_
   have HB := n7_
   clear n0_ n1_ n2_ n3_ n4_ n5_ n6_ n7_
   have hHeld : w72.cell? ad507 = some (.int .i64 (rd t502 0)) ∧ w72.cell? ⟨ad507.block, ad507.off + 1, none⟩ = some (.int .i64 (rd t502 1)) ∧ w72.cell? ⟨ad507.block, ad507.off + 2, none⟩ = some (.int .i64 (rd t502 2)) ∧ w72.cell? ⟨ad507.block, ad507.off + 3, none⟩ = some (.int .i64 (rd t502 3)) := hS_
   refine norm_ (a' := ?_) ?_ ?_
   rotate_left
   ·
    simp only [putAll, Act.put, List.setIfInBounds_toArray, List.set_cons_zero, List.set_cons_succ]
    rfl
   refine one_ (i := 18) (N := none) #[true, true, true, true, true, true, true, true, true, true, true, true, true, true, true, true, true, true, true] rfl rfl (one_of HT_.out (by kernel_rfl)) (by decide) (fun K hK => ?_)
   have hs73 : w72.cell? ⟨gb512, 0, none⟩ = some (.int .i64 0) := (blk_cell BK512.out 0).trans rfl
   have hfs73 := blk_frozen BK512.out 0
   have hns73_0 := NB483_512.out
   have hms73_0 := NB512_483.out
   have hs74 : w72.cell? ⟨gb512, 1, none⟩ = some (.int .i64 0) := (blk_cell BK512.out 1).trans rfl
   have hfs74 := blk_frozen BK512.out 1
   have hns74_0 := NB483_512.out
   have hms74_0 := NB512_483.out
   have hs75 : w72.cell? ⟨gb512, 2, none⟩ = some (.int .i64 0) := (blk_cell BK512.out 2).trans rfl
   have hfs75 := blk_frozen BK512.out 2
   have hns75_0 := NB483_512.out
   have hms75_0 := NB512_483.out
   have hs76 : w72.cell? ⟨gb512, 3, none⟩ = some (.int .i64 0) := (blk_cell BK512.out 3).trans rfl
   have hfs76 := blk_frozen BK512.out 3
   have hns76_0 := NB483_512.out
   have hms76_0 := NB512_483.out
   have hs77 : w72.cell? ⟨gb512, 4, none⟩ = some (.int .i64 0) := (blk_cell BK512.out 4).trans rfl
   have hfs77 := blk_frozen BK512.out 4
   have hns77_0 := NB483_512.out
   have hms77_0 := NB512_483.out
   have hs78 : w72.cell? ⟨gb512, 5, none⟩ = some (.int .i64 0) := (blk_cell BK512.out 5).trans rfl
   have hfs78 := blk_frozen BK512.out 5
   have hns78_0 := NB483_512.out
   have hms78_0 := NB512_483.out
   refine skip_ (w1 := ?_) (by rfl) rfl ?_ ?_
   rotate_left
   ·
    go_simp
    rfl
   refine hK.out _ _ ⟨far6 hHeld.1 zq12 _ _ _ _ _ _, far6 hHeld.2.1 zq12 _ _ _ _ _ _, far6 hHeld.2.2.1 zq12 _ _ _ _ _ _, far6 hHeld.2.2.2 zq12 _ _ _ _ _ _⟩ (fun hHeld => ?_)
   clear hK K
   refine done_ (done_of HT_.out (by kernel_rfl)) ?_
   have hnb79 := NB512_483.out
   have hnc79 := NB483_512.out
   obtain ⟨hcz80_0, hcz80_1, hcz80_2, hcz80_3, hcz80_4, hcz80_5, hfz80_0, hfz80_1, hfz80_2, hfz80_3, hfz80_4, hfz80_5⟩ := bz6 BK512.out
   try go_wp2_with (first | ((with_reducible refine gate_callee (f := 31) rfl ?_); refine goesL_ (some 87) rfl rfl Tryd.func31 (by kernel_rfl) rfl #[.agg #[.int .i64 (rd t502 0), .int .i64 t508, .int .i64 t506, .int .i64 (rd t502 1), .int .i64 (rd t502 2), .int .i64 (rd t502 3)]] rfl zq2 ?_; (with_reducible refine (impl_IsValidWarning.calls (rd t502 0) t508 t506 (rd t502 1) (rd t502 2) (rd t502 3) false _ A29.out).mono ?_); rintro e w81 ⟨rfl, hb⟩; refine ⟨_, rfl, ?_⟩; have n0_ := Aside0.mk (Kd.R_below zq15 hb); have n1_ := Aside0.mk (blk_below (g := gb483) (o := .cells #[.int .i64 0, .int .i64 0, .int .i64 0, .int .i64 0, .int .i64 0, .int .i64 0] 23 (0, 0)) zq11 hb); have n2_ := Aside0.mk (blk_below (g := gb512) (o := .cells #[.int .i64 (rd t502 0), .int .i64 t508, .int .i64 t506, .int .i64 (rd t502 1), .int .i64 (rd t502 2), .int .i64 (rd t502 3)] 23 (0, 0)) zq8 hb); have n3_ := Aside0.mk (below_step zq1 hb); clear HO_16; clear BK483; clear BK512; clear HB; have HO_16 := n0_; have BK483 := n1_; have BK512 := n2_; have HB := n3_; clear n0_ n1_ n2_ n3_; (try clear hb); (try clear hb2); (try clear hk); (try clear hi); obtain ⟨hcz82_0, hcz82_1, hcz82_2, hcz82_3, hcz82_4, hcz82_5, hfz82_0, hfz82_1, hfz82_2, hfz82_3, hfz82_4, hfz82_5⟩ := bz6 BK483.out))
   refine bodyPost_ret (results_ct rfl _ _ gb483 23 #[.int .i64 0, .int .i64 0, .int .i64 0, .int .i64 0, .int .i64 0, .int .i64 0] (0, 0) _ rfl zq10 Tryd.underlying23 rfl (by kernel_rfl)) rfl ?_
   exact ⟨zqE, zq1⟩
  subst c30
  have H1 : ((impl_warningLine.f kj8 (rd t502 0) t508 t506 (rd t502 1) (rd t502 2) (rd t502 3)).bind fun t514 => (if t514.toList = a0.toList then (some (rd t502 0, t508, t506, rd t502 1, rd t502 2, rd t502 3, true)) else (some (0, 0, 0, 0, 0, 0, false)))) = some (r1, r2, r3, r4, r5, r6, r7) := by rw [if_pos rfl] at H; exact H
  clear H
  have H := H1
  clear H1
  replace H := Option.bind_eq_some_iff.mp H
  obtain ⟨t514, A310, H⟩ := H
  replace H : (if t514.toList = a0.toList then (some (rd t502 0, t508, t506, rd t502 1, rd t502 2, rd t502 3, true)) else (some (0, 0, 0, 0, 0, 0, false))) = some (r1, r2, r3, r4, r5, r6, r7) := H
  have A31 := Aside0.mk A310
  clear A310
  by_cases c32 : t514.toList = a0.toList
  case neg =>
   rw [if_neg c32] at H
   have c32b0 : (t514.toList == a0.toList) = false := beq_eq_false_iff_ne.mpr c32
   have c32b1 : (t514.toList != a0.toList) = true := bne_iff_ne.mpr c32
   simp only [Option.some.injEq, Prod.mk.injEq] at H
   obtain ⟨rfl, rfl, rfl, rfl, rfl, rfl, rfl⟩ := H
   try go_wp2
   have n0_ := Aside0.mk (Kd.R_drew HO_16.out)
   have n1_ := Aside0.mk (blk_drew BK483.out)
   have n2_ := Aside0.mk (below_drew1 HB.out)
   clear HO_16
   clear BK483
   clear HB
   have HO_16 := n0_
   have BK483 := n1_
   have HB := n2_
   clear n0_ n1_ n2_
   obtain ⟨Ao52, co52, eo52⟩ := Kd.R_slice HO_16.out
   (first | subst eo52 | (injection eo52 with f1_ f2_ f3_; have f4_ := f1_.symm; have f5_ := f3_.symm; clear f1_ f2_ f3_; subst f4_; subst f5_))
   have p507 : 0 ≤ (0 : Int) := (by omega)
   have q507 : 0 < (t502.length : Int) := of_decide_eq_true zq6
   obtain ⟨ad507, e507, hx507_0⟩ := Kd.at_int (Kd.R_reads' HO_16.out).2.2 0 p507 q507
   cases e507
   have qi507 : (0 < t502.length) = True := eq_true (by omega)
   (try rw [show ((0 : Int)).toNat = 0 from rfl] at hx507_0)
   (try rw [Addr.add_zero'] at hx507_0)
   replace p507 := eq_true p507
   replace q507 := eq_true q507
   have p509 : 0 ≤ (1 : Int) := (by omega)
   have q509 : 1 < (t502.length : Int) := of_decide_eq_true zq6
   obtain ⟨ad509, e509, hx509_0⟩ := Kd.at_int (Kd.R_reads' HO_16.out).2.2 1 p509 q509
   obtain rfl : ad507 = ad509 := (by injection e509)
   (try simp only [show (1 : Int).toNat = 1 from rfl, Nat.reduceMul, Nat.reduceEqDiff, Go.Addr.add, ↓reduceIte] at hx509_0)
   have qi509 : (1 < t502.length) = True := eq_true (by omega)
   (try rw [show ((1 : Int)).toNat = 1 from rfl] at hx509_0)
   replace p509 := eq_true p509
   replace q509 := eq_true q509
   have p510 : 0 ≤ (2 : Int) := (by omega)
   have q510 : 2 < (t502.length : Int) := of_decide_eq_true zq6
   obtain ⟨ad510, e510, hx510_0⟩ := Kd.at_int (Kd.R_reads' HO_16.out).2.2 2 p510 q510
   obtain rfl : ad507 = ad510 := (by injection e510)
   (try simp only [show (2 : Int).toNat = 2 from rfl, Nat.reduceMul, Nat.reduceEqDiff, Go.Addr.add, ↓reduceIte] at hx510_0)
   have qi510 : (2 < t502.length) = True := eq_true (by omega)
   (try rw [show ((2 : Int)).toNat = 2 from rfl] at hx510_0)
   replace p510 := eq_true p510
   replace q510 := eq_true q510
   have p511 : 0 ≤ (3 : Int) := (by omega)
   have q511 : 3 < (t502.length : Int) := of_decide_eq_true zq6
   obtain ⟨ad511, e511, hx511_0⟩ := Kd.at_int (Kd.R_reads' HO_16.out).2.2 3 p511 q511
   obtain rfl : ad507 = ad511 := (by injection e511)
   (try simp only [show (3 : Int).toNat = 3 from rfl, Nat.reduceMul, Nat.reduceEqDiff, Go.Addr.add, ↓reduceIte] at hx511_0)
   have qi511 : (3 < t502.length) = True := eq_true (by omega)
   (try rw [show ((3 : Int)).toNat = 3 from rfl] at hx511_0)
   replace p511 := eq_true p511
   replace q511 := eq_true q511
   refine start_ (n := 19) (S := fun w' => w'.cell? ad507 = some (.int .i64 (rd t502 0)) ∧ w'.cell? ⟨ad507.block, ad507.off + 1, none⟩ = some (.int .i64 (rd t502 1)) ∧ w'.cell? ⟨ad507.block, ad507.off + 2, none⟩ = some (.int .i64 (rd t502 2)) ∧ w'.cell? ⟨ad507.block, ad507.off + 3, none⟩ = some (.int .i64 (rd t502 3))) (ds := []) #[false, false, false, false, false, false, false, false, false, false, false, false, false, false, false, false, false, false, false] (by kernel_rfl) rfl rfl ⟨hx507_0, hx509_0, hx510_0, hx511_0⟩ (fun hHeld => ?_); refine with_tabW impl_ParseWarningLine.tab10 impl_ParseWarningLine.bits10 (fun HT_ HW_ => ?_)
   generalize wc.drew = w51 at HO_16 BK483 HB hx507_0 hx509_0 hx510_0 hx511_0 hHeld ⊢
   refine pure_ (i := 0) (N := some 69) (v := ?_) (a' := ?_) #[true, false, false, false, false, false, false, false, false, false, false, false, false, false, false, false, false, false, false] rfl rfl (any_of HT_.out (by kernel_rfl)) (fun _ _ _ h => h) (Or.inl ⟨by rfl, ?_⟩) ?_ ?_
   rotate_left; · exact zqB
   rotate_left; · exact zqA
   refine pure_ (i := 1) (N := some 70) (v := ?_) (a' := ?_) #[true, true, false, false, false, false, false, false, false, false, false, false, false, false, false, false, false, false, false] rfl rfl (any_of HT_.out (by kernel_rfl)) (fun _ _ _ h => h) (Or.inl ⟨by rfl, ?_⟩) ?_ ?_
   rotate_left; · exact zqB
   rotate_left; · exact zqA
   refine pure_ (i := 3) (N := some 72) (v := ?_) (a' := ?_) #[true, true, false, true, false, false, false, false, false, false, false, false, false, false, false, false, false, false, false] rfl rfl (any_of HT_.out (by kernel_rfl)) (fun _ _ _ h => h) (Or.inl ⟨by rfl, ?_⟩) ?_ ?_
   rotate_left; · exact zqB
   rotate_left; · exact zqA
   refine pure_ (i := 4) (N := some 73) (v := ?_) (a' := ?_) #[true, true, false, true, true, false, false, false, false, false, false, false, false, false, false, false, false, false, false] rfl rfl (any_of HT_.out (by kernel_rfl)) (fun _ _ _ h => h) (Or.inl ⟨by rfl, ?_⟩) ?_ ?_
   rotate_left; · exact zqB
   rotate_left; · exact zqA
   refine pure_ (i := 6) (N := some 75) (v := ?_) (a' := ?_) #[true, true, false, true, true, false, true, false, false, false, false, false, false, false, false, false, false, false, false] rfl rfl (any_of HT_.out (by kernel_rfl)) (fun _ _ _ h => h) (Or.inl ⟨by rfl, ?_⟩) ?_ ?_
   rotate_left; · exact zqB
   rotate_left; · exact zqA
   refine pure_ (i := 7) (N := some 76) (v := ?_) (a' := ?_) #[true, true, false, true, true, false, true, true, false, false, false, false, false, false, false, false, false, false, false] rfl rfl (any_of HT_.out (by kernel_rfl)) (fun _ _ _ h => h) (Or.inl ⟨by rfl, ?_⟩) ?_ ?_
   rotate_left; · exact zqB
   rotate_left; · exact zqA
   refine pure_ (i := 8) (N := some 77) (v := ?_) (a' := ?_) #[true, true, false, true, true, false, true, true, true, false, false, false, false, false, false, false, false, false, false] rfl rfl (any_of HT_.out (by kernel_rfl)) (fun _ _ _ h => h) (Or.inl ⟨by rfl, ?_⟩) ?_ ?_
   rotate_left; · exact zqB
   rotate_left; · exact zqA
   refine pure_ (i := 10) (N := some 79) (v := ?_) (a' := ?_) #[true, true, false, true, true, false, true, true, true, false, true, false, false, false, false, false, false, false, false] rfl rfl (any_of HT_.out (by kernel_rfl)) (fun _ _ _ h => h) (Or.inl ⟨by rfl, ?_⟩) ?_ ?_
   rotate_left; · exact zqB
   rotate_left; · exact zqA
   refine pure_ (i := 11) (N := some 80) (v := ?_) (a' := ?_) #[true, true, false, true, true, false, true, true, true, false, true, true, false, false, false, false, false, false, false] rfl rfl (any_of HT_.out (by kernel_rfl)) (fun _ _ _ h => h) (Or.inl ⟨by rfl, ?_⟩) ?_ ?_
   rotate_left; · exact zqB
   rotate_left; · exact zqA
   refine pure_ (i := 13) (N := some 82) (v := ?_) (a' := ?_) #[true, true, false, true, true, false, true, true, true, false, true, true, false, true, false, false, false, false, false] rfl rfl (any_of HT_.out (by kernel_rfl)) (fun _ _ _ h => h) (Or.inl ⟨by rfl, ?_⟩) ?_ ?_
   rotate_left; · exact zqB
   rotate_left; · exact zqA
   refine pure_ (i := 14) (N := some 83) (v := ?_) (a' := ?_) #[true, true, false, true, true, false, true, true, true, false, true, true, false, true, true, false, false, false, false] rfl rfl (any_of HT_.out (by kernel_rfl)) (fun _ _ _ h => h) (Or.inl ⟨by rfl, ?_⟩) ?_ ?_
   rotate_left; · exact zqB
   rotate_left; · exact zqA
   refine take_ (i := 2) (N := some 71) (v := ?_) (a' := ?_) #[true, true, true, true, true, false, true, true, true, false, true, true, false, true, true, false, false, false, false] rfl rfl (take_ofW HT_.out HW_.out (by kernel_rfl)) (fun _ _ _ h => h) (Or.inl ⟨by rfl, ?_⟩) hHeld ?_ ?_
   rotate_left
   ·
    rintro w' ⟨s0, s1, s2, s3⟩
    go_simp
    with_reducible rfl
   rotate_left; · exact zqA
   refine take_ (i := 9) (N := some 78) (v := ?_) (a' := ?_) #[true, true, true, true, true, false, true, true, true, true, true, true, false, true, true, false, false, false, false] rfl rfl (take_ofW HT_.out HW_.out (by kernel_rfl)) (fun _ _ _ h => h) (Or.inl ⟨by rfl, ?_⟩) hHeld ?_ ?_
   rotate_left
   ·
    rintro w' ⟨s0, s1, s2, s3⟩
    go_simp
    with_reducible rfl
   rotate_left; · exact zqA
   refine take_ (i := 12) (N := some 81) (v := ?_) (a' := ?_) #[true, true, true, true, true, false, true, true, true, true, true, true, true, true, true, false, false, false, false] rfl rfl (take_ofW HT_.out HW_.out (by kernel_rfl)) (fun _ _ _ h => h) (Or.inl ⟨by rfl, ?_⟩) hHeld ?_ ?_
   rotate_left
   ·
    rintro w' ⟨s0, s1, s2, s3⟩
    go_simp
    with_reducible rfl
   rotate_left; · exact zqA
   refine take_ (i := 15) (N := some 84) (v := ?_) (a' := ?_) #[true, true, true, true, true, false, true, true, true, true, true, true, true, true, true, true, false, false, false] rfl rfl (take_ofW HT_.out HW_.out (by kernel_rfl)) (fun _ _ _ h => h) (Or.inl ⟨by rfl, ?_⟩) hHeld ?_ ?_
   rotate_left
   ·
    rintro w' ⟨s0, s1, s2, s3⟩
    go_simp
    with_reducible rfl
   rotate_left; · exact zqA
   refine join_ (σ := Nat) 1 #[true, true, true, true, true, true, true, true, true, true, true, true, true, true, true, true, true, true, false] (fun s_ => [(74, .int .i64 t508), (19, .pointer (some ⟨s_, 0, none⟩)), (85, .agg #[.int .i64 (rd t502 0), .int .i64 t508, .int .i64 t506, .int .i64 (rd t502 1), .int .i64 (rd t502 2), .int .i64 (rd t502 3)])]) (fun s_ w' => (w'.cell? ad507 = some (.int .i64 (rd t502 0)) ∧ w'.cell? ⟨ad507.block, ad507.off + 1, none⟩ = some (.int .i64 (rd t502 1)) ∧ w'.cell? ⟨ad507.block, ad507.off + 2, none⟩ = some (.int .i64 (rd t502 2)) ∧ w'.cell? ⟨ad507.block, ad507.off + 3, none⟩ = some (.int .i64 (rd t502 3))) ∧ (Kd.R (Kd.int .i64) 3 w' w.heap.size (fun _ => True) (.slice (some ad507) t502.length co52) t502) ∧ (w'.heap[gb483]? = some (.cells #[.int .i64 0, .int .i64 0, .int .i64 0, .int .i64 0, .int .i64 0, .int .i64 0] 23 (0, 0))) ∧ (w'.heap[s_]? = some (.cells #[.int .i64 0, .int .i64 0, .int .i64 0, .int .i64 0, .int .i64 0, .int .i64 0] 23 (0, 0))) ∧ (w.heap.size ≤ s_) ∧ (w.heap.size ≤ s_) ∧ (gb483 ≠ s_) ∧ (s_ ≠ gb483) ∧ (Below w.heap.size w w')) ?_ ?_
   rotate_left
   ·
    intro hCont
    refine two_ (i := 5) (j := 17) (Ni := some 74) (Nj := some 19) #[true, true, true, true, true, true, true, true, true, true, true, true, true, true, true, true, false, false, false] #[true, true, true, true, true, false, true, true, true, true, true, true, true, true, true, true, false, true, false] rfl rfl rfl rfl (two_of HT_.out (by kernel_rfl)) (by decide) (by decide) (fun K hK => ?_) (fun K hK => ?_)
    ·
     skip
     refine goes_ Tryd.func30 (by kernel_rfl) rfl #[.slice (some ⟨0, 0, none⟩) 6 6, .string t490] (by rfl) rfl rfl zq2 ?_
     with_reducible refine (slices_Index_h.calls0 t490 t508 _ (HTL.out.below zq1) (HTO.out.below zq1) A25.out).mono ?_
     rintro e w53 ⟨rfl, hb⟩
     have HS0_ := (hb.cell (World.block_lt_of_cell? _ _ (hHeld.1))).trans (hHeld.1)
     have HS1_ := (hb.cell (World.block_lt_of_cell? _ _ (hHeld.2.1))).trans (hHeld.2.1)
     have HS2_ := (hb.cell (World.block_lt_of_cell? _ _ (hHeld.2.2.1))).trans (hHeld.2.2.1)
     have HS3_ := (hb.cell (World.block_lt_of_cell? _ _ (hHeld.2.2.2))).trans (hHeld.2.2.2)
     refine ⟨_, rfl, ?_⟩
     have n0_ := Aside0.mk (Kd.R_below (zqR HO_16.out) hb)
     have n1_ := Aside0.mk (blk_below (g := gb483) (o := .cells #[.int .i64 0, .int .i64 0, .int .i64 0, .int .i64 0, .int .i64 0, .int .i64 0] 23 (0, 0)) (zqK BK483.out) hb)
     have n2_ := Aside0.mk (below_step zq4 hb)
     clear HO_16
     clear BK483
     clear HB
     have HO_16 := n0_
     have BK483 := n1_
     have HB := n2_
     clear n0_ n1_ n2_
     (try clear hb)
     (try clear hb2)
     (try clear hk)
     (try clear hi)
     refine hK.out _ _ ⟨HS0_, HS1_, HS2_, HS3_⟩ (fun hHeld => ?_)
     clear hK K
     refine norm_ (a' := ?_) ?_ ?_
     rotate_left
     ·
      show Act.put _ (some 74) _ = _
      simp only [Act.put, List.setIfInBounds_toArray, List.set_cons_zero, List.set_cons_succ, i64_w, i32_w]
      rfl
     refine pure_ (i := 16) (N := some 85) (v := ?_) (a' := ?_) #[true, true, true, true, true, true, true, true, true, true, true, true, true, true, true, true, true, false, false] rfl rfl (any_of HT_.out (by kernel_rfl)) (fun _ _ _ h => h) (Or.inl ⟨by rfl, ?_⟩) ?_ ?_
     rotate_left; · exact zqB
     rotate_left; · exact zqA
     refine one_ (i := 17) (N := some 19) #[true, true, true, true, true, true, true, true, true, true, true, true, true, true, true, true, true, true, false] rfl rfl (one_of HT_.out (by kernel_rfl)) (by decide) (fun K hK => ?_)
     refine box_step ?hg (N := 19) ?hd (cs := #[.int .i64 0, .int .i64 0, .int .i64 0, .int .i64 0, .int .i64 0, .int .i64 0]) (t := 23) ?hr ?_; (case hd => rfl); (case hg => rfl); (case hr => exact zqS)
     intro gb512 hg w54 hbox hb
     have HS0_ := (hb.cell (World.block_lt_of_cell? _ _ (hHeld.1))).trans (hHeld.1)
     have HS1_ := (hb.cell (World.block_lt_of_cell? _ _ (hHeld.2.1))).trans (hHeld.2.1)
     have HS2_ := (hb.cell (World.block_lt_of_cell? _ _ (hHeld.2.2.1))).trans (hHeld.2.2.1)
     have HS3_ := (hb.cell (World.block_lt_of_cell? _ _ (hHeld.2.2.2))).trans (hHeld.2.2.2)
     have n0_ := Aside0.mk (Kd.R_below (zqR HO_16.out) hb)
     have n1_ := Aside0.mk (blk_below (g := gb483) (o := .cells #[.int .i64 0, .int .i64 0, .int .i64 0, .int .i64 0, .int .i64 0, .int .i64 0] 23 (0, 0)) (zqK BK483.out) hb)
     have n2_ := Aside0.mk (below_step zq4 hb)
     have n3_ := Aside0.mk (hbox)
     have n4_ := Aside0.mk ((by rw [hg]; exact (below_size zq4) : w.heap.size ≤ gb512))
     have n5_ := Aside0.mk ((by rw [hg]; exact (below_size zq4) : w.heap.size ≤ gb512))
     have n6_ := Aside0.mk ((by rw [hg]; exact Nat.ne_of_lt (blk_lt (g := gb483) (o := .cells #[.int .i64 0, .int .i64 0, .int .i64 0, .int .i64 0, .int .i64 0, .int .i64 0] 23 (0, 0)) (zqK BK483.out)) : gb483 ≠ gb512))
     have n7_ := Aside0.mk ((by rw [hg]; exact Nat.ne_of_gt (blk_lt (g := gb483) (o := .cells #[.int .i64 0, .int .i64 0, .int .i64 0, .int .i64 0, .int .i64 0, .int .i64 0] 23 (0, 0)) (zqK BK483.out)) : gb512 ≠ gb483))
     clear HO_16
     clear BK483
     clear HB
     have HO_16 := n0_
     have BK483 := n1_
     have HB := n2_
     have BK512 := n3_
     have GW512 := n4_
     have GE512 := n5_
     have NB483_512 := n6_
     have NB512_483 := n7_
     clear n0_ n1_ n2_ n3_ n4_ n5_ n6_ n7_
     clear hb hbox hg
     refine hK.out _ _ ⟨HS0_, HS1_, HS2_, HS3_⟩ (fun hHeld => ?_)
     clear hK K
     refine norm_ (a' := ?_) ?_ ?_
     rotate_left
     ·
      show Act.put _ (some 19) _ = _
      simp only [Act.put, List.setIfInBounds_toArray, List.set_cons_zero, List.set_cons_succ, i64_w, i32_w]
      rfl
     exact norm_ (by simp only [putAll, Act.put, List.setIfInBounds_toArray, List.set_cons_zero, List.set_cons_succ]) (hCont (gb512) _ ⟨hHeld, (zqR HO_16.out), (zqK BK483.out), (zqK BK512.out), GW512.out, GE512.out, NB483_512.out, NB512_483.out, zq1⟩)
    ·
     skip
     refine box_step ?hg (N := 19) ?hd (cs := #[.int .i64 0, .int .i64 0, .int .i64 0, .int .i64 0, .int .i64 0, .int .i64 0]) (t := 23) ?hr ?_; (case hd => rfl); (case hg => rfl); (case hr => exact zqS)
     intro gb512 hg w53 hbox hb
     have HS0_ := (hb.cell (World.block_lt_of_cell? _ _ (hHeld.1))).trans (hHeld.1)
     have HS1_ := (hb.cell (World.block_lt_of_cell? _ _ (hHeld.2.1))).trans (hHeld.2.1)
     have HS2_ := (hb.cell (World.block_lt_of_cell? _ _ (hHeld.2.2.1))).trans (hHeld.2.2.1)
     have HS3_ := (hb.cell (World.block_lt_of_cell? _ _ (hHeld.2.2.2))).trans (hHeld.2.2.2)
     have n0_ := Aside0.mk (Kd.R_below (zqR HO_16.out) hb)
     have n1_ := Aside0.mk (blk_below (g := gb483) (o := .cells #[.int .i64 0, .int .i64 0, .int .i64 0, .int .i64 0, .int .i64 0, .int .i64 0] 23 (0, 0)) (zqK BK483.out) hb)
     have n2_ := Aside0.mk (below_step zq4 hb)
     have n3_ := Aside0.mk (hbox)
     have n4_ := Aside0.mk ((by rw [hg]; exact (below_size zq4) : w.heap.size ≤ gb512))
     have n5_ := Aside0.mk ((by rw [hg]; exact (below_size zq4) : w.heap.size ≤ gb512))
     have n6_ := Aside0.mk ((by rw [hg]; exact Nat.ne_of_lt (blk_lt (g := gb483) (o := .cells #[.int .i64 0, .int .i64 0, .int .i64 0, .int .i64 0, .int .i64 0, .int .i64 0] 23 (0, 0)) (zqK BK483.out)) : gb483 ≠ gb512))
     have n7_ := Aside0.mk ((by rw [hg]; exact Nat.ne_of_gt (blk_lt (g := gb483) (o := .cells #[.int .i64 0, .int .i64 0, .int .i64 0, .int .i64 0, .int .i64 0, .int .i64 0] 23 (0, 0)) (zqK BK483.out)) : gb512 ≠ gb483))
     clear HO_16
     clear BK483
     clear HB
     have HO_16 := n0_
     have BK483 := n1_
     have HB := n2_
     have BK512 := n3_
     have GW512 := n4_
     have GE512 := n5_
     have NB483_512 := n6_
     have NB512_483 := n7_
     clear n0_ n1_ n2_ n3_ n4_ n5_ n6_ n7_
     clear hb hbox hg
     refine hK.out _ _ ⟨HS0_, HS1_, HS2_, HS3_⟩ (fun hHeld => ?_)
     clear hK K
     refine norm_ (a' := ?_) ?_ ?_
     rotate_left
     ·
      show Act.put _ (some 19) _ = _
      simp only [Act.put, List.setIfInBounds_toArray, List.set_cons_zero, List.set_cons_succ, i64_w, i32_w]
      rfl
     refine one_ (i := 5) (N := some 74) #[true, true, true, true, true, true, true, true, true, true, true, true, true, true, true, true, false, true, false] rfl rfl (one_of HT_.out (by kernel_rfl)) (by decide) (fun K hK => ?_)
     refine goes_ Tryd.func30 (by kernel_rfl) rfl #[.slice (some ⟨0, 0, none⟩) 6 6, .string t490] (by rfl) rfl rfl zq2 ?_
     with_reducible refine (slices_Index_h.calls0 t490 t508 _ (HTL.out.below zq1) (HTO.out.below zq1) A25.out).mono ?_
     rintro e w54 ⟨rfl, hb⟩
     have HS0_ := (hb.cell (World.block_lt_of_cell? _ _ (hHeld.1))).trans (hHeld.1)
     have HS1_ := (hb.cell (World.block_lt_of_cell? _ _ (hHeld.2.1))).trans (hHeld.2.1)
     have HS2_ := (hb.cell (World.block_lt_of_cell? _ _ (hHeld.2.2.1))).trans (hHeld.2.2.1)
     have HS3_ := (hb.cell (World.block_lt_of_cell? _ _ (hHeld.2.2.2))).trans (hHeld.2.2.2)
     refine ⟨_, rfl, ?_⟩
     have n0_ := Aside0.mk (Kd.R_below (zqR HO_16.out) hb)
     have n1_ := Aside0.mk (blk_below (g := gb483) (o := .cells #[.int .i64 0, .int .i64 0, .int .i64 0, .int .i64 0, .int .i64 0, .int .i64 0] 23 (0, 0)) (zqK BK483.out) hb)
     have n2_ := Aside0.mk (blk_below (g := gb512) (o := .cells #[.int .i64 0, .int .i64 0, .int .i64 0, .int .i64 0, .int .i64 0, .int .i64 0] 23 (0, 0)) (zqK BK512.out) hb)
     have n3_ := Aside0.mk (below_step zq1 hb)
     clear HO_16
     clear BK483
     clear BK512
     clear HB
     have HO_16 := n0_
     have BK483 := n1_
     have BK512 := n2_
     have HB := n3_
     clear n0_ n1_ n2_ n3_
     (try clear hb)
     (try clear hb2)
     (try clear hk)
     (try clear hi)
     refine hK.out _ _ ⟨HS0_, HS1_, HS2_, HS3_⟩ (fun hHeld => ?_)
     clear hK K
     refine norm_ (a' := ?_) ?_ ?_
     rotate_left
     ·
      show Act.put _ (some 74) _ = _
      simp only [Act.put, List.setIfInBounds_toArray, List.set_cons_zero, List.set_cons_succ, i64_w, i32_w]
      rfl
     refine pure_ (i := 16) (N := some 85) (v := ?_) (a' := ?_) #[true, true, true, true, true, true, true, true, true, true, true, true, true, true, true, true, true, true, false] rfl rfl (any_of HT_.out (by kernel_rfl)) (fun _ _ _ h => h) (Or.inl ⟨by rfl, ?_⟩) ?_ ?_
     rotate_left; · exact zqB
     rotate_left; · exact zqA
     exact norm_ (by simp only [putAll, Act.put, List.setIfInBounds_toArray, List.set_cons_zero, List.set_cons_succ]) (hCont (gb512) _ ⟨hHeld, (zqR HO_16.out), (zqK BK483.out), (zqK BK512.out), GW512.out, GE512.out, NB483_512.out, NB512_483.out, zq1⟩)
   rintro gb512 w55 ⟨hS_, h0_, h1_, h2_, h3_, h4_, h5_, h6_, h7_⟩
   have n0_ : Aside0 (Kd.R (Kd.int .i64) 3 w55 w.heap.size (fun _ => True) (.slice (some ad507) t502.length co52) t502) := ⟨h0_⟩
   have n1_ : Aside0 (w55.heap[gb483]? = some (.cells #[.int .i64 0, .int .i64 0, .int .i64 0, .int .i64 0, .int .i64 0, .int .i64 0] 23 (0, 0))) := ⟨h1_⟩
   have n2_ : Aside0 (w55.heap[gb512]? = some (.cells #[.int .i64 0, .int .i64 0, .int .i64 0, .int .i64 0, .int .i64 0, .int .i64 0] 23 (0, 0))) := ⟨h2_⟩
   have n3_ : Aside0 (w.heap.size ≤ gb512) := ⟨h3_⟩
   have n4_ : Aside0 (w.heap.size ≤ gb512) := ⟨h4_⟩
   have n5_ : Aside0 (gb483 ≠ gb512) := ⟨h5_⟩
   have n6_ : Aside0 (gb512 ≠ gb483) := ⟨h6_⟩
   have n7_ : Aside0 (Below w.heap.size w w55) := ⟨h7_⟩
   clear HO_16
   clear BK483
   clear HB
   clear h0_ h1_ h2_ h3_ h4_ h5_ h6_ h7_
   have HO_16 := n0_
   have BK483 := n1_
   have BK512 := n2_
   have GW512 := n3_
   have GE512 := n4_
   have NB483_512 := n5_
   have NB512_483 := n6_
   have HB := n7_
   clear n0_ n1_ n2_ n3_ n4_ n5_ n6_ n7_
   have hHeld : w55.cell? ad507 = some (.int .i64 (rd t502 0)) ∧ w55.cell? ⟨ad507.block, ad507.off + 1, none⟩ = some (.int .i64 (rd t502 1)) ∧ w55.cell? ⟨ad507.block, ad507.off + 2, none⟩ = some (.int .i64 (rd t502 2)) ∧ w55.cell? ⟨ad507.block, ad507.off + 3, none⟩ = some (.int .i64 (rd t502 3)) := hS_
   refine norm_ (a' := ?_) ?_ ?_
   rotate_left
   ·
    simp only [putAll, Act.put, List.setIfInBounds_toArray, List.set_cons_zero, List.set_cons_succ]
    rfl
   refine one_ (i := 18) (N := none) #[true, true, true, true, true, true, true, true, true, true, true, true, true, true, true, true, true, true, true] rfl rfl (one_of HT_.out (by kernel_rfl)) (by decide) (fun K hK => ?_)
   have hs56 : w55.cell? ⟨gb512, 0, none⟩ = some (.int .i64 0) := (blk_cell BK512.out 0).trans rfl
   have hfs56 := blk_frozen BK512.out 0
   have hns56_0 := NB483_512.out
   have hms56_0 := NB512_483.out
   have hs57 : w55.cell? ⟨gb512, 1, none⟩ = some (.int .i64 0) := (blk_cell BK512.out 1).trans rfl
   have hfs57 := blk_frozen BK512.out 1
   have hns57_0 := NB483_512.out
   have hms57_0 := NB512_483.out
   have hs58 : w55.cell? ⟨gb512, 2, none⟩ = some (.int .i64 0) := (blk_cell BK512.out 2).trans rfl
   have hfs58 := blk_frozen BK512.out 2
   have hns58_0 := NB483_512.out
   have hms58_0 := NB512_483.out
   have hs59 : w55.cell? ⟨gb512, 3, none⟩ = some (.int .i64 0) := (blk_cell BK512.out 3).trans rfl
   have hfs59 := blk_frozen BK512.out 3
   have hns59_0 := NB483_512.out
   have hms59_0 := NB512_483.out
   have hs60 : w55.cell? ⟨gb512, 4, none⟩ = some (.int .i64 0) := (blk_cell BK512.out 4).trans rfl
   have hfs60 := blk_frozen BK512.out 4
   have hns60_0 := NB483_512.out
   have hms60_0 := NB512_483.out
   have hs61 : w55.cell? ⟨gb512, 5, none⟩ = some (.int .i64 0) := (blk_cell BK512.out 5).trans rfl
   have hfs61 := blk_frozen BK512.out 5
   have hns61_0 := NB483_512.out
   have hms61_0 := NB512_483.out
   refine skip_ (w1 := ?_) (by rfl) rfl ?_ ?_
   rotate_left
   ·
    go_simp
    rfl
   refine hK.out _ _ ⟨far6 hHeld.1 zq12 _ _ _ _ _ _, far6 hHeld.2.1 zq12 _ _ _ _ _ _, far6 hHeld.2.2.1 zq12 _ _ _ _ _ _, far6 hHeld.2.2.2 zq12 _ _ _ _ _ _⟩ (fun hHeld => ?_)
   clear hK K
   refine done_ (done_of HT_.out (by kernel_rfl)) ?_
   have hnb62 := NB512_483.out
   have hnc62 := NB483_512.out
   obtain ⟨hcz63_0, hcz63_1, hcz63_2, hcz63_3, hcz63_4, hcz63_5, hfz63_0, hfz63_1, hfz63_2, hfz63_3, hfz63_4, hfz63_5⟩ := bz6 BK512.out
   try go_wp2_with (first | ((with_reducible refine gate_callee (f := 31) rfl ?_); refine goesL_ (some 87) rfl rfl Tryd.func31 (by kernel_rfl) rfl #[.agg #[.int .i64 (rd t502 0), .int .i64 t508, .int .i64 t506, .int .i64 (rd t502 1), .int .i64 (rd t502 2), .int .i64 (rd t502 3)]] rfl zq2 ?_; (with_reducible refine (impl_IsValidWarning.calls (rd t502 0) t508 t506 (rd t502 1) (rd t502 2) (rd t502 3) true _ A29.out).mono ?_); rintro e w64 ⟨rfl, hb⟩; refine ⟨_, rfl, ?_⟩; have n0_ := Aside0.mk (Kd.R_below zq15 hb); have n1_ := Aside0.mk (blk_below (g := gb483) (o := .cells #[.int .i64 0, .int .i64 0, .int .i64 0, .int .i64 0, .int .i64 0, .int .i64 0] 23 (0, 0)) zq11 hb); have n2_ := Aside0.mk (blk_below (g := gb512) (o := .cells #[.int .i64 (rd t502 0), .int .i64 t508, .int .i64 t506, .int .i64 (rd t502 1), .int .i64 (rd t502 2), .int .i64 (rd t502 3)] 23 (0, 0)) zq8 hb); have n3_ := Aside0.mk (below_step zq1 hb); clear HO_16; clear BK483; clear BK512; clear HB; have HO_16 := n0_; have BK483 := n1_; have BK512 := n2_; have HB := n3_; clear n0_ n1_ n2_ n3_; (try clear hb); (try clear hb2); (try clear hk); (try clear hi); obtain ⟨hcz65_0, hcz65_1, hcz65_2, hcz65_3, hcz65_4, hcz65_5, hfz65_0, hfz65_1, hfz65_2, hfz65_3, hfz65_4, hfz65_5⟩ := bz6 BK512.out) | (go_at_call 49; (with_reducible refine (impl_warningLine.calls kj8 (rd t502 0) t508 t506 (rd t502 1) (rd t502 2) (rd t502 3) t514 _ (HTL.out.below zq1) (HTN.out.below zq1) (HTO.out.below zq1) A31.out).mono ?_); rintro e w66 ⟨rfl, hb⟩; have n0_ := Aside0.mk (Kd.R_below (zqR HO_16.out) hb); have n1_ := Aside0.mk (blk_below (g := gb483) (o := .cells #[.int .i64 0, .int .i64 0, .int .i64 0, .int .i64 0, .int .i64 0, .int .i64 0] 23 (0, 0)) (zqK BK483.out) hb); have n2_ := Aside0.mk (blk_below (g := gb512) (o := .cells #[.int .i64 (rd t502 0), .int .i64 t508, .int .i64 t506, .int .i64 (rd t502 1), .int .i64 (rd t502 2), .int .i64 (rd t502 3)] 23 (0, 0)) (zqK BK512.out) hb); have n3_ := Aside0.mk (below_step zq1 hb); clear HO_16; clear BK483; clear BK512; clear HB; have HO_16 := n0_; have BK483 := n1_; have BK512 := n2_; have HB := n3_; clear n0_ n1_ n2_ n3_; (try clear hb); (try clear hb2); (try clear hk); (try clear hi); obtain ⟨hcz67_0, hcz67_1, hcz67_2, hcz67_3, hcz67_4, hcz67_5, hfz67_0, hfz67_1, hfz67_2, hfz67_3, hfz67_4, hfz67_5⟩ := bz6 BK483.out))
   refine bodyPost_ret (results_ct rfl _ _ gb483 23 #[.int .i64 0, .int .i64 0, .int .i64 0, .int .i64 0, .int .i64 0, .int .i64 0] (0, 0) _ rfl zq10 Tryd.underlying23 rfl (by kernel_rfl)) rfl ?_
   exact ⟨zqE, zq1⟩
  rw [if_pos c32] at H
  have c32b0 : (t514.toList == a0.toList) = true := beq_iff_eq.mpr c32
  have c32b1 : (t514.toList != a0.toList) = false := bne_eq_false_iff_eq.mpr c32
  clear c32
  simp only [Option.some.injEq, Prod.mk.injEq] at H
  obtain ⟨rfl, rfl, rfl, rfl, rfl, rfl, rfl⟩ := H
  try go_wp2
  have n0_ := Aside0.mk (Kd.R_drew HO_16.out)
  have n1_ := Aside0.mk (blk_drew BK483.out)
  have n2_ := Aside0.mk (below_drew1 HB.out)
  clear HO_16
  clear BK483
  clear HB
  have HO_16 := n0_
  have BK483 := n1_
  have HB := n2_
  clear n0_ n1_ n2_
  obtain ⟨Ao34, co34, eo34⟩ := Kd.R_slice HO_16.out
  (first | subst eo34 | (injection eo34 with f1_ f2_ f3_; have f4_ := f1_.symm; have f5_ := f3_.symm; clear f1_ f2_ f3_; subst f4_; subst f5_))
  have p507 : 0 ≤ (0 : Int) := (by omega)
  have q507 : 0 < (t502.length : Int) := of_decide_eq_true zq6
  obtain ⟨ad507, e507, hx507_0⟩ := Kd.at_int (Kd.R_reads' HO_16.out).2.2 0 p507 q507
  cases e507
  have qi507 : (0 < t502.length) = True := eq_true (by omega)
  (try rw [show ((0 : Int)).toNat = 0 from rfl] at hx507_0)
  (try rw [Addr.add_zero'] at hx507_0)
  replace p507 := eq_true p507
  replace q507 := eq_true q507
  have p509 : 0 ≤ (1 : Int) := (by omega)
  have q509 : 1 < (t502.length : Int) := of_decide_eq_true zq6
  obtain ⟨ad509, e509, hx509_0⟩ := Kd.at_int (Kd.R_reads' HO_16.out).2.2 1 p509 q509
  obtain rfl : ad507 = ad509 := (by injection e509)
  (try simp only [show (1 : Int).toNat = 1 from rfl, Nat.reduceMul, Nat.reduceEqDiff, Go.Addr.add, ↓reduceIte] at hx509_0)
  have qi509 : (1 < t502.length) = True := eq_true (by omega)
  (try rw [show ((1 : Int)).toNat = 1 from rfl] at hx509_0)
  replace p509 := eq_true p509
  replace q509 := eq_true q509
  have p510 : 0 ≤ (2 : Int) := (by omega)
  have q510 : 2 < (t502.length : Int) := of_decide_eq_true zq6
  obtain ⟨ad510, e510, hx510_0⟩ := Kd.at_int (Kd.R_reads' HO_16.out).2.2 2 p510 q510
  obtain rfl : ad507 = ad510 := (by injection e510)
  (try simp only [show (2 : Int).toNat = 2 from rfl, Nat.reduceMul, Nat.reduceEqDiff, Go.Addr.add, ↓reduceIte] at hx510_0)
  have qi510 : (2 < t502.length) = True := eq_true (by omega)
  (try rw [show ((2 : Int)).toNat = 2 from rfl] at hx510_0)
  replace p510 := eq_true p510
  replace q510 := eq_true q510
  have p511 : 0 ≤ (3 : Int) := (by omega)
  have q511 : 3 < (t502.length : Int) := of_decide_eq_true zq6
  obtain ⟨ad511, e511, hx511_0⟩ := Kd.at_int (Kd.R_reads' HO_16.out).2.2 3 p511 q511
  obtain rfl : ad507 = ad511 := (by injection e511)
  (try simp only [show (3 : Int).toNat = 3 from rfl, Nat.reduceMul, Nat.reduceEqDiff, Go.Addr.add, ↓reduceIte] at hx511_0)
  have qi511 : (3 < t502.length) = True := eq_true (by omega)
  (try rw [show ((3 : Int)).toNat = 3 from rfl] at hx511_0)
  replace p511 := eq_true p511
  replace q511 := eq_true q511
  refine start_ (n := 19) (S := fun w' => w'.cell? ad507 = some (.int .i64 (rd t502 0)) ∧ w'.cell? ⟨ad507.block, ad507.off + 1, none⟩ = some (.int .i64 (rd t502 1)) ∧ w'.cell? ⟨ad507.block, ad507.off + 2, none⟩ = some (.int .i64 (rd t502 2)) ∧ w'.cell? ⟨ad507.block, ad507.off + 3, none⟩ = some (.int .i64 (rd t502 3))) (ds := []) #[false, false, false, false, false, false, false, false, false, false, false, false, false, false, false, false, false, false, false] (by kernel_rfl) rfl rfl ⟨hx507_0, hx509_0, hx510_0, hx511_0⟩ (fun hHeld => ?_); refine with_tabW impl_ParseWarningLine.tab10 impl_ParseWarningLine.bits10 (fun HT_ HW_ => ?_)
  generalize wc.drew = w33 at HO_16 BK483 HB hx507_0 hx509_0 hx510_0 hx511_0 hHeld ⊢
  refine pure_ (i := 0) (N := some 69) (v := ?_) (a' := ?_) #[true, false, false, false, false, false, false, false, false, false, false, false, false, false, false, false, false, false, false] rfl rfl (any_of HT_.out (by kernel_rfl)) (fun _ _ _ h => h) (Or.inl ⟨by rfl, ?_⟩) ?_ ?_
  rotate_left; · exact zqB
  rotate_left; · exact zqA
  refine pure_ (i := 1) (N := some 70) (v := ?_) (a' := ?_) #[true, true, false, false, false, false, false, false, false, false, false, false, false, false, false, false, false, false, false] rfl rfl (any_of HT_.out (by kernel_rfl)) (fun _ _ _ h => h) (Or.inl ⟨by rfl, ?_⟩) ?_ ?_
  rotate_left; · exact zqB
  rotate_left; · exact zqA
  refine pure_ (i := 3) (N := some 72) (v := ?_) (a' := ?_) #[true, true, false, true, false, false, false, false, false, false, false, false, false, false, false, false, false, false, false] rfl rfl (any_of HT_.out (by kernel_rfl)) (fun _ _ _ h => h) (Or.inl ⟨by rfl, ?_⟩) ?_ ?_
  rotate_left; · exact zqB
  rotate_left; · exact zqA
  refine pure_ (i := 4) (N := some 73) (v := ?_) (a' := ?_) #[true, true, false, true, true, false, false, false, false, false, false, false, false, false, false, false, false, false, false] rfl rfl (any_of HT_.out (by kernel_rfl)) (fun _ _ _ h => h) (Or.inl ⟨by rfl, ?_⟩) ?_ ?_
  rotate_left; · exact zqB
  rotate_left; · exact zqA
  refine pure_ (i := 6) (N := some 75) (v := ?_) (a' := ?_) #[true, true, false, true, true, false, true, false, false, false, false, false, false, false, false, false, false, false, false] rfl rfl (any_of HT_.out (by kernel_rfl)) (fun _ _ _ h => h) (Or.inl ⟨by rfl, ?_⟩) ?_ ?_
  rotate_left; · exact zqB
  rotate_left; · exact zqA
  refine pure_ (i := 7) (N := some 76) (v := ?_) (a' := ?_) #[true, true, false, true, true, false, true, true, false, false, false, false, false, false, false, false, false, false, false] rfl rfl (any_of HT_.out (by kernel_rfl)) (fun _ _ _ h => h) (Or.inl ⟨by rfl, ?_⟩) ?_ ?_
  rotate_left; · exact zqB
  rotate_left; · exact zqA
  refine pure_ (i := 8) (N := some 77) (v := ?_) (a' := ?_) #[true, true, false, true, true, false, true, true, true, false, false, false, false, false, false, false, false, false, false] rfl rfl (any_of HT_.out (by kernel_rfl)) (fun _ _ _ h => h) (Or.inl ⟨by rfl, ?_⟩) ?_ ?_
  rotate_left; · exact zqB
  rotate_left; · exact zqA
  refine pure_ (i := 10) (N := some 79) (v := ?_) (a' := ?_) #[true, true, false, true, true, false, true, true, true, false, true, false, false, false, false, false, false, false, false] rfl rfl (any_of HT_.out (by kernel_rfl)) (fun _ _ _ h => h) (Or.inl ⟨by rfl, ?_⟩) ?_ ?_
  rotate_left; · exact zqB
  rotate_left; · exact zqA
  refine pure_ (i := 11) (N := some 80) (v := ?_) (a' := ?_) #[true, true, false, true, true, false, true, true, true, false, true, true, false, false, false, false, false, false, false] rfl rfl (any_of HT_.out (by kernel_rfl)) (fun _ _ _ h => h) (Or.inl ⟨by rfl, ?_⟩) ?_ ?_
  rotate_left; · exact zqB
  rotate_left; · exact zqA
  refine pure_ (i := 13) (N := some 82) (v := ?_) (a' := ?_) #[true, true, false, true, true, false, true, true, true, false, true, true, false, true, false, false, false, false, false] rfl rfl (any_of HT_.out (by kernel_rfl)) (fun _ _ _ h => h) (Or.inl ⟨by rfl, ?_⟩) ?_ ?_
  rotate_left; · exact zqB
  rotate_left; · exact zqA
  refine pure_ (i := 14) (N := some 83) (v := ?_) (a' := ?_) #[true, true, false, true, true, false, true, true, true, false, true, true, false, true, true, false, false, false, false] rfl rfl (any_of HT_.out (by kernel_rfl)) (fun _ _ _ h => h) (Or.inl ⟨by rfl, ?_⟩) ?_ ?_
  rotate_left; · exact zqB
  rotate_left; · exact zqA
  refine take_ (i := 2) (N := some 71) (v := ?_) (a' := ?_) #[true, true, true, true, true, false, true, true, true, false, true, true, false, true, true, false, false, false, false] rfl rfl (take_ofW HT_.out HW_.out (by kernel_rfl)) (fun _ _ _ h => h) (Or.inl ⟨by rfl, ?_⟩) hHeld ?_ ?_
  rotate_left
  ·
   rintro w' ⟨s0, s1, s2, s3⟩
   go_simp
   with_reducible rfl
  rotate_left; · exact zqA
  refine take_ (i := 9) (N := some 78) (v := ?_) (a' := ?_) #[true, true, true, true, true, false, true, true, true, true, true, true, false, true, true, false, false, false, false] rfl rfl (take_ofW HT_.out HW_.out (by kernel_rfl)) (fun _ _ _ h => h) (Or.inl ⟨by rfl, ?_⟩) hHeld ?_ ?_
  rotate_left
  ·
   rintro w' ⟨s0, s1, s2, s3⟩
   go_simp
   with_reducible rfl
  rotate_left; · exact zqA
  refine take_ (i := 12) (N := some 81) (v := ?_) (a' := ?_) #[true, true, true, true, true, false, true, true, true, true, true, true, true, true, true, false, false, false, false] rfl rfl (take_ofW HT_.out HW_.out (by kernel_rfl)) (fun _ _ _ h => h) (Or.inl ⟨by rfl, ?_⟩) hHeld ?_ ?_
  rotate_left
  ·
   rintro w' ⟨s0, s1, s2, s3⟩
   go_simp
   with_reducible rfl
  rotate_left; · exact zqA
  refine take_ (i := 15) (N := some 84) (v := ?_) (a' := ?_) #[true, true, true, true, true, false, true, true, true, true, true, true, true, true, true, true, false, false, false] rfl rfl (take_ofW HT_.out HW_.out (by kernel_rfl)) (fun _ _ _ h => h) (Or.inl ⟨by rfl, ?_⟩) hHeld ?_ ?_
  rotate_left
  ·
   rintro w' ⟨s0, s1, s2, s3⟩
   go_simp
   with_reducible rfl
  rotate_left; · exact zqA
  refine join_ (σ := Nat) 1 #[true, true, true, true, true, true, true, true, true, true, true, true, true, true, true, true, true, true, false] (fun s_ => [(74, .int .i64 t508), (19, .pointer (some ⟨s_, 0, none⟩)), (85, .agg #[.int .i64 (rd t502 0), .int .i64 t508, .int .i64 t506, .int .i64 (rd t502 1), .int .i64 (rd t502 2), .int .i64 (rd t502 3)])]) (fun s_ w' => (w'.cell? ad507 = some (.int .i64 (rd t502 0)) ∧ w'.cell? ⟨ad507.block, ad507.off + 1, none⟩ = some (.int .i64 (rd t502 1)) ∧ w'.cell? ⟨ad507.block, ad507.off + 2, none⟩ = some (.int .i64 (rd t502 2)) ∧ w'.cell? ⟨ad507.block, ad507.off + 3, none⟩ = some (.int .i64 (rd t502 3))) ∧ (Kd.R (Kd.int .i64) 3 w' w.heap.size (fun _ => True) (.slice (some ad507) t502.length co34) t502) ∧ (w'.heap[gb483]? = some (.cells #[.int .i64 0, .int .i64 0, .int .i64 0, .int .i64 0, .int .i64 0, .int .i64 0] 23 (0, 0))) ∧ (w'.heap[s_]? = some (.cells #[.int .i64 0, .int .i64 0, .int .i64 0, .int .i64 0, .int .i64 0, .int .i64 0] 23 (0, 0))) ∧ (w.heap.size ≤ s_) ∧ (w.heap.size ≤ s_) ∧ (gb483 ≠ s_) ∧ (s_ ≠ gb483) ∧ (Below w.heap.size w w')) ?_ ?_
  rotate_left
  ·
   intro hCont
   refine two_ (i := 5) (j := 17) (Ni := some 74) (Nj := some 19) #[true, true, true, true, true, true, true, true, true, true, true, true, true, true, true, true, false, false, false] #[true, true, true, true, true, false, true, true, true, true, true, true, true, true, true, true, false, true, false] rfl rfl rfl rfl (two_of HT_.out (by kernel_rfl)) (by decide) (by decide) (fun K hK => ?_) (fun K hK => ?_)
   ·
    skip
    refine goes_ Tryd.func30 (by kernel_rfl) rfl #[.slice (some ⟨0, 0, none⟩) 6 6, .string t490] (by rfl) rfl rfl zq2 ?_
    with_reducible refine (slices_Index_h.calls0 t490 t508 _ (HTL.out.below zq1) (HTO.out.below zq1) A25.out).mono ?_
    rintro e w35 ⟨rfl, hb⟩
    have HS0_ := (hb.cell (World.block_lt_of_cell? _ _ (hHeld.1))).trans (hHeld.1)
    have HS1_ := (hb.cell (World.block_lt_of_cell? _ _ (hHeld.2.1))).trans (hHeld.2.1)
    have HS2_ := (hb.cell (World.block_lt_of_cell? _ _ (hHeld.2.2.1))).trans (hHeld.2.2.1)
    have HS3_ := (hb.cell (World.block_lt_of_cell? _ _ (hHeld.2.2.2))).trans (hHeld.2.2.2)
    refine ⟨_, rfl, ?_⟩
    have n0_ := Aside0.mk (Kd.R_below (zqR HO_16.out) hb)
    have n1_ := Aside0.mk (blk_below (g := gb483) (o := .cells #[.int .i64 0, .int .i64 0, .int .i64 0, .int .i64 0, .int .i64 0, .int .i64 0] 23 (0, 0)) (zqK BK483.out) hb)
    have n2_ := Aside0.mk (below_step zq4 hb)
    clear HO_16
    clear BK483
    clear HB
    have HO_16 := n0_
    have BK483 := n1_
    have HB := n2_
    clear n0_ n1_ n2_
    (try clear hb)
    (try clear hb2)
    (try clear hk)
    (try clear hi)
    refine hK.out _ _ ⟨HS0_, HS1_, HS2_, HS3_⟩ (fun hHeld => ?_)
    clear hK K
    refine norm_ (a' := ?_) ?_ ?_
    rotate_left
    ·
     show Act.put _ (some 74) _ = _
     simp only [Act.put, List.setIfInBounds_toArray, List.set_cons_zero, List.set_cons_succ, i64_w, i32_w]
     rfl
    refine pure_ (i := 16) (N := some 85) (v := ?_) (a' := ?_) #[true, true, true, true, true, true, true, true, true, true, true, true, true, true, true, true, true, false, false] rfl rfl (any_of HT_.out (by kernel_rfl)) (fun _ _ _ h => h) (Or.inl ⟨by rfl, ?_⟩) ?_ ?_
    rotate_left; · exact zqB
    rotate_left; · exact zqA
    refine one_ (i := 17) (N := some 19) #[true, true, true, true, true, true, true, true, true, true, true, true, true, true, true, true, true, true, false] rfl rfl (one_of HT_.out (by kernel_rfl)) (by decide) (fun K hK => ?_)
    refine box_step ?hg (N := 19) ?hd (cs := #[.int .i64 0, .int .i64 0, .int .i64 0, .int .i64 0, .int .i64 0, .int .i64 0]) (t := 23) ?hr ?_; (case hd => rfl); (case hg => rfl); (case hr => exact zqS)
    intro gb512 hg w36 hbox hb
    have HS0_ := (hb.cell (World.block_lt_of_cell? _ _ (hHeld.1))).trans (hHeld.1)
    have HS1_ := (hb.cell (World.block_lt_of_cell? _ _ (hHeld.2.1))).trans (hHeld.2.1)
    have HS2_ := (hb.cell (World.block_lt_of_cell? _ _ (hHeld.2.2.1))).trans (hHeld.2.2.1)
    have HS3_ := (hb.cell (World.block_lt_of_cell? _ _ (hHeld.2.2.2))).trans (hHeld.2.2.2)
    have n0_ := Aside0.mk (Kd.R_below (zqR HO_16.out) hb)
    have n1_ := Aside0.mk (blk_below (g := gb483) (o := .cells #[.int .i64 0, .int .i64 0, .int .i64 0, .int .i64 0, .int .i64 0, .int .i64 0] 23 (0, 0)) (zqK BK483.out) hb)
    have n2_ := Aside0.mk (below_step zq4 hb)
    have n3_ := Aside0.mk (hbox)
    have n4_ := Aside0.mk ((by rw [hg]; exact (below_size zq4) : w.heap.size ≤ gb512))
    have n5_ := Aside0.mk ((by rw [hg]; exact (below_size zq4) : w.heap.size ≤ gb512))
    have n6_ := Aside0.mk ((by rw [hg]; exact Nat.ne_of_lt (blk_lt (g := gb483) (o := .cells #[.int .i64 0, .int .i64 0, .int .i64 0, .int .i64 0, .int .i64 0, .int .i64 0] 23 (0, 0)) (zqK BK483.out)) : gb483 ≠ gb512))
    have n7_ := Aside0.mk ((by rw [hg]; exact Nat.ne_of_gt (blk_lt (g := gb483) (o := .cells #[.int .i64 0, .int .i64 0, .int .i64 0, .int .i64 0, .int .i64 0, .int .i64 0] 23 (0, 0)) (zqK BK483.out)) : gb512 ≠ gb483))
    clear HO_16
    clear BK483
    clear HB
    have HO_16 := n0_
    have BK483 := n1_
    have HB := n2_
    have BK512 := n3_
    have GW512 := n4_
    have GE512 := n5_
    have NB483_512 := n6_
    have NB512_483 := n7_
    clear n0_ n1_ n2_ n3_ n4_ n5_ n6_ n7_
    clear hb hbox hg
    refine hK.out _ _ ⟨HS0_, HS1_, HS2_, HS3_⟩ (fun hHeld => ?_)
    clear hK K
    refine norm_ (a' := ?_) ?_ ?_
    rotate_left
    ·
     show Act.put _ (some 19) _ = _
     simp only [Act.put, List.setIfInBounds_toArray, List.set_cons_zero, List.set_cons_succ, i64_w, i32_w]
     rfl
    exact norm_ (by simp only [putAll, Act.put, List.setIfInBounds_toArray, List.set_cons_zero, List.set_cons_succ]) (hCont (gb512) _ ⟨hHeld, (zqR HO_16.out), (zqK BK483.out), (zqK BK512.out), GW512.out, GE512.out, NB483_512.out, NB512_483.out, zq1⟩)
   ·
    skip
    refine box_step ?hg (N := 19) ?hd (cs := #[.int .i64 0, .int .i64 0, .int .i64 0, .int .i64 0, .int .i64 0, .int .i64 0]) (t := 23) ?hr ?_; (case hd => rfl); (case hg => rfl); (case hr => exact zqS)
    intro gb512 hg w35 hbox hb
    have HS0_ := (hb.cell (World.block_lt_of_cell? _ _ (hHeld.1))).trans (hHeld.1)
    have HS1_ := (hb.cell (World.block_lt_of_cell? _ _ (hHeld.2.1))).trans (hHeld.2.1)
    have HS2_ := (hb.cell (World.block_lt_of_cell? _ _ (hHeld.2.2.1))).trans (hHeld.2.2.1)
    have HS3_ := (hb.cell (World.block_lt_of_cell? _ _ (hHeld.2.2.2))).trans (hHeld.2.2.2)
    have n0_ := Aside0.mk (Kd.R_below (zqR HO_16.out) hb)
    have n1_ := Aside0.mk (blk_below (g := gb483) (o := .cells #[.int .i64 0, .int .i64 0, .int .i64 0, .int .i64 0, .int .i64 0, .int .i64 0] 23 (0, 0)) (zqK BK483.out) hb)
    have n2_ := Aside0.mk (below_step zq4 hb)
    have n3_ := Aside0.mk (hbox)
    have n4_ := Aside0.mk ((by rw [hg]; exact (below_size zq4) : w.heap.size ≤ gb512))
    have n5_ := Aside0.mk ((by rw [hg]; exact (below_size zq4) : w.heap.size ≤ gb512))
    have n6_ := Aside0.mk ((by rw [hg]; exact Nat.ne_of_lt (blk_lt (g := gb483) (o := .cells #[.int .i64 0, .int .i64 0, .int .i64 0, .int .i64 0, .int .i64 0, .int .i64 0] 23 (0, 0)) (zqK BK483.out)) : gb483 ≠ gb512))
    have n7_ := Aside0.mk ((by rw [hg]; exact Nat.ne_of_gt (blk_lt (g := gb483) (o := .cells #[.int .i64 0, .int .i64 0, .int .i64 0, .int .i64 0, .int .i64 0, .int .i64 0] 23 (0, 0)) (zqK BK483.out)) : gb512 ≠ gb483))
    clear HO_16
    clear BK483
    clear HB
    have HO_16 := n0_
    have BK483 := n1_
    have HB := n2_
    have BK512 := n3_
    have GW512 := n4_
    have GE512 := n5_
    have NB483_512 := n6_
    have NB512_483 := n7_
    clear n0_ n1_ n2_ n3_ n4_ n5_ n6_ n7_
    clear hb hbox hg
    refine hK.out _ _ ⟨HS0_, HS1_, HS2_, HS3_⟩ (fun hHeld => ?_)
    clear hK K
    refine norm_ (a' := ?_) ?_ ?_
    rotate_left
    ·
     show Act.put _ (some 19) _ = _
     simp only [Act.put, List.setIfInBounds_toArray, List.set_cons_zero, List.set_cons_succ, i64_w, i32_w]
     rfl
    refine one_ (i := 5) (N := some 74) #[true, true, true, true, true, true, true, true, true, true, true, true, true, true, true, true, false, true, false] rfl rfl (one_of HT_.out (by kernel_rfl)) (by decide) (fun K hK => ?_)
    refine goes_ Tryd.func30 (by kernel_rfl) rfl #[.slice (some ⟨0, 0, none⟩) 6 6, .string t490] (by rfl) rfl rfl zq2 ?_
    with_reducible refine (slices_Index_h.calls0 t490 t508 _ (HTL.out.below zq1) (HTO.out.below zq1) A25.out).mono ?_
    rintro e w36 ⟨rfl, hb⟩
    have HS0_ := (hb.cell (World.block_lt_of_cell? _ _ (hHeld.1))).trans (hHeld.1)
    have HS1_ := (hb.cell (World.block_lt_of_cell? _ _ (hHeld.2.1))).trans (hHeld.2.1)
    have HS2_ := (hb.cell (World.block_lt_of_cell? _ _ (hHeld.2.2.1))).trans (hHeld.2.2.1)
    have HS3_ := (hb.cell (World.block_lt_of_cell? _ _ (hHeld.2.2.2))).trans (hHeld.2.2.2)
    refine ⟨_, rfl, ?_⟩
    have n0_ := Aside0.mk (Kd.R_below (zqR HO_16.out) hb)
    have n1_ := Aside0.mk (blk_below (g := gb483) (o := .cells #[.int .i64 0, .int .i64 0, .int .i64 0, .int .i64 0, .int .i64 0, .int .i64 0] 23 (0, 0)) (zqK BK483.out) hb)
    have n2_ := Aside0.mk (blk_below (g := gb512) (o := .cells #[.int .i64 0, .int .i64 0, .int .i64 0, .int .i64 0, .int .i64 0, .int .i64 0] 23 (0, 0)) (zqK BK512.out) hb)
    have n3_ := Aside0.mk (below_step zq1 hb)
    clear HO_16
    clear BK483
    clear BK512
    clear HB
    have HO_16 := n0_
    have BK483 := n1_
    have BK512 := n2_
    have HB := n3_
    clear n0_ n1_ n2_ n3_
    (try clear hb)
    (try clear hb2)
    (try clear hk)
    (try clear hi)
    refine hK.out _ _ ⟨HS0_, HS1_, HS2_, HS3_⟩ (fun hHeld => ?_)
    clear hK K
    refine norm_ (a' := ?_) ?_ ?_
    rotate_left
    ·
     show Act.put _ (some 74) _ = _
     simp only [Act.put, List.setIfInBounds_toArray, List.set_cons_zero, List.set_cons_succ, i64_w, i32_w]
     rfl
    refine pure_ (i := 16) (N := some 85) (v := ?_) (a' := ?_) #[true, true, true, true, true, true, true, true, true, true, true, true, true, true, true, true, true, true, false] rfl rfl (any_of HT_.out (by kernel_rfl)) (fun _ _ _ h => h) (Or.inl ⟨by rfl, ?_⟩) ?_ ?_
    rotate_left; · exact zqB
    rotate_left; · exact zqA
    exact norm_ (by simp only [putAll, Act.put, List.setIfInBounds_toArray, List.set_cons_zero, List.set_cons_succ]) (hCont (gb512) _ ⟨hHeld, (zqR HO_16.out), (zqK BK483.out), (zqK BK512.out), GW512.out, GE512.out, NB483_512.out, NB512_483.out, zq1⟩)
  rintro gb512 w37 ⟨hS_, h0_, h1_, h2_, h3_, h4_, h5_, h6_, h7_⟩
  have n0_ : Aside0 (Kd.R (Kd.int .i64) 3 w37 w.heap.size (fun _ => True) (.slice (some ad507) t502.length co34) t502) := ⟨h0_⟩
  have n1_ : Aside0 (w37.heap[gb483]? = some (.cells #[.int .i64 0, .int .i64 0, .int .i64 0, .int .i64 0, .int .i64 0, .int .i64 0] 23 (0, 0))) := ⟨h1_⟩
  have n2_ : Aside0 (w37.heap[gb512]? = some (.cells #[.int .i64 0, .int .i64 0, .int .i64 0, .int .i64 0, .int .i64 0, .int .i64 0] 23 (0, 0))) := ⟨h2_⟩
  have n3_ : Aside0 (w.heap.size ≤ gb512) := ⟨h3_⟩
  have n4_ : Aside0 (w.heap.size ≤ gb512) := ⟨h4_⟩
  have n5_ : Aside0 (gb483 ≠ gb512) := ⟨h5_⟩
  have n6_ : Aside0 (gb512 ≠ gb483) := ⟨h6_⟩
  have n7_ : Aside0 (Below w.heap.size w w37) := ⟨h7_⟩
  clear HO_16
  clear BK483
  clear HB
  clear h0_ h1_ h2_ h3_ h4_ h5_ h6_ h7_
  have HO_16 := n0_
  have BK483 := n1_
  have BK512 := n2_
  have GW512 := n3_
  have GE512 := n4_
  have NB483_512 := n5_
  have NB512_483 := n6_
  have HB := n7_
  clear n0_ n1_ n2_ n3_ n4_ n5_ n6_ n7_
  have hHeld : w37.cell? ad507 = some (.int .i64 (rd t502 0)) ∧ w37.cell? ⟨ad507.block, ad507.off + 1, none⟩ = some (.int .i64 (rd t502 1)) ∧ w37.cell? ⟨ad507.block, ad507.off + 2, none⟩ = some (.int .i64 (rd t502 2)) ∧ w37.cell? ⟨ad507.block, ad507.off + 3, none⟩ = some (.int .i64 (rd t502 3)) := hS_
  refine norm_ (a' := ?_) ?_ ?_
  rotate_left
  ·
   simp only [putAll, Act.put, List.setIfInBounds_toArray, List.set_cons_zero, List.set_cons_succ]
   rfl
  refine one_ (i := 18) (N := none) #[true, true, true, true, true, true, true, true, true, true, true, true, true, true, true, true, true, true, true] rfl rfl (one_of HT_.out (by kernel_rfl)) (by decide) (fun K hK => ?_)
  have hs38 : w37.cell? ⟨gb512, 0, none⟩ = some (.int .i64 0) := (blk_cell BK512.out 0).trans rfl
  have hfs38 := blk_frozen BK512.out 0
  have hns38_0 := NB483_512.out
  have hms38_0 := NB512_483.out
  have hs39 : w37.cell? ⟨gb512, 1, none⟩ = some (.int .i64 0) := (blk_cell BK512.out 1).trans rfl
  have hfs39 := blk_frozen BK512.out 1
  have hns39_0 := NB483_512.out
  have hms39_0 := NB512_483.out
  have hs40 : w37.cell? ⟨gb512, 2, none⟩ = some (.int .i64 0) := (blk_cell BK512.out 2).trans rfl
  have hfs40 := blk_frozen BK512.out 2
  have hns40_0 := NB483_512.out
  have hms40_0 := NB512_483.out
  have hs41 : w37.cell? ⟨gb512, 3, none⟩ = some (.int .i64 0) := (blk_cell BK512.out 3).trans rfl
  have hfs41 := blk_frozen BK512.out 3
  have hns41_0 := NB483_512.out
  have hms41_0 := NB512_483.out
  have hs42 : w37.cell? ⟨gb512, 4, none⟩ = some (.int .i64 0) := (blk_cell BK512.out 4).trans rfl
  have hfs42 := blk_frozen BK512.out 4
  have hns42_0 := NB483_512.out
  have hms42_0 := NB512_483.out
  have hs43 : w37.cell? ⟨gb512, 5, none⟩ = some (.int .i64 0) := (blk_cell BK512.out 5).trans rfl
  have hfs43 := blk_frozen BK512.out 5
  have hns43_0 := NB483_512.out
  have hms43_0 := NB512_483.out
  refine skip_ (w1 := ?_) (by rfl) rfl ?_ ?_
  rotate_left
  ·
   go_simp
   rfl
  refine hK.out _ _ ⟨far6 hHeld.1 zq12 _ _ _ _ _ _, far6 hHeld.2.1 zq12 _ _ _ _ _ _, far6 hHeld.2.2.1 zq12 _ _ _ _ _ _, far6 hHeld.2.2.2 zq12 _ _ _ _ _ _⟩ (fun hHeld => ?_)
  clear hK K
  refine done_ (done_of HT_.out (by kernel_rfl)) ?_
  have hnb44 := NB512_483.out
  have hnc44 := NB483_512.out
  obtain ⟨hcz45_0, hcz45_1, hcz45_2, hcz45_3, hcz45_4, hcz45_5, hfz45_0, hfz45_1, hfz45_2, hfz45_3, hfz45_4, hfz45_5⟩ := bz6 BK512.out
  try go_wp2_with (first | ((with_reducible refine gate_callee (f := 31) rfl ?_); refine goesL_ (some 87) rfl rfl Tryd.func31 (by kernel_rfl) rfl #[.agg #[.int .i64 (rd t502 0), .int .i64 t508, .int .i64 t506, .int .i64 (rd t502 1), .int .i64 (rd t502 2), .int .i64 (rd t502 3)]] rfl zq2 ?_; (with_reducible refine (impl_IsValidWarning.calls (rd t502 0) t508 t506 (rd t502 1) (rd t502 2) (rd t502 3) true _ A29.out).mono ?_); rintro e w46 ⟨rfl, hb⟩; refine ⟨_, rfl, ?_⟩; have n0_ := Aside0.mk (Kd.R_below zq15 hb); have n1_ := Aside0.mk (blk_below (g := gb483) (o := .cells #[.int .i64 0, .int .i64 0, .int .i64 0, .int .i64 0, .int .i64 0, .int .i64 0] 23 (0, 0)) zq11 hb); have n2_ := Aside0.mk (blk_below (g := gb512) (o := .cells #[.int .i64 (rd t502 0), .int .i64 t508, .int .i64 t506, .int .i64 (rd t502 1), .int .i64 (rd t502 2), .int .i64 (rd t502 3)] 23 (0, 0)) zq8 hb); have n3_ := Aside0.mk (below_step zq1 hb); clear HO_16; clear BK483; clear BK512; clear HB; have HO_16 := n0_; have BK483 := n1_; have BK512 := n2_; have HB := n3_; clear n0_ n1_ n2_ n3_; (try clear hb); (try clear hb2); (try clear hk); (try clear hi); obtain ⟨hcz47_0, hcz47_1, hcz47_2, hcz47_3, hcz47_4, hcz47_5, hfz47_0, hfz47_1, hfz47_2, hfz47_3, hfz47_4, hfz47_5⟩ := bz6 BK512.out) | (go_at_call 49; (with_reducible refine (impl_warningLine.calls kj8 (rd t502 0) t508 t506 (rd t502 1) (rd t502 2) (rd t502 3) t514 _ (HTL.out.below zq1) (HTN.out.below zq1) (HTO.out.below zq1) A31.out).mono ?_); rintro e w48 ⟨rfl, hb⟩; have n0_ := Aside0.mk (Kd.R_below (zqR HO_16.out) hb); have n1_ := Aside0.mk (blk_below (g := gb483) (o := .cells #[.int .i64 0, .int .i64 0, .int .i64 0, .int .i64 0, .int .i64 0, .int .i64 0] 23 (0, 0)) (zqK BK483.out) hb); have n2_ := Aside0.mk (blk_below (g := gb512) (o := .cells #[.int .i64 (rd t502 0), .int .i64 t508, .int .i64 t506, .int .i64 (rd t502 1), .int .i64 (rd t502 2), .int .i64 (rd t502 3)] 23 (0, 0)) (zqK BK512.out) hb); have n3_ := Aside0.mk (below_step zq1 hb); clear HO_16; clear BK483; clear BK512; clear HB; have HO_16 := n0_; have BK483 := n1_; have BK512 := n2_; have HB := n3_; clear n0_ n1_ n2_ n3_; (try clear hb); (try clear hb2); (try clear hk); (try clear hi); obtain ⟨hcz49_0, hcz49_1, hcz49_2, hcz49_3, hcz49_4, hcz49_5, hfz49_0, hfz49_1, hfz49_2, hfz49_3, hfz49_4, hfz49_5⟩ := bz6 BK512.out; obtain ⟨hcz50_0, hcz50_1, hcz50_2, hcz50_3, hcz50_4, hcz50_5, hfz50_0, hfz50_1, hfz50_2, hfz50_3, hfz50_4, hfz50_5⟩ := bz6 BK483.out))
  refine bodyPost_ret (results_ct rfl _ _ gb483 23 #[.int .i64 (rd t502 0), .int .i64 t508, .int .i64 t506, .int .i64 (rd t502 1), .int .i64 (rd t502 2), .int .i64 (rd t502 3)] (0, 0) _ rfl (by (with_reducible repeat (first | refine blk_drewN ?_ _ | refine blk_drew ?_ | refine blk_alloc ?_ _)); refine blk_put (cs := #[.int .i64 (rd t502 0), .int .i64 t508, .int .i64 t506, .int .i64 (rd t502 1), .int .i64 (rd t502 2), .int .i64 0]) ?_ 5 _ rfl; (with_reducible repeat (first | refine blk_drewN ?_ _ | refine blk_drew ?_ | refine blk_alloc ?_ _)); refine blk_put (cs := #[.int .i64 (rd t502 0), .int .i64 t508, .int .i64 t506, .int .i64 (rd t502 1), .int .i64 0, .int .i64 0]) ?_ 4 _ rfl; (with_reducible repeat (first | refine blk_drewN ?_ _ | refine blk_drew ?_ | refine blk_alloc ?_ _)); refine blk_put (cs := #[.int .i64 (rd t502 0), .int .i64 t508, .int .i64 t506, .int .i64 0, .int .i64 0, .int .i64 0]) ?_ 3 _ rfl; (with_reducible repeat (first | refine blk_drewN ?_ _ | refine blk_drew ?_ | refine blk_alloc ?_ _)); refine blk_put (cs := #[.int .i64 (rd t502 0), .int .i64 t508, .int .i64 0, .int .i64 0, .int .i64 0, .int .i64 0]) ?_ 2 _ rfl; (with_reducible repeat (first | refine blk_drewN ?_ _ | refine blk_drew ?_ | refine blk_alloc ?_ _)); refine blk_put (cs := #[.int .i64 (rd t502 0), .int .i64 0, .int .i64 0, .int .i64 0, .int .i64 0, .int .i64 0]) ?_ 1 _ rfl; (with_reducible repeat (first | refine blk_drewN ?_ _ | refine blk_drew ?_ | refine blk_alloc ?_ _)); refine blk_put (cs := #[.int .i64 0, .int .i64 0, .int .i64 0, .int .i64 0, .int .i64 0, .int .i64 0]) ?_ 0 _ rfl; (with_reducible repeat (first | refine blk_drewN ?_ _ | refine blk_drew ?_ | refine blk_alloc ?_ _)); exact BK483.out) Tryd.underlying23 rfl (by kernel_rfl)) rfl ?_
  exact ⟨zqE, zq1⟩
end Go.Proofs.YtfmmpjfmdhdbmaaDoor.Q
