/- Texts of this claim, put together: walks of the program's functions, and plain facts. -/
import Derived.Test.YtpdeapefekbdpaaZFnTracks
import Derived.Test.YtpdeapefekbdpaaBFnTracks0
import Derived.Test.YtpdeapefekbdpaaBFnTracks4
import Derived.Test.YtpdeapefekbdpaaBFnTracks8
namespace Go.Proofs.Ytpdeapefekbdpaa.Q
open Go.RowKit Go.Proofs.YtpdeapefekbdpaaW.PrintWords Go.Proofs.YtpdeapefekbdpaaW.PrintLast Go.Proofs.YtpdeapefekbdpaaW.PrintMore
attribute [local go_sem] max2_int min2_int max_two min_two max_three min_three max_four min_four
set_option linter.unusedVariables false
set_option linter.unusedSimpArgs false
mutual
def spec_l1Cur_field.l0 : Nat → Int → Int → List Int → Int → Int → Int → Int → List Int → Option (Int × Int × List Int × Int × Int)
 | 0, _, _, _, _, _, _, _, _ => none
 | k + 1, x4, x5, x1000, x1001, x1002, x657000, x657001, x657002 => if x5 < (wrap64 (x657000 * x657001)) then ((spec_l1Cur_pick.f x1000 x1001 x1002 40).bind fun bt663 => ((spec_l1Cur_one.f x1000 bt663.2.1 bt663.2.2 12).bind fun bt666 => (if bt666.1 = true then (if x657002.length < 17592186044416 then (spec_l1Cur_field.l0 k x4 (wrap64 (x5 + 1)) x1000 bt666.2.1 bt666.2.2 x657000 x657001 (x657002 ++ [(-9999)])) else (none)) else (if x657002.length < 17592186044416 then (spec_l1Cur_field.l0 k x4 (wrap64 (x5 + 1)) x1000 bt666.2.1 bt666.2.2 x657000 x657001 (x657002 ++ [wrap64 (x4 + bt663.1)])) else (none))))) else ((spec_l1Cur_one.f x1000 x1001 x1002 10).bind fun bt675 => (if bt675.1 = true then ((spec_l1Cur_pick.f x1000 bt675.2.1 bt675.2.2 (x657002.length : Int)).bind fun bt678 => ((spec_l1Cur_among.f x1000 bt678.2.1 bt678.2.2 (([9000, (-9000), 0] : List Int))).bind fun bt684 => (if 0 ≤ bt678.1 then (if bt678.1 < (x657002.length : Int) then (spec_l1Cur_field.j1 k x1000 bt684.2.1 bt684.2.2 x657000 x657001 (x657002.set (bt678.1 : Int).toNat bt684.1)) else (none)) else (none)))) else (spec_l1Cur_field.j1 k x1000 bt675.2.1 bt675.2.2 x657000 x657001 x657002)))
def spec_l1Cur_field.j1 : Nat → List Int → Int → Int → Int → Int → List Int → Option (Int × Int × List Int × Int × Int)
 | 0, _, _, _, _, _, _ => none
 | k + 1, x1000, x1001, x1002, x657000, x657001, x657002 => (spec_l1Cur_one.f x1000 x1001 x1002 24).bind fun bt688 => (if bt688.1 = true then ((spec_l2Fill.f k 8 8 3).bind fun bt691 => (some (bt691.1, bt691.2.1, bt691.2.2, bt688.2.1, bt688.2.2))) else (some (x657000, x657001, x657002, bt688.2.1, bt688.2.2)))
end
def spec_l1Cur_field.f (k : Nat) (s0_0 : List Int) (s0_1 : Int) (s0_2 : Int) : Option (Int × Int × List Int × Int × Int) := (spec_l1Cur_pick.f s0_0 s0_1 s0_2 5).bind fun bt650 => ((spec_l1Cur_pick.f s0_0 bt650.2.1 bt650.2.2 5).bind fun bt653 => ((spec_l1Cur_among.f s0_0 bt653.2.1 bt653.2.2 (([0, 10, 100, (-50)] : List Int))).bind fun bt660 => (spec_l1Cur_field.l0 k bt660.1 0 s0_0 bt660.2.1 bt660.2.2 (wrap64 (1 + bt650.1)) (wrap64 (1 + bt653.1)) ([] : List Int))))
def spec_l1Cur_field.T11 : Bool × List (List Nat × List Nat) := (true, [([], []), ([0], [0]), ([], []), ([], []), ([3], [3]), ([4], [4]), ([2, 5], [2, 5]), ([], []), ([], []), ([7, 8, 6], [7, 8]), ([1, 6, 0, 1, 2, 3, 4, 5, 6, 7, 8, 9], [1, 6]), ([10, 9, 9, 0, 1, 2, 3, 4, 5, 6, 7, 8, 9], [9, 10])])
def spec_l1Cur_field.B11 : List Nat := [0, 1, 0, 0, 8, 24, 60, 0, 0, 508, 1023, 2047]
theorem spec_l1Cur_field.tab11 : rtab .any (opsOf Try.f89 11) = spec_l1Cur_field.T11 := by kernel_rfl
theorem spec_l1Cur_field.bits11 : waitsOk spec_l1Cur_field.T11.2 spec_l1Cur_field.B11 = true := by kernel_rfl
set_option maxHeartbeats 8000000 in
set_option maxRecDepth 100000 in
theorem spec_l1Cur_field.calls (k : Nat) (g : Nat) (s0_0 : List Int) (s0_1 : Int) (s0_2 : Int) (r1 : Int) (r2 : Int) (r3 : List Int) (r4 : Int) (r5 : Int) (w0 w : World) (hI : IsS63 w0 w g s0_0 s0_1 s0_2) (hB : Below w0.heap.size w0 w) (h : spec_l1Cur_field.f k s0_0 s0_1 s0_2 = some (r1, r2, r3, r4, r5)) :
  Calls Try.prog 89 #[.pointer (some ⟨g, 0, none⟩)] w fun e w' => ∃ v2_ : Value, e = .returned (.agg #[.int .i64 r1, .int .i64 r2, v2_]) ∧ Kd.R (Kd.int .i64) 3 w' w.heap.size (fun _ => True) v2_ r3 ∧ IsS63 w0 w' g s0_0 r4 r5 ∧ Below w0.heap.size w0 w' ∧ KeepBut w w' g none := by
 have hu29 := Try.underlying29
 have HI0 := Aside0.mk hI
 have HK := Aside0.mk (KeepBut.refl w g none)
 have HL := Aside0.mk hB.size
 clear hI
 have HW0 := Aside0.mk hB.size
 have HB := Aside0.mk hB
 clear hB
 have H : ((spec_l1Cur_pick.f s0_0 s0_1 s0_2 5).bind fun bt650 => ((spec_l1Cur_pick.f s0_0 bt650.2.1 bt650.2.2 5).bind fun bt653 => ((spec_l1Cur_among.f s0_0 bt653.2.1 bt653.2.2 (([0, 10, 100, (-50)] : List Int))).bind fun bt660 => (spec_l1Cur_field.l0 k bt660.1 0 s0_0 bt660.2.1 bt660.2.2 (wrap64 (1 + bt650.1)) (wrap64 (1 + bt653.1)) ([] : List Int))))) = some (r1, r2, r3, r4, r5) := h
 clear h
 replace H := Option.bind_eq_some_iff.mp H
 obtain ⟨⟨t650, t651, t652⟩, A20, H⟩ := H
 replace H : ((spec_l1Cur_pick.f s0_0 t651 t652 5).bind fun bt653 => ((spec_l1Cur_among.f s0_0 bt653.2.1 bt653.2.2 (([0, 10, 100, (-50)] : List Int))).bind fun bt660 => (spec_l1Cur_field.l0 k bt660.1 0 s0_0 bt660.2.1 bt660.2.2 (wrap64 (1 + t650)) (wrap64 (1 + bt653.1)) ([] : List Int)))) = some (r1, r2, r3, r4, r5) := H
 have A2 := Aside0.mk A20
 clear A20
 replace H := Option.bind_eq_some_iff.mp H
 obtain ⟨⟨t653, t654, t655⟩, A30, H⟩ := H
 replace H : ((spec_l1Cur_among.f s0_0 t654 t655 (([0, 10, 100, (-50)] : List Int))).bind fun bt660 => (spec_l1Cur_field.l0 k bt660.1 0 s0_0 bt660.2.1 bt660.2.2 (wrap64 (1 + t650)) (wrap64 (1 + t653)) ([] : List Int))) = some (r1, r2, r3, r4, r5) := H
 have A3 := Aside0.mk A30
 clear A30
 obtain ⟨y657, hy657⟩ : ∃ y_ : List Int, y_ = (([0, 10, 100, (-50)] : List Int)) := ⟨_, rfl⟩
 replace H : ((spec_l1Cur_among.f s0_0 t654 t655 y657).bind fun bt660 => (spec_l1Cur_field.l0 k bt660.1 0 s0_0 bt660.2.1 bt660.2.2 (wrap64 (1 + t650)) (wrap64 (1 + t653)) ([] : List Int))) = some (r1, r2, r3, r4, r5) := zqH hy657 H
 have Ny657 := Aside0.mk hy657
 clear hy657
 replace H := Option.bind_eq_some_iff.mp H
 obtain ⟨⟨t660, t661, t662⟩, A40, H⟩ := H
 replace H : (spec_l1Cur_field.l0 k t660 0 s0_0 t661 t662 (wrap64 (1 + t650)) (wrap64 (1 + t653)) ([] : List Int)) = some (r1, r2, r3, r4, r5) := H
 have A4 := Aside0.mk A40
 clear A40
 have H' := Aside0.mk H
 clear H
 go_enter Try.func89, Try.ntmps89
 go_wp2_with (first | ((with_reducible refine gate_dst (N := 2) rfl ?_); refine box_event ?hg (N := 2) ?hd (cs := #[.int .i64 0, .int .i64 0, .slice none 0 0]) (t := 29) ?hr ?_; (case hd => rfl); (case hg => rfl); (case hr => exact zqS); intro gb649 hg w5 hbox hb; replace HB := Aside0.mk (below_step zq4 hb); have BK649 := Aside0.mk (hbox); have GW649 := Aside0.mk ((by rw [hg]; exact (keep_size (w := w) (g := g) (row := none) zq3) : w.heap.size ≤ gb649)); have GE649 := Aside0.mk ((Nat.le_trans HW0.out (by rw [hg]; exact (keep_size (w := w) (g := g) (row := none) zq3) : w.heap.size ≤ gb649) : w0.heap.size ≤ gb649)); replace HK := Aside0.mk (KeepBut.trans zq3 (KeepBut.of_below hb g none) (.inl rfl)); have NB0_649 := Aside0.mk ((by rw [hg]; exact Nat.ne_of_lt (IsS63.lt (show IsS63 w0 _ g s0_0 s0_1 s0_2 from by repeat (first | (with_reducible first | exact HI0.out | apply IsS63.alloc | apply IsS63.drewN | apply IsS63.drew | apply IsS63.set_1 | apply IsS63.set_2) | exact HI0.out))) : g ≠ gb649)); have NB649_0 := Aside0.mk ((by rw [hg]; exact Nat.ne_of_gt (IsS63.lt (show IsS63 w0 _ g s0_0 s0_1 s0_2 from by repeat (first | (with_reducible first | exact HI0.out | apply IsS63.alloc | apply IsS63.drewN | apply IsS63.drew | apply IsS63.set_1 | apply IsS63.set_2) | exact HI0.out))) : gb649 ≠ g)); replace HI0 := Aside0.mk (IsS63.below zq5 hb); clear hb hbox hg) | ((with_reducible refine gate_callee (f := 37) rfl ?_); refine goesL_ (some 8) rfl rfl Try.func37 (by kernel_rfl) rfl #[.pointer (some ⟨g, 0, none⟩), .int .i64 5] rfl zq1 ?_; (with_reducible refine (spec_l1Cur_pick.calls g s0_0 s0_1 s0_2 5 t650 t651 t652 w0 _ ?side1 ?side2 A2.out).mono ?_); (case side1 => repeat (first | (with_reducible first | exact HI0.out | apply IsS63.alloc | apply IsS63.drewN | apply IsS63.drew | apply IsS63.set_1 | apply IsS63.set_2 | refine IsS63.far ?_ NB0_649.out _) | exact HI0.out)); (case side2 => repeat (first | (with_reducible first | exact HB.out | apply below_alloc | apply pw_below_drewN | apply below_drew1 | refine below_set ?_ (IsS63.ge HI0.out) | refine below_set ?_ GE649.out) | exact HB.out)); rintro e w6 ⟨rfl, hi, hb, hk⟩; refine ⟨_, rfl, ?_⟩; replace BK649 := Aside0.mk (KeepBut.blk hk (g' := gb649) (o := .cells #[.int .i64 0, .int .i64 0, .slice none 0 0] 29 (0, 0)) (zqK BK649.out) NB649_0.out (by simp)); replace HK := Aside0.mk (KeepBut.trans zq32 hk (.inl rfl)); replace HB := Aside0.mk (hb); replace HI0 := Aside0.mk (hi); (try clear hb); (try clear hb2); (try clear hk); (try clear hi)) | ((with_reducible refine gate_callee (f := 37) rfl ?_); refine goesL_ (some 11) rfl rfl Try.func37 (by kernel_rfl) rfl #[.pointer (some ⟨g, 0, none⟩), .int .i64 5] rfl zq1 ?_; (with_reducible refine (spec_l1Cur_pick.calls g s0_0 t651 t652 5 t653 t654 t655 w0 _ ?side1 ?side2 A3.out).mono ?_); (case side1 => repeat (first | (with_reducible first | exact HI0.out | apply IsS63.alloc | apply IsS63.drewN | apply IsS63.drew | apply IsS63.set_1 | apply IsS63.set_2 | refine IsS63.far ?_ NB0_649.out _) | exact HI0.out)); (case side2 => repeat (first | (with_reducible first | exact HB.out | apply below_alloc | apply pw_below_drewN | apply below_drew1 | refine below_set ?_ (IsS63.ge HI0.out) | refine below_set ?_ GE649.out) | exact HB.out)); rintro e w7 ⟨rfl, hi, hb, hk⟩; refine ⟨_, rfl, ?_⟩; replace BK649 := Aside0.mk (KeepBut.blk hk (g' := gb649) (o := .cells #[.int .i64 0, .int .i64 0, .slice none 0 0] 29 (0, 0)) (zqK BK649.out) NB649_0.out (by simp)); replace HK := Aside0.mk (KeepBut.trans zq32 hk (.inl rfl)); replace HB := Aside0.mk (hb); replace HI0 := Aside0.mk (hi); (try clear hb); (try clear hb2); (try clear hk); (try clear hi)) | ((with_reducible refine gate_dst (N := 3) rfl ?_); refine box_event ?hg (N := 3) ?hd (cs := #[.int .i64 0, .int .i64 0, .slice none 0 0]) (t := 29) ?hr ?_; (case hd => rfl); (case hg => rfl); (case hr => exact zqS); intro gb656 hg w8 hbox hb; replace HB := Aside0.mk (below_step (by repeat (first | (with_reducible first | exact HB.out | apply below_alloc | apply pw_below_drewN | apply below_drew1 | refine below_set ?_ (IsS63.ge HI0.out) | refine below_set ?_ GE649.out) | exact HB.out)) hb); have BK656 := Aside0.mk (hbox); have GW656 := Aside0.mk ((by rw [hg]; exact (keep_size (w := w) (g := g) (row := none) zq32) : w.heap.size ≤ gb656)); have GE656 := Aside0.mk ((Nat.le_trans HW0.out (by rw [hg]; exact (keep_size (w := w) (g := g) (row := none) zq32) : w.heap.size ≤ gb656) : w0.heap.size ≤ gb656)); replace HK := Aside0.mk (KeepBut.trans zq32 (KeepBut.of_below hb g none) (.inl rfl)); have NB649_656 := Aside0.mk ((by rw [hg]; exact Nat.ne_of_lt (blk_lt (g := gb649) (o := .cells #[.int .i64 0, .int .i64 0, .slice none 0 0] 29 (0, 0)) (zqK BK649.out)) : gb649 ≠ gb656)); have NB656_649 := Aside0.mk ((by rw [hg]; exact Nat.ne_of_gt (blk_lt (g := gb649) (o := .cells #[.int .i64 0, .int .i64 0, .slice none 0 0] 29 (0, 0)) (zqK BK649.out)) : gb656 ≠ gb649)); replace BK649 := Aside0.mk (blk_below (g := gb649) (o := .cells #[.int .i64 0, .int .i64 0, .slice none 0 0] 29 (0, 0)) (zqK BK649.out) hb); have NB0_656 := Aside0.mk ((by rw [hg]; exact Nat.ne_of_lt (IsS63.lt (show IsS63 w0 _ g s0_0 t654 t655 from by repeat (first | (with_reducible first | exact HI0.out | apply IsS63.alloc | apply IsS63.drewN | apply IsS63.drew | apply IsS63.set_1 | apply IsS63.set_2 | refine IsS63.far ?_ NB0_649.out _) | exact HI0.out))) : g ≠ gb656)); have NB656_0 := Aside0.mk ((by rw [hg]; exact Nat.ne_of_gt (IsS63.lt (show IsS63 w0 _ g s0_0 t654 t655 from by repeat (first | (with_reducible first | exact HI0.out | apply IsS63.alloc | apply IsS63.drewN | apply IsS63.drew | apply IsS63.set_1 | apply IsS63.set_2 | refine IsS63.far ?_ NB0_649.out _) | exact HI0.out))) : gb656 ≠ g)); replace HI0 := Aside0.mk (IsS63.below (by repeat (first | (with_reducible first | exact HI0.out | apply IsS63.alloc | apply IsS63.drewN | apply IsS63.drew | apply IsS63.set_1 | apply IsS63.set_2 | refine IsS63.far ?_ NB0_649.out _) | exact HI0.out)) hb); clear hb hbox hg; have hnb9 := NB656_649.out; have hnc9 := NB649_656.out; have hnb10 := NB656_0.out; have hnc10 := NB0_656.out; have hcz11_0 := bz BK656.out 0 (.int .i64 0); have hcz11_1 := bz BK656.out 1 (.int .i64 0); have hcz11_2 := bz BK656.out 2 (.slice none 0 0); have hfz11_0 := blk_frozen BK656.out 0; have hfz11_1 := blk_frozen BK656.out 1; have hfz11_2 := blk_frozen BK656.out 2) | ((with_reducible refine gate_dst (N := 15) rfl ?_); refine Kd.R_lit (Kd.int .i64) _ 3 ?hg (N := 15) ?hd (xs := ([0, 10, 100, (-50)] : List Int)) (inner := [.int .i64 0, .int .i64 10, .int .i64 100, .int .i64 (-50)]) (ok := fun _ => True) (okp := fun _ => True) ?hr ?hp (fun _ hk => hk) trivial (Below.refl _ _) (Nat.le_refl _) (by simp) ?_; (case hd => rfl); (case hg => rfl); (case hr => exact zqS); (case hp => exact (Reps.one (show Kd.M (Kd.int .i64) _ _ _ 0 [.int .i64 0] from rfl) (Reps.one (show Kd.M (Kd.int .i64) _ _ _ 10 [.int .i64 10] from rfl) (Reps.one (show Kd.M (Kd.int .i64) _ _ _ 100 [.int .i64 100] from rfl) (Reps.one (show Kd.M (Kd.int .i64) _ _ _ (-50) [.int .i64 (-50)] from rfl) (Reps.none _ _)))))); intro v658 w12 ho13 hb hg_ hnew_; clear hg_ hnew_; (first | rw [← Ny657.out] at ho13 | (simp only [Int.reduceToNat] at ho13; rw [← Ny657.out] at ho13)); have HO659 := Aside0.mk (Kd.R_lower ho13 (keep_size (w := w) (g := g) (row := none) zq6)); replace BK649 := Aside0.mk (blk_below (g := gb649) (o := .cells #[.int .i64 0, .int .i64 0, .slice none 0 0] 29 (0, 0)) (by (with_reducible repeat (first | refine blk_drewN ?_ _ | refine blk_drew ?_ | refine blk_alloc ?_ _)); refine blk_far ?_ NB649_656.out _; (with_reducible repeat (first | refine blk_drewN ?_ _ | refine blk_drew ?_ | refine blk_alloc ?_ _)); refine blk_far ?_ NB649_656.out _; (with_reducible repeat (first | refine blk_drewN ?_ _ | refine blk_drew ?_ | refine blk_alloc ?_ _)); refine blk_far ?_ NB649_656.out _; (with_reducible repeat (first | refine blk_drewN ?_ _ | refine blk_drew ?_ | refine blk_alloc ?_ _)); exact BK649.out) hb); replace BK656 := Aside0.mk (blk_below (g := gb656) (o := .cells #[.int .i64 (wrap64 (1 + t650)), .int .i64 (wrap64 (1 + t653)), .slice none 0 0] 29 (0, 0)) (by (with_reducible repeat (first | refine blk_drewN ?_ _ | refine blk_drew ?_ | refine blk_alloc ?_ _)); refine blk_put (cs := #[.int .i64 (wrap64 (1 + t650)), .int .i64 (wrap64 (1 + t653)), .slice none 0 0]) ?_ 2 _ rfl; (with_reducible repeat (first | refine blk_drewN ?_ _ | refine blk_drew ?_ | refine blk_alloc ?_ _)); refine blk_put (cs := #[.int .i64 (wrap64 (1 + t650)), .int .i64 0, .slice none 0 0]) ?_ 1 _ rfl; (with_reducible repeat (first | refine blk_drewN ?_ _ | refine blk_drew ?_ | refine blk_alloc ?_ _)); refine blk_put (cs := #[.int .i64 0, .int .i64 0, .slice none 0 0]) ?_ 0 _ rfl; (with_reducible repeat (first | refine blk_drewN ?_ _ | refine blk_drew ?_ | refine blk_alloc ?_ _)); exact BK656.out) hb); replace HK := Aside0.mk (KeepBut.trans zq6 (KeepBut.of_below hb g none) (.inl rfl)); replace HB := Aside0.mk (below_step zq12 hb); replace HI0 := Aside0.mk (IsS63.below (show IsS63 w0 (((w8.setCell ⟨gb656, 0, none⟩ (.int .i64 (wrap64 (1 + t650)))).setCell ⟨gb656, 1, none⟩ (.int .i64 (wrap64 (1 + t653)))).setCell ⟨gb656, 2, none⟩ (.slice none 0 0)) g s0_0 t654 t655 from by repeat (first | (with_reducible first | exact HI0.out | apply IsS63.alloc | apply IsS63.drewN | apply IsS63.drew | apply IsS63.set_1 | apply IsS63.set_2 | refine IsS63.far ?_ NB0_649.out _ | refine IsS63.far ?_ NB0_656.out _) | exact HI0.out)) hb); clear hb ho13; obtain ⟨Ao14, co14, eo14⟩ := Kd.R_slice HO659.out; subst eo14) | ((with_reducible refine gate_callee (f := 66) rfl ?_); refine goesL_ (some 16) rfl rfl Try.func66 (by kernel_rfl) rfl #[.pointer (some ⟨g, 0, none⟩), .slice Ao14 y657.length co14] rfl zq1 ?_; (with_reducible refine (spec_l1Cur_among.calls g s0_0 t654 t655 _ _ y657 t660 t661 t662 w0 _ ?side1 ?side2 ?side3 ?side4 ?side5 A4.out).mono ?_); (case side1 => repeat (first | (with_reducible first | exact HI0.out | apply IsS63.alloc | apply IsS63.drewN | apply IsS63.drew | apply IsS63.set_1 | apply IsS63.set_2 | refine IsS63.far ?_ NB0_649.out _ | refine IsS63.far ?_ NB0_656.out _) | exact HI0.out)); (case side2 => repeat (first | (with_reducible first | exact HB.out | apply below_alloc | apply pw_below_drewN | apply below_drew1 | refine below_set ?_ (IsS63.ge HI0.out) | refine below_set ?_ GE649.out | refine below_set ?_ GE656.out) | exact HB.out)); (case side3 => exact zqC (Kd.R_reads' HO659.out).2.2); (case side4 => exact (Kd.R_reads' HO659.out).2.1); (case side5 => exact far_slice (IsS63.own_ne HI0.out HO659.out (by decide))); rintro e w15 ⟨rfl, hi, hb, hk⟩; refine ⟨_, rfl, ?_⟩; replace BK649 := Aside0.mk (KeepBut.blk hk (g' := gb649) (o := .cells #[.int .i64 0, .int .i64 0, .slice none 0 0] 29 (0, 0)) (zqK BK649.out) NB649_0.out (by simp)); replace BK656 := Aside0.mk (KeepBut.blk hk (g' := gb656) (o := .cells #[.int .i64 (wrap64 (1 + t650)), .int .i64 (wrap64 (1 + t653)), .slice none 0 0] 29 (0, 0)) (zqK BK656.out) NB656_0.out (by simp)); replace HO659 := Aside0.mk (Kd.R_mono (Kd.R_keep (IsS63.apart (show IsS63 w0 _ g s0_0 t654 t655 from by repeat (first | (with_reducible first | exact HI0.out | apply IsS63.alloc | apply IsS63.drewN | apply IsS63.drew | apply IsS63.set_1 | apply IsS63.set_2 | refine IsS63.far ?_ NB0_649.out _ | refine IsS63.far ?_ NB0_656.out _) | exact HI0.out)) (zqR HO659.out) (by decide)) hk (fun _ h => h.2)) (fun _ h => h.1)); replace HK := Aside0.mk (KeepBut.trans zq6 hk (.inl rfl)); replace HB := Aside0.mk (hb); replace HI0 := Aside0.mk (hi); (try clear hb); (try clear hb2); (try clear hk); (try clear hi)))
 go_loopg [5] k (fun kq v5 w' => ∃ (x5_1 : Int) (x1001_1 : Int) (x1002_1 : Int) (x657002_1 : List Int) (u657002 : Value), v5 = .int .i64 x5_1 ∧ Aside0 (spec_l1Cur_field.l0 kq t660 x5_1 s0_0 x1001_1 x1002_1 (wrap64 (1 + t650)) (wrap64 (1 + t653)) x657002_1 = some (r1, r2, r3, r4, r5)) ∧ Aside0 (kq ≤ k) ∧ Aside0 (Kd.R (Kd.int .i64) 3 w' w.heap.size (fun _ => True) u657002 x657002_1) ∧ Aside0 (w'.heap[gb649]? = some (.cells #[.int .i64 0, .int .i64 0, (.slice none 0 0)] 29 (0, 0))) ∧ Aside0 (w'.heap[gb656]? = some (.cells #[.int .i64 (wrap64 (1 + t650)), .int .i64 (wrap64 (1 + t653)), u657002] 29 (0, 0))) ∧ Aside0 (IsS63 w0 w' g s0_0 x1001_1 x1002_1) ∧ Aside0 (KeepBut w w' g none) ∧ Aside0 (Below w0.heap.size w0 w'))
 case atStart => exact ⟨(0), (t661), (t662), (([] : List Int)), (.slice none 0 0), (by first | rfl | (simp; done) | (simp [*]; done)), H', ⟨Nat.le_refl _⟩, ⟨by first | exact Kd.R_nil _ _ _ _ _ | exact Kd.N_nil _ _ _ _ _ | exact Kd.V_nil _ _ _ _ _ | exact Kd.Q_nil _ _ _ _ _ | exact Kd.S_nil _ _ _ _ _⟩, ⟨by (with_reducible repeat (first | refine blk_drewN ?_ _ | refine blk_drew ?_ | refine blk_alloc ?_ _)); exact BK649.out⟩, ⟨by (with_reducible repeat (first | refine blk_drewN ?_ _ | refine blk_drew ?_ | refine blk_alloc ?_ _)); exact BK656.out⟩, ⟨zq13⟩, ⟨zq6⟩, ⟨zq12⟩⟩
 clear H'
 try clear c1
 try clear p2
 try clear c3
 try clear c6
 try clear p6
 try clear c8
 try clear c9
 try clear c10
 try clear hcz11_0
 try clear hcz11_1
 try clear hcz11_2
 try clear hfz11_0
 try clear hfz11_1
 try clear hfz11_2
 obtain ⟨x5_1, x1001_1, x1002_1, x657002_1, u657002, rfl, HA, HK1, HO_657002, BK649, BK656, HI0, HK, HB⟩ := hrel
 cases gk with
 | zero => exact absurd HA.out (by simp [spec_l1Cur_field.l0])
 | succ k1 =>
  have H := HA.out
  clear HA
  simp only [spec_l1Cur_field.l0] at H
  by_cases c16 : x5_1 < (wrap64 ((wrap64 (1 + t650)) * (wrap64 (1 + t653))))
  case pos =>
   rw [if_pos c16] at H
   have c16b0 : decide (x5_1 < (wrap64 ((wrap64 (1 + t650)) * (wrap64 (1 + t653))))) = true := decide_eq_true c16
   clear c16
   replace H := Option.bind_eq_some_iff.mp H
   obtain ⟨⟨t663, t664, t665⟩, A170, H⟩ := H
   replace H : ((spec_l1Cur_one.f s0_0 t664 t665 12).bind fun bt666 => (if bt666.1 = true then (if x657002_1.length < 17592186044416 then (spec_l1Cur_field.l0 k1 t660 (wrap64 (x5_1 + 1)) s0_0 bt666.2.1 bt666.2.2 (wrap64 (1 + t650)) (wrap64 (1 + t653)) (x657002_1 ++ [(-9999)])) else (none)) else (if x657002_1.length < 17592186044416 then (spec_l1Cur_field.l0 k1 t660 (wrap64 (x5_1 + 1)) s0_0 bt666.2.1 bt666.2.2 (wrap64 (1 + t650)) (wrap64 (1 + t653)) (x657002_1 ++ [wrap64 (t660 + t663)])) else (none)))) = some (r1, r2, r3, r4, r5) := H
   have A17 := Aside0.mk A170
   clear A170
   replace H := Option.bind_eq_some_iff.mp H
   obtain ⟨⟨t666, t667, t668⟩, A180, H⟩ := H
   replace H : (if t666 = true then (if x657002_1.length < 17592186044416 then (spec_l1Cur_field.l0 k1 t660 (wrap64 (x5_1 + 1)) s0_0 t667 t668 (wrap64 (1 + t650)) (wrap64 (1 + t653)) (x657002_1 ++ [(-9999)])) else (none)) else (if x657002_1.length < 17592186044416 then (spec_l1Cur_field.l0 k1 t660 (wrap64 (x5_1 + 1)) s0_0 t667 t668 (wrap64 (1 + t650)) (wrap64 (1 + t653)) (x657002_1 ++ [wrap64 (t660 + t663)])) else (none))) = some (r1, r2, r3, r4, r5) := H
   have A18 := Aside0.mk A180
   clear A180
   by_cases c19 : t666 = true
   case pos =>
    subst c19
    have H1 : (if x657002_1.length < 17592186044416 then (spec_l1Cur_field.l0 k1 t660 (wrap64 (x5_1 + 1)) s0_0 t667 t668 (wrap64 (1 + t650)) (wrap64 (1 + t653)) (x657002_1 ++ [(-9999)])) else (none)) = some (r1, r2, r3, r4, r5) := by rw [if_pos rfl] at H; exact H
    clear H
    have H := H1
    clear H1
    by_cases c20 : x657002_1.length < 17592186044416
    case neg =>
     rw [if_neg c20] at H
     exact absurd H (by simp)
    rw [if_pos c20] at H
    have LMc20 := Aside0.mk c20
    clear c20
    obtain ⟨y669, hy669⟩ : ∃ y_ : List Int, y_ = (x657002_1 ++ [(-9999)]) := ⟨_, rfl⟩
    replace H : (spec_l1Cur_field.l0 k1 t660 (wrap64 (x5_1 + 1)) s0_0 t667 t668 (wrap64 (1 + t650)) (wrap64 (1 + t653)) y669) = some (r1, r2, r3, r4, r5) := zqH hy669 H
    have Ny669 := Aside0.mk hy669
    clear hy669
    have H' := Aside0.mk H
    clear H
    have hnb21 := NB656_649.out
    have hnc21 := NB649_656.out
    have hnb22 := NB656_0.out
    have hnc22 := NB0_656.out
    have hcz23_0 := bz BK656.out 0 (.int .i64 (wrap64 (1 + t650)))
    have hcz23_1 := bz BK656.out 1 (.int .i64 (wrap64 (1 + t653)))
    have hcz23_2 := bz BK656.out 2 (u657002)
    have hfz23_0 := blk_frozen BK656.out 0
    have hfz23_1 := blk_frozen BK656.out 1
    have hfz23_2 := blk_frozen BK656.out 2
    go_wp2_with (first | ((with_reducible refine gate_callee (f := 37) rfl ?_); refine goesL_ (some 28) rfl rfl Try.func37 (by kernel_rfl) rfl #[.pointer (some ⟨g, 0, none⟩), .int .i64 40] rfl zq1 ?_; (with_reducible refine (spec_l1Cur_pick.calls g s0_0 x1001_1 x1002_1 40 t663 t664 t665 w0 _ ?side1 ?side2 A17.out).mono ?_); (case side1 => repeat (first | (with_reducible first | exact HI0.out | apply IsS63.alloc | apply IsS63.drewN | apply IsS63.drew | apply IsS63.set_1 | apply IsS63.set_2 | refine IsS63.far ?_ NB0_649.out _ | refine IsS63.far ?_ NB0_656.out _) | exact HI0.out)); (case side2 => repeat (first | (with_reducible first | exact HB.out | apply below_alloc | apply pw_below_drewN | apply below_drew1 | refine below_set ?_ (IsS63.ge HI0.out) | refine below_set ?_ GE649.out | refine below_set ?_ GE656.out) | exact HB.out)); rintro e w24 ⟨rfl, hi, hb, hk⟩; refine ⟨_, rfl, ?_⟩; replace HO_657002 := Aside0.mk (Kd.R_mono (Kd.R_keep (IsS63.apart (show IsS63 w0 _ g s0_0 x1001_1 x1002_1 from by repeat (first | (with_reducible first | exact HI0.out | apply IsS63.alloc | apply IsS63.drewN | apply IsS63.drew | apply IsS63.set_1 | apply IsS63.set_2 | refine IsS63.far ?_ NB0_649.out _ | refine IsS63.far ?_ NB0_656.out _) | exact HI0.out)) (zqR HO_657002.out) (by decide)) hk (fun _ h => h.2)) (fun _ h => h.1)); replace BK649 := Aside0.mk (KeepBut.blk hk (g' := gb649) (o := .cells #[.int .i64 0, .int .i64 0, .slice none 0 0] 29 (0, 0)) (zqK BK649.out) NB649_0.out (by simp)); replace BK656 := Aside0.mk (KeepBut.blk hk (g' := gb656) (o := .cells #[.int .i64 (wrap64 (1 + t650)), .int .i64 (wrap64 (1 + t653)), u657002] 29 (0, 0)) (zqK BK656.out) NB656_0.out (by simp)); replace HK := Aside0.mk (KeepBut.trans zq6 hk (.inl rfl)); replace HB := Aside0.mk (hb); replace HI0 := Aside0.mk (hi); (try clear hb); (try clear hb2); (try clear hk); (try clear hi)) | ((with_reducible refine gate_callee (f := 65) rfl ?_); refine goesL_ (some 31) rfl rfl Try.func65 (by kernel_rfl) rfl #[.pointer (some ⟨g, 0, none⟩), .int .i64 12] rfl zq1 ?_; (with_reducible refine (spec_l1Cur_one.calls g s0_0 t664 t665 12 true t667 t668 w0 _ ?side1 ?side2 A18.out).mono ?_); (case side1 => repeat (first | (with_reducible first | exact HI0.out | apply IsS63.alloc | apply IsS63.drewN | apply IsS63.drew | apply IsS63.set_1 | apply IsS63.set_2 | refine IsS63.far ?_ NB0_649.out _ | refine IsS63.far ?_ NB0_656.out _) | exact HI0.out)); (case side2 => repeat (first | (with_reducible first | exact HB.out | apply below_alloc | apply pw_below_drewN | apply below_drew1 | refine below_set ?_ (IsS63.ge HI0.out) | refine below_set ?_ GE649.out | refine below_set ?_ GE656.out) | exact HB.out)); rintro e w25 ⟨rfl, hi, hb, hk⟩; refine ⟨_, rfl, ?_⟩; replace HO_657002 := Aside0.mk (Kd.R_mono (Kd.R_keep (IsS63.apart (show IsS63 w0 _ g s0_0 t664 t665 from by repeat (first | (with_reducible first | exact HI0.out | apply IsS63.alloc | apply IsS63.drewN | apply IsS63.drew | apply IsS63.set_1 | apply IsS63.set_2 | refine IsS63.far ?_ NB0_649.out _ | refine IsS63.far ?_ NB0_656.out _) | exact HI0.out)) (zqR HO_657002.out) (by decide)) hk (fun _ h => h.2)) (fun _ h => h.1)); replace BK649 := Aside0.mk (KeepBut.blk hk (g' := gb649) (o := .cells #[.int .i64 0, .int .i64 0, .slice none 0 0] 29 (0, 0)) (zqK BK649.out) NB649_0.out (by simp)); replace BK656 := Aside0.mk (KeepBut.blk hk (g' := gb656) (o := .cells #[.int .i64 (wrap64 (1 + t650)), .int .i64 (wrap64 (1 + t653)), u657002] 29 (0, 0)) (zqK BK656.out) NB656_0.out (by simp)); replace HK := Aside0.mk (KeepBut.trans zq6 hk (.inl rfl)); replace HB := Aside0.mk (hb); replace HI0 := Aside0.mk (hi); (try clear hb); (try clear hb2); (try clear hk); (try clear hi); have hcz26_0 := bz BK656.out 0 (.int .i64 (wrap64 (1 + t650))); have hcz26_1 := bz BK656.out 1 (.int .i64 (wrap64 (1 + t653))); have hcz26_2 := bz BK656.out 2 (u657002); have hfz26_0 := blk_frozen BK656.out 0; have hfz26_1 := blk_frozen BK656.out 1; have hfz26_2 := blk_frozen BK656.out 2) | ((with_reducible refine gate_builtin (b := .append) (xs := #[.tmp 33, .tmp 35]) rfl ?_); at_builtin; refine Kd.R_append (Kd.int .i64) w.heap.size rfl (.tmp 33) (.tmp 35) 22 3 (.int .i64 0) 8 rfl Try.underlying22 info3 rfl (by decide) (by omega) u657002 x657002_1 (-9999) [.int .i64 (-9999)] (fun _ => True) (fun _ => False) rfl rfl ?aP (fun _ hk => hk.elim) ?aF ?aO (Below.refl _ _) ?aS ?aL ?_; (case aP => exact rfl); (case aF => exact (fun _ _ => trivial)); (case aO => exact (zqR HO_657002.out)); (case aS => exact (keep_size (w := w) (g := g) (row := none) zq6)); (case aL => have := LMc20.out; omega); intro v670 w27 ho hb hg hat; rw [← Ny669.out] at ho; replace BK649 := Aside0.mk (blk_grown (g := gb649) (o := .cells #[.int .i64 0, .int .i64 0, .slice none 0 0] 29 (0, 0)) (zqK BK649.out) hg (Kd.R_ne HO_657002.out BK649.out (by decide))); replace BK656 := Aside0.mk (blk_grown (g := gb656) (o := .cells #[.int .i64 (wrap64 (1 + t650)), .int .i64 (wrap64 (1 + t653)), u657002] 29 (0, 0)) (zqK BK656.out) hg (Kd.R_ne HO_657002.out BK656.out (by decide))); replace HB := Aside0.mk (below_weaken zq12 HL.out hb); replace HI0 := Aside0.mk (IsS63.grown zq13 hg (IsS63.own_ne HI0.out HO_657002.out (by decide))); replace HK := Aside0.mk (KeepBut.trans zq6 (KeepBut.of_grown hg g) (Kd.R_base2 HO_657002.out)); have HO671 := Aside0.mk (ho); clear HO_657002; clear ho hb hg hat; obtain ⟨Ao28, co28, eo28⟩ := Kd.R_slice HO671.out; subst eo28; have hcz29_0 := bz BK656.out 0 (.int .i64 (wrap64 (1 + t650))); have hcz29_1 := bz BK656.out 1 (.int .i64 (wrap64 (1 + t653))); have hcz29_2 := bz BK656.out 2 (u657002); have hfz29_0 := blk_frozen BK656.out 0; have hfz29_1 := blk_frozen BK656.out 1; have hfz29_2 := blk_frozen BK656.out 2))
    go_roundg k1
    case measure => have := HK1.out; omega
    case rel => exact ⟨(wrap64 (x5_1 + 1)), (t667), (t668), (y669), (.slice Ao28 y669.length co28), (by first | rfl | (simp; done) | (simp [*]; done)), H', ⟨by have := HK1.out; omega⟩, ⟨by (with_reducible repeat (first | apply Kd.R_alloc | apply Kd.R_drewN | apply Kd.R_drew)); exact Kd.R_mono (Kd.R_far (p := ⟨gb656, 2, none⟩) (Kd.R_types HO671.out BK656.out (by decide)) (fun _ hk => hk.2) (.slice Ao28 y669.length co28)) (fun _ hk => trivial)⟩, ⟨by (with_reducible repeat (first | refine blk_drewN ?_ _ | refine blk_drew ?_ | refine blk_alloc ?_ _)); refine blk_far ?_ NB649_656.out _; (with_reducible repeat (first | refine blk_drewN ?_ _ | refine blk_drew ?_ | refine blk_alloc ?_ _)); exact BK649.out⟩, ⟨by (with_reducible repeat (first | refine blk_drewN ?_ _ | refine blk_drew ?_ | refine blk_alloc ?_ _)); refine blk_put (cs := #[.int .i64 (wrap64 (1 + t650)), .int .i64 (wrap64 (1 + t653)), u657002]) ?_ 2 _ rfl; (with_reducible repeat (first | refine blk_drewN ?_ _ | refine blk_drew ?_ | refine blk_alloc ?_ _)); exact BK656.out⟩, ⟨zq13⟩, ⟨zq6⟩, ⟨zq12⟩⟩
   replace c19 := Bool.eq_false_iff.mpr c19
   subst c19
   have H1 : (if x657002_1.length < 17592186044416 then (spec_l1Cur_field.l0 k1 t660 (wrap64 (x5_1 + 1)) s0_0 t667 t668 (wrap64 (1 + t650)) (wrap64 (1 + t653)) (x657002_1 ++ [wrap64 (t660 + t663)])) else (none)) = some (r1, r2, r3, r4, r5) := by rw [if_neg (show ¬ (false = true) by decide)] at H; exact H
   clear H
   have H := H1
   clear H1
   by_cases c30 : x657002_1.length < 17592186044416
   case neg =>
    rw [if_neg c30] at H
    exact absurd H (by simp)
   rw [if_pos c30] at H
   have LMc30 := Aside0.mk c30
   clear c30
   obtain ⟨y672, hy672⟩ : ∃ y_ : List Int, y_ = (x657002_1 ++ [wrap64 (t660 + t663)]) := ⟨_, rfl⟩
   replace H : (spec_l1Cur_field.l0 k1 t660 (wrap64 (x5_1 + 1)) s0_0 t667 t668 (wrap64 (1 + t650)) (wrap64 (1 + t653)) y672) = some (r1, r2, r3, r4, r5) := zqH hy672 H
   have Ny672 := Aside0.mk hy672
   clear hy672
   have H' := Aside0.mk H
   clear H
   have hnb31 := NB656_649.out
   have hnc31 := NB649_656.out
   have hnb32 := NB656_0.out
   have hnc32 := NB0_656.out
   have hcz33_0 := bz BK656.out 0 (.int .i64 (wrap64 (1 + t650)))
   have hcz33_1 := bz BK656.out 1 (.int .i64 (wrap64 (1 + t653)))
   have hcz33_2 := bz BK656.out 2 (u657002)
   have hfz33_0 := blk_frozen BK656.out 0
   have hfz33_1 := blk_frozen BK656.out 1
   have hfz33_2 := blk_frozen BK656.out 2
   go_wp2_with (first | ((with_reducible refine gate_callee (f := 37) rfl ?_); refine goesL_ (some 28) rfl rfl Try.func37 (by kernel_rfl) rfl #[.pointer (some ⟨g, 0, none⟩), .int .i64 40] rfl zq1 ?_; (with_reducible refine (spec_l1Cur_pick.calls g s0_0 x1001_1 x1002_1 40 t663 t664 t665 w0 _ ?side1 ?side2 A17.out).mono ?_); (case side1 => repeat (first | (with_reducible first | exact HI0.out | apply IsS63.alloc | apply IsS63.drewN | apply IsS63.drew | apply IsS63.set_1 | apply IsS63.set_2 | refine IsS63.far ?_ NB0_649.out _ | refine IsS63.far ?_ NB0_656.out _) | exact HI0.out)); (case side2 => repeat (first | (with_reducible first | exact HB.out | apply below_alloc | apply pw_below_drewN | apply below_drew1 | refine below_set ?_ (IsS63.ge HI0.out) | refine below_set ?_ GE649.out | refine below_set ?_ GE656.out) | exact HB.out)); rintro e w34 ⟨rfl, hi, hb, hk⟩; refine ⟨_, rfl, ?_⟩; replace HO_657002 := Aside0.mk (Kd.R_mono (Kd.R_keep (IsS63.apart (show IsS63 w0 _ g s0_0 x1001_1 x1002_1 from by repeat (first | (with_reducible first | exact HI0.out | apply IsS63.alloc | apply IsS63.drewN | apply IsS63.drew | apply IsS63.set_1 | apply IsS63.set_2 | refine IsS63.far ?_ NB0_649.out _ | refine IsS63.far ?_ NB0_656.out _) | exact HI0.out)) (zqR HO_657002.out) (by decide)) hk (fun _ h => h.2)) (fun _ h => h.1)); replace BK649 := Aside0.mk (KeepBut.blk hk (g' := gb649) (o := .cells #[.int .i64 0, .int .i64 0, .slice none 0 0] 29 (0, 0)) (zqK BK649.out) NB649_0.out (by simp)); replace BK656 := Aside0.mk (KeepBut.blk hk (g' := gb656) (o := .cells #[.int .i64 (wrap64 (1 + t650)), .int .i64 (wrap64 (1 + t653)), u657002] 29 (0, 0)) (zqK BK656.out) NB656_0.out (by simp)); replace HK := Aside0.mk (KeepBut.trans zq6 hk (.inl rfl)); replace HB := Aside0.mk (hb); replace HI0 := Aside0.mk (hi); (try clear hb); (try clear hb2); (try clear hk); (try clear hi)) | ((with_reducible refine gate_callee (f := 65) rfl ?_); refine goesL_ (some 31) rfl rfl Try.func65 (by kernel_rfl) rfl #[.pointer (some ⟨g, 0, none⟩), .int .i64 12] rfl zq1 ?_; (with_reducible refine (spec_l1Cur_one.calls g s0_0 t664 t665 12 false t667 t668 w0 _ ?side1 ?side2 A18.out).mono ?_); (case side1 => repeat (first | (with_reducible first | exact HI0.out | apply IsS63.alloc | apply IsS63.drewN | apply IsS63.drew | apply IsS63.set_1 | apply IsS63.set_2 | refine IsS63.far ?_ NB0_649.out _ | refine IsS63.far ?_ NB0_656.out _) | exact HI0.out)); (case side2 => repeat (first | (with_reducible first | exact HB.out | apply below_alloc | apply pw_below_drewN | apply below_drew1 | refine below_set ?_ (IsS63.ge HI0.out) | refine below_set ?_ GE649.out | refine below_set ?_ GE656.out) | exact HB.out)); rintro e w35 ⟨rfl, hi, hb, hk⟩; refine ⟨_, rfl, ?_⟩; replace HO_657002 := Aside0.mk (Kd.R_mono (Kd.R_keep (IsS63.apart (show IsS63 w0 _ g s0_0 t664 t665 from by repeat (first | (with_reducible first | exact HI0.out | apply IsS63.alloc | apply IsS63.drewN | apply IsS63.drew | apply IsS63.set_1 | apply IsS63.set_2 | refine IsS63.far ?_ NB0_649.out _ | refine IsS63.far ?_ NB0_656.out _) | exact HI0.out)) (zqR HO_657002.out) (by decide)) hk (fun _ h => h.2)) (fun _ h => h.1)); replace BK649 := Aside0.mk (KeepBut.blk hk (g' := gb649) (o := .cells #[.int .i64 0, .int .i64 0, .slice none 0 0] 29 (0, 0)) (zqK BK649.out) NB649_0.out (by simp)); replace BK656 := Aside0.mk (KeepBut.blk hk (g' := gb656) (o := .cells #[.int .i64 (wrap64 (1 + t650)), .int .i64 (wrap64 (1 + t653)), u657002] 29 (0, 0)) (zqK BK656.out) NB656_0.out (by simp)); replace HK := Aside0.mk (KeepBut.trans zq6 hk (.inl rfl)); replace HB := Aside0.mk (hb); replace HI0 := Aside0.mk (hi); (try clear hb); (try clear hb2); (try clear hk); (try clear hi); have hcz36_0 := bz BK656.out 0 (.int .i64 (wrap64 (1 + t650))); have hcz36_1 := bz BK656.out 1 (.int .i64 (wrap64 (1 + t653))); have hcz36_2 := bz BK656.out 2 (u657002); have hfz36_0 := blk_frozen BK656.out 0; have hfz36_1 := blk_frozen BK656.out 1; have hfz36_2 := blk_frozen BK656.out 2) | ((with_reducible refine gate_builtin (b := .append) (xs := #[.tmp 33, .tmp 35]) rfl ?_); at_builtin; refine Kd.R_append (Kd.int .i64) w.heap.size rfl (.tmp 33) (.tmp 35) 22 3 (.int .i64 0) 8 rfl Try.underlying22 info3 rfl (by decide) (by omega) u657002 x657002_1 (wrap64 (t660 + t663)) [.int .i64 (wrap64 (t660 + t663))] (fun _ => True) (fun _ => False) rfl rfl ?aP (fun _ hk => hk.elim) ?aF ?aO (Below.refl _ _) ?aS ?aL ?_; (case aP => exact rfl); (case aF => exact (fun _ _ => trivial)); (case aO => exact (zqR HO_657002.out)); (case aS => exact (keep_size (w := w) (g := g) (row := none) zq6)); (case aL => have := LMc30.out; omega); intro v673 w37 ho hb hg hat; rw [← Ny672.out] at ho; replace BK649 := Aside0.mk (blk_grown (g := gb649) (o := .cells #[.int .i64 0, .int .i64 0, .slice none 0 0] 29 (0, 0)) (zqK BK649.out) hg (Kd.R_ne HO_657002.out BK649.out (by decide))); replace BK656 := Aside0.mk (blk_grown (g := gb656) (o := .cells #[.int .i64 (wrap64 (1 + t650)), .int .i64 (wrap64 (1 + t653)), u657002] 29 (0, 0)) (zqK BK656.out) hg (Kd.R_ne HO_657002.out BK656.out (by decide))); replace HB := Aside0.mk (below_weaken zq12 HL.out hb); replace HI0 := Aside0.mk (IsS63.grown zq13 hg (IsS63.own_ne HI0.out HO_657002.out (by decide))); replace HK := Aside0.mk (KeepBut.trans zq6 (KeepBut.of_grown hg g) (Kd.R_base2 HO_657002.out)); have HO674 := Aside0.mk (ho); clear HO_657002; clear ho hb hg hat; obtain ⟨Ao38, co38, eo38⟩ := Kd.R_slice HO674.out; subst eo38; have hcz39_0 := bz BK656.out 0 (.int .i64 (wrap64 (1 + t650))); have hcz39_1 := bz BK656.out 1 (.int .i64 (wrap64 (1 + t653))); have hcz39_2 := bz BK656.out 2 (u657002); have hfz39_0 := blk_frozen BK656.out 0; have hfz39_1 := blk_frozen BK656.out 1; have hfz39_2 := blk_frozen BK656.out 2))
   go_roundg k1
   case measure => have := HK1.out; omega
   case rel => exact ⟨(wrap64 (x5_1 + 1)), (t667), (t668), (y672), (.slice Ao38 y672.length co38), (by first | rfl | (simp; done) | (simp [*]; done)), H', ⟨by have := HK1.out; omega⟩, ⟨by (with_reducible repeat (first | apply Kd.R_alloc | apply Kd.R_drewN | apply Kd.R_drew)); exact Kd.R_mono (Kd.R_far (p := ⟨gb656, 2, none⟩) (Kd.R_types HO674.out BK656.out (by decide)) (fun _ hk => hk.2) (.slice Ao38 y672.length co38)) (fun _ hk => trivial)⟩, ⟨by (with_reducible repeat (first | refine blk_drewN ?_ _ | refine blk_drew ?_ | refine blk_alloc ?_ _)); refine blk_far ?_ NB649_656.out _; (with_reducible repeat (first | refine blk_drewN ?_ _ | refine blk_drew ?_ | refine blk_alloc ?_ _)); exact BK649.out⟩, ⟨by (with_reducible repeat (first | refine blk_drewN ?_ _ | refine blk_drew ?_ | refine blk_alloc ?_ _)); refine blk_put (cs := #[.int .i64 (wrap64 (1 + t650)), .int .i64 (wrap64 (1 + t653)), u657002]) ?_ 2 _ rfl; (with_reducible repeat (first | refine blk_drewN ?_ _ | refine blk_drew ?_ | refine blk_alloc ?_ _)); exact BK656.out⟩, ⟨zq13⟩, ⟨zq6⟩, ⟨zq12⟩⟩
  rw [if_neg c16] at H
  have c16b0 : decide (x5_1 < (wrap64 ((wrap64 (1 + t650)) * (wrap64 (1 + t653))))) = false := decide_eq_false c16
  clear c16
  replace H := Option.bind_eq_some_iff.mp H
  obtain ⟨⟨t675, t676, t677⟩, A400, H⟩ := H
  replace H : (if t675 = true then ((spec_l1Cur_pick.f s0_0 t676 t677 (x657002_1.length : Int)).bind fun bt678 => ((spec_l1Cur_among.f s0_0 bt678.2.1 bt678.2.2 (([9000, (-9000), 0] : List Int))).bind fun bt684 => (if 0 ≤ bt678.1 then (if bt678.1 < (x657002_1.length : Int) then (spec_l1Cur_field.j1 k1 s0_0 bt684.2.1 bt684.2.2 (wrap64 (1 + t650)) (wrap64 (1 + t653)) (x657002_1.set (bt678.1 : Int).toNat bt684.1)) else (none)) else (none)))) else (spec_l1Cur_field.j1 k1 s0_0 t676 t677 (wrap64 (1 + t650)) (wrap64 (1 + t653)) x657002_1)) = some (r1, r2, r3, r4, r5) := H
  have A40 := Aside0.mk A400
  clear A400
  have HC41 := Aside0.mk H
  clear H
  have hnb42 := NB656_649.out
  have hnc42 := NB649_656.out
  have hnb43 := NB656_0.out
  have hnc43 := NB0_656.out
  have hcz44_0 := bz BK656.out 0 (.int .i64 (wrap64 (1 + t650)))
  have hcz44_1 := bz BK656.out 1 (.int .i64 (wrap64 (1 + t653)))
  have hcz44_2 := bz BK656.out 2 (u657002)
  have hfz44_0 := blk_frozen BK656.out 0
  have hfz44_1 := blk_frozen BK656.out 1
  have hfz44_2 := blk_frozen BK656.out 2
  go_upto_if 39 with (first | ((with_reducible refine gate_callee (f := 65) rfl ?_); refine goesL_ (some 39) rfl rfl Try.func65 (by kernel_rfl) rfl #[.pointer (some ⟨g, 0, none⟩), .int .i64 10] rfl zq1 ?_; (with_reducible refine (spec_l1Cur_one.calls g s0_0 x1001_1 x1002_1 10 t675 t676 t677 w0 _ ?side1 ?side2 A40.out).mono ?_); (case side1 => repeat (first | (with_reducible first | exact HI0.out | apply IsS63.alloc | apply IsS63.drewN | apply IsS63.drew | apply IsS63.set_1 | apply IsS63.set_2 | refine IsS63.far ?_ NB0_649.out _ | refine IsS63.far ?_ NB0_656.out _) | exact HI0.out)); (case side2 => repeat (first | (with_reducible first | exact HB.out | apply below_alloc | apply pw_below_drewN | apply below_drew1 | refine below_set ?_ (IsS63.ge HI0.out) | refine below_set ?_ GE649.out | refine below_set ?_ GE656.out) | exact HB.out)); rintro e w45 ⟨rfl, hi, hb, hk⟩; refine ⟨_, rfl, ?_⟩; replace HO_657002 := Aside0.mk (Kd.R_mono (Kd.R_keep (IsS63.apart (show IsS63 w0 _ g s0_0 x1001_1 x1002_1 from by repeat (first | (with_reducible first | exact HI0.out | apply IsS63.alloc | apply IsS63.drewN | apply IsS63.drew | apply IsS63.set_1 | apply IsS63.set_2 | refine IsS63.far ?_ NB0_649.out _ | refine IsS63.far ?_ NB0_656.out _) | exact HI0.out)) (zqR HO_657002.out) (by decide)) hk (fun _ h => h.2)) (fun _ h => h.1)); replace BK649 := Aside0.mk (KeepBut.blk hk (g' := gb649) (o := .cells #[.int .i64 0, .int .i64 0, .slice none 0 0] 29 (0, 0)) (zqK BK649.out) NB649_0.out (by simp)); replace BK656 := Aside0.mk (KeepBut.blk hk (g' := gb656) (o := .cells #[.int .i64 (wrap64 (1 + t650)), .int .i64 (wrap64 (1 + t653)), u657002] 29 (0, 0)) (zqK BK656.out) NB656_0.out (by simp)); replace HK := Aside0.mk (KeepBut.trans zq6 hk (.inl rfl)); replace HB := Aside0.mk (hb); replace HI0 := Aside0.mk (hi); (try clear hb); (try clear hb2); (try clear hk); (try clear hi)))
  (try simp only [Act.put, List.setIfInBounds_toArray, List.set_cons_zero, List.set_cons_succ])
  go_cut [] (fun wc => ∃ (kq : Nat) (x1001_40 : Int) (x1002_40 : Int) (x657002_40 : List Int) (u657002 : Value), Aside0 (spec_l1Cur_field.j1 kq s0_0 x1001_40 x1002_40 (wrap64 (1 + t650)) (wrap64 (1 + t653)) x657002_40 = some (r1, r2, r3, r4, r5)) ∧ Aside0 (kq ≤ k1) ∧ Aside0 (Kd.R (Kd.int .i64) 3 wc w.heap.size (fun _ => True) u657002 x657002_40) ∧ Aside0 (wc.heap[gb649]? = some (.cells #[.int .i64 0, .int .i64 0, (.slice none 0 0)] 29 (0, 0))) ∧ Aside0 (wc.heap[gb656]? = some (.cells #[.int .i64 (wrap64 (1 + t650)), .int .i64 (wrap64 (1 + t653)), u657002] 29 (0, 0))) ∧ Aside0 (IsS63 w0 wc g s0_0 x1001_40 x1002_40) ∧ Aside0 (KeepBut w wc g none) ∧ Aside0 (Below w0.heap.size w0 wc))
  case first =>
   have H := HC41.out
   clear HC41
   by_cases c46 : t675 = true
   case neg =>
    replace c46 := Bool.eq_false_iff.mpr c46
    subst c46
    have H1 : (spec_l1Cur_field.j1 k1 s0_0 t676 t677 (wrap64 (1 + t650)) (wrap64 (1 + t653)) x657002_1) = some (r1, r2, r3, r4, r5) := by rw [if_neg (show ¬ (false = true) by decide)] at H; exact H
    clear H
    have H := H1
    clear H1
    have H' := Aside0.mk H
    clear H
    go_wp2
    go_meet
    case rel => exact ⟨_, (t676), (t677), (x657002_1), (u657002), H', ⟨by have := HK1.out; first | omega | exact Nat.le_refl _⟩, ⟨zqR HO_657002.out⟩, ⟨by (with_reducible repeat (first | refine blk_drewN ?_ _ | refine blk_drew ?_ | refine blk_alloc ?_ _)); exact BK649.out⟩, ⟨by (with_reducible repeat (first | refine blk_drewN ?_ _ | refine blk_drew ?_ | refine blk_alloc ?_ _)); exact BK656.out⟩, ⟨zq13⟩, ⟨zq6⟩, ⟨zq12⟩⟩
   subst c46
   have H1 : ((spec_l1Cur_pick.f s0_0 t676 t677 (x657002_1.length : Int)).bind fun bt678 => ((spec_l1Cur_among.f s0_0 bt678.2.1 bt678.2.2 (([9000, (-9000), 0] : List Int))).bind fun bt684 => (if 0 ≤ bt678.1 then (if bt678.1 < (x657002_1.length : Int) then (spec_l1Cur_field.j1 k1 s0_0 bt684.2.1 bt684.2.2 (wrap64 (1 + t650)) (wrap64 (1 + t653)) (x657002_1.set (bt678.1 : Int).toNat bt684.1)) else (none)) else (none)))) = some (r1, r2, r3, r4, r5) := by rw [if_pos rfl] at H; exact H
   clear H
   have H := H1
   clear H1
   replace H := Option.bind_eq_some_iff.mp H
   obtain ⟨⟨t678, t679, t680⟩, A470, H⟩ := H
   replace H : ((spec_l1Cur_among.f s0_0 t679 t680 (([9000, (-9000), 0] : List Int))).bind fun bt684 => (if 0 ≤ t678 then (if t678 < (x657002_1.length : Int) then (spec_l1Cur_field.j1 k1 s0_0 bt684.2.1 bt684.2.2 (wrap64 (1 + t650)) (wrap64 (1 + t653)) (x657002_1.set (t678 : Int).toNat bt684.1)) else (none)) else (none))) = some (r1, r2, r3, r4, r5) := H
   have A47 := Aside0.mk A470
   clear A470
   obtain ⟨y681, hy681⟩ : ∃ y_ : List Int, y_ = (([9000, (-9000), 0] : List Int)) := ⟨_, rfl⟩
   replace H : ((spec_l1Cur_among.f s0_0 t679 t680 y681).bind fun bt684 => (if 0 ≤ t678 then (if t678 < (x657002_1.length : Int) then (spec_l1Cur_field.j1 k1 s0_0 bt684.2.1 bt684.2.2 (wrap64 (1 + t650)) (wrap64 (1 + t653)) (x657002_1.set (t678 : Int).toNat bt684.1)) else (none)) else (none))) = some (r1, r2, r3, r4, r5) := zqH hy681 H
   have Ny681 := Aside0.mk hy681
   clear hy681
   replace H := Option.bind_eq_some_iff.mp H
   obtain ⟨⟨t684, t685, t686⟩, A480, H⟩ := H
   replace H : (if 0 ≤ t678 then (if t678 < (x657002_1.length : Int) then (spec_l1Cur_field.j1 k1 s0_0 t685 t686 (wrap64 (1 + t650)) (wrap64 (1 + t653)) (x657002_1.set (t678 : Int).toNat t684)) else (none)) else (none)) = some (r1, r2, r3, r4, r5) := H
   have A48 := Aside0.mk A480
   clear A480
   by_cases c49 : 0 ≤ t678
   case neg =>
    rw [if_neg c49] at H
    exact absurd H (by simp)
   rw [if_pos c49] at H
   have c49b0 : decide (0 ≤ t678) = true := decide_eq_true c49
   clear c49
   (first | rw [c49b0] | (simp only [i64_w, i32_w]; rw [c49b0]) | skip)
   by_cases c50 : t678 < (x657002_1.length : Int)
   case neg =>
    rw [if_neg c50] at H
    exact absurd H (by simp)
   rw [if_pos c50] at H
   have c50b0 : decide (t678 < (x657002_1.length : Int)) = true := decide_eq_true c50
   clear c50
   obtain ⟨y687, hy687⟩ : ∃ y_ : List Int, y_ = (x657002_1.set (t678 : Int).toNat t684) := ⟨_, rfl⟩
   replace H : (spec_l1Cur_field.j1 k1 s0_0 t685 t686 (wrap64 (1 + t650)) (wrap64 (1 + t653)) y687) = some (r1, r2, r3, r4, r5) := zqH hy687 H
   have Ny687 := Aside0.mk hy687
   clear hy687
   have H' := Aside0.mk H
   clear H
   try go_wp2
   have n0_ := Aside0.mk (Kd.R_drew HO_657002.out)
   have n1_ := Aside0.mk (blk_drew BK649.out)
   have n2_ := Aside0.mk (blk_drew BK656.out)
   have n3_ := Aside0.mk (IsS63.drew HI0.out)
   have n4_ := Aside0.mk (keep_drew HK.out)
   have n5_ := Aside0.mk (below_drew1 HB.out)
   clear HO_657002
   clear BK649
   clear BK656
   clear HI0
   clear HK
   clear HB
   have HO_657002 := n0_
   have BK649 := n1_
   have BK656 := n2_
   have HI0 := n3_
   have HK := n4_
   have HB := n5_
   clear n0_ n1_ n2_ n3_ n4_ n5_
   obtain ⟨Ao53, co53, eo53⟩ := Kd.R_slice HO_657002.out
   (first | subst eo53 | (injection eo53 with f1_ f2_ f3_; have f4_ := f1_.symm; have f5_ := f3_.symm; clear f1_ f2_ f3_; subst f4_; subst f5_))
   refine start_ (n := 12) (S := fun w' => w'.cell? ⟨gb656, 0, none⟩ = some (.int .i64 (wrap64 (1 + t650))) ∧ w'.cell? ⟨gb656, 1, none⟩ = some (.int .i64 (wrap64 (1 + t653))) ∧ w'.cell? ⟨gb656, 2, none⟩ = some (.slice Ao53 x657002_1.length co53)) (ds := [11]) #[false, false, false, false, false, false, false, false, false, false, false, false] (by kernel_rfl) rfl rfl ⟨(blk_cell BK656.out 0).trans rfl, (blk_cell BK656.out 1).trans rfl, (blk_cell BK656.out 2).trans rfl⟩ (fun hHeld => ?_); refine with_tabW spec_l1Cur_field.tab11 spec_l1Cur_field.bits11 (fun HT_ HW_ => ?_)
   generalize w45.drew = w52 at HO_657002 BK649 BK656 HI0 HK HB hHeld ⊢
   refine zP 0 (some 40) #[zt, zf, zf, zf, zf, zf, zf, zf, zf, zf, zf, zf] ?_ rfl rfl HT_ (Or.inl ⟨by rfl, ?_⟩) ?_ ?_ ?_
   rotate_left; · exact zqB
   rotate_left; · exact zqA
   refine zP 2 (some 42) #[zt, zf, zt, zf, zf, zf, zf, zf, zf, zf, zf, zf] ?_ rfl rfl HT_ (Or.inl ⟨by rfl, ?_⟩) ?_ ?_ ?_
   rotate_left; · exact zqB
   rotate_left; · exact zqA
   refine zP 3 (some 43) #[zt, zf, zt, zt, zf, zf, zf, zf, zf, zf, zf, zf] ?_ rfl rfl HT_ (Or.inl ⟨by rfl, ?_⟩) ?_ ?_ ?_
   rotate_left; · exact zqB
   rotate_left; · exact zqA
   refine zP 7 (some 47) #[zt, zf, zt, zt, zf, zf, zf, zt, zf, zf, zf, zf] ?_ rfl rfl HT_ (Or.inl ⟨by rfl, ?_⟩) ?_ ?_ ?_
   rotate_left; · exact zqB
   rotate_left; · exact zqA
   refine zT 1 (some 41) #[zt, zt, zt, zt, zf, zf, zf, zt, zf, zf, zf, zf] ?_ rfl rfl HT_ HW_ (Or.inl ⟨by rfl, ?_⟩) hHeld ?_ ?_ ?_
   rotate_left
   ·
    rintro w' ⟨s0, s1, s2⟩
    go_simp
    with_reducible rfl
   rotate_left; · exact zqA
   refine zT 4 (some 44) #[zt, zt, zt, zt, zt, zf, zf, zt, zf, zf, zf, zf] ?_ rfl rfl HT_ HW_ (Or.inl ⟨by rfl, ?_⟩) hHeld ?_ ?_ ?_
   rotate_left
   ·
    rintro w' ⟨s0, s1, s2⟩
    go_simp
    with_reducible rfl
   rotate_left; · exact zqA
   refine zP 5 (some 45) #[zt, zt, zt, zt, zt, zt, zf, zt, zf, zf, zf, zf] ?_ rfl rfl HT_ (Or.inl ⟨by rfl, ?_⟩) ?_ ?_ ?_
   rotate_left; · exact zqB
   rotate_left; · exact zqA
   refine join_ (σ := Value) 3 #[true, true, true, true, true, true, true, true, true, false, false, false] (fun s_ => [(46, .int .i64 t678), (48, s_)]) (fun s_ w' => (w'.cell? ⟨gb656, 0, none⟩ = some (.int .i64 (wrap64 (1 + t650))) ∧ w'.cell? ⟨gb656, 1, none⟩ = some (.int .i64 (wrap64 (1 + t653))) ∧ w'.cell? ⟨gb656, 2, none⟩ = some (.slice Ao53 x657002_1.length co53)) ∧ (Kd.R (Kd.int .i64) 3 w' w.heap.size (fun k_ => some k_ ≠ (.slice Ao53 x657002_1.length co53 : Value).ownBlock) s_ y681) ∧ (Kd.R (Kd.int .i64) 3 w' w.heap.size (fun k_ => some k_ ≠ (s_ : Value).ownBlock) (.slice Ao53 x657002_1.length co53) x657002_1) ∧ (w'.heap[gb649]? = some (.cells #[.int .i64 0, .int .i64 0, .slice none 0 0] 29 (0, 0))) ∧ (w'.heap[gb656]? = some (.cells #[.int .i64 (wrap64 (1 + t650)), .int .i64 (wrap64 (1 + t653)), .slice Ao53 x657002_1.length co53] 29 (0, 0))) ∧ (IsS63 w0 w' g s0_0 t679 t680) ∧ (KeepBut w w' g none) ∧ (Below w0.heap.size w0 w')) ?_ ?_
   rotate_left
   ·
    intro hCont
    refine two_ (i := 6) (j := 8) (Ni := some 46) (Nj := some 48) #[true, true, true, true, true, true, true, true, false, false, false, false] #[true, true, true, true, true, true, false, true, true, false, false, false] rfl rfl rfl rfl (two_of HT_.out (by kernel_rfl)) (by decide) (by decide) (fun K hK => ?_) (fun K hK => ?_)
    ·
     skip
     refine goes_ Try.func37 (by kernel_rfl) rfl #[.pointer (some ⟨g, 0, none⟩), .int .i64 (x657002_1.length : Int)] (by rfl) rfl rfl zq1 ?_
     with_reducible refine (spec_l1Cur_pick.calls g s0_0 t676 t677 (x657002_1.length : Int) t678 t679 t680 w0 _ ?side1 ?side2 A47.out).mono ?_
     (case side1 => repeat (first | (with_reducible first | exact HI0.out | apply IsS63.alloc | apply IsS63.drewN | apply IsS63.drew | apply IsS63.set_1 | apply IsS63.set_2 | refine IsS63.far ?_ NB0_649.out _ | refine IsS63.far ?_ NB0_656.out _) | exact HI0.out))
     (case side2 => repeat (first | (with_reducible first | exact HB.out | apply below_alloc | apply pw_below_drewN | apply below_drew1 | refine below_set ?_ (IsS63.ge HI0.out) | refine below_set ?_ GE649.out | refine below_set ?_ GE656.out) | exact HB.out))
     rintro e w54 ⟨rfl, hi, hb, hk⟩
     refine ⟨_, rfl, ?_⟩
     have n0_ := Aside0.mk (Kd.R_mono (Kd.R_keep (IsS63.apart (show IsS63 w0 _ g s0_0 t676 t677 from by repeat (first | (with_reducible first | exact HI0.out | apply IsS63.alloc | apply IsS63.drewN | apply IsS63.drew | apply IsS63.set_1 | apply IsS63.set_2 | refine IsS63.far ?_ NB0_649.out _ | refine IsS63.far ?_ NB0_656.out _) | exact HI0.out)) (zqR HO_657002.out) (by decide)) hk (fun _ h => h.2)) (fun _ h => h.1))
     have n1_ := Aside0.mk (KeepBut.blk hk (g' := gb649) (o := .cells #[.int .i64 0, .int .i64 0, .slice none 0 0] 29 (0, 0)) (zqK BK649.out) NB649_0.out (by simp))
     have n2_ := Aside0.mk (KeepBut.blk hk (g' := gb656) (o := .cells #[.int .i64 (wrap64 (1 + t650)), .int .i64 (wrap64 (1 + t653)), .slice Ao53 x657002_1.length co53] 29 (0, 0)) (zqK BK656.out) NB656_0.out (by simp))
     have n3_ := Aside0.mk (KeepBut.trans zq6 hk (.inl rfl))
     have n4_ := Aside0.mk (hb)
     have n5_ := Aside0.mk (hi)
     clear HO_657002
     clear BK649
     clear BK656
     clear HK
     clear HB
     clear HI0
     have HO_657002 := n0_
     have BK649 := n1_
     have BK656 := n2_
     have HK := n3_
     have HB := n4_
     have HI0 := n5_
     clear n0_ n1_ n2_ n3_ n4_ n5_
     (try clear hb)
     (try clear hb2)
     (try clear hk)
     (try clear hi)
     refine hK.out _ _ ⟨(blk_cell BK656.out 0).trans rfl, (blk_cell BK656.out 1).trans rfl, (blk_cell BK656.out 2).trans rfl⟩ (fun hHeld => ?_)
     clear hK K
     refine norm_ (a' := ?_) ?_ ?_
     rotate_left
     ·
      show Act.put _ (some 46) _ = _
      simp only [Act.put, List.setIfInBounds_toArray, List.set_cons_zero, List.set_cons_succ, i64_w, i32_w]
      rfl
     refine one_ (i := 8) (N := some 48) #[zt, zt, zt, zt, zt, zt, zt, zt, zt, zf, zf, zf] rfl rfl (one_of HT_.out (by kernel_rfl)) (by decide) (fun K hK => ?_)
     refine Kd.R_lit_step (Kd.int .i64) _ 3 ?hg (N := 48) ?hd (xs := ([9000, (-9000), 0] : List Int)) (inner := [.int .i64 9000, .int .i64 (-9000), .int .i64 0]) (ok := fun _ => True) (okp := fun _ => True) ?hr ?hp (fun _ hk => hk) trivial (Below.refl _ _) (Nat.le_refl _) (by simp) ?_; (case hd => rfl); (case hg => rfl); (case hr => exact zqS); (case hp => exact (Reps.one (show Kd.M (Kd.int .i64) _ _ _ 9000 [.int .i64 9000] from rfl) (Reps.one (show Kd.M (Kd.int .i64) _ _ _ (-9000) [.int .i64 (-9000)] from rfl) (Reps.one (show Kd.M (Kd.int .i64) _ _ _ 0 [.int .i64 0] from rfl) (Reps.none _ _)))))
     intro v682 w55 ho56 hb hg_ hnew_
     clear hg_ hnew_
     (first | rw [← Ny681.out] at ho56 | (simp only [Int.reduceToNat] at ho56; rw [← Ny681.out] at ho56))
     have n0_ := Aside0.mk (Kd.R_elder' (zqR HO_657002.out) (Kd.R_base ho56) hb)
     have n1_ := Aside0.mk (Kd.R_lower (Kd.R_new' ho56 (Kd.R_lt (zqR HO_657002.out))) (keep_size (w := w) (g := g) (row := none) zq6))
     have n2_ := Aside0.mk (blk_below (g := gb649) (o := .cells #[.int .i64 0, .int .i64 0, .slice none 0 0] 29 (0, 0)) (zqK BK649.out) hb)
     have n3_ := Aside0.mk (blk_below (g := gb656) (o := .cells #[.int .i64 (wrap64 (1 + t650)), .int .i64 (wrap64 (1 + t653)), .slice Ao53 x657002_1.length co53] 29 (0, 0)) (zqK BK656.out) hb)
     have n4_ := Aside0.mk (IsS63.below zq13 hb)
     have n5_ := Aside0.mk (KeepBut.trans zq6 (KeepBut.of_below hb g none) (.inl rfl))
     have n6_ := Aside0.mk (below_step zq12 hb)
     clear HO_657002
     clear BK649
     clear BK656
     clear HI0
     clear HK
     clear HB
     have HO_657002 := n0_
     have HO683 := n1_
     have BK649 := n2_
     have BK656 := n3_
     have HI0 := n4_
     have HK := n5_
     have HB := n6_
     clear n0_ n1_ n2_ n3_ n4_ n5_ n6_
     clear hb ho56
     refine hK.out _ _ ⟨(blk_cell BK656.out 0).trans rfl, (blk_cell BK656.out 1).trans rfl, (blk_cell BK656.out 2).trans rfl⟩ (fun hHeld => ?_)
     clear hK K
     refine norm_ (a' := ?_) ?_ ?_
     rotate_left
     ·
      show Act.put _ (some 48) _ = _
      simp only [Act.put, List.setIfInBounds_toArray, List.set_cons_zero, List.set_cons_succ, i64_w, i32_w]
      rfl
     exact norm_ (by simp only [putAll, Act.put, List.setIfInBounds_toArray, List.set_cons_zero, List.set_cons_succ]) (hCont (v682) _ ⟨hHeld, (by (with_reducible repeat (first | apply Kd.R_alloc | apply Kd.R_drewN | apply Kd.R_drew)); exact Kd.R_mono HO683.out (fun _ hk => hk.2)), (by (with_reducible repeat (first | apply Kd.R_alloc | apply Kd.R_drewN | apply Kd.R_drew)); exact Kd.R_mono HO_657002.out (fun _ hk => hk.2)), (zqK BK649.out), (zqK BK656.out), zq13, zq6, zq12⟩)
    ·
     skip
     refine Kd.R_lit_step (Kd.int .i64) _ 3 ?hg (N := 48) ?hd (xs := ([9000, (-9000), 0] : List Int)) (inner := [.int .i64 9000, .int .i64 (-9000), .int .i64 0]) (ok := fun _ => True) (okp := fun _ => True) ?hr ?hp (fun _ hk => hk) trivial (Below.refl _ _) (Nat.le_refl _) (by simp) ?_; (case hd => rfl); (case hg => rfl); (case hr => exact zqS); (case hp => exact (Reps.one (show Kd.M (Kd.int .i64) _ _ _ 9000 [.int .i64 9000] from rfl) (Reps.one (show Kd.M (Kd.int .i64) _ _ _ (-9000) [.int .i64 (-9000)] from rfl) (Reps.one (show Kd.M (Kd.int .i64) _ _ _ 0 [.int .i64 0] from rfl) (Reps.none _ _)))))
     intro v682 w54 ho55 hb hg_ hnew_
     clear hg_ hnew_
     (first | rw [← Ny681.out] at ho55 | (simp only [Int.reduceToNat] at ho55; rw [← Ny681.out] at ho55))
     have n0_ := Aside0.mk (Kd.R_elder' (zqR HO_657002.out) (Kd.R_base ho55) hb)
     have n1_ := Aside0.mk (Kd.R_lower (Kd.R_new' ho55 (Kd.R_lt (zqR HO_657002.out))) (keep_size (w := w) (g := g) (row := none) zq6))
     have n2_ := Aside0.mk (blk_below (g := gb649) (o := .cells #[.int .i64 0, .int .i64 0, .slice none 0 0] 29 (0, 0)) (zqK BK649.out) hb)
     have n3_ := Aside0.mk (blk_below (g := gb656) (o := .cells #[.int .i64 (wrap64 (1 + t650)), .int .i64 (wrap64 (1 + t653)), .slice Ao53 x657002_1.length co53] 29 (0, 0)) (zqK BK656.out) hb)
     have n4_ := Aside0.mk (IsS63.below zq13 hb)
     have n5_ := Aside0.mk (KeepBut.trans zq6 (KeepBut.of_below hb g none) (.inl rfl))
     have n6_ := Aside0.mk (below_step zq12 hb)
     clear HO_657002
     clear BK649
     clear BK656
     clear HI0
     clear HK
     clear HB
     have HO_657002 := n0_
     have HO683 := n1_
     have BK649 := n2_
     have BK656 := n3_
     have HI0 := n4_
     have HK := n5_
     have HB := n6_
     clear n0_ n1_ n2_ n3_ n4_ n5_ n6_
     clear hb ho55
     refine hK.out _ _ ⟨(blk_cell BK656.out 0).trans rfl, (blk_cell BK656.out 1).trans rfl, (blk_cell BK656.out 2).trans rfl⟩ (fun hHeld => ?_)
     clear hK K
     refine norm_ (a' := ?_) ?_ ?_
     rotate_left
     ·
      show Act.put _ (some 48) _ = _
      simp only [Act.put, List.setIfInBounds_toArray, List.set_cons_zero, List.set_cons_succ, i64_w, i32_w]
      rfl
     refine one_ (i := 6) (N := some 46) #[zt, zt, zt, zt, zt, zt, zt, zt, zt, zf, zf, zf] rfl rfl (one_of HT_.out (by kernel_rfl)) (by decide) (fun K hK => ?_)
     refine goes_ Try.func37 (by kernel_rfl) rfl #[.pointer (some ⟨g, 0, none⟩), .int .i64 (x657002_1.length : Int)] (by rfl) rfl rfl zq1 ?_
     with_reducible refine (spec_l1Cur_pick.calls g s0_0 t676 t677 (x657002_1.length : Int) t678 t679 t680 w0 _ ?side1 ?side2 A47.out).mono ?_
     (case side1 => repeat (first | (with_reducible first | exact HI0.out | apply IsS63.alloc | apply IsS63.drewN | apply IsS63.drew | apply IsS63.set_1 | apply IsS63.set_2 | refine IsS63.far ?_ NB0_649.out _ | refine IsS63.far ?_ NB0_656.out _) | exact HI0.out))
     (case side2 => repeat (first | (with_reducible first | exact HB.out | apply below_alloc | apply pw_below_drewN | apply below_drew1 | refine below_set ?_ (IsS63.ge HI0.out) | refine below_set ?_ GE649.out | refine below_set ?_ GE656.out) | exact HB.out))
     rintro e w56 ⟨rfl, hi, hb, hk⟩
     refine ⟨_, rfl, ?_⟩
     have n0_ := Aside0.mk (Kd.R_mono (Kd.R_keep (IsS63.apart (show IsS63 w0 _ g s0_0 t676 t677 from by repeat (first | (with_reducible first | exact HI0.out | apply IsS63.alloc | apply IsS63.drewN | apply IsS63.drew | apply IsS63.set_1 | apply IsS63.set_2 | refine IsS63.far ?_ NB0_649.out _ | refine IsS63.far ?_ NB0_656.out _) | exact HI0.out)) (zqR HO_657002.out) (by decide)) hk (fun _ h => h.2)) (fun _ h => h.1))
     have n1_ := Aside0.mk (KeepBut.blk hk (g' := gb649) (o := .cells #[.int .i64 0, .int .i64 0, .slice none 0 0] 29 (0, 0)) (zqK BK649.out) NB649_0.out (by simp))
     have n2_ := Aside0.mk (KeepBut.blk hk (g' := gb656) (o := .cells #[.int .i64 (wrap64 (1 + t650)), .int .i64 (wrap64 (1 + t653)), .slice Ao53 x657002_1.length co53] 29 (0, 0)) (zqK BK656.out) NB656_0.out (by simp))
     have n3_ := Aside0.mk (Kd.R_mono (Kd.R_keep (IsS63.apart (show IsS63 w0 _ g s0_0 t676 t677 from by repeat (first | (with_reducible first | exact HI0.out | apply IsS63.alloc | apply IsS63.drewN | apply IsS63.drew | apply IsS63.set_1 | apply IsS63.set_2 | refine IsS63.far ?_ NB0_649.out _ | refine IsS63.far ?_ NB0_656.out _) | exact HI0.out)) (zqR HO683.out) (by decide)) hk (fun _ h => h.2)) (fun _ h => h.1))
     have n4_ := Aside0.mk (KeepBut.trans zq6 hk (.inl rfl))
     have n5_ := Aside0.mk (hb)
     have n6_ := Aside0.mk (hi)
     clear HO_657002
     clear BK649
     clear BK656
     clear HO683
     clear HK
     clear HB
     clear HI0
     have HO_657002 := n0_
     have BK649 := n1_
     have BK656 := n2_
     have HO683 := n3_
     have HK := n4_
     have HB := n5_
     have HI0 := n6_
     clear n0_ n1_ n2_ n3_ n4_ n5_ n6_
     (try clear hb)
     (try clear hb2)
     (try clear hk)
     (try clear hi)
     refine hK.out _ _ ⟨(blk_cell BK656.out 0).trans rfl, (blk_cell BK656.out 1).trans rfl, (blk_cell BK656.out 2).trans rfl⟩ (fun hHeld => ?_)
     clear hK K
     refine norm_ (a' := ?_) ?_ ?_
     rotate_left
     ·
      show Act.put _ (some 46) _ = _
      simp only [Act.put, List.setIfInBounds_toArray, List.set_cons_zero, List.set_cons_succ, i64_w, i32_w]
      rfl
     exact norm_ (by simp only [putAll, Act.put, List.setIfInBounds_toArray, List.set_cons_zero, List.set_cons_succ]) (hCont (v682) _ ⟨hHeld, (by (with_reducible repeat (first | apply Kd.R_alloc | apply Kd.R_drewN | apply Kd.R_drew)); exact Kd.R_mono HO683.out (fun _ hk => hk.2)), (by (with_reducible repeat (first | apply Kd.R_alloc | apply Kd.R_drewN | apply Kd.R_drew)); exact Kd.R_mono HO_657002.out (fun _ hk => hk.2)), (zqK BK649.out), (zqK BK656.out), zq13, zq6, zq12⟩)
   rintro v682 w57 ⟨hS_, h0_, h1_, h2_, h3_, h4_, h5_, h6_⟩
   have n0_ : Aside0 (Kd.R (Kd.int .i64) 3 w57 w.heap.size (fun k_ => some k_ ≠ (.slice Ao53 x657002_1.length co53 : Value).ownBlock) v682 y681) := ⟨h0_⟩
   have n1_ : Aside0 (Kd.R (Kd.int .i64) 3 w57 w.heap.size (fun k_ => some k_ ≠ (v682 : Value).ownBlock) (.slice Ao53 x657002_1.length co53) x657002_1) := ⟨h1_⟩
   have n2_ : Aside0 (w57.heap[gb649]? = some (.cells #[.int .i64 0, .int .i64 0, .slice none 0 0] 29 (0, 0))) := ⟨h2_⟩
   have n3_ : Aside0 (w57.heap[gb656]? = some (.cells #[.int .i64 (wrap64 (1 + t650)), .int .i64 (wrap64 (1 + t653)), .slice Ao53 x657002_1.length co53] 29 (0, 0))) := ⟨h3_⟩
   have n4_ : Aside0 (IsS63 w0 w57 g s0_0 t679 t680) := ⟨h4_⟩
   have n5_ : Aside0 (KeepBut w w57 g none) := ⟨h5_⟩
   have n6_ : Aside0 (Below w0.heap.size w0 w57) := ⟨h6_⟩
   clear HO_657002
   clear BK649
   clear BK656
   clear HI0
   clear HK
   clear HB
   clear h0_ h1_ h2_ h3_ h4_ h5_ h6_
   have HO683 := n0_
   have HO_657002 := n1_
   have BK649 := n2_
   have BK656 := n3_
   have HI0 := n4_
   have HK := n5_
   have HB := n6_
   clear n0_ n1_ n2_ n3_ n4_ n5_ n6_
   have hHeld : w57.cell? ⟨gb656, 0, none⟩ = some (.int .i64 (wrap64 (1 + t650))) ∧ w57.cell? ⟨gb656, 1, none⟩ = some (.int .i64 (wrap64 (1 + t653))) ∧ w57.cell? ⟨gb656, 2, none⟩ = some (.slice Ao53 x657002_1.length co53) := hS_
   obtain ⟨Ao58, co58, eo58⟩ := Kd.R_slice HO683.out
   (first | subst eo58 | (injection eo58 with f1_ f2_ f3_; have f4_ := f1_.symm; have f5_ := f3_.symm; clear f1_ f2_ f3_; subst f4_; subst f5_))
   refine norm_ (a' := ?_) ?_ ?_
   rotate_left
   ·
    simp only [putAll, Act.put, List.setIfInBounds_toArray, List.set_cons_zero, List.set_cons_succ]
    rfl
   refine one_ (i := 9) (N := some 49) #[zt, zt, zt, zt, zt, zt, zt, zt, zt, zt, zf, zf] rfl rfl (one_of HT_.out (by kernel_rfl)) (by decide) (fun K hK => ?_)
   refine goes_ Try.func66 (by kernel_rfl) rfl #[.pointer (some ⟨g, 0, none⟩), .slice Ao58 y681.length co58] (by rfl) rfl rfl zq1 ?_
   with_reducible refine (spec_l1Cur_among.calls g s0_0 t679 t680 _ _ y681 t684 t685 t686 w0 _ ?side1 ?side2 ?side3 ?side4 ?side5 A48.out).mono ?_
   (case side1 => repeat (first | (with_reducible first | exact HI0.out | apply IsS63.alloc | apply IsS63.drewN | apply IsS63.drew | apply IsS63.set_1 | apply IsS63.set_2 | refine IsS63.far ?_ NB0_649.out _ | refine IsS63.far ?_ NB0_656.out _) | exact HI0.out))
   (case side2 => repeat (first | (with_reducible first | exact HB.out | apply below_alloc | apply pw_below_drewN | apply below_drew1 | refine below_set ?_ (IsS63.ge HI0.out) | refine below_set ?_ GE649.out | refine below_set ?_ GE656.out) | exact HB.out))
   (case side3 => exact zqC (Kd.R_reads' HO683.out).2.2)
   (case side4 => exact (Kd.R_reads' HO683.out).2.1)
   (case side5 => exact far_slice (IsS63.own_ne HI0.out HO683.out (by decide)))
   rintro e w59 ⟨rfl, hi, hb, hk⟩
   refine ⟨_, rfl, ?_⟩
   have n0_ := Aside0.mk (Kd.R_mono (Kd.R_keep (IsS63.apart (show IsS63 w0 _ g s0_0 t679 t680 from by repeat (first | (with_reducible first | exact HI0.out | apply IsS63.alloc | apply IsS63.drewN | apply IsS63.drew | apply IsS63.set_1 | apply IsS63.set_2 | refine IsS63.far ?_ NB0_649.out _ | refine IsS63.far ?_ NB0_656.out _) | exact HI0.out)) (zqR HO_657002.out) (by decide)) hk (fun _ h => h.2)) (fun _ h => h.1))
   have n1_ := Aside0.mk (KeepBut.blk hk (g' := gb649) (o := .cells #[.int .i64 0, .int .i64 0, .slice none 0 0] 29 (0, 0)) (zqK BK649.out) NB649_0.out (by simp))
   have n2_ := Aside0.mk (KeepBut.blk hk (g' := gb656) (o := .cells #[.int .i64 (wrap64 (1 + t650)), .int .i64 (wrap64 (1 + t653)), .slice Ao53 x657002_1.length co53] 29 (0, 0)) (zqK BK656.out) NB656_0.out (by simp))
   have n3_ := Aside0.mk (Kd.R_mono (Kd.R_keep (IsS63.apart (show IsS63 w0 _ g s0_0 t679 t680 from by repeat (first | (with_reducible first | exact HI0.out | apply IsS63.alloc | apply IsS63.drewN | apply IsS63.drew | apply IsS63.set_1 | apply IsS63.set_2 | refine IsS63.far ?_ NB0_649.out _ | refine IsS63.far ?_ NB0_656.out _) | exact HI0.out)) (zqR HO683.out) (by decide)) hk (fun _ h => h.2)) (fun _ h => h.1))
   have n4_ := Aside0.mk (KeepBut.trans zq6 hk (.inl rfl))
   have n5_ := Aside0.mk (hb)
   have n6_ := Aside0.mk (hi)
   clear HO_657002
   clear BK649
   clear BK656
   clear HO683
   clear HK
   clear HB
   clear HI0
   have HO_657002 := n0_
   have BK649 := n1_
   have BK656 := n2_
   have HO683 := n3_
   have HK := n4_
   have HB := n5_
   have HI0 := n6_
   clear n0_ n1_ n2_ n3_ n4_ n5_ n6_
   (try clear hb)
   (try clear hb2)
   (try clear hk)
   (try clear hi)
   have p51 : 0 ≤ (t678 : Int) := of_decide_eq_true zq2
   have q51 : (t678 : Int) < ((x657002_1.length : Int) : Int) := of_decide_eq_true zq2
   obtain ⟨go51, co51, eo51, gb51, gl51, cl51, HG51⟩ := Kd.R_form HO_657002.out (by omega)
   (first | cases eo51 | (injection eo51 with ea_ en_ ec_; (first | subst ea_ | (injection ea_ with ea_; subst ea_)); subst ec_; clear en_))
   have GB51 := Aside0.mk gb51
   have GG51 := Aside0.mk HG51
   clear gb51 gl51 HG51
   obtain ⟨hx51_0, hf51_0⟩ := Kd.R_celln 0 HO_657002.out (t678 : Int) p51 q51
   replace p51 := eq_true p51
   replace q51 := eq_true q51
   have HN0_go51 := Aside0.mk (show g ≠ go51 from by have h_ := IsS63.own_ne HI0.out HO_657002.out (by decide); intro e_; exact h_ (by rw [e_]; rfl))
   have HP60 := Kd.R_putn HO_657002.out (t678 : Int) t684
   rw [← Ny687.out] at HP60
   have HQ60 := Aside0.mk HP60
   clear HP60
   refine hK.out _ _ ⟨(blk_cell BK656.out 0).trans rfl, (blk_cell BK656.out 1).trans rfl, (blk_cell BK656.out 2).trans rfl⟩ (fun hHeld => ?_)
   clear hK K
   refine norm_ (a' := ?_) ?_ ?_
   rotate_left
   ·
    show Act.put _ (some 49) _ = _
    simp only [Act.put, List.setIfInBounds_toArray, List.set_cons_zero, List.set_cons_succ, i64_w, i32_w]
    rfl
   refine zP 10 (some 50) #[zt, zt, zt, zt, zt, zt, zt, zt, zt, zt, zt, zf] ?_ rfl rfl HT_ (Or.inl ⟨by rfl, ?_⟩) ?_ ?_ ?_
   rotate_left; · exact zqB
   rotate_left; · exact zqA
   refine last_ (i := 11) (N := none) #[true, true, true, true, true, true, true, true, true, true, true, true] rfl rfl (one_of HT_.out (by kernel_rfl)) (by decide) (fun K hK => ?_)
   refine skip_ (w1 := ?_) (by rfl) rfl ?_ ?_
   rotate_left
   ·
    go_simp
    rfl
   refine hK.out _ _ ?_
   clear hK K
   refine done_ (done_of HT_.out (by kernel_rfl)) ?_
   try go_wp2
   go_meet
   case rel => exact ⟨_, (t685), (t686), (y687), (.slice (some ⟨go51, 0, none⟩) x657002_1.length co53), H', ⟨by have := HK1.out; first | omega | exact Nat.le_refl _⟩, ⟨by (with_reducible repeat (first | apply Kd.R_alloc | apply Kd.R_drewN | apply Kd.R_drew)); exact Kd.R_mono HQ60.out (fun _ hk => trivial)⟩, ⟨by (with_reducible repeat (first | refine blk_drewN ?_ _ | refine blk_drew ?_ | refine blk_alloc ?_ _)); refine blk_far ?_ (by have h_ := Kd.R_ne HO_657002.out BK649.out (by decide); intro e_; exact h_ (by rw [e_]; rfl)) _; (with_reducible repeat (first | refine blk_drewN ?_ _ | refine blk_drew ?_ | refine blk_alloc ?_ _)); exact BK649.out⟩, ⟨by (with_reducible repeat (first | refine blk_drewN ?_ _ | refine blk_drew ?_ | refine blk_alloc ?_ _)); refine blk_far ?_ (by have h_ := Kd.R_ne HO_657002.out BK656.out (by decide); intro e_; exact h_ (by rw [e_]; rfl)) _; (with_reducible repeat (first | refine blk_drewN ?_ _ | refine blk_drew ?_ | refine blk_alloc ?_ _)); exact BK656.out⟩, ⟨(by repeat (first | (with_reducible first | exact HI0.out | apply IsS63.alloc | apply IsS63.drewN | apply IsS63.drew | apply IsS63.set_1 | apply IsS63.set_2 | refine IsS63.far ?_ HN0_go51.out _ | refine IsS63.far ?_ NB0_649.out _ | refine IsS63.far ?_ NB0_656.out _) | exact HI0.out))⟩, ⟨(by repeat (first | (with_reducible first | exact HK.out | apply KeepBut.set_ | apply keep_drewN | apply keep_drew | apply keep_alloc | refine keep_far ?_ GB51.out _ | refine keep_far ?_ GW649.out _ | refine keep_far ?_ GW656.out _) | exact HK.out))⟩, ⟨(by repeat (first | (with_reducible first | exact HB.out | apply below_alloc | apply pw_below_drewN | apply below_drew1 | refine below_set ?_ (Nat.le_trans HL.out GB51.out) | refine below_set ?_ (IsS63.ge HI0.out) | refine below_set ?_ GE649.out | refine below_set ?_ GE656.out) | exact HB.out))⟩⟩
  clear HC41
  try clear c1
  try clear c2
  try clear p2
  try clear c3
  try clear c4
  try clear c5
  try clear p5
  try clear q5
  try clear hx5
  try clear hf5
  try clear c6
  try clear p6
  try clear c8
  try clear c9
  try clear c10
  try clear c16
  try clear c16b0
  try clear c19
  try clear c20
  try clear c21
  try clear c22
  try clear c30
  try clear c31
  try clear c32
  try clear c37
  try clear c42
  try clear c43
  try clear c46
  try clear c49
  try clear c49b0
  try clear c50
  try clear c50b0
  try clear p51
  try clear q51
  try clear hx51
  try clear hf51
  try clear hcz11_0
  try clear hcz11_1
  try clear hcz11_2
  try clear hcz23_0
  try clear hcz23_1
  try clear hcz23_2
  try clear hcz26_0
  try clear hcz26_1
  try clear hcz26_2
  try clear hcz29_0
  try clear hcz29_1
  try clear hcz29_2
  try clear hcz33_0
  try clear hcz33_1
  try clear hcz33_2
  try clear hcz36_0
  try clear hcz36_1
  try clear hcz36_2
  try clear hcz39_0
  try clear hcz39_1
  try clear hcz39_2
  try clear hcz44_0
  try clear hcz44_1
  try clear hcz44_2
  try clear hfz11_0
  try clear hfz11_1
  try clear hfz11_2
  try clear hfz23_0
  try clear hfz23_1
  try clear hfz23_2
  try clear hfz26_0
  try clear hfz26_1
  try clear hfz26_2
  try clear hfz29_0
  try clear hfz29_1
  try clear hfz29_2
  try clear hfz33_0
  try clear hfz33_1
  try clear hfz33_2
  try clear hfz36_0
  try clear hfz36_1
  try clear hfz36_2
  try clear hfz39_0
  try clear hfz39_1
  try clear hfz39_2
  try clear hfz44_0
  try clear hfz44_1
  try clear hfz44_2
  try clear hx51_0
  try clear p2
  try clear p51
  try clear p6
  try clear q51
  obtain ⟨kq, x1001_40, x1002_40, x657002_40, u657002, HA, HJ40, HO_657002, BK649, BK656, HI0, HK, HB⟩ := hcut
  cases kq with
  | zero => exact absurd HA.out (by simp [spec_l1Cur_field.j1])
  | succ kj40 =>
   have H := HA.out
   clear HA
   simp only [spec_l1Cur_field.j1] at H
   replace H := Option.bind_eq_some_iff.mp H
   obtain ⟨⟨t688, t689, t690⟩, A610, H⟩ := H
   replace H : (if t688 = true then ((spec_l2Fill.f kj40 8 8 3).bind fun bt691 => (some (bt691.1, bt691.2.1, bt691.2.2, t689, t690))) else (some ((wrap64 (1 + t650)), (wrap64 (1 + t653)), x657002_40, t689, t690))) = some (r1, r2, r3, r4, r5) := H
   have A61 := Aside0.mk A610
   clear A610
   by_cases c62 : t688 = true
   case neg =>
    replace c62 := Bool.eq_false_iff.mpr c62
    subst c62
    have H1 : (some ((wrap64 (1 + t650)), (wrap64 (1 + t653)), x657002_40, t689, t690)) = some (r1, r2, r3, r4, r5) := by rw [if_neg (show ¬ (false = true) by decide)] at H; exact H
    clear H
    have H := H1
    clear H1
    simp only [Option.some.injEq, Prod.mk.injEq] at H
    obtain ⟨rfl, rfl, rfl, rfl, rfl⟩ := H
    go_wp2_with (first | ((with_reducible refine gate_callee (f := 65) rfl ?_); refine goesL_ (some 52) rfl rfl Try.func65 (by kernel_rfl) rfl #[.pointer (some ⟨g, 0, none⟩), .int .i64 24] rfl zq1 ?_; (with_reducible refine (spec_l1Cur_one.calls g s0_0 x1001_40 x1002_40 24 false t689 t690 w0 _ ?side1 ?side2 A61.out).mono ?_); (case side1 => repeat (first | (with_reducible first | exact HI0.out | apply IsS63.alloc | apply IsS63.drewN | apply IsS63.drew | apply IsS63.set_1 | apply IsS63.set_2 | refine IsS63.far ?_ NB0_649.out _ | refine IsS63.far ?_ NB0_656.out _) | exact HI0.out)); (case side2 => repeat (first | (with_reducible first | exact HB.out | apply below_alloc | apply pw_below_drewN | apply below_drew1 | refine below_set ?_ (IsS63.ge HI0.out) | refine below_set ?_ GE649.out | refine below_set ?_ GE656.out) | exact HB.out)); rintro e w72 ⟨rfl, hi, hb, hk⟩; refine ⟨_, rfl, ?_⟩; replace HO_657002 := Aside0.mk (Kd.R_mono (Kd.R_keep (IsS63.apart (show IsS63 w0 _ g s0_0 x1001_40 x1002_40 from by repeat (first | (with_reducible first | exact HI0.out | apply IsS63.alloc | apply IsS63.drewN | apply IsS63.drew | apply IsS63.set_1 | apply IsS63.set_2 | refine IsS63.far ?_ NB0_649.out _ | refine IsS63.far ?_ NB0_656.out _) | exact HI0.out)) (zqR HO_657002.out) (by decide)) hk (fun _ h => h.2)) (fun _ h => h.1)); replace BK649 := Aside0.mk (KeepBut.blk hk (g' := gb649) (o := .cells #[.int .i64 0, .int .i64 0, .slice none 0 0] 29 (0, 0)) (zqK BK649.out) NB649_0.out (by simp)); replace BK656 := Aside0.mk (KeepBut.blk hk (g' := gb656) (o := .cells #[.int .i64 (wrap64 (1 + t650)), .int .i64 (wrap64 (1 + t653)), u657002] 29 (0, 0)) (zqK BK656.out) NB656_0.out (by simp)); replace HK := Aside0.mk (KeepBut.trans zq6 hk (.inl rfl)); replace HB := Aside0.mk (hb); replace HI0 := Aside0.mk (hi); (try clear hb); (try clear hb2); (try clear hk); (try clear hi); have hnb73 := NB656_649.out; have hnc73 := NB649_656.out; have hnb74 := NB656_0.out; have hnc74 := NB0_656.out; have hcz75_0 := bz BK656.out 0 (.int .i64 (wrap64 (1 + t650))); have hcz75_1 := bz BK656.out 1 (.int .i64 (wrap64 (1 + t653))); have hcz75_2 := bz BK656.out 2 (u657002); have hfz75_0 := blk_frozen BK656.out 0; have hfz75_1 := blk_frozen BK656.out 1; have hfz75_2 := blk_frozen BK656.out 2; have hnb76 := NB649_0.out; have hnc76 := NB0_649.out; have hcz77_0 := bz BK649.out 0 (.int .i64 0); have hcz77_1 := bz BK649.out 1 (.int .i64 0); have hcz77_2 := bz BK649.out 2 (.slice none 0 0); have hfz77_0 := blk_frozen BK649.out 0; have hfz77_1 := blk_frozen BK649.out 1; have hfz77_2 := blk_frozen BK649.out 2; obtain ⟨Ao78, co78, eo78⟩ := Kd.R_slice HO_657002.out; subst eo78))
    refine bodyPost_ret (results_cell_row rfl _ _ gb649 29 #[.int .i64 (wrap64 (1 + t650)), .int .i64 (wrap64 (1 + t653)), .slice Ao78 x657002_40.length co78] (0, 0) _ rfl (by (with_reducible repeat (first | refine blk_drewN ?_ _ | refine blk_drew ?_ | refine blk_alloc ?_ _)); refine blk_put (cs := #[.int .i64 (wrap64 (1 + t650)), .int .i64 (wrap64 (1 + t653)), .slice none 0 0]) ?_ 2 _ rfl; (with_reducible repeat (first | refine blk_drewN ?_ _ | refine blk_drew ?_ | refine blk_alloc ?_ _)); refine blk_put (cs := #[.int .i64 (wrap64 (1 + t650)), .int .i64 0, .slice none 0 0]) ?_ 1 _ rfl; (with_reducible repeat (first | refine blk_drewN ?_ _ | refine blk_drew ?_ | refine blk_alloc ?_ _)); refine blk_put (cs := #[.int .i64 0, .int .i64 0, .slice none 0 0]) ?_ 0 _ rfl; (with_reducible repeat (first | refine blk_drewN ?_ _ | refine blk_drew ?_ | refine blk_alloc ?_ _)); exact BK649.out) Try.underlying29 rfl (by kernel_rfl)) rfl ?_
    exact ⟨_, by first | rfl | (simp [errW_none, errW_some] <;> rfl) | (simp [*, errW_none, errW_some] <;> rfl), by (with_reducible repeat (first | apply Kd.R_alloc | apply Kd.R_drewN | apply Kd.R_drew)); exact Kd.R_mono (Kd.R_far (p := ⟨gb649, 2, none⟩) (Kd.R_far (p := ⟨gb649, 1, none⟩) (Kd.R_far (p := ⟨gb649, 0, none⟩) (Kd.R_types HO_657002.out BK649.out (by decide)) (fun _ hk => hk.2) (.int .i64 (wrap64 (1 + t650)))) (fun _ hk => hk.2) (.int .i64 (wrap64 (1 + t653)))) (fun _ hk => hk.2) (.slice Ao78 x657002_40.length co78)) (fun _ hk => trivial), zq13, zq12, zq6⟩
   subst c62
   have H1 : ((spec_l2Fill.f kj40 8 8 3).bind fun bt691 => (some (bt691.1, bt691.2.1, bt691.2.2, t689, t690))) = some (r1, r2, r3, r4, r5) := by rw [if_pos rfl] at H; exact H
   clear H
   have H := H1
   clear H1
   replace H := Option.bind_eq_some_iff.mp H
   obtain ⟨⟨t691, t692, t693⟩, A630, H⟩ := H
   replace H : (some (t691, t692, t693, t689, t690)) = some (r1, r2, r3, r4, r5) := H
   have A63 := Aside0.mk A630
   clear A630
   simp only [Option.some.injEq, Prod.mk.injEq] at H
   obtain ⟨rfl, rfl, rfl, rfl, rfl⟩ := H
   go_wp2_with (first | ((with_reducible refine gate_callee (f := 65) rfl ?_); refine goesL_ (some 52) rfl rfl Try.func65 (by kernel_rfl) rfl #[.pointer (some ⟨g, 0, none⟩), .int .i64 24] rfl zq1 ?_; (with_reducible refine (spec_l1Cur_one.calls g s0_0 x1001_40 x1002_40 24 true t689 t690 w0 _ ?side1 ?side2 A61.out).mono ?_); (case side1 => repeat (first | (with_reducible first | exact HI0.out | apply IsS63.alloc | apply IsS63.drewN | apply IsS63.drew | apply IsS63.set_1 | apply IsS63.set_2 | refine IsS63.far ?_ NB0_649.out _ | refine IsS63.far ?_ NB0_656.out _) | exact HI0.out)); (case side2 => repeat (first | (with_reducible first | exact HB.out | apply below_alloc | apply pw_below_drewN | apply below_drew1 | refine below_set ?_ (IsS63.ge HI0.out) | refine below_set ?_ GE649.out | refine below_set ?_ GE656.out) | exact HB.out)); rintro e w64 ⟨rfl, hi, hb, hk⟩; refine ⟨_, rfl, ?_⟩; replace HO_657002 := Aside0.mk (Kd.R_mono (Kd.R_keep (IsS63.apart (show IsS63 w0 _ g s0_0 x1001_40 x1002_40 from by repeat (first | (with_reducible first | exact HI0.out | apply IsS63.alloc | apply IsS63.drewN | apply IsS63.drew | apply IsS63.set_1 | apply IsS63.set_2 | refine IsS63.far ?_ NB0_649.out _ | refine IsS63.far ?_ NB0_656.out _) | exact HI0.out)) (zqR HO_657002.out) (by decide)) hk (fun _ h => h.2)) (fun _ h => h.1)); replace BK649 := Aside0.mk (KeepBut.blk hk (g' := gb649) (o := .cells #[.int .i64 0, .int .i64 0, .slice none 0 0] 29 (0, 0)) (zqK BK649.out) NB649_0.out (by simp)); replace BK656 := Aside0.mk (KeepBut.blk hk (g' := gb656) (o := .cells #[.int .i64 (wrap64 (1 + t650)), .int .i64 (wrap64 (1 + t653)), u657002] 29 (0, 0)) (zqK BK656.out) NB656_0.out (by simp)); replace HK := Aside0.mk (KeepBut.trans zq6 hk (.inl rfl)); replace HB := Aside0.mk (hb); replace HI0 := Aside0.mk (hi); (try clear hb); (try clear hb2); (try clear hk); (try clear hi)) | ((with_reducible refine gate_callee (f := 103) rfl ?_); refine goesL_ (some 53) rfl rfl Try.func103 (by kernel_rfl) rfl #[.int .i64 8, .int .i64 8, .int .i64 3] rfl zq1 ?_; (with_reducible refine (spec_l2Fill.calls kj40 8 8 3 t691 t692 t693 _ A63.out).mono ?_); rintro e w65 ⟨v694, rfl, ho0, hb⟩; refine ⟨_, rfl, ?_⟩; have HO695 := Aside0.mk (Kd.R_lower (Kd.R_new' ho0 (Kd.R_lt (zqR HO_657002.out))) (keep_size (w := w) (g := g) (row := none) zq6)); replace HO_657002 := Aside0.mk (Kd.R_elder' (zqR HO_657002.out) (Kd.R_base ho0) hb); replace BK649 := Aside0.mk (blk_below (g := gb649) (o := .cells #[.int .i64 0, .int .i64 0, .slice none 0 0] 29 (0, 0)) (zqK BK649.out) hb); replace BK656 := Aside0.mk (blk_below (g := gb656) (o := .cells #[.int .i64 (wrap64 (1 + t650)), .int .i64 (wrap64 (1 + t653)), u657002] 29 (0, 0)) (zqK BK656.out) hb); replace HK := Aside0.mk (KeepBut.trans zq6 (KeepBut.of_below hb g none) (.inl rfl)); replace HB := Aside0.mk (below_step zq12 hb); replace HI0 := Aside0.mk (IsS63.below zq13 hb); (try clear hb); (try clear hb2); (try clear hk); (try clear hi); (try clear ho0); have hnb66 := NB656_649.out; have hnc66 := NB649_656.out; have hnb67 := NB656_0.out; have hnc67 := NB0_656.out; have hcz68_0 := bz BK656.out 0 (.int .i64 (wrap64 (1 + t650))); have hcz68_1 := bz BK656.out 1 (.int .i64 (wrap64 (1 + t653))); have hcz68_2 := bz BK656.out 2 (u657002); have hfz68_0 := blk_frozen BK656.out 0; have hfz68_1 := blk_frozen BK656.out 1; have hfz68_2 := blk_frozen BK656.out 2; obtain ⟨Ao69, co69, eo69⟩ := Kd.R_slice HO695.out; subst eo69; have hnb70 := NB649_0.out; have hnc70 := NB0_649.out; have hcz71_0 := bz BK649.out 0 (.int .i64 0); have hcz71_1 := bz BK649.out 1 (.int .i64 0); have hcz71_2 := bz BK649.out 2 (.slice none 0 0); have hfz71_0 := blk_frozen BK649.out 0; have hfz71_1 := blk_frozen BK649.out 1; have hfz71_2 := blk_frozen BK649.out 2))
   refine bodyPost_ret (results_cell_row rfl _ _ gb649 29 #[.int .i64 t691, .int .i64 t692, .slice Ao69 t693.length co69] (0, 0) _ rfl (by (with_reducible repeat (first | refine blk_drewN ?_ _ | refine blk_drew ?_ | refine blk_alloc ?_ _)); refine blk_put (cs := #[.int .i64 t691, .int .i64 t692, .slice none 0 0]) ?_ 2 _ rfl; (with_reducible repeat (first | refine blk_drewN ?_ _ | refine blk_drew ?_ | refine blk_alloc ?_ _)); refine blk_put (cs := #[.int .i64 t691, .int .i64 0, .slice none 0 0]) ?_ 1 _ rfl; (with_reducible repeat (first | refine blk_drewN ?_ _ | refine blk_drew ?_ | refine blk_alloc ?_ _)); refine blk_put (cs := #[.int .i64 0, .int .i64 0, .slice none 0 0]) ?_ 0 _ rfl; (with_reducible repeat (first | refine blk_drewN ?_ _ | refine blk_drew ?_ | refine blk_alloc ?_ _)); refine blk_far ?_ NB649_656.out _; (with_reducible repeat (first | refine blk_drewN ?_ _ | refine blk_drew ?_ | refine blk_alloc ?_ _)); refine blk_far ?_ NB649_656.out _; (with_reducible repeat (first | refine blk_drewN ?_ _ | refine blk_drew ?_ | refine blk_alloc ?_ _)); refine blk_far ?_ NB649_656.out _; (with_reducible repeat (first | refine blk_drewN ?_ _ | refine blk_drew ?_ | refine blk_alloc ?_ _)); exact BK649.out) Try.underlying29 rfl (by kernel_rfl)) rfl ?_
   exact ⟨_, by first | rfl | (simp [errW_none, errW_some] <;> rfl) | (simp [*, errW_none, errW_some] <;> rfl), by (with_reducible repeat (first | apply Kd.R_alloc | apply Kd.R_drewN | apply Kd.R_drew)); exact Kd.R_mono (Kd.R_far (p := ⟨gb649, 2, none⟩) (Kd.R_far (p := ⟨gb649, 1, none⟩) (Kd.R_far (p := ⟨gb649, 0, none⟩) (Kd.R_far (p := ⟨gb656, 2, none⟩) (Kd.R_far (p := ⟨gb656, 1, none⟩) (Kd.R_far (p := ⟨gb656, 0, none⟩) (Kd.R_types (Kd.R_types HO695.out BK656.out (by decide)) BK649.out (by decide)) (fun _ hk => hk.1.2) (.int .i64 t691)) (fun _ hk => hk.1.2) (.int .i64 t692)) (fun _ hk => hk.1.2) (.slice Ao69 t693.length co69)) (fun _ hk => hk.2) (.int .i64 t691)) (fun _ hk => hk.2) (.int .i64 t692)) (fun _ hk => hk.2) (.slice Ao69 t693.length co69)) (fun _ hk => trivial), zq13, zq12, zq6⟩
end Go.Proofs.Ytpdeapefekbdpaa.Q
