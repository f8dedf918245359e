/- Texts of this claim, put together: walks of the program's functions, and plain facts. -/
import Derived.Test.YtpdeapefekbdpaaZFnTracks
import Derived.Test.YtpdeapefekbdpaaWEqStruct
import Derived.Test.YtpdeapefekbdpaaBFnTracks0
import Derived.Test.YtpdeapefekbdpaaBFnTracks4
import Derived.Test.YtpdeapefekbdpaaBFnTracks9
namespace Go.Proofs.Ytpdeapefekbdpaa.Q
open Go.RowKit Go.Proofs.YtpdeapefekbdpaaW.PrintWords Go.Proofs.YtpdeapefekbdpaaW.PrintLast Go.Proofs.YtpdeapefekbdpaaW.PrintMore
attribute [local go_sem] max2_int min2_int max_two min_two max_three min_three max_four min_four
set_option linter.unusedVariables false
set_option linter.unusedSimpArgs false
def spec_l1Cur_anyField.f (k : Nat) (s0_0 : List Int) (s0_1 : Int) (s0_2 : Int) : Option (Int × Int × List Int × Int × Int) := (spec_l1Cur_field.f k s0_0 s0_1 s0_2).bind fun bt697 => ((spec_l1Cur_pick.f s0_0 bt697.2.2.2.1 bt697.2.2.2.2 24).bind fun bt705 => (if bt705.1 = 0 then ((spec_l1Cur_among.f s0_0 bt705.2.1 bt705.2.2 (([0, 9, 8, bt697.2.1] : List Int))).bind fun bt711 => (some (bt711.1, bt697.2.1, bt697.2.2.1, bt711.2.1, bt711.2.2))) else (if bt705.1 = 1 then ((spec_l1Cur_pick.f s0_0 bt705.2.1 bt705.2.2 (bt697.2.2.1.length : Int)).bind fun bt714 => ((spec_l1Cur_among.f s0_0 bt714.2.1 bt714.2.2 (([9001, (-9001), (-9998), (-9999)] : List Int))).bind fun bt720 => (if 0 ≤ bt714.1 then (if bt714.1 < (bt697.2.2.1.length : Int) then (some (bt697.1, bt697.2.1, (bt697.2.2.1.set (bt714.1 : Int).toNat bt720.1), bt720.2.1, bt720.2.2)) else (none)) else (none)))) else (if bt705.1 = 2 then (if 1 ≤ (bt697.2.2.1.length : Int) then (some (bt697.1, bt697.2.1, (bt697.2.2.1.drop (1 : Int).toNat), bt705.2.1, bt705.2.2)) else (none)) else (some (bt697.1, bt697.2.1, bt697.2.2.1, bt705.2.1, bt705.2.2))))))
def spec_l1Cur_anyField.T6 : Bool × List (List Nat × List Nat) := (true, [([], []), ([0], [0]), ([], []), ([], []), ([3], [3]), ([4], [4]), ([2, 5], [2, 5]), ([], []), ([], []), ([7, 8, 6], [7, 8]), ([1, 6, 0, 1, 2, 3, 4, 5, 6, 7, 8, 9], [1, 6]), ([10, 9, 9, 0, 1, 2, 3, 4, 5, 6, 7, 8, 9], [9, 10])])
def spec_l1Cur_anyField.B6 : List Nat := [0, 1, 0, 0, 8, 24, 60, 0, 0, 508, 1023, 2047]
theorem spec_l1Cur_anyField.tab6 : rtab .any (opsOf Try.f77 6) = spec_l1Cur_anyField.T6 := by kernel_rfl
theorem spec_l1Cur_anyField.bits6 : waitsOk spec_l1Cur_anyField.T6.2 spec_l1Cur_anyField.B6 = true := by kernel_rfl
set_option maxHeartbeats 8000000 in
set_option maxRecDepth 100000 in
theorem spec_l1Cur_anyField.calls (k : Nat) (g : Nat) (s0_0 : List Int) (s0_1 : Int) (s0_2 : Int) (r1 : Int) (r2 : Int) (r3 : List Int) (r4 : Int) (r5 : Int) (w0 w : World) (hI : IsS63 w0 w g s0_0 s0_1 s0_2) (hB : Below w0.heap.size w0 w) (h : spec_l1Cur_anyField.f k s0_0 s0_1 s0_2 = some (r1, r2, r3, r4, r5)) :
  Calls Try.prog 77 #[.pointer (some ⟨g, 0, none⟩)] w fun e w' => ∃ v2_ : Value, e = .returned (.agg #[.int .i64 r1, .int .i64 r2, v2_]) ∧ Kd.Q (Kd.int .i64) 3 w' w.heap.size (fun _ => True) v2_ r3 ∧ IsS63 w0 w' g s0_0 r4 r5 ∧ Below w0.heap.size w0 w' ∧ KeepBut w w' g none := by
 have hu29 := Try.underlying29
 have HI0 := Aside0.mk hI
 have HK := Aside0.mk (KeepBut.refl w g none)
 have HL := Aside0.mk hB.size
 clear hI
 have HW0 := Aside0.mk hB.size
 have HB := Aside0.mk hB
 clear hB
 have H : ((spec_l1Cur_field.f k s0_0 s0_1 s0_2).bind fun bt697 => ((spec_l1Cur_pick.f s0_0 bt697.2.2.2.1 bt697.2.2.2.2 24).bind fun bt705 => (if bt705.1 = 0 then ((spec_l1Cur_among.f s0_0 bt705.2.1 bt705.2.2 (([0, 9, 8, bt697.2.1] : List Int))).bind fun bt711 => (some (bt711.1, bt697.2.1, bt697.2.2.1, bt711.2.1, bt711.2.2))) else (if bt705.1 = 1 then ((spec_l1Cur_pick.f s0_0 bt705.2.1 bt705.2.2 (bt697.2.2.1.length : Int)).bind fun bt714 => ((spec_l1Cur_among.f s0_0 bt714.2.1 bt714.2.2 (([9001, (-9001), (-9998), (-9999)] : List Int))).bind fun bt720 => (if 0 ≤ bt714.1 then (if bt714.1 < (bt697.2.2.1.length : Int) then (some (bt697.1, bt697.2.1, (bt697.2.2.1.set (bt714.1 : Int).toNat bt720.1), bt720.2.1, bt720.2.2)) else (none)) else (none)))) else (if bt705.1 = 2 then (if 1 ≤ (bt697.2.2.1.length : Int) then (some (bt697.1, bt697.2.1, (bt697.2.2.1.drop (1 : Int).toNat), bt705.2.1, bt705.2.2)) else (none)) else (some (bt697.1, bt697.2.1, bt697.2.2.1, bt705.2.1, bt705.2.2))))))) = some (r1, r2, r3, r4, r5) := h
 clear h
 replace H := Option.bind_eq_some_iff.mp H
 obtain ⟨⟨t697, t698, t699, t702, t703⟩, A20, H⟩ := H
 replace H : ((spec_l1Cur_pick.f s0_0 t702 t703 24).bind fun bt705 => (if bt705.1 = 0 then ((spec_l1Cur_among.f s0_0 bt705.2.1 bt705.2.2 (([0, 9, 8, t698] : List Int))).bind fun bt711 => (some (bt711.1, t698, t699, bt711.2.1, bt711.2.2))) else (if bt705.1 = 1 then ((spec_l1Cur_pick.f s0_0 bt705.2.1 bt705.2.2 (t699.length : Int)).bind fun bt714 => ((spec_l1Cur_among.f s0_0 bt714.2.1 bt714.2.2 (([9001, (-9001), (-9998), (-9999)] : List Int))).bind fun bt720 => (if 0 ≤ bt714.1 then (if bt714.1 < (t699.length : Int) then (some (t697, t698, (t699.set (bt714.1 : Int).toNat bt720.1), bt720.2.1, bt720.2.2)) else (none)) else (none)))) else (if bt705.1 = 2 then (if 1 ≤ (t699.length : Int) then (some (t697, t698, (t699.drop (1 : Int).toNat), bt705.2.1, bt705.2.2)) else (none)) else (some (t697, t698, t699, bt705.2.1, bt705.2.2)))))) = some (r1, r2, r3, r4, r5) := H
 have A2 := Aside0.mk A20
 clear A20
 replace H := Option.bind_eq_some_iff.mp H
 obtain ⟨⟨t705, t706, t707⟩, A30, H⟩ := H
 replace H : (if t705 = 0 then ((spec_l1Cur_among.f s0_0 t706 t707 (([0, 9, 8, t698] : List Int))).bind fun bt711 => (some (bt711.1, t698, t699, bt711.2.1, bt711.2.2))) else (if t705 = 1 then ((spec_l1Cur_pick.f s0_0 t706 t707 (t699.length : Int)).bind fun bt714 => ((spec_l1Cur_among.f s0_0 bt714.2.1 bt714.2.2 (([9001, (-9001), (-9998), (-9999)] : List Int))).bind fun bt720 => (if 0 ≤ bt714.1 then (if bt714.1 < (t699.length : Int) then (some (t697, t698, (t699.set (bt714.1 : Int).toNat bt720.1), bt720.2.1, bt720.2.2)) else (none)) else (none)))) else (if t705 = 2 then (if 1 ≤ (t699.length : Int) then (some (t697, t698, (t699.drop (1 : Int).toNat), t706, t707)) else (none)) else (some (t697, t698, t699, t706, t707))))) = some (r1, r2, r3, r4, r5) := H
 have A3 := Aside0.mk A30
 clear A30
 by_cases c4 : t705 = 0
 case pos =>
  rw [if_pos c4] at H
  have c4b0 : (t705 == 0) = true := beq_iff_eq.mpr c4
  have c4b1 : (t705 != 0) = false := bne_eq_false_iff_eq.mpr c4
  clear c4
  obtain ⟨y708, hy708⟩ : ∃ y_ : List Int, y_ = (([0, 9, 8, t698] : List Int)) := ⟨_, rfl⟩
  replace H : ((spec_l1Cur_among.f s0_0 t706 t707 y708).bind fun bt711 => (some (bt711.1, t698, t699, bt711.2.1, bt711.2.2))) = some (r1, r2, r3, r4, r5) := zqH hy708 H
  have Ny708 := Aside0.mk hy708
  clear hy708
  replace H := Option.bind_eq_some_iff.mp H
  obtain ⟨⟨t711, t712, t713⟩, A50, H⟩ := H
  replace H : (some (t711, t698, t699, t712, t713)) = some (r1, r2, r3, r4, r5) := H
  have A5 := Aside0.mk A50
  clear A50
  simp only [Option.some.injEq, Prod.mk.injEq] at H
  obtain ⟨rfl, rfl, rfl, rfl, rfl⟩ := H
  go_enter Try.func77, Try.ntmps77
  go_wp2_with (first | ((with_reducible refine gate_dst (N := 2) rfl ?_); refine box_event ?hg (N := 2) ?hd (cs := #[.int .i64 0, .int .i64 0, .slice none 0 0]) (t := 29) ?hr ?_; (case hd => rfl); (case hg => rfl); (case hr => exact zqS); intro gb696 hg w6 hbox hb; replace HB := Aside0.mk (below_step zq4 hb); have BK696 := Aside0.mk (hbox); have GW696 := Aside0.mk ((by rw [hg]; exact (keep_size (w := w) (g := g) (row := none) zq3) : w.heap.size ≤ gb696)); have GE696 := Aside0.mk ((Nat.le_trans HW0.out (by rw [hg]; exact (keep_size (w := w) (g := g) (row := none) zq3) : w.heap.size ≤ gb696) : w0.heap.size ≤ gb696)); replace HK := Aside0.mk (KeepBut.trans zq3 (KeepBut.of_below hb g none) (.inl rfl)); have NB0_696 := Aside0.mk ((by rw [hg]; exact Nat.ne_of_lt (IsS63.lt (show IsS63 w0 _ g s0_0 s0_1 s0_2 from by repeat (first | (with_reducible first | exact HI0.out | apply IsS63.alloc | apply IsS63.drewN | apply IsS63.drew | apply IsS63.set_1 | apply IsS63.set_2) | exact HI0.out))) : g ≠ gb696)); have NB696_0 := Aside0.mk ((by rw [hg]; exact Nat.ne_of_gt (IsS63.lt (show IsS63 w0 _ g s0_0 s0_1 s0_2 from by repeat (first | (with_reducible first | exact HI0.out | apply IsS63.alloc | apply IsS63.drewN | apply IsS63.drew | apply IsS63.set_1 | apply IsS63.set_2) | exact HI0.out))) : gb696 ≠ g)); replace HI0 := Aside0.mk (IsS63.below zq5 hb); clear hb hbox hg) | ((with_reducible refine gate_callee (f := 89) rfl ?_); refine goesL_ (some 5) rfl rfl Try.func89 (by kernel_rfl) rfl #[.pointer (some ⟨g, 0, none⟩)] rfl zq1 ?_; (with_reducible refine (spec_l1Cur_field.calls k g s0_0 s0_1 s0_2 t697 t698 t699 t702 t703 w0 _ ?side1 ?side2 A2.out).mono ?_); (case side1 => repeat (first | (with_reducible first | exact HI0.out | apply IsS63.alloc | apply IsS63.drewN | apply IsS63.drew | apply IsS63.set_1 | apply IsS63.set_2 | refine IsS63.far ?_ NB0_696.out _) | exact HI0.out)); (case side2 => repeat (first | (with_reducible first | exact HB.out | apply below_alloc | apply pw_below_drewN | apply below_drew1 | refine below_set ?_ (IsS63.ge HI0.out) | refine below_set ?_ GE696.out) | exact HB.out)); rintro e w7 ⟨v700, rfl, ho0, hi, hb, hk⟩; refine ⟨_, rfl, ?_⟩; replace BK696 := Aside0.mk (KeepBut.blk hk (g' := gb696) (o := .cells #[.int .i64 0, .int .i64 0, .slice none 0 0] 29 (0, 0)) (zqK BK696.out) NB696_0.out (by simp)); have HO701 := Aside0.mk (Kd.R_lower ho0 (keep_size (w := w) (g := g) (row := none) zq11)); replace HK := Aside0.mk (KeepBut.trans zq11 hk (.inl rfl)); replace HB := Aside0.mk (hb); replace HI0 := Aside0.mk (hi); (try clear hb); (try clear hb2); (try clear hk); (try clear hi); (try clear ho0)) | ((with_reducible refine gate_dst (N := 3) rfl ?_); refine box_event ?hg (N := 3) ?hd (cs := #[.int .i64 0, .int .i64 0, .slice none 0 0]) (t := 29) ?hr ?_; (case hd => rfl); (case hg => rfl); (case hr => exact zqS); intro gb704 hg w8 hbox hb; replace HO701 := Aside0.mk (Kd.R_below (zqR HO701.out) hb); replace HB := Aside0.mk (below_step zq36 hb); have BK704 := Aside0.mk (hbox); have GW704 := Aside0.mk ((by rw [hg]; exact (keep_size (w := w) (g := g) (row := none) zq11) : w.heap.size ≤ gb704)); have GE704 := Aside0.mk ((Nat.le_trans HW0.out (by rw [hg]; exact (keep_size (w := w) (g := g) (row := none) zq11) : w.heap.size ≤ gb704) : w0.heap.size ≤ gb704)); replace HK := Aside0.mk (KeepBut.trans zq11 (KeepBut.of_below hb g none) (.inl rfl)); have NB696_704 := Aside0.mk ((by rw [hg]; exact Nat.ne_of_lt (blk_lt (g := gb696) (o := .cells #[.int .i64 0, .int .i64 0, .slice none 0 0] 29 (0, 0)) (zqK BK696.out)) : gb696 ≠ gb704)); have NB704_696 := Aside0.mk ((by rw [hg]; exact Nat.ne_of_gt (blk_lt (g := gb696) (o := .cells #[.int .i64 0, .int .i64 0, .slice none 0 0] 29 (0, 0)) (zqK BK696.out)) : gb704 ≠ gb696)); replace BK696 := Aside0.mk (blk_below (g := gb696) (o := .cells #[.int .i64 0, .int .i64 0, .slice none 0 0] 29 (0, 0)) (zqK BK696.out) hb); have NB0_704 := Aside0.mk ((by rw [hg]; exact Nat.ne_of_lt (IsS63.lt (show IsS63 w0 _ g s0_0 t702 t703 from by repeat (first | (with_reducible first | exact HI0.out | apply IsS63.alloc | apply IsS63.drewN | apply IsS63.drew | apply IsS63.set_1 | apply IsS63.set_2 | refine IsS63.far ?_ NB0_696.out _) | exact HI0.out))) : g ≠ gb704)); have NB704_0 := Aside0.mk ((by rw [hg]; exact Nat.ne_of_gt (IsS63.lt (show IsS63 w0 _ g s0_0 t702 t703 from by repeat (first | (with_reducible first | exact HI0.out | apply IsS63.alloc | apply IsS63.drewN | apply IsS63.drew | apply IsS63.set_1 | apply IsS63.set_2 | refine IsS63.far ?_ NB0_696.out _) | exact HI0.out))) : gb704 ≠ g)); replace HI0 := Aside0.mk (IsS63.below zq35 hb); clear hb hbox hg; have hnb9 := NB704_696.out; have hnc9 := NB696_704.out; have hnb10 := NB704_0.out; have hnc10 := NB0_704.out; have hcz11_0 := bz BK704.out 0 (.int .i64 0); have hcz11_1 := bz BK704.out 1 (.int .i64 0); have hcz11_2 := bz BK704.out 2 (.slice none 0 0); have hfz11_0 := blk_frozen BK704.out 0; have hfz11_1 := blk_frozen BK704.out 1; have hfz11_2 := blk_frozen BK704.out 2; obtain ⟨Ao12, co12, eo12⟩ := Kd.R_slice HO701.out; subst eo12) | ((with_reducible refine gate_callee (f := 37) rfl ?_); refine goesL_ (some 7) rfl rfl Try.func37 (by kernel_rfl) rfl #[.pointer (some ⟨g, 0, none⟩), .int .i64 24] rfl zq1 ?_; (with_reducible refine (spec_l1Cur_pick.calls g s0_0 t702 t703 24 t705 t706 t707 w0 _ ?side1 ?side2 A3.out).mono ?_); (case side1 => repeat (first | (with_reducible first | exact HI0.out | apply IsS63.alloc | apply IsS63.drewN | apply IsS63.drew | apply IsS63.set_1 | apply IsS63.set_2 | refine IsS63.far ?_ NB0_696.out _ | refine IsS63.far ?_ NB0_704.out _) | exact HI0.out)); (case side2 => repeat (first | (with_reducible first | exact HB.out | apply below_alloc | apply pw_below_drewN | apply below_drew1 | refine below_set ?_ (IsS63.ge HI0.out) | refine below_set ?_ GE696.out | refine below_set ?_ GE704.out) | exact HB.out)); rintro e w13 ⟨rfl, hi, hb, hk⟩; refine ⟨_, rfl, ?_⟩; replace BK696 := Aside0.mk (KeepBut.blk hk (g' := gb696) (o := .cells #[.int .i64 0, .int .i64 0, .slice none 0 0] 29 (0, 0)) zq21 NB696_0.out (by simp)); replace HO701 := Aside0.mk (Kd.R_mono (Kd.R_keep (IsS63.apart (show IsS63 w0 _ g s0_0 t702 t703 from by repeat (first | (with_reducible first | exact HI0.out | apply IsS63.alloc | apply IsS63.drewN | apply IsS63.drew | apply IsS63.set_1 | apply IsS63.set_2 | refine IsS63.far ?_ NB0_696.out _ | refine IsS63.far ?_ NB0_704.out _) | exact HI0.out)) (by (with_reducible repeat (first | apply Kd.R_alloc | apply Kd.R_drewN | apply Kd.R_drew)); exact (Kd.R_mono (Kd.R_far (p := ⟨gb704, 2, none⟩) (Kd.R_far (p := ⟨gb704, 1, none⟩) (Kd.R_far (p := ⟨gb704, 0, none⟩) (Kd.R_types HO701.out BK704.out (by decide)) (fun _ hk => hk.2) (.int .i64 t697)) (fun _ hk => hk.2) (.int .i64 t698)) (fun _ hk => hk.2) (.slice Ao12 t699.length co12)) (fun _ h_ => h_.1))) (by decide)) hk (fun _ h => h.2)) (fun _ h => h.1)); replace BK704 := Aside0.mk (KeepBut.blk hk (g' := gb704) (o := .cells #[.int .i64 t697, .int .i64 t698, .slice Ao12 t699.length co12] 29 (0, 0)) zq16 NB704_0.out (by simp)); replace HK := Aside0.mk (KeepBut.trans zq8 hk (.inl rfl)); replace HB := Aside0.mk (hb); replace HI0 := Aside0.mk (hi); (try clear hb); (try clear hb2); (try clear hk); (try clear hi); have hcz14_0 := bz BK704.out 0 (.int .i64 t697); have hcz14_1 := bz BK704.out 1 (.int .i64 t698); have hcz14_2 := bz BK704.out 2 (.slice Ao12 t699.length co12); have hfz14_0 := blk_frozen BK704.out 0; have hfz14_1 := blk_frozen BK704.out 1; have hfz14_2 := blk_frozen BK704.out 2) | ((with_reducible refine gate_dst (N := 13) rfl ?_); refine Kd.R_lit (Kd.int .i64) _ 3 ?hg (N := 13) ?hd (xs := ([0, 9, 8, t698] : List Int)) (inner := [.int .i64 0, .int .i64 9, .int .i64 8, .int .i64 t698]) (ok := fun _ => True) (okp := fun _ => True) ?hr ?hp (fun _ hk => hk) trivial (Below.refl _ _) (Nat.le_refl _) (by simp) ?_; (case hd => rfl); (case hg => rfl); (case hr => exact zqS); (case hp => exact (Reps.one (show Kd.M (Kd.int .i64) _ _ _ 0 [.int .i64 0] from rfl) (Reps.one (show Kd.M (Kd.int .i64) _ _ _ 9 [.int .i64 9] from rfl) (Reps.one (show Kd.M (Kd.int .i64) _ _ _ 8 [.int .i64 8] from rfl) (Reps.one (show Kd.M (Kd.int .i64) _ _ _ t698 [.int .i64 t698] from rfl) (Reps.none _ _)))))); intro v709 w15 ho16 hb hg_ hnew_; clear hg_ hnew_; (first | rw [← Ny708.out] at ho16 | (simp only [Int.reduceToNat] at ho16; rw [← Ny708.out] at ho16)); have HO710 := Aside0.mk (Kd.R_lower (Kd.R_new' ho16 (Kd.R_lt (zqR HO701.out))) (keep_size (w := w) (g := g) (row := none) zq8)); replace HO701 := Aside0.mk (Kd.R_elder' (zqR HO701.out) (Kd.R_base ho16) hb); replace BK696 := Aside0.mk (blk_below (g := gb696) (o := .cells #[.int .i64 0, .int .i64 0, .slice none 0 0] 29 (0, 0)) (zqK BK696.out) hb); replace BK704 := Aside0.mk (blk_below (g := gb704) (o := .cells #[.int .i64 t697, .int .i64 t698, .slice Ao12 t699.length co12] 29 (0, 0)) (zqK BK704.out) hb); replace HK := Aside0.mk (KeepBut.trans zq8 (KeepBut.of_below hb g none) (.inl rfl)); replace HB := Aside0.mk (below_step zq20 hb); replace HI0 := Aside0.mk (IsS63.below zq18 hb); clear hb ho16; obtain ⟨Ao17, co17, eo17⟩ := Kd.R_slice HO710.out; subst eo17) | ((with_reducible refine gate_callee (f := 66) rfl ?_); refine goesL_ (some 14) rfl rfl Try.func66 (by kernel_rfl) rfl #[.pointer (some ⟨g, 0, none⟩), .slice Ao17 y708.length co17] rfl zq1 ?_; (with_reducible refine (spec_l1Cur_among.calls g s0_0 t706 t707 _ _ y708 t711 t712 t713 w0 _ ?side1 ?side2 ?side3 ?side4 ?side5 A5.out).mono ?_); (case side1 => repeat (first | (with_reducible first | exact HI0.out | apply IsS63.alloc | apply IsS63.drewN | apply IsS63.drew | apply IsS63.set_1 | apply IsS63.set_2 | refine IsS63.far ?_ NB0_696.out _ | refine IsS63.far ?_ NB0_704.out _) | exact HI0.out)); (case side2 => repeat (first | (with_reducible first | exact HB.out | apply below_alloc | apply pw_below_drewN | apply below_drew1 | refine below_set ?_ (IsS63.ge HI0.out) | refine below_set ?_ GE696.out | refine below_set ?_ GE704.out) | exact HB.out)); (case side3 => exact zqC (Kd.R_reads' HO710.out).2.2); (case side4 => exact (Kd.R_reads' HO710.out).2.1); (case side5 => exact far_slice (IsS63.own_ne HI0.out HO710.out (by decide))); rintro e w18 ⟨rfl, hi, hb, hk⟩; refine ⟨_, rfl, ?_⟩; replace BK696 := Aside0.mk (KeepBut.blk hk (g' := gb696) (o := .cells #[.int .i64 0, .int .i64 0, .slice none 0 0] 29 (0, 0)) (zqK BK696.out) NB696_0.out (by simp)); replace HO701 := Aside0.mk (Kd.R_mono (Kd.R_keep (IsS63.apart (show IsS63 w0 _ g s0_0 t706 t707 from by repeat (first | (with_reducible first | exact HI0.out | apply IsS63.alloc | apply IsS63.drewN | apply IsS63.drew | apply IsS63.set_1 | apply IsS63.set_2 | refine IsS63.far ?_ NB0_696.out _ | refine IsS63.far ?_ NB0_704.out _) | exact HI0.out)) (zqR HO701.out) (by decide)) hk (fun _ h => h.2)) (fun _ h => h.1)); replace BK704 := Aside0.mk (KeepBut.blk hk (g' := gb704) (o := .cells #[.int .i64 t697, .int .i64 t698, .slice Ao12 t699.length co12] 29 (0, 0)) (zqK BK704.out) NB704_0.out (by simp)); replace HO710 := Aside0.mk (Kd.R_mono (Kd.R_keep (IsS63.apart (show IsS63 w0 _ g s0_0 t706 t707 from by repeat (first | (with_reducible first | exact HI0.out | apply IsS63.alloc | apply IsS63.drewN | apply IsS63.drew | apply IsS63.set_1 | apply IsS63.set_2 | refine IsS63.far ?_ NB0_696.out _ | refine IsS63.far ?_ NB0_704.out _) | exact HI0.out)) (zqR HO710.out) (by decide)) hk (fun _ h => h.2)) (fun _ h => h.1)); replace HK := Aside0.mk (KeepBut.trans zq8 hk (.inl rfl)); replace HB := Aside0.mk (hb); replace HI0 := Aside0.mk (hi); (try clear hb); (try clear hb2); (try clear hk); (try clear hi); have hcz19_0 := bz BK704.out 0 (.int .i64 t697); have hcz19_1 := bz BK704.out 1 (.int .i64 t698); have hcz19_2 := bz BK704.out 2 (.slice Ao12 t699.length co12); have hfz19_0 := blk_frozen BK704.out 0; have hfz19_1 := blk_frozen BK704.out 1; have hfz19_2 := blk_frozen BK704.out 2; have hnb20 := NB696_0.out; have hnc20 := NB0_696.out; have hcz21_0 := bz BK696.out 0 (.int .i64 0); have hcz21_1 := bz BK696.out 1 (.int .i64 0); have hcz21_2 := bz BK696.out 2 (.slice none 0 0); have hfz21_0 := blk_frozen BK696.out 0; have hfz21_1 := blk_frozen BK696.out 1; have hfz21_2 := blk_frozen BK696.out 2))
  refine bodyPost_ret (results_cell_row rfl _ _ gb696 29 #[.int .i64 t711, .int .i64 t698, .slice Ao12 t699.length co12] (0, 0) _ rfl (by (with_reducible repeat (first | refine blk_drewN ?_ _ | refine blk_drew ?_ | refine blk_alloc ?_ _)); refine blk_put (cs := #[.int .i64 t711, .int .i64 t698, .slice none 0 0]) ?_ 2 _ rfl; (with_reducible repeat (first | refine blk_drewN ?_ _ | refine blk_drew ?_ | refine blk_alloc ?_ _)); refine blk_put (cs := #[.int .i64 t711, .int .i64 0, .slice none 0 0]) ?_ 1 _ rfl; (with_reducible repeat (first | refine blk_drewN ?_ _ | refine blk_drew ?_ | refine blk_alloc ?_ _)); refine blk_put (cs := #[.int .i64 0, .int .i64 0, .slice none 0 0]) ?_ 0 _ rfl; (with_reducible repeat (first | refine blk_drewN ?_ _ | refine blk_drew ?_ | refine blk_alloc ?_ _)); refine blk_far ?_ NB696_704.out _; (with_reducible repeat (first | refine blk_drewN ?_ _ | refine blk_drew ?_ | refine blk_alloc ?_ _)); exact BK696.out) Try.underlying29 rfl (by kernel_rfl)) rfl ?_
  exact ⟨_, by first | rfl | (simp [errW_none, errW_some] <;> rfl) | (simp [*, errW_none, errW_some] <;> rfl), Kd.Q_of_R (by (with_reducible repeat (first | apply Kd.R_alloc | apply Kd.R_drewN | apply Kd.R_drew)); exact Kd.R_mono (Kd.R_far (p := ⟨gb696, 2, none⟩) (Kd.R_far (p := ⟨gb696, 1, none⟩) (Kd.R_far (p := ⟨gb696, 0, none⟩) (Kd.R_far (p := ⟨gb704, 0, none⟩) (Kd.R_types (Kd.R_types HO701.out BK704.out (by decide)) BK696.out (by decide)) (fun _ hk => hk.1.2) (.int .i64 t711)) (fun _ hk => hk.2) (.int .i64 t711)) (fun _ hk => hk.2) (.int .i64 t698)) (fun _ hk => hk.2) (.slice Ao12 t699.length co12)) (fun _ hk => trivial)), zq18, zq20, zq8⟩
 rw [if_neg c4] at H
 have c4b0 : (t705 == 0) = false := beq_eq_false_iff_ne.mpr c4
 have c4b1 : (t705 != 0) = true := bne_iff_ne.mpr c4
 by_cases c22 : t705 = 1
 case neg =>
  rw [if_neg c22] at H
  have c22b0 : (t705 == 1) = false := beq_eq_false_iff_ne.mpr c22
  have c22b1 : (t705 != 1) = true := bne_iff_ne.mpr c22
  by_cases c48 : t705 = 2
  case neg =>
   rw [if_neg c48] at H
   have c48b0 : (t705 == 2) = false := beq_eq_false_iff_ne.mpr c48
   have c48b1 : (t705 != 2) = true := bne_iff_ne.mpr c48
   simp only [Option.some.injEq, Prod.mk.injEq] at H
   obtain ⟨rfl, rfl, rfl, rfl, rfl⟩ := H
   go_enter Try.func77, Try.ntmps77
   go_wp2_with (first | ((with_reducible refine gate_dst (N := 2) rfl ?_); refine box_event ?hg (N := 2) ?hd (cs := #[.int .i64 0, .int .i64 0, .slice none 0 0]) (t := 29) ?hr ?_; (case hd => rfl); (case hg => rfl); (case hr => exact zqS); intro gb696 hg w62 hbox hb; replace HB := Aside0.mk (below_step zq4 hb); have BK696 := Aside0.mk (hbox); have GW696 := Aside0.mk ((by rw [hg]; exact (keep_size (w := w) (g := g) (row := none) zq3) : w.heap.size ≤ gb696)); have GE696 := Aside0.mk ((Nat.le_trans HW0.out (by rw [hg]; exact (keep_size (w := w) (g := g) (row := none) zq3) : w.heap.size ≤ gb696) : w0.heap.size ≤ gb696)); replace HK := Aside0.mk (KeepBut.trans zq3 (KeepBut.of_below hb g none) (.inl rfl)); have NB0_696 := Aside0.mk ((by rw [hg]; exact Nat.ne_of_lt (IsS63.lt (show IsS63 w0 _ g s0_0 s0_1 s0_2 from by repeat (first | (with_reducible first | exact HI0.out | apply IsS63.alloc | apply IsS63.drewN | apply IsS63.drew | apply IsS63.set_1 | apply IsS63.set_2) | exact HI0.out))) : g ≠ gb696)); have NB696_0 := Aside0.mk ((by rw [hg]; exact Nat.ne_of_gt (IsS63.lt (show IsS63 w0 _ g s0_0 s0_1 s0_2 from by repeat (first | (with_reducible first | exact HI0.out | apply IsS63.alloc | apply IsS63.drewN | apply IsS63.drew | apply IsS63.set_1 | apply IsS63.set_2) | exact HI0.out))) : gb696 ≠ g)); replace HI0 := Aside0.mk (IsS63.below zq5 hb); clear hb hbox hg) | ((with_reducible refine gate_callee (f := 89) rfl ?_); refine goesL_ (some 5) rfl rfl Try.func89 (by kernel_rfl) rfl #[.pointer (some ⟨g, 0, none⟩)] rfl zq1 ?_; (with_reducible refine (spec_l1Cur_field.calls k g s0_0 s0_1 s0_2 t697 t698 t699 t702 t703 w0 _ ?side1 ?side2 A2.out).mono ?_); (case side1 => repeat (first | (with_reducible first | exact HI0.out | apply IsS63.alloc | apply IsS63.drewN | apply IsS63.drew | apply IsS63.set_1 | apply IsS63.set_2 | refine IsS63.far ?_ NB0_696.out _) | exact HI0.out)); (case side2 => repeat (first | (with_reducible first | exact HB.out | apply below_alloc | apply pw_below_drewN | apply below_drew1 | refine below_set ?_ (IsS63.ge HI0.out) | refine below_set ?_ GE696.out) | exact HB.out)); rintro e w63 ⟨v700, rfl, ho0, hi, hb, hk⟩; refine ⟨_, rfl, ?_⟩; replace BK696 := Aside0.mk (KeepBut.blk hk (g' := gb696) (o := .cells #[.int .i64 0, .int .i64 0, .slice none 0 0] 29 (0, 0)) (zqK BK696.out) NB696_0.out (by simp)); have HO701 := Aside0.mk (Kd.R_lower ho0 (keep_size (w := w) (g := g) (row := none) zq11)); replace HK := Aside0.mk (KeepBut.trans zq11 hk (.inl rfl)); replace HB := Aside0.mk (hb); replace HI0 := Aside0.mk (hi); (try clear hb); (try clear hb2); (try clear hk); (try clear hi); (try clear ho0)) | ((with_reducible refine gate_dst (N := 3) rfl ?_); refine box_event ?hg (N := 3) ?hd (cs := #[.int .i64 0, .int .i64 0, .slice none 0 0]) (t := 29) ?hr ?_; (case hd => rfl); (case hg => rfl); (case hr => exact zqS); intro gb704 hg w64 hbox hb; replace HO701 := Aside0.mk (Kd.R_below (zqR HO701.out) hb); replace HB := Aside0.mk (below_step zq36 hb); have BK704 := Aside0.mk (hbox); have GW704 := Aside0.mk ((by rw [hg]; exact (keep_size (w := w) (g := g) (row := none) zq11) : w.heap.size ≤ gb704)); have GE704 := Aside0.mk ((Nat.le_trans HW0.out (by rw [hg]; exact (keep_size (w := w) (g := g) (row := none) zq11) : w.heap.size ≤ gb704) : w0.heap.size ≤ gb704)); replace HK := Aside0.mk (KeepBut.trans zq11 (KeepBut.of_below hb g none) (.inl rfl)); have NB696_704 := Aside0.mk ((by rw [hg]; exact Nat.ne_of_lt (blk_lt (g := gb696) (o := .cells #[.int .i64 0, .int .i64 0, .slice none 0 0] 29 (0, 0)) (zqK BK696.out)) : gb696 ≠ gb704)); have NB704_696 := Aside0.mk ((by rw [hg]; exact Nat.ne_of_gt (blk_lt (g := gb696) (o := .cells #[.int .i64 0, .int .i64 0, .slice none 0 0] 29 (0, 0)) (zqK BK696.out)) : gb704 ≠ gb696)); replace BK696 := Aside0.mk (blk_below (g := gb696) (o := .cells #[.int .i64 0, .int .i64 0, .slice none 0 0] 29 (0, 0)) (zqK BK696.out) hb); have NB0_704 := Aside0.mk ((by rw [hg]; exact Nat.ne_of_lt (IsS63.lt (show IsS63 w0 _ g s0_0 t702 t703 from by repeat (first | (with_reducible first | exact HI0.out | apply IsS63.alloc | apply IsS63.drewN | apply IsS63.drew | apply IsS63.set_1 | apply IsS63.set_2 | refine IsS63.far ?_ NB0_696.out _) | exact HI0.out))) : g ≠ gb704)); have NB704_0 := Aside0.mk ((by rw [hg]; exact Nat.ne_of_gt (IsS63.lt (show IsS63 w0 _ g s0_0 t702 t703 from by repeat (first | (with_reducible first | exact HI0.out | apply IsS63.alloc | apply IsS63.drewN | apply IsS63.drew | apply IsS63.set_1 | apply IsS63.set_2 | refine IsS63.far ?_ NB0_696.out _) | exact HI0.out))) : gb704 ≠ g)); replace HI0 := Aside0.mk (IsS63.below zq35 hb); clear hb hbox hg; have hnb65 := NB704_696.out; have hnc65 := NB696_704.out; have hnb66 := NB704_0.out; have hnc66 := NB0_704.out; have hcz67_0 := bz BK704.out 0 (.int .i64 0); have hcz67_1 := bz BK704.out 1 (.int .i64 0); have hcz67_2 := bz BK704.out 2 (.slice none 0 0); have hfz67_0 := blk_frozen BK704.out 0; have hfz67_1 := blk_frozen BK704.out 1; have hfz67_2 := blk_frozen BK704.out 2; obtain ⟨Ao68, co68, eo68⟩ := Kd.R_slice HO701.out; subst eo68) | ((with_reducible refine gate_callee (f := 37) rfl ?_); refine goesL_ (some 7) rfl rfl Try.func37 (by kernel_rfl) rfl #[.pointer (some ⟨g, 0, none⟩), .int .i64 24] rfl zq1 ?_; (with_reducible refine (spec_l1Cur_pick.calls g s0_0 t702 t703 24 t705 t706 t707 w0 _ ?side1 ?side2 A3.out).mono ?_); (case side1 => repeat (first | (with_reducible first | exact HI0.out | apply IsS63.alloc | apply IsS63.drewN | apply IsS63.drew | apply IsS63.set_1 | apply IsS63.set_2 | refine IsS63.far ?_ NB0_696.out _ | refine IsS63.far ?_ NB0_704.out _) | exact HI0.out)); (case side2 => repeat (first | (with_reducible first | exact HB.out | apply below_alloc | apply pw_below_drewN | apply below_drew1 | refine below_set ?_ (IsS63.ge HI0.out) | refine below_set ?_ GE696.out | refine below_set ?_ GE704.out) | exact HB.out)); rintro e w69 ⟨rfl, hi, hb, hk⟩; refine ⟨_, rfl, ?_⟩; replace BK696 := Aside0.mk (KeepBut.blk hk (g' := gb696) (o := .cells #[.int .i64 0, .int .i64 0, .slice none 0 0] 29 (0, 0)) zq21 NB696_0.out (by simp)); replace HO701 := Aside0.mk (Kd.R_mono (Kd.R_keep (IsS63.apart (show IsS63 w0 _ g s0_0 t702 t703 from by repeat (first | (with_reducible first | exact HI0.out | apply IsS63.alloc | apply IsS63.drewN | apply IsS63.drew | apply IsS63.set_1 | apply IsS63.set_2 | refine IsS63.far ?_ NB0_696.out _ | refine IsS63.far ?_ NB0_704.out _) | exact HI0.out)) (by (with_reducible repeat (first | apply Kd.R_alloc | apply Kd.R_drewN | apply Kd.R_drew)); exact (Kd.R_mono (Kd.R_far (p := ⟨gb704, 2, none⟩) (Kd.R_far (p := ⟨gb704, 1, none⟩) (Kd.R_far (p := ⟨gb704, 0, none⟩) (Kd.R_types HO701.out BK704.out (by decide)) (fun _ hk => hk.2) (.int .i64 t697)) (fun _ hk => hk.2) (.int .i64 t698)) (fun _ hk => hk.2) (.slice Ao68 t699.length co68)) (fun _ h_ => h_.1))) (by decide)) hk (fun _ h => h.2)) (fun _ h => h.1)); replace BK704 := Aside0.mk (KeepBut.blk hk (g' := gb704) (o := .cells #[.int .i64 t697, .int .i64 t698, .slice Ao68 t699.length co68] 29 (0, 0)) zq16 NB704_0.out (by simp)); replace HK := Aside0.mk (KeepBut.trans zq8 hk (.inl rfl)); replace HB := Aside0.mk (hb); replace HI0 := Aside0.mk (hi); (try clear hb); (try clear hb2); (try clear hk); (try clear hi); have hcz70_0 := bz BK704.out 0 (.int .i64 t697); have hcz70_1 := bz BK704.out 1 (.int .i64 t698); have hcz70_2 := bz BK704.out 2 (.slice Ao68 t699.length co68); have hfz70_0 := blk_frozen BK704.out 0; have hfz70_1 := blk_frozen BK704.out 1; have hfz70_2 := blk_frozen BK704.out 2; have hnb71 := NB696_0.out; have hnc71 := NB0_696.out; have hcz72_0 := bz BK696.out 0 (.int .i64 0); have hcz72_1 := bz BK696.out 1 (.int .i64 0); have hcz72_2 := bz BK696.out 2 (.slice none 0 0); have hfz72_0 := blk_frozen BK696.out 0; have hfz72_1 := blk_frozen BK696.out 1; have hfz72_2 := blk_frozen BK696.out 2))
   refine bodyPost_ret (results_cell_row rfl _ _ gb696 29 #[.int .i64 t697, .int .i64 t698, .slice Ao68 t699.length co68] (0, 0) _ rfl zq33 Try.underlying29 rfl (by kernel_rfl)) rfl ?_
   exact ⟨_, by first | rfl | (simp [errW_none, errW_some] <;> rfl) | (simp [*, errW_none, errW_some] <;> rfl), Kd.Q_of_R (by (with_reducible repeat (first | apply Kd.R_alloc | apply Kd.R_drewN | apply Kd.R_drew)); exact Kd.R_mono (Kd.R_far (p := ⟨gb696, 2, none⟩) (Kd.R_far (p := ⟨gb696, 1, none⟩) (Kd.R_far (p := ⟨gb696, 0, none⟩) (Kd.R_types HO701.out BK696.out (by decide)) (fun _ hk => hk.2) (.int .i64 t697)) (fun _ hk => hk.2) (.int .i64 t698)) (fun _ hk => hk.2) (.slice Ao68 t699.length co68)) (fun _ hk => trivial)), zq18, zq20, zq8⟩
  rw [if_pos c48] at H
  have c48b0 : (t705 == 2) = true := beq_iff_eq.mpr c48
  have c48b1 : (t705 != 2) = false := bne_eq_false_iff_eq.mpr c48
  clear c48
  by_cases c49 : 1 ≤ (t699.length : Int)
  case neg =>
   rw [if_neg c49] at H
   exact absurd H (by simp)
  rw [if_pos c49] at H
  have c49b0 := eq_true c49
  have c49b1 : decide (1 ≤ (t699.length : Int)) = true := decide_eq_true c49
  clear c49
  obtain ⟨y724, hy724⟩ : ∃ y_ : List Int, y_ = (t699.drop (1 : Int).toNat) := ⟨_, rfl⟩
  replace H : (some (t697, t698, y724, t706, t707)) = some (r1, r2, r3, r4, r5) := zqH hy724 H
  have Ny724 := Aside0.mk hy724
  clear hy724
  simp only [Option.some.injEq, Prod.mk.injEq] at H
  obtain ⟨rfl, rfl, rfl, rfl, rfl⟩ := H
  go_enter Try.func77, Try.ntmps77
  go_wp2_with (first | ((with_reducible refine gate_dst (N := 2) rfl ?_); refine box_event ?hg (N := 2) ?hd (cs := #[.int .i64 0, .int .i64 0, .slice none 0 0]) (t := 29) ?hr ?_; (case hd => rfl); (case hg => rfl); (case hr => exact zqS); intro gb696 hg w50 hbox hb; replace HB := Aside0.mk (below_step zq4 hb); have BK696 := Aside0.mk (hbox); have GW696 := Aside0.mk ((by rw [hg]; exact (keep_size (w := w) (g := g) (row := none) zq3) : w.heap.size ≤ gb696)); have GE696 := Aside0.mk ((Nat.le_trans HW0.out (by rw [hg]; exact (keep_size (w := w) (g := g) (row := none) zq3) : w.heap.size ≤ gb696) : w0.heap.size ≤ gb696)); replace HK := Aside0.mk (KeepBut.trans zq3 (KeepBut.of_below hb g none) (.inl rfl)); have NB0_696 := Aside0.mk ((by rw [hg]; exact Nat.ne_of_lt (IsS63.lt (show IsS63 w0 _ g s0_0 s0_1 s0_2 from by repeat (first | (with_reducible first | exact HI0.out | apply IsS63.alloc | apply IsS63.drewN | apply IsS63.drew | apply IsS63.set_1 | apply IsS63.set_2) | exact HI0.out))) : g ≠ gb696)); have NB696_0 := Aside0.mk ((by rw [hg]; exact Nat.ne_of_gt (IsS63.lt (show IsS63 w0 _ g s0_0 s0_1 s0_2 from by repeat (first | (with_reducible first | exact HI0.out | apply IsS63.alloc | apply IsS63.drewN | apply IsS63.drew | apply IsS63.set_1 | apply IsS63.set_2) | exact HI0.out))) : gb696 ≠ g)); replace HI0 := Aside0.mk (IsS63.below zq5 hb); clear hb hbox hg) | ((with_reducible refine gate_callee (f := 89) rfl ?_); refine goesL_ (some 5) rfl rfl Try.func89 (by kernel_rfl) rfl #[.pointer (some ⟨g, 0, none⟩)] rfl zq1 ?_; (with_reducible refine (spec_l1Cur_field.calls k g s0_0 s0_1 s0_2 t697 t698 t699 t702 t703 w0 _ ?side1 ?side2 A2.out).mono ?_); (case side1 => repeat (first | (with_reducible first | exact HI0.out | apply IsS63.alloc | apply IsS63.drewN | apply IsS63.drew | apply IsS63.set_1 | apply IsS63.set_2 | refine IsS63.far ?_ NB0_696.out _) | exact HI0.out)); (case side2 => repeat (first | (with_reducible first | exact HB.out | apply below_alloc | apply pw_below_drewN | apply below_drew1 | refine below_set ?_ (IsS63.ge HI0.out) | refine below_set ?_ GE696.out) | exact HB.out)); rintro e w51 ⟨v700, rfl, ho0, hi, hb, hk⟩; refine ⟨_, rfl, ?_⟩; replace BK696 := Aside0.mk (KeepBut.blk hk (g' := gb696) (o := .cells #[.int .i64 0, .int .i64 0, .slice none 0 0] 29 (0, 0)) (zqK BK696.out) NB696_0.out (by simp)); have HO701 := Aside0.mk (Kd.R_lower ho0 (keep_size (w := w) (g := g) (row := none) zq11)); replace HK := Aside0.mk (KeepBut.trans zq11 hk (.inl rfl)); replace HB := Aside0.mk (hb); replace HI0 := Aside0.mk (hi); (try clear hb); (try clear hb2); (try clear hk); (try clear hi); (try clear ho0)) | ((with_reducible refine gate_dst (N := 3) rfl ?_); refine box_event ?hg (N := 3) ?hd (cs := #[.int .i64 0, .int .i64 0, .slice none 0 0]) (t := 29) ?hr ?_; (case hd => rfl); (case hg => rfl); (case hr => exact zqS); intro gb704 hg w52 hbox hb; replace HO701 := Aside0.mk (Kd.R_below (zqR HO701.out) hb); replace HB := Aside0.mk (below_step zq36 hb); have BK704 := Aside0.mk (hbox); have GW704 := Aside0.mk ((by rw [hg]; exact (keep_size (w := w) (g := g) (row := none) zq11) : w.heap.size ≤ gb704)); have GE704 := Aside0.mk ((Nat.le_trans HW0.out (by rw [hg]; exact (keep_size (w := w) (g := g) (row := none) zq11) : w.heap.size ≤ gb704) : w0.heap.size ≤ gb704)); replace HK := Aside0.mk (KeepBut.trans zq11 (KeepBut.of_below hb g none) (.inl rfl)); have NB696_704 := Aside0.mk ((by rw [hg]; exact Nat.ne_of_lt (blk_lt (g := gb696) (o := .cells #[.int .i64 0, .int .i64 0, .slice none 0 0] 29 (0, 0)) (zqK BK696.out)) : gb696 ≠ gb704)); have NB704_696 := Aside0.mk ((by rw [hg]; exact Nat.ne_of_gt (blk_lt (g := gb696) (o := .cells #[.int .i64 0, .int .i64 0, .slice none 0 0] 29 (0, 0)) (zqK BK696.out)) : gb704 ≠ gb696)); replace BK696 := Aside0.mk (blk_below (g := gb696) (o := .cells #[.int .i64 0, .int .i64 0, .slice none 0 0] 29 (0, 0)) (zqK BK696.out) hb); have NB0_704 := Aside0.mk ((by rw [hg]; exact Nat.ne_of_lt (IsS63.lt (show IsS63 w0 _ g s0_0 t702 t703 from by repeat (first | (with_reducible first | exact HI0.out | apply IsS63.alloc | apply IsS63.drewN | apply IsS63.drew | apply IsS63.set_1 | apply IsS63.set_2 | refine IsS63.far ?_ NB0_696.out _) | exact HI0.out))) : g ≠ gb704)); have NB704_0 := Aside0.mk ((by rw [hg]; exact Nat.ne_of_gt (IsS63.lt (show IsS63 w0 _ g s0_0 t702 t703 from by repeat (first | (with_reducible first | exact HI0.out | apply IsS63.alloc | apply IsS63.drewN | apply IsS63.drew | apply IsS63.set_1 | apply IsS63.set_2 | refine IsS63.far ?_ NB0_696.out _) | exact HI0.out))) : gb704 ≠ g)); replace HI0 := Aside0.mk (IsS63.below zq35 hb); clear hb hbox hg; have hnb53 := NB704_696.out; have hnc53 := NB696_704.out; have hnb54 := NB704_0.out; have hnc54 := NB0_704.out; have hcz55_0 := bz BK704.out 0 (.int .i64 0); have hcz55_1 := bz BK704.out 1 (.int .i64 0); have hcz55_2 := bz BK704.out 2 (.slice none 0 0); have hfz55_0 := blk_frozen BK704.out 0; have hfz55_1 := blk_frozen BK704.out 1; have hfz55_2 := blk_frozen BK704.out 2; obtain ⟨Ao56, co56, eo56⟩ := Kd.R_slice HO701.out; subst eo56) | ((with_reducible refine gate_callee (f := 37) rfl ?_); refine goesL_ (some 7) rfl rfl Try.func37 (by kernel_rfl) rfl #[.pointer (some ⟨g, 0, none⟩), .int .i64 24] rfl zq1 ?_; (with_reducible refine (spec_l1Cur_pick.calls g s0_0 t702 t703 24 t705 t706 t707 w0 _ ?side1 ?side2 A3.out).mono ?_); (case side1 => repeat (first | (with_reducible first | exact HI0.out | apply IsS63.alloc | apply IsS63.drewN | apply IsS63.drew | apply IsS63.set_1 | apply IsS63.set_2 | refine IsS63.far ?_ NB0_696.out _ | refine IsS63.far ?_ NB0_704.out _) | exact HI0.out)); (case side2 => repeat (first | (with_reducible first | exact HB.out | apply below_alloc | apply pw_below_drewN | apply below_drew1 | refine below_set ?_ (IsS63.ge HI0.out) | refine below_set ?_ GE696.out | refine below_set ?_ GE704.out) | exact HB.out)); rintro e w57 ⟨rfl, hi, hb, hk⟩; refine ⟨_, rfl, ?_⟩; replace BK696 := Aside0.mk (KeepBut.blk hk (g' := gb696) (o := .cells #[.int .i64 0, .int .i64 0, .slice none 0 0] 29 (0, 0)) zq21 NB696_0.out (by simp)); replace HO701 := Aside0.mk (Kd.R_mono (Kd.R_keep (IsS63.apart (show IsS63 w0 _ g s0_0 t702 t703 from by repeat (first | (with_reducible first | exact HI0.out | apply IsS63.alloc | apply IsS63.drewN | apply IsS63.drew | apply IsS63.set_1 | apply IsS63.set_2 | refine IsS63.far ?_ NB0_696.out _ | refine IsS63.far ?_ NB0_704.out _) | exact HI0.out)) (by (with_reducible repeat (first | apply Kd.R_alloc | apply Kd.R_drewN | apply Kd.R_drew)); exact (Kd.R_mono (Kd.R_far (p := ⟨gb704, 2, none⟩) (Kd.R_far (p := ⟨gb704, 1, none⟩) (Kd.R_far (p := ⟨gb704, 0, none⟩) (Kd.R_types HO701.out BK704.out (by decide)) (fun _ hk => hk.2) (.int .i64 t697)) (fun _ hk => hk.2) (.int .i64 t698)) (fun _ hk => hk.2) (.slice Ao56 t699.length co56)) (fun _ h_ => h_.1))) (by decide)) hk (fun _ h => h.2)) (fun _ h => h.1)); replace BK704 := Aside0.mk (KeepBut.blk hk (g' := gb704) (o := .cells #[.int .i64 t697, .int .i64 t698, .slice Ao56 t699.length co56] 29 (0, 0)) zq16 NB704_0.out (by simp)); replace HK := Aside0.mk (KeepBut.trans zq8 hk (.inl rfl)); replace HB := Aside0.mk (hb); replace HI0 := Aside0.mk (hi); (try clear hb); (try clear hb2); (try clear hk); (try clear hi); have hcz58_0 := bz BK704.out 0 (.int .i64 t697); have hcz58_1 := bz BK704.out 1 (.int .i64 t698); have hcz58_2 := bz BK704.out 2 (.slice Ao56 t699.length co56); have hfz58_0 := blk_frozen BK704.out 0; have hfz58_1 := blk_frozen BK704.out 1; have hfz58_2 := blk_frozen BK704.out 2; have q59 : (1 : Int) ≤ ((t699.length : Int) : Int) := of_decide_eq_true zq2; obtain ⟨i059, hi059, _, hsz59, _⟩ := info_parts info3; have hcut59 := cut_from (P := Try.prog) 22 3 .i64 Try.underlying22 hi059 1 hsz59 Ao56 t699.length co56 1 (by omega) q59; have hr59 := Kd.Q_drop (k := (1 : Int).toNat) (Kd.Q_of_R HO701.out) (by omega); obtain ⟨A59, hA59⟩ : ∃ A1, A1 = (if co56 = (1 : Int).toNat then Ao56 else (Ao56 : Option Addr).map (·.add ((1 : Int).toNat * 1))) := ⟨_, rfl⟩; obtain ⟨c59, hc59⟩ : ∃ c1, c1 = co56 - (1 : Int).toNat := ⟨_, rfl⟩; have hy59 : y724.length = t699.length - (1 : Int).toNat := (by rw [Ny724.out, List.length_drop]); rw [← Ny724.out] at hr59; rw [← hy59, ← hA59, ← hc59] at hcut59; replace hr59 : Kd.Q (Kd.int .i64) 3 w57 w.heap.size (fun _ => True) (.slice A59 y724.length c59) y724 := (by rw [hA59, hc59, hy59]; exact hr59); have HE59 : Aside0 ((Value.slice A59 y724.length c59).ownBlock = (.slice Ao56 t699.length co56 : Value).ownBlock) := ⟨by rw [hA59]; split <;> (cases (Ao56 : Option Addr) <;> rfl)⟩; clear hy59 hi059 hsz59 HO701 hA59 hc59; have HO726 := Aside0.mk hr59; clear hr59; replace q59 := eq_true q59; have hnb60 := NB696_0.out; have hnc60 := NB0_696.out; have hcz61_0 := bz BK696.out 0 (.int .i64 0); have hcz61_1 := bz BK696.out 1 (.int .i64 0); have hcz61_2 := bz BK696.out 2 (.slice none 0 0); have hfz61_0 := blk_frozen BK696.out 0; have hfz61_1 := blk_frozen BK696.out 1; have hfz61_2 := blk_frozen BK696.out 2))
  refine bodyPost_ret (results_cell_row rfl _ _ gb696 29 #[.int .i64 t697, .int .i64 t698, .slice A59 y724.length c59] (0, 0) _ rfl (by (with_reducible repeat (first | refine blk_drewN ?_ _ | refine blk_drew ?_ | refine blk_alloc ?_ _)); refine blk_put (cs := #[.int .i64 t697, .int .i64 t698, .slice none 0 0]) ?_ 2 _ rfl; (with_reducible repeat (first | refine blk_drewN ?_ _ | refine blk_drew ?_ | refine blk_alloc ?_ _)); refine blk_put (cs := #[.int .i64 t697, .int .i64 0, .slice none 0 0]) ?_ 1 _ rfl; (with_reducible repeat (first | refine blk_drewN ?_ _ | refine blk_drew ?_ | refine blk_alloc ?_ _)); refine blk_put (cs := #[.int .i64 0, .int .i64 0, .slice none 0 0]) ?_ 0 _ rfl; (with_reducible repeat (first | refine blk_drewN ?_ _ | refine blk_drew ?_ | refine blk_alloc ?_ _)); refine blk_far ?_ NB696_704.out _; (with_reducible repeat (first | refine blk_drewN ?_ _ | refine blk_drew ?_ | refine blk_alloc ?_ _)); exact BK696.out) Try.underlying29 rfl (by kernel_rfl)) rfl ?_
  exact ⟨_, by first | rfl | (simp [errW_none, errW_some] <;> rfl) | (simp [*, errW_none, errW_some] <;> rfl), by (with_reducible repeat (first | apply Kd.Q_alloc | apply Kd.Q_drewN | apply Kd.Q_drew)); exact Kd.Q_mono (Kd.Q_far (p := ⟨gb696, 2, none⟩) (Kd.Q_far (p := ⟨gb696, 1, none⟩) (Kd.Q_far (p := ⟨gb696, 0, none⟩) (Kd.Q_far (p := ⟨gb704, 2, none⟩) (Kd.Q_types (Kd.Q_types HO726.out BK704.out (by decide)) BK696.out (by decide)) (fun _ hk => hk.1.2) (.slice A59 y724.length c59)) (fun _ hk => hk.2) (.int .i64 t697)) (fun _ hk => hk.2) (.int .i64 t698)) (fun _ hk => hk.2) (.slice A59 y724.length c59)) (fun _ hk => trivial), zq18, zq20, zq8⟩
 rw [if_pos c22] at H
 have c22b0 : (t705 == 1) = true := beq_iff_eq.mpr c22
 have c22b1 : (t705 != 1) = false := bne_eq_false_iff_eq.mpr c22
 clear c22
 replace H := Option.bind_eq_some_iff.mp H
 obtain ⟨⟨t714, t715, t716⟩, A230, H⟩ := H
 replace H : ((spec_l1Cur_among.f s0_0 t715 t716 (([9001, (-9001), (-9998), (-9999)] : List Int))).bind fun bt720 => (if 0 ≤ t714 then (if t714 < (t699.length : Int) then (some (t697, t698, (t699.set (t714 : Int).toNat bt720.1), bt720.2.1, bt720.2.2)) else (none)) else (none))) = some (r1, r2, r3, r4, r5) := H
 have A23 := Aside0.mk A230
 clear A230
 obtain ⟨y717, hy717⟩ : ∃ y_ : List Int, y_ = (([9001, (-9001), (-9998), (-9999)] : List Int)) := ⟨_, rfl⟩
 replace H : ((spec_l1Cur_among.f s0_0 t715 t716 y717).bind fun bt720 => (if 0 ≤ t714 then (if t714 < (t699.length : Int) then (some (t697, t698, (t699.set (t714 : Int).toNat bt720.1), bt720.2.1, bt720.2.2)) else (none)) else (none))) = some (r1, r2, r3, r4, r5) := zqH hy717 H
 have Ny717 := Aside0.mk hy717
 clear hy717
 replace H := Option.bind_eq_some_iff.mp H
 obtain ⟨⟨t720, t721, t722⟩, A240, H⟩ := H
 replace H : (if 0 ≤ t714 then (if t714 < (t699.length : Int) then (some (t697, t698, (t699.set (t714 : Int).toNat t720), t721, t722)) else (none)) else (none)) = some (r1, r2, r3, r4, r5) := H
 have A24 := Aside0.mk A240
 clear A240
 by_cases c25 : 0 ≤ t714
 case neg =>
  rw [if_neg c25] at H
  exact absurd H (by simp)
 rw [if_pos c25] at H
 have c25b0 : decide (0 ≤ t714) = true := decide_eq_true c25
 clear c25
 by_cases c26 : t714 < (t699.length : Int)
 case neg =>
  rw [if_neg c26] at H
  exact absurd H (by simp)
 rw [if_pos c26] at H
 have c26b0 : decide (t714 < (t699.length : Int)) = true := decide_eq_true c26
 clear c26
 obtain ⟨y723, hy723⟩ : ∃ y_ : List Int, y_ = (t699.set (t714 : Int).toNat t720) := ⟨_, rfl⟩
 replace H : (some (t697, t698, y723, t721, t722)) = some (r1, r2, r3, r4, r5) := zqH hy723 H
 have Ny723 := Aside0.mk hy723
 clear hy723
 simp only [Option.some.injEq, Prod.mk.injEq] at H
 obtain ⟨rfl, rfl, rfl, rfl, rfl⟩ := H
 go_enter Try.func77, Try.ntmps77
 try go_wp2_with (first | ((with_reducible refine gate_dst (N := 2) rfl ?_); refine box_event ?hg (N := 2) ?hd (cs := #[.int .i64 0, .int .i64 0, .slice none 0 0]) (t := 29) ?hr ?_; (case hd => rfl); (case hg => rfl); (case hr => exact zqS); intro gb696 hg w28 hbox hb; replace HB := Aside0.mk (below_step zq4 hb); have BK696 := Aside0.mk (hbox); have GW696 := Aside0.mk ((by rw [hg]; exact (keep_size (w := w) (g := g) (row := none) zq3) : w.heap.size ≤ gb696)); have GE696 := Aside0.mk ((Nat.le_trans HW0.out (by rw [hg]; exact (keep_size (w := w) (g := g) (row := none) zq3) : w.heap.size ≤ gb696) : w0.heap.size ≤ gb696)); replace HK := Aside0.mk (KeepBut.trans zq3 (KeepBut.of_below hb g none) (.inl rfl)); have NB0_696 := Aside0.mk ((by rw [hg]; exact Nat.ne_of_lt (IsS63.lt (show IsS63 w0 _ g s0_0 s0_1 s0_2 from by repeat (first | (with_reducible first | exact HI0.out | apply IsS63.alloc | apply IsS63.drewN | apply IsS63.drew | apply IsS63.set_1 | apply IsS63.set_2) | exact HI0.out))) : g ≠ gb696)); have NB696_0 := Aside0.mk ((by rw [hg]; exact Nat.ne_of_gt (IsS63.lt (show IsS63 w0 _ g s0_0 s0_1 s0_2 from by repeat (first | (with_reducible first | exact HI0.out | apply IsS63.alloc | apply IsS63.drewN | apply IsS63.drew | apply IsS63.set_1 | apply IsS63.set_2) | exact HI0.out))) : gb696 ≠ g)); replace HI0 := Aside0.mk (IsS63.below zq5 hb); clear hb hbox hg) | ((with_reducible refine gate_callee (f := 89) rfl ?_); refine goesL_ (some 5) rfl rfl Try.func89 (by kernel_rfl) rfl #[.pointer (some ⟨g, 0, none⟩)] rfl zq1 ?_; (with_reducible refine (spec_l1Cur_field.calls k g s0_0 s0_1 s0_2 t697 t698 t699 t702 t703 w0 _ ?side1 ?side2 A2.out).mono ?_); (case side1 => repeat (first | (with_reducible first | exact HI0.out | apply IsS63.alloc | apply IsS63.drewN | apply IsS63.drew | apply IsS63.set_1 | apply IsS63.set_2 | refine IsS63.far ?_ NB0_696.out _) | exact HI0.out)); (case side2 => repeat (first | (with_reducible first | exact HB.out | apply below_alloc | apply pw_below_drewN | apply below_drew1 | refine below_set ?_ (IsS63.ge HI0.out) | refine below_set ?_ GE696.out) | exact HB.out)); rintro e w29 ⟨v700, rfl, ho0, hi, hb, hk⟩; refine ⟨_, rfl, ?_⟩; replace BK696 := Aside0.mk (KeepBut.blk hk (g' := gb696) (o := .cells #[.int .i64 0, .int .i64 0, .slice none 0 0] 29 (0, 0)) (zqK BK696.out) NB696_0.out (by simp)); have HO701 := Aside0.mk (Kd.R_lower ho0 (keep_size (w := w) (g := g) (row := none) zq11)); replace HK := Aside0.mk (KeepBut.trans zq11 hk (.inl rfl)); replace HB := Aside0.mk (hb); replace HI0 := Aside0.mk (hi); (try clear hb); (try clear hb2); (try clear hk); (try clear hi); (try clear ho0)) | ((with_reducible refine gate_dst (N := 3) rfl ?_); refine box_event ?hg (N := 3) ?hd (cs := #[.int .i64 0, .int .i64 0, .slice none 0 0]) (t := 29) ?hr ?_; (case hd => rfl); (case hg => rfl); (case hr => exact zqS); intro gb704 hg w30 hbox hb; replace HO701 := Aside0.mk (Kd.R_below (zqR HO701.out) hb); replace HB := Aside0.mk (below_step zq36 hb); have BK704 := Aside0.mk (hbox); have GW704 := Aside0.mk ((by rw [hg]; exact (keep_size (w := w) (g := g) (row := none) zq11) : w.heap.size ≤ gb704)); have GE704 := Aside0.mk ((Nat.le_trans HW0.out (by rw [hg]; exact (keep_size (w := w) (g := g) (row := none) zq11) : w.heap.size ≤ gb704) : w0.heap.size ≤ gb704)); replace HK := Aside0.mk (KeepBut.trans zq11 (KeepBut.of_below hb g none) (.inl rfl)); have NB696_704 := Aside0.mk ((by rw [hg]; exact Nat.ne_of_lt (blk_lt (g := gb696) (o := .cells #[.int .i64 0, .int .i64 0, .slice none 0 0] 29 (0, 0)) (zqK BK696.out)) : gb696 ≠ gb704)); have NB704_696 := Aside0.mk ((by rw [hg]; exact Nat.ne_of_gt (blk_lt (g := gb696) (o := .cells #[.int .i64 0, .int .i64 0, .slice none 0 0] 29 (0, 0)) (zqK BK696.out)) : gb704 ≠ gb696)); replace BK696 := Aside0.mk (blk_below (g := gb696) (o := .cells #[.int .i64 0, .int .i64 0, .slice none 0 0] 29 (0, 0)) (zqK BK696.out) hb); have NB0_704 := Aside0.mk ((by rw [hg]; exact Nat.ne_of_lt (IsS63.lt (show IsS63 w0 _ g s0_0 t702 t703 from by repeat (first | (with_reducible first | exact HI0.out | apply IsS63.alloc | apply IsS63.drewN | apply IsS63.drew | apply IsS63.set_1 | apply IsS63.set_2 | refine IsS63.far ?_ NB0_696.out _) | exact HI0.out))) : g ≠ gb704)); have NB704_0 := Aside0.mk ((by rw [hg]; exact Nat.ne_of_gt (IsS63.lt (show IsS63 w0 _ g s0_0 t702 t703 from by repeat (first | (with_reducible first | exact HI0.out | apply IsS63.alloc | apply IsS63.drewN | apply IsS63.drew | apply IsS63.set_1 | apply IsS63.set_2 | refine IsS63.far ?_ NB0_696.out _) | exact HI0.out))) : gb704 ≠ g)); replace HI0 := Aside0.mk (IsS63.below zq35 hb); clear hb hbox hg; have hnb31 := NB704_696.out; have hnc31 := NB696_704.out; have hnb32 := NB704_0.out; have hnc32 := NB0_704.out; have hcz33_0 := bz BK704.out 0 (.int .i64 0); have hcz33_1 := bz BK704.out 1 (.int .i64 0); have hcz33_2 := bz BK704.out 2 (.slice none 0 0); have hfz33_0 := blk_frozen BK704.out 0; have hfz33_1 := blk_frozen BK704.out 1; have hfz33_2 := blk_frozen BK704.out 2; obtain ⟨Ao34, co34, eo34⟩ := Kd.R_slice HO701.out; subst eo34) | ((with_reducible refine gate_callee (f := 37) rfl ?_); refine goesL_ (some 7) rfl rfl Try.func37 (by kernel_rfl) rfl #[.pointer (some ⟨g, 0, none⟩), .int .i64 24] rfl zq1 ?_; (with_reducible refine (spec_l1Cur_pick.calls g s0_0 t702 t703 24 t705 t706 t707 w0 _ ?side1 ?side2 A3.out).mono ?_); (case side1 => repeat (first | (with_reducible first | exact HI0.out | apply IsS63.alloc | apply IsS63.drewN | apply IsS63.drew | apply IsS63.set_1 | apply IsS63.set_2 | refine IsS63.far ?_ NB0_696.out _ | refine IsS63.far ?_ NB0_704.out _) | exact HI0.out)); (case side2 => repeat (first | (with_reducible first | exact HB.out | apply below_alloc | apply pw_below_drewN | apply below_drew1 | refine below_set ?_ (IsS63.ge HI0.out) | refine below_set ?_ GE696.out | refine below_set ?_ GE704.out) | exact HB.out)); rintro e w35 ⟨rfl, hi, hb, hk⟩; refine ⟨_, rfl, ?_⟩; replace BK696 := Aside0.mk (KeepBut.blk hk (g' := gb696) (o := .cells #[.int .i64 0, .int .i64 0, .slice none 0 0] 29 (0, 0)) zq21 NB696_0.out (by simp)); replace HO701 := Aside0.mk (Kd.R_mono (Kd.R_keep (IsS63.apart (show IsS63 w0 _ g s0_0 t702 t703 from by repeat (first | (with_reducible first | exact HI0.out | apply IsS63.alloc | apply IsS63.drewN | apply IsS63.drew | apply IsS63.set_1 | apply IsS63.set_2 | refine IsS63.far ?_ NB0_696.out _ | refine IsS63.far ?_ NB0_704.out _) | exact HI0.out)) (by (with_reducible repeat (first | apply Kd.R_alloc | apply Kd.R_drewN | apply Kd.R_drew)); exact (Kd.R_mono (Kd.R_far (p := ⟨gb704, 2, none⟩) (Kd.R_far (p := ⟨gb704, 1, none⟩) (Kd.R_far (p := ⟨gb704, 0, none⟩) (Kd.R_types HO701.out BK704.out (by decide)) (fun _ hk => hk.2) (.int .i64 t697)) (fun _ hk => hk.2) (.int .i64 t698)) (fun _ hk => hk.2) (.slice Ao34 t699.length co34)) (fun _ h_ => h_.1))) (by decide)) hk (fun _ h => h.2)) (fun _ h => h.1)); replace BK704 := Aside0.mk (KeepBut.blk hk (g' := gb704) (o := .cells #[.int .i64 t697, .int .i64 t698, .slice Ao34 t699.length co34] 29 (0, 0)) zq16 NB704_0.out (by simp)); replace HK := Aside0.mk (KeepBut.trans zq8 hk (.inl rfl)); replace HB := Aside0.mk (hb); replace HI0 := Aside0.mk (hi); (try clear hb); (try clear hb2); (try clear hk); (try clear hi)))
 have n0_ := Aside0.mk (Kd.R_drew HO701.out)
 have n1_ := Aside0.mk (blk_drew BK696.out)
 have n2_ := Aside0.mk (blk_drew BK704.out)
 have n3_ := Aside0.mk (IsS63.drew HI0.out)
 have n4_ := Aside0.mk (keep_drew HK.out)
 have n5_ := Aside0.mk (below_drew1 HB.out)
 clear HO701
 clear BK696
 clear BK704
 clear HI0
 clear HK
 clear HB
 have HO701 := n0_
 have BK696 := n1_
 have BK704 := n2_
 have HI0 := n3_
 have HK := n4_
 have HB := n5_
 clear n0_ n1_ n2_ n3_ n4_ n5_
 refine start_ (n := 12) (S := fun w' => w'.cell? ⟨gb704, 0, none⟩ = some (.int .i64 t697) ∧ w'.cell? ⟨gb704, 1, none⟩ = some (.int .i64 t698) ∧ w'.cell? ⟨gb704, 2, none⟩ = some (.slice Ao34 t699.length co34)) (ds := [11]) #[false, false, false, false, false, false, false, false, false, false, false, false] (by kernel_rfl) rfl rfl ⟨(blk_cell BK704.out 0).trans rfl, (blk_cell BK704.out 1).trans rfl, (blk_cell BK704.out 2).trans rfl⟩ (fun hHeld => ?_); refine with_tabW spec_l1Cur_anyField.tab6 spec_l1Cur_anyField.bits6 (fun HT_ HW_ => ?_)
 generalize w35.drew = w36 at HO701 BK696 BK704 HI0 HK HB hHeld ⊢
 refine zP 0 (some 18) #[zt, zf, zf, zf, zf, zf, zf, zf, zf, zf, zf, zf] ?_ rfl rfl HT_ (Or.inl ⟨by rfl, ?_⟩) ?_ ?_ ?_
 rotate_left; · exact zqB
 rotate_left; · exact zqA
 refine zP 2 (some 20) #[zt, zf, zt, zf, zf, zf, zf, zf, zf, zf, zf, zf] ?_ rfl rfl HT_ (Or.inl ⟨by rfl, ?_⟩) ?_ ?_ ?_
 rotate_left; · exact zqB
 rotate_left; · exact zqA
 refine zP 3 (some 21) #[zt, zf, zt, zt, zf, zf, zf, zf, zf, zf, zf, zf] ?_ rfl rfl HT_ (Or.inl ⟨by rfl, ?_⟩) ?_ ?_ ?_
 rotate_left; · exact zqB
 rotate_left; · exact zqA
 refine zP 7 (some 25) #[zt, zf, zt, zt, zf, zf, zf, zt, zf, zf, zf, zf] ?_ rfl rfl HT_ (Or.inl ⟨by rfl, ?_⟩) ?_ ?_ ?_
 rotate_left; · exact zqB
 rotate_left; · exact zqA
 refine zT 1 (some 19) #[zt, zt, zt, zt, zf, zf, zf, zt, zf, zf, zf, zf] ?_ rfl rfl HT_ HW_ (Or.inl ⟨by rfl, ?_⟩) hHeld ?_ ?_ ?_
 rotate_left
 ·
  rintro w' ⟨s0, s1, s2⟩
  go_simp
  with_reducible rfl
 rotate_left; · exact zqA
 refine zT 4 (some 22) #[zt, zt, zt, zt, zt, zf, zf, zt, zf, zf, zf, zf] ?_ rfl rfl HT_ HW_ (Or.inl ⟨by rfl, ?_⟩) hHeld ?_ ?_ ?_
 rotate_left
 ·
  rintro w' ⟨s0, s1, s2⟩
  go_simp
  with_reducible rfl
 rotate_left; · exact zqA
 refine zP 5 (some 23) #[zt, zt, zt, zt, zt, zt, zf, zt, zf, zf, zf, zf] ?_ rfl rfl HT_ (Or.inl ⟨by rfl, ?_⟩) ?_ ?_ ?_
 rotate_left; · exact zqB
 rotate_left; · exact zqA
 refine join_ (σ := Value) 3 #[true, true, true, true, true, true, true, true, true, false, false, false] (fun s_ => [(24, .int .i64 t714), (26, s_)]) (fun s_ w' => (w'.cell? ⟨gb704, 0, none⟩ = some (.int .i64 t697) ∧ w'.cell? ⟨gb704, 1, none⟩ = some (.int .i64 t698) ∧ w'.cell? ⟨gb704, 2, none⟩ = some (.slice Ao34 t699.length co34)) ∧ (Kd.R (Kd.int .i64) 3 w' w.heap.size (fun k_ => some k_ ≠ (s_ : Value).ownBlock) (.slice Ao34 t699.length co34) t699) ∧ (Kd.R (Kd.int .i64) 3 w' w.heap.size (fun k_ => some k_ ≠ (.slice Ao34 t699.length co34 : Value).ownBlock) s_ y717) ∧ (w'.heap[gb696]? = some (.cells #[.int .i64 0, .int .i64 0, .slice none 0 0] 29 (0, 0))) ∧ (w'.heap[gb704]? = some (.cells #[.int .i64 t697, .int .i64 t698, .slice Ao34 t699.length co34] 29 (0, 0))) ∧ (IsS63 w0 w' g s0_0 t715 t716) ∧ (KeepBut w w' g none) ∧ (Below w0.heap.size w0 w')) ?_ ?_
 rotate_left
 ·
  intro hCont
  refine two_ (i := 6) (j := 8) (Ni := some 24) (Nj := some 26) #[true, true, true, true, true, true, true, true, false, false, false, false] #[true, true, true, true, true, true, false, true, true, false, false, false] rfl rfl rfl rfl (two_of HT_.out (by kernel_rfl)) (by decide) (by decide) (fun K hK => ?_) (fun K hK => ?_)
  ·
   skip
   refine goes_ Try.func37 (by kernel_rfl) rfl #[.pointer (some ⟨g, 0, none⟩), .int .i64 (t699.length : Int)] (by rfl) rfl rfl zq1 ?_
   with_reducible refine (spec_l1Cur_pick.calls g s0_0 t706 t707 (t699.length : Int) t714 t715 t716 w0 _ ?side1 ?side2 A23.out).mono ?_
   (case side1 => repeat (first | (with_reducible first | exact HI0.out | apply IsS63.alloc | apply IsS63.drewN | apply IsS63.drew | apply IsS63.set_1 | apply IsS63.set_2 | refine IsS63.far ?_ NB0_696.out _ | refine IsS63.far ?_ NB0_704.out _) | exact HI0.out))
   (case side2 => repeat (first | (with_reducible first | exact HB.out | apply below_alloc | apply pw_below_drewN | apply below_drew1 | refine below_set ?_ (IsS63.ge HI0.out) | refine below_set ?_ GE696.out | refine below_set ?_ GE704.out) | exact HB.out))
   rintro e w37 ⟨rfl, hi, hb, hk⟩
   refine ⟨_, rfl, ?_⟩
   have n0_ := Aside0.mk (KeepBut.blk hk (g' := gb696) (o := .cells #[.int .i64 0, .int .i64 0, .slice none 0 0] 29 (0, 0)) (zqK BK696.out) NB696_0.out (by simp))
   have n1_ := Aside0.mk (Kd.R_mono (Kd.R_keep (IsS63.apart (show IsS63 w0 _ g s0_0 t706 t707 from by repeat (first | (with_reducible first | exact HI0.out | apply IsS63.alloc | apply IsS63.drewN | apply IsS63.drew | apply IsS63.set_1 | apply IsS63.set_2 | refine IsS63.far ?_ NB0_696.out _ | refine IsS63.far ?_ NB0_704.out _) | exact HI0.out)) (zqR HO701.out) (by decide)) hk (fun _ h => h.2)) (fun _ h => h.1))
   have n2_ := Aside0.mk (KeepBut.blk hk (g' := gb704) (o := .cells #[.int .i64 t697, .int .i64 t698, .slice Ao34 t699.length co34] 29 (0, 0)) (zqK BK704.out) NB704_0.out (by simp))
   have n3_ := Aside0.mk (KeepBut.trans zq8 hk (.inl rfl))
   have n4_ := Aside0.mk (hb)
   have n5_ := Aside0.mk (hi)
   clear BK696
   clear HO701
   clear BK704
   clear HK
   clear HB
   clear HI0
   have BK696 := n0_
   have HO701 := n1_
   have BK704 := n2_
   have HK := n3_
   have HB := n4_
   have HI0 := n5_
   clear n0_ n1_ n2_ n3_ n4_ n5_
   (try clear hb)
   (try clear hb2)
   (try clear hk)
   (try clear hi)
   refine hK.out _ _ ⟨(blk_cell BK704.out 0).trans rfl, (blk_cell BK704.out 1).trans rfl, (blk_cell BK704.out 2).trans rfl⟩ (fun hHeld => ?_)
   clear hK K
   refine norm_ (a' := ?_) ?_ ?_
   rotate_left
   ·
    show Act.put _ (some 24) _ = _
    simp only [Act.put, List.setIfInBounds_toArray, List.set_cons_zero, List.set_cons_succ, i64_w, i32_w]
    rfl
   refine one_ (i := 8) (N := some 26) #[zt, zt, zt, zt, zt, zt, zt, zt, zt, zf, zf, zf] rfl rfl (one_of HT_.out (by kernel_rfl)) (by decide) (fun K hK => ?_)
   refine Kd.R_lit_step (Kd.int .i64) _ 3 ?hg (N := 26) ?hd (xs := ([9001, (-9001), (-9998), (-9999)] : List Int)) (inner := [.int .i64 9001, .int .i64 (-9001), .int .i64 (-9998), .int .i64 (-9999)]) (ok := fun _ => True) (okp := fun _ => True) ?hr ?hp (fun _ hk => hk) trivial (Below.refl _ _) (Nat.le_refl _) (by simp) ?_; (case hd => rfl); (case hg => rfl); (case hr => exact zqS); (case hp => exact (Reps.one (show Kd.M (Kd.int .i64) _ _ _ 9001 [.int .i64 9001] from rfl) (Reps.one (show Kd.M (Kd.int .i64) _ _ _ (-9001) [.int .i64 (-9001)] from rfl) (Reps.one (show Kd.M (Kd.int .i64) _ _ _ (-9998) [.int .i64 (-9998)] from rfl) (Reps.one (show Kd.M (Kd.int .i64) _ _ _ (-9999) [.int .i64 (-9999)] from rfl) (Reps.none _ _))))))
   intro v718 w38 ho39 hb hg_ hnew_
   clear hg_ hnew_
   (first | rw [← Ny717.out] at ho39 | (simp only [Int.reduceToNat] at ho39; rw [← Ny717.out] at ho39))
   have n0_ := Aside0.mk (Kd.R_elder' (zqR HO701.out) (Kd.R_base ho39) hb)
   have n1_ := Aside0.mk (Kd.R_lower (Kd.R_new' ho39 (Kd.R_lt (zqR HO701.out))) (keep_size (w := w) (g := g) (row := none) zq8))
   have n2_ := Aside0.mk (IsS63.below zq18 hb)
   have n3_ := Aside0.mk (blk_below (g := gb696) (o := .cells #[.int .i64 0, .int .i64 0, .slice none 0 0] 29 (0, 0)) (zqK BK696.out) hb)
   have n4_ := Aside0.mk (blk_below (g := gb704) (o := .cells #[.int .i64 t697, .int .i64 t698, .slice Ao34 t699.length co34] 29 (0, 0)) (zqK BK704.out) hb)
   have n5_ := Aside0.mk (KeepBut.trans zq8 (KeepBut.of_below hb g none) (.inl rfl))
   have n6_ := Aside0.mk (below_step zq20 hb)
   clear HO701
   clear HI0
   clear BK696
   clear BK704
   clear HK
   clear HB
   have HO701 := n0_
   have HO719 := n1_
   have HI0 := n2_
   have BK696 := n3_
   have BK704 := n4_
   have HK := n5_
   have HB := n6_
   clear n0_ n1_ n2_ n3_ n4_ n5_ n6_
   clear hb ho39
   refine hK.out _ _ ⟨(blk_cell BK704.out 0).trans rfl, (blk_cell BK704.out 1).trans rfl, (blk_cell BK704.out 2).trans rfl⟩ (fun hHeld => ?_)
   clear hK K
   refine norm_ (a' := ?_) ?_ ?_
   rotate_left
   ·
    show Act.put _ (some 26) _ = _
    simp only [Act.put, List.setIfInBounds_toArray, List.set_cons_zero, List.set_cons_succ, i64_w, i32_w]
    rfl
   exact norm_ (by simp only [putAll, Act.put, List.setIfInBounds_toArray, List.set_cons_zero, List.set_cons_succ]) (hCont (v718) _ ⟨hHeld, (by (with_reducible repeat (first | apply Kd.R_alloc | apply Kd.R_drewN | apply Kd.R_drew)); exact Kd.R_mono HO701.out (fun _ hk => hk.2)), (by (with_reducible repeat (first | apply Kd.R_alloc | apply Kd.R_drewN | apply Kd.R_drew)); exact Kd.R_mono HO719.out (fun _ hk => hk.2)), (zqK BK696.out), (zqK BK704.out), zq18, zq8, zq20⟩)
  ·
   skip
   refine Kd.R_lit_step (Kd.int .i64) _ 3 ?hg (N := 26) ?hd (xs := ([9001, (-9001), (-9998), (-9999)] : List Int)) (inner := [.int .i64 9001, .int .i64 (-9001), .int .i64 (-9998), .int .i64 (-9999)]) (ok := fun _ => True) (okp := fun _ => True) ?hr ?hp (fun _ hk => hk) trivial (Below.refl _ _) (Nat.le_refl _) (by simp) ?_; (case hd => rfl); (case hg => rfl); (case hr => exact zqS); (case hp => exact (Reps.one (show Kd.M (Kd.int .i64) _ _ _ 9001 [.int .i64 9001] from rfl) (Reps.one (show Kd.M (Kd.int .i64) _ _ _ (-9001) [.int .i64 (-9001)] from rfl) (Reps.one (show Kd.M (Kd.int .i64) _ _ _ (-9998) [.int .i64 (-9998)] from rfl) (Reps.one (show Kd.M (Kd.int .i64) _ _ _ (-9999) [.int .i64 (-9999)] from rfl) (Reps.none _ _))))))
   intro v718 w37 ho38 hb hg_ hnew_
   clear hg_ hnew_
   (first | rw [← Ny717.out] at ho38 | (simp only [Int.reduceToNat] at ho38; rw [← Ny717.out] at ho38))
   have n0_ := Aside0.mk (Kd.R_elder' (zqR HO701.out) (Kd.R_base ho38) hb)
   have n1_ := Aside0.mk (Kd.R_lower (Kd.R_new' ho38 (Kd.R_lt (zqR HO701.out))) (keep_size (w := w) (g := g) (row := none) zq8))
   have n2_ := Aside0.mk (IsS63.below zq18 hb)
   have n3_ := Aside0.mk (blk_below (g := gb696) (o := .cells #[.int .i64 0, .int .i64 0, .slice none 0 0] 29 (0, 0)) (zqK BK696.out) hb)
   have n4_ := Aside0.mk (blk_below (g := gb704) (o := .cells #[.int .i64 t697, .int .i64 t698, .slice Ao34 t699.length co34] 29 (0, 0)) (zqK BK704.out) hb)
   have n5_ := Aside0.mk (KeepBut.trans zq8 (KeepBut.of_below hb g none) (.inl rfl))
   have n6_ := Aside0.mk (below_step zq20 hb)
   clear HO701
   clear HI0
   clear BK696
   clear BK704
   clear HK
   clear HB
   have HO701 := n0_
   have HO719 := n1_
   have HI0 := n2_
   have BK696 := n3_
   have BK704 := n4_
   have HK := n5_
   have HB := n6_
   clear n0_ n1_ n2_ n3_ n4_ n5_ n6_
   clear hb ho38
   refine hK.out _ _ ⟨(blk_cell BK704.out 0).trans rfl, (blk_cell BK704.out 1).trans rfl, (blk_cell BK704.out 2).trans rfl⟩ (fun hHeld => ?_)
   clear hK K
   refine norm_ (a' := ?_) ?_ ?_
   rotate_left
   ·
    show Act.put _ (some 26) _ = _
    simp only [Act.put, List.setIfInBounds_toArray, List.set_cons_zero, List.set_cons_succ, i64_w, i32_w]
    rfl
   refine one_ (i := 6) (N := some 24) #[zt, zt, zt, zt, zt, zt, zt, zt, zt, zf, zf, zf] rfl rfl (one_of HT_.out (by kernel_rfl)) (by decide) (fun K hK => ?_)
   refine goes_ Try.func37 (by kernel_rfl) rfl #[.pointer (some ⟨g, 0, none⟩), .int .i64 (t699.length : Int)] (by rfl) rfl rfl zq1 ?_
   with_reducible refine (spec_l1Cur_pick.calls g s0_0 t706 t707 (t699.length : Int) t714 t715 t716 w0 _ ?side1 ?side2 A23.out).mono ?_
   (case side1 => repeat (first | (with_reducible first | exact HI0.out | apply IsS63.alloc | apply IsS63.drewN | apply IsS63.drew | apply IsS63.set_1 | apply IsS63.set_2 | refine IsS63.far ?_ NB0_696.out _ | refine IsS63.far ?_ NB0_704.out _) | exact HI0.out))
   (case side2 => repeat (first | (with_reducible first | exact HB.out | apply below_alloc | apply pw_below_drewN | apply below_drew1 | refine below_set ?_ (IsS63.ge HI0.out) | refine below_set ?_ GE696.out | refine below_set ?_ GE704.out) | exact HB.out))
   rintro e w39 ⟨rfl, hi, hb, hk⟩
   refine ⟨_, rfl, ?_⟩
   have n0_ := Aside0.mk (KeepBut.blk hk (g' := gb696) (o := .cells #[.int .i64 0, .int .i64 0, .slice none 0 0] 29 (0, 0)) (zqK BK696.out) NB696_0.out (by simp))
   have n1_ := Aside0.mk (Kd.R_mono (Kd.R_keep (IsS63.apart (show IsS63 w0 _ g s0_0 t706 t707 from by repeat (first | (with_reducible first | exact HI0.out | apply IsS63.alloc | apply IsS63.drewN | apply IsS63.drew | apply IsS63.set_1 | apply IsS63.set_2 | refine IsS63.far ?_ NB0_696.out _ | refine IsS63.far ?_ NB0_704.out _) | exact HI0.out)) (zqR HO701.out) (by decide)) hk (fun _ h => h.2)) (fun _ h => h.1))
   have n2_ := Aside0.mk (KeepBut.blk hk (g' := gb704) (o := .cells #[.int .i64 t697, .int .i64 t698, .slice Ao34 t699.length co34] 29 (0, 0)) (zqK BK704.out) NB704_0.out (by simp))
   have n3_ := Aside0.mk (Kd.R_mono (Kd.R_keep (IsS63.apart (show IsS63 w0 _ g s0_0 t706 t707 from by repeat (first | (with_reducible first | exact HI0.out | apply IsS63.alloc | apply IsS63.drewN | apply IsS63.drew | apply IsS63.set_1 | apply IsS63.set_2 | refine IsS63.far ?_ NB0_696.out _ | refine IsS63.far ?_ NB0_704.out _) | exact HI0.out)) (zqR HO719.out) (by decide)) hk (fun _ h => h.2)) (fun _ h => h.1))
   have n4_ := Aside0.mk (KeepBut.trans zq8 hk (.inl rfl))
   have n5_ := Aside0.mk (hb)
   have n6_ := Aside0.mk (hi)
   clear BK696
   clear HO701
   clear BK704
   clear HO719
   clear HK
   clear HB
   clear HI0
   have BK696 := n0_
   have HO701 := n1_
   have BK704 := n2_
   have HO719 := n3_
   have HK := n4_
   have HB := n5_
   have HI0 := n6_
   clear n0_ n1_ n2_ n3_ n4_ n5_ n6_
   (try clear hb)
   (try clear hb2)
   (try clear hk)
   (try clear hi)
   refine hK.out _ _ ⟨(blk_cell BK704.out 0).trans rfl, (blk_cell BK704.out 1).trans rfl, (blk_cell BK704.out 2).trans rfl⟩ (fun hHeld => ?_)
   clear hK K
   refine norm_ (a' := ?_) ?_ ?_
   rotate_left
   ·
    show Act.put _ (some 24) _ = _
    simp only [Act.put, List.setIfInBounds_toArray, List.set_cons_zero, List.set_cons_succ, i64_w, i32_w]
    rfl
   exact norm_ (by simp only [putAll, Act.put, List.setIfInBounds_toArray, List.set_cons_zero, List.set_cons_succ]) (hCont (v718) _ ⟨hHeld, (by (with_reducible repeat (first | apply Kd.R_alloc | apply Kd.R_drewN | apply Kd.R_drew)); exact Kd.R_mono HO701.out (fun _ hk => hk.2)), (by (with_reducible repeat (first | apply Kd.R_alloc | apply Kd.R_drewN | apply Kd.R_drew)); exact Kd.R_mono HO719.out (fun _ hk => hk.2)), (zqK BK696.out), (zqK BK704.out), zq18, zq8, zq20⟩)
 rintro v718 w40 ⟨hS_, h0_, h1_, h2_, h3_, h4_, h5_, h6_⟩
 have n0_ : Aside0 (Kd.R (Kd.int .i64) 3 w40 w.heap.size (fun k_ => some k_ ≠ (v718 : Value).ownBlock) (.slice Ao34 t699.length co34) t699) := ⟨h0_⟩
 have n1_ : Aside0 (Kd.R (Kd.int .i64) 3 w40 w.heap.size (fun k_ => some k_ ≠ (.slice Ao34 t699.length co34 : Value).ownBlock) v718 y717) := ⟨h1_⟩
 have n2_ : Aside0 (w40.heap[gb696]? = some (.cells #[.int .i64 0, .int .i64 0, .slice none 0 0] 29 (0, 0))) := ⟨h2_⟩
 have n3_ : Aside0 (w40.heap[gb704]? = some (.cells #[.int .i64 t697, .int .i64 t698, .slice Ao34 t699.length co34] 29 (0, 0))) := ⟨h3_⟩
 have n4_ : Aside0 (IsS63 w0 w40 g s0_0 t715 t716) := ⟨h4_⟩
 have n5_ : Aside0 (KeepBut w w40 g none) := ⟨h5_⟩
 have n6_ : Aside0 (Below w0.heap.size w0 w40) := ⟨h6_⟩
 clear HO701
 clear BK696
 clear BK704
 clear HI0
 clear HK
 clear HB
 clear h0_ h1_ h2_ h3_ h4_ h5_ h6_
 have HO701 := n0_
 have HO719 := n1_
 have BK696 := n2_
 have BK704 := n3_
 have HI0 := n4_
 have HK := n5_
 have HB := n6_
 clear n0_ n1_ n2_ n3_ n4_ n5_ n6_
 have hHeld : w40.cell? ⟨gb704, 0, none⟩ = some (.int .i64 t697) ∧ w40.cell? ⟨gb704, 1, none⟩ = some (.int .i64 t698) ∧ w40.cell? ⟨gb704, 2, none⟩ = some (.slice Ao34 t699.length co34) := hS_
 obtain ⟨Ao41, co41, eo41⟩ := Kd.R_slice HO719.out
 (first | subst eo41 | (injection eo41 with f1_ f2_ f3_; have f4_ := f1_.symm; have f5_ := f3_.symm; clear f1_ f2_ f3_; subst f4_; subst f5_))
 refine norm_ (a' := ?_) ?_ ?_
 rotate_left
 ·
  simp only [putAll, Act.put, List.setIfInBounds_toArray, List.set_cons_zero, List.set_cons_succ]
  rfl
 refine one_ (i := 9) (N := some 27) #[zt, zt, zt, zt, zt, zt, zt, zt, zt, zt, zf, zf] rfl rfl (one_of HT_.out (by kernel_rfl)) (by decide) (fun K hK => ?_)
 refine goes_ Try.func66 (by kernel_rfl) rfl #[.pointer (some ⟨g, 0, none⟩), .slice Ao41 y717.length co41] (by rfl) rfl rfl zq1 ?_
 with_reducible refine (spec_l1Cur_among.calls g s0_0 t715 t716 _ _ y717 t720 t721 t722 w0 _ ?side1 ?side2 ?side3 ?side4 ?side5 A24.out).mono ?_
 (case side1 => repeat (first | (with_reducible first | exact HI0.out | apply IsS63.alloc | apply IsS63.drewN | apply IsS63.drew | apply IsS63.set_1 | apply IsS63.set_2 | refine IsS63.far ?_ NB0_696.out _ | refine IsS63.far ?_ NB0_704.out _) | exact HI0.out))
 (case side2 => repeat (first | (with_reducible first | exact HB.out | apply below_alloc | apply pw_below_drewN | apply below_drew1 | refine below_set ?_ (IsS63.ge HI0.out) | refine below_set ?_ GE696.out | refine below_set ?_ GE704.out) | exact HB.out))
 (case side3 => exact zqC (Kd.R_reads' HO719.out).2.2)
 (case side4 => exact (Kd.R_reads' HO719.out).2.1)
 (case side5 => exact far_slice (IsS63.own_ne HI0.out HO719.out (by decide)))
 rintro e w42 ⟨rfl, hi, hb, hk⟩
 refine ⟨_, rfl, ?_⟩
 have n0_ := Aside0.mk (KeepBut.blk hk (g' := gb696) (o := .cells #[.int .i64 0, .int .i64 0, .slice none 0 0] 29 (0, 0)) (zqK BK696.out) NB696_0.out (by simp))
 have n1_ := Aside0.mk (Kd.R_mono (Kd.R_keep (IsS63.apart (show IsS63 w0 _ g s0_0 t715 t716 from by repeat (first | (with_reducible first | exact HI0.out | apply IsS63.alloc | apply IsS63.drewN | apply IsS63.drew | apply IsS63.set_1 | apply IsS63.set_2 | refine IsS63.far ?_ NB0_696.out _ | refine IsS63.far ?_ NB0_704.out _) | exact HI0.out)) (zqR HO701.out) (by decide)) hk (fun _ h => h.2)) (fun _ h => h.1))
 have n2_ := Aside0.mk (KeepBut.blk hk (g' := gb704) (o := .cells #[.int .i64 t697, .int .i64 t698, .slice Ao34 t699.length co34] 29 (0, 0)) (zqK BK704.out) NB704_0.out (by simp))
 have n3_ := Aside0.mk (Kd.R_mono (Kd.R_keep (IsS63.apart (show IsS63 w0 _ g s0_0 t715 t716 from by repeat (first | (with_reducible first | exact HI0.out | apply IsS63.alloc | apply IsS63.drewN | apply IsS63.drew | apply IsS63.set_1 | apply IsS63.set_2 | refine IsS63.far ?_ NB0_696.out _ | refine IsS63.far ?_ NB0_704.out _) | exact HI0.out)) (zqR HO719.out) (by decide)) hk (fun _ h => h.2)) (fun _ h => h.1))
 have n4_ := Aside0.mk (KeepBut.trans zq8 hk (.inl rfl))
 have n5_ := Aside0.mk (hb)
 have n6_ := Aside0.mk (hi)
 clear BK696
 clear HO701
 clear BK704
 clear HO719
 clear HK
 clear HB
 clear HI0
 have BK696 := n0_
 have HO701 := n1_
 have BK704 := n2_
 have HO719 := n3_
 have HK := n4_
 have HB := n5_
 have HI0 := n6_
 clear n0_ n1_ n2_ n3_ n4_ n5_ n6_
 (try clear hb)
 (try clear hb2)
 (try clear hk)
 (try clear hi)
 have p27 : 0 ≤ (t714 : Int) := of_decide_eq_true zq2
 have q27 : (t714 : Int) < ((t699.length : Int) : Int) := of_decide_eq_true zq2
 obtain ⟨go27, co27, eo27, gb27, gl27, cl27, HG27⟩ := Kd.R_form HO701.out (by omega)
 (first | cases eo27 | (injection eo27 with ea_ en_ ec_; (first | subst ea_ | (injection ea_ with ea_; subst ea_)); subst ec_; clear en_))
 have GB27 := Aside0.mk gb27
 have GG27 := Aside0.mk HG27
 clear gb27 gl27 HG27
 obtain ⟨hx27_0, hf27_0⟩ := Kd.R_celln 0 HO701.out (t714 : Int) p27 q27
 replace p27 := eq_true p27
 replace q27 := eq_true q27
 have HN0_go27 := Aside0.mk (show g ≠ go27 from by have h_ := IsS63.own_ne HI0.out HO701.out (by decide); intro e_; exact h_ (by rw [e_]; rfl))
 have HP43 := Kd.R_putn HO701.out (t714 : Int) t720
 rw [← Ny723.out] at HP43
 have HQ43 := Aside0.mk HP43
 clear HP43
 refine hK.out _ _ ⟨(blk_cell BK704.out 0).trans rfl, (blk_cell BK704.out 1).trans rfl, (blk_cell BK704.out 2).trans rfl⟩ (fun hHeld => ?_)
 clear hK K
 refine norm_ (a' := ?_) ?_ ?_
 rotate_left
 ·
  show Act.put _ (some 27) _ = _
  simp only [Act.put, List.setIfInBounds_toArray, List.set_cons_zero, List.set_cons_succ, i64_w, i32_w]
  rfl
 refine zP 10 (some 28) #[zt, zt, zt, zt, zt, zt, zt, zt, zt, zt, zt, zf] ?_ rfl rfl HT_ (Or.inl ⟨by rfl, ?_⟩) ?_ ?_ ?_
 rotate_left; · exact zqB
 rotate_left; · exact zqA
 refine last_ (i := 11) (N := none) #[true, true, true, true, true, true, true, true, true, true, true, true] rfl rfl (one_of HT_.out (by kernel_rfl)) (by decide) (fun K hK => ?_)
 refine skip_ (w1 := ?_) (by rfl) rfl ?_ ?_
 rotate_left
 ·
  go_simp
  rfl
 refine hK.out _ _ ?_
 clear hK K
 refine done_ (done_of HT_.out (by kernel_rfl)) ?_
 have n0_ : Aside0 (Kd.R (Kd.int .i64) 3 (w42.setCell ⟨go27, (t714 : Int).toNat, none⟩ (.int .i64 t720)) w.heap.size (fun k_ => some k_ ≠ (.slice Ao41 y717.length co41 : Value).ownBlock) (.slice (some ⟨go27, 0, none⟩) t699.length co34) y723) := ⟨zqR HQ43.out⟩
 have n1_ : Aside0 (Kd.R (Kd.int .i64) 3 (w42.setCell ⟨go27, (t714 : Int).toNat, none⟩ (.int .i64 t720)) w.heap.size (fun k_ => some k_ ≠ (.slice (some ⟨go27, 0, none⟩) t699.length co34 : Value).ownBlock) (.slice Ao41 y717.length co41) y717) := ⟨by (with_reducible repeat (first | apply Kd.R_alloc | apply Kd.R_drewN | apply Kd.R_drew)); exact Kd.R_mono (Kd.R_far (p := ⟨go27, (t714 : Int).toNat, none⟩) (Kd.R_mono HO719.out (fun k_ hk => (⟨hk, fun e_ => hk (by rw [e_]; rfl)⟩ : _ ∧ k_ ≠ go27))) (fun _ hk => hk.2) (.int .i64 t720)) (fun _ hk => hk.1)⟩
 have n2_ : Aside0 ((w42.setCell ⟨go27, (t714 : Int).toNat, none⟩ (.int .i64 t720)).heap[gb696]? = some (.cells #[.int .i64 0, .int .i64 0, .slice none 0 0] 29 (0, 0))) := ⟨by (with_reducible repeat (first | refine blk_drewN ?_ _ | refine blk_drew ?_ | refine blk_alloc ?_ _)); refine blk_far ?_ (by have h_ := Kd.R_ne HO701.out BK696.out (by decide); intro e_; exact h_ (by rw [e_]; rfl)) _; (with_reducible repeat (first | refine blk_drewN ?_ _ | refine blk_drew ?_ | refine blk_alloc ?_ _)); exact BK696.out⟩
 have n3_ : Aside0 ((w42.setCell ⟨go27, (t714 : Int).toNat, none⟩ (.int .i64 t720)).heap[gb704]? = some (.cells #[.int .i64 t697, .int .i64 t698, .slice (some ⟨go27, 0, none⟩) t699.length co34] 29 (0, 0))) := ⟨by (with_reducible repeat (first | refine blk_drewN ?_ _ | refine blk_drew ?_ | refine blk_alloc ?_ _)); refine blk_far ?_ (by have h_ := Kd.R_ne HO701.out BK704.out (by decide); intro e_; exact h_ (by rw [e_]; rfl)) _; (with_reducible repeat (first | refine blk_drewN ?_ _ | refine blk_drew ?_ | refine blk_alloc ?_ _)); exact BK704.out⟩
 have n4_ : Aside0 (IsS63 w0 (w42.setCell ⟨go27, (t714 : Int).toNat, none⟩ (.int .i64 t720)) g s0_0 t721 t722) := ⟨(by repeat (first | (with_reducible first | exact HI0.out | apply IsS63.alloc | apply IsS63.drewN | apply IsS63.drew | apply IsS63.set_1 | apply IsS63.set_2 | refine IsS63.far ?_ HN0_go27.out _ | refine IsS63.far ?_ NB0_696.out _ | refine IsS63.far ?_ NB0_704.out _) | exact HI0.out))⟩
 have n5_ : Aside0 (KeepBut w (w42.setCell ⟨go27, (t714 : Int).toNat, none⟩ (.int .i64 t720)) g none) := ⟨(by repeat (first | (with_reducible first | exact HK.out | apply KeepBut.set_ | apply keep_drewN | apply keep_drew | apply keep_alloc | refine keep_far ?_ GB27.out _ | refine keep_far ?_ GW696.out _ | refine keep_far ?_ GW704.out _) | exact HK.out))⟩
 have n6_ : Aside0 (Below w0.heap.size w0 (w42.setCell ⟨go27, (t714 : Int).toNat, none⟩ (.int .i64 t720))) := ⟨(by repeat (first | (with_reducible first | exact HB.out | apply below_alloc | apply pw_below_drewN | apply below_drew1 | refine below_set ?_ (Nat.le_trans HL.out GB27.out) | refine below_set ?_ (IsS63.ge HI0.out) | refine below_set ?_ GE696.out | refine below_set ?_ GE704.out) | exact HB.out))⟩
 (try clear HO701)
 (try clear HO719)
 (try clear BK696)
 (try clear BK704)
 (try clear HI0)
 (try clear HK)
 (try clear HB)
 generalize (w42.setCell ⟨go27, (t714 : Int).toNat, none⟩ (.int .i64 t720)) = w44 at n0_ n1_ n2_ n3_ n4_ n5_ n6_ ⊢
 have HO701 := n0_
 have HO719 := n1_
 have BK696 := n2_
 have BK704 := n3_
 have HI0 := n4_
 have HK := n5_
 have HB := n6_
 clear n0_ n1_ n2_ n3_ n4_ n5_ n6_
 have hcz45_0 := bz BK704.out 0 (.int .i64 t697)
 have hcz45_1 := bz BK704.out 1 (.int .i64 t698)
 have hcz45_2 := bz BK704.out 2 (.slice (some ⟨go27, 0, none⟩) t699.length co34)
 have hfz45_0 := blk_frozen BK704.out 0
 have hfz45_1 := blk_frozen BK704.out 1
 have hfz45_2 := blk_frozen BK704.out 2
 have hnb46 := NB696_0.out
 have hnc46 := NB0_696.out
 have hcz47_0 := bz BK696.out 0 (.int .i64 0)
 have hcz47_1 := bz BK696.out 1 (.int .i64 0)
 have hcz47_2 := bz BK696.out 2 (.slice none 0 0)
 have hfz47_0 := blk_frozen BK696.out 0
 have hfz47_1 := blk_frozen BK696.out 1
 have hfz47_2 := blk_frozen BK696.out 2
 try go_wp2
 refine bodyPost_ret (results_cell_row rfl _ _ gb696 29 #[.int .i64 t697, .int .i64 t698, .slice (some ⟨go27, 0, none⟩) t699.length co34] (0, 0) _ rfl zq33 Try.underlying29 rfl (by kernel_rfl)) rfl ?_
 exact ⟨_, by first | rfl | (simp [errW_none, errW_some] <;> rfl) | (simp [*, errW_none, errW_some] <;> rfl), Kd.Q_of_R (by (with_reducible repeat (first | apply Kd.R_alloc | apply Kd.R_drewN | apply Kd.R_drew)); exact Kd.R_mono (Kd.R_far (p := ⟨gb696, 2, none⟩) (Kd.R_far (p := ⟨gb696, 1, none⟩) (Kd.R_far (p := ⟨gb696, 0, none⟩) (Kd.R_types HO701.out BK696.out (by decide)) (fun _ hk => hk.2) (.int .i64 t697)) (fun _ hk => hk.2) (.int .i64 t698)) (fun _ hk => hk.2) (.slice (some ⟨go27, 0, none⟩) t699.length co34)) (fun _ hk => trivial)), zq18, zq20, zq8⟩
def spec_DrawExceeds.f (k : Nat) (l0 : List Int) : Option (Int × Int × List Int × Int) := (spec_l1Cur_anyField.f k l0 0 0).bind fun bt729 => ((spec_l1Cur_among.f l0 bt729.2.2.2.1 bt729.2.2.2.2 (([10, 20, 30, 110, (-30), 0, (-9999), 9000] : List Int))).bind fun bt739 => (some (bt729.1, bt729.2.1, bt729.2.2.1, bt739.1)))
set_option maxHeartbeats 8000000 in
set_option maxRecDepth 100000 in
theorem spec_DrawExceeds.calls (k : Nat) (A0 : Option Addr) (c0 : Nat) (l0 : List Int) (r1 : Int) (r2 : Int) (r3 : List Int) (r4 : Int) (w : World) (hr0 : Kd.C (Kd.int .u8) w A0 l0.length l0) (hc0 : l0.length ≤ c0) (h : spec_DrawExceeds.f k l0 = some (r1, r2, r3, r4)) :
  Calls Try.prog 47 #[.slice A0 l0.length c0] w fun e w' => ∃ v2_ : Value, e = .returned (.tuple #[.agg #[.int .i64 r1, .int .i64 r2, v2_], .int .i64 r4]) ∧ Kd.Q (Kd.int .i64) 3 w' w.heap.size (fun _ => True) v2_ r3 ∧ Below w.heap.size w w' := by
 have hu29 := Try.underlying29
 have hu63 := Try.underlying63
 have HR0 := Aside0.mk hr0
 have HC0 := Aside0.mk hc0
 clear hr0 hc0
 have HB := Aside0.mk (Below.refl w.heap.size w)
 have H : ((spec_l1Cur_anyField.f k l0 0 0).bind fun bt729 => ((spec_l1Cur_among.f l0 bt729.2.2.2.1 bt729.2.2.2.2 (([10, 20, 30, 110, (-30), 0, (-9999), 9000] : List Int))).bind fun bt739 => (some (bt729.1, bt729.2.1, bt729.2.2.1, bt739.1)))) = some (r1, r2, r3, r4) := h
 clear h
 replace H := Option.bind_eq_some_iff.mp H
 obtain ⟨⟨t729, t730, t731, t734, t735⟩, A20, H⟩ := H
 replace H : ((spec_l1Cur_among.f l0 t734 t735 (([10, 20, 30, 110, (-30), 0, (-9999), 9000] : List Int))).bind fun bt739 => (some (t729, t730, t731, bt739.1))) = some (r1, r2, r3, r4) := H
 have A2 := Aside0.mk A20
 clear A20
 obtain ⟨y736, hy736⟩ : ∃ y_ : List Int, y_ = (([10, 20, 30, 110, (-30), 0, (-9999), 9000] : List Int)) := ⟨_, rfl⟩
 replace H : ((spec_l1Cur_among.f l0 t734 t735 y736).bind fun bt739 => (some (t729, t730, t731, bt739.1))) = some (r1, r2, r3, r4) := zqH hy736 H
 have Ny736 := Aside0.mk hy736
 clear hy736
 replace H := Option.bind_eq_some_iff.mp H
 obtain ⟨⟨t739, t740, t741⟩, A30, H⟩ := H
 replace H : (some (t729, t730, t731, t739)) = some (r1, r2, r3, r4) := H
 have A3 := Aside0.mk A30
 clear A30
 simp only [Option.some.injEq, Prod.mk.injEq] at H
 obtain ⟨rfl, rfl, rfl, rfl⟩ := H
 go_enter Try.func47, Try.ntmps47
 go_wp2_with (first | ((with_reducible refine gate_dst (N := 2) rfl ?_); refine box_event ?hg (N := 2) ?hd (cs := #[.int .i64 0, .int .i64 0, .slice none 0 0]) (t := 29) ?hr ?_; (case hd => rfl); (case hg => rfl); (case hr => exact zqS); intro gb727 hg w4 hbox hb; have BK727 := Aside0.mk (hbox); have GW727 := Aside0.mk ((by rw [hg]; exact (below_size zq0) : w.heap.size ≤ gb727)); replace HB := Aside0.mk (below_step zq0 hb); have GE727 := GW727; clear hb hbox hg) | ((with_reducible refine gate_dst (N := 7) rfl ?_); refine box_event ?hg (N := 7) ?hd (cs := #[.slice A0 l0.length c0, .int .i64 0, .int .u64 0]) (t := 63) ?hr ?_; (case hd => rfl); (case hg => rfl); (case hr => exact zqS); intro gb728 hg w5 hbox hb; have HI728 := Aside0.mk ((show IsS63 w w5 gb728 l0 0 0 from ⟨_, _, hbox, (by rw [hg]; exact (below_size zq40) : w.heap.size ≤ gb728), HR0.out⟩)); have GW728 := Aside0.mk ((by rw [hg]; exact (below_size zq40) : w.heap.size ≤ gb728)); replace HB := Aside0.mk (below_step zq40 hb); have GE728 := GW728; have NB727_728 := Aside0.mk ((by rw [hg]; exact Nat.ne_of_lt (blk_lt (g := gb727) (o := .cells #[.int .i64 0, .int .i64 0, .slice none 0 0] 29 (0, 0)) (zqK BK727.out)) : gb727 ≠ gb728)); have NB728_727 := Aside0.mk ((by rw [hg]; exact Nat.ne_of_gt (blk_lt (g := gb727) (o := .cells #[.int .i64 0, .int .i64 0, .slice none 0 0] 29 (0, 0)) (zqK BK727.out)) : gb728 ≠ gb727)); replace BK727 := Aside0.mk (blk_below (g := gb727) (o := .cells #[.int .i64 0, .int .i64 0, .slice none 0 0] 29 (0, 0)) (zqK BK727.out) hb); clear hb hbox hg) | ((with_reducible refine gate_callee (f := 77) rfl ?_); refine goesL_ (some 9) rfl rfl Try.func77 (by kernel_rfl) rfl #[.pointer (some ⟨gb728, 0, none⟩)] rfl zq1 ?_; (with_reducible refine (spec_l1Cur_anyField.calls k gb728 l0 0 0 t729 t730 t731 t734 t735 w _ ?side1 ?side2 A2.out).mono ?_); (case side1 => repeat (first | (with_reducible first | exact HI728.out | apply IsS63.alloc | apply IsS63.drewN | apply IsS63.drew | apply IsS63.set_1 | apply IsS63.set_2 | refine IsS63.far ?_ NB728_727.out _) | exact HI728.out)); (case side2 => repeat (first | (with_reducible first | exact HB.out | apply below_alloc | apply pw_below_drewN | apply below_drew1 | refine below_set ?_ (IsS63.ge HI728.out) | refine below_set ?_ GE727.out) | exact HB.out)); rintro e w6 ⟨v732, rfl, ho0, hi, hb, hk⟩; refine ⟨_, rfl, ?_⟩; replace BK727 := Aside0.mk (KeepBut.blk hk (g' := gb727) (o := .cells #[.int .i64 0, .int .i64 0, .slice none 0 0] 29 (0, 0)) (zqK BK727.out) NB727_728.out (by simp)); have HO733 := Aside0.mk (Kd.Q_lower ho0 (below_size zq34)); replace HB := Aside0.mk (hb); replace HI728 := Aside0.mk (hi); (try clear hb); (try clear hb2); (try clear hk); (try clear hi); (try clear ho0)) | ((with_reducible refine gate_dst (N := 11) rfl ?_); refine Kd.R_lit (Kd.int .i64) _ 3 ?hg (N := 11) ?hd (xs := ([10, 20, 30, 110, (-30), 0, (-9999), 9000] : List Int)) (inner := [.int .i64 10, .int .i64 20, .int .i64 30, .int .i64 110, .int .i64 (-30), .int .i64 0, .int .i64 (-9999), .int .i64 9000]) (ok := fun _ => True) (okp := fun _ => True) ?hr ?hp (fun _ hk => hk) trivial (Below.refl _ _) (Nat.le_refl _) (by simp) ?_; (case hd => rfl); (case hg => rfl); (case hr => exact zqS); (case hp => exact (Reps.one (show Kd.M (Kd.int .i64) _ _ _ 10 [.int .i64 10] from rfl) (Reps.one (show Kd.M (Kd.int .i64) _ _ _ 20 [.int .i64 20] from rfl) (Reps.one (show Kd.M (Kd.int .i64) _ _ _ 30 [.int .i64 30] from rfl) (Reps.one (show Kd.M (Kd.int .i64) _ _ _ 110 [.int .i64 110] from rfl) (Reps.one (show Kd.M (Kd.int .i64) _ _ _ (-30) [.int .i64 (-30)] from rfl) (Reps.one (show Kd.M (Kd.int .i64) _ _ _ 0 [.int .i64 0] from rfl) (Reps.one (show Kd.M (Kd.int .i64) _ _ _ (-9999) [.int .i64 (-9999)] from rfl) (Reps.one (show Kd.M (Kd.int .i64) _ _ _ 9000 [.int .i64 9000] from rfl) (Reps.none _ _)))))))))); intro v737 w7 ho8 hb hg_ hnew_; clear hg_ hnew_; (first | rw [← Ny736.out] at ho8 | (simp only [Int.reduceToNat] at ho8; rw [← Ny736.out] at ho8)); have HO738 := Aside0.mk (Kd.R_lower (Kd.R_new' ho8 (Kd.Q_lt (by (with_reducible repeat (first | apply Kd.Q_alloc | apply Kd.Q_drewN | apply Kd.Q_drew)); exact HO733.out))) (below_size zq34)); replace HO733 := Aside0.mk (Kd.Q_elder' (by (with_reducible repeat (first | apply Kd.Q_alloc | apply Kd.Q_drewN | apply Kd.Q_drew)); exact HO733.out) (Kd.R_base ho8) hb); replace BK727 := Aside0.mk (blk_below (g := gb727) (o := .cells #[.int .i64 0, .int .i64 0, .slice none 0 0] 29 (0, 0)) (zqK BK727.out) hb); replace HB := Aside0.mk (below_step zq34 hb); replace HI728 := Aside0.mk (IsS63.below (by repeat (first | (with_reducible first | exact HI728.out | apply IsS63.alloc | apply IsS63.drewN | apply IsS63.drew | apply IsS63.set_1 | apply IsS63.set_2 | refine IsS63.far ?_ NB728_727.out _) | exact HI728.out)) hb); clear hb ho8; obtain ⟨Ao9, co9, eo9⟩ := Kd.R_slice HO738.out; subst eo9) | ((with_reducible refine gate_callee (f := 66) rfl ?_); refine goesL_ (some 12) rfl rfl Try.func66 (by kernel_rfl) rfl #[.pointer (some ⟨gb728, 0, none⟩), .slice Ao9 y736.length co9] rfl zq1 ?_; (with_reducible refine (spec_l1Cur_among.calls gb728 l0 t734 t735 _ _ y736 t739 t740 t741 w _ ?side1 ?side2 ?side3 ?side4 ?side5 A3.out).mono ?_); (case side1 => repeat (first | (with_reducible first | exact HI728.out | apply IsS63.alloc | apply IsS63.drewN | apply IsS63.drew | apply IsS63.set_1 | apply IsS63.set_2 | refine IsS63.far ?_ NB728_727.out _) | exact HI728.out)); (case side2 => repeat (first | (with_reducible first | exact HB.out | apply below_alloc | apply pw_below_drewN | apply below_drew1 | refine below_set ?_ (IsS63.ge HI728.out) | refine below_set ?_ GE727.out) | exact HB.out)); (case side3 => exact zqC (Kd.R_reads' HO738.out).2.2); (case side4 => exact (Kd.R_reads' HO738.out).2.1); (case side5 => exact far_slice (IsS63.own_ne HI728.out HO738.out (by decide))); rintro e w10 ⟨rfl, hi, hb, hk⟩; refine ⟨_, rfl, ?_⟩; replace BK727 := Aside0.mk (KeepBut.blk hk (g' := gb727) (o := .cells #[.int .i64 0, .int .i64 0, .slice none 0 0] 29 (0, 0)) (zqK BK727.out) NB727_728.out (by simp)); replace HO733 := Aside0.mk (Kd.Q_mono (Kd.Q_keep (IsS63.apartQ (show IsS63 w _ gb728 l0 t734 t735 from by repeat (first | (with_reducible first | exact HI728.out | apply IsS63.alloc | apply IsS63.drewN | apply IsS63.drew | apply IsS63.set_1 | apply IsS63.set_2 | refine IsS63.far ?_ NB728_727.out _) | exact HI728.out)) (by (with_reducible repeat (first | apply Kd.Q_alloc | apply Kd.Q_drewN | apply Kd.Q_drew)); exact HO733.out) (by decide)) hk (fun _ h => h.2)) (fun _ h => h.1)); replace HO738 := Aside0.mk (Kd.R_mono (Kd.R_keep (IsS63.apart (show IsS63 w _ gb728 l0 t734 t735 from by repeat (first | (with_reducible first | exact HI728.out | apply IsS63.alloc | apply IsS63.drewN | apply IsS63.drew | apply IsS63.set_1 | apply IsS63.set_2 | refine IsS63.far ?_ NB728_727.out _) | exact HI728.out)) (zqR HO738.out) (by decide)) hk (fun _ h => h.2)) (fun _ h => h.1)); replace HB := Aside0.mk (hb); replace HI728 := Aside0.mk (hi); (try clear hb); (try clear hb2); (try clear hk); (try clear hi); have hnb11 := NB727_728.out; have hnc11 := NB728_727.out; have hcz12_0 := bz BK727.out 0 (.int .i64 0); have hcz12_1 := bz BK727.out 1 (.int .i64 0); have hcz12_2 := bz BK727.out 2 (.slice none 0 0); have hfz12_0 := blk_frozen BK727.out 0; have hfz12_1 := blk_frozen BK727.out 1; have hfz12_2 := blk_frozen BK727.out 2; obtain ⟨Ao13, co13, eo13, _⟩ := Kd.Q_slice HO733.out; subst eo13))
 refine bodyPost_ret (results_ct rfl _ _ gb727 29 #[.int .i64 t729, .int .i64 t730, .slice Ao13 t731.length co13] (0, 0) _ rfl (by (with_reducible repeat (first | refine blk_drewN ?_ _ | refine blk_drew ?_ | refine blk_alloc ?_ _)); refine blk_put (cs := #[.int .i64 t729, .int .i64 t730, .slice none 0 0]) ?_ 2 _ rfl; (with_reducible repeat (first | refine blk_drewN ?_ _ | refine blk_drew ?_ | refine blk_alloc ?_ _)); refine blk_put (cs := #[.int .i64 t729, .int .i64 0, .slice none 0 0]) ?_ 1 _ rfl; (with_reducible repeat (first | refine blk_drewN ?_ _ | refine blk_drew ?_ | refine blk_alloc ?_ _)); refine blk_put (cs := #[.int .i64 0, .int .i64 0, .slice none 0 0]) ?_ 0 _ rfl; (with_reducible repeat (first | refine blk_drewN ?_ _ | refine blk_drew ?_ | refine blk_alloc ?_ _)); exact BK727.out) Try.underlying29 rfl (by kernel_rfl)) rfl ?_
 exact ⟨_, by first | rfl | (simp [errW_none, errW_some] <;> rfl) | (simp [*, errW_none, errW_some] <;> rfl), by (with_reducible repeat (first | apply Kd.Q_alloc | apply Kd.Q_drewN | apply Kd.Q_drew)); exact Kd.Q_mono (Kd.Q_far (p := ⟨gb727, 2, none⟩) (Kd.Q_far (p := ⟨gb727, 1, none⟩) (Kd.Q_far (p := ⟨gb727, 0, none⟩) (Kd.Q_types HO733.out BK727.out (by decide)) (fun _ hk => hk.2) (.int .i64 t729)) (fun _ hk => hk.2) (.int .i64 t730)) (fun _ hk => hk.2) (.slice Ao13 t731.length co13)) (fun _ hk => trivial), zq34⟩
def spec_DrawStormsOf.f (k : Nat) (l0 : List Int) : Option (Int × Int × List Int × Int) := (spec_DrawExceeds.f k l0).bind fun bt743 => (some (bt743.1, bt743.2.1, bt743.2.2.1, bt743.2.2.2))
set_option maxHeartbeats 8000000 in
set_option maxRecDepth 100000 in
theorem spec_DrawStormsOf.calls (k : Nat) (A0 : Option Addr) (c0 : Nat) (l0 : List Int) (r1 : Int) (r2 : Int) (r3 : List Int) (r4 : Int) (w : World) (hr0 : Kd.C (Kd.int .u8) w A0 l0.length l0) (hc0 : l0.length ≤ c0) (h : spec_DrawStormsOf.f k l0 = some (r1, r2, r3, r4)) :
  Calls Try.prog 20 #[.slice A0 l0.length c0] w fun e w' => ∃ v2_ : Value, e = .returned (.tuple #[.agg #[.int .i64 r1, .int .i64 r2, v2_], .int .i64 r4]) ∧ Kd.Q (Kd.int .i64) 3 w' w.heap.size (fun _ => True) v2_ r3 ∧ Below w.heap.size w w' := by
 have hu29 := Try.underlying29
 have HR0 := Aside0.mk hr0
 have HC0 := Aside0.mk hc0
 clear hr0 hc0
 have HB := Aside0.mk (Below.refl w.heap.size w)
 have H : ((spec_DrawExceeds.f k l0).bind fun bt743 => (some (bt743.1, bt743.2.1, bt743.2.2.1, bt743.2.2.2))) = some (r1, r2, r3, r4) := h
 clear h
 replace H := Option.bind_eq_some_iff.mp H
 obtain ⟨⟨t743, t744, t745, t748⟩, A20, H⟩ := H
 replace H : (some (t743, t744, t745, t748)) = some (r1, r2, r3, r4) := H
 have A2 := Aside0.mk A20
 clear A20
 simp only [Option.some.injEq, Prod.mk.injEq] at H
 obtain ⟨rfl, rfl, rfl, rfl⟩ := H
 go_enter Try.func20, Try.ntmps20
 go_wp2_with (first | ((with_reducible refine gate_dst (N := 2) rfl ?_); refine box_event ?hg (N := 2) ?hd (cs := #[.int .i64 0, .int .i64 0, .slice none 0 0]) (t := 29) ?hr ?_; (case hd => rfl); (case hg => rfl); (case hr => exact zqS); intro gb742 hg w3 hbox hb; have BK742 := Aside0.mk (hbox); have GW742 := Aside0.mk ((by rw [hg]; exact (below_size zq0) : w.heap.size ≤ gb742)); replace HB := Aside0.mk (below_step zq0 hb); have GE742 := GW742; clear hb hbox hg) | ((with_reducible refine gate_callee (f := 47) rfl ?_); refine goesL_ (some 5) rfl rfl Try.func47 (by kernel_rfl) rfl #[.slice A0 l0.length c0] rfl zq1 ?_; (with_reducible refine (spec_DrawExceeds.calls k _ _ l0 t743 t744 t745 t748 _ ?side1 ?side2 A2.out).mono ?_); (case side1 => exact zqC (Kd.C_below HR0.out HB.out)); (case side2 => exact HC0.out); rintro e w4 ⟨v746, rfl, ho0, hb⟩; refine ⟨_, rfl, ?_⟩; have HO747 := Aside0.mk (Kd.Q_lower ho0 (below_size zq46)); replace BK742 := Aside0.mk (blk_below (g := gb742) (o := .cells #[.int .i64 0, .int .i64 0, .slice none 0 0] 29 (0, 0)) (zqK BK742.out) hb); replace HB := Aside0.mk (below_step zq46 hb); (try clear hb); (try clear hb2); (try clear hk); (try clear hi); (try clear ho0); have hcz5_0 := bz BK742.out 0 (.int .i64 0); have hcz5_1 := bz BK742.out 1 (.int .i64 0); have hcz5_2 := bz BK742.out 2 (.slice none 0 0); have hfz5_0 := blk_frozen BK742.out 0; have hfz5_1 := blk_frozen BK742.out 1; have hfz5_2 := blk_frozen BK742.out 2; obtain ⟨Ao6, co6, eo6, _⟩ := Kd.Q_slice HO747.out; subst eo6))
 refine bodyPost_ret (results_ct rfl _ _ gb742 29 #[.int .i64 t743, .int .i64 t744, .slice Ao6 t745.length co6] (0, 0) _ rfl (by (with_reducible repeat (first | refine blk_drewN ?_ _ | refine blk_drew ?_ | refine blk_alloc ?_ _)); refine blk_put (cs := #[.int .i64 t743, .int .i64 t744, .slice none 0 0]) ?_ 2 _ rfl; (with_reducible repeat (first | refine blk_drewN ?_ _ | refine blk_drew ?_ | refine blk_alloc ?_ _)); refine blk_put (cs := #[.int .i64 t743, .int .i64 0, .slice none 0 0]) ?_ 1 _ rfl; (with_reducible repeat (first | refine blk_drewN ?_ _ | refine blk_drew ?_ | refine blk_alloc ?_ _)); refine blk_put (cs := #[.int .i64 0, .int .i64 0, .slice none 0 0]) ?_ 0 _ rfl; (with_reducible repeat (first | refine blk_drewN ?_ _ | refine blk_drew ?_ | refine blk_alloc ?_ _)); exact BK742.out) Try.underlying29 rfl (by kernel_rfl)) rfl ?_
 exact ⟨_, by first | rfl | (simp [errW_none, errW_some] <;> rfl) | (simp [*, errW_none, errW_some] <;> rfl), by (with_reducible repeat (first | apply Kd.Q_alloc | apply Kd.Q_drewN | apply Kd.Q_drew)); exact Kd.Q_mono (Kd.Q_far (p := ⟨gb742, 2, none⟩) (Kd.Q_far (p := ⟨gb742, 1, none⟩) (Kd.Q_far (p := ⟨gb742, 0, none⟩) (Kd.Q_types HO747.out BK742.out (by decide)) (fun _ hk => hk.2) (.int .i64 t743)) (fun _ hk => hk.2) (.int .i64 t744)) (fun _ hk => hk.2) (.slice Ao6 t745.length co6)) (fun _ hk => trivial), zq46⟩
theorem eqA49 (d : Nat) (w : World) (x0 y0 : Int) (x1 y1 : Int) (x2 y2 : Int) (x3 y3 : Int) :
  (Op.equalIn (d + 2) 49 (.agg #[.int .i64 x0, .int .i64 x1, .int .i64 x2, .int .i64 x3]) (.agg #[.int .i64 y0, .int .i64 y1, .int .i64 y2, .int .i64 y3])).run Try.prog w = .ok (x0 == y0 && (x1 == y1 && (x2 == y2 && (x3 == y3)))) w := by
 refine eqA_of Try.underlying49 (by kernel_rfl) ?_
 refine eqf_cons (by rfl) (by go_simp; rfl) (by go_simp; rfl) (by go_simp) ?_
 refine eqf_cons (by rfl) (by go_simp; rfl) (by go_simp; rfl) (by go_simp) ?_
 refine eqf_cons (by rfl) (by go_simp; rfl) (by go_simp; rfl) (by go_simp) ?_
 exact eqf_last (by rfl) (by go_simp; rfl) (by go_simp; rfl) (by go_simp)
end Go.Proofs.Ytpdeapefekbdpaa.Q
