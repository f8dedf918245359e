/- Texts of this claim, put together: walks of the program's functions, and plain facts. -/
import Derived.Test.YtpdeapefekbdpaaZFnTracks
import Derived.Test.YtpdeapefekbdpaaBFnTracks0
import Derived.Test.YtpdeapefekbdpaaBFnTracks5
import Derived.Test.YtpdeapefekbdpaaBFnTracks6
import Derived.Test.YtpdeapefekbdpaaBFnTracks7
namespace Go.Proofs.Ytpdeapefekbdpaa.Q
open Go.RowKit Go.Proofs.YtpdeapefekbdpaaW.PrintWords Go.Proofs.YtpdeapefekbdpaaW.PrintLast Go.Proofs.YtpdeapefekbdpaaW.PrintMore
attribute [local go_sem] max2_int min2_int max_two min_two max_three min_three max_four min_four
set_option linter.unusedVariables false
set_option linter.unusedSimpArgs false
def spec_TrackLength.f (k : Nat) (l0 : List (List (S49))) (a1 : Int) (a2 : Int) (a3 : Int) : Option (Int × Bool) := (spec_l12Lists.f k l0 a1).bind fun t604 => (if t604 = true then ((spec_l1In.f a2 0 (wrap64 ((l0.length : Int) - 1))).bind fun t605 => (if t605 = true then (if 0 ≤ a2 then (if a2 < (l0.length : Int) then ((spec_l1In.f a3 0 (wrap64 (((rd_L8 l0 a2).length : Int) - 1))).bind fun t607 => (if t607 = true then ((spec_l12Length.f k l0 a1 a2 a3).bind fun t608 => (some (t608, true))) else (some (0, false)))) else (none)) else (none)) else (some (0, false)))) else (some (0, false)))
set_option maxHeartbeats 8000000 in
set_option maxRecDepth 100000 in
theorem spec_TrackLength.calls (k : Nat) (A0 : Option Addr) (c0 : Nat) (l0 : List (List (S49))) (a1 : Int) (a2 : Int) (a3 : Int) (r1 : Int) (r2 : Bool) (w : World) (hr0 : Kd.C (Kd.slice 49 k49) w A0 l0.length l0) (hc0 : l0.length ≤ c0) (h : spec_TrackLength.f k l0 a1 a2 a3 = some (r1, r2)) :
  Calls Try.prog 17 #[.slice A0 l0.length c0, .int .i64 a1, .int .i64 a2, .int .i64 a3] w fun e w' => e = .returned (.tuple #[.int .i64 r1, .bool r2]) ∧ Below w.heap.size w w' := by
 have HR0 := Aside0.mk hr0
 have HC0 := Aside0.mk hc0
 clear hr0 hc0
 have HB := Aside0.mk (Below.refl w.heap.size w)
 have H : ((spec_l12Lists.f k l0 a1).bind fun t604 => (if t604 = true then ((spec_l1In.f a2 0 (wrap64 ((l0.length : Int) - 1))).bind fun t605 => (if t605 = true then (if 0 ≤ a2 then (if a2 < (l0.length : Int) then ((spec_l1In.f a3 0 (wrap64 (((rd_L8 l0 a2).length : Int) - 1))).bind fun t607 => (if t607 = true then ((spec_l12Length.f k l0 a1 a2 a3).bind fun t608 => (some (t608, true))) else (some (0, false)))) else (none)) else (none)) else (some (0, false)))) else (some (0, false)))) = some (r1, r2) := h
 clear h
 replace H := Option.bind_eq_some_iff.mp H
 obtain ⟨t604, A50, H⟩ := H
 replace H : (if t604 = true then ((spec_l1In.f a2 0 (wrap64 ((l0.length : Int) - 1))).bind fun t605 => (if t605 = true then (if 0 ≤ a2 then (if a2 < (l0.length : Int) then ((spec_l1In.f a3 0 (wrap64 (((rd_L8 l0 a2).length : Int) - 1))).bind fun t607 => (if t607 = true then ((spec_l12Length.f k l0 a1 a2 a3).bind fun t608 => (some (t608, true))) else (some (0, false)))) else (none)) else (none)) else (some (0, false)))) else (some (0, false))) = some (r1, r2) := H
 have A5 := Aside0.mk A50
 clear A50
 by_cases c6 : t604 = true
 case neg =>
  replace c6 := Bool.eq_false_iff.mpr c6
  subst c6
  have H1 : (some (0, false)) = some (r1, r2) := by rw [if_neg (show ¬ (false = true) by decide)] at H; exact H
  clear H
  have H := H1
  clear H1
  simp only [Option.some.injEq, Prod.mk.injEq] at H
  obtain ⟨rfl, rfl⟩ := H
  go_enter Try.func17, Try.ntmps17
  go_wp2_with (first | ((with_reducible refine gate_callee (f := 41) rfl ?_); refine goesL_ (some 12) rfl rfl Try.func41 (by kernel_rfl) rfl #[.slice A0 l0.length c0, .int .i64 a1] rfl zq1 ?_; (with_reducible refine (spec_l12Lists.calls k _ _ l0 a1 false _ ?side1 ?side2 A5.out).mono ?_); (case side1 => exact zqC HR0.out); (case side2 => exact HC0.out); rintro e w18 ⟨rfl, hb⟩; refine ⟨_, rfl, ?_⟩; replace HB := Aside0.mk (below_step zq0 hb); (try clear hb); (try clear hb2); (try clear hk); (try clear hi)))
  go_ret2
  exact ⟨zqE, zq0⟩
 subst c6
 have H1 : ((spec_l1In.f a2 0 (wrap64 ((l0.length : Int) - 1))).bind fun t605 => (if t605 = true then (if 0 ≤ a2 then (if a2 < (l0.length : Int) then ((spec_l1In.f a3 0 (wrap64 (((rd_L8 l0 a2).length : Int) - 1))).bind fun t607 => (if t607 = true then ((spec_l12Length.f k l0 a1 a2 a3).bind fun t608 => (some (t608, true))) else (some (0, false)))) else (none)) else (none)) else (some (0, false)))) = some (r1, r2) := by rw [if_pos rfl] at H; exact H
 clear H
 have H := H1
 clear H1
 replace H := Option.bind_eq_some_iff.mp H
 obtain ⟨t605, A70, H⟩ := H
 replace H : (if t605 = true then (if 0 ≤ a2 then (if a2 < (l0.length : Int) then ((spec_l1In.f a3 0 (wrap64 (((rd_L8 l0 a2).length : Int) - 1))).bind fun t607 => (if t607 = true then ((spec_l12Length.f k l0 a1 a2 a3).bind fun t608 => (some (t608, true))) else (some (0, false)))) else (none)) else (none)) else (some (0, false))) = some (r1, r2) := H
 have A7 := Aside0.mk A70
 clear A70
 by_cases c8 : t605 = true
 case neg =>
  replace c8 := Bool.eq_false_iff.mpr c8
  subst c8
  have H1 : (some (0, false)) = some (r1, r2) := by rw [if_neg (show ¬ (false = true) by decide)] at H; exact H
  clear H
  have H := H1
  clear H1
  simp only [Option.some.injEq, Prod.mk.injEq] at H
  obtain ⟨rfl, rfl⟩ := H
  go_enter Try.func17, Try.ntmps17
  go_wp2_with (first | ((with_reducible refine gate_callee (f := 41) rfl ?_); refine goesL_ (some 12) rfl rfl Try.func41 (by kernel_rfl) rfl #[.slice A0 l0.length c0, .int .i64 a1] rfl zq1 ?_; (with_reducible refine (spec_l12Lists.calls k _ _ l0 a1 true _ ?side1 ?side2 A5.out).mono ?_); (case side1 => exact zqC HR0.out); (case side2 => exact HC0.out); rintro e w17 ⟨rfl, hb⟩; refine ⟨_, rfl, ?_⟩; replace HB := Aside0.mk (below_step zq0 hb); (try clear hb); (try clear hb2); (try clear hk); (try clear hi)) | (go_at_call 42; (with_reducible refine (spec_l1In.calls a2 0 (wrap64 ((l0.length : Int) - 1)) false _ A7.out).mono ?_); rintro e w' ⟨rfl, ⟨nd, rfl⟩⟩))
  go_ret2
  exact ⟨zqE, zq0⟩
 subst c8
 have H1 : (if 0 ≤ a2 then (if a2 < (l0.length : Int) then ((spec_l1In.f a3 0 (wrap64 (((rd_L8 l0 a2).length : Int) - 1))).bind fun t607 => (if t607 = true then ((spec_l12Length.f k l0 a1 a2 a3).bind fun t608 => (some (t608, true))) else (some (0, false)))) else (none)) else (none)) = some (r1, r2) := by rw [if_pos rfl] at H; exact H
 clear H
 have H := H1
 clear H1
 by_cases c9 : 0 ≤ a2
 case neg =>
  rw [if_neg c9] at H
  exact absurd H (by simp)
 rw [if_pos c9] at H
 have c9b0 : decide (0 ≤ a2) = true := decide_eq_true c9
 clear c9
 by_cases c10 : a2 < (l0.length : Int)
 case neg =>
  rw [if_neg c10] at H
  exact absurd H (by simp)
 rw [if_pos c10] at H
 have c10b0 : decide (a2 < (l0.length : Int)) = true := decide_eq_true c10
 clear c10
 replace H := Option.bind_eq_some_iff.mp H
 obtain ⟨t607, A110, H⟩ := H
 replace H : (if t607 = true then ((spec_l12Length.f k l0 a1 a2 a3).bind fun t608 => (some (t608, true))) else (some (0, false))) = some (r1, r2) := H
 have A11 := Aside0.mk A110
 clear A110
 by_cases c12 : t607 = true
 case neg =>
  replace c12 := Bool.eq_false_iff.mpr c12
  subst c12
  have H1 : (some (0, false)) = some (r1, r2) := by rw [if_neg (show ¬ (false = true) by decide)] at H; exact H
  clear H
  have H := H1
  clear H1
  simp only [Option.some.injEq, Prod.mk.injEq] at H
  obtain ⟨rfl, rfl⟩ := H
  go_enter Try.func17, Try.ntmps17
  go_wp2_with (first | ((with_reducible refine gate_callee (f := 41) rfl ?_); refine goesL_ (some 12) rfl rfl Try.func41 (by kernel_rfl) rfl #[.slice A0 l0.length c0, .int .i64 a1] rfl zq1 ?_; (with_reducible refine (spec_l12Lists.calls k _ _ l0 a1 true _ ?side1 ?side2 A5.out).mono ?_); (case side1 => exact zqC HR0.out); (case side2 => exact HC0.out); rintro e w16 ⟨rfl, hb⟩; refine ⟨_, rfl, ?_⟩; replace HB := Aside0.mk (below_step zq0 hb); (try clear hb); (try clear hb2); (try clear hk); (try clear hi)) | (go_at_call 42; (with_reducible refine (spec_l1In.calls a2 0 (wrap64 ((l0.length : Int) - 1)) true _ A7.out).mono ?_); rintro e w' ⟨rfl, ⟨nd, rfl⟩⟩; have p606 : 0 ≤ (a2 : Int) := of_decide_eq_true zq2; have q606 : a2 < (l0.length : Int) := of_decide_eq_true zq2; obtain ⟨ad606, A606_0, c606_0, e606, hx606_0, hl606_0, hi606_0⟩ := at_L8 HR0.out a2 p606 q606; cases e606; replace hx606_0 := bx HB.out hx606_0; have HR606_0 := Aside0.mk hi606_0; have HC606_0 := Aside0.mk hl606_0; clear hi606_0 hl606_0; replace p606 := eq_true p606; replace q606 := eq_true q606) | (go_at_call 42; (with_reducible refine (spec_l1In.calls a3 0 (wrap64 (((rd_L8 l0 a2).length : Int) - 1)) false _ A11.out).mono ?_); rintro e w' ⟨rfl, ⟨nd, rfl⟩⟩))
  go_ret2
  exact ⟨zqE, zq0⟩
 subst c12
 have H1 : ((spec_l12Length.f k l0 a1 a2 a3).bind fun t608 => (some (t608, true))) = some (r1, r2) := by rw [if_pos rfl] at H; exact H
 clear H
 have H := H1
 clear H1
 replace H := Option.bind_eq_some_iff.mp H
 obtain ⟨t608, A130, H⟩ := H
 replace H : (some (t608, true)) = some (r1, r2) := H
 have A13 := Aside0.mk A130
 clear A130
 simp only [Option.some.injEq, Prod.mk.injEq] at H
 obtain ⟨rfl, rfl⟩ := H
 go_enter Try.func17, Try.ntmps17
 go_wp2_with (first | ((with_reducible refine gate_callee (f := 41) rfl ?_); refine goesL_ (some 12) rfl rfl Try.func41 (by kernel_rfl) rfl #[.slice A0 l0.length c0, .int .i64 a1] rfl zq1 ?_; (with_reducible refine (spec_l12Lists.calls k _ _ l0 a1 true _ ?side1 ?side2 A5.out).mono ?_); (case side1 => exact zqC HR0.out); (case side2 => exact HC0.out); rintro e w14 ⟨rfl, hb⟩; refine ⟨_, rfl, ?_⟩; replace HB := Aside0.mk (below_step zq0 hb); (try clear hb); (try clear hb2); (try clear hk); (try clear hi)) | (go_at_call 42; (with_reducible refine (spec_l1In.calls a2 0 (wrap64 ((l0.length : Int) - 1)) true _ A7.out).mono ?_); rintro e w' ⟨rfl, ⟨nd, rfl⟩⟩; have p606 : 0 ≤ (a2 : Int) := of_decide_eq_true zq2; have q606 : a2 < (l0.length : Int) := of_decide_eq_true zq2; obtain ⟨ad606, A606_0, c606_0, e606, hx606_0, hl606_0, hi606_0⟩ := at_L8 HR0.out a2 p606 q606; cases e606; replace hx606_0 := bx HB.out hx606_0; have HR606_0 := Aside0.mk hi606_0; have HC606_0 := Aside0.mk hl606_0; clear hi606_0 hl606_0; replace p606 := eq_true p606; replace q606 := eq_true q606) | (go_at_call 42; (with_reducible refine (spec_l1In.calls a3 0 (wrap64 (((rd_L8 l0 a2).length : Int) - 1)) true _ A11.out).mono ?_); rintro e w' ⟨rfl, ⟨nd, rfl⟩⟩) | ((with_reducible refine gate_callee (f := 43) rfl ?_); refine goesL_ (some 37) rfl rfl Try.func43 (by kernel_rfl) rfl #[.slice (some ad606) l0.length c0, .int .i64 a1, .int .i64 a2, .int .i64 a3] rfl zq1 ?_; (with_reducible refine (spec_l12Length.calls k _ _ l0 a1 a2 a3 t608 _ ?side1 ?side2 A13.out).mono ?_); (case side1 => repeat (first | exact (Kd.C_below HR0.out zq0) | (with_reducible refine Kd.C_alloc ?_ _) | (with_reducible refine Kd.C_drewN ?_ _) | (with_reducible refine Kd.C_drew ?_))); (case side2 => exact HC0.out); rintro e w15 ⟨rfl, hb⟩; refine ⟨_, rfl, ?_⟩; replace HB := Aside0.mk (below_step zq0 hb); (try clear hb); (try clear hb2); (try clear hk); (try clear hi)))
 go_ret2
 exact ⟨zqE, zq0⟩
mutual
def impl_LongestTrack.l0 : Nat → List (List Int) → Int → Int → Int → List (List (S49)) → Int → Int → Option (Int × Int × Bool)
 | 0, _, _, _, _, _, _, _ => none
 | k + 1, x7, x9, x10, x11, x24, x25, x26 => if x26 < x25 then (if 0 ≤ x26 then (if x26 < (x24.length : Int) then (impl_LongestTrack.l1 k x7 x9 x10 x11 x26 x24 x25 x26 ((rd_L8 x24 x26).length : Int) 0) else (none)) else (none)) else (some (x9, x10, decide (x11 > 0)))
def impl_LongestTrack.l1 : Nat → List (List Int) → Int → Int → Int → Int → List (List (S49)) → Int → Int → Int → Int → Option (Int × Int × Bool)
 | 0, _, _, _, _, _, _, _, _, _, _ => none
 | k + 1, x7, x9, x10, x11, x12, x24, x25, x26, x32, x33 => if x33 < x32 then (if x12 > 0 then (if 0 ≤ (wrap64 (x12 - 1)) then (if (wrap64 (x12 - 1)) < (x7.length : Int) then ((slices_Contains_int_int.f k (rd_L1 x7 (wrap64 (x12 - 1))) x33).bind fun t615 => (impl_LongestTrack.j2 k x7 x9 x10 x11 x12 x33 x24 x25 x26 x32 x33 t615)) else (none)) else (none)) else (impl_LongestTrack.j2 k x7 x9 x10 x11 x12 x33 x24 x25 x26 x32 x33 false)) else (impl_LongestTrack.l0 k x7 x9 x10 x11 x24 x25 (wrap64 (x26 + 1)))
def impl_LongestTrack.j2 : Nat → List (List Int) → Int → Int → Int → Int → Int → List (List (S49)) → Int → Int → Int → Int → Bool → Option (Int × Int × Bool)
 | 0, _, _, _, _, _, _, _, _, _, _, _, _ => none
 | k + 1, x7, x9, x10, x11, x12, x14, x24, x25, x26, x32, x33, x46 => if x46 = true then (impl_LongestTrack.l1 k x7 x9 x10 x11 x12 x24 x25 x26 x32 (wrap64 (x33 + 1))) else ((impl_trackLength.f k x7 x12 x14).bind fun t616 => (if t616 > x11 then (impl_LongestTrack.l1 k x7 x12 x14 t616 x12 x24 x25 x26 x32 (wrap64 (x33 + 1))) else (impl_LongestTrack.l1 k x7 x9 x10 x11 x12 x24 x25 x26 x32 (wrap64 (x33 + 1)))))
end
def impl_LongestTrack.f (k : Nat) (l0 : List (List (S49))) (a1 : Int) : Option (Int × Int × Bool) := (impl_trackingsOf.f k l0 a1).bind fun bt609 => (if bt609.2 = true then (impl_LongestTrack.l0 k bt609.1 0 0 0 l0 (l0.length : Int) 0) else (some (0, 0, false)))
set_option maxHeartbeats 8000000 in
set_option maxRecDepth 100000 in
theorem impl_LongestTrack.calls (k : Nat) (A0 : Option Addr) (c0 : Nat) (l0 : List (List (S49))) (a1 : Int) (r1 : Int) (r2 : Int) (r3 : Bool) (w : World) (hr0 : Kd.C (Kd.slice 49 k49) w A0 l0.length l0) (hc0 : l0.length ≤ c0) (h : impl_LongestTrack.f k l0 a1 = some (r1, r2, r3)) :
  Calls Try.prog 18 #[.slice A0 l0.length c0, .int .i64 a1] w fun e w' => e = .returned (.tuple #[.int .i64 r1, .int .i64 r2, .bool r3]) ∧ Below w.heap.size w w' := by
 have HR0 := Aside0.mk hr0
 have HC0 := Aside0.mk hc0
 clear hr0 hc0
 have HB := Aside0.mk (Below.refl w.heap.size w)
 have H : ((impl_trackingsOf.f k l0 a1).bind fun bt609 => (if bt609.2 = true then (impl_LongestTrack.l0 k bt609.1 0 0 0 l0 (l0.length : Int) 0) else (some (0, 0, false)))) = some (r1, r2, r3) := h
 clear h
 replace H := Option.bind_eq_some_iff.mp H
 obtain ⟨⟨t609, t610⟩, A30, H⟩ := H
 replace H : (if t610 = true then (impl_LongestTrack.l0 k t609 0 0 0 l0 (l0.length : Int) 0) else (some (0, 0, false))) = some (r1, r2, r3) := H
 have A3 := Aside0.mk A30
 clear A30
 by_cases c4 : t610 = true
 case neg =>
  replace c4 := Bool.eq_false_iff.mpr c4
  subst c4
  have H1 : (some (0, 0, false)) = some (r1, r2, r3) := by rw [if_neg (show ¬ (false = true) by decide)] at H; exact H
  clear H
  have H := H1
  clear H1
  simp only [Option.some.injEq, Prod.mk.injEq] at H
  obtain ⟨rfl, rfl, rfl⟩ := H
  go_enter Try.func18, Try.ntmps18
  go_wp2_with (first | ((with_reducible refine gate_callee (f := 38) rfl ?_); refine goesL_ (some 19) rfl rfl Try.func38 (by kernel_rfl) rfl #[.slice A0 l0.length c0, .int .i64 a1] rfl zq1 ?_; (with_reducible refine (impl_trackingsOf.calls k _ _ l0 a1 t609 false _ ?side1 ?side2 A3.out).mono ?_); (case side1 => exact zqC HR0.out); (case side2 => exact HC0.out); rintro e w22 ⟨v611, rfl, ho0, hb⟩; refine ⟨_, rfl, ?_⟩; have HO612 := Aside0.mk (Kd.R_lower ho0 (below_size zq0)); replace HB := Aside0.mk (below_step zq0 hb); (try clear hb); (try clear hb2); (try clear hk); (try clear hi); (try clear ho0)))
  go_ret3
  exact ⟨zqE, zq0⟩
 subst c4
 have H1 : (impl_LongestTrack.l0 k t609 0 0 0 l0 (l0.length : Int) 0) = some (r1, r2, r3) := by rw [if_pos rfl] at H; exact H
 clear H
 have H := H1
 clear H1
 have H' := Aside0.mk H
 clear H
 go_enter Try.func18, Try.ntmps18
 go_wp2_with (first | ((with_reducible refine gate_callee (f := 38) rfl ?_); refine goesL_ (some 19) rfl rfl Try.func38 (by kernel_rfl) rfl #[.slice A0 l0.length c0, .int .i64 a1] rfl zq1 ?_; (with_reducible refine (impl_trackingsOf.calls k _ _ l0 a1 t609 true _ ?side1 ?side2 A3.out).mono ?_); (case side1 => exact zqC HR0.out); (case side2 => exact HC0.out); rintro e w5 ⟨v611, rfl, ho0, hb⟩; refine ⟨_, rfl, ?_⟩; have HO612 := Aside0.mk (Kd.R_lower ho0 (below_size zq0)); replace HB := Aside0.mk (below_step zq0 hb); (try clear hb); (try clear hb2); (try clear hk); (try clear hi); (try clear ho0)))
 go_loopg [9, 10, 11, 26] k (fun kq v9 v10 v11 v26 w' => ∃ (x9_1 : Int) (x10_1 : Int) (x11_1 : Int) (x26_1 : Int), v9 = .int .i64 x9_1 ∧ v10 = .int .i64 x10_1 ∧ v11 = .int .i64 x11_1 ∧ v26 = .int .i64 x26_1 ∧ Aside0 (impl_LongestTrack.l0 kq t609 x9_1 x10_1 x11_1 l0 (l0.length : Int) x26_1 = some (r1, r2, r3)) ∧ Aside0 (kq ≤ k) ∧ Aside0 (Kd.R (Kd.slice 3 (Kd.int .i64)) 22 w' w.heap.size (fun _ => True) v611 t609) ∧ Aside0 (Below w.heap.size w w'))
 case atStart => exact ⟨(0), (0), (0), (0), (by first | rfl | (simp; done) | (simp [*]; done)), (by first | rfl | (simp; done) | (simp [*]; done)), (by first | rfl | (simp; done) | (simp [*]; done)), (by first | rfl | (simp; done) | (simp [*]; done)), H', ⟨Nat.le_refl _⟩, ⟨zqR HO612.out⟩, ⟨zq0⟩⟩
 clear H'
 try clear c1
 try clear p2
 try clear c3
 try clear c4
 obtain ⟨x9_1, x10_1, x11_1, x26_1, rfl, rfl, rfl, rfl, HA, HK1, HO_7, HB⟩ := hrel
 cases gk with
 | zero => exact absurd HA.out (by simp [impl_LongestTrack.l0])
 | succ k1 =>
  have H := HA.out
  clear HA
  simp only [impl_LongestTrack.l0] at H
  by_cases c6 : x26_1 < (l0.length : Int)
  case neg =>
   rw [if_neg c6] at H
   have c6b0 : decide (x26_1 < (l0.length : Int)) = false := decide_eq_false c6
   clear c6
   simp only [Option.some.injEq, Prod.mk.injEq] at H
   obtain ⟨rfl, rfl, rfl⟩ := H
   go_wp2
   go_ret3
   exact ⟨zqE, zq0⟩
  rw [if_pos c6] at H
  have c6b0 : decide (x26_1 < (l0.length : Int)) = true := decide_eq_true c6
  clear c6
  by_cases c7 : 0 ≤ x26_1
  case neg =>
   rw [if_neg c7] at H
   exact absurd H (by simp)
  rw [if_pos c7] at H
  have c7b0 : decide (0 ≤ x26_1) = true := decide_eq_true c7
  clear c7
  by_cases c8 : x26_1 < (l0.length : Int)
  case neg =>
   rw [if_neg c8] at H
   exact absurd H (by simp)
  rw [if_pos c8] at H
  have c8b0 : decide (x26_1 < (l0.length : Int)) = true := decide_eq_true c8
  clear c8
  have H' := Aside0.mk H
  clear H
  have p613 : 0 ≤ (x26_1 : Int) := of_decide_eq_true zq2
  have q613 : x26_1 < (l0.length : Int) := of_decide_eq_true zq2
  obtain ⟨ad613, A613_0, c613_0, e613, hx613_0, hl613_0, hi613_0⟩ := at_L8 HR0.out x26_1 p613 q613
  cases e613
  replace hx613_0 := bx HB.out hx613_0
  have HR613_0 := Aside0.mk hi613_0
  have HC613_0 := Aside0.mk hl613_0
  clear hi613_0 hl613_0
  replace p613 := eq_true p613
  replace q613 := eq_true q613
  go_wp2
  go_loopg [9, 10, 11, 33] k1 (fun kq v9 v10 v11 v33 w' => ∃ (x9_2 : Int) (x10_2 : Int) (x11_2 : Int) (x33_2 : Int), v9 = .int .i64 x9_2 ∧ v10 = .int .i64 x10_2 ∧ v11 = .int .i64 x11_2 ∧ v33 = .int .i64 x33_2 ∧ Aside0 (impl_LongestTrack.l1 kq t609 x9_2 x10_2 x11_2 x26_1 l0 (l0.length : Int) x26_1 ((rd_L8 l0 x26_1).length : Int) x33_2 = some (r1, r2, r3)) ∧ Aside0 (kq ≤ k1) ∧ Aside0 (Kd.R (Kd.slice 3 (Kd.int .i64)) 22 w' w.heap.size (fun _ => True) v611 t609) ∧ Aside0 (Below w.heap.size w w'))
  case atStart => exact ⟨(x9_1), (x10_1), (x11_1), (0), (by first | rfl | (simp; done) | (simp [*]; done)), (by first | rfl | (simp; done) | (simp [*]; done)), (by first | rfl | (simp; done) | (simp [*]; done)), (by first | rfl | (simp; done) | (simp [*]; done)), H', ⟨Nat.le_refl _⟩, ⟨zqR HO_7.out⟩, ⟨zq0⟩⟩
  clear H'
  try clear c1
  try clear p2
  try clear c3
  try clear c4
  try clear c6
  try clear c6b0
  try clear p6
  try clear q6
  try clear hx6
  try clear c7
  try clear c7b0
  try clear c8
  try clear c8b0
  try clear hx613_0
  try clear p2
  try clear p613
  try clear q613
  obtain ⟨x9_2, x10_2, x11_2, x33_2, rfl, rfl, rfl, rfl, HA, HK2, HO_7, HB⟩ := hrel
  cases gk with
  | zero => exact absurd HA.out (by simp [impl_LongestTrack.l1])
  | succ k2 =>
   have H := HA.out
   clear HA
   simp only [impl_LongestTrack.l1] at H
   by_cases c9 : x33_2 < ((rd_L8 l0 x26_1).length : Int)
   case neg =>
    rw [if_neg c9] at H
    have c9b0 : decide (x33_2 < ((rd_L8 l0 x26_1).length : Int)) = false := decide_eq_false c9
    clear c9
    have H' := Aside0.mk H
    clear H
    go_wp2
    go_roundg k2
    case measure => have := HK1.out; have := HK2.out; omega
    case rel => exact ⟨(x9_2), (x10_2), (x11_2), (wrap64 (x26_1 + 1)), (by first | rfl | (simp; done) | (simp [*]; done)), (by first | rfl | (simp; done) | (simp [*]; done)), (by first | rfl | (simp; done) | (simp [*]; done)), (by first | rfl | (simp; done) | (simp [*]; done)), H', ⟨by have := HK1.out; have := HK2.out; omega⟩, ⟨zqR HO_7.out⟩, ⟨zq0⟩⟩
   rw [if_pos c9] at H
   have c9b0 : decide (x33_2 < ((rd_L8 l0 x26_1).length : Int)) = true := decide_eq_true c9
   clear c9
   have HC10 := Aside0.mk H
   clear H
   go_upto_region 11 with (fail)
   go_cut [46] (fun v46 wc => ∃ (kq : Nat) (x46_9 : Bool), v46 = .bool x46_9 ∧ Aside0 (impl_LongestTrack.j2 kq t609 x9_2 x10_2 x11_2 x26_1 x33_2 l0 (l0.length : Int) x26_1 ((rd_L8 l0 x26_1).length : Int) x33_2 x46_9 = some (r1, r2, r3)) ∧ Aside0 (kq ≤ k2) ∧ Aside0 (Kd.R (Kd.slice 3 (Kd.int .i64)) 22 wc w.heap.size (fun _ => True) v611 t609) ∧ Aside0 (Below w.heap.size w wc))
   case first =>
    have H := HC10.out
    clear HC10
    by_cases c11 : x26_1 > 0
    case neg =>
     rw [if_neg c11] at H
     have c11b0 : decide (0 < x26_1) = false := decide_eq_false c11
     clear c11
     (first | rw [c11b0] | (simp only [i64_w, i32_w]; rw [c11b0]) | skip)
     have H' := Aside0.mk H
     clear H
     go_wp2
     go_meet
     case rel => exact ⟨_, (false), (by first | rfl | (simp; done) | (simp [*]; done)), H', ⟨by have := HK1.out; have := HK2.out; first | omega | exact Nat.le_refl _⟩, ⟨zqR HO_7.out⟩, ⟨zq0⟩⟩
    rw [if_pos c11] at H
    have c11b0 : decide (0 < x26_1) = true := decide_eq_true c11
    clear c11
    (first | rw [c11b0] | (simp only [i64_w, i32_w]; rw [c11b0]) | skip)
    obtain ⟨ji12, hji12⟩ : ∃ j_ : Int, (wrap64 (x26_1 - 1)) = j_ := ⟨_, rfl⟩
    replace H : (if 0 ≤ (ji12) then (if (ji12) < (t609.length : Int) then ((slices_Contains_int_int.f k2 (rd_L1 t609 (ji12)) x33_2).bind fun t615 => (impl_LongestTrack.j2 k2 t609 x9_2 x10_2 x11_2 x26_1 x33_2 l0 (l0.length : Int) x26_1 ((rd_L8 l0 x26_1).length : Int) x33_2 t615)) else (none)) else (none)) = some (r1, r2, r3) := by first | (rw [hji12] at H; exact H) | (simp only [hji12] at H ⊢; exact H)
    have hji12w : (IntKind.i64.wrap (x26_1 - 1)) = ji12 := (i64_w _).trans hji12
    by_cases c13 : 0 ≤ (ji12)
    case neg =>
     rw [if_neg c13] at H
     exact absurd H (by simp)
    rw [if_pos c13] at H
    have c13b0 : decide (0 ≤ (ji12)) = true := decide_eq_true c13
    clear c13
    by_cases c14 : (ji12) < (t609.length : Int)
    case neg =>
     rw [if_neg c14] at H
     exact absurd H (by simp)
    rw [if_pos c14] at H
    have c14b0 : decide ((ji12) < (t609.length : Int)) = true := decide_eq_true c14
    clear c14
    replace H := Option.bind_eq_some_iff.mp H
    obtain ⟨t615, A150, H⟩ := H
    replace H : (impl_LongestTrack.j2 k2 t609 x9_2 x10_2 x11_2 x26_1 x33_2 l0 (l0.length : Int) x26_1 ((rd_L8 l0 x26_1).length : Int) x33_2 t615) = some (r1, r2, r3) := H
    have A15 := Aside0.mk A150
    clear A150
    have H' := Aside0.mk H
    clear H
    obtain ⟨Ao16, co16, eo16⟩ := Kd.R_slice HO_7.out
    subst eo16
    have p614 : 0 ≤ ((ji12) : Int) := of_decide_eq_true zq2
    have q614 : (ji12) < (t609.length : Int) := of_decide_eq_true zq2
    obtain ⟨ad614, A614_0, c614_0, e614, hx614_0, hl614_0, hi614_0⟩ := at_L1 (Kd.R_reads' HO_7.out).2.2 (ji12) p614 q614
    cases e614
    obtain ⟨ce614, hce614, hMe614, hcc614⟩ := Kd.R_get HO_7.out [] (ji12) p614 (by first | exact q614 | exact of_decide_eq_true zq2 | (have e_ := (Kd.R_reads' HO_7.out).1; omega))
    obtain ⟨ve614_0, rfl, ge614_0⟩ := hMe614
    have hv614_0 := hcc614 0 _ rfl
    rw [Nat.add_zero, show ((Kd.slice 3 (Kd.int .i64))).sz = 1 from rfl, Nat.mul_one] at hv614_0
    replace hv614_0 := Option.some.inj (hv614_0.symm.trans hx614_0)
    rw [hv614_0] at ge614_0
    have HL614_0 := Aside0.mk (show Kd.R (Kd.int .i64) 3 _ _ _ _ (rd_L1 t609 (ji12)) from ge614_0)
    clear hv614_0 ge614_0
    clear hcc614 hce614
    have HR614_0 := Aside0.mk hi614_0
    have HC614_0 := Aside0.mk hl614_0
    clear hi614_0 hl614_0
    replace p614 := eq_true p614
    replace q614 := eq_true q614
    go_wp2_with (first | (go_at_call 44; (with_reducible refine (slices_Contains_int_int.calls k2 _ _ (rd_L1 t609 (ji12)) x33_2 t615 _ ?side1 ?side2 A15.out).mono ?_); (case side1 => repeat (first | exact (by repeat (first | (with_reducible exact HR614_0.out) | (with_reducible refine Kd.C_alloc ?_ _) | (with_reducible refine Kd.C_drewN ?_ _) | (with_reducible refine Kd.C_drew ?_) | exact HR614_0.out)) | (with_reducible refine Kd.C_alloc ?_ _) | (with_reducible refine Kd.C_drewN ?_ _) | (with_reducible refine Kd.C_drew ?_))); (case side2 => exact HC614_0.out); rintro e w' ⟨rfl, ⟨nd, rfl⟩⟩))
    go_meet
    case rel => exact ⟨_, (t615), (by first | rfl | (simp; done) | (simp [*]; done)), H', ⟨by have := HK1.out; have := HK2.out; first | omega | exact Nat.le_refl _⟩, ⟨zqR HO_7.out⟩, ⟨zq0⟩⟩
   clear HC10
   try clear c1
   try clear p2
   try clear c3
   try clear c4
   try clear c6
   try clear c6b0
   try clear p6
   try clear q6
   try clear hx6
   try clear c7
   try clear c7b0
   try clear c8
   try clear c8b0
   try clear c9
   try clear c9b0
   try clear c11
   try clear c11b0
   try clear c13
   try clear c13b0
   try clear c14
   try clear c14b0
   try clear hx613_0
   try clear hx614_0
   try clear p2
   try clear p6
   try clear p613
   try clear p614
   try clear q6
   try clear q613
   try clear q614
   obtain ⟨kq, x46_9, rfl, HA, HJ9, HO_7, HB⟩ := hcut
   cases kq with
   | zero => exact absurd HA.out (by simp [impl_LongestTrack.j2])
   | succ kj9 =>
    have H := HA.out
    clear HA
    simp only [impl_LongestTrack.j2] at H
    by_cases c17 : x46_9 = true
    case pos =>
     subst c17
     have H1 : (impl_LongestTrack.l1 kj9 t609 x9_2 x10_2 x11_2 x26_1 l0 (l0.length : Int) x26_1 ((rd_L8 l0 x26_1).length : Int) (wrap64 (x33_2 + 1))) = some (r1, r2, r3) := by rw [if_pos rfl] at H; exact H
     clear H
     have H := H1
     clear H1
     have H' := Aside0.mk H
     clear H
     go_wp2
     go_roundg kj9
     case measure => have := HK1.out; have := HK2.out; have := HJ9.out; omega
     case rel => exact ⟨(x9_2), (x10_2), (x11_2), (wrap64 (x33_2 + 1)), (by first | rfl | (simp; done) | (simp [*]; done)), (by first | rfl | (simp; done) | (simp [*]; done)), (by first | rfl | (simp; done) | (simp [*]; done)), (by first | rfl | (simp; done) | (simp [*]; done)), H', ⟨by have := HK1.out; have := HK2.out; have := HJ9.out; omega⟩, ⟨zqR HO_7.out⟩, ⟨zq0⟩⟩
    replace c17 := Bool.eq_false_iff.mpr c17
    subst c17
    have H1 : ((impl_trackLength.f kj9 t609 x26_1 x33_2).bind fun t616 => (if t616 > x11_2 then (impl_LongestTrack.l1 kj9 t609 x26_1 x33_2 t616 x26_1 l0 (l0.length : Int) x26_1 ((rd_L8 l0 x26_1).length : Int) (wrap64 (x33_2 + 1))) else (impl_LongestTrack.l1 kj9 t609 x9_2 x10_2 x11_2 x26_1 l0 (l0.length : Int) x26_1 ((rd_L8 l0 x26_1).length : Int) (wrap64 (x33_2 + 1))))) = some (r1, r2, r3) := by rw [if_neg (show ¬ (false = true) by decide)] at H; exact H
    clear H
    have H := H1
    clear H1
    replace H := Option.bind_eq_some_iff.mp H
    obtain ⟨t616, A180, H⟩ := H
    replace H : (if t616 > x11_2 then (impl_LongestTrack.l1 kj9 t609 x26_1 x33_2 t616 x26_1 l0 (l0.length : Int) x26_1 ((rd_L8 l0 x26_1).length : Int) (wrap64 (x33_2 + 1))) else (impl_LongestTrack.l1 kj9 t609 x9_2 x10_2 x11_2 x26_1 l0 (l0.length : Int) x26_1 ((rd_L8 l0 x26_1).length : Int) (wrap64 (x33_2 + 1)))) = some (r1, r2, r3) := H
    have A18 := Aside0.mk A180
    clear A180
    by_cases c19 : t616 > x11_2
    case neg =>
     rw [if_neg c19] at H
     have c19b0 : decide (x11_2 < t616) = false := decide_eq_false c19
     clear c19
     have H' := Aside0.mk H
     clear H
     obtain ⟨Ao21, co21, eo21⟩ := Kd.R_slice HO_7.out
     subst eo21
     go_wp2_with (first | ((with_reducible refine gate_callee (f := 40) rfl ?_); refine goesL_ (some 50) rfl rfl Try.func40 (by kernel_rfl) rfl #[.slice Ao21 t609.length co21, .int .i64 x26_1, .int .i64 x33_2] rfl zq1 ?_; (with_reducible refine (impl_trackLength.calls kj9 _ _ t609 x26_1 x33_2 t616 _ ?side1 ?side2 A18.out).mono ?_); (case side1 => exact zqC (Kd.R_reads' HO_7.out).2.2); (case side2 => exact (Kd.R_reads' HO_7.out).2.1); rintro e w' ⟨rfl, ⟨nd, rfl⟩⟩; refine ⟨_, rfl, ?_⟩))
     go_roundg kj9
     case measure => have := HK1.out; have := HK2.out; have := HJ9.out; omega
     case rel => exact ⟨(x9_2), (x10_2), (x11_2), (wrap64 (x33_2 + 1)), (by first | rfl | (simp; done) | (simp [*]; done)), (by first | rfl | (simp; done) | (simp [*]; done)), (by first | rfl | (simp; done) | (simp [*]; done)), (by first | rfl | (simp; done) | (simp [*]; done)), H', ⟨by have := HK1.out; have := HK2.out; have := HJ9.out; omega⟩, ⟨zqR HO_7.out⟩, ⟨zq0⟩⟩
    rw [if_pos c19] at H
    have c19b0 : decide (x11_2 < t616) = true := decide_eq_true c19
    clear c19
    have H' := Aside0.mk H
    clear H
    obtain ⟨Ao20, co20, eo20⟩ := Kd.R_slice HO_7.out
    subst eo20
    go_wp2_with (first | ((with_reducible refine gate_callee (f := 40) rfl ?_); refine goesL_ (some 50) rfl rfl Try.func40 (by kernel_rfl) rfl #[.slice Ao20 t609.length co20, .int .i64 x26_1, .int .i64 x33_2] rfl zq1 ?_; (with_reducible refine (impl_trackLength.calls kj9 _ _ t609 x26_1 x33_2 t616 _ ?side1 ?side2 A18.out).mono ?_); (case side1 => exact zqC (Kd.R_reads' HO_7.out).2.2); (case side2 => exact (Kd.R_reads' HO_7.out).2.1); rintro e w' ⟨rfl, ⟨nd, rfl⟩⟩; refine ⟨_, rfl, ?_⟩))
    go_roundg kj9
    case measure => have := HK1.out; have := HK2.out; have := HJ9.out; omega
    case rel => exact ⟨(x26_1), (x33_2), (t616), (wrap64 (x33_2 + 1)), (by first | rfl | (simp; done) | (simp [*]; done)), (by first | rfl | (simp; done) | (simp [*]; done)), (by first | rfl | (simp; done) | (simp [*]; done)), (by first | rfl | (simp; done) | (simp [*]; done)), H', ⟨by have := HK1.out; have := HK2.out; have := HJ9.out; omega⟩, ⟨zqR HO_7.out⟩, ⟨zq0⟩⟩
def spec_l12New.l0 : Nat → List (S49) → List Int → List Int → Int → Option (List Int)
 | 0, _, _, _, _ => none
 | k + 1, x0, x1, x5, x6 => if x6 < (x0.length : Int) then ((spec_l1Has.f k x1 x6).bind fun t620 => (if t620 = true then (spec_l12New.l0 k x0 x1 x5 (wrap64 (x6 + 1))) else (if x5.length < 17592186044416 then (spec_l12New.l0 k x0 x1 (x5 ++ [x6]) (wrap64 (x6 + 1))) else (none)))) else (some x5)
def spec_l12New.f (k : Nat) (l0 : List (S49)) (l1 : List Int) : Option (List Int) := spec_l12New.l0 k l0 l1 (([] : List Int)) 0
set_option maxHeartbeats 8000000 in
set_option maxRecDepth 100000 in
theorem spec_l12New.calls (k : Nat) (A0 : Option Addr) (c0 : Nat) (l0 : List (S49)) (A1 : Option Addr) (c1 : Nat) (l1 : List Int) (r : List Int) (w : World) (hr0 : Kd.C k49 w A0 l0.length l0) (hc0 : l0.length ≤ c0) (hr1 : Kd.C (Kd.int .i64) w A1 l1.length l1) (hc1 : l1.length ≤ c1) (h : spec_l12New.f k l0 l1 = some r) :
  Calls Try.prog 46 #[.slice A0 l0.length c0, .slice A1 l1.length c1] w fun e w' => ∃ v0_ : Value, e = .returned (v0_) ∧ Kd.R (Kd.int .i64) 3 w' w.heap.size (fun _ => True) v0_ r ∧ Below w.heap.size w w' := by
 have HR0 := Aside0.mk hr0
 have HC0 := Aside0.mk hc0
 clear hr0 hc0
 have HR1 := Aside0.mk hr1
 have HC1 := Aside0.mk hc1
 clear hr1 hc1
 have HB := Aside0.mk (Below.refl w.heap.size w)
 have H : (spec_l12New.l0 k l0 l1 (([] : List Int)) 0) = some r := h
 clear h
 obtain ⟨y617, hy617⟩ : ∃ y_ : List Int, y_ = (([] : List Int)) := ⟨_, rfl⟩
 replace H : (spec_l12New.l0 k l0 l1 y617 0) = some r := zqH hy617 H
 have Ny617 := Aside0.mk hy617
 clear hy617
 have H' := Aside0.mk H
 clear H
 go_enter Try.func46, Try.ntmps46
 go_wp2_with (first | ((with_reducible refine gate_dst (N := 7) rfl ?_); refine Kd.R_lit (Kd.int .i64) _ 3 ?hg (N := 7) ?hd (xs := ([] : List Int)) (inner := []) (ok := fun _ => True) (okp := fun _ => True) ?hr ?hp (fun _ hk => hk) trivial (Below.refl _ _) (Nat.le_refl _) (by simp) ?_; (case hd => rfl); (case hg => rfl); (case hr => exact zqS); (case hp => exact (Reps.none _ _)); intro v618 w3 ho4 hb hg_ hnew_; clear hg_ hnew_; (first | rw [← Ny617.out] at ho4 | (simp only [Int.reduceToNat] at ho4; rw [← Ny617.out] at ho4)); have HO619 := Aside0.mk (Kd.R_lower ho4 (below_size zq0)); replace HB := Aside0.mk (below_step zq0 hb); clear hb ho4))
 go_loopg [5, 6] k (fun kq v5 v6 w' => ∃ (x5_1 : List Int) (x6_1 : Int), v6 = .int .i64 x6_1 ∧ Aside0 (spec_l12New.l0 kq l0 l1 x5_1 x6_1 = some r) ∧ Aside0 (kq ≤ k) ∧ Aside0 (Kd.R (Kd.int .i64) 3 w' w.heap.size (fun _ => True) v5 x5_1) ∧ Aside0 (Below w.heap.size w w'))
 case atStart => exact ⟨(y617), (0), (by first | rfl | (simp; done) | (simp [*]; done)), H', ⟨Nat.le_refl _⟩, ⟨zqR HO619.out⟩, ⟨zq0⟩⟩
 clear H'
 try clear c1
 try clear p2
 try clear c4
 obtain ⟨x5_1, x6_1, rfl, HA, HK1, HO_5, HB⟩ := hrel
 cases gk with
 | zero => exact absurd HA.out (by simp [spec_l12New.l0])
 | succ k1 =>
  have H := HA.out
  clear HA
  simp only [spec_l12New.l0] at H
  by_cases c5 : x6_1 < (l0.length : Int)
  case neg =>
   rw [if_neg c5] at H
   have c5b0 : decide (x6_1 < (l0.length : Int)) = false := decide_eq_false c5
   clear c5
   obtain rfl := Option.some.inj H
   go_wp2
   go_ret
   exact ⟨_, by first | rfl | (simp [errW_none, errW_some] <;> rfl) | (simp [*, errW_none, errW_some] <;> rfl), zqR HO_5.out, zq0⟩
  rw [if_pos c5] at H
  have c5b0 : decide (x6_1 < (l0.length : Int)) = true := decide_eq_true c5
  clear c5
  replace H := Option.bind_eq_some_iff.mp H
  obtain ⟨t620, A60, H⟩ := H
  replace H : (if t620 = true then (spec_l12New.l0 k1 l0 l1 x5_1 (wrap64 (x6_1 + 1))) else (if x5_1.length < 17592186044416 then (spec_l12New.l0 k1 l0 l1 (x5_1 ++ [x6_1]) (wrap64 (x6_1 + 1))) else (none))) = some r := H
  have A6 := Aside0.mk A60
  clear A60
  by_cases c7 : t620 = true
  case pos =>
   subst c7
   have H1 : (spec_l12New.l0 k1 l0 l1 x5_1 (wrap64 (x6_1 + 1))) = some r := by rw [if_pos rfl] at H; exact H
   clear H
   have H := H1
   clear H1
   have H' := Aside0.mk H
   clear H
   go_wp2_with (first | ((with_reducible refine gate_callee (f := 53) rfl ?_); refine goesL_ (some 16) rfl rfl Try.func53 (by kernel_rfl) rfl #[.slice A1 l1.length c1, .int .i64 x6_1] rfl zq1 ?_; (with_reducible refine (spec_l1Has.calls k1 _ _ l1 x6_1 true _ ?side1 ?side2 A6.out).mono ?_); (case side1 => exact zqC (Kd.C_below HR1.out HB.out)); (case side2 => exact HC1.out); rintro e w' ⟨rfl, ⟨nd, rfl⟩⟩; refine ⟨_, rfl, ?_⟩))
   go_roundg k1
   case measure => have := HK1.out; omega
   case rel => exact ⟨(x5_1), (wrap64 (x6_1 + 1)), (by first | rfl | (simp; done) | (simp [*]; done)), H', ⟨by have := HK1.out; omega⟩, ⟨zqR HO_5.out⟩, ⟨zq0⟩⟩
  replace c7 := Bool.eq_false_iff.mpr c7
  subst c7
  have H1 : (if x5_1.length < 17592186044416 then (spec_l12New.l0 k1 l0 l1 (x5_1 ++ [x6_1]) (wrap64 (x6_1 + 1))) else (none)) = some r := by rw [if_neg (show ¬ (false = true) by decide)] at H; exact H
  clear H
  have H := H1
  clear H1
  by_cases c8 : x5_1.length < 17592186044416
  case neg =>
   rw [if_neg c8] at H
   exact absurd H (by simp)
  rw [if_pos c8] at H
  have LMc8 := Aside0.mk c8
  clear c8
  obtain ⟨y621, hy621⟩ : ∃ y_ : List Int, y_ = (x5_1 ++ [x6_1]) := ⟨_, rfl⟩
  replace H : (spec_l12New.l0 k1 l0 l1 y621 (wrap64 (x6_1 + 1))) = some r := zqH hy621 H
  have Ny621 := Aside0.mk hy621
  clear hy621
  have H' := Aside0.mk H
  clear H
  go_wp2_with (first | ((with_reducible refine gate_callee (f := 53) rfl ?_); refine goesL_ (some 16) rfl rfl Try.func53 (by kernel_rfl) rfl #[.slice A1 l1.length c1, .int .i64 x6_1] rfl zq1 ?_; (with_reducible refine (spec_l1Has.calls k1 _ _ l1 x6_1 false _ ?side1 ?side2 A6.out).mono ?_); (case side1 => exact zqC (Kd.C_below HR1.out HB.out)); (case side2 => exact HC1.out); rintro e w' ⟨rfl, ⟨nd, rfl⟩⟩; refine ⟨_, rfl, ?_⟩) | ((with_reducible refine gate_builtin (b := .append) (xs := #[.tmp 18, .tmp 20]) rfl ?_); at_builtin; refine Kd.R_append (Kd.int .i64) (w0 := w) w.heap.size rfl (.tmp 18) (.tmp 20) 22 3 (.int .i64 0) 8 rfl Try.underlying22 info3 rfl (by decide) (by omega) u5 x5_1 x6_1 [.int .i64 x6_1] (fun _ => True) (fun _ => False) rfl rfl ?aP (fun _ hk => hk.elim) ?aF ?aO ?aB ?aS ?aL ?_; (case aP => exact rfl); (case aB => exact zq0); (case aF => exact (fun _ _ => trivial)); (case aO => exact (zqR HO_5.out)); (case aS => exact (below_size zq0)); (case aL => have := LMc8.out; omega); intro v622 w9 ho hb hg hat; rw [← Ny621.out] at ho; replace HB := Aside0.mk (hb); have HO623 := Aside0.mk (ho); clear HO_5; clear ho hb hg hat))
  go_roundg k1
  case measure => have := HK1.out; omega
  case rel => exact ⟨(y621), (wrap64 (x6_1 + 1)), (by first | rfl | (simp; done) | (simp [*]; done)), H', ⟨by have := HK1.out; omega⟩, ⟨zqR HO623.out⟩, ⟨zq0⟩⟩
mutual
def spec_LongestTrack.l0 : Nat → List (List (S49)) → Int → Int → Int → Int → Int → Option (Int × Int × Bool)
 | 0, _, _, _, _, _, _ => none
 | k + 1, x0, x1, x7, x8, x9, x10 => if x10 < (x0.length : Int) then (if x10 > 0 then (if 0 ≤ (wrap64 (x10 - 1)) then (if (wrap64 (x10 - 1)) < (x0.length : Int) then (if 0 ≤ x10 then ((spec_l12Best.f k (rd_L8 x0 (wrap64 (x10 - 1))) (rd_L8 x0 x10) x1 (([] : List Int))).bind fun bt633 => (spec_LongestTrack.j1 k x0 x1 x7 x8 x9 x10 bt633.1)) else (none)) else (none)) else (none)) else (spec_LongestTrack.j1 k x0 x1 x7 x8 x9 x10 (([] : List Int)))) else (some (x7, x8, decide (x9 > 0)))
def spec_LongestTrack.j1 : Nat → List (List (S49)) → Int → Int → Int → Int → Int → List Int → Option (Int × Int × Bool)
 | 0, _, _, _, _, _, _, _ => none
 | k + 1, x0, x1, x7, x8, x9, x10, x11 => if 0 ≤ x10 then (if x10 < (x0.length : Int) then ((spec_l12New.f k (rd_L8 x0 x10) x11).bind fun t638 => (spec_LongestTrack.l1 k x0 x1 x7 x8 x9 x10 t638 0)) else (none)) else (none)
def spec_LongestTrack.l1 : Nat → List (List (S49)) → Int → Int → Int → Int → Int → List Int → Int → Option (Int × Int × Bool)
 | 0, _, _, _, _, _, _, _, _ => none
 | k + 1, x0, x1, x7, x8, x9, x10, x12, x13 => if x13 < (x12.length : Int) then (if 0 ≤ x13 then ((spec_l12Length.f k x0 x1 x10 (rd x12 x13)).bind fun t642 => (if t642 > x9 then (spec_LongestTrack.l1 k x0 x1 x10 (rd x12 x13) t642 x10 x12 (wrap64 (x13 + 1))) else (spec_LongestTrack.l1 k x0 x1 x7 x8 x9 x10 x12 (wrap64 (x13 + 1))))) else (none)) else (spec_LongestTrack.l0 k x0 x1 x7 x8 x9 (wrap64 (x10 + 1)))
end
def spec_LongestTrack.f (k : Nat) (l0 : List (List (S49))) (a1 : Int) : Option (Int × Int × Bool) := (spec_l12Lists.f k l0 a1).bind fun t624 => (if t624 = true then (spec_LongestTrack.l0 k l0 a1 0 0 0 0) else (some (0, 0, false)))
def spec_LongestTrack.T9 : Bool × List (List Nat × List Nat) := (true, [([], []), ([], []), ([1], [1]), ([0, 2], [0, 2]), ([3], [3]), ([], []), ([], []), ([5, 6], [5, 6]), ([7], [7]), ([], []), ([], []), ([4, 8, 9, 10], [4, 8, 9, 10]), ([11], [11]), ([12], [12]), ([12], [12]), ([13, 11, 0, 1, 2, 3, 4, 5, 6, 7, 8, 9, 10, 11, 12, 13], [13])])
def spec_LongestTrack.B9 : List Nat := [0, 0, 2, 7, 15, 0, 0, 96, 224, 0, 0, 2047, 4095, 8191, 8191, 16383]
theorem spec_LongestTrack.tab9 : rtab .any (opsOf Try.f19 9) = spec_LongestTrack.T9 := by kernel_rfl
theorem spec_LongestTrack.bits9 : waitsOk spec_LongestTrack.T9.2 spec_LongestTrack.B9 = true := by kernel_rfl
set_option maxHeartbeats 8000000 in
set_option maxRecDepth 100000 in
theorem spec_LongestTrack.calls (k : Nat) (A0 : Option Addr) (c0 : Nat) (l0 : List (List (S49))) (a1 : Int) (r1 : Int) (r2 : Int) (r3 : Bool) (w : World) (hr0 : Kd.C (Kd.slice 49 k49) w A0 l0.length l0) (hc0 : l0.length ≤ c0) (h : spec_LongestTrack.f k l0 a1 = some (r1, r2, r3)) :
  Calls Try.prog 19 #[.slice A0 l0.length c0, .int .i64 a1] w fun e w' => e = .returned (.tuple #[.int .i64 r1, .int .i64 r2, .bool r3]) ∧ Below w.heap.size w w' := by
 have HR0 := Aside0.mk hr0
 have HC0 := Aside0.mk hc0
 clear hr0 hc0
 have HB := Aside0.mk (Below.refl w.heap.size w)
 have H : ((spec_l12Lists.f k l0 a1).bind fun t624 => (if t624 = true then (spec_LongestTrack.l0 k l0 a1 0 0 0 0) else (some (0, 0, false)))) = some (r1, r2, r3) := h
 clear h
 replace H := Option.bind_eq_some_iff.mp H
 obtain ⟨t624, A30, H⟩ := H
 replace H : (if t624 = true then (spec_LongestTrack.l0 k l0 a1 0 0 0 0) else (some (0, 0, false))) = some (r1, r2, r3) := H
 have A3 := Aside0.mk A30
 clear A30
 by_cases c4 : t624 = true
 case neg =>
  replace c4 := Bool.eq_false_iff.mpr c4
  subst c4
  have H1 : (some (0, 0, false)) = some (r1, r2, r3) := by rw [if_neg (show ¬ (false = true) by decide)] at H; exact H
  clear H
  have H := H1
  clear H1
  simp only [Option.some.injEq, Prod.mk.injEq] at H
  obtain ⟨rfl, rfl, rfl⟩ := H
  go_enter Try.func19, Try.ntmps19
  go_wp2_with (first | ((with_reducible refine gate_callee (f := 41) rfl ?_); refine goesL_ (some 17) rfl rfl Try.func41 (by kernel_rfl) rfl #[.slice A0 l0.length c0, .int .i64 a1] rfl zq1 ?_; (with_reducible refine (spec_l12Lists.calls k _ _ l0 a1 false _ ?side1 ?side2 A3.out).mono ?_); (case side1 => exact zqC HR0.out); (case side2 => exact HC0.out); rintro e w35 ⟨rfl, hb⟩; refine ⟨_, rfl, ?_⟩; replace HB := Aside0.mk (below_step zq0 hb); (try clear hb); (try clear hb2); (try clear hk); (try clear hi)))
  go_ret3
  exact ⟨zqE, zq0⟩
 subst c4
 have H1 : (spec_LongestTrack.l0 k l0 a1 0 0 0 0) = some (r1, r2, r3) := by rw [if_pos rfl] at H; exact H
 clear H
 have H := H1
 clear H1
 have H' := Aside0.mk H
 clear H
 go_enter Try.func19, Try.ntmps19
 go_wp2_with (first | ((with_reducible refine gate_callee (f := 41) rfl ?_); refine goesL_ (some 17) rfl rfl Try.func41 (by kernel_rfl) rfl #[.slice A0 l0.length c0, .int .i64 a1] rfl zq1 ?_; (with_reducible refine (spec_l12Lists.calls k _ _ l0 a1 true _ ?side1 ?side2 A3.out).mono ?_); (case side1 => exact zqC HR0.out); (case side2 => exact HC0.out); rintro e w5 ⟨rfl, hb⟩; refine ⟨_, rfl, ?_⟩; replace HB := Aside0.mk (below_step zq0 hb); (try clear hb); (try clear hb2); (try clear hk); (try clear hi)))
 go_loopg [7, 8, 9, 10] k (fun kq v7 v8 v9 v10 w' => ∃ (x7_1 : Int) (x8_1 : Int) (x9_1 : Int) (x10_1 : Int), v7 = .int .i64 x7_1 ∧ v8 = .int .i64 x8_1 ∧ v9 = .int .i64 x9_1 ∧ v10 = .int .i64 x10_1 ∧ Aside0 (spec_LongestTrack.l0 kq l0 a1 x7_1 x8_1 x9_1 x10_1 = some (r1, r2, r3)) ∧ Aside0 (kq ≤ k) ∧ Aside0 (Below w.heap.size w w'))
 case atStart => exact ⟨(0), (0), (0), (0), (by first | rfl | (simp; done) | (simp [*]; done)), (by first | rfl | (simp; done) | (simp [*]; done)), (by first | rfl | (simp; done) | (simp [*]; done)), (by first | rfl | (simp; done) | (simp [*]; done)), H', ⟨Nat.le_refl _⟩, ⟨zq0⟩⟩
 clear H'
 try clear c1
 try clear p2
 try clear c4
 obtain ⟨x7_1, x8_1, x9_1, x10_1, rfl, rfl, rfl, rfl, HA, HK1, HB⟩ := hrel
 cases gk with
 | zero => exact absurd HA.out (by simp [spec_LongestTrack.l0])
 | succ k1 =>
  have H := HA.out
  clear HA
  simp only [spec_LongestTrack.l0] at H
  by_cases c6 : x10_1 < (l0.length : Int)
  case neg =>
   rw [if_neg c6] at H
   have c6b0 : decide (x10_1 < (l0.length : Int)) = false := decide_eq_false c6
   clear c6
   simp only [Option.some.injEq, Prod.mk.injEq] at H
   obtain ⟨rfl, rfl, rfl⟩ := H
   go_wp2
   go_ret3
   exact ⟨zqE, zq0⟩
  rw [if_pos c6] at H
  have c6b0 : decide (x10_1 < (l0.length : Int)) = true := decide_eq_true c6
  clear c6
  obtain ⟨y625, hy625⟩ : ∃ y_ : List Int, y_ = (([] : List Int)) := ⟨_, rfl⟩
  replace H : (if x10_1 > 0 then (if 0 ≤ (wrap64 (x10_1 - 1)) then (if (wrap64 (x10_1 - 1)) < (l0.length : Int) then (if 0 ≤ x10_1 then ((spec_l12Best.f k1 (rd_L8 l0 (wrap64 (x10_1 - 1))) (rd_L8 l0 x10_1) a1 (([] : List Int))).bind fun bt633 => (spec_LongestTrack.j1 k1 l0 a1 x7_1 x8_1 x9_1 x10_1 bt633.1)) else (none)) else (none)) else (none)) else (spec_LongestTrack.j1 k1 l0 a1 x7_1 x8_1 x9_1 x10_1 y625)) = some (r1, r2, r3) := zqH hy625 H
  have Ny625 := Aside0.mk hy625
  clear hy625
  have HC7 := Aside0.mk H
  clear H
  go_upto_if 27 with (first | ((with_reducible refine gate_dst (N := 25) rfl ?_); refine Kd.R_lit (Kd.int .i64) _ 3 ?hg (N := 25) ?hd (xs := ([] : List Int)) (inner := []) (ok := fun _ => True) (okp := fun _ => True) ?hr ?hp (fun _ hk => hk) trivial (Below.refl _ _) (Nat.le_refl _) (by simp) ?_; (case hd => rfl); (case hg => rfl); (case hr => exact zqS); (case hp => exact (Reps.none _ _)); intro v626 w8 ho9 hb hg_ hnew_; clear hg_ hnew_; (first | rw [← Ny625.out] at ho9 | (simp only [Int.reduceToNat] at ho9; rw [← Ny625.out] at ho9)); have HO627 := Aside0.mk (Kd.R_lower ho9 (below_size zq0)); replace HB := Aside0.mk (below_step zq0 hb); clear hb ho9))
  (try simp only [Act.put, List.setIfInBounds_toArray, List.set_cons_zero, List.set_cons_succ])
  go_cut [11] (fun v11 wc => ∃ (kq : Nat) (x11_6 : List Int), Aside0 (spec_LongestTrack.j1 kq l0 a1 x7_1 x8_1 x9_1 x10_1 x11_6 = some (r1, r2, r3)) ∧ Aside0 (kq ≤ k1) ∧ Aside0 (Kd.R (Kd.int .i64) 3 wc w.heap.size (fun _ => True) v11 x11_6) ∧ Aside0 (Below w.heap.size w wc))
  case first =>
   have H := HC7.out
   clear HC7
   by_cases c10 : x10_1 > 0
   case neg =>
    rw [if_neg c10] at H
    have c10b0 : decide (0 < x10_1) = false := decide_eq_false c10
    clear c10
    (first | rw [c10b0] | (simp only [i64_w, i32_w]; rw [c10b0]) | skip)
    have H' := Aside0.mk H
    clear H
    go_wp2
    go_meet
    case rel => exact ⟨_, (y625), H', ⟨by have := HK1.out; first | omega | exact Nat.le_refl _⟩, ⟨zqR HO627.out⟩, ⟨zq0⟩⟩
   rw [if_pos c10] at H
   have c10b0 : decide (0 < x10_1) = true := decide_eq_true c10
   clear c10
   (first | rw [c10b0] | (simp only [i64_w, i32_w]; rw [c10b0]) | skip)
   obtain ⟨ji11, hji11⟩ : ∃ j_ : Int, (wrap64 (x10_1 - 1)) = j_ := ⟨_, rfl⟩
   replace H : (if 0 ≤ (ji11) then (if (ji11) < (l0.length : Int) then (if 0 ≤ x10_1 then ((spec_l12Best.f k1 (rd_L8 l0 (ji11)) (rd_L8 l0 x10_1) a1 (([] : List Int))).bind fun bt633 => (spec_LongestTrack.j1 k1 l0 a1 x7_1 x8_1 x9_1 x10_1 bt633.1)) else (none)) else (none)) else (none)) = some (r1, r2, r3) := by first | (rw [hji11] at H; exact H) | (simp only [hji11] at H ⊢; exact H)
   have hji11w : (IntKind.i64.wrap (x10_1 - 1)) = ji11 := (i64_w _).trans hji11
   by_cases c12 : 0 ≤ (ji11)
   case neg =>
    rw [if_neg c12] at H
    exact absurd H (by simp)
   rw [if_pos c12] at H
   have c12b0 : decide (0 ≤ (ji11)) = true := decide_eq_true c12
   clear c12
   by_cases c13 : (ji11) < (l0.length : Int)
   case neg =>
    rw [if_neg c13] at H
    exact absurd H (by simp)
   rw [if_pos c13] at H
   have c13b0 : decide ((ji11) < (l0.length : Int)) = true := decide_eq_true c13
   clear c13
   by_cases c14 : 0 ≤ x10_1
   case neg =>
    rw [if_neg c14] at H
    exact absurd H (by simp)
   rw [if_pos c14] at H
   have c14b0 : decide (0 ≤ x10_1) = true := decide_eq_true c14
   clear c14
   obtain ⟨y630, hy630⟩ : ∃ y_ : List Int, y_ = (([] : List Int)) := ⟨_, rfl⟩
   replace H : ((spec_l12Best.f k1 (rd_L8 l0 (ji11)) (rd_L8 l0 x10_1) a1 y630).bind fun bt633 => (spec_LongestTrack.j1 k1 l0 a1 x7_1 x8_1 x9_1 x10_1 bt633.1)) = some (r1, r2, r3) := zqH hy630 H
   have Ny630 := Aside0.mk hy630
   clear hy630
   replace H := Option.bind_eq_some_iff.mp H
   obtain ⟨⟨t633, t636⟩, A150, H⟩ := H
   replace H : (spec_LongestTrack.j1 k1 l0 a1 x7_1 x8_1 x9_1 x10_1 t633) = some (r1, r2, r3) := H
   have A15 := Aside0.mk A150
   clear A150
   have H' := Aside0.mk H
   clear H
   try go_wp2
   have n0_ := Aside0.mk (Kd.R_drew HO627.out)
   have n1_ := Aside0.mk (below_drew1 HB.out)
   clear HO627
   clear HB
   have HO627 := n0_
   have HB := n1_
   clear n0_ n1_
   have p628 : 0 ≤ ((ji11) : Int) := of_decide_eq_true zq2
   have q628 : (ji11) < (l0.length : Int) := of_decide_eq_true zq2
   obtain ⟨ad628, A628_0, c628_0, e628, hx628_0, hl628_0, hi628_0⟩ := at_L8 HR0.out (ji11) p628 q628
   have hw628_0 := hx628_0
   cases e628
   replace hx628_0 := bx HB.out hx628_0
   have HR628_0 := Aside0.mk hi628_0
   have HC628_0 := Aside0.mk hl628_0
   clear hi628_0 hl628_0
   replace p628 := eq_true p628
   replace q628 := eq_true q628
   have p629 : 0 ≤ (x10_1 : Int) := of_decide_eq_true zq2
   have q629 : x10_1 < (l0.length : Int) := of_decide_eq_true zq2
   obtain ⟨ad629, A629_0, c629_0, e629, hx629_0, hl629_0, hi629_0⟩ := at_L8 HR0.out x10_1 p629 q629
   have hw629_0 := hx629_0
   obtain rfl : ad628 = ad629 := (by injection e629)
   replace hx629_0 := bx HB.out hx629_0
   have HR629_0 := Aside0.mk hi629_0
   have HC629_0 := Aside0.mk hl629_0
   clear hi629_0 hl629_0
   replace p629 := eq_true p629
   replace q629 := eq_true q629
   refine start_ (n := 16) (S := fun w' => w'.cell? (ad628.add ((ji11)).toNat) = some (.slice A628_0 (rd_L8 l0 (ji11)).length c628_0) ∧ w'.cell? (ad628.add (x10_1).toNat) = some (.slice A629_0 (rd_L8 l0 x10_1).length c629_0)) (ds := []) #[false, false, false, false, false, false, false, false, false, false, false, false, false, false, false, false] (by kernel_rfl) rfl rfl ⟨((HB.out.cell (World.block_lt_of_cell? w _ hw628_0)).trans hw628_0), ((HB.out.cell (World.block_lt_of_cell? w _ hw629_0)).trans hw629_0)⟩ (fun hHeld => ?_); refine with_tabW spec_LongestTrack.tab9 spec_LongestTrack.bits9 (fun HT_ HW_ => ?_)
   generalize w8.drew = w16 at HO627 HB HR628_0 HR629_0 hx628_0 hx629_0 hHeld ⊢
   refine zP 0 (some 29) #[zt, zf, zf, zf, zf, zf, zf, zf, zf, zf, zf, zf, zf, zf, zf, zf] ?_ rfl rfl HT_ (Or.inl ⟨by rfl, ?_⟩) ?_ ?_ ?_
   rotate_left; · exact zqB
   rotate_left; · exact zqA
   refine zP 1 (some 30) #[zt, zt, zf, zf, zf, zf, zf, zf, zf, zf, zf, zf, zf, zf, zf, zf] ?_ rfl rfl HT_ (Or.inl ⟨by rfl, ?_⟩) ?_ ?_ ?_
   rotate_left; · exact zqB
   rotate_left; · exact zqA
   refine zP 2 (some 31) #[zt, zt, zt, zf, zf, zf, zf, zf, zf, zf, zf, zf, zf, zf, zf, zf] ?_ rfl rfl HT_ (Or.inl ⟨by rfl, ?_⟩) ?_ ?_ ?_
   rotate_left; · exact zqB
   rotate_left; · exact zqA
   refine zP 3 (some 32) #[zt, zt, zt, zt, zf, zf, zf, zf, zf, zf, zf, zf, zf, zf, zf, zf] ?_ rfl rfl HT_ (Or.inl ⟨by rfl, ?_⟩) ?_ ?_ ?_
   rotate_left; · exact zqB
   rotate_left; · exact zqA
   refine zP 5 (some 34) #[zt, zt, zt, zt, zf, zt, zf, zf, zf, zf, zf, zf, zf, zf, zf, zf] ?_ rfl rfl HT_ (Or.inl ⟨by rfl, ?_⟩) ?_ ?_ ?_
   rotate_left; · exact zqB
   rotate_left; · exact zqA
   refine zP 6 (some 35) #[zt, zt, zt, zt, zf, zt, zt, zf, zf, zf, zf, zf, zf, zf, zf, zf] ?_ rfl rfl HT_ (Or.inl ⟨by rfl, ?_⟩) ?_ ?_ ?_
   rotate_left; · exact zqB
   rotate_left; · exact zqA
   refine zP 7 (some 36) #[zt, zt, zt, zt, zf, zt, zt, zt, zf, zf, zf, zf, zf, zf, zf, zf] ?_ rfl rfl HT_ (Or.inl ⟨by rfl, ?_⟩) ?_ ?_ ?_
   rotate_left; · exact zqB
   rotate_left; · exact zqA
   refine zP 9 (some 38) #[zt, zt, zt, zt, zf, zt, zt, zt, zf, zt, zf, zf, zf, zf, zf, zf] ?_ rfl rfl HT_ (Or.inl ⟨by rfl, ?_⟩) ?_ ?_ ?_
   rotate_left; · exact zqB
   rotate_left; · exact zqA
   refine zT 4 (some 33) #[zt, zt, zt, zt, zt, zt, zt, zt, zf, zt, zf, zf, zf, zf, zf, zf] ?_ rfl rfl HT_ HW_ (Or.inl ⟨by rfl, ?_⟩) hHeld ?_ ?_ ?_
   rotate_left
   ·
    rintro w' ⟨s0, s1⟩
    go_simp
    with_reducible rfl
   rotate_left; · exact zqA
   refine zT 8 (some 37) #[zt, zt, zt, zt, zt, zt, zt, zt, zt, zt, zf, zf, zf, zf, zf, zf] ?_ rfl rfl HT_ HW_ (Or.inl ⟨by rfl, ?_⟩) hHeld ?_ ?_ ?_
   rotate_left
   ·
    rintro w' ⟨s0, s1⟩
    go_simp
    with_reducible rfl
   rotate_left; · exact zqA
   refine one_ (i := 10) (N := some 39) #[zt, zt, zt, zt, zt, zt, zt, zt, zt, zt, zt, zf, zf, zf, zf, zf] rfl rfl (one_of HT_.out (by kernel_rfl)) (by decide) (fun K hK => ?_)
   refine Kd.R_lit_step (Kd.int .i64) _ 3 ?hg (N := 39) ?hd (xs := ([] : List Int)) (inner := []) (ok := fun _ => True) (okp := fun _ => True) ?hr ?hp (fun _ hk => hk) trivial (Below.refl _ _) (Nat.le_refl _) (by simp) ?_; (case hd => rfl); (case hg => rfl); (case hr => exact zqS); (case hp => exact (Reps.none _ _))
   intro v631 w17 ho18 hb hg_ hnew_
   clear hg_ hnew_
   (first | rw [← Ny630.out] at ho18 | (simp only [Int.reduceToNat] at ho18; rw [← Ny630.out] at ho18))
   have n0_ := Aside0.mk (Kd.R_elder' (zqR HO627.out) (Kd.R_base ho18) hb)
   have n1_ := Aside0.mk (Kd.R_lower (Kd.R_new' ho18 (Kd.R_lt (zqR HO627.out))) (below_size zq0))
   have n2_ := Aside0.mk (below_step zq0 hb)
   clear HO627
   clear HB
   have HO627 := n0_
   have HO632 := n1_
   have HB := n2_
   clear n0_ n1_ n2_
   clear hb ho18
   obtain ⟨Ao19, co19, eo19⟩ := Kd.R_slice HO632.out
   (first | subst eo19 | (injection eo19 with f1_ f2_ f3_; have f4_ := f1_.symm; have f5_ := f3_.symm; clear f1_ f2_ f3_; subst f4_; subst f5_))
   refine hK.out _ _ ⟨((HB.out.cell (World.block_lt_of_cell? w _ hw628_0)).trans hw628_0), ((HB.out.cell (World.block_lt_of_cell? w _ hw629_0)).trans hw629_0)⟩ (fun hHeld => ?_)
   clear hK K
   refine norm_ (a' := ?_) ?_ ?_
   rotate_left
   ·
    show Act.put _ (some 39) _ = _
    simp only [Act.put, List.setIfInBounds_toArray, List.set_cons_zero, List.set_cons_succ, i64_w, i32_w]
    rfl
   refine one_ (i := 11) (N := some 40) #[zt, zt, zt, zt, zt, zt, zt, zt, zt, zt, zt, zt, zf, zf, zf, zf] rfl rfl (one_of HT_.out (by kernel_rfl)) (by decide) (fun K hK => ?_)
   refine goes_ Try.func45 (by kernel_rfl) rfl #[.slice A628_0 (rd_L8 l0 (ji11)).length c628_0, .slice A629_0 (rd_L8 l0 x10_1).length c629_0, .int .i64 a1, .slice Ao19 y630.length co19] (by rfl) rfl rfl (by (try simp only [List.map_toArray, List.map_cons, List.map_nil]); first | done | (simp only [hji11]; rfl) | rfl | (simp only [List.length_drop, List.length_take]; rfl)) ?_
   with_reducible refine (spec_l12Best.calls k1 _ _ (rd_L8 l0 (ji11)) _ _ (rd_L8 l0 x10_1) a1 (fun k_ => some k_ = (.slice Ao19 y630.length co19 : Value).ownBlock) (.slice Ao19 y630.length co19) y630 t633 t636 w _ ?side1 ?side2 ?side3 ?side4 ?side5 ?side6 A15.out).mono ?_
   (case side1 => exact zq0)
   (case side2 => exact Kd.C_kept_came k49_heap HR628_0.out zq0 (fun k_ hs_ => (fun e_ => Kd.R_base HO632.out k_ e_.symm) hs_))
   (case side3 => exact HC628_0.out)
   (case side4 => exact Kd.C_kept_came k49_heap HR629_0.out zq0 (fun k_ hs_ => (fun e_ => Kd.R_base HO632.out k_ e_.symm) hs_))
   (case side5 => exact HC629_0.out)
   (case side6 => exact Kd.R_tight rfl HO632.out)
   rintro e w20 ⟨v634, rfl, ho0, hb, hkp⟩
   refine ⟨_, rfl, ?_⟩
   have n0_ := Aside0.mk (Kd.R_mono (ok' := fun k_ => some k_ ≠ (v634 : Value).ownBlock) (Kd.R_keptB (HO627.out) hkp (fun k_ hk_ hs_ => (hk_.2) hs_)) (fun k_ hk_ => fun e_ => Or.elim (ho0.1 k_ e_.symm) (fun hs_ => hk_.2.1 hs_) (fun hn_ => Nat.not_le.2 hk_.2.2 hn_)))
   have n1_ := Aside0.mk (Kd.R_mono (ok' := fun k_ => some k_ ≠ (v626 : Value).ownBlock) ho0 (fun k_ hk_ => Or.elim hk_ (fun hs_ => fun e_ => (((HO627.out).1 k_ e_.symm).2) hs_) (fun hn_ => (Kd.fresh' (Kd.R_lt (zqR HO627.out)) k_ hn_))))
   have n2_ := Aside0.mk (hb)
   clear HO627
   clear HB
   clear HO632
   have HO627 := n0_
   have HO635 := n1_
   have HB := n2_
   clear n0_ n1_ n2_
   (try clear hb)
   (try clear hkp)
   (try clear ho0)
   refine hK.out _ _ ⟨((HB.out.cell (World.block_lt_of_cell? w _ hw628_0)).trans hw628_0), ((HB.out.cell (World.block_lt_of_cell? w _ hw629_0)).trans hw629_0)⟩ (fun hHeld => ?_)
   clear hK K
   refine norm_ (a' := ?_) ?_ ?_
   rotate_left
   ·
    show Act.put _ (some 40) _ = _
    simp only [Act.put, List.setIfInBounds_toArray, List.set_cons_zero, List.set_cons_succ, i64_w, i32_w]
    rfl
   refine zP 12 (some 28) #[zt, zt, zt, zt, zt, zt, zt, zt, zt, zt, zt, zt, zt, zf, zf, zf] ?_ rfl rfl HT_ (Or.inl ⟨by rfl, ?_⟩) ?_ ?_ ?_
   rotate_left; · exact zqB
   rotate_left; · exact zqA
   refine zP 13 (some 41) #[zt, zt, zt, zt, zt, zt, zt, zt, zt, zt, zt, zt, zt, zt, zf, zf] ?_ rfl rfl HT_ (Or.inl ⟨by rfl, ?_⟩) ?_ ?_ ?_
   rotate_left; · exact zqB
   rotate_left; · exact zqA
   refine zP 14 (some 42) #[zt, zt, zt, zt, zt, zt, zt, zt, zt, zt, zt, zt, zt, zt, zt, zf] ?_ rfl rfl HT_ (Or.inl ⟨by rfl, ?_⟩) ?_ ?_ ?_
   rotate_left; · exact zqB
   rotate_left; · exact zqA
   refine zP 15 (some 11) #[zt, zt, zt, zt, zt, zt, zt, zt, zt, zt, zt, zt, zt, zt, zt, zt] ?_ rfl rfl HT_ (Or.inl ⟨by rfl, ?_⟩) ?_ ?_ ?_
   rotate_left; · exact zqB
   rotate_left; · exact zqA
   refine done_ (done_of HT_.out (by kernel_rfl)) ?_
   try go_wp2
   go_meet
   case rel => exact ⟨_, (t633), H', ⟨by have := HK1.out; first | omega | exact Nat.le_refl _⟩, ⟨by (with_reducible repeat (first | apply Kd.R_alloc | apply Kd.R_drewN | apply Kd.R_drew)); exact Kd.R_mono HO635.out (fun _ hk => trivial)⟩, ⟨zq0⟩⟩
  clear HC7
  try clear c1
  try clear p2
  try clear c4
  try clear c6
  try clear c6b0
  try clear p6
  try clear q6
  try clear hx6
  try clear c10
  try clear c10b0
  try clear c12
  try clear c12b0
  try clear c13
  try clear c13b0
  try clear c14
  try clear c14b0
  try clear c19
  try clear hx628_0
  try clear hx629_0
  try clear p2
  try clear p628
  try clear p629
  try clear q628
  try clear q629
  obtain ⟨kq, x11_6, HA, HJ6, HO_11, HB⟩ := hcut
  cases kq with
  | zero => exact absurd HA.out (by simp [spec_LongestTrack.j1])
  | succ kj6 =>
   have H := HA.out
   clear HA
   simp only [spec_LongestTrack.j1] at H
   by_cases c21 : 0 ≤ x10_1
   case neg =>
    rw [if_neg c21] at H
    exact absurd H (by simp)
   rw [if_pos c21] at H
   have c21b0 : decide (0 ≤ x10_1) = true := decide_eq_true c21
   clear c21
   by_cases c22 : x10_1 < (l0.length : Int)
   case neg =>
    rw [if_neg c22] at H
    exact absurd H (by simp)
   rw [if_pos c22] at H
   have c22b0 : decide (x10_1 < (l0.length : Int)) = true := decide_eq_true c22
   clear c22
   replace H := Option.bind_eq_some_iff.mp H
   obtain ⟨t638, A230, H⟩ := H
   replace H : (spec_LongestTrack.l1 kj6 l0 a1 x7_1 x8_1 x9_1 x10_1 t638 0) = some (r1, r2, r3) := H
   have A23 := Aside0.mk A230
   clear A230
   have H' := Aside0.mk H
   clear H
   have p637 : 0 ≤ (x10_1 : Int) := of_decide_eq_true zq2
   have q637 : x10_1 < (l0.length : Int) := of_decide_eq_true zq2
   obtain ⟨ad637, A637_0, c637_0, e637, hx637_0, hl637_0, hi637_0⟩ := at_L8 HR0.out x10_1 p637 q637
   cases e637
   replace hx637_0 := bx HB.out hx637_0
   have HR637_0 := Aside0.mk hi637_0
   have HC637_0 := Aside0.mk hl637_0
   clear hi637_0 hl637_0
   replace p637 := eq_true p637
   replace q637 := eq_true q637
   obtain ⟨Ao24, co24, eo24⟩ := Kd.R_slice HO_11.out
   subst eo24
   go_wp2_with (first | ((with_reducible refine gate_callee (f := 46) rfl ?_); refine goesL_ (some 48) rfl rfl Try.func46 (by kernel_rfl) rfl #[.slice A637_0 (rd_L8 l0 x10_1).length c637_0, .slice Ao24 x11_6.length co24] rfl zq1 ?_; (with_reducible refine (spec_l12New.calls kj6 _ _ (rd_L8 l0 x10_1) _ _ x11_6 t638 _ ?side1 ?side2 ?side3 ?side4 A23.out).mono ?_); (case side1 => exact zqC (Kd.C_below HR637_0.out HB.out)); (case side2 => exact HC637_0.out); (case side3 => exact zqC (Kd.R_reads' HO_11.out).2.2); (case side4 => exact (Kd.R_reads' HO_11.out).2.1); rintro e w25 ⟨v639, rfl, ho0, hb⟩; refine ⟨_, rfl, ?_⟩; have HO640 := Aside0.mk (Kd.R_lower (Kd.R_new' ho0 (Kd.R_lt (zqR HO_11.out))) (below_size zq0)); replace HO_11 := Aside0.mk (Kd.R_elder' (zqR HO_11.out) (Kd.R_base ho0) hb); replace HB := Aside0.mk (below_step zq0 hb); (try clear hb); (try clear hb2); (try clear hk); (try clear hi); (try clear ho0)))
   go_loopg [7, 8, 9, 13] kj6 (fun kq v7 v8 v9 v13 w' => ∃ (x7_3 : Int) (x8_3 : Int) (x9_3 : Int) (x13_3 : Int), v7 = .int .i64 x7_3 ∧ v8 = .int .i64 x8_3 ∧ v9 = .int .i64 x9_3 ∧ v13 = .int .i64 x13_3 ∧ Aside0 (spec_LongestTrack.l1 kq l0 a1 x7_3 x8_3 x9_3 x10_1 t638 x13_3 = some (r1, r2, r3)) ∧ Aside0 (kq ≤ kj6) ∧ Aside0 (Kd.R (Kd.int .i64) 3 w' w.heap.size (fun _ => True) v639 t638) ∧ Aside0 (Below w.heap.size w w'))
   case atStart => exact ⟨(x7_1), (x8_1), (x9_1), (0), (by first | rfl | (simp; done) | (simp [*]; done)), (by first | rfl | (simp; done) | (simp [*]; done)), (by first | rfl | (simp; done) | (simp [*]; done)), (by first | rfl | (simp; done) | (simp [*]; done)), H', ⟨Nat.le_refl _⟩, ⟨by (with_reducible repeat (first | apply Kd.R_alloc | apply Kd.R_drewN | apply Kd.R_drew)); exact Kd.R_mono HO640.out (fun _ hk => trivial)⟩, ⟨zq0⟩⟩
   clear H'
   try clear c1
   try clear c2
   try clear p2
   try clear c4
   try clear c6
   try clear c6b0
   try clear p6
   try clear q6
   try clear hx6
   try clear c10
   try clear c10b0
   try clear c12
   try clear c12b0
   try clear c13
   try clear c13b0
   try clear c14
   try clear c14b0
   try clear c19
   try clear c21
   try clear c21b0
   try clear c22
   try clear c22b0
   try clear hx628_0
   try clear hx629_0
   try clear hx637_0
   try clear p2
   try clear p6
   try clear p628
   try clear p629
   try clear p637
   try clear q6
   try clear q628
   try clear q629
   try clear q637
   obtain ⟨x7_3, x8_3, x9_3, x13_3, rfl, rfl, rfl, rfl, HA, HK3, HO_12, HB⟩ := hrel
   cases gk with
   | zero => exact absurd HA.out (by simp [spec_LongestTrack.l1])
   | succ k3 =>
    have H := HA.out
    clear HA
    simp only [spec_LongestTrack.l1] at H
    by_cases c26 : x13_3 < (t638.length : Int)
    case neg =>
     rw [if_neg c26] at H
     have c26b0 : decide (x13_3 < (t638.length : Int)) = false := decide_eq_false c26
     clear c26
     have H' := Aside0.mk H
     clear H
     obtain ⟨Ao34, co34, eo34⟩ := Kd.R_slice HO_12.out
     subst eo34
     go_wp2
     go_roundg k3
     case measure => have := HK1.out; have := HJ6.out; have := HK3.out; omega
     case rel => exact ⟨(x7_3), (x8_3), (x9_3), (wrap64 (x10_1 + 1)), (by first | rfl | (simp; done) | (simp [*]; done)), (by first | rfl | (simp; done) | (simp [*]; done)), (by first | rfl | (simp; done) | (simp [*]; done)), (by first | rfl | (simp; done) | (simp [*]; done)), H', ⟨by have := HK1.out; have := HJ6.out; have := HK3.out; omega⟩, ⟨zq0⟩⟩
    rw [if_pos c26] at H
    have c26b0 : decide (x13_3 < (t638.length : Int)) = true := decide_eq_true c26
    clear c26
    by_cases c27 : 0 ≤ x13_3
    case neg =>
     rw [if_neg c27] at H
     exact absurd H (by simp)
    rw [if_pos c27] at H
    have c27b0 : decide (0 ≤ x13_3) = true := decide_eq_true c27
    clear c27
    replace H := Option.bind_eq_some_iff.mp H
    obtain ⟨t642, A280, H⟩ := H
    replace H : (if t642 > x9_3 then (spec_LongestTrack.l1 k3 l0 a1 x10_1 (rd t638 x13_3) t642 x10_1 t638 (wrap64 (x13_3 + 1))) else (spec_LongestTrack.l1 k3 l0 a1 x7_3 x8_3 x9_3 x10_1 t638 (wrap64 (x13_3 + 1)))) = some (r1, r2, r3) := H
    have A28 := Aside0.mk A280
    clear A280
    by_cases c29 : t642 > x9_3
    case neg =>
     rw [if_neg c29] at H
     have c29b0 : decide (x9_3 < t642) = false := decide_eq_false c29
     clear c29
     have H' := Aside0.mk H
     clear H
     obtain ⟨Ao32, co32, eo32⟩ := Kd.R_slice HO_12.out
     subst eo32
     have p641 : 0 ≤ (x13_3 : Int) := of_decide_eq_true zq2
     have q641 : x13_3 < (t638.length : Int) := of_decide_eq_true zq2
     obtain ⟨ad641, e641, hx641_0⟩ := Kd.at_int (Kd.R_reads' HO_12.out).2.2 x13_3 p641 q641
     cases e641
     replace p641 := eq_true p641
     replace q641 := eq_true q641
     go_wp2_with (first | ((with_reducible refine gate_callee (f := 43) rfl ?_); refine goesL_ (some 62) rfl rfl Try.func43 (by kernel_rfl) rfl #[.slice (some ad637) l0.length c0, .int .i64 a1, .int .i64 x10_1, .int .i64 (rd t638 x13_3)] rfl zq1 ?_; (with_reducible refine (spec_l12Length.calls k3 _ _ l0 a1 x10_1 (rd t638 x13_3) t642 _ ?side1 ?side2 A28.out).mono ?_); (case side1 => exact zqC (Kd.C_below HR0.out HB.out)); (case side2 => exact HC0.out); rintro e w33 ⟨rfl, hb⟩; refine ⟨_, rfl, ?_⟩; replace HO_12 := Aside0.mk (Kd.R_below (zqR HO_12.out) hb); replace HB := Aside0.mk (below_step zq0 hb); (try clear hb); (try clear hb2); (try clear hk); (try clear hi)))
     go_roundg k3
     case measure => have := HK1.out; have := HJ6.out; have := HK3.out; omega
     case rel => exact ⟨(x7_3), (x8_3), (x9_3), (wrap64 (x13_3 + 1)), (by first | rfl | (simp; done) | (simp [*]; done)), (by first | rfl | (simp; done) | (simp [*]; done)), (by first | rfl | (simp; done) | (simp [*]; done)), (by first | rfl | (simp; done) | (simp [*]; done)), H', ⟨by have := HK1.out; have := HJ6.out; have := HK3.out; omega⟩, ⟨zqR HO_12.out⟩, ⟨zq0⟩⟩
    rw [if_pos c29] at H
    have c29b0 : decide (x9_3 < t642) = true := decide_eq_true c29
    clear c29
    have H' := Aside0.mk H
    clear H
    obtain ⟨Ao30, co30, eo30⟩ := Kd.R_slice HO_12.out
    subst eo30
    have p641 : 0 ≤ (x13_3 : Int) := of_decide_eq_true zq2
    have q641 : x13_3 < (t638.length : Int) := of_decide_eq_true zq2
    obtain ⟨ad641, e641, hx641_0⟩ := Kd.at_int (Kd.R_reads' HO_12.out).2.2 x13_3 p641 q641
    cases e641
    replace p641 := eq_true p641
    replace q641 := eq_true q641
    go_wp2_with (first | ((with_reducible refine gate_callee (f := 43) rfl ?_); refine goesL_ (some 62) rfl rfl Try.func43 (by kernel_rfl) rfl #[.slice (some ad637) l0.length c0, .int .i64 a1, .int .i64 x10_1, .int .i64 (rd t638 x13_3)] rfl zq1 ?_; (with_reducible refine (spec_l12Length.calls k3 _ _ l0 a1 x10_1 (rd t638 x13_3) t642 _ ?side1 ?side2 A28.out).mono ?_); (case side1 => exact zqC (Kd.C_below HR0.out HB.out)); (case side2 => exact HC0.out); rintro e w31 ⟨rfl, hb⟩; refine ⟨_, rfl, ?_⟩; replace HO_12 := Aside0.mk (Kd.R_below (zqR HO_12.out) hb); replace HB := Aside0.mk (below_step zq0 hb); (try clear hb); (try clear hb2); (try clear hk); (try clear hi); have p643 : 0 ≤ (x13_3 : Int) := of_decide_eq_true zq2; have q643 : x13_3 < (t638.length : Int) := of_decide_eq_true zq2; obtain ⟨ad643, e643, hx643_0⟩ := Kd.at_int (Kd.R_reads' HO_12.out).2.2 x13_3 p643 q643; obtain rfl : ad641 = ad643 := (by injection e643); replace p643 := eq_true p643; replace q643 := eq_true q643))
    go_roundg k3
    case measure => have := HK1.out; have := HJ6.out; have := HK3.out; omega
    case rel => exact ⟨(x10_1), (rd t638 x13_3), (t642), (wrap64 (x13_3 + 1)), (by first | rfl | (simp; done) | (simp [*]; done)), (by first | rfl | (simp; done) | (simp [*]; done)), (by first | rfl | (simp; done) | (simp [*]; done)), (by first | rfl | (simp; done) | (simp [*]; done)), H', ⟨by have := HK1.out; have := HJ6.out; have := HK3.out; omega⟩, ⟨zqR HO_12.out⟩, ⟨zq0⟩⟩
def spec_l2Fill.l0 : Nat → Int → Int → Int → Int → Int → Int → List Int → Option (Int × Int × List Int)
 | 0, _, _, _, _, _, _, _ => none
 | k + 1, x0, x1, x2, x8, x646000, x646001, x646002 => if x8 < (wrap64 (x0 * x1)) then (if x646002.length < 17592186044416 then (spec_l2Fill.l0 k x0 x1 x2 (wrap64 (x8 + 1)) x646000 x646001 (x646002 ++ [x2])) else (none)) else (some (x646000, x646001, x646002))
def spec_l2Fill.f (k : Nat) (a0 : Int) (a1 : Int) (a2 : Int) : Option (Int × Int × List Int) := spec_l2Fill.l0 k a0 a1 a2 0 a0 a1 ([] : List Int)
set_option maxHeartbeats 8000000 in
set_option maxRecDepth 100000 in
theorem spec_l2Fill.calls (k : Nat) (a0 : Int) (a1 : Int) (a2 : Int) (r1 : Int) (r2 : Int) (r3 : List Int) (w : World) (h : spec_l2Fill.f k a0 a1 a2 = some (r1, r2, r3)) :
  Calls Try.prog 103 #[.int .i64 a0, .int .i64 a1, .int .i64 a2] w fun e w' => ∃ v2_ : Value, e = .returned (.agg #[.int .i64 r1, .int .i64 r2, v2_]) ∧ Kd.R (Kd.int .i64) 3 w' w.heap.size (fun _ => True) v2_ r3 ∧ Below w.heap.size w w' := by
 have hu29 := Try.underlying29
 have HB := Aside0.mk (Below.refl w.heap.size w)
 have H : (spec_l2Fill.l0 k a0 a1 a2 0 a0 a1 ([] : List Int)) = some (r1, r2, r3) := h
 clear h
 have H' := Aside0.mk H
 clear H
 go_enter Try.func103, Try.ntmps103
 go_wp2_with (first | ((with_reducible refine gate_dst (N := 6) rfl ?_); refine box_event ?hg (N := 6) ?hd (cs := #[.int .i64 0, .int .i64 0, .slice none 0 0]) (t := 29) ?hr ?_; (case hd => rfl); (case hg => rfl); (case hr => exact zqS); intro gb644 hg w4 hbox hb; have BK644 := Aside0.mk (hbox); have GW644 := Aside0.mk ((by rw [hg]; exact (below_size zq0) : w.heap.size ≤ gb644)); replace HB := Aside0.mk (below_step zq0 hb); have GE644 := GW644; clear hb hbox hg) | ((with_reducible refine gate_dst (N := 7) rfl ?_); refine box_event ?hg (N := 7) ?hd (cs := #[.int .i64 0, .int .i64 0, .slice none 0 0]) (t := 29) ?hr ?_; (case hd => rfl); (case hg => rfl); (case hr => exact zqS); intro gb645 hg w5 hbox hb; have BK645 := Aside0.mk (hbox); have GW645 := Aside0.mk ((by rw [hg]; exact (below_size zq48) : w.heap.size ≤ gb645)); replace HB := Aside0.mk (below_step zq48 hb); have GE645 := GW645; have NB644_645 := Aside0.mk ((by rw [hg]; exact Nat.ne_of_lt (blk_lt (g := gb644) (o := .cells #[.int .i64 0, .int .i64 0, .slice none 0 0] 29 (0, 0)) (zqK BK644.out)) : gb644 ≠ gb645)); have NB645_644 := Aside0.mk ((by rw [hg]; exact Nat.ne_of_gt (blk_lt (g := gb644) (o := .cells #[.int .i64 0, .int .i64 0, .slice none 0 0] 29 (0, 0)) (zqK BK644.out)) : gb645 ≠ gb644)); replace BK644 := Aside0.mk (blk_below (g := gb644) (o := .cells #[.int .i64 0, .int .i64 0, .slice none 0 0] 29 (0, 0)) (zqK BK644.out) hb); clear hb hbox hg; have hnb6 := NB645_644.out; have hnc6 := NB644_645.out; have hcz7_0 := bz BK645.out 0 (.int .i64 0); have hcz7_1 := bz BK645.out 1 (.int .i64 0); have hcz7_2 := bz BK645.out 2 (.slice none 0 0); have hfz7_0 := blk_frozen BK645.out 0; have hfz7_1 := blk_frozen BK645.out 1; have hfz7_2 := blk_frozen BK645.out 2))
 go_loopg [8] k (fun kq v8 w' => ∃ (x8_1 : Int) (x646002_1 : List Int) (u646002 : Value), v8 = .int .i64 x8_1 ∧ Aside0 (spec_l2Fill.l0 kq a0 a1 a2 x8_1 a0 a1 x646002_1 = some (r1, r2, r3)) ∧ Aside0 (kq ≤ k) ∧ Aside0 (Kd.R (Kd.int .i64) 3 w' w.heap.size (fun _ => True) u646002 x646002_1) ∧ Aside0 (w'.heap[gb644]? = some (.cells #[.int .i64 0, .int .i64 0, (.slice none 0 0)] 29 (0, 0))) ∧ Aside0 (w'.heap[gb645]? = some (.cells #[.int .i64 a0, .int .i64 a1, u646002] 29 (0, 0))) ∧ Aside0 (Below w.heap.size w w'))
 case atStart => exact ⟨(0), (([] : List Int)), (.slice none 0 0), (by first | rfl | (simp; done) | (simp [*]; done)), H', ⟨Nat.le_refl _⟩, ⟨by first | exact Kd.R_nil _ _ _ _ _ | exact Kd.N_nil _ _ _ _ _ | exact Kd.V_nil _ _ _ _ _ | exact Kd.Q_nil _ _ _ _ _ | exact Kd.S_nil _ _ _ _ _⟩, ⟨by (with_reducible repeat (first | refine blk_drewN ?_ _ | refine blk_drew ?_ | refine blk_alloc ?_ _)); refine blk_far ?_ NB644_645.out _; (with_reducible repeat (first | refine blk_drewN ?_ _ | refine blk_drew ?_ | refine blk_alloc ?_ _)); refine blk_far ?_ NB644_645.out _; (with_reducible repeat (first | refine blk_drewN ?_ _ | refine blk_drew ?_ | refine blk_alloc ?_ _)); refine blk_far ?_ NB644_645.out _; (with_reducible repeat (first | refine blk_drewN ?_ _ | refine blk_drew ?_ | refine blk_alloc ?_ _)); exact BK644.out⟩, ⟨by (with_reducible repeat (first | refine blk_drewN ?_ _ | refine blk_drew ?_ | refine blk_alloc ?_ _)); refine blk_put (cs := #[.int .i64 a0, .int .i64 a1, .slice none 0 0]) ?_ 2 _ rfl; (with_reducible repeat (first | refine blk_drewN ?_ _ | refine blk_drew ?_ | refine blk_alloc ?_ _)); refine blk_put (cs := #[.int .i64 a0, .int .i64 0, .slice none 0 0]) ?_ 1 _ rfl; (with_reducible repeat (first | refine blk_drewN ?_ _ | refine blk_drew ?_ | refine blk_alloc ?_ _)); refine blk_put (cs := #[.int .i64 0, .int .i64 0, .slice none 0 0]) ?_ 0 _ rfl; (with_reducible repeat (first | refine blk_drewN ?_ _ | refine blk_drew ?_ | refine blk_alloc ?_ _)); exact BK645.out⟩, ⟨zq31⟩⟩
 clear H'
 try clear c1
 try clear p2
 try clear c6
 try clear hcz7_0
 try clear hcz7_1
 try clear hcz7_2
 try clear hfz7_0
 try clear hfz7_1
 try clear hfz7_2
 obtain ⟨x8_1, x646002_1, u646002, rfl, HA, HK1, HO_646002, BK644, BK645, HB⟩ := hrel
 cases gk with
 | zero => exact absurd HA.out (by simp [spec_l2Fill.l0])
 | succ k1 =>
  have H := HA.out
  clear HA
  simp only [spec_l2Fill.l0] at H
  by_cases c8 : x8_1 < (wrap64 (a0 * a1))
  case neg =>
   rw [if_neg c8] at H
   have c8b0 : decide (x8_1 < (wrap64 (a0 * a1))) = false := decide_eq_false c8
   clear c8
   simp only [Option.some.injEq, Prod.mk.injEq] at H
   obtain ⟨rfl, rfl, rfl⟩ := H
   have hnb15 := NB645_644.out
   have hnc15 := NB644_645.out
   have hcz16_0 := bz BK645.out 0 (.int .i64 a0)
   have hcz16_1 := bz BK645.out 1 (.int .i64 a1)
   have hcz16_2 := bz BK645.out 2 (u646002)
   have hfz16_0 := blk_frozen BK645.out 0
   have hfz16_1 := blk_frozen BK645.out 1
   have hfz16_2 := blk_frozen BK645.out 2
   have hcz17_0 := bz BK644.out 0 (.int .i64 0)
   have hcz17_1 := bz BK644.out 1 (.int .i64 0)
   have hcz17_2 := bz BK644.out 2 (.slice none 0 0)
   have hfz17_0 := blk_frozen BK644.out 0
   have hfz17_1 := blk_frozen BK644.out 1
   have hfz17_2 := blk_frozen BK644.out 2
   obtain ⟨Ao18, co18, eo18⟩ := Kd.R_slice HO_646002.out
   subst eo18
   go_wp2
   refine bodyPost_ret (results_cell_row rfl _ _ gb644 29 #[.int .i64 a0, .int .i64 a1, .slice Ao18 x646002_1.length co18] (0, 0) _ rfl (by (with_reducible repeat (first | refine blk_drewN ?_ _ | refine blk_drew ?_ | refine blk_alloc ?_ _)); refine blk_put (cs := #[.int .i64 a0, .int .i64 a1, .slice none 0 0]) ?_ 2 _ rfl; (with_reducible repeat (first | refine blk_drewN ?_ _ | refine blk_drew ?_ | refine blk_alloc ?_ _)); refine blk_put (cs := #[.int .i64 a0, .int .i64 0, .slice none 0 0]) ?_ 1 _ rfl; (with_reducible repeat (first | refine blk_drewN ?_ _ | refine blk_drew ?_ | refine blk_alloc ?_ _)); refine blk_put (cs := #[.int .i64 0, .int .i64 0, .slice none 0 0]) ?_ 0 _ rfl; (with_reducible repeat (first | refine blk_drewN ?_ _ | refine blk_drew ?_ | refine blk_alloc ?_ _)); exact BK644.out) Try.underlying29 rfl (by kernel_rfl)) rfl ?_
   exact ⟨_, by first | rfl | (simp [errW_none, errW_some] <;> rfl) | (simp [*, errW_none, errW_some] <;> rfl), by (with_reducible repeat (first | apply Kd.R_alloc | apply Kd.R_drewN | apply Kd.R_drew)); exact Kd.R_mono (Kd.R_far (p := ⟨gb644, 2, none⟩) (Kd.R_far (p := ⟨gb644, 1, none⟩) (Kd.R_far (p := ⟨gb644, 0, none⟩) (Kd.R_types HO_646002.out BK644.out (by decide)) (fun _ hk => hk.2) (.int .i64 a0)) (fun _ hk => hk.2) (.int .i64 a1)) (fun _ hk => hk.2) (.slice Ao18 x646002_1.length co18)) (fun _ hk => trivial), zq31⟩
  rw [if_pos c8] at H
  have c8b0 : decide (x8_1 < (wrap64 (a0 * a1))) = true := decide_eq_true c8
  clear c8
  by_cases c9 : x646002_1.length < 17592186044416
  case neg =>
   rw [if_neg c9] at H
   exact absurd H (by simp)
  rw [if_pos c9] at H
  have LMc9 := Aside0.mk c9
  clear c9
  obtain ⟨y646, hy646⟩ : ∃ y_ : List Int, y_ = (x646002_1 ++ [a2]) := ⟨_, rfl⟩
  replace H : (spec_l2Fill.l0 k1 a0 a1 a2 (wrap64 (x8_1 + 1)) a0 a1 y646) = some (r1, r2, r3) := zqH hy646 H
  have Ny646 := Aside0.mk hy646
  clear hy646
  have H' := Aside0.mk H
  clear H
  have hnb10 := NB645_644.out
  have hnc10 := NB644_645.out
  have hcz11_0 := bz BK645.out 0 (.int .i64 a0)
  have hcz11_1 := bz BK645.out 1 (.int .i64 a1)
  have hcz11_2 := bz BK645.out 2 (u646002)
  have hfz11_0 := blk_frozen BK645.out 0
  have hfz11_1 := blk_frozen BK645.out 1
  have hfz11_2 := blk_frozen BK645.out 2
  go_wp2_with (first | ((with_reducible refine gate_builtin (b := .append) (xs := #[.tmp 20, .tmp 22]) rfl ?_); at_builtin; refine Kd.R_append (Kd.int .i64) (w0 := w) w.heap.size rfl (.tmp 20) (.tmp 22) 22 3 (.int .i64 0) 8 rfl Try.underlying22 info3 rfl (by decide) (by omega) u646002 x646002_1 a2 [.int .i64 a2] (fun _ => True) (fun _ => False) rfl rfl ?aP (fun _ hk => hk.elim) ?aF ?aO ?aB ?aS ?aL ?_; (case aP => exact rfl); (case aB => exact zq31); (case aF => exact (fun _ _ => trivial)); (case aO => exact (zqR HO_646002.out)); (case aS => exact (below_size zq31)); (case aL => have := LMc9.out; omega); intro v647 w12 ho hb hg hat; rw [← Ny646.out] at ho; replace BK644 := Aside0.mk (blk_grown (g := gb644) (o := .cells #[.int .i64 0, .int .i64 0, .slice none 0 0] 29 (0, 0)) (zqK BK644.out) hg (Kd.R_ne HO_646002.out BK644.out (by decide))); replace BK645 := Aside0.mk (blk_grown (g := gb645) (o := .cells #[.int .i64 a0, .int .i64 a1, u646002] 29 (0, 0)) (zqK BK645.out) hg (Kd.R_ne HO_646002.out BK645.out (by decide))); replace HB := Aside0.mk (hb); have HO648 := Aside0.mk (ho); clear HO_646002; clear ho hb hg hat; obtain ⟨Ao13, co13, eo13⟩ := Kd.R_slice HO648.out; subst eo13; have hcz14_0 := bz BK645.out 0 (.int .i64 a0); have hcz14_1 := bz BK645.out 1 (.int .i64 a1); have hcz14_2 := bz BK645.out 2 (u646002); have hfz14_0 := blk_frozen BK645.out 0; have hfz14_1 := blk_frozen BK645.out 1; have hfz14_2 := blk_frozen BK645.out 2))
  go_roundg k1
  case measure => have := HK1.out; omega
  case rel => exact ⟨(wrap64 (x8_1 + 1)), (y646), (.slice Ao13 y646.length co13), (by first | rfl | (simp; done) | (simp [*]; done)), H', ⟨by have := HK1.out; omega⟩, ⟨by (with_reducible repeat (first | apply Kd.R_alloc | apply Kd.R_drewN | apply Kd.R_drew)); exact Kd.R_mono (Kd.R_far (p := ⟨gb645, 2, none⟩) (Kd.R_types HO648.out BK645.out (by decide)) (fun _ hk => hk.2) (.slice Ao13 y646.length co13)) (fun _ hk => trivial)⟩, ⟨by (with_reducible repeat (first | refine blk_drewN ?_ _ | refine blk_drew ?_ | refine blk_alloc ?_ _)); refine blk_far ?_ NB644_645.out _; (with_reducible repeat (first | refine blk_drewN ?_ _ | refine blk_drew ?_ | refine blk_alloc ?_ _)); exact BK644.out⟩, ⟨by (with_reducible repeat (first | refine blk_drewN ?_ _ | refine blk_drew ?_ | refine blk_alloc ?_ _)); refine blk_put (cs := #[.int .i64 a0, .int .i64 a1, u646002]) ?_ 2 _ rfl; (with_reducible repeat (first | refine blk_drewN ?_ _ | refine blk_drew ?_ | refine blk_alloc ?_ _)); exact BK645.out⟩, ⟨zq31⟩⟩
end Go.Proofs.Ytpdeapefekbdpaa.Q
