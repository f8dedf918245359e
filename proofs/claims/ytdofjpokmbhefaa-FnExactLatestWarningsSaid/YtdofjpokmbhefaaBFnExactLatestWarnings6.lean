/- Texts of this seat, put together: Qf12, Qf3, LaW, LaBul, LaMarksW, LaMarkWM, PureFnExactLatestWarnings. -/
import Derived.Test.YtdofjpokmbhefaaBFnExactLatestWarnings0
import Derived.Test.YtdofjpokmbhefaaBFnExactLatestWarnings1
import Derived.Test.YtdofjpokmbhefaaBFnExactLatestWarnings2
import Derived.Test.YtdofjpokmbhefaaBFnExactLatestWarnings3
import Derived.Test.YtdofjpokmbhefaaBFnExactLatestWarnings4
import Derived.Test.YtdofjpokmbhefaaBFnExactLatestWarnings5
namespace Go.Proofs.Ytdofjpokmbhefaa.Q
open Go.RowKit Go.Proofs.YtdofjpokmbhefaaW.PrintWords Go.Proofs.YtdofjpokmbhefaaW.PrintLast Go.Proofs.YtdofjpokmbhefaaW.PrintMore
attribute [local go_sem] max2_int min2_int max_two min_two max_three min_three max_four min_four   -- for this text's walks alone
set_option linter.unusedVariables false
set_option linter.unusedSimpArgs false

/-! ### laws_heldWarningS: function 12 -/
def laws_heldWarningS.l0 : Nat → List (S46) → Int → Int → Option (Int)
 | 0, _, _, _ => none
 | k + 1, x0, x1, x5 => if x5 < (x0.length : Int) then (if 0 ≤ x5 then (if ((rd_T46 x0 x5).f0) = x1 then (if ((rd_T46 x0 x5).f1) = (wrap64 (x1 + 1)) then (if ((rd_T46 x0 x5).f2) = (wrap64 ((wrap64 (x1 + 1)) + 1)) then (if ((rd_T46 x0 x5).f3) = (wrap64 ((wrap64 ((wrap64 (x1 + 1)) + 1)) + 1)) then (if ((rd_T46 x0 x5).f4) = (wrap64 ((wrap64 ((wrap64 ((wrap64 (x1 + 1)) + 1)) + 1)) + 1)) then (if ((rd_T46 x0 x5).f5) = (wrap64 ((wrap64 ((wrap64 ((wrap64 ((wrap64 (x1 + 1)) + 1)) + 1)) + 1)) + 1)) then (laws_heldWarningS.l0 k x0 (wrap64 ((wrap64 ((wrap64 ((wrap64 ((wrap64 ((wrap64 (x1 + 1)) + 1)) + 1)) + 1)) + 1)) + 1)) (wrap64 (x5 + 1))) else (some (-1))) else (some (-1))) else (some (-1))) else (some (-1))) else (some (-1))) else (some (-1))) else (none)) else (some x1)
def laws_heldWarningS.f (k : Nat) (l0 : List (S46)) (a1 : Int) : Option (Int) := laws_heldWarningS.l0 k l0 a1 0
theorem laws_heldWarningS.mono_l : ∀ k, (∀ y0 y1 y2, LeO (laws_heldWarningS.l0 k y0 y1 y2) (laws_heldWarningS.l0 (k + 1) y0 y1 y2))
 | 0 => fun _ _ _ r h => by simp [laws_heldWarningS.l0] at h
 | k + 1 => by
  have ih0 := laws_heldWarningS.mono_l k
  ·
   intro y0 y1 y2
   unfold laws_heldWarningS.l0
   repeat' first
   | (with_reducible exact ih0 _ _ _)
   | (with_reducible exact LeO.refl _)
   | (with_reducible exact LeO.none _)
   | (with_reducible refine LeO.ite ?_ ?_)
   | (with_reducible refine LeO.bind ?_ (fun _ => ?_))
   | exact ih0 _ _ _
   | exact LeO.none _
   | refine LeO.ite ?_ ?_
   | refine LeO.bind ?_ (fun _ => ?_)
theorem laws_heldWarningS.mono : ∀ a0 a1 k, LeO (laws_heldWarningS.f k a0 a1) (laws_heldWarningS.f (k + 1) a0 a1) := by
 intro a0 a1 k
 have ih0 := laws_heldWarningS.mono_l k
 unfold laws_heldWarningS.f
 repeat' first
   | (with_reducible exact ih0 _ _ _)
   | (with_reducible exact LeO.refl _)
   | (with_reducible exact LeO.none _)
   | (with_reducible refine LeO.ite ?_ ?_)
   | (with_reducible refine LeO.bind ?_ (fun _ => ?_))
   | exact ih0 _ _ _
   | exact LeO.none _
   | refine LeO.ite ?_ ?_
   | refine LeO.bind ?_ (fun _ => ?_)
set_option maxHeartbeats 8000000 in
set_option maxRecDepth 100000 in
theorem laws_heldWarningS.calls (k : Nat) (A0 : Option Addr) (c0 : Nat) (l0 : List (S46)) (a1 : Int) (r : Int) (w : World) (hr0 : Kd.C k46 w A0 l0.length l0) (hc0 : l0.length ≤ c0) (h : laws_heldWarningS.f k l0 a1 = some r) :
  Calls Try.prog 12 #[.slice A0 l0.length c0, .int .i64 a1] w fun e w' => e = .returned (.int .i64 r) ∧ Drawn0 w w' := by
 have HR0 := Aside0.mk hr0
 have HC0 := Aside0.mk hc0
 clear hr0 hc0
 have H : (laws_heldWarningS.l0 k l0 a1 0) = some r := h
 clear h
 have H' := Aside0.mk H
 clear H
 go_enter Try.func12, Try.ntmps12
 go_wp2
 go_loopg [1, 5] k (fun kq v1 v5 w' => ∃ (x1_1 : Int) (x5_1 : Int), v1 = .int .i64 x1_1 ∧ v5 = .int .i64 x5_1 ∧ Aside0 (laws_heldWarningS.l0 kq l0 x1_1 x5_1 = some r) ∧ Aside0 (kq ≤ k) ∧ Drawn0 w w')
 case atStart => exact ⟨(a1), (0), (by first | rfl | (simp; done) | (simp [*]; done)), (by first | rfl | (simp; done) | (simp [*]; done)), H', ⟨Nat.le_refl _⟩, by repeat (first | exact Drawn0.refl _ | apply Drawn0.step)⟩
 case round =>
  clear H'
  try clear c1
  try clear p2
  obtain ⟨x1_1, x5_1, rfl, rfl, HA, HK1, ⟨m1, rfl⟩⟩ := hrel
  cases gk with
  | zero => exact absurd HA.out (by simp [laws_heldWarningS.l0])
  | succ k1 =>
   have H := HA.out
   clear HA
   simp only [laws_heldWarningS.l0] at H
   by_cases c3 : x5_1 < (l0.length : Int)
   ·
    rw [if_pos c3] at H
    have c3b0 : decide (x5_1 < (l0.length : Int)) = true := decide_eq_true c3
    clear c3
    by_cases c4 : 0 ≤ x5_1
    ·
     rw [if_pos c4] at H
     have c4b0 : decide (0 ≤ x5_1) = true := decide_eq_true c4
     clear c4
     by_cases c5 : ((rd_T46 l0 x5_1).f0) = x1_1
     ·
      rw [if_pos c5] at H
      have c5b0 : (((rd_T46 l0 x5_1).f0) == x1_1) = true := beq_iff_eq.mpr c5
      have c5b1 : (((rd_T46 l0 x5_1).f0) != x1_1) = false := bne_eq_false_iff_eq.mpr c5
      clear c5
      by_cases c6 : ((rd_T46 l0 x5_1).f1) = (wrap64 (x1_1 + 1))
      ·
       rw [if_pos c6] at H
       have c6b0 : (((rd_T46 l0 x5_1).f1) == (wrap64 (x1_1 + 1))) = true := beq_iff_eq.mpr c6
       have c6b1 : (((rd_T46 l0 x5_1).f1) != (wrap64 (x1_1 + 1))) = false := bne_eq_false_iff_eq.mpr c6
       clear c6
       by_cases c7 : ((rd_T46 l0 x5_1).f2) = (wrap64 ((wrap64 (x1_1 + 1)) + 1))
       ·
        rw [if_pos c7] at H
        have c7b0 : (((rd_T46 l0 x5_1).f2) == (wrap64 ((wrap64 (x1_1 + 1)) + 1))) = true := beq_iff_eq.mpr c7
        have c7b1 : (((rd_T46 l0 x5_1).f2) != (wrap64 ((wrap64 (x1_1 + 1)) + 1))) = false := bne_eq_false_iff_eq.mpr c7
        clear c7
        by_cases c8 : ((rd_T46 l0 x5_1).f3) = (wrap64 ((wrap64 ((wrap64 (x1_1 + 1)) + 1)) + 1))
        ·
         rw [if_pos c8] at H
         have c8b0 : (((rd_T46 l0 x5_1).f3) == (wrap64 ((wrap64 ((wrap64 (x1_1 + 1)) + 1)) + 1))) = true := beq_iff_eq.mpr c8
         have c8b1 : (((rd_T46 l0 x5_1).f3) != (wrap64 ((wrap64 ((wrap64 (x1_1 + 1)) + 1)) + 1))) = false := bne_eq_false_iff_eq.mpr c8
         clear c8
         by_cases c9 : ((rd_T46 l0 x5_1).f4) = (wrap64 ((wrap64 ((wrap64 ((wrap64 (x1_1 + 1)) + 1)) + 1)) + 1))
         ·
          rw [if_pos c9] at H
          have c9b0 : (((rd_T46 l0 x5_1).f4) == (wrap64 ((wrap64 ((wrap64 ((wrap64 (x1_1 + 1)) + 1)) + 1)) + 1))) = true := beq_iff_eq.mpr c9
          have c9b1 : (((rd_T46 l0 x5_1).f4) != (wrap64 ((wrap64 ((wrap64 ((wrap64 (x1_1 + 1)) + 1)) + 1)) + 1))) = false := bne_eq_false_iff_eq.mpr c9
          clear c9
          by_cases c10 : ((rd_T46 l0 x5_1).f5) = (wrap64 ((wrap64 ((wrap64 ((wrap64 ((wrap64 (x1_1 + 1)) + 1)) + 1)) + 1)) + 1))
          ·
           rw [if_pos c10] at H
           have c10b0 : (((rd_T46 l0 x5_1).f5) == (wrap64 ((wrap64 ((wrap64 ((wrap64 ((wrap64 (x1_1 + 1)) + 1)) + 1)) + 1)) + 1))) = true := beq_iff_eq.mpr c10
           have c10b1 : (((rd_T46 l0 x5_1).f5) != (wrap64 ((wrap64 ((wrap64 ((wrap64 ((wrap64 (x1_1 + 1)) + 1)) + 1)) + 1)) + 1))) = false := bne_eq_false_iff_eq.mpr c10
           clear c10
           have H' := Aside0.mk H
           clear H
           have p205 : 0 ≤ (x5_1 : Int) := of_decide_eq_true (by first | (with_reducible assumption) | assumption)
           have q205 : x5_1 < (l0.length : Int) := of_decide_eq_true (by first | (with_reducible assumption) | assumption)
           obtain ⟨ad205, e205, hx205_0, hx205_1, hx205_2, hx205_3, hx205_4, hx205_5⟩ := at_T46 HR0.out x5_1 p205 q205
           cases e205
           replace p205 := eq_true p205
           replace q205 := eq_true q205
           have p206 : 0 ≤ (x5_1 : Int) := of_decide_eq_true (by first | (with_reducible assumption) | assumption)
           have q206 : x5_1 < (l0.length : Int) := of_decide_eq_true (by first | (with_reducible assumption) | assumption)
           obtain ⟨ad206, e206, hx206_0, hx206_1, hx206_2, hx206_3, hx206_4, hx206_5⟩ := at_T46 HR0.out x5_1 p206 q206
           obtain rfl : ad205 = ad206 := (by injection e206)
           replace p206 := eq_true p206
           replace q206 := eq_true q206
           have p207 : 0 ≤ (x5_1 : Int) := of_decide_eq_true (by first | (with_reducible assumption) | assumption)
           have q207 : x5_1 < (l0.length : Int) := of_decide_eq_true (by first | (with_reducible assumption) | assumption)
           obtain ⟨ad207, e207, hx207_0, hx207_1, hx207_2, hx207_3, hx207_4, hx207_5⟩ := at_T46 HR0.out x5_1 p207 q207
           obtain rfl : ad205 = ad207 := (by injection e207)
           replace p207 := eq_true p207
           replace q207 := eq_true q207
           have p208 : 0 ≤ (x5_1 : Int) := of_decide_eq_true (by first | (with_reducible assumption) | assumption)
           have q208 : x5_1 < (l0.length : Int) := of_decide_eq_true (by first | (with_reducible assumption) | assumption)
           obtain ⟨ad208, e208, hx208_0, hx208_1, hx208_2, hx208_3, hx208_4, hx208_5⟩ := at_T46 HR0.out x5_1 p208 q208
           obtain rfl : ad205 = ad208 := (by injection e208)
           replace p208 := eq_true p208
           replace q208 := eq_true q208
           have p209 : 0 ≤ (x5_1 : Int) := of_decide_eq_true (by first | (with_reducible assumption) | assumption)
           have q209 : x5_1 < (l0.length : Int) := of_decide_eq_true (by first | (with_reducible assumption) | assumption)
           obtain ⟨ad209, e209, hx209_0, hx209_1, hx209_2, hx209_3, hx209_4, hx209_5⟩ := at_T46 HR0.out x5_1 p209 q209
           obtain rfl : ad205 = ad209 := (by injection e209)
           replace p209 := eq_true p209
           replace q209 := eq_true q209
           have p210 : 0 ≤ (x5_1 : Int) := of_decide_eq_true (by first | (with_reducible assumption) | assumption)
           have q210 : x5_1 < (l0.length : Int) := of_decide_eq_true (by first | (with_reducible assumption) | assumption)
           obtain ⟨ad210, e210, hx210_0, hx210_1, hx210_2, hx210_3, hx210_4, hx210_5⟩ := at_T46 HR0.out x5_1 p210 q210
           obtain rfl : ad205 = ad210 := (by injection e210)
           replace p210 := eq_true p210
           replace q210 := eq_true q210
           go_wp2
           go_roundg k1
           case measure => have := HK1.out; omega
           case rel => exact ⟨(wrap64 ((wrap64 ((wrap64 ((wrap64 ((wrap64 ((wrap64 (x1_1 + 1)) + 1)) + 1)) + 1)) + 1)) + 1)), (wrap64 (x5_1 + 1)), (by first | rfl | (simp; done) | (simp [*]; done)), (by first | rfl | (simp; done) | (simp [*]; done)), H', ⟨by have := HK1.out; omega⟩, by repeat (first | exact Drawn0.refl _ | apply Drawn0.step)⟩
          ·
           rw [if_neg c10] at H
           have c10b0 : (((rd_T46 l0 x5_1).f5) == (wrap64 ((wrap64 ((wrap64 ((wrap64 ((wrap64 (x1_1 + 1)) + 1)) + 1)) + 1)) + 1))) = false := beq_eq_false_iff_ne.mpr c10
           have c10b1 : (((rd_T46 l0 x5_1).f5) != (wrap64 ((wrap64 ((wrap64 ((wrap64 ((wrap64 (x1_1 + 1)) + 1)) + 1)) + 1)) + 1))) = true := bne_iff_ne.mpr c10
           obtain rfl := Option.some.inj H
           have p205 : 0 ≤ (x5_1 : Int) := of_decide_eq_true (by first | (with_reducible assumption) | assumption)
           have q205 : x5_1 < (l0.length : Int) := of_decide_eq_true (by first | (with_reducible assumption) | assumption)
           obtain ⟨ad205, e205, hx205_0, hx205_1, hx205_2, hx205_3, hx205_4, hx205_5⟩ := at_T46 HR0.out x5_1 p205 q205
           cases e205
           replace p205 := eq_true p205
           replace q205 := eq_true q205
           have p206 : 0 ≤ (x5_1 : Int) := of_decide_eq_true (by first | (with_reducible assumption) | assumption)
           have q206 : x5_1 < (l0.length : Int) := of_decide_eq_true (by first | (with_reducible assumption) | assumption)
           obtain ⟨ad206, e206, hx206_0, hx206_1, hx206_2, hx206_3, hx206_4, hx206_5⟩ := at_T46 HR0.out x5_1 p206 q206
           obtain rfl : ad205 = ad206 := (by injection e206)
           replace p206 := eq_true p206
           replace q206 := eq_true q206
           have p207 : 0 ≤ (x5_1 : Int) := of_decide_eq_true (by first | (with_reducible assumption) | assumption)
           have q207 : x5_1 < (l0.length : Int) := of_decide_eq_true (by first | (with_reducible assumption) | assumption)
           obtain ⟨ad207, e207, hx207_0, hx207_1, hx207_2, hx207_3, hx207_4, hx207_5⟩ := at_T46 HR0.out x5_1 p207 q207
           obtain rfl : ad205 = ad207 := (by injection e207)
           replace p207 := eq_true p207
           replace q207 := eq_true q207
           have p208 : 0 ≤ (x5_1 : Int) := of_decide_eq_true (by first | (with_reducible assumption) | assumption)
           have q208 : x5_1 < (l0.length : Int) := of_decide_eq_true (by first | (with_reducible assumption) | assumption)
           obtain ⟨ad208, e208, hx208_0, hx208_1, hx208_2, hx208_3, hx208_4, hx208_5⟩ := at_T46 HR0.out x5_1 p208 q208
           obtain rfl : ad205 = ad208 := (by injection e208)
           replace p208 := eq_true p208
           replace q208 := eq_true q208
           have p209 : 0 ≤ (x5_1 : Int) := of_decide_eq_true (by first | (with_reducible assumption) | assumption)
           have q209 : x5_1 < (l0.length : Int) := of_decide_eq_true (by first | (with_reducible assumption) | assumption)
           obtain ⟨ad209, e209, hx209_0, hx209_1, hx209_2, hx209_3, hx209_4, hx209_5⟩ := at_T46 HR0.out x5_1 p209 q209
           obtain rfl : ad205 = ad209 := (by injection e209)
           replace p209 := eq_true p209
           replace q209 := eq_true q209
           have p210 : 0 ≤ (x5_1 : Int) := of_decide_eq_true (by first | (with_reducible assumption) | assumption)
           have q210 : x5_1 < (l0.length : Int) := of_decide_eq_true (by first | (with_reducible assumption) | assumption)
           obtain ⟨ad210, e210, hx210_0, hx210_1, hx210_2, hx210_3, hx210_4, hx210_5⟩ := at_T46 HR0.out x5_1 p210 q210
           obtain rfl : ad205 = ad210 := (by injection e210)
           replace p210 := eq_true p210
           replace q210 := eq_true q210
           go_wp2
           go_ret
           exact ⟨by first | rfl | (simp; done) | (simp [*]; done), by repeat (first | exact Drawn0.refl _ | apply Drawn0.step)⟩
         ·
          rw [if_neg c9] at H
          have c9b0 : (((rd_T46 l0 x5_1).f4) == (wrap64 ((wrap64 ((wrap64 ((wrap64 (x1_1 + 1)) + 1)) + 1)) + 1))) = false := beq_eq_false_iff_ne.mpr c9
          have c9b1 : (((rd_T46 l0 x5_1).f4) != (wrap64 ((wrap64 ((wrap64 ((wrap64 (x1_1 + 1)) + 1)) + 1)) + 1))) = true := bne_iff_ne.mpr c9
          obtain rfl := Option.some.inj H
          have p205 : 0 ≤ (x5_1 : Int) := of_decide_eq_true (by first | (with_reducible assumption) | assumption)
          have q205 : x5_1 < (l0.length : Int) := of_decide_eq_true (by first | (with_reducible assumption) | assumption)
          obtain ⟨ad205, e205, hx205_0, hx205_1, hx205_2, hx205_3, hx205_4, hx205_5⟩ := at_T46 HR0.out x5_1 p205 q205
          cases e205
          replace p205 := eq_true p205
          replace q205 := eq_true q205
          have p206 : 0 ≤ (x5_1 : Int) := of_decide_eq_true (by first | (with_reducible assumption) | assumption)
          have q206 : x5_1 < (l0.length : Int) := of_decide_eq_true (by first | (with_reducible assumption) | assumption)
          obtain ⟨ad206, e206, hx206_0, hx206_1, hx206_2, hx206_3, hx206_4, hx206_5⟩ := at_T46 HR0.out x5_1 p206 q206
          obtain rfl : ad205 = ad206 := (by injection e206)
          replace p206 := eq_true p206
          replace q206 := eq_true q206
          have p207 : 0 ≤ (x5_1 : Int) := of_decide_eq_true (by first | (with_reducible assumption) | assumption)
          have q207 : x5_1 < (l0.length : Int) := of_decide_eq_true (by first | (with_reducible assumption) | assumption)
          obtain ⟨ad207, e207, hx207_0, hx207_1, hx207_2, hx207_3, hx207_4, hx207_5⟩ := at_T46 HR0.out x5_1 p207 q207
          obtain rfl : ad205 = ad207 := (by injection e207)
          replace p207 := eq_true p207
          replace q207 := eq_true q207
          have p208 : 0 ≤ (x5_1 : Int) := of_decide_eq_true (by first | (with_reducible assumption) | assumption)
          have q208 : x5_1 < (l0.length : Int) := of_decide_eq_true (by first | (with_reducible assumption) | assumption)
          obtain ⟨ad208, e208, hx208_0, hx208_1, hx208_2, hx208_3, hx208_4, hx208_5⟩ := at_T46 HR0.out x5_1 p208 q208
          obtain rfl : ad205 = ad208 := (by injection e208)
          replace p208 := eq_true p208
          replace q208 := eq_true q208
          have p209 : 0 ≤ (x5_1 : Int) := of_decide_eq_true (by first | (with_reducible assumption) | assumption)
          have q209 : x5_1 < (l0.length : Int) := of_decide_eq_true (by first | (with_reducible assumption) | assumption)
          obtain ⟨ad209, e209, hx209_0, hx209_1, hx209_2, hx209_3, hx209_4, hx209_5⟩ := at_T46 HR0.out x5_1 p209 q209
          obtain rfl : ad205 = ad209 := (by injection e209)
          replace p209 := eq_true p209
          replace q209 := eq_true q209
          go_wp2
          go_ret
          exact ⟨by first | rfl | (simp; done) | (simp [*]; done), by repeat (first | exact Drawn0.refl _ | apply Drawn0.step)⟩
        ·
         rw [if_neg c8] at H
         have c8b0 : (((rd_T46 l0 x5_1).f3) == (wrap64 ((wrap64 ((wrap64 (x1_1 + 1)) + 1)) + 1))) = false := beq_eq_false_iff_ne.mpr c8
         have c8b1 : (((rd_T46 l0 x5_1).f3) != (wrap64 ((wrap64 ((wrap64 (x1_1 + 1)) + 1)) + 1))) = true := bne_iff_ne.mpr c8
         obtain rfl := Option.some.inj H
         have p205 : 0 ≤ (x5_1 : Int) := of_decide_eq_true (by first | (with_reducible assumption) | assumption)
         have q205 : x5_1 < (l0.length : Int) := of_decide_eq_true (by first | (with_reducible assumption) | assumption)
         obtain ⟨ad205, e205, hx205_0, hx205_1, hx205_2, hx205_3, hx205_4, hx205_5⟩ := at_T46 HR0.out x5_1 p205 q205
         cases e205
         replace p205 := eq_true p205
         replace q205 := eq_true q205
         have p206 : 0 ≤ (x5_1 : Int) := of_decide_eq_true (by first | (with_reducible assumption) | assumption)
         have q206 : x5_1 < (l0.length : Int) := of_decide_eq_true (by first | (with_reducible assumption) | assumption)
         obtain ⟨ad206, e206, hx206_0, hx206_1, hx206_2, hx206_3, hx206_4, hx206_5⟩ := at_T46 HR0.out x5_1 p206 q206
         obtain rfl : ad205 = ad206 := (by injection e206)
         replace p206 := eq_true p206
         replace q206 := eq_true q206
         have p207 : 0 ≤ (x5_1 : Int) := of_decide_eq_true (by first | (with_reducible assumption) | assumption)
         have q207 : x5_1 < (l0.length : Int) := of_decide_eq_true (by first | (with_reducible assumption) | assumption)
         obtain ⟨ad207, e207, hx207_0, hx207_1, hx207_2, hx207_3, hx207_4, hx207_5⟩ := at_T46 HR0.out x5_1 p207 q207
         obtain rfl : ad205 = ad207 := (by injection e207)
         replace p207 := eq_true p207
         replace q207 := eq_true q207
         have p208 : 0 ≤ (x5_1 : Int) := of_decide_eq_true (by first | (with_reducible assumption) | assumption)
         have q208 : x5_1 < (l0.length : Int) := of_decide_eq_true (by first | (with_reducible assumption) | assumption)
         obtain ⟨ad208, e208, hx208_0, hx208_1, hx208_2, hx208_3, hx208_4, hx208_5⟩ := at_T46 HR0.out x5_1 p208 q208
         obtain rfl : ad205 = ad208 := (by injection e208)
         replace p208 := eq_true p208
         replace q208 := eq_true q208
         go_wp2
         go_ret
         exact ⟨by first | rfl | (simp; done) | (simp [*]; done), by repeat (first | exact Drawn0.refl _ | apply Drawn0.step)⟩
       ·
        rw [if_neg c7] at H
        have c7b0 : (((rd_T46 l0 x5_1).f2) == (wrap64 ((wrap64 (x1_1 + 1)) + 1))) = false := beq_eq_false_iff_ne.mpr c7
        have c7b1 : (((rd_T46 l0 x5_1).f2) != (wrap64 ((wrap64 (x1_1 + 1)) + 1))) = true := bne_iff_ne.mpr c7
        obtain rfl := Option.some.inj H
        have p205 : 0 ≤ (x5_1 : Int) := of_decide_eq_true (by first | (with_reducible assumption) | assumption)
        have q205 : x5_1 < (l0.length : Int) := of_decide_eq_true (by first | (with_reducible assumption) | assumption)
        obtain ⟨ad205, e205, hx205_0, hx205_1, hx205_2, hx205_3, hx205_4, hx205_5⟩ := at_T46 HR0.out x5_1 p205 q205
        cases e205
        replace p205 := eq_true p205
        replace q205 := eq_true q205
        have p206 : 0 ≤ (x5_1 : Int) := of_decide_eq_true (by first | (with_reducible assumption) | assumption)
        have q206 : x5_1 < (l0.length : Int) := of_decide_eq_true (by first | (with_reducible assumption) | assumption)
        obtain ⟨ad206, e206, hx206_0, hx206_1, hx206_2, hx206_3, hx206_4, hx206_5⟩ := at_T46 HR0.out x5_1 p206 q206
        obtain rfl : ad205 = ad206 := (by injection e206)
        replace p206 := eq_true p206
        replace q206 := eq_true q206
        have p207 : 0 ≤ (x5_1 : Int) := of_decide_eq_true (by first | (with_reducible assumption) | assumption)
        have q207 : x5_1 < (l0.length : Int) := of_decide_eq_true (by first | (with_reducible assumption) | assumption)
        obtain ⟨ad207, e207, hx207_0, hx207_1, hx207_2, hx207_3, hx207_4, hx207_5⟩ := at_T46 HR0.out x5_1 p207 q207
        obtain rfl : ad205 = ad207 := (by injection e207)
        replace p207 := eq_true p207
        replace q207 := eq_true q207
        go_wp2
        go_ret
        exact ⟨by first | rfl | (simp; done) | (simp [*]; done), by repeat (first | exact Drawn0.refl _ | apply Drawn0.step)⟩
      ·
       rw [if_neg c6] at H
       have c6b0 : (((rd_T46 l0 x5_1).f1) == (wrap64 (x1_1 + 1))) = false := beq_eq_false_iff_ne.mpr c6
       have c6b1 : (((rd_T46 l0 x5_1).f1) != (wrap64 (x1_1 + 1))) = true := bne_iff_ne.mpr c6
       obtain rfl := Option.some.inj H
       have p205 : 0 ≤ (x5_1 : Int) := of_decide_eq_true (by first | (with_reducible assumption) | assumption)
       have q205 : x5_1 < (l0.length : Int) := of_decide_eq_true (by first | (with_reducible assumption) | assumption)
       obtain ⟨ad205, e205, hx205_0, hx205_1, hx205_2, hx205_3, hx205_4, hx205_5⟩ := at_T46 HR0.out x5_1 p205 q205
       cases e205
       replace p205 := eq_true p205
       replace q205 := eq_true q205
       have p206 : 0 ≤ (x5_1 : Int) := of_decide_eq_true (by first | (with_reducible assumption) | assumption)
       have q206 : x5_1 < (l0.length : Int) := of_decide_eq_true (by first | (with_reducible assumption) | assumption)
       obtain ⟨ad206, e206, hx206_0, hx206_1, hx206_2, hx206_3, hx206_4, hx206_5⟩ := at_T46 HR0.out x5_1 p206 q206
       obtain rfl : ad205 = ad206 := (by injection e206)
       replace p206 := eq_true p206
       replace q206 := eq_true q206
       go_wp2
       go_ret
       exact ⟨by first | rfl | (simp; done) | (simp [*]; done), by repeat (first | exact Drawn0.refl _ | apply Drawn0.step)⟩
     ·
      rw [if_neg c5] at H
      have c5b0 : (((rd_T46 l0 x5_1).f0) == x1_1) = false := beq_eq_false_iff_ne.mpr c5
      have c5b1 : (((rd_T46 l0 x5_1).f0) != x1_1) = true := bne_iff_ne.mpr c5
      obtain rfl := Option.some.inj H
      have p205 : 0 ≤ (x5_1 : Int) := of_decide_eq_true (by first | (with_reducible assumption) | assumption)
      have q205 : x5_1 < (l0.length : Int) := of_decide_eq_true (by first | (with_reducible assumption) | assumption)
      obtain ⟨ad205, e205, hx205_0, hx205_1, hx205_2, hx205_3, hx205_4, hx205_5⟩ := at_T46 HR0.out x5_1 p205 q205
      cases e205
      replace p205 := eq_true p205
      replace q205 := eq_true q205
      go_wp2
      go_ret
      exact ⟨by first | rfl | (simp; done) | (simp [*]; done), by repeat (first | exact Drawn0.refl _ | apply Drawn0.step)⟩
    ·
     rw [if_neg c4] at H
     exact absurd H (by simp)
   ·
    rw [if_neg c3] at H
    have c3b0 : decide (x5_1 < (l0.length : Int)) = false := decide_eq_false c3
    clear c3
    obtain rfl := Option.some.inj H
    go_wp2
    go_ret
    exact ⟨by first | rfl | (simp; done) | (simp [*]; done), by repeat (first | exact Drawn0.refl _ | apply Drawn0.step)⟩

end Go.Proofs.Ytdofjpokmbhefaa.Q
namespace Go.Proofs.Ytdofjpokmbhefaa.Q
open Go.RowKit Go.Proofs.YtdofjpokmbhefaaW.PrintWords Go.Proofs.YtdofjpokmbhefaaW.PrintLast Go.Proofs.YtdofjpokmbhefaaW.PrintMore
attribute [local go_sem] max2_int min2_int max_two min_two max_three min_three max_four min_four   -- for this text's walks alone
set_option linter.unusedVariables false
set_option linter.unusedSimpArgs false

/-! ### laws_FnExactLatestWarnings: function 3 -/
mutual
def laws_FnExactLatestWarnings.j0 : Nat → List (S37) → List (S46) → Int → Bool → List (S41) → List (S46) → Int → Bool → Bool → Option (Bool)
 | 0, _, _, _, _, _, _, _, _, _ => none
 | k + 1, x0, x4, x5, x6, x7, x8, x9, x10, x50 => if x50 = true then (none) else ((laws_toBulletinS.f k x0).bind fun t229 => ((laws_eqBulletinS.f k x7 t229).bind fun t232 => (if t232 = true then ((laws_markBulletinS.f k x7 1).bind fun t233 => (if t233 < 0 then (none) else ((laws_eqWarningS.f k x8 x4).bind fun t234 => (if t234 = true then (if x9 = x5 then (laws_FnExactLatestWarnings.j1 k x0 x4 x5 x6 x8 (x10 != x6)) else (none)) else (none))))) else (none))))
def laws_FnExactLatestWarnings.j1 : Nat → List (S37) → List (S46) → Int → Bool → List (S46) → Bool → Option (Bool)
 | 0, _, _, _, _, _, _ => none
 | k + 1, x0, x4, x5, x6, x8, x76 => if x76 = true then (none) else ((laws_markWarningS.f k x8 1).bind fun bt235 => ((laws_heldWarningS.f k bt235.2 1).bind fun t237 => (if t237 < 0 then (none) else (if t237 = bt235.1 then ((laws_toBulletinS.f k x0).bind fun t238 => ((impl_LatestWarnings.f k t238).bind fun bt241 => ((laws_eqWarningS.f k bt241.1 x4).bind fun t246 => (if t246 = true then (if bt241.2.1 = x5 then (laws_FnExactLatestWarnings.j2 k bt235.2 bt235.1 (bt241.2.2 != x6)) else (none)) else (none))))) else (none)))))
def laws_FnExactLatestWarnings.j2 : Nat → List (S46) → Int → Bool → Option (Bool)
 | 0, _, _, _ => none
 | k + 1, x8, x12, x108 => if x108 = true then (none) else ((laws_heldWarningS.f k x8 1).bind fun t247 => (if t247 < 0 then (none) else (if t247 = x12 then (some true) else (none))))
end
def laws_FnExactLatestWarnings.f (k : Nat) (l0 : List (S37)) : Option (Bool) := (laws_szBulletinS.f k l0 1048576).bind fun t211 => (if t211 < 0 then (some true) else ((laws_toBulletinS.f k l0).bind fun t212 => ((spec_LatestWarnings.f k t212).bind fun bt215 => ((laws_toBulletinS.f k l0).bind fun t220 => ((impl_LatestWarnings.f k t220).bind fun bt223 => ((laws_eqWarningS.f k bt223.1 bt215.1).bind fun t228 => (if t228 = true then (if bt223.2.1 = bt215.2.1 then (laws_FnExactLatestWarnings.j0 k l0 bt215.1 bt215.2.1 bt215.2.2 t220 bt223.1 bt223.2.1 bt223.2.2 (bt223.2.2 != bt215.2.2)) else (none)) else (none))))))))
theorem laws_FnExactLatestWarnings.mono_l : ∀ k, (∀ y0 y1 y2 y3 y4 y5 y6 y7 y8, LeO (laws_FnExactLatestWarnings.j0 k y0 y1 y2 y3 y4 y5 y6 y7 y8) (laws_FnExactLatestWarnings.j0 (k + 1) y0 y1 y2 y3 y4 y5 y6 y7 y8)) ∧ (∀ y0 y1 y2 y3 y4 y5, LeO (laws_FnExactLatestWarnings.j1 k y0 y1 y2 y3 y4 y5) (laws_FnExactLatestWarnings.j1 (k + 1) y0 y1 y2 y3 y4 y5)) ∧ (∀ y0 y1 y2, LeO (laws_FnExactLatestWarnings.j2 k y0 y1 y2) (laws_FnExactLatestWarnings.j2 (k + 1) y0 y1 y2))
 | 0 => ⟨fun _ _ _ _ _ _ _ _ _ r h => by simp [laws_FnExactLatestWarnings.j0] at h, fun _ _ _ _ _ _ r h => by simp [laws_FnExactLatestWarnings.j1] at h, fun _ _ _ r h => by simp [laws_FnExactLatestWarnings.j2] at h⟩
 | k + 1 => by
  obtain ⟨ih0, ih1, ih2⟩ := laws_FnExactLatestWarnings.mono_l k
  refine ⟨?_, ?_, ?_⟩
  ·
   intro y0 y1 y2 y3 y4 y5 y6 y7 y8
   unfold laws_FnExactLatestWarnings.j0
   repeat' first
   | (with_reducible exact ih0 _ _ _ _ _ _ _ _ _)
   | (with_reducible exact ih1 _ _ _ _ _ _)
   | (with_reducible exact ih2 _ _ _)
   | (with_reducible exact impl_LatestWarnings.mono _ _)
   | (with_reducible exact laws_eqBulletinS.mono _ _ _)
   | (with_reducible exact laws_eqWarningS.mono _ _ _)
   | (with_reducible exact laws_heldWarningS.mono _ _ _)
   | (with_reducible exact laws_markBulletinS.mono _ _ _)
   | (with_reducible exact laws_markWarningS.mono _ _ _)
   | (with_reducible exact laws_szBulletinS.mono _ _ _)
   | (with_reducible exact laws_toBulletinS.mono _ _)
   | (with_reducible exact spec_LatestWarnings.mono _ _)
   | (with_reducible exact LeO.refl _)
   | (with_reducible exact LeO.none _)
   | (with_reducible refine LeO.ite ?_ ?_)
   | (with_reducible refine LeO.bind ?_ (fun _ => ?_))
   | exact ih0 _ _ _ _ _ _ _ _ _
   | exact ih1 _ _ _ _ _ _
   | exact ih2 _ _ _
   | exact impl_LatestWarnings.mono _ _
   | exact laws_eqBulletinS.mono _ _ _
   | exact laws_eqWarningS.mono _ _ _
   | exact laws_heldWarningS.mono _ _ _
   | exact laws_markBulletinS.mono _ _ _
   | exact laws_markWarningS.mono _ _ _
   | exact laws_szBulletinS.mono _ _ _
   | exact laws_toBulletinS.mono _ _
   | exact spec_LatestWarnings.mono _ _
   | exact LeO.none _
   | refine LeO.ite ?_ ?_
   | refine LeO.bind ?_ (fun _ => ?_)
  ·
   intro y0 y1 y2 y3 y4 y5
   unfold laws_FnExactLatestWarnings.j1
   repeat' first
   | (with_reducible exact ih0 _ _ _ _ _ _ _ _ _)
   | (with_reducible exact ih1 _ _ _ _ _ _)
   | (with_reducible exact ih2 _ _ _)
   | (with_reducible exact impl_LatestWarnings.mono _ _)
   | (with_reducible exact laws_eqBulletinS.mono _ _ _)
   | (with_reducible exact laws_eqWarningS.mono _ _ _)
   | (with_reducible exact laws_heldWarningS.mono _ _ _)
   | (with_reducible exact laws_markBulletinS.mono _ _ _)
   | (with_reducible exact laws_markWarningS.mono _ _ _)
   | (with_reducible exact laws_szBulletinS.mono _ _ _)
   | (with_reducible exact laws_toBulletinS.mono _ _)
   | (with_reducible exact spec_LatestWarnings.mono _ _)
   | (with_reducible exact LeO.refl _)
   | (with_reducible exact LeO.none _)
   | (with_reducible refine LeO.ite ?_ ?_)
   | (with_reducible refine LeO.bind ?_ (fun _ => ?_))
   | exact ih0 _ _ _ _ _ _ _ _ _
   | exact ih1 _ _ _ _ _ _
   | exact ih2 _ _ _
   | exact impl_LatestWarnings.mono _ _
   | exact laws_eqBulletinS.mono _ _ _
   | exact laws_eqWarningS.mono _ _ _
   | exact laws_heldWarningS.mono _ _ _
   | exact laws_markBulletinS.mono _ _ _
   | exact laws_markWarningS.mono _ _ _
   | exact laws_szBulletinS.mono _ _ _
   | exact laws_toBulletinS.mono _ _
   | exact spec_LatestWarnings.mono _ _
   | exact LeO.none _
   | refine LeO.ite ?_ ?_
   | refine LeO.bind ?_ (fun _ => ?_)
  ·
   intro y0 y1 y2
   unfold laws_FnExactLatestWarnings.j2
   repeat' first
   | (with_reducible exact ih0 _ _ _ _ _ _ _ _ _)
   | (with_reducible exact ih1 _ _ _ _ _ _)
   | (with_reducible exact ih2 _ _ _)
   | (with_reducible exact impl_LatestWarnings.mono _ _)
   | (with_reducible exact laws_eqBulletinS.mono _ _ _)
   | (with_reducible exact laws_eqWarningS.mono _ _ _)
   | (with_reducible exact laws_heldWarningS.mono _ _ _)
   | (with_reducible exact laws_markBulletinS.mono _ _ _)
   | (with_reducible exact laws_markWarningS.mono _ _ _)
   | (with_reducible exact laws_szBulletinS.mono _ _ _)
   | (with_reducible exact laws_toBulletinS.mono _ _)
   | (with_reducible exact spec_LatestWarnings.mono _ _)
   | (with_reducible exact LeO.refl _)
   | (with_reducible exact LeO.none _)
   | (with_reducible refine LeO.ite ?_ ?_)
   | (with_reducible refine LeO.bind ?_ (fun _ => ?_))
   | exact ih0 _ _ _ _ _ _ _ _ _
   | exact ih1 _ _ _ _ _ _
   | exact ih2 _ _ _
   | exact impl_LatestWarnings.mono _ _
   | exact laws_eqBulletinS.mono _ _ _
   | exact laws_eqWarningS.mono _ _ _
   | exact laws_heldWarningS.mono _ _ _
   | exact laws_markBulletinS.mono _ _ _
   | exact laws_markWarningS.mono _ _ _
   | exact laws_szBulletinS.mono _ _ _
   | exact laws_toBulletinS.mono _ _
   | exact spec_LatestWarnings.mono _ _
   | exact LeO.none _
   | refine LeO.ite ?_ ?_
   | refine LeO.bind ?_ (fun _ => ?_)
theorem laws_FnExactLatestWarnings.mono : ∀ a0 k, LeO (laws_FnExactLatestWarnings.f k a0) (laws_FnExactLatestWarnings.f (k + 1) a0) := by
 intro a0 k
 obtain ⟨ih0, ih1, ih2⟩ := laws_FnExactLatestWarnings.mono_l k
 unfold laws_FnExactLatestWarnings.f
 repeat' first
   | (with_reducible exact ih0 _ _ _ _ _ _ _ _ _)
   | (with_reducible exact ih1 _ _ _ _ _ _)
   | (with_reducible exact ih2 _ _ _)
   | (with_reducible exact impl_LatestWarnings.mono _ _)
   | (with_reducible exact laws_eqBulletinS.mono _ _ _)
   | (with_reducible exact laws_eqWarningS.mono _ _ _)
   | (with_reducible exact laws_heldWarningS.mono _ _ _)
   | (with_reducible exact laws_markBulletinS.mono _ _ _)
   | (with_reducible exact laws_markWarningS.mono _ _ _)
   | (with_reducible exact laws_szBulletinS.mono _ _ _)
   | (with_reducible exact laws_toBulletinS.mono _ _)
   | (with_reducible exact spec_LatestWarnings.mono _ _)
   | (with_reducible exact LeO.refl _)
   | (with_reducible exact LeO.none _)
   | (with_reducible refine LeO.ite ?_ ?_)
   | (with_reducible refine LeO.bind ?_ (fun _ => ?_))
   | exact ih0 _ _ _ _ _ _ _ _ _
   | exact ih1 _ _ _ _ _ _
   | exact ih2 _ _ _
   | exact impl_LatestWarnings.mono _ _
   | exact laws_eqBulletinS.mono _ _ _
   | exact laws_eqWarningS.mono _ _ _
   | exact laws_heldWarningS.mono _ _ _
   | exact laws_markBulletinS.mono _ _ _
   | exact laws_markWarningS.mono _ _ _
   | exact laws_szBulletinS.mono _ _ _
   | exact laws_toBulletinS.mono _ _
   | exact spec_LatestWarnings.mono _ _
   | exact LeO.none _
   | refine LeO.ite ?_ ?_
   | refine LeO.bind ?_ (fun _ => ?_)
set_option maxHeartbeats 8000000 in
set_option maxRecDepth 100000 in
theorem laws_FnExactLatestWarnings.calls (k : Nat) (A0 : Option Addr) (c0 : Nat) (l0 : List (S37)) (r : Bool) (w : World) (hr0 : Kd.C k37 w A0 l0.length l0) (hc0 : l0.length ≤ c0) (h : laws_FnExactLatestWarnings.f k l0 = some r) :
  Calls Try.prog 3 #[.slice A0 l0.length c0] w fun e w' => e = .returned (.bool r) ∧ Below w.heap.size w w' := by
 have HR0 := Aside0.mk hr0
 have HC0 := Aside0.mk hc0
 clear hr0 hc0
 have HB := Aside0.mk (Below.refl w.heap.size w)
 have H : ((laws_szBulletinS.f k l0 1048576).bind fun t211 => (if t211 < 0 then (some true) else ((laws_toBulletinS.f k l0).bind fun t212 => ((spec_LatestWarnings.f k t212).bind fun bt215 => ((laws_toBulletinS.f k l0).bind fun t220 => ((impl_LatestWarnings.f k t220).bind fun bt223 => ((laws_eqWarningS.f k bt223.1 bt215.1).bind fun t228 => (if t228 = true then (if bt223.2.1 = bt215.2.1 then (laws_FnExactLatestWarnings.j0 k l0 bt215.1 bt215.2.1 bt215.2.2 t220 bt223.1 bt223.2.1 bt223.2.2 (bt223.2.2 != bt215.2.2)) else (none)) else (none))))))))) = some r := h
 clear h
 replace H := Option.bind_eq_some_iff.mp H
 obtain ⟨t211, A20, H⟩ := H
 replace H : (if t211 < 0 then (some true) else ((laws_toBulletinS.f k l0).bind fun t212 => ((spec_LatestWarnings.f k t212).bind fun bt215 => ((laws_toBulletinS.f k l0).bind fun t220 => ((impl_LatestWarnings.f k t220).bind fun bt223 => ((laws_eqWarningS.f k bt223.1 bt215.1).bind fun t228 => (if t228 = true then (if bt223.2.1 = bt215.2.1 then (laws_FnExactLatestWarnings.j0 k l0 bt215.1 bt215.2.1 bt215.2.2 t220 bt223.1 bt223.2.1 bt223.2.2 (bt223.2.2 != bt215.2.2)) else (none)) else (none)))))))) = some r := H
 have A2 := Aside0.mk A20
 clear A20
 by_cases c3 : t211 < 0
 ·
  rw [if_pos c3] at H
  have c3b0 : decide (t211 < 0) = true := decide_eq_true c3
  clear c3
  obtain rfl := Option.some.inj H
  go_enter Try.func3, Try.ntmps3
  go_wp2_with (first | ((with_reducible refine gate_callee (f := 4) rfl ?_); refine goesL_ (some 19) rfl rfl Try.func4 (by kernel_rfl) rfl #[.slice A0 l0.length c0, .int .i64 1048576] rfl (by (try simp only [List.map_toArray, List.map_cons, List.map_nil]); first | done | rfl | (simp only [List.length_drop, List.length_take]; rfl)) ?_; (with_reducible refine (laws_szBulletinS.calls k _ _ l0 1048576 t211 _ ?side1 ?side2 A2.out).mono ?_); (case side1 => repeat (first | exact HR0.out | (with_reducible refine Kd.C_alloc ?_ _) | (with_reducible refine Kd.C_drewN ?_ _) | (with_reducible refine Kd.C_drew ?_))); (case side2 => exact HC0.out); rintro e w4 ⟨rfl, hb⟩; refine ⟨_, rfl, ?_⟩; have n0_ := Aside0.mk (below_step (by repeat (first | (with_reducible first | exact HB.out | apply below_alloc | apply pw_below_drewN | apply below_drew1) | exact HB.out)) hb); clear HB; have HB := n0_; clear n0_; (try clear hb); (try clear hb2); (try clear hk); (try clear hi)))
  go_ret
  exact ⟨by first | rfl | (simp [errW_none, errW_some] <;> rfl) | (simp [*, errW_none, errW_some] <;> rfl), by repeat (first | (with_reducible first | exact HB.out | apply below_alloc | apply pw_below_drewN | apply below_drew1) | exact HB.out)⟩
 ·
  rw [if_neg c3] at H
  have c3b0 : decide (t211 < 0) = false := decide_eq_false c3
  clear c3
  replace H := Option.bind_eq_some_iff.mp H
  obtain ⟨t212, A50, H⟩ := H
  replace H : ((spec_LatestWarnings.f k t212).bind fun bt215 => ((laws_toBulletinS.f k l0).bind fun t220 => ((impl_LatestWarnings.f k t220).bind fun bt223 => ((laws_eqWarningS.f k bt223.1 bt215.1).bind fun t228 => (if t228 = true then (if bt223.2.1 = bt215.2.1 then (laws_FnExactLatestWarnings.j0 k l0 bt215.1 bt215.2.1 bt215.2.2 t220 bt223.1 bt223.2.1 bt223.2.2 (bt223.2.2 != bt215.2.2)) else (none)) else (none)))))) = some r := H
  have A5 := Aside0.mk A50
  clear A50
  replace H := Option.bind_eq_some_iff.mp H
  obtain ⟨⟨t215, t216, t217⟩, A60, H⟩ := H
  replace H : ((laws_toBulletinS.f k l0).bind fun t220 => ((impl_LatestWarnings.f k t220).bind fun bt223 => ((laws_eqWarningS.f k bt223.1 t215).bind fun t228 => (if t228 = true then (if bt223.2.1 = t216 then (laws_FnExactLatestWarnings.j0 k l0 t215 t216 t217 t220 bt223.1 bt223.2.1 bt223.2.2 (bt223.2.2 != t217)) else (none)) else (none))))) = some r := H
  have A6 := Aside0.mk A60
  clear A60
  replace H := Option.bind_eq_some_iff.mp H
  obtain ⟨t220, A70, H⟩ := H
  replace H : ((impl_LatestWarnings.f k t220).bind fun bt223 => ((laws_eqWarningS.f k bt223.1 t215).bind fun t228 => (if t228 = true then (if bt223.2.1 = t216 then (laws_FnExactLatestWarnings.j0 k l0 t215 t216 t217 t220 bt223.1 bt223.2.1 bt223.2.2 (bt223.2.2 != t217)) else (none)) else (none)))) = some r := H
  have A7 := Aside0.mk A70
  clear A70
  replace H := Option.bind_eq_some_iff.mp H
  obtain ⟨⟨t223, t224, t225⟩, A80, H⟩ := H
  replace H : ((laws_eqWarningS.f k t223 t215).bind fun t228 => (if t228 = true then (if t224 = t216 then (laws_FnExactLatestWarnings.j0 k l0 t215 t216 t217 t220 t223 t224 t225 (t225 != t217)) else (none)) else (none))) = some r := H
  have A8 := Aside0.mk A80
  clear A80
  have HC9 := Aside0.mk H
  clear H
  go_enter Try.func3, Try.ntmps3
  go_upto_region 8 with (first | ((with_reducible refine gate_callee (f := 4) rfl ?_); refine goesL_ (some 19) rfl rfl Try.func4 (by kernel_rfl) rfl #[.slice A0 l0.length c0, .int .i64 1048576] rfl (by (try simp only [List.map_toArray, List.map_cons, List.map_nil]); first | done | rfl | (simp only [List.length_drop, List.length_take]; rfl)) ?_; (with_reducible refine (laws_szBulletinS.calls k _ _ l0 1048576 t211 _ ?side1 ?side2 A2.out).mono ?_); (case side1 => repeat (first | exact HR0.out | (with_reducible refine Kd.C_alloc ?_ _) | (with_reducible refine Kd.C_drewN ?_ _) | (with_reducible refine Kd.C_drew ?_))); (case side2 => exact HC0.out); rintro e w10 ⟨rfl, hb⟩; refine ⟨_, rfl, ?_⟩; have n0_ := Aside0.mk (below_step (by repeat (first | (with_reducible first | exact HB.out | apply below_alloc | apply pw_below_drewN | apply below_drew1) | exact HB.out)) hb); clear HB; have HB := n0_; clear n0_; (try clear hb); (try clear hb2); (try clear hk); (try clear hi)) | ((with_reducible refine gate_callee (f := 6) rfl ?_); refine goesL_ (some 24) rfl rfl Try.func6 (by kernel_rfl) rfl #[.slice A0 l0.length c0] rfl (by (try simp only [List.map_toArray, List.map_cons, List.map_nil]); first | done | rfl | (simp only [List.length_drop, List.length_take]; rfl)) ?_; (with_reducible refine (laws_toBulletinS.calls k _ _ l0 t212 _ ?side1 ?side2 A5.out).mono ?_); (case side1 => repeat (first | exact (Kd.C_below HR0.out HB.out) | (with_reducible refine Kd.C_alloc ?_ _) | (with_reducible refine Kd.C_drewN ?_ _) | (with_reducible refine Kd.C_drew ?_))); (case side2 => exact HC0.out); rintro e w11 ⟨v213, rfl, ho0, hb⟩; refine ⟨_, rfl, ?_⟩; have n0_ := Aside0.mk (Kd.S_lower ho0 (below_size (by repeat (first | (with_reducible first | exact HB.out | apply below_alloc | apply pw_below_drewN | apply below_drew1) | exact HB.out)))); have n1_ := Aside0.mk (below_step (by repeat (first | (with_reducible first | exact HB.out | apply below_alloc | apply pw_below_drewN | apply below_drew1) | exact HB.out)) hb); clear HB; have HO214 := n0_; have HB := n1_; clear n0_ n1_; (try clear hb); (try clear hb2); (try clear hk); (try clear hi); (try clear ho0); obtain ⟨Ao12, co12, eo12⟩ := Kd.S_slice HO214.out; subst eo12) | ((with_reducible refine gate_callee (f := 5) rfl ?_); refine goesL_ (some 25) rfl rfl Try.func5 (by kernel_rfl) rfl #[.slice Ao12 t212.length co12] rfl (by (try simp only [List.map_toArray, List.map_cons, List.map_nil]); first | done | rfl | (simp only [List.length_drop, List.length_take]; rfl)) ?_; (with_reducible refine (spec_LatestWarnings.calls k _ _ t212 t215 t216 t217 _ ?side1 ?side2 A6.out).mono ?_); (case side1 => repeat (first | exact (Kd.S_reads' HO214.out).2.2 | (with_reducible refine Kd.C_alloc ?_ _) | (with_reducible refine Kd.C_drewN ?_ _) | (with_reducible refine Kd.C_drew ?_))); (case side2 => exact (Kd.S_reads' HO214.out).2.1); rintro e w13 ⟨v218, rfl, ho0, hb⟩; refine ⟨_, rfl, ?_⟩; have n0_ := Aside0.mk (Kd.S_elder' (by (with_reducible repeat (first | apply Kd.S_alloc | apply Kd.S_drewN | apply Kd.S_drew)); exact HO214.out) (Kd.R_base ho0) hb); have n1_ := Aside0.mk (Kd.R_lower ho0 (below_size (by repeat (first | (with_reducible first | exact HB.out | apply below_alloc | apply pw_below_drewN | apply below_drew1) | exact HB.out)))); have n2_ := Aside0.mk (below_step (by repeat (first | (with_reducible first | exact HB.out | apply below_alloc | apply pw_below_drewN | apply below_drew1) | exact HB.out)) hb); clear HO214; clear HB; have HO214 := n0_; have HO219 := n1_; have HB := n2_; clear n0_ n1_ n2_; (try clear hb); (try clear hb2); (try clear hk); (try clear hi); (try clear ho0)) | ((with_reducible refine gate_callee (f := 6) rfl ?_); refine goesL_ (some 30) rfl rfl Try.func6 (by kernel_rfl) rfl #[.slice A0 l0.length c0] rfl (by (try simp only [List.map_toArray, List.map_cons, List.map_nil]); first | done | rfl | (simp only [List.length_drop, List.length_take]; rfl)) ?_; (with_reducible refine (laws_toBulletinS.calls k _ _ l0 t220 _ ?side1 ?side2 A7.out).mono ?_); (case side1 => repeat (first | exact (Kd.C_below HR0.out HB.out) | (with_reducible refine Kd.C_alloc ?_ _) | (with_reducible refine Kd.C_drewN ?_ _) | (with_reducible refine Kd.C_drew ?_))); (case side2 => exact HC0.out); rintro e w14 ⟨v221, rfl, ho0, hb⟩; refine ⟨_, rfl, ?_⟩; have n0_ := Aside0.mk (Kd.S_elder' (by (with_reducible repeat (first | apply Kd.S_alloc | apply Kd.S_drewN | apply Kd.S_drew)); exact HO214.out) (Kd.S_base ho0) hb); have n1_ := Aside0.mk (Kd.R_below (by (with_reducible repeat (first | apply Kd.R_alloc | apply Kd.R_drewN | apply Kd.R_drew)); exact HO219.out) hb); have n2_ := Aside0.mk (Kd.S_lower (Kd.S_new' (Kd.S_new' ho0 (Kd.S_lt (by (with_reducible repeat (first | apply Kd.S_alloc | apply Kd.S_drewN | apply Kd.S_drew)); exact HO214.out))) (Kd.R_lt (by (with_reducible repeat (first | apply Kd.R_alloc | apply Kd.R_drewN | apply Kd.R_drew)); exact HO219.out))) (below_size (by repeat (first | (with_reducible first | exact HB.out | apply below_alloc | apply pw_below_drewN | apply below_drew1) | exact HB.out)))); have n3_ := Aside0.mk (below_step (by repeat (first | (with_reducible first | exact HB.out | apply below_alloc | apply pw_below_drewN | apply below_drew1) | exact HB.out)) hb); clear HO214; clear HO219; clear HB; have HO214 := n0_; have HO219 := n1_; have HO222 := n2_; have HB := n3_; clear n0_ n1_ n2_ n3_; (try clear hb); (try clear hb2); (try clear hk); (try clear hi); (try clear ho0); obtain ⟨Ao15, co15, eo15⟩ := Kd.S_slice HO222.out; subst eo15) | ((with_reducible refine gate_callee (f := 7) rfl ?_); refine goesL_ (some 33) rfl rfl Try.func7 (by kernel_rfl) rfl #[.slice Ao15 t220.length co15] rfl (by (try simp only [List.map_toArray, List.map_cons, List.map_nil]); first | done | rfl | (simp only [List.length_drop, List.length_take]; rfl)) ?_; (with_reducible refine (impl_LatestWarnings.calls k _ _ t220 t223 t224 t225 _ ?side1 ?side2 A8.out).mono ?_); (case side1 => repeat (first | exact (Kd.S_reads' HO222.out).2.2 | (with_reducible refine Kd.C_alloc ?_ _) | (with_reducible refine Kd.C_drewN ?_ _) | (with_reducible refine Kd.C_drew ?_))); (case side2 => exact (Kd.S_reads' HO222.out).2.1); rintro e w16 ⟨v226, rfl, ho0, hb⟩; refine ⟨_, rfl, ?_⟩; have n0_ := Aside0.mk (Kd.S_elder' (by (with_reducible repeat (first | apply Kd.S_alloc | apply Kd.S_drewN | apply Kd.S_drew)); exact HO214.out) (Kd.R_base ho0) hb); have n1_ := Aside0.mk (Kd.R_elder' (by (with_reducible repeat (first | apply Kd.R_alloc | apply Kd.R_drewN | apply Kd.R_drew)); exact HO219.out) (Kd.R_base ho0) hb); have n2_ := Aside0.mk (Kd.S_elder' (by (with_reducible repeat (first | apply Kd.S_alloc | apply Kd.S_drewN | apply Kd.S_drew)); exact HO222.out) (Kd.R_base ho0) hb); have n3_ := Aside0.mk (Kd.R_lower (Kd.R_new' ho0 (Kd.R_lt (by (with_reducible repeat (first | apply Kd.R_alloc | apply Kd.R_drewN | apply Kd.R_drew)); exact HO219.out))) (below_size (by repeat (first | (with_reducible first | exact HB.out | apply below_alloc | apply pw_below_drewN | apply below_drew1) | exact HB.out)))); have n4_ := Aside0.mk (below_step (by repeat (first | (with_reducible first | exact HB.out | apply below_alloc | apply pw_below_drewN | apply below_drew1) | exact HB.out)) hb); clear HO214; clear HO219; clear HO222; clear HB; have HO214 := n0_; have HO219 := n1_; have HO222 := n2_; have HO227 := n3_; have HB := n4_; clear n0_ n1_ n2_ n3_ n4_; (try clear hb); (try clear hb2); (try clear hk); (try clear hi); (try clear ho0)))
  (try simp only [Act.put, List.setIfInBounds_toArray, List.set_cons_zero, List.set_cons_succ])
  go_cut [50] (fun v50 wc => ∃ (kq : Nat) (x50_8 : Bool), v50 = .bool x50_8 ∧ Aside0 (laws_FnExactLatestWarnings.j0 kq l0 t215 t216 t217 t220 t223 t224 t225 x50_8 = some r) ∧ Aside0 (kq ≤ k) ∧ Aside0 (Kd.R k46 46 wc w.heap.size (fun k_ => some k_ ≠ (v226 : Value).ownBlock) v218 t215) ∧ Aside0 (Kd.S k41 41 wc w.heap.size (fun k_ => some k_ ≠ (v218 : Value).ownBlock ∧ some k_ ≠ (v226 : Value).ownBlock) (.slice Ao15 t220.length co15) t220) ∧ Aside0 (Kd.R k46 46 wc w.heap.size (fun k_ => some k_ ≠ (v218 : Value).ownBlock) v226 t223) ∧ Aside0 (Below w.heap.size w wc))
  case first =>
   have H := HC9.out
   clear HC9
   replace H := Option.bind_eq_some_iff.mp H
   obtain ⟨t228, A170, H⟩ := H
   replace H : (if t228 = true then (if t224 = t216 then (laws_FnExactLatestWarnings.j0 k l0 t215 t216 t217 t220 t223 t224 t225 (t225 != t217)) else (none)) else (none)) = some r := H
   have A17 := Aside0.mk A170
   clear A170
   by_cases c18 : t228 = true
   ·
    subst c18
    have H1 : (if t224 = t216 then (laws_FnExactLatestWarnings.j0 k l0 t215 t216 t217 t220 t223 t224 t225 (t225 != t217)) else (none)) = some r := by rw [if_pos rfl] at H; exact H
    clear H
    have H := H1
    clear H1
    by_cases c19 : t224 = t216
    ·
     rw [if_pos c19] at H
     have c19b0 : (t224 == t216) = true := beq_iff_eq.mpr c19
     have c19b1 : (t224 != t216) = false := bne_eq_false_iff_eq.mpr c19
     clear c19
     (first | rw [c19b0] | (simp only [i64_w, i32_w]; rw [c19b0]) | rw [c19b1] | skip)
     have H' := Aside0.mk H
     clear H
     obtain ⟨Ao20, co20, eo20⟩ := Kd.R_slice HO227.out
     subst eo20
     obtain ⟨Ao21, co21, eo21⟩ := Kd.R_slice HO219.out
     subst eo21
     go_wp2_with (first | ((with_reducible refine gate_callee (f := 8) rfl ?_); refine goesL_ (some 39) rfl rfl Try.func8 (by kernel_rfl) rfl #[.slice Ao20 t223.length co20, .slice Ao21 t215.length co21] rfl (by (try simp only [List.map_toArray, List.map_cons, List.map_nil]); first | done | rfl | (simp only [List.length_drop, List.length_take]; rfl)) ?_; (with_reducible refine (laws_eqWarningS.calls k _ _ t223 _ _ t215 true _ ?side1 ?side2 ?side3 ?side4 A17.out).mono ?_); (case side1 => repeat (first | exact (Kd.R_reads' HO227.out).2.2 | (with_reducible refine Kd.C_alloc ?_ _) | (with_reducible refine Kd.C_drewN ?_ _) | (with_reducible refine Kd.C_drew ?_))); (case side2 => exact (Kd.R_reads' HO227.out).2.1); (case side3 => repeat (first | exact (Kd.R_reads' HO219.out).2.2 | (with_reducible refine Kd.C_alloc ?_ _) | (with_reducible refine Kd.C_drewN ?_ _) | (with_reducible refine Kd.C_drew ?_))); (case side4 => exact (Kd.R_reads' HO219.out).2.1); rintro e w22 ⟨rfl, hb⟩; refine ⟨_, rfl, ?_⟩; have n0_ := Aside0.mk (Kd.S_below (by (with_reducible repeat (first | apply Kd.S_alloc | apply Kd.S_drewN | apply Kd.S_drew)); exact HO214.out) hb); have n1_ := Aside0.mk (Kd.R_below (by (with_reducible repeat (first | apply Kd.R_alloc | apply Kd.R_drewN | apply Kd.R_drew)); exact HO219.out) hb); have n2_ := Aside0.mk (Kd.S_below (by (with_reducible repeat (first | apply Kd.S_alloc | apply Kd.S_drewN | apply Kd.S_drew)); exact HO222.out) hb); have n3_ := Aside0.mk (Kd.R_below (by (with_reducible repeat (first | apply Kd.R_alloc | apply Kd.R_drewN | apply Kd.R_drew)); exact HO227.out) hb); have n4_ := Aside0.mk (below_step (by repeat (first | (with_reducible first | exact HB.out | apply below_alloc | apply pw_below_drewN | apply below_drew1) | exact HB.out)) hb); clear HO214; clear HO219; clear HO222; clear HO227; clear HB; have HO214 := n0_; have HO219 := n1_; have HO222 := n2_; have HO227 := n3_; have HB := n4_; clear n0_ n1_ n2_ n3_ n4_; (try clear hb); (try clear hb2); (try clear hk); (try clear hi)))
     go_meet
     case rel => exact ⟨_, ((t225 != t217)), (by first | rfl | (simp; done) | (simp [*]; done)), H', ⟨by first | omega | exact Nat.le_refl _⟩, ⟨by (with_reducible repeat (first | apply Kd.R_alloc | apply Kd.R_drewN | apply Kd.R_drew)); exact Kd.R_mono HO219.out (fun _ hk => hk.2)⟩, ⟨by (with_reducible repeat (first | apply Kd.S_alloc | apply Kd.S_drewN | apply Kd.S_drew)); exact Kd.S_mono HO222.out (fun _ hk => ⟨hk.1.2, hk.2⟩)⟩, ⟨by (with_reducible repeat (first | apply Kd.R_alloc | apply Kd.R_drewN | apply Kd.R_drew)); exact Kd.R_mono HO227.out (fun _ hk => hk.2)⟩, ⟨by repeat (first | (with_reducible first | exact HB.out | apply below_alloc | apply pw_below_drewN | apply below_drew1) | exact HB.out)⟩⟩
    ·
     rw [if_neg c19] at H
     exact absurd H (by simp)
   ·
    replace c18 := Bool.eq_false_iff.mpr c18
    subst c18
    have H1 : (none) = some r := by rw [if_neg (show ¬ (false = true) by decide)] at H; exact H
    clear H
    have H := H1
    clear H1
    exact absurd H (by simp)
  case rest =>
   clear HC9
   try clear c1
   try clear p2
   try clear c3
   try clear c3b0
   try clear c4
   try clear c5
   try clear c6
   try clear c7
   try clear c8
   try clear c18
   try clear c19
   try clear c19b0
   try clear c19b1
   obtain ⟨kq, x50_8, rfl, HA, HJ8, HO_4, HO_7, HO_8, HB⟩ := hcut
   cases kq with
   | zero => exact absurd HA.out (by simp [laws_FnExactLatestWarnings.j0])
   | succ kj8 =>
    have H := HA.out
    clear HA
    simp only [laws_FnExactLatestWarnings.j0] at H
    by_cases c23 : x50_8 = true
    ·
     subst c23
     have H1 : (none) = some r := by rw [if_pos rfl] at H; exact H
     clear H
     have H := H1
     clear H1
     exact absurd H (by simp)
    ·
     replace c23 := Bool.eq_false_iff.mpr c23
     subst c23
     have H1 : ((laws_toBulletinS.f kj8 l0).bind fun t229 => ((laws_eqBulletinS.f kj8 t220 t229).bind fun t232 => (if t232 = true then ((laws_markBulletinS.f kj8 t220 1).bind fun t233 => (if t233 < 0 then (none) else ((laws_eqWarningS.f kj8 t223 t215).bind fun t234 => (if t234 = true then (if t224 = t216 then (laws_FnExactLatestWarnings.j1 kj8 l0 t215 t216 t217 t223 (t225 != t217)) else (none)) else (none))))) else (none)))) = some r := by rw [if_neg (show ¬ (false = true) by decide)] at H; exact H
     clear H
     have H := H1
     clear H1
     replace H := Option.bind_eq_some_iff.mp H
     obtain ⟨t229, A240, H⟩ := H
     replace H : ((laws_eqBulletinS.f kj8 t220 t229).bind fun t232 => (if t232 = true then ((laws_markBulletinS.f kj8 t220 1).bind fun t233 => (if t233 < 0 then (none) else ((laws_eqWarningS.f kj8 t223 t215).bind fun t234 => (if t234 = true then (if t224 = t216 then (laws_FnExactLatestWarnings.j1 kj8 l0 t215 t216 t217 t223 (t225 != t217)) else (none)) else (none))))) else (none))) = some r := H
     have A24 := Aside0.mk A240
     clear A240
     replace H := Option.bind_eq_some_iff.mp H
     obtain ⟨t232, A250, H⟩ := H
     replace H : (if t232 = true then ((laws_markBulletinS.f kj8 t220 1).bind fun t233 => (if t233 < 0 then (none) else ((laws_eqWarningS.f kj8 t223 t215).bind fun t234 => (if t234 = true then (if t224 = t216 then (laws_FnExactLatestWarnings.j1 kj8 l0 t215 t216 t217 t223 (t225 != t217)) else (none)) else (none))))) else (none)) = some r := H
     have A25 := Aside0.mk A250
     clear A250
     by_cases c26 : t232 = true
     ·
      subst c26
      have H1 : ((laws_markBulletinS.f kj8 t220 1).bind fun t233 => (if t233 < 0 then (none) else ((laws_eqWarningS.f kj8 t223 t215).bind fun t234 => (if t234 = true then (if t224 = t216 then (laws_FnExactLatestWarnings.j1 kj8 l0 t215 t216 t217 t223 (t225 != t217)) else (none)) else (none))))) = some r := by rw [if_pos rfl] at H; exact H
      clear H
      have H := H1
      clear H1
      replace H := Option.bind_eq_some_iff.mp H
      obtain ⟨t233, A270, H⟩ := H
      replace H : (if t233 < 0 then (none) else ((laws_eqWarningS.f kj8 t223 t215).bind fun t234 => (if t234 = true then (if t224 = t216 then (laws_FnExactLatestWarnings.j1 kj8 l0 t215 t216 t217 t223 (t225 != t217)) else (none)) else (none)))) = some r := H
      have A27 := Aside0.mk A270
      clear A270
      have HC28 := Aside0.mk H
      clear H
      go_upto_region 14 with (first | ((with_reducible refine gate_callee (f := 6) rfl ?_); refine goesL_ (some 53) rfl rfl Try.func6 (by kernel_rfl) rfl #[.slice A0 l0.length c0] rfl (by (try simp only [List.map_toArray, List.map_cons, List.map_nil]); first | done | rfl | (simp only [List.length_drop, List.length_take]; rfl)) ?_; (with_reducible refine (laws_toBulletinS.calls kj8 _ _ l0 t229 _ ?side1 ?side2 A24.out).mono ?_); (case side1 => repeat (first | exact (Kd.C_below HR0.out HB.out) | (with_reducible refine Kd.C_alloc ?_ _) | (with_reducible refine Kd.C_drewN ?_ _) | (with_reducible refine Kd.C_drew ?_))); (case side2 => exact HC0.out); rintro e w29 ⟨v230, rfl, ho0, hb⟩; refine ⟨_, rfl, ?_⟩; have n0_ := Aside0.mk (Kd.R_below (by (with_reducible repeat (first | apply Kd.R_alloc | apply Kd.R_drewN | apply Kd.R_drew)); exact HO_4.out) hb); have n1_ := Aside0.mk (Kd.S_elder' (by (with_reducible repeat (first | apply Kd.S_alloc | apply Kd.S_drewN | apply Kd.S_drew)); exact HO_7.out) (Kd.S_base ho0) hb); have n2_ := Aside0.mk (Kd.R_below (by (with_reducible repeat (first | apply Kd.R_alloc | apply Kd.R_drewN | apply Kd.R_drew)); exact HO_8.out) hb); have n3_ := Aside0.mk (Kd.S_lower (Kd.S_new' (Kd.S_new' (Kd.S_new' ho0 (Kd.R_lt (by (with_reducible repeat (first | apply Kd.R_alloc | apply Kd.R_drewN | apply Kd.R_drew)); exact HO_4.out))) (Kd.S_lt (by (with_reducible repeat (first | apply Kd.S_alloc | apply Kd.S_drewN | apply Kd.S_drew)); exact HO_7.out))) (Kd.R_lt (by (with_reducible repeat (first | apply Kd.R_alloc | apply Kd.R_drewN | apply Kd.R_drew)); exact HO_8.out))) (below_size (by repeat (first | (with_reducible first | exact HB.out | apply below_alloc | apply pw_below_drewN | apply below_drew1) | exact HB.out)))); have n4_ := Aside0.mk (below_step (by repeat (first | (with_reducible first | exact HB.out | apply below_alloc | apply pw_below_drewN | apply below_drew1) | exact HB.out)) hb); clear HO_4; clear HO_7; clear HO_8; clear HB; have HO_4 := n0_; have HO_7 := n1_; have HO_8 := n2_; have HO231 := n3_; have HB := n4_; clear n0_ n1_ n2_ n3_ n4_; (try clear hb); (try clear hb2); (try clear hk); (try clear hi); (try clear ho0); obtain ⟨Ao30, co30, eo30⟩ := Kd.S_slice HO231.out; subst eo30) | ((with_reducible refine gate_callee (f := 9) rfl ?_); refine goesL_ (some 54) rfl rfl Try.func9 (by kernel_rfl) rfl #[.slice Ao15 t220.length co15, .slice Ao30 t229.length co30] rfl (by (try simp only [List.map_toArray, List.map_cons, List.map_nil]); first | done | rfl | (simp only [List.length_drop, List.length_take]; rfl)) ?_; (with_reducible refine (laws_eqBulletinS.calls kj8 _ _ t220 _ _ t229 true _ ?side1 ?side2 ?side3 ?side4 A25.out).mono ?_); (case side1 => repeat (first | exact (Kd.S_reads' HO_7.out).2.2 | (with_reducible refine Kd.C_alloc ?_ _) | (with_reducible refine Kd.C_drewN ?_ _) | (with_reducible refine Kd.C_drew ?_))); (case side2 => exact (Kd.S_reads' HO_7.out).2.1); (case side3 => repeat (first | exact (Kd.S_reads' HO231.out).2.2 | (with_reducible refine Kd.C_alloc ?_ _) | (with_reducible refine Kd.C_drewN ?_ _) | (with_reducible refine Kd.C_drew ?_))); (case side4 => exact (Kd.S_reads' HO231.out).2.1); rintro e w31 ⟨rfl, hb⟩; refine ⟨_, rfl, ?_⟩; have n0_ := Aside0.mk (Kd.R_below (by (with_reducible repeat (first | apply Kd.R_alloc | apply Kd.R_drewN | apply Kd.R_drew)); exact HO_4.out) hb); have n1_ := Aside0.mk (Kd.S_below (by (with_reducible repeat (first | apply Kd.S_alloc | apply Kd.S_drewN | apply Kd.S_drew)); exact HO_7.out) hb); have n2_ := Aside0.mk (Kd.R_below (by (with_reducible repeat (first | apply Kd.R_alloc | apply Kd.R_drewN | apply Kd.R_drew)); exact HO_8.out) hb); have n3_ := Aside0.mk (Kd.S_below (by (with_reducible repeat (first | apply Kd.S_alloc | apply Kd.S_drewN | apply Kd.S_drew)); exact HO231.out) hb); have n4_ := Aside0.mk (below_step (by repeat (first | (with_reducible first | exact HB.out | apply below_alloc | apply pw_below_drewN | apply below_drew1) | exact HB.out)) hb); clear HO_4; clear HO_7; clear HO_8; clear HO231; clear HB; have HO_4 := n0_; have HO_7 := n1_; have HO_8 := n2_; have HO231 := n3_; have HB := n4_; clear n0_ n1_ n2_ n3_ n4_; (try clear hb); (try clear hb2); (try clear hk); (try clear hi)) | ((with_reducible refine gate_callee (f := 10) rfl ?_); refine goesL_ (some 58) rfl rfl Try.func10 (by kernel_rfl) rfl #[.slice Ao15 t220.length co15, .int .i64 1] rfl (by (try simp only [List.map_toArray, List.map_cons, List.map_nil]); first | done | rfl | (simp only [List.length_drop, List.length_take]; rfl)) ?_; (refine (laws_markBulletinS.calls kj8 _ t220 1 t233 (fun k_ => some k_ ≠ (v218 : Value).ownBlock ∧ some k_ ≠ (v226 : Value).ownBlock) w _ ?side1 ?side2 A27.out).mono ?_); (case side1 => repeat (first | (with_reducible first | exact HB.out | apply below_alloc | apply pw_below_drewN | apply below_drew1) | exact HB.out)); (case side2 => exact Kd.S_mono (by (with_reducible repeat (first | apply Kd.S_alloc | apply Kd.S_drewN | apply Kd.S_drew)); exact HO_7.out) (fun k_ hk_ => by first | exact hk_ | exact hk_.1 | exact hk_.2 | exact ⟨hk_.1, hk_.2.1⟩)); rintro e w32 ⟨rfl, hbw, hkw⟩; refine ⟨_, rfl, ?_⟩; have n0_ := Aside0.mk (rows_keepW (by (with_reducible repeat (first | apply Kd.R_alloc | apply Kd.R_drewN | apply Kd.R_drew)); exact HO_4.out) hkw (fun k_ e_ hk_ => hk_.1 e_.symm)); have n2_ := Aside0.mk (rows_keepW (by (with_reducible repeat (first | apply Kd.R_alloc | apply Kd.R_drewN | apply Kd.R_drew)); exact HO_8.out) hkw (fun k_ e_ hk_ => hk_.2 e_.symm)); have n4_ := Aside0.mk hbw; clear HO_4; clear HO_7; clear HO_8; clear HO231; clear HB; have HO_4 := n0_; have HO_7 := Aside0.mk trivial; have HO_8 := n2_; have HO231 := Aside0.mk trivial; have HB := n4_; clear n0_ n2_ n4_; (try clear hbw); (try clear hkw)))
      (try simp only [Act.put, List.setIfInBounds_toArray, List.set_cons_zero, List.set_cons_succ])
      go_cut [76] (fun v76 wc => ∃ (kq : Nat) (x76_27 : Bool), v76 = .bool x76_27 ∧ Aside0 (laws_FnExactLatestWarnings.j1 kq l0 t215 t216 t217 t223 x76_27 = some r) ∧ Aside0 (kq ≤ kj8) ∧ Aside0 (Kd.R k46 46 wc w.heap.size (fun k_ => some k_ ≠ (v226 : Value).ownBlock) v218 t215) ∧ Aside0 (Kd.R k46 46 wc w.heap.size (fun k_ => some k_ ≠ (v218 : Value).ownBlock) v226 t223) ∧ Aside0 (Below w.heap.size w wc))
      case first =>
       have H := HC28.out
       clear HC28
       by_cases c33 : t233 < 0
       ·
        rw [if_pos c33] at H
        exact absurd H (by simp)
       ·
        rw [if_neg c33] at H
        have c33b0 : decide (t233 < 0) = false := decide_eq_false c33
        clear c33
        (first | rw [c33b0] | (simp only [i64_w, i32_w]; rw [c33b0]) | skip)
        replace H := Option.bind_eq_some_iff.mp H
        obtain ⟨t234, A340, H⟩ := H
        replace H : (if t234 = true then (if t224 = t216 then (laws_FnExactLatestWarnings.j1 kj8 l0 t215 t216 t217 t223 (t225 != t217)) else (none)) else (none)) = some r := H
        have A34 := Aside0.mk A340
        clear A340
        by_cases c35 : t234 = true
        ·
         subst c35
         have H1 : (if t224 = t216 then (laws_FnExactLatestWarnings.j1 kj8 l0 t215 t216 t217 t223 (t225 != t217)) else (none)) = some r := by rw [if_pos rfl] at H; exact H
         clear H
         have H := H1
         clear H1
         by_cases c36 : t224 = t216
         ·
          rw [if_pos c36] at H
          have c36b0 : (t224 == t216) = true := beq_iff_eq.mpr c36
          have c36b1 : (t224 != t216) = false := bne_eq_false_iff_eq.mpr c36
          clear c36
          have H' := Aside0.mk H
          clear H
          obtain ⟨Ao37, co37, eo37⟩ := Kd.R_slice HO_8.out
          subst eo37
          obtain ⟨Ao38, co38, eo38⟩ := Kd.R_slice HO_4.out
          subst eo38
          go_wp2_with (first | (go_at_call 8; (with_reducible refine (laws_eqWarningS.calls kj8 _ _ t223 _ _ t215 true _ ?side1 ?side2 ?side3 ?side4 A34.out).mono ?_); (case side1 => repeat (first | exact (Kd.R_reads' HO_8.out).2.2 | (with_reducible refine Kd.C_alloc ?_ _) | (with_reducible refine Kd.C_drewN ?_ _) | (with_reducible refine Kd.C_drew ?_))); (case side2 => exact (Kd.R_reads' HO_8.out).2.1); (case side3 => repeat (first | exact (Kd.R_reads' HO_4.out).2.2 | (with_reducible refine Kd.C_alloc ?_ _) | (with_reducible refine Kd.C_drewN ?_ _) | (with_reducible refine Kd.C_drew ?_))); (case side4 => exact (Kd.R_reads' HO_4.out).2.1); rintro e w39 ⟨rfl, hb⟩; have n0_ := Aside0.mk (Kd.R_below (by (with_reducible repeat (first | apply Kd.R_alloc | apply Kd.R_drewN | apply Kd.R_drew)); exact HO_4.out) hb); have n1_ := Aside0.mk trivial; have n2_ := Aside0.mk (Kd.R_below (by (with_reducible repeat (first | apply Kd.R_alloc | apply Kd.R_drewN | apply Kd.R_drew)); exact HO_8.out) hb); have n3_ := Aside0.mk trivial; have n4_ := Aside0.mk (below_step (by repeat (first | (with_reducible first | exact HB.out | apply below_alloc | apply pw_below_drewN | apply below_drew1) | exact HB.out)) hb); clear HO_4; clear HO_7; clear HO_8; clear HO231; clear HB; have HO_4 := n0_; have HO_7 := n1_; have HO_8 := n2_; have HO231 := n3_; have HB := n4_; clear n0_ n1_ n2_ n3_ n4_; (try clear hb); (try clear hb2); (try clear hk); (try clear hi)))
          go_meet
          case rel => exact ⟨_, ((t225 != t217)), (by first | rfl | (simp; done) | (simp [*]; done)), H', ⟨by have := HJ8.out; first | omega | exact Nat.le_refl _⟩, ⟨by (with_reducible repeat (first | apply Kd.R_alloc | apply Kd.R_drewN | apply Kd.R_drew)); exact HO_4.out⟩, ⟨by (with_reducible repeat (first | apply Kd.R_alloc | apply Kd.R_drewN | apply Kd.R_drew)); exact HO_8.out⟩, ⟨by repeat (first | (with_reducible first | exact HB.out | apply below_alloc | apply pw_below_drewN | apply below_drew1) | exact HB.out)⟩⟩
         ·
          rw [if_neg c36] at H
          exact absurd H (by simp)
        ·
         replace c35 := Bool.eq_false_iff.mpr c35
         subst c35
         have H1 : (none) = some r := by rw [if_neg (show ¬ (false = true) by decide)] at H; exact H
         clear H
         have H := H1
         clear H1
         exact absurd H (by simp)
      case rest =>
       clear HC28
       try clear c1
       try clear c2
       try clear p2
       try clear c3
       try clear c3b0
       try clear c4
       try clear c5
       try clear c6
       try clear c7
       try clear c8
       try clear c9
       try clear c10
       try clear c18
       try clear c19
       try clear c19b0
       try clear c19b1
       try clear c23
       try clear c26
       try clear c33
       try clear c33b0
       try clear c35
       try clear c36
       try clear c36b0
       try clear c36b1
       try clear p2
       obtain ⟨kq, x76_27, rfl, HA, HJ27, HO_4, HO_8, HB⟩ := hcut
       cases kq with
       | zero => exact absurd HA.out (by simp [laws_FnExactLatestWarnings.j1])
       | succ kj27 =>
        have H := HA.out
        clear HA
        simp only [laws_FnExactLatestWarnings.j1] at H
        by_cases c40 : x76_27 = true
        ·
         subst c40
         have H1 : (none) = some r := by rw [if_pos rfl] at H; exact H
         clear H
         have H := H1
         clear H1
         exact absurd H (by simp)
        ·
         replace c40 := Bool.eq_false_iff.mpr c40
         subst c40
         have H1 : ((laws_markWarningS.f kj27 t223 1).bind fun bt235 => ((laws_heldWarningS.f kj27 bt235.2 1).bind fun t237 => (if t237 < 0 then (none) else (if t237 = bt235.1 then ((laws_toBulletinS.f kj27 l0).bind fun t238 => ((impl_LatestWarnings.f kj27 t238).bind fun bt241 => ((laws_eqWarningS.f kj27 bt241.1 t215).bind fun t246 => (if t246 = true then (if bt241.2.1 = t216 then (laws_FnExactLatestWarnings.j2 kj27 bt235.2 bt235.1 (bt241.2.2 != t217)) else (none)) else (none))))) else (none))))) = some r := by rw [if_neg (show ¬ (false = true) by decide)] at H; exact H
         clear H
         have H := H1
         clear H1
         replace H := Option.bind_eq_some_iff.mp H
         obtain ⟨⟨t235, t236⟩, A410, H⟩ := H
         replace H : ((laws_heldWarningS.f kj27 t236 1).bind fun t237 => (if t237 < 0 then (none) else (if t237 = t235 then ((laws_toBulletinS.f kj27 l0).bind fun t238 => ((impl_LatestWarnings.f kj27 t238).bind fun bt241 => ((laws_eqWarningS.f kj27 bt241.1 t215).bind fun t246 => (if t246 = true then (if bt241.2.1 = t216 then (laws_FnExactLatestWarnings.j2 kj27 t236 t235 (bt241.2.2 != t217)) else (none)) else (none))))) else (none)))) = some r := H
         have A41 := Aside0.mk A410
         clear A410
         replace H := Option.bind_eq_some_iff.mp H
         obtain ⟨t237, A420, H⟩ := H
         replace H : (if t237 < 0 then (none) else (if t237 = t235 then ((laws_toBulletinS.f kj27 l0).bind fun t238 => ((impl_LatestWarnings.f kj27 t238).bind fun bt241 => ((laws_eqWarningS.f kj27 bt241.1 t215).bind fun t246 => (if t246 = true then (if bt241.2.1 = t216 then (laws_FnExactLatestWarnings.j2 kj27 t236 t235 (bt241.2.2 != t217)) else (none)) else (none))))) else (none))) = some r := H
         have A42 := Aside0.mk A420
         clear A420
         by_cases c43 : t237 < 0
         ·
          rw [if_pos c43] at H
          exact absurd H (by simp)
         ·
          rw [if_neg c43] at H
          have c43b0 : decide (t237 < 0) = false := decide_eq_false c43
          clear c43
          by_cases c44 : t237 = t235
          ·
           rw [if_pos c44] at H
           have c44b0 : (t237 == t235) = true := beq_iff_eq.mpr c44
           have c44b1 : (t237 != t235) = false := bne_eq_false_iff_eq.mpr c44
           clear c44
           replace H := Option.bind_eq_some_iff.mp H
           obtain ⟨t238, A450, H⟩ := H
           replace H : ((impl_LatestWarnings.f kj27 t238).bind fun bt241 => ((laws_eqWarningS.f kj27 bt241.1 t215).bind fun t246 => (if t246 = true then (if bt241.2.1 = t216 then (laws_FnExactLatestWarnings.j2 kj27 t236 t235 (bt241.2.2 != t217)) else (none)) else (none)))) = some r := H
           have A45 := Aside0.mk A450
           clear A450
           replace H := Option.bind_eq_some_iff.mp H
           obtain ⟨⟨t241, t242, t243⟩, A460, H⟩ := H
           replace H : ((laws_eqWarningS.f kj27 t241 t215).bind fun t246 => (if t246 = true then (if t242 = t216 then (laws_FnExactLatestWarnings.j2 kj27 t236 t235 (t243 != t217)) else (none)) else (none))) = some r := H
           have A46 := Aside0.mk A460
           clear A460
           have HC47 := Aside0.mk H
           clear H
           obtain ⟨Ao48, co48, eo48⟩ := Kd.R_slice HO_8.out
           subst eo48
           go_upto_region 25 with (first | ((with_reducible refine gate_callee (f := 11) rfl ?_); refine goesL_ (some 79) rfl rfl Try.func11 (by kernel_rfl) rfl #[.slice Ao48 t223.length co48, .int .i64 1] rfl (by (try simp only [List.map_toArray, List.map_cons, List.map_nil]); first | done | rfl | (simp only [List.length_drop, List.length_take]; rfl)) ?_; (with_reducible refine (laws_markWarningS.calls kj27 (fun k_ => some k_ = (.slice Ao48 t223.length co48 : Value).ownBlock) (.slice Ao48 t223.length co48) t223 1 t235 t236 w _ ?side1 ?side2 A41.out).mono ?_); (case side1 => repeat (first | (with_reducible first | exact HB.out | apply below_alloc | apply pw_below_drewN | apply below_drew1) | exact HB.out)); (case side2 => exact Kd.R_tight rfl HO_8.out); rintro e w49 ⟨rfl, hy0, hb, hkp⟩; refine ⟨_, rfl, ?_⟩; have n0_ := Aside0.mk (Kd.R_mono (ok' := fun k_ => some k_ ≠ (.slice Ao48 t223.length co48 : Value).ownBlock) (Kd.R_keptB (HO_4.out) hkp (fun k_ hk_ hs_ => (hk_) hs_)) (fun k_ hk_ => hk_.1)); have n1_ := Aside0.mk (Kd.R_reok rfl hy0 (fun k_ e_ => HO_8.out.1 k_ e_)); have n2_ := Aside0.mk (hb); clear HO_4; clear HO_8; clear HB; have HO_4 := n0_; have HO_8 := n1_; have HB := n2_; clear n0_ n1_ n2_; (try clear hb); (try clear hkp); (try clear hy0)) | ((with_reducible refine gate_callee (f := 12) rfl ?_); refine goesL_ (some 82) rfl rfl Try.func12 (by kernel_rfl) rfl #[.slice Ao48 t236.length co48, .int .i64 1] rfl (by (try simp only [List.map_toArray, List.map_cons, List.map_nil]); first | done | (rw [show t236.length = t223.length from (Kd.R_reads' HO_8.out).1.symm] <;> rfl) | rfl | (simp only [List.length_drop, List.length_take]; rfl)) ?_; (with_reducible refine (laws_heldWarningS.calls kj27 _ _ t236 1 t237 _ ?side1 ?side2 A42.out).mono ?_); (case side1 => repeat (first | exact (Kd.R_reads' HO_8.out).2.2 | (with_reducible refine Kd.C_alloc ?_ _) | (with_reducible refine Kd.C_drewN ?_ _) | (with_reducible refine Kd.C_drew ?_))); (case side2 => rw [show t236.length = t223.length from (Kd.R_reads' HO_8.out).1.symm]; exact (Kd.R_reads' HO_8.out).2.1); rintro e w' ⟨rfl, ⟨nd, rfl⟩⟩; refine ⟨_, rfl, ?_⟩) | ((with_reducible refine gate_callee (f := 6) rfl ?_); refine goesL_ (some 90) rfl rfl Try.func6 (by kernel_rfl) rfl #[.slice A0 l0.length c0] rfl (by (try simp only [List.map_toArray, List.map_cons, List.map_nil]); first | done | rfl | (simp only [List.length_drop, List.length_take]; rfl)) ?_; (with_reducible refine (laws_toBulletinS.calls kj27 _ _ l0 t238 _ ?side1 ?side2 A45.out).mono ?_); (case side1 => repeat (first | exact (Kd.C_below HR0.out (by repeat (first | (with_reducible first | exact HB.out | apply below_alloc | apply pw_below_drewN | apply below_drew1) | exact HB.out))) | (with_reducible refine Kd.C_alloc ?_ _) | (with_reducible refine Kd.C_drewN ?_ _) | (with_reducible refine Kd.C_drew ?_))); (case side2 => exact HC0.out); rintro e w50 ⟨v239, rfl, ho0, hb⟩; refine ⟨_, rfl, ?_⟩; have n0_ := Aside0.mk (Kd.R_below (by (with_reducible repeat (first | apply Kd.R_alloc | apply Kd.R_drewN | apply Kd.R_drew)); exact HO_4.out) hb); have n1_ := Aside0.mk (Kd.R_below (by (with_reducible repeat (first | apply Kd.R_alloc | apply Kd.R_drewN | apply Kd.R_drew)); exact HO_8.out) hb); have n2_ := Aside0.mk (Kd.S_lower (Kd.S_new' (Kd.S_new' ho0 (Kd.R_lt (by (with_reducible repeat (first | apply Kd.R_alloc | apply Kd.R_drewN | apply Kd.R_drew)); exact HO_4.out))) (Kd.R_lt (by (with_reducible repeat (first | apply Kd.R_alloc | apply Kd.R_drewN | apply Kd.R_drew)); exact HO_8.out))) (below_size (by repeat (first | (with_reducible first | exact HB.out | apply below_alloc | apply pw_below_drewN | apply below_drew1) | exact HB.out)))); have n3_ := Aside0.mk (below_step (by repeat (first | (with_reducible first | exact HB.out | apply below_alloc | apply pw_below_drewN | apply below_drew1) | exact HB.out)) hb); clear HO_4; clear HO_8; clear HB; have HO_4 := n0_; have HO_8 := n1_; have HO240 := n2_; have HB := n3_; clear n0_ n1_ n2_ n3_; (try clear hb); (try clear hb2); (try clear hk); (try clear hi); (try clear ho0); obtain ⟨Ao51, co51, eo51⟩ := Kd.S_slice HO240.out; subst eo51) | ((with_reducible refine gate_callee (f := 7) rfl ?_); refine goesL_ (some 91) rfl rfl Try.func7 (by kernel_rfl) rfl #[.slice Ao51 t238.length co51] rfl (by (try simp only [List.map_toArray, List.map_cons, List.map_nil]); first | done | rfl | (simp only [List.length_drop, List.length_take]; rfl)) ?_; (with_reducible refine (impl_LatestWarnings.calls kj27 _ _ t238 t241 t242 t243 _ ?side1 ?side2 A46.out).mono ?_); (case side1 => repeat (first | exact (Kd.S_reads' HO240.out).2.2 | (with_reducible refine Kd.C_alloc ?_ _) | (with_reducible refine Kd.C_drewN ?_ _) | (with_reducible refine Kd.C_drew ?_))); (case side2 => exact (Kd.S_reads' HO240.out).2.1); rintro e w52 ⟨v244, rfl, ho0, hb⟩; refine ⟨_, rfl, ?_⟩; have n0_ := Aside0.mk (Kd.R_elder' (by (with_reducible repeat (first | apply Kd.R_alloc | apply Kd.R_drewN | apply Kd.R_drew)); exact HO_4.out) (Kd.R_base ho0) hb); have n1_ := Aside0.mk (Kd.R_elder' (by (with_reducible repeat (first | apply Kd.R_alloc | apply Kd.R_drewN | apply Kd.R_drew)); exact HO_8.out) (Kd.R_base ho0) hb); have n2_ := Aside0.mk (Kd.S_elder' (by (with_reducible repeat (first | apply Kd.S_alloc | apply Kd.S_drewN | apply Kd.S_drew)); exact HO240.out) (Kd.R_base ho0) hb); have n3_ := Aside0.mk (Kd.R_lower (Kd.R_new' (Kd.R_new' ho0 (Kd.R_lt (by (with_reducible repeat (first | apply Kd.R_alloc | apply Kd.R_drewN | apply Kd.R_drew)); exact HO_4.out))) (Kd.R_lt (by (with_reducible repeat (first | apply Kd.R_alloc | apply Kd.R_drewN | apply Kd.R_drew)); exact HO_8.out))) (below_size (by repeat (first | (with_reducible first | exact HB.out | apply below_alloc | apply pw_below_drewN | apply below_drew1) | exact HB.out)))); have n4_ := Aside0.mk (below_step (by repeat (first | (with_reducible first | exact HB.out | apply below_alloc | apply pw_below_drewN | apply below_drew1) | exact HB.out)) hb); clear HO_4; clear HO_8; clear HO240; clear HB; have HO_4 := n0_; have HO_8 := n1_; have HO240 := n2_; have HO245 := n3_; have HB := n4_; clear n0_ n1_ n2_ n3_ n4_; (try clear hb); (try clear hb2); (try clear hk); (try clear hi); (try clear ho0)))
           (try simp only [Act.put, List.setIfInBounds_toArray, List.set_cons_zero, List.set_cons_succ])
           go_cut [108] (fun v108 wc => ∃ (kq : Nat) (x108_46 : Bool), v108 = .bool x108_46 ∧ Aside0 (laws_FnExactLatestWarnings.j2 kq t236 t235 x108_46 = some r) ∧ Aside0 (kq ≤ kj27) ∧ Aside0 (Kd.R k46 46 wc w.heap.size (fun _ => True) (.slice Ao48 t223.length co48) t236) ∧ Aside0 (Below w.heap.size w wc))
           case first =>
            have H := HC47.out
            clear HC47
            replace H := Option.bind_eq_some_iff.mp H
            obtain ⟨t246, A530, H⟩ := H
            replace H : (if t246 = true then (if t242 = t216 then (laws_FnExactLatestWarnings.j2 kj27 t236 t235 (t243 != t217)) else (none)) else (none)) = some r := H
            have A53 := Aside0.mk A530
            clear A530
            by_cases c54 : t246 = true
            ·
             subst c54
             have H1 : (if t242 = t216 then (laws_FnExactLatestWarnings.j2 kj27 t236 t235 (t243 != t217)) else (none)) = some r := by rw [if_pos rfl] at H; exact H
             clear H
             have H := H1
             clear H1
             by_cases c55 : t242 = t216
             ·
              rw [if_pos c55] at H
              have c55b0 : (t242 == t216) = true := beq_iff_eq.mpr c55
              have c55b1 : (t242 != t216) = false := bne_eq_false_iff_eq.mpr c55
              clear c55
              (first | rw [c55b0] | (simp only [i64_w, i32_w]; rw [c55b0]) | rw [c55b1] | skip)
              have H' := Aside0.mk H
              clear H
              obtain ⟨Ao56, co56, eo56⟩ := Kd.R_slice HO245.out
              subst eo56
              obtain ⟨Ao57, co57, eo57⟩ := Kd.R_slice HO_4.out
              subst eo57
              go_wp2_with (first | ((with_reducible refine gate_callee (f := 8) rfl ?_); refine goesL_ (some 97) rfl rfl Try.func8 (by kernel_rfl) rfl #[.slice Ao56 t241.length co56, .slice Ao57 t215.length co57] rfl (by (try simp only [List.map_toArray, List.map_cons, List.map_nil]); first | done | rfl | (simp only [List.length_drop, List.length_take]; rfl)) ?_; (with_reducible refine (laws_eqWarningS.calls kj27 _ _ t241 _ _ t215 true _ ?side1 ?side2 ?side3 ?side4 A53.out).mono ?_); (case side1 => repeat (first | exact (Kd.R_reads' HO245.out).2.2 | (with_reducible refine Kd.C_alloc ?_ _) | (with_reducible refine Kd.C_drewN ?_ _) | (with_reducible refine Kd.C_drew ?_))); (case side2 => exact (Kd.R_reads' HO245.out).2.1); (case side3 => repeat (first | exact (Kd.R_reads' HO_4.out).2.2 | (with_reducible refine Kd.C_alloc ?_ _) | (with_reducible refine Kd.C_drewN ?_ _) | (with_reducible refine Kd.C_drew ?_))); (case side4 => exact (Kd.R_reads' HO_4.out).2.1); rintro e w58 ⟨rfl, hb⟩; refine ⟨_, rfl, ?_⟩; have n0_ := Aside0.mk (Kd.R_below (by (with_reducible repeat (first | apply Kd.R_alloc | apply Kd.R_drewN | apply Kd.R_drew)); exact HO_4.out) hb); have n1_ := Aside0.mk (Kd.R_below (by (with_reducible repeat (first | apply Kd.R_alloc | apply Kd.R_drewN | apply Kd.R_drew)); exact HO_8.out) hb); have n2_ := Aside0.mk (Kd.S_below (by (with_reducible repeat (first | apply Kd.S_alloc | apply Kd.S_drewN | apply Kd.S_drew)); exact HO240.out) hb); have n3_ := Aside0.mk (Kd.R_below (by (with_reducible repeat (first | apply Kd.R_alloc | apply Kd.R_drewN | apply Kd.R_drew)); exact HO245.out) hb); have n4_ := Aside0.mk (below_step (by repeat (first | (with_reducible first | exact HB.out | apply below_alloc | apply pw_below_drewN | apply below_drew1) | exact HB.out)) hb); clear HO_4; clear HO_8; clear HO240; clear HO245; clear HB; have HO_4 := n0_; have HO_8 := n1_; have HO240 := n2_; have HO245 := n3_; have HB := n4_; clear n0_ n1_ n2_ n3_ n4_; (try clear hb); (try clear hb2); (try clear hk); (try clear hi)))
              go_meet
              case rel => exact ⟨_, ((t243 != t217)), (by first | rfl | (simp; done) | (simp [*]; done)), H', ⟨by have := HJ8.out; have := HJ27.out; first | omega | exact Nat.le_refl _⟩, ⟨by (with_reducible repeat (first | apply Kd.R_alloc | apply Kd.R_drewN | apply Kd.R_drew)); exact Kd.R_mono HO_8.out (fun _ hk => trivial)⟩, ⟨by repeat (first | (with_reducible first | exact HB.out | apply below_alloc | apply pw_below_drewN | apply below_drew1) | exact HB.out)⟩⟩
             ·
              rw [if_neg c55] at H
              exact absurd H (by simp)
            ·
             replace c54 := Bool.eq_false_iff.mpr c54
             subst c54
             have H1 : (none) = some r := by rw [if_neg (show ¬ (false = true) by decide)] at H; exact H
             clear H
             have H := H1
             clear H1
             exact absurd H (by simp)
           case rest =>
            clear HC47
            try clear c1
            try clear c2
            try clear p2
            try clear c3
            try clear c3b0
            try clear c4
            try clear c5
            try clear c6
            try clear c7
            try clear c8
            try clear c9
            try clear c10
            try clear c11
            try clear c12
            try clear c18
            try clear c19
            try clear c19b0
            try clear c19b1
            try clear c23
            try clear c26
            try clear c33
            try clear c33b0
            try clear c35
            try clear c36
            try clear c36b0
            try clear c36b1
            try clear c40
            try clear c43
            try clear c43b0
            try clear c44
            try clear c44b0
            try clear c44b1
            try clear c54
            try clear c55
            try clear c55b0
            try clear c55b1
            try clear p2
            obtain ⟨kq, x108_46, rfl, HA, HJ46, HO_8, HB⟩ := hcut
            have hl8_46 := (Kd.R_reads' HO_8.out).1
            rw [hl8_46] at HO_8
            (try simp only [hl8_46])
            cases kq with
            | zero => exact absurd HA.out (by simp [laws_FnExactLatestWarnings.j2])
            | succ kj46 =>
             have H := HA.out
             clear HA
             simp only [laws_FnExactLatestWarnings.j2] at H
             by_cases c59 : x108_46 = true
             ·
              subst c59
              have H1 : (none) = some r := by rw [if_pos rfl] at H; exact H
              clear H
              have H := H1
              clear H1
              exact absurd H (by simp)
             ·
              replace c59 := Bool.eq_false_iff.mpr c59
              subst c59
              have H1 : ((laws_heldWarningS.f kj46 t236 1).bind fun t247 => (if t247 < 0 then (none) else (if t247 = t235 then (some true) else (none)))) = some r := by rw [if_neg (show ¬ (false = true) by decide)] at H; exact H
              clear H
              have H := H1
              clear H1
              replace H := Option.bind_eq_some_iff.mp H
              obtain ⟨t247, A600, H⟩ := H
              replace H : (if t247 < 0 then (none) else (if t247 = t235 then (some true) else (none))) = some r := H
              have A60 := Aside0.mk A600
              clear A600
              by_cases c61 : t247 < 0
              ·
               rw [if_pos c61] at H
               exact absurd H (by simp)
              ·
               rw [if_neg c61] at H
               have c61b0 : decide (t247 < 0) = false := decide_eq_false c61
               clear c61
               by_cases c62 : t247 = t235
               ·
                rw [if_pos c62] at H
                have c62b0 : (t247 == t235) = true := beq_iff_eq.mpr c62
                have c62b1 : (t247 != t235) = false := bne_eq_false_iff_eq.mpr c62
                clear c62
                obtain rfl := Option.some.inj H
                go_wp2_with (first | ((with_reducible refine gate_callee (f := 12) rfl ?_); refine goesL_ (some 111) rfl rfl Try.func12 (by kernel_rfl) rfl #[.slice Ao48 t236.length co48, .int .i64 1] rfl (by (try simp only [List.map_toArray, List.map_cons, List.map_nil]); first | done | rfl | (simp only [List.length_drop, List.length_take]; rfl)) ?_; (with_reducible refine (laws_heldWarningS.calls kj46 _ _ t236 1 t247 _ ?side1 ?side2 A60.out).mono ?_); (case side1 => repeat (first | exact (Kd.R_reads' HO_8.out).2.2 | (with_reducible refine Kd.C_alloc ?_ _) | (with_reducible refine Kd.C_drewN ?_ _) | (with_reducible refine Kd.C_drew ?_))); (case side2 => exact (Kd.R_reads' HO_8.out).2.1); rintro e w' ⟨rfl, ⟨nd, rfl⟩⟩; refine ⟨_, rfl, ?_⟩))
                go_ret
                exact ⟨by first | rfl | (simp [errW_none, errW_some] <;> rfl) | (simp [*, errW_none, errW_some] <;> rfl), by repeat (first | (with_reducible first | exact HB.out | apply below_alloc | apply pw_below_drewN | apply below_drew1) | exact HB.out)⟩
               ·
                rw [if_neg c62] at H
                exact absurd H (by simp)
          ·
           rw [if_neg c44] at H
           exact absurd H (by simp)
     ·
      replace c26 := Bool.eq_false_iff.mpr c26
      subst c26
      have H1 : (none) = some r := by rw [if_neg (show ¬ (false = true) by decide)] at H; exact H
      clear H
      have H := H1
      clear H1
      exact absurd H (by simp)

end Go.Proofs.Ytdofjpokmbhefaa.Q
/- Lists of warnings in plain words: which are valid, which lists are consistent; what both programs say of it. -/
namespace Go.Proofs.Ytdofjpokmbhefaa.Q
open Go.RowKit Go.Proofs.YtdofjpokmbhefaaW.PrintWords Go.Proofs.Ytdofjpokmbhefaa.Gen Go.Proofs.Ytdofjpokmbhefaa.Tells
set_option linter.unusedVariables false
set_option linter.unusedSimpArgs false

def okW (x : S46) : Bool := decide (1 ≤ x.f0 ∧ x.f0 ≤ 999 ∧ 1 ≤ x.f1 ∧ x.f1 ≤ 5 ∧ 1 ≤ x.f2 ∧ x.f2 ≤ 3 ∧ 1 ≤ x.f3 ∧ x.f3 ≤ 9 ∧ 0 ≤ x.f4 ∧ x.f4 < x.f5 ∧ x.f5 ≤ 240)
theorem l1In_f (a b c : Int) : spec_l1In.f a b c = some (decide (b ≤ a ∧ a ≤ c)) := by
  unfold spec_l1In.f
  by_cases h1 : a ≥ b <;> by_cases h2 : a ≤ c <;> simp [h1, h2] <;> omega
theorem l14Good_f (x : S46) : spec_l14Good.f x.f0 x.f1 x.f2 x.f3 x.f4 x.f5 = some (okW x) := by
  unfold spec_l14Good.f okW
  simp only [l1In_f, Option.bind_some, decide_eq_true_eq]
  repeat' split
  all_goals (congr 1; first | (apply decide_eq_decide.2; unfold wrap64; omega) | (symm; apply decide_eq_false; omega))
theorem isValidW_f (x : S46) : impl_IsValidWarning.f x.f0 x.f1 x.f2 x.f3 x.f4 x.f5 = some (okW x) := by
  unfold impl_IsValidWarning.f okW
  simp only [within_f, Option.bind_some, decide_eq_true_eq]
  repeat' split
  all_goals (congr 1; first | (apply decide_eq_decide.2; omega) | (symm; apply decide_eq_false; omega))
theorem l14Meet_f (a b : S46) : spec_l14Meet.f a.f0 a.f1 a.f2 a.f3 a.f4 a.f5 b.f0 b.f1 b.f2 b.f3 b.f4 b.f5 = some (meetB a b) := by
  unfold spec_l14Meet.f meetB
  by_cases h1 : a.f1 = b.f1 <;> by_cases h2 : a.f3 = b.f3 <;> by_cases h3 : a.f4 < b.f5 <;> simp [h1, h2, h3]
theorem meetB_comm (a b : S46) : meetB a b = meetB b a := by
  unfold meetB
  rw [Bool.eq_iff_iff]
  simp only [Bool.and_eq_true, decide_eq_true_eq]
  constructor <;> (rintro ⟨h1, h2, h3, h4⟩; exact ⟨h1.symm, h2.symm, h4, h3⟩)
theorem rdW (l : List S46) (i : Nat) : rd_T46 l (i : Int) = l.getD i z46 := rfl

/-- The warning at place i is valid and its number is greater than the one before. -/
def stepB (l : List S46) (i : Nat) : Bool := okW (l.getD i z46) && (i == 0 || decide ((l.getD (i - 1) z46).f0 < (l.getD i z46).f0))
def clearB (l : List S46) (i : Nat) : Bool := !((l.take i).any fun o => meetB (l.getD i z46) o)
/-- A consistent list of warnings. -/
def consB (l : List S46) : Bool := decide (l.length ≤ 12) && decide (∀ j, j < l.length → (stepB l j && clearB l j) = true)

theorem any_take (l : List S46) (q : S46 → Bool) (i : Nat) (hi : i ≤ l.length) : (l.take i).any q = decide (∃ j, j < i ∧ q (l.getD j z46) = true) := by
  rw [Bool.eq_iff_iff, List.any_eq_true, decide_eq_true_eq]
  constructor
  · rintro ⟨x, hx, hq⟩
    obtain ⟨j, hj, rfl⟩ := List.getElem_of_mem hx
    have hj' : j < i := by rw [List.length_take] at hj; omega
    refine ⟨j, hj', ?_⟩
    rw [getD_lt l _ j (by omega)]
    simpa using hq
  · rintro ⟨j, hj, hq⟩
    refine ⟨l.getD j z46, ?_, hq⟩
    rw [getD_lt l _ j (by omega)]
    exact List.mem_take_iff_getElem.2 ⟨j, by omega, rfl⟩

/-- The inner loop of the reference: does a warning before place i meet it? -/
theorem ev_l14_l1 (l : List S46) (hl : l.length ≤ 12) (i : Nat) (hi : i < l.length) (r : Bool) (hr : Ev (fun k => spec_l14List.l0 k l ((i + 1 : Nat) : Int)) r) :
    Ev (fun k => spec_l14List.l1 k l (i : Int) 0) (if clearB l i = true then r else false) := by
  have key := ev_run (fun k (_ : Unit) j => spec_l14List.l1 k l (i : Int) j) i (fun j _ => if (!(meetB (l.getD j z46) (l.getD i z46))) = true then .inr () else .inl false) (fun _ => r) (fun _ _ => True)
    (by
      intro j s b hj _ h
      have hm : meetB (l.getD j z46) (l.getD i z46) = true := by
        cases hm : meetB (l.getD j z46) (l.getD i z46)
        · rw [hm] at h; simp at h
        · rfl
      have hb : b = false := by rw [hm] at h; simp at h; exact h
      subst hb
      refine Ev.eq_now fun k => ?_
      simp only [spec_l14List.l1]
      rw [if_pos (by omega), if_pos (by omega), if_pos (by omega), if_pos (by omega), if_pos (by omega), rdW, rdW, l14Meet_f, hm]
      rfl)
    (by
      intro j s s' r' hj _ h
      have hm : meetB (l.getD j z46) (l.getD i z46) = false := by
        cases hm : meetB (l.getD j z46) (l.getD i z46)
        · rfl
        · rw [hm] at h; simp at h
      refine ⟨trivial, fun he => ?_⟩
      refine Ev.congr (fun k => ?_) he
      simp only [spec_l14List.l1]
      rw [if_pos (by omega), if_pos (by omega), if_pos (by omega), if_pos (by omega), if_pos (by omega), rdW, rdW, l14Meet_f, hm, wrapS j (by omega)]
      rfl)
    (by
      intro s _
      refine Ev.congr (fun k => ?_) hr
      simp only [spec_l14List.l1]
      rw [if_neg (by omega), wrapS i (by omega)])
    i 0 () (by omega) trivial
  rw [run_all (fun j => !(meetB (l.getD j z46) (l.getD i z46))) false r i i 0 (by omega)] at key
  have e : (∀ j, j < i → 0 ≤ j → (!(meetB (l.getD j z46) (l.getD i z46))) = true) ↔ clearB l i = true := by
    unfold clearB
    rw [any_take l _ i (by omega)]
    simp only [Bool.not_eq_true', decide_eq_false_iff_not, not_exists, not_and, Bool.not_eq_true]
    constructor
    · intro h j hj; rw [meetB_comm]; exact h j hj (Nat.zero_le _)
    · intro h j hj _; rw [meetB_comm]; exact h j hj
  by_cases hc : clearB l i = true
  · rw [if_pos hc]; rw [if_pos (e.2 hc)] at key; exact key
  · rw [if_neg hc]; rw [if_neg (fun h => hc (e.1 h))] at key; exact key

theorem l14_round (l : List S46) (hl : l.length ≤ 12) (i : Nat) (hi : i < l.length) (k : Nat) : spec_l14List.l0 (k + 1) l (i : Int) = spec_l14List.j1 k l (i : Int) (!stepB l i) := by
  simp only [spec_l14List.l0]
  rw [if_pos (by omega), if_pos (by omega), rdW, l14Good_f]
  simp only [Option.bind_some]
  unfold stepB
  cases hg : okW (l.getD i z46) with
  | false => rfl
  | true =>
    rw [if_pos rfl]
    by_cases h0 : i = 0
    · subst h0
      rw [if_neg (by omega)]
      rfl
    · rw [if_pos (by omega), wrapP i (by omega) (by omega), if_pos (by omega), if_pos (by omega), rdW]
      congr 1
      rw [show (i == 0) = false from by simpa using h0]
      by_cases hlt : (l.getD (i - 1) z46).f0 < (l.getD i z46).f0
      · rw [decide_eq_false (by omega), decide_eq_true hlt]; rfl
      · rw [decide_eq_true (by omega), decide_eq_false hlt]; rfl

theorem ev_l14List (l : List S46) : Ev (fun k => spec_l14List.f k l) (consB l) := by
  unfold spec_l14List.f consB
  by_cases hl : l.length ≤ 12
  · refine Ev.congr (f := fun k => spec_l14List.l0 k l ((0 : Nat) : Int)) (fun k => by rw [if_neg (by omega)]; rfl) ?_
    have key := ev_run (fun k (_ : Unit) i => spec_l14List.l0 k l i) l.length (fun j _ => if (stepB l j && clearB l j) = true then .inr () else .inl false) (fun _ => true) (fun _ _ => True)
      (by
        intro i s b hi _ h
        have hm : (stepB l i && clearB l i) = false := by
          cases hm : (stepB l i && clearB l i)
          · rfl
          · rw [hm] at h; simp at h
        have hb : b = false := by rw [hm] at h; simp at h; exact h
        subst hb
        refine Ev.congr (l14_round l hl i hi) (Ev.unr ?_)
        cases hs : stepB l i with
        | false => exact Ev.eq_now fun k => by simp only [spec_l14List.j1]; rfl
        | true =>
          refine Ev.congr (f := fun k => spec_l14List.l1 k l (i : Int) 0) (fun k => by simp only [spec_l14List.j1]; rfl) ?_
          have hc : clearB l i = false := by rw [hs] at hm; simpa using hm
          obtain ⟨K, hK⟩ : ∃ K : Nat, True := ⟨0, trivial⟩
          have key := ev_run (fun k (_ : Unit) j => spec_l14List.l1 k l (i : Int) j) i (fun j _ => if (!(meetB (l.getD j z46) (l.getD i z46))) = true then .inr () else .inl false) (fun _ => false) (fun j _ => ∃ q, j ≤ q ∧ q < i ∧ meetB (l.getD q z46) (l.getD i z46) = true)
            (by
              intro j s b hj _ h
              have hm : meetB (l.getD j z46) (l.getD i z46) = true := by
                cases hm : meetB (l.getD j z46) (l.getD i z46)
                · rw [hm] at h; simp at h
                · rfl
              have hb : b = false := by rw [hm] at h; simp at h; exact h
              subst hb
              refine Ev.eq_now fun k => ?_
              simp only [spec_l14List.l1]
              rw [if_pos (by omega), if_pos (by omega), if_pos (by omega), if_pos (by omega), if_pos (by omega), rdW, rdW, l14Meet_f, hm]
              rfl)
            (by
              intro j s s' r' hj hI h
              have hm : meetB (l.getD j z46) (l.getD i z46) = false := by
                cases hm : meetB (l.getD j z46) (l.getD i z46)
                · rfl
                · rw [hm] at h; simp at h
              obtain ⟨q, h1, h2, h3⟩ := hI
              refine ⟨⟨q, ?_, h2, h3⟩, fun he => ?_⟩
              · have : q ≠ j := by rintro rfl; rw [hm] at h3; cases h3
                omega
              refine Ev.congr (fun k => ?_) he
              simp only [spec_l14List.l1]
              rw [if_pos (by omega), if_pos (by omega), if_pos (by omega), if_pos (by omega), if_pos (by omega), rdW, rdW, l14Meet_f, hm, wrapS j (by omega)]
              rfl)
            (by
              rintro s ⟨q, h1, h2, _⟩
              omega)
            i 0 () (by omega) (by
              unfold clearB at hc
              rw [any_take l _ i (by omega)] at hc
              simp only [Bool.not_eq_false', decide_eq_true_eq] at hc
              obtain ⟨q, h1, h2⟩ := hc
              exact ⟨q, Nat.zero_le _, h1, by rw [meetB_comm]; exact h2⟩)
          have hv : run (fun j (_ : Unit) => if (!(meetB (l.getD j z46) (l.getD i z46))) = true then .inr () else .inl false) (fun _ => false) i 0 () = false :=
            run_inv (n := i) (fun _ _ => True) (fun b => b = false) (fun j s b _ _ h => by
              split at h
              · cases h
              · exact (Sum.inl.inj h).symm) (fun _ _ _ _ _ _ => trivial) (fun _ _ => rfl) i 0 () (by omega) trivial
          rw [hv] at key
          exact key)
      (by
        intro i s s' r hi _ h
        have hm : stepB l i = true ∧ clearB l i = true := by
          cases h1 : stepB l i <;> cases h2 : clearB l i <;> simp [h1, h2] at h <;> simp
        refine ⟨trivial, fun he => Ev.congr (l14_round l hl i hi) (Ev.unr ?_)⟩
        rw [hm.1]
        refine Ev.congr (f := fun k => spec_l14List.l1 k l (i : Int) 0) (fun k => by simp only [spec_l14List.j1]; rfl) ?_
        have key := ev_l14_l1 l hl i hi r he
        rw [if_pos hm.2] at key
        exact key)
      (by
        intro s _
        refine Ev.eq_now fun k => ?_
        simp only [spec_l14List.l0]
        rw [if_neg (by omega)])
      l.length 0 () (by omega) trivial
    rw [run_all (fun j => stepB l j && clearB l j) false true l.length l.length 0 (by omega)] at key
    rw [decide_eq_true hl, Bool.true_and]
    by_cases hp : ∀ j, j < l.length → (stepB l j && clearB l j) = true
    · rw [decide_eq_true hp]
      rw [if_pos (fun j hj _ => hp j hj)] at key
      exact key
    · rw [decide_eq_false hp]
      rw [if_neg (fun h => hp (fun j hj => h j hj (Nat.zero_le _)))] at key
      exact key
  · refine Ev.eq_now fun k => ?_
    rw [if_pos (by omega), decide_eq_false hl]
    rfl

theorem areW_round (l : List S46) (hl : l.length ≤ 4611686018427387904) (i : Nat) (hi : i < l.length) (k : Nat) : impl_areWarnings.l0 (k + 1) l l (l.length : Int) (i : Int) = if stepB l i = true then impl_areWarnings.l0 k l l (l.length : Int) ((i + 1 : Nat) : Int) else some false := by
  simp only [impl_areWarnings.l0]
  rw [if_pos (by omega), if_pos (by omega), if_pos (by omega), rdW, isValidW_f, wrapS i (by omega)]
  simp only [Option.bind_some]
  unfold stepB
  cases hg : okW (l.getD i z46) with
  | false => rfl
  | true =>
    rw [if_pos rfl]
    by_cases h0 : i = 0
    · subst h0
      rw [if_neg (by omega)]
      rfl
    · rw [if_pos (by omega), wrapP i (by omega) (by omega), if_pos (by omega), if_pos (by omega), rdW]
      rw [show (i == 0) = false from by simpa using h0]
      by_cases hlt : (l.getD (i - 1) z46).f0 < (l.getD i z46).f0
      · rw [if_neg (by omega), decide_eq_true hlt]; rfl
      · rw [if_pos (by omega), decide_eq_false hlt]; rfl
theorem ev_areWarnings (l : List S46) (hb : l.length ≤ 4611686018427387904) : Ev (fun k => impl_areWarnings.f k l) (decide (l.length ≤ 12) && decide (∀ j, j < l.length → stepB l j = true)) := by
  unfold impl_areWarnings.f
  have key := ev_run (fun k (_ : Unit) i => impl_areWarnings.l0 k l l (l.length : Int) i) l.length (fun j _ => if stepB l j = true then .inr () else .inl false) (fun _ => decide (l.length ≤ 12)) (fun _ _ => True)
    (by
      intro i s b hi _ h
      refine Ev.eq_now fun k => ?_
      rw [areW_round l hb i hi]
      cases hs : stepB l i <;> simp [hs] at h ⊢
      exact h)
    (by
      intro i s s' r hi _ h
      refine ⟨trivial, fun he => Ev.congr (fun k => ?_) he⟩
      rw [areW_round l hb i hi]
      cases hs : stepB l i <;> simp [hs] at h ⊢)
    (by
      intro s _
      refine Ev.eq_now fun k => ?_
      simp only [impl_areWarnings.l0]
      rw [if_neg (by omega)]
      congr 1
      exact decide_eq_decide.2 (by omega))
    l.length 0 () (by omega) trivial
  rw [run_all (fun j => stepB l j) false (decide (l.length ≤ 12)) l.length l.length 0 (by omega)] at key
  by_cases hp : ∀ j, j < l.length → stepB l j = true
  · rw [decide_eq_true hp, Bool.and_true]
    rw [if_pos (fun j hj _ => hp j hj)] at key
    exact key
  · rw [decide_eq_false hp, Bool.and_false]
    rw [if_neg (fun h => hp (fun j hj => h j hj (Nat.zero_le _)))] at key
    exact key

theorem ev_IsConsistent (l : List S46) (hb : l.length ≤ 4611686018427387904) : Ev (fun k => impl_IsConsistent.f k l) (consB l) := by
  unfold impl_IsConsistent.f
  refine Ev.bind (f := fun _ t => some (t && apartB l)) (ev_areWarnings l hb) (Ev.eq_now fun k => ?_)
  congr 1
  unfold consB apartB
  rw [Bool.and_assoc]
  congr 1
  rw [Bool.eq_iff_iff]
  simp only [Bool.and_eq_true, decide_eq_true_eq, List.all_eq_true, List.mem_range]
  constructor
  · rintro ⟨h1, h2⟩ j hj
    exact ⟨h1 j hj, h2 j hj⟩
  · intro h
    exact ⟨fun j hj => (h j hj).1, fun j hj => (h j hj).2⟩

/-! The laws' own helpers. -/
def conv (x : S55) : S46 := ⟨x.f0, x.f1, x.f2, x.f3, x.f4, x.f5⟩
def wconv (l : List S55) : List S46 := l.map conv
theorem wconv_length (l : List S55) : (wconv l).length = l.length := by simp [wconv]
theorem szW_f (l : List S55) (m : Int) (hm : 0 ≤ m ∧ m ≤ 1048576) (h : l.length ≤ maxLen) : laws_szWarningS.f l m = some (if (l.length : Int) ≤ m then m - l.length else -1) := by
  unfold laws_szWarningS.f maxLen at *
  by_cases hl : (l.length : Int) ≤ m
  · rw [if_neg (by unfold wrap64; omega), if_pos hl]
    congr 1
    unfold wrap64; omega
  · rw [if_pos (by unfold wrap64; omega), if_neg hl]
theorem rdV (l : List S55) (i : Nat) : rd_T55 l (i : Int) = l.getD i z55 := rfl

theorem ev_toW (l : List S55) (hl : l.length ≤ 1048576) : Ev (fun k => laws_toWarningS.f k l) (wconv l) := by
  unfold laws_toWarningS.f
  refine Ev.congr (f := fun k => laws_toWarningS.l0 k l (List.replicate l.length z46) ((0 : Nat) : Int)) (fun k => by rw [if_pos (by omega), if_pos (by omega)]; rfl) ?_
  have key := ev_run (fun k (s : List S46) i => laws_toWarningS.l0 k l s i) l.length (fun i s => .inr (s.set i (conv (l.getD i z55)))) (fun s => s) (fun i s => s.length = l.length)
    (by intro i s b hi _ h; cases h)
    (by
      intro i s s' r hi hs h
      cases h
      refine ⟨by simpa using hs, fun he => Ev.congr (fun k => ?_) he⟩
      simp only [laws_toWarningS.l0, laws_toWarning.f]
      rw [if_pos (by omega), if_pos (by omega), wrapS i (by omega)]
      simp only [Option.bind_some]
      rw [if_pos (by omega)]
      rfl)
    (by
      intro s _
      refine Ev.eq_now fun k => ?_
      simp only [laws_toWarningS.l0]
      rw [if_neg (by omega)])
    l.length 0 (List.replicate l.length z46) (by omega) (by simp)
  have hv : run (fun i (s : List S46) => (.inr (s.set i (conv (l.getD i z55))) : List S46 ⊕ List S46)) (fun s => s) l.length 0 (List.replicate l.length z46) = wconv l := by
    refine run_inv (n := l.length) (fun i s => s.length = l.length ∧ ∀ j, j < i → s[j]? = (wconv l)[j]?) (fun b => b = wconv l) (fun i s b _ _ h => by cases h) ?_ ?_ l.length 0 _ (by omega) ⟨by simp, fun j hj => absurd hj (Nat.not_lt_zero _)⟩
    · rintro i s s' hi ⟨h1, h2⟩ h
      cases h
      refine ⟨by simpa using h1, fun j hj => ?_⟩
      by_cases e : j = i
      · subst e
        rw [List.getElem?_set_self (by omega)]
        simp [wconv, hi]
      · rw [List.getElem?_set_ne (by omega)]
        exact h2 j (by omega)
    · rintro s ⟨h1, h2⟩
      apply List.ext_getElem?
      intro j
      by_cases hj : j < l.length
      · exact h2 j hj
      · rw [List.getElem?_eq_none (by omega), List.getElem?_eq_none (by rw [wconv_length]; omega)]
  rw [hv] at key
  exact key

theorem eqW_f (x : S46) : laws_eqWarning.f x.f0 x.f1 x.f2 x.f3 x.f4 x.f5 x.f0 x.f1 x.f2 x.f3 x.f4 x.f5 = some true := by
  unfold laws_eqWarning.f
  simp
theorem ev_eqW (l : List S46) (hl : l.length ≤ 4611686018427387904) : Ev (fun k => laws_eqWarningS.f k l l) true := by
  unfold laws_eqWarningS.f
  refine Ev.congr (f := fun k => laws_eqWarningS.l0 k l l ((0 : Nat) : Int)) (fun k => by rw [if_pos rfl]; rfl) ?_
  have key := ev_run (fun k (s : Unit) i => laws_eqWarningS.l0 k l l i) l.length (fun _ _ => .inr ()) (fun _ => true) (fun _ _ => True)
    (by intro i s b hi _ h; cases h)
    (by
      intro i s s' r hi hs h
      refine ⟨trivial, fun he => Ev.congr (fun k => ?_) he⟩
      simp only [laws_eqWarningS.l0]
      rw [if_pos (by omega), if_pos (by omega), if_pos (by omega), rdW, eqW_f, wrapS i (by omega)]
      rfl)
    (by
      intro s _
      refine Ev.eq_now fun k => ?_
      simp only [laws_eqWarningS.l0]
      rw [if_neg (by omega)])
    l.length 0 () (by omega) trivial
  have hv : run (fun _ (_ : Unit) => (.inr () : Bool ⊕ Unit)) (fun _ => true) l.length 0 () = true :=
    run_inv (n := l.length) (fun _ _ => True) (fun b => b = true) (fun i s b _ _ h => by cases h) (fun _ _ _ _ _ _ => trivial) (fun _ _ => rfl) _ _ _ (by omega) trivial
  rw [hv] at key
  exact key
end Go.Proofs.Ytdofjpokmbhefaa.Q
/- Bulletins: which are valid; what both programs say of it. -/
namespace Go.Proofs.Ytdofjpokmbhefaa.Q
open Go.RowKit Go.Proofs.YtdofjpokmbhefaaW.PrintWords Go.Proofs.Ytdofjpokmbhefaa.Gen
set_option linter.unusedVariables false
set_option linter.unusedSimpArgs false
def bullB (n h : Int) (l : List S46) : Bool := decide (1 ≤ n ∧ n ≤ 999) && (decide (0 ≤ h ∧ h ≤ 240) && consB l)
theorem ev_l17Good (n h : Int) (l : List S46) : Ev (fun k => spec_l17Good.f k n h l) (bullB n h l) := by
  unfold spec_l17Good.f bullB
  simp only [l1In_f, Option.bind_some, decide_eq_true_eq]
  by_cases h1 : 1 ≤ n ∧ n ≤ 999
  · by_cases h2 : 0 ≤ h ∧ h ≤ 240
    · simp only [h1, h2, and_self, if_true, decide_true, Bool.true_and]
      exact Ev.bind (f := fun k t => _) (ev_l14List l) (Ev.now _)
    · simp only [h1, h2, and_self, if_true, if_false, decide_true, decide_false, Bool.true_and, Bool.false_and]
      exact Ev.now _
  · simp only [h1, if_false, decide_false, Bool.false_and]
    exact Ev.now _
theorem ev_implBull (n h : Int) (l : List S46) (hl : l.length ≤ 4611686018427387904) : Ev (fun k => impl_IsValidBulletin.f k n h l) (bullB n h l) := by
  unfold impl_IsValidBulletin.f bullB
  simp only [within_f, Option.bind_some, decide_eq_true_eq]
  by_cases h1 : 1 ≤ n ∧ n ≤ 999
  · by_cases h2 : 0 ≤ h ∧ h ≤ 240
    · simp only [h1, h2, and_self, if_true, decide_true, Bool.true_and]
      exact Ev.bind (f := fun k t => _) (ev_IsConsistent l hl) (Ev.now _)
    · simp only [h1, h2, and_self, if_true, if_false, decide_true, decide_false, Bool.true_and, Bool.false_and]
      exact Ev.now _
  · simp only [h1, if_false, decide_false, Bool.false_and]
    exact Ev.now _
theorem ev_toB (n h : Int) (l : List S55) (hl : l.length ≤ 1048576) : Ev (fun k => laws_toBulletin.f k n h l) (n, h, wconv l) := by
  unfold laws_toBulletin.f
  exact Ev.bind (f := fun k t => _) (ev_toW l hl) (Ev.now _)
theorem ev_eqB (n h : Int) (l : List S46) (hl : l.length ≤ 4611686018427387904) : Ev (fun k => laws_eqBulletin.f k n h l n h l) true := by
  unfold laws_eqBulletin.f
  simp only [if_true]
  exact Ev.bind (f := fun k t => _) (ev_eqW l hl) (Ev.now _)
end Go.Proofs.Ytdofjpokmbhefaa.Q
/- The laws' helpers on lists of Warning: marks, what is held, equality. -/
namespace Go.Proofs.Ytdofjpokmbhefaa.Q
open Go.RowKit Go.Proofs.YtdofjpokmbhefaaW.PrintWords Go.Proofs.Ytdofjpokmbhefaa.Gen
set_option linter.unusedVariables false
set_option linter.unusedSimpArgs false
def mkW (m : Int) : S46 := ⟨m, m + 1, m + 2, m + 3, m + 4, m + 5⟩
def marksW (n : Nat) : List S46 := (List.range n).map fun (i : Nat) => mkW (1 + 6 * (i : Int))
theorem marksW_length (n : Nat) : (marksW n).length = n := by simp [marksW]
theorem marksW_get (n i : Nat) (hi : i < n) : (marksW n).getD i z46 = mkW (1 + 6 * (i : Int)) := by
  rw [List.getD_eq_getElem?_getD]
  simp [marksW, hi]
theorem rdVW (l : List S46) (i : Nat) : rd_T46 l (i : Int) = l.getD i z46 := rfl
theorem ev_markVW (l : List S46) (hl : l.length ≤ 1073741824) : Ev (fun k => laws_markWarningS.f k l 1) (1 + 6 * (l.length : Int), marksW l.length) := by
  unfold laws_markWarningS.f
  let f : Nat → List S46 × Int → (Int × List S46) ⊕ (List S46 × Int) := fun i s => .inr (s.1.set i (mkW s.2), s.2 + 6)
  have key := ev_run (fun k (s : List S46 × Int) i => laws_markWarningS.l0 k s.1 s.2 i) l.length f (fun s => (s.2, s.1)) (fun i s => s.1.length = l.length ∧ s.2 = 1 + 6 * (i : Int))
    (by intro i s b hi _ h; cases h)
    (by
      rintro i ⟨s1, s2⟩ s' r hi ⟨h1, h2⟩ h
      cases h
      dsimp only at h1 h2
      refine ⟨⟨by simpa using h1, by dsimp only; omega⟩, fun he => Ev.congr (fun k => ?_) he⟩
      simp only [laws_markWarningS.l0]
      rw [if_pos (by omega), if_pos (by omega), wrapS i (by omega), wrapS' (s2) (by omega) (by omega), wrapS' (s2 + 1) (by omega) (by omega), wrapS' (s2 + 1 + 1) (by omega) (by omega), wrapS' (s2 + 1 + 1 + 1) (by omega) (by omega), wrapS' (s2 + 1 + 1 + 1 + 1) (by omega) (by omega), wrapS' (s2 + 1 + 1 + 1 + 1 + 1) (by omega) (by omega)]
      have e : ∀ (q : List S46) (v : S46), q.length = l.length → rd_T46 (q.set i v) (i : Int) = v := fun q v hq => by
        rw [rdVW, List.getD_eq_getElem?_getD, List.getElem?_set_self (by omega)]; rfl
      simp only [Option.bind_some, Int.toNat_natCast, e s1 _ h1, List.set_set, Int.add_assoc]
      rfl)
    (by
      rintro ⟨s1, s2⟩ ⟨h1, h2⟩
      dsimp only at h1 h2
      refine Ev.eq_now fun k => ?_
      simp only [laws_markWarningS.l0]
      rw [if_neg (by omega)])
    l.length 0 (l, 1) (by omega) ⟨rfl, by simp⟩
  have hv : run f (fun s => (s.2, s.1)) l.length 0 (l, 1) = (1 + 6 * (l.length : Int), marksW l.length) := by
    refine run_inv (n := l.length) (fun i s => s.1.length = l.length ∧ s.2 = 1 + 6 * (i : Int) ∧ ∀ j, j < i → s.1[j]? = some (mkW (1 + 6 * (j : Int)))) (fun b => b = (1 + 6 * (l.length : Int), marksW l.length)) (fun i s b _ _ h => by cases h) ?_ ?_ l.length 0 (l, 1) (by omega) ⟨rfl, by simp, fun j hj => absurd hj (Nat.not_lt_zero _)⟩
    · rintro i ⟨s1, s2⟩ s' hi ⟨h1, h2, h3⟩ h
      cases h
      dsimp only at h1 h2 h3 ⊢
      refine ⟨by simpa using h1, by omega, fun j hj => ?_⟩
      by_cases e : j = i
      · subst e
        rw [List.getElem?_set_self (by omega), h2]
      · rw [List.getElem?_set_ne (by omega)]
        exact h3 j (by omega)
    · rintro ⟨s1, s2⟩ ⟨h1, h2, h3⟩
      dsimp only at h1 h2 h3 ⊢
      rw [h2]
      congr 1
      apply List.ext_getElem?
      intro j
      by_cases hj : j < l.length
      · rw [h3 j hj]
        simp [marksW, hj]
      · rw [List.getElem?_eq_none (by omega), List.getElem?_eq_none (by rw [marksW_length]; omega)]
  rw [hv] at key
  exact key
theorem ev_heldVW (n : Nat) (hn : n ≤ 1073741824) : Ev (fun k => laws_heldWarningS.f k (marksW n) 1) (1 + 6 * (n : Int)) := by
  unfold laws_heldWarningS.f
  have key := ev_run (fun k (s : Int) i => laws_heldWarningS.l0 k (marksW n) s i) n (fun i s => .inr (s + 6)) (fun s => s) (fun i s => s = 1 + 6 * (i : Int))
    (by intro i s b hi _ h; cases h)
    (by
      intro i s s' r hi h1 h
      cases h
      refine ⟨by omega, fun he => Ev.congr (fun k => ?_) he⟩
      simp only [laws_heldWarningS.l0]
      rw [marksW_length, if_pos (by omega), if_pos (by omega), rdVW, marksW_get n i hi, wrapS i (by omega), wrapS' (s) (by omega) (by omega), wrapS' (s + 1) (by omega) (by omega), wrapS' (s + 1 + 1) (by omega) (by omega), wrapS' (s + 1 + 1 + 1) (by omega) (by omega), wrapS' (s + 1 + 1 + 1 + 1) (by omega) (by omega), wrapS' (s + 1 + 1 + 1 + 1 + 1) (by omega) (by omega)]
      simp only [mkW, Int.add_assoc, ← h1]
      simp only [Int.reduceAdd, if_true])
    (by
      intro s h1
      refine Ev.eq_now fun k => ?_
      simp only [laws_heldWarningS.l0]
      rw [marksW_length, if_neg (by omega)])
    n 0 1 (by omega) (by simp)
  have hv : run (fun i (s : Int) => (.inr (s + 6) : Int ⊕ Int)) (fun s => s) n 0 1 = 1 + 6 * (n : Int) :=
    run_inv (n := n) (fun i s => s = 1 + 6 * (i : Int)) (fun b => b = 1 + 6 * (n : Int)) (fun i s b _ _ h => by cases h) (fun i s s' _ h1 h => by cases h; omega) (fun s h1 => h1) n 0 1 (by omega) (by simp)
  rw [hv] at key
  exact key
theorem ev_eqVW (l : List S46) (hl : l.length ≤ 4611686018427387904) : Ev (fun k => laws_eqWarningS.f k l l) true := by
  unfold laws_eqWarningS.f
  refine Ev.congr (f := fun k => laws_eqWarningS.l0 k l l ((0 : Nat) : Int)) (fun k => by rw [if_pos rfl]; rfl) ?_
  have key := ev_run (fun k (s : Unit) i => laws_eqWarningS.l0 k l l i) l.length (fun _ _ => .inr ()) (fun _ => true) (fun _ _ => True)
    (by intro i s b hi _ h; cases h)
    (by
      intro i s s' r hi hs h
      refine ⟨trivial, fun he => Ev.congr (fun k => ?_) he⟩
      have e : ∀ y : S46, laws_eqWarning.f y.f0 y.f1 y.f2 y.f3 y.f4 y.f5 y.f0 y.f1 y.f2 y.f3 y.f4 y.f5 = some true := fun y => by unfold laws_eqWarning.f; simp
      simp only [laws_eqWarningS.l0]
      rw [if_pos (by omega), if_pos (by omega), if_pos (by omega), rdVW, e, wrapS i (by omega)]
      rfl)
    (by
      intro s _
      refine Ev.eq_now fun k => ?_
      simp only [laws_eqWarningS.l0]
      rw [if_neg (by omega)])
    l.length 0 () (by omega) trivial
  have hv : run (fun _ (_ : Unit) => (.inr () : Bool ⊕ Unit)) (fun _ => true) l.length 0 () = true :=
    run_inv (n := l.length) (fun _ _ => True) (fun b => b = true) (fun i s b _ _ h => by cases h) (fun _ _ _ _ _ _ => trivial) (fun _ _ => rfl) _ _ _ (by omega) trivial
  rw [hv] at key
  exact key
end Go.Proofs.Ytdofjpokmbhefaa.Q
/- (from a running number) The laws' marks on lists of warnings that came in. -/
namespace Go.Proofs.Ytdofjpokmbhefaa.Q
open Go.RowKit Go.Proofs.YtdofjpokmbhefaaW.PrintWords Go.Proofs.Ytdofjpokmbhefaa.Gen
set_option linter.unusedVariables false
set_option linter.unusedSimpArgs false
theorem ev_markWM (l : List S46) (hl : l.length ≤ 1048576) (m : Int) (hm : 0 ≤ m ∧ m ≤ 1000000000000) : ∃ l', Ev (fun k => laws_markWarningS.f k l m) (m + 6 * (l.length : Int), l') := by
  unfold laws_markWarningS.f
  let f : Nat → List S46 × Int → (Int × List S46) ⊕ (List S46 × Int) := fun i s => .inr (s.1.set i ⟨s.2, s.2 + 1, s.2 + 2, s.2 + 3, s.2 + 4, s.2 + 5⟩, s.2 + 6)
  have key := ev_run (fun k (s : List S46 × Int) i => laws_markWarningS.l0 k s.1 s.2 i) l.length f (fun s => (s.2, s.1)) (fun i s => s.1.length = l.length ∧ s.2 = m + 6 * (i : Int))
    (by intro i s b hi _ h; cases h)
    (by
      rintro i ⟨s1, s2⟩ s' r hi ⟨h1, h2⟩ h
      cases h
      dsimp only at h1 h2
      refine ⟨⟨by simpa using h1, by dsimp only; omega⟩, fun he => Ev.congr (fun k => ?_) he⟩
      simp only [laws_markWarningS.l0]
      rw [if_pos (by omega), if_pos (by omega), wrapS i (by omega), wrapS' s2 (by omega) (by omega), wrapS' (s2 + 1) (by omega) (by omega), wrapS' (s2 + 1 + 1) (by omega) (by omega), wrapS' (s2 + 1 + 1 + 1) (by omega) (by omega), wrapS' (s2 + 1 + 1 + 1 + 1) (by omega) (by omega), wrapS' (s2 + 1 + 1 + 1 + 1 + 1) (by omega) (by omega)]
      have e : ∀ (q : List S46) (v : S46), q.length = l.length → rd_T46 (q.set i v) (i : Int) = v := fun q v hq => by
        rw [rdW, List.getD_eq_getElem?_getD, List.getElem?_set_self (by omega)]; rfl
      simp only [Option.bind_some, Int.toNat_natCast, e s1 _ h1, List.set_set, Int.add_assoc]
      rfl)
    (by
      rintro ⟨s1, s2⟩ ⟨h1, h2⟩
      dsimp only at h1 h2
      refine Ev.eq_now fun k => ?_
      simp only [laws_markWarningS.l0]
      rw [if_neg (by omega)])
    l.length 0 (l, m) (by omega) ⟨rfl, by simp⟩
  have hv : (run f (fun s => (s.2, s.1)) l.length 0 (l, m)).1 = m + 6 * (l.length : Int) :=
    run_inv (n := l.length) (fun i s => s.2 = m + 6 * (i : Int)) (fun (b : Int × List S46) => b.1 = m + 6 * (l.length : Int)) (fun i s b _ _ h => by cases h) (fun i s s' _ h1 h => by cases h; dsimp only; omega) (fun s h1 => h1) l.length 0 (l, m) (by omega) (by simp)
  refine ⟨(run f (fun s => (s.2, s.1)) l.length 0 (l, m)).2, ?_⟩
  rw [← hv]
  exact key
end Go.Proofs.Ytdofjpokmbhefaa.Q
/- The two programs agree on the latest warnings of bulletins, and keep nothing that is handed to them: for every list. -/
namespace Go.Proofs.Ytdofjpokmbhefaa.Q
open Go.RowKit Go.Proofs.YtdofjpokmbhefaaW.PrintWords Go.Proofs.Ytdofjpokmbhefaa.Gen
set_option linter.unusedVariables false
set_option linter.unusedSimpArgs false
def bOk (x : S41) : Bool := bullB x.f0 x.f1 x.f2
def latGo (L : List S41) : Nat → Nat → Nat → Option Nat
  | 0, _, best => some best
  | d + 1, kk, best => if bOk (L.getD kk z41) = true then (if ((L.take kk).any fun o => o.f0 == (L.getD kk z41).f0) = true then none else latGo L d (kk + 1) (if (L.getD best z41).f0 < (L.getD kk z41).f0 then kk else best)) else none
def finL (L : List S41) : Option Nat → List S46 × Int × Bool
  | none => ([], 0, false)
  | some b => ((L.getD b z41).f2, (L.getD b z41).f0, true)
def latV (L : List S41) : List S46 × Int × Bool := if 1 ≤ L.length ∧ L.length ≤ 10 then finL L (latGo L L.length 0 0) else ([], 0, false)
theorem any_takeC (l : List S41) (q : S41 → Bool) (i : Nat) (hi : i ≤ l.length) : (l.take i).any q = true ↔ ∃ j, j < i ∧ q (l.getD j z41) = true := by
  rw [List.any_eq_true]
  constructor
  · rintro ⟨x, hx, hq⟩
    obtain ⟨j, hj, rfl⟩ := List.getElem_of_mem hx
    have hj' : j < i := by rw [List.length_take] at hj; omega
    refine ⟨j, hj', ?_⟩
    rw [getD_lt l _ j (by omega)]
    simpa using hq
  · rintro ⟨j, hj, hq⟩
    refine ⟨l.getD j z41, ?_, hq⟩
    rw [getD_lt l _ j (by omega)]
    exact List.mem_take_iff_getElem.2 ⟨j, by omega, rfl⟩
theorem sp_A (L : List S41) (hn : L.length ≤ 10) (best i : Nat) (hb : best < L.length) (hi : i < L.length) (r : List S46 × Int × Bool)
    (hr : Ev (fun k => spec_LatestWarnings.l0 k L [] ((if (L.getD best z41).f0 < (L.getD i z41).f0 then i else best : Nat) : Int) ((i + 1 : Nat) : Int)) r) :
    ∀ d j : Nat, j + d = i → (∀ q, j ≤ q → q < i → (L.getD q z41).f0 ≠ (L.getD i z41).f0) → Ev (fun k => spec_LatestWarnings.l1 k L [] (best : Int) (i : Int) (j : Int)) r := by
  intro d
  induction d with
  | zero =>
    intro j hj _
    refine Ev.unr ?_
    simp only [spec_LatestWarnings.l1]
    refine Ev.congr (fun k => if_neg (by omega)) ?_
    refine Ev.congr (fun k => if_pos (by omega)) (Ev.congr (fun k => if_pos (by omega)) (Ev.congr (fun k => if_pos (by omega)) (Ev.congr (fun k => if_pos (by omega)) ?_)))
    rw [wrapS i (by omega)]
    by_cases c : (L.getD best z41).f0 < (L.getD i z41).f0
    · rw [if_pos c] at hr
      exact Ev.congr (fun k => if_pos c) hr
    · rw [if_neg c] at hr
      exact Ev.congr (fun k => if_neg c) hr
  | succ d ih =>
    intro j hj hall
    refine Ev.unr ?_
    simp only [spec_LatestWarnings.l1]
    refine Ev.congr (fun k => if_pos (by omega)) (Ev.congr (fun k => if_pos (by omega)) (Ev.congr (fun k => if_pos (by omega)) (Ev.congr (fun k => if_pos (by omega)) (Ev.congr (fun k => if_pos (by omega)) (Ev.congr (fun k => if_neg (hall j (Nat.le_refl _) (by omega))) ?_)))))
    rw [wrapS j (by omega)]
    exact ih (j + 1) (by omega) fun q h1 h2 => hall q (by omega) h2
theorem sp_B (L : List S41) (hn : L.length ≤ 10) (best i : Nat) (hi : i < L.length) :
    ∀ d j : Nat, j + d = i → (∃ q, j ≤ q ∧ q < i ∧ (L.getD q z41).f0 = (L.getD i z41).f0) → Ev (fun k => spec_LatestWarnings.l1 k L [] (best : Int) (i : Int) (j : Int)) ([], 0, false) := by
  intro d
  induction d with
  | zero =>
    rintro j hj ⟨q, h1, h2, _⟩
    omega
  | succ d ih =>
    rintro j hj ⟨q, h1, h2, h3⟩
    refine Ev.unr ?_
    simp only [spec_LatestWarnings.l1]
    refine Ev.congr (fun k => if_pos (by omega)) (Ev.congr (fun k => if_pos (by omega)) (Ev.congr (fun k => if_pos (by omega)) (Ev.congr (fun k => if_pos (by omega)) (Ev.congr (fun k => if_pos (by omega)) ?_))))
    by_cases e : (L.getD j z41).f0 = (L.getD i z41).f0
    · exact Ev.congr (fun k => if_pos e) (Ev.now _)
    · refine Ev.congr (fun k => if_neg e) ?_
      rw [wrapS j (by omega)]
      refine ih (j + 1) (by omega) ⟨q, ?_, h2, h3⟩
      rcases Nat.lt_or_ge j q with h | h
      · exact h
      · exfalso
        have : q = j := by omega
        subst this
        exact e h3
theorem any_num {L : List S41} {i : Nat} (hi : i ≤ L.length) : ((L.take i).any fun o => o.f0 == (L.getD i z41).f0) = true ↔ ∃ q, 0 ≤ q ∧ q < i ∧ (L.getD q z41).f0 = (L.getD i z41).f0 := by
  rw [any_takeC L _ i hi]
  constructor
  · rintro ⟨j, h1, h2⟩
    exact ⟨j, Nat.zero_le _, h1, by simpa using h2⟩
  · rintro ⟨j, _, h1, h2⟩
    exact ⟨j, h1, by simpa using h2⟩
theorem sp_l0 (L : List S41) (hn : L.length ≤ 10) (hw : ∀ b, (L.getD b z41).f2.length ≤ 1048576) : ∀ d kk best : Nat, kk + d = L.length → best < L.length → Ev (fun k => spec_LatestWarnings.l0 k L [] (best : Int) (kk : Int)) (finL L (latGo L d kk best)) := by
  intro d
  induction d with
  | zero =>
    intro kk best hk hb
    refine Ev.unr ?_
    simp only [spec_LatestWarnings.l0, Option.bind_some]
    refine Ev.congr (fun k => if_neg (by omega)) (Ev.congr (fun k => if_pos (by omega)) (Ev.congr (fun k => if_pos (by omega)) (Ev.congr (fun k => if_pos ?_) (Ev.now _))))
    have h : (L.getD best z41).f2.length ≤ 1048576 := hw best
    show 0 + (L.getD best z41).f2.length < 2932031007402
    omega
  | succ d ih =>
    intro kk best hk hb
    refine Ev.unr ?_
    simp only [spec_LatestWarnings.l0, Option.bind_some]
    refine Ev.congr (fun k => if_pos (by omega)) (Ev.congr (fun k => if_pos (by omega)) ?_)
    refine Ev.bind (f := fun k t => _) (ev_l17Good (L.getD kk z41).f0 (L.getD kk z41).f1 (L.getD kk z41).f2) ?_
    unfold latGo
    by_cases o : bOk (L.getD kk z41) = true
    · rw [if_pos o]
      refine Ev.congr (fun k => if_pos o) ?_
      by_cases a : ((L.take kk).any fun o => o.f0 == (L.getD kk z41).f0) = true
      · rw [if_pos a]
        exact sp_B L hn best kk (by omega) kk 0 (by omega) ((any_num (by omega)).1 a)
      · rw [if_neg a]
        refine sp_A L hn best kk hb (by omega) _ ?_ kk 0 (by omega) fun q _ h2 h3 => a ((any_num (by omega)).2 ⟨q, Nat.zero_le _, h2, h3⟩)
        exact ih (kk + 1) _ (by omega) (by split <;> omega)
    · rw [if_neg o]
      exact Ev.congr (fun k => if_neg o) (Ev.now _)
theorem l1In_C (a b c : Int) : spec_l1In.f a b c = some (decide (b ≤ a ∧ a ≤ c)) := l1In_f a b c
theorem ev_specLat (L : List S41) (hw : ∀ b, (L.getD b z41).f2.length ≤ 1048576) : Ev (fun k => spec_LatestWarnings.f k L) (latV L) := by
  unfold spec_LatestWarnings.f latV
  simp only [Option.bind_some]
  refine Ev.bind (f := fun k t => _) (Ev.eq_now fun k => l1In_C (L.length : Int) 1 10) ?_
  by_cases c : 1 ≤ L.length ∧ L.length ≤ 10
  · rw [if_pos c]
    refine Ev.congr (fun k => if_pos (decide_eq_true (by omega))) ?_
    exact sp_l0 L c.2 hw L.length 0 0 (by omega) (by omega)
  · rw [if_neg c]
    exact Ev.congr (fun k => if_neg (by rw [decide_eq_true_eq]; omega)) (Ev.now _)
theorem im_go (L : List S41) (hw : ∀ b, (L.getD b z41).f2.length ≤ 1048576) : ∀ d kk best : Nat, Ev (fun k => lwGo k L d kk best) (latGo L d kk best) := by
  intro d
  induction d with
  | zero =>
    intro kk best
    exact Ev.now _
  | succ d ih =>
    intro kk best
    unfold lwGo latGo
    refine Ev.bind (f := fun k t => _) (ev_implBull (L.getD kk z41).f0 (L.getD kk z41).f1 (L.getD kk z41).f2 (by have := hw kk; omega)) ?_
    by_cases o : bOk (L.getD kk z41) = true
    · rw [if_pos o]
      refine Ev.congr (fun k => if_pos o) ?_
      by_cases a : ((L.take kk).any fun o => o.f0 == (L.getD kk z41).f0) = true
      · rw [if_pos a]
        exact Ev.congr (fun k => if_pos a) (Ev.now _)
      · rw [if_neg a]
        exact Ev.congr (fun k => if_neg a) (ih _ _)
    · rw [if_neg o]
      exact Ev.congr (fun k => if_neg o) (Ev.now _)
theorem lwEnd_f (L : List S41) (hw : ∀ b, (L.getD b z41).f2.length ≤ 1048576) (o : Option Nat) : lwEnd L o = some (finL L o) := by
  cases o with
  | none => rfl
  | some b => exact if_pos (by have := hw b; omega)
theorem ev_implLat (L : List S41) (hw : ∀ b, (L.getD b z41).f2.length ≤ 1048576) : Ev (fun k => impl_LatestWarnings.f k L) (latV L) := by
  unfold impl_LatestWarnings.f latV
  by_cases c : 1 ≤ L.length ∧ L.length ≤ 10
  · rw [if_pos c]
    refine Ev.congr (fun k => if_pos c) ?_
    exact Ev.bind (f := fun k t => _) (im_go L hw L.length 0 0) (Ev.eq_now fun k => lwEnd_f L hw _)
  · rw [if_neg c]
    exact Ev.congr (fun k => if_neg c) (Ev.now _)
theorem latV_len (L : List S41) (hw : ∀ b, (L.getD b z41).f2.length ≤ 1048576) : (latV L).1.length ≤ 1048576 := by
  unfold latV
  split
  · cases latGo L L.length 0 0 with
    | none => exact Nat.zero_le _
    | some b => exact hw b
  · exact Nat.zero_le _
/- what the laws' helpers do -/
def toC (x : S37) : S41 := ⟨x.f0, x.f1, wconv x.f2⟩
def sumV : List S37 → Nat
  | [] => 0
  | b :: r => b.f2.length + sumV r
def sumC : List S41 → Nat
  | [] => 0
  | b :: r => b.f2.length + sumC r
theorem sumC_map : ∀ L : List S37, sumC (L.map toC) = sumV L
  | [] => rfl
  | b :: r => by rw [List.map_cons, sumC, sumV, sumC_map r]; show (wconv b.f2).length + _ = _; rw [wconv_length]
theorem sumV_ge : ∀ (L : List S37) (b : Nat), (L.getD b z37).f2.length ≤ sumV L
  | [], b => by cases b <;> exact Nat.zero_le _
  | x :: L, 0 => by rw [sumV]; exact Nat.le_add_right _ _
  | x :: L, b + 1 => by
    have := sumV_ge L b
    rw [sumV]
    show (L.getD b z37).f2.length ≤ _
    omega
theorem drop_consB (L : List S37) (k : Nat) (h : k < L.length) : L.drop k = L.getD k z37 :: L.drop (k + 1) := by
  rw [List.drop_eq_getElem_cons h, getD_lt L z37 k h]
theorem szB_f (x : S37) (m : Int) (hm : 0 ≤ m ∧ m ≤ 1048576) (h : x.f2.length ≤ maxLen) : laws_szBulletin.f x.f0 x.f1 x.f2 m = some (if (x.f2.length : Int) ≤ m then m - x.f2.length else -1) := by
  unfold laws_szBulletin.f
  rw [szW_f x.f2 m hm h, Option.bind_some]
  by_cases c : (x.f2.length : Int) ≤ m
  · rw [if_pos c, if_neg (by omega)]
  · rw [if_neg c, if_pos (by omega)]
theorem sz_l0 (L : List S37) (hL : L.length ≤ 1048576) (hg : ∀ x ∈ L, x.f2.length ≤ maxLen) : ∀ (d kk : Nat) (m : Int), kk + d = L.length → 0 ≤ m → m ≤ 1048576 → ∃ t, Ev (fun k => laws_szBulletinS.l0 k L m (kk : Int)) t ∧ (t < 0 ∨ (sumV (L.drop kk) : Int) ≤ m) := by
  intro d
  induction d with
  | zero =>
    intro kk m hk h0 h1
    refine ⟨m, Ev.unr ?_, .inr ?_⟩
    · simp only [laws_szBulletinS.l0]
      exact Ev.congr (fun k => if_neg (by omega)) (Ev.now _)
    · rw [List.drop_eq_nil_of_le (by omega)]
      exact h0
  | succ d ih =>
    intro kk m hk h0 h1
    have hx : (L.getD kk z37).f2.length ≤ maxLen := hg _ (by rw [getD_lt L z37 kk (by omega)]; exact List.getElem_mem _)
    have hs := szB_f (L.getD kk z37) m ⟨h0, h1⟩ hx
    by_cases c : ((L.getD kk z37).f2.length : Int) ≤ m
    · rw [if_pos c] at hs
      obtain ⟨t, e, ht⟩ := ih (kk + 1) (m - (L.getD kk z37).f2.length) (by omega) (by omega) (by omega)
      refine ⟨t, Ev.unr ?_, ?_⟩
      · simp only [laws_szBulletinS.l0]
        refine Ev.congr (fun k => if_pos (by omega)) (Ev.congr (fun k => if_pos (by omega)) ?_)
        refine Ev.bind (f := fun k t => _) (Ev.eq_now fun k => hs) ?_
        refine Ev.congr (fun k => if_neg (by omega)) ?_
        rw [wrapS kk (by omega)]
        exact e
      · rcases ht with h | h
        · exact .inl h
        · refine .inr ?_
          rw [drop_consB L kk (by omega), sumV]
          omega
    · rw [if_neg c] at hs
      refine ⟨-1, Ev.unr ?_, .inl (by decide)⟩
      simp only [laws_szBulletinS.l0]
      refine Ev.congr (fun k => if_pos (by omega)) (Ev.congr (fun k => if_pos (by omega)) ?_)
      refine Ev.bind (f := fun k t => _) (Ev.eq_now fun k => hs) ?_
      exact Ev.congr (fun k => if_pos (by decide)) (Ev.now _)
theorem to_l0 (L : List S37) (hL : L.length ≤ 1048576) (hg : ∀ b, (L.getD b z37).f2.length ≤ 1048576) : ∀ (d kk : Nat) (s : List S41), kk + d = L.length → s.length = L.length → Ev (fun k => laws_toBulletinS.l0 k L s (kk : Int)) (s.take kk ++ (L.drop kk).map toC) := by
  intro d
  induction d with
  | zero =>
    intro kk s hk hs
    refine Ev.unr ?_
    simp only [laws_toBulletinS.l0]
    rw [List.drop_eq_nil_of_le (by omega), List.map_nil, List.append_nil, List.take_of_length_le (by omega)]
    exact Ev.congr (fun k => if_neg (by omega)) (Ev.now _)
  | succ d ih =>
    intro kk s hk hs
    refine Ev.unr ?_
    simp only [laws_toBulletinS.l0]
    refine Ev.congr (fun k => if_pos (by omega)) (Ev.congr (fun k => if_pos (by omega)) ?_)
    refine Ev.bind (f := fun k t => _) (ev_toB (L.getD kk z37).f0 (L.getD kk z37).f1 (L.getD kk z37).f2 (hg kk)) ?_
    refine Ev.congr (fun k => if_pos (by omega)) ?_
    rw [wrapS kk (by omega)]
    have e : s.take kk ++ (L.drop kk).map toC = (s.set kk (toC (L.getD kk z37))).take (kk + 1) ++ (L.drop (kk + 1)).map toC := by
      rw [drop_consB L kk (by omega), List.map_cons]
      have e1 : (s.set kk (toC (L.getD kk z37))).take (kk + 1) = s.take kk ++ [toC (L.getD kk z37)] := by
        apply List.ext_getElem?
        intro j
        rcases Nat.lt_trichotomy j kk with h | h | h
        · rw [List.getElem?_take_of_lt (by omega), List.getElem?_set_ne (by omega), List.getElem?_append_left (by rw [List.length_take]; omega), List.getElem?_take_of_lt h]
        · subst h
          rw [List.getElem?_take_of_lt (by omega), List.getElem?_set_self (by omega), List.getElem?_append_right (by rw [List.length_take]; omega), List.length_take, Nat.min_eq_left (by omega), Nat.sub_self]
          rfl
        · rw [List.getElem?_eq_none (by rw [List.length_take, List.length_set]; omega), List.getElem?_eq_none (by rw [List.length_append, List.length_take]; simp; omega)]
      rw [e1, List.append_assoc]
      rfl
    rw [e]
    exact ih (kk + 1) _ (by omega) (by rw [List.length_set]; exact hs)
theorem ev_toBs (L : List S37) (hL : L.length ≤ 1048576) (hg : ∀ b, (L.getD b z37).f2.length ≤ 1048576) : Ev (fun k => laws_toBulletinS.f k L) (L.map toC) := by
  unfold laws_toBulletinS.f
  refine Ev.congr (fun k => if_pos (by omega)) (Ev.congr (fun k => if_pos (by omega)) ?_)
  exact to_l0 L hL hg L.length 0 (List.replicate L.length z41) (by omega) (by simp)
theorem eq_l0 (L : List S41) (hL : L.length ≤ 1048576) (hw : ∀ b, (L.getD b z41).f2.length ≤ 1048576) : ∀ d kk : Nat, kk + d = L.length → Ev (fun k => laws_eqBulletinS.l0 k L L (kk : Int)) true := by
  intro d
  induction d with
  | zero =>
    intro kk hk
    refine Ev.unr ?_
    simp only [laws_eqBulletinS.l0]
    exact Ev.congr (fun k => if_neg (by omega)) (Ev.now _)
  | succ d ih =>
    intro kk hk
    refine Ev.unr ?_
    simp only [laws_eqBulletinS.l0]
    refine Ev.congr (fun k => if_pos (by omega)) (Ev.congr (fun k => if_pos (by omega)) (Ev.congr (fun k => if_pos (by omega)) ?_))
    refine Ev.bind (f := fun k t => _) (ev_eqB (L.getD kk z41).f0 (L.getD kk z41).f1 (L.getD kk z41).f2 (by have := hw kk; omega)) ?_
    refine Ev.congr (fun k => if_pos rfl) ?_
    rw [wrapS kk (by omega)]
    exact ih (kk + 1) (by omega)
theorem ev_eqBs (L : List S41) (hL : L.length ≤ 1048576) (hw : ∀ b, (L.getD b z41).f2.length ≤ 1048576) : Ev (fun k => laws_eqBulletinS.f k L L) true := by
  unfold laws_eqBulletinS.f
  exact Ev.congr (fun k => if_pos rfl) (eq_l0 L hL hw L.length 0 (by omega))
theorem mb_ok : ∀ (l : List S41) (m : Int), (∀ b ∈ l, b.f2.length ≤ 1048576) → 0 ≤ m → m + 8 * ((l.length : Int) + (sumC l : Int)) ≤ 1000000000 → ∃ r, Ev (fun k => mbGo k l m) r ∧ 0 ≤ r
  | [], m, _, h0, _ => ⟨m, Ev.now _, h0⟩
  | b :: l, m, hg, h0, h1 => by
    rw [List.length_cons, sumC] at h1
    obtain ⟨l', e⟩ := ev_markWM b.f2 (hg b (List.mem_cons_self ..)) (m + 2) (by omega)
    obtain ⟨r, er, hr⟩ := mb_ok l (m + 2 + 6 * (b.f2.length : Int)) (fun x hx => hg x (List.mem_cons_of_mem _ hx)) (by omega) (by omega)
    refine ⟨r, ?_, hr⟩
    unfold mbGo
    rw [wrapS' m (by omega) (by omega), wrapS' (m + 1) (by omega) (by omega), show m + 1 + 1 = m + 2 from by omega]
    exact Ev.bind (f := fun k t => _) e er
end Go.Proofs.Ytdofjpokmbhefaa.Q
namespace Go.Proofs.Ytdofjpokmbhefaa.Pure
open Go.RowKit Go.Proofs.YtdofjpokmbhefaaW.PrintWords Go.Proofs.Ytdofjpokmbhefaa.Tells Go.Proofs.Ytdofjpokmbhefaa.Q Go.Proofs.Ytdofjpokmbhefaa.Gen
theorem FnExactLatestWarnings : ∀ (l0 : List S37), l0.length ≤ maxLen → (∀ x ∈ l0, G37 x) → ∃ k, laws_FnExactLatestWarnings.f k l0 = some true := by
  intro L hl hG
  refine Ev.rounds ?_
  have hg : ∀ x ∈ L, x.f2.length ≤ maxLen := fun x hx => (hG x hx).2.2.1
  unfold laws_FnExactLatestWarnings.f
  unfold maxLen at hl
  by_cases hb : (L.length : Int) ≤ 1048576
  · have hL : L.length ≤ 1048576 := by omega
    obtain ⟨t, e, ht⟩ := sz_l0 L hL hg L.length 0 (1048576 - (L.length : Int)) (by omega) (by omega) (by omega)
    have es : Ev (fun k => laws_szBulletinS.f k L 1048576) t := by
      unfold laws_szBulletinS.f
      have hw : wrap64 (1048576 - (L.length : Int)) = 1048576 - (L.length : Int) := by unfold wrap64; omega
      rw [hw]
      exact Ev.congr (fun k => if_neg (by omega)) e
    refine Ev.bind (f := fun k t => _) es ?_
    by_cases c : t < 0
    · exact Ev.congr (fun k => if_pos c) (Ev.now _)
    · refine Ev.congr (fun k => if_neg c) ?_
      have hs : (sumV L : Int) ≤ 1048576 - (L.length : Int) := by
        rcases ht with h | h
        · exact absurd h c
        · exact h
      have hv : ∀ b, (L.getD b z37).f2.length ≤ 1048576 := fun b => by have := sumV_ge L b; omega
      have ec := ev_toBs L hL hv
      have hcl : (L.map toC).length = L.length := List.length_map ..
      have hw : ∀ b, ((L.map toC).getD b z41).f2.length ≤ 1048576 := by
        intro b
        by_cases h : b < L.length
        · rw [getD_lt _ z41 b (by omega), List.getElem_map]
          have := hv b
          rw [getD_lt L z37 b h] at this
          show (wconv _).length ≤ _
          rw [wconv_length]
          exact this
        · rw [List.getD_eq_getElem?_getD, List.getElem?_eq_none (by omega)]
          exact Nat.zero_le _
      have hsp := ev_specLat (L.map toC) hw
      have him := ev_implLat (L.map toC) hw
      have hz := latV_len (L.map toC) hw
      generalize hV : latV (L.map toC) = V at hsp him hz
      obtain ⟨v1, v2, v3⟩ := V
      dsimp only at hz
      have heq := ev_eqW v1 (by omega)
      obtain ⟨m, em, hm⟩ := mb_ok (L.map toC) 1 (fun x hx => by
        obtain ⟨i, hi, rfl⟩ := List.mem_iff_getElem.1 hx
        have := hw i
        rw [getD_lt _ z41 i hi] at this
        exact this) (by omega) (by rw [hcl, sumC_map]; omega)
      have hmk := ev_markVW v1 (by omega)
      have hhd := ev_heldVW v1.length (by omega)
      refine Ev.bind (f := fun k t => _) ec ?_
      refine Ev.bind (f := fun k t => _) hsp ?_
      refine Ev.bind (f := fun k t => _) ec ?_
      refine Ev.bind (f := fun k t => _) him ?_
      refine Ev.bind (f := fun k t => _) heq ?_
      refine Ev.congr (fun k => if_pos rfl) (Ev.congr (fun k => if_pos rfl) ?_)
      simp only [bne_self_eq_false]
      refine Ev.unr ?_
      simp only [laws_FnExactLatestWarnings.j0]
      refine Ev.congr (fun k => if_neg (by decide)) ?_
      refine Ev.bind (f := fun k t => _) ec ?_
      refine Ev.bind (f := fun k t => _) (ev_eqBs (L.map toC) (by omega) hw) ?_
      refine Ev.congr (fun k => if_pos rfl) ?_
      refine Ev.bind (f := fun k t => _) em ?_
      refine Ev.congr (fun k => if_neg (by omega)) ?_
      refine Ev.bind (f := fun k t => _) heq ?_
      refine Ev.congr (fun k => if_pos rfl) (Ev.congr (fun k => if_pos trivial) ?_)
      simp only [bne_self_eq_false]
      refine Ev.unr ?_
      simp only [laws_FnExactLatestWarnings.j1]
      refine Ev.congr (fun k => if_neg (by decide)) ?_
      refine Ev.bind (f := fun k t => _) hmk ?_
      refine Ev.bind (f := fun k t => _) hhd ?_
      refine Ev.congr (fun k => if_neg (by omega)) (Ev.congr (fun k => if_pos rfl) ?_)
      refine Ev.bind (f := fun k t => _) ec ?_
      refine Ev.bind (f := fun k t => _) him ?_
      refine Ev.bind (f := fun k t => _) heq ?_
      refine Ev.congr (fun k => if_pos rfl) (Ev.congr (fun k => if_pos rfl) ?_)
      simp only [bne_self_eq_false]
      refine Ev.unr ?_
      simp only [laws_FnExactLatestWarnings.j2]
      refine Ev.congr (fun k => if_neg (by decide)) ?_
      refine Ev.bind (f := fun k t => _) hhd ?_
      exact Ev.congr (fun k => if_neg (by omega)) (Ev.congr (fun k => if_pos rfl) (Ev.now _))
  · refine Ev.bind (f := fun k t => _) (a := -1) ?_ (Ev.congr (fun k => if_pos (by decide)) (Ev.now _))
    unfold laws_szBulletinS.f
    exact Ev.congr (fun k => if_pos (by unfold wrap64; omega)) (Ev.now _)
end Go.Proofs.Ytdofjpokmbhefaa.Pure
