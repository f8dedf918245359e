/- Texts of this claim, put together: walks of the program's functions, and plain facts. -/
import Derived.Test.YtpdeapefekbdpaaZFnTracks
import Derived.Test.YtpdeapefekbdpaaBFnTracks0
import Derived.Test.YtpdeapefekbdpaaBFnTracks2
import Derived.Test.YtpdeapefekbdpaaBFnTracks5
import Derived.Test.YtpdeapefekbdpaaBFnTracks10
namespace Go.Proofs.Ytpdeapefekbdpaa.Q
open Go.RowKit Go.Proofs.YtpdeapefekbdpaaW.PrintWords Go.Proofs.YtpdeapefekbdpaaW.PrintLast Go.Proofs.YtpdeapefekbdpaaW.PrintMore
attribute [local go_sem] max2_int min2_int max_two min_two max_three min_three max_four min_four
set_option linter.unusedVariables false
set_option linter.unusedSimpArgs false
attribute [local go_sem high] eqA49
def laws_vStorms.l0 : Nat → List (S49) → List (S49) → Int → Option (Bool)
 | 0, _, _, _ => none
 | k + 1, x0, x1, x5 => if x5 < (x0.length : Int) then (if 0 ≤ x5 then (if x5 < (x1.length : Int) then (if (!(((rd_T49 x0 x5).f0) == ((rd_T49 x1 x5).f0)) || (!(((rd_T49 x0 x5).f1) == ((rd_T49 x1 x5).f1)) || (!(((rd_T49 x0 x5).f2) == ((rd_T49 x1 x5).f2)) || (!(((rd_T49 x0 x5).f3) == ((rd_T49 x1 x5).f3)))))) = true then (some false) else (laws_vStorms.l0 k x0 x1 (wrap64 (x5 + 1)))) else (none)) else (none)) else (some true)
def laws_vStorms.f (k : Nat) (l0 : List (S49)) (l1 : List (S49)) : Option (Bool) := if (l0.length : Int) = (l1.length : Int) then (laws_vStorms.l0 k l0 l1 0) else (some false)
set_option maxHeartbeats 8000000 in
set_option maxRecDepth 100000 in
theorem laws_vStorms.calls (k : Nat) (A0 : Option Addr) (c0 : Nat) (l0 : List (S49)) (A1 : Option Addr) (c1 : Nat) (l1 : List (S49)) (r : Bool) (w : World) (hr0 : Kd.C k49 w A0 l0.length l0) (hc0 : l0.length ≤ c0) (hr1 : Kd.C k49 w A1 l1.length l1) (hc1 : l1.length ≤ c1) (h : laws_vStorms.f k l0 l1 = some r) :
  Calls Try.prog 21 #[.slice A0 l0.length c0, .slice A1 l1.length c1] w fun e w' => e = .returned (.bool r) ∧ Drawn0 w w' := by
 have hu49 := Try.underlying49
 have HR0 := Aside0.mk hr0
 have HC0 := Aside0.mk hc0
 clear hr0 hc0
 have HR1 := Aside0.mk hr1
 have HC1 := Aside0.mk hc1
 clear hr1 hc1
 have H : (if (l0.length : Int) = (l1.length : Int) then (laws_vStorms.l0 k l0 l1 0) else (some false)) = some r := h
 clear h
 by_cases c3 : (l0.length : Int) = (l1.length : Int)
 case neg =>
  rw [if_neg c3] at H
  have c3b0 : ((l0.length : Int) == (l1.length : Int)) = false := beq_eq_false_iff_ne.mpr c3
  have c3b1 : ((l0.length : Int) != (l1.length : Int)) = true := bne_iff_ne.mpr c3
  have c3b2 : (l0.length == l1.length) = false := by first | simpa using c3 | (simp at c3 ⊢; omega)
  obtain rfl := Option.some.inj H
  go_enter Try.func21, Try.ntmps21
  go_wp2
  repeat (go_quiet (fail); try go_wp2)
  go_ret
  exact ⟨by first | rfl | (simp; done) | (simp [*]; done), zq19⟩
 rw [if_pos c3] at H
 have c3b0 : ((l0.length : Int) == (l1.length : Int)) = true := beq_iff_eq.mpr c3
 have c3b1 : ((l0.length : Int) != (l1.length : Int)) = false := bne_eq_false_iff_eq.mpr c3
 have c3b2 : (l0.length == l1.length) = true := by first | simpa using c3 | (simp at c3 ⊢; omega)
 clear c3
 have H' := Aside0.mk H
 clear H
 go_enter Try.func21, Try.ntmps21
 go_wp2
 repeat (go_quiet (fail); try go_wp2)
 go_loopg [5] k (fun kq v5 w' => ∃ (x5_1 : Int), v5 = .int .i64 x5_1 ∧ Aside0 (laws_vStorms.l0 kq l0 l1 x5_1 = some r) ∧ Aside0 (kq ≤ k) ∧ Drawn0 w w')
 case atStart => exact ⟨(0), (by first | rfl | (simp; done) | (simp [*]; done)), H', ⟨Nat.le_refl _⟩, zq19⟩
 clear H'
 try clear c1
 try clear c2
 try clear p2
 try clear c3
 try clear c3b0
 try clear c3b1
 try clear c3b2
 obtain ⟨x5_1, rfl, HA, HK1, ⟨m1, rfl⟩⟩ := hrel
 cases gk with
 | zero => exact absurd HA.out (by simp [laws_vStorms.l0])
 | succ k1 =>
  have H := HA.out
  clear HA
  simp only [laws_vStorms.l0] at H
  by_cases c4 : x5_1 < (l0.length : Int)
  case neg =>
   rw [if_neg c4] at H
   have c4b0 : decide (x5_1 < (l0.length : Int)) = false := decide_eq_false c4
   clear c4
   obtain rfl := Option.some.inj H
   go_wp2
   repeat (go_quiet (fail); try go_wp2)
   go_ret
   exact ⟨by first | rfl | (simp; done) | (simp [*]; done), zq19⟩
  rw [if_pos c4] at H
  have c4b0 : decide (x5_1 < (l0.length : Int)) = true := decide_eq_true c4
  clear c4
  by_cases c5 : 0 ≤ x5_1
  case neg =>
   rw [if_neg c5] at H
   exact absurd H (by simp)
  rw [if_pos c5] at H
  have c5b0 : decide (0 ≤ x5_1) = true := decide_eq_true c5
  clear c5
  by_cases c6 : x5_1 < (l1.length : Int)
  case neg =>
   rw [if_neg c6] at H
   exact absurd H (by simp)
  rw [if_pos c6] at H
  have c6b0 : decide (x5_1 < (l1.length : Int)) = true := decide_eq_true c6
  clear c6
  by_cases c7 : (!(((rd_T49 l0 x5_1).f0) == ((rd_T49 l1 x5_1).f0)) || (!(((rd_T49 l0 x5_1).f1) == ((rd_T49 l1 x5_1).f1)) || (!(((rd_T49 l0 x5_1).f2) == ((rd_T49 l1 x5_1).f2)) || (!(((rd_T49 l0 x5_1).f3) == ((rd_T49 l1 x5_1).f3)))))) = true
  case pos =>
   rw [if_pos c7] at H
   have c7b0 : (!(((rd_T49 l0 x5_1).f0) == ((rd_T49 l1 x5_1).f0)) || (!(((rd_T49 l0 x5_1).f1) == ((rd_T49 l1 x5_1).f1)) || (!(((rd_T49 l0 x5_1).f2) == ((rd_T49 l1 x5_1).f2)) || (!(((rd_T49 l0 x5_1).f3) == ((rd_T49 l1 x5_1).f3)))))) = true := c7
   clear c7
   obtain rfl := Option.some.inj H
   have p749 : 0 ≤ (x5_1 : Int) := of_decide_eq_true zq2
   have q749 : x5_1 < (l0.length : Int) := of_decide_eq_true zq2
   obtain ⟨ad749, e749, hx749_0, hx749_1, hx749_2, hx749_3⟩ := at_T49 HR0.out x5_1 p749 q749
   cases e749
   replace p749 := eq_true p749
   replace q749 := eq_true q749
   have p750 : 0 ≤ (x5_1 : Int) := of_decide_eq_true zq2
   have q750 : x5_1 < (l1.length : Int) := of_decide_eq_true zq2
   obtain ⟨ad750, e750, hx750_0, hx750_1, hx750_2, hx750_3⟩ := at_T49 HR1.out x5_1 p750 q750
   cases e750
   replace p750 := eq_true p750
   replace q750 := eq_true q750
   go_wp2
   repeat (go_quiet (fail); try go_wp2)
   go_ret
   exact ⟨by first | rfl | (simp; done) | (simp [*]; done), zq19⟩
  rw [if_neg c7] at H
  have c7b0 : (!(((rd_T49 l0 x5_1).f0) == ((rd_T49 l1 x5_1).f0)) || (!(((rd_T49 l0 x5_1).f1) == ((rd_T49 l1 x5_1).f1)) || (!(((rd_T49 l0 x5_1).f2) == ((rd_T49 l1 x5_1).f2)) || (!(((rd_T49 l0 x5_1).f3) == ((rd_T49 l1 x5_1).f3)))))) = false := by simpa using c7
  clear c7
  have H' := Aside0.mk H
  clear H
  have p749 : 0 ≤ (x5_1 : Int) := of_decide_eq_true zq2
  have q749 : x5_1 < (l0.length : Int) := of_decide_eq_true zq2
  obtain ⟨ad749, e749, hx749_0, hx749_1, hx749_2, hx749_3⟩ := at_T49 HR0.out x5_1 p749 q749
  cases e749
  replace p749 := eq_true p749
  replace q749 := eq_true q749
  have p750 : 0 ≤ (x5_1 : Int) := of_decide_eq_true zq2
  have q750 : x5_1 < (l1.length : Int) := of_decide_eq_true zq2
  obtain ⟨ad750, e750, hx750_0, hx750_1, hx750_2, hx750_3⟩ := at_T49 HR1.out x5_1 p750 q750
  cases e750
  replace p750 := eq_true p750
  replace q750 := eq_true q750
  go_wp2
  repeat (go_quiet (fail); try go_wp2)
  go_roundg k1
  case measure => have := HK1.out; omega
  case rel => exact ⟨(wrap64 (x5_1 + 1)), (by first | rfl | (simp; done) | (simp [*]; done)), H', ⟨by have := HK1.out; omega⟩, zq19⟩
end Go.Proofs.Ytpdeapefekbdpaa.Q
namespace Go.Proofs.Ytpdeapefekbdpaa.Q
open Go.RowKit Go.Proofs.YtpdeapefekbdpaaW.PrintWords Go.Proofs.YtpdeapefekbdpaaW.PrintLast Go.Proofs.YtpdeapefekbdpaaW.PrintMore
attribute [local go_sem] max2_int min2_int max_two min_two max_three min_three max_four min_four
set_option linter.unusedVariables false
set_option linter.unusedSimpArgs false
def impl_hasCell.f (a0_0 : Int) (a0_1 : Int) (l0_2 : List Int) (a1 : Int) (a2 : Int) : Option (Bool) := (impl_within.f a1 0 (wrap64 (a0_0 - 1))).bind fun t752 => (if t752 = true then ((impl_within.f a2 0 (wrap64 (a0_1 - 1))).bind fun t753 => (some t753)) else (some false))
set_option maxHeartbeats 8000000 in
set_option maxRecDepth 100000 in
theorem impl_hasCell.calls (a0_0 : Int) (a0_1 : Int) (A0_2 : Option Addr) (c0_2 : Nat) (l0_2 : List Int) (a1 : Int) (a2 : Int) (r : Bool) (w : World) (hr0_2 : Kd.C (Kd.int .i64) w A0_2 l0_2.length l0_2) (hc0_2 : l0_2.length ≤ c0_2) (h : impl_hasCell.f a0_0 a0_1 l0_2 a1 a2 = some r) :
  Calls Try.prog 48 #[.agg #[.int .i64 a0_0, .int .i64 a0_1, .slice A0_2 l0_2.length c0_2], .int .i64 a1, .int .i64 a2] w fun e w' => e = .returned (.bool r) ∧ Below w.heap.size w w' := by
 have hu29 := Try.underlying29
 have HR0_2 := Aside0.mk hr0_2
 have HC0_2 := Aside0.mk hc0_2
 clear hr0_2 hc0_2
 have HB := Aside0.mk (Below.refl w.heap.size w)
 have H : ((impl_within.f a1 0 (wrap64 (a0_0 - 1))).bind fun t752 => (if t752 = true then ((impl_within.f a2 0 (wrap64 (a0_1 - 1))).bind fun t753 => (some t753)) else (some false))) = some r := h
 clear h
 replace H := Option.bind_eq_some_iff.mp H
 obtain ⟨t752, A40, H⟩ := H
 replace H : (if t752 = true then ((impl_within.f a2 0 (wrap64 (a0_1 - 1))).bind fun t753 => (some t753)) else (some false)) = some r := H
 have A4 := Aside0.mk A40
 clear A40
 by_cases c5 : t752 = true
 case neg =>
  replace c5 := Bool.eq_false_iff.mpr c5
  subst c5
  have H1 : (some false) = some r := by rw [if_neg (show ¬ (false = true) by decide)] at H; exact H
  clear H
  have H := H1
  clear H1
  obtain rfl := Option.some.inj H
  go_enter Try.func48, Try.ntmps48
  go_wp2_with (first | ((with_reducible refine gate_dst (N := 3) rfl ?_); refine box_event ?hg (N := 3) ?hd (cs := #[.int .i64 a0_0, .int .i64 a0_1, .slice A0_2 l0_2.length c0_2]) (t := 29) ?hr ?_; (case hd => rfl); (case hg => rfl); (case hr => exact zqS); intro gb751 hg w9 hbox hb; have BK751 := Aside0.mk (hbox); have GW751 := Aside0.mk ((by rw [hg]; exact (below_size zq0) : w.heap.size ≤ gb751)); replace HB := Aside0.mk (below_step zq0 hb); have GE751 := GW751; clear hb hbox hg; have hcz10_0 := bz BK751.out 0 (.int .i64 a0_0); have hcz10_1 := bz BK751.out 1 (.int .i64 a0_1); have hcz10_2 := bz BK751.out 2 (.slice A0_2 l0_2.length c0_2); have hfz10_0 := blk_frozen BK751.out 0; have hfz10_1 := blk_frozen BK751.out 1; have hfz10_2 := blk_frozen BK751.out 2) | ((with_reducible refine gate_callee (f := 39) rfl ?_); refine goesL_ (some 11) rfl rfl Try.func39 (by kernel_rfl) rfl #[.int .i64 a1, .int .i64 0, .int .i64 (wrap64 (a0_0 - 1))] rfl zq1 ?_; (with_reducible refine (impl_within.calls a1 0 (wrap64 (a0_0 - 1)) false _ A4.out).mono ?_); rintro e w' ⟨rfl, ⟨nd, rfl⟩⟩; refine ⟨_, rfl, ?_⟩))
  go_ret
  exact ⟨zqE, (by repeat (first | (with_reducible first | exact HB.out | apply below_alloc | apply pw_below_drewN | apply below_drew1 | refine below_set ?_ GE751.out) | exact HB.out))⟩
 subst c5
 have H1 : ((impl_within.f a2 0 (wrap64 (a0_1 - 1))).bind fun t753 => (some t753)) = some r := by rw [if_pos rfl] at H; exact H
 clear H
 have H := H1
 clear H1
 replace H := Option.bind_eq_some_iff.mp H
 obtain ⟨t753, A60, H⟩ := H
 replace H : (some t753) = some r := H
 have A6 := Aside0.mk A60
 clear A60
 obtain rfl := Option.some.inj H
 go_enter Try.func48, Try.ntmps48
 go_wp2_with (first | ((with_reducible refine gate_dst (N := 3) rfl ?_); refine box_event ?hg (N := 3) ?hd (cs := #[.int .i64 a0_0, .int .i64 a0_1, .slice A0_2 l0_2.length c0_2]) (t := 29) ?hr ?_; (case hd => rfl); (case hg => rfl); (case hr => exact zqS); intro gb751 hg w7 hbox hb; have BK751 := Aside0.mk (hbox); have GW751 := Aside0.mk ((by rw [hg]; exact (below_size zq0) : w.heap.size ≤ gb751)); replace HB := Aside0.mk (below_step zq0 hb); have GE751 := GW751; clear hb hbox hg; have hcz8_0 := bz BK751.out 0 (.int .i64 a0_0); have hcz8_1 := bz BK751.out 1 (.int .i64 a0_1); have hcz8_2 := bz BK751.out 2 (.slice A0_2 l0_2.length c0_2); have hfz8_0 := blk_frozen BK751.out 0; have hfz8_1 := blk_frozen BK751.out 1; have hfz8_2 := blk_frozen BK751.out 2) | ((with_reducible refine gate_callee (f := 39) rfl ?_); refine goesL_ (some 11) rfl rfl Try.func39 (by kernel_rfl) rfl #[.int .i64 a1, .int .i64 0, .int .i64 (wrap64 (a0_0 - 1))] rfl zq1 ?_; (with_reducible refine (impl_within.calls a1 0 (wrap64 (a0_0 - 1)) true _ A4.out).mono ?_); rintro e w' ⟨rfl, ⟨nd, rfl⟩⟩; refine ⟨_, rfl, ?_⟩) | (go_at_call 39; (with_reducible refine (impl_within.calls a2 0 (wrap64 (a0_1 - 1)) t753 _ A6.out).mono ?_); rintro e w' ⟨rfl, ⟨nd, rfl⟩⟩))
 go_ret
 exact ⟨zqE, (by repeat (first | (with_reducible first | exact HB.out | apply below_alloc | apply pw_below_drewN | apply below_drew1 | refine below_set ?_ GE751.out) | exact HB.out))⟩
def impl_CellAt.f (a0_0 : Int) (a0_1 : Int) (l0_2 : List Int) (a1 : Int) (a2 : Int) : Option (Int × Bool) := (impl_IsValidField.f a0_0 a0_1 l0_2).bind fun t755 => (if t755 = true then ((impl_hasCell.f a0_0 a0_1 l0_2 a1 a2).bind fun t756 => (if t756 = true then (if 0 ≤ (wrap64 ((wrap64 (a2 * a0_0)) + a1)) then (if (wrap64 ((wrap64 (a2 * a0_0)) + a1)) < (l0_2.length : Int) then (some (rd l0_2 (wrap64 ((wrap64 (a2 * a0_0)) + a1)), true)) else (none)) else (none)) else (some (0, false)))) else (some (0, false)))
set_option maxHeartbeats 8000000 in
set_option maxRecDepth 100000 in
theorem impl_CellAt.calls (a0_0 : Int) (a0_1 : Int) (A0_2 : Option Addr) (c0_2 : Nat) (l0_2 : List Int) (a1 : Int) (a2 : Int) (r1 : Int) (r2 : Bool) (w : World) (hr0_2 : Kd.C (Kd.int .i64) w A0_2 l0_2.length l0_2) (hc0_2 : l0_2.length ≤ c0_2) (h : impl_CellAt.f a0_0 a0_1 l0_2 a1 a2 = some (r1, r2)) :
  Calls Try.prog 22 #[.agg #[.int .i64 a0_0, .int .i64 a0_1, .slice A0_2 l0_2.length c0_2], .int .i64 a1, .int .i64 a2] w fun e w' => e = .returned (.tuple #[.int .i64 r1, .bool r2]) ∧ Below w.heap.size w w' := by
 have hu29 := Try.underlying29
 have HR0_2 := Aside0.mk hr0_2
 have HC0_2 := Aside0.mk hc0_2
 clear hr0_2 hc0_2
 have HB := Aside0.mk (Below.refl w.heap.size w)
 have H : ((impl_IsValidField.f a0_0 a0_1 l0_2).bind fun t755 => (if t755 = true then ((impl_hasCell.f a0_0 a0_1 l0_2 a1 a2).bind fun t756 => (if t756 = true then (if 0 ≤ (wrap64 ((wrap64 (a2 * a0_0)) + a1)) then (if (wrap64 ((wrap64 (a2 * a0_0)) + a1)) < (l0_2.length : Int) then (some (rd l0_2 (wrap64 ((wrap64 (a2 * a0_0)) + a1)), true)) else (none)) else (none)) else (some (0, false)))) else (some (0, false)))) = some (r1, r2) := h
 clear h
 replace H := Option.bind_eq_some_iff.mp H
 obtain ⟨t755, A40, H⟩ := H
 replace H : (if t755 = true then ((impl_hasCell.f a0_0 a0_1 l0_2 a1 a2).bind fun t756 => (if t756 = true then (if 0 ≤ (wrap64 ((wrap64 (a2 * a0_0)) + a1)) then (if (wrap64 ((wrap64 (a2 * a0_0)) + a1)) < (l0_2.length : Int) then (some (rd l0_2 (wrap64 ((wrap64 (a2 * a0_0)) + a1)), true)) else (none)) else (none)) else (some (0, false)))) else (some (0, false))) = some (r1, r2) := H
 have A4 := Aside0.mk A40
 clear A40
 by_cases c5 : t755 = true
 case neg =>
  replace c5 := Bool.eq_false_iff.mpr c5
  subst c5
  have H1 : (some (0, false)) = some (r1, r2) := by rw [if_neg (show ¬ (false = true) by decide)] at H; exact H
  clear H
  have H := H1
  clear H1
  simp only [Option.some.injEq, Prod.mk.injEq] at H
  obtain ⟨rfl, rfl⟩ := H
  go_enter Try.func22, Try.ntmps22
  go_wp2_with (first | ((with_reducible refine gate_dst (N := 3) rfl ?_); refine box_event ?hg (N := 3) ?hd (cs := #[.int .i64 a0_0, .int .i64 a0_1, .slice A0_2 l0_2.length c0_2]) (t := 29) ?hr ?_; (case hd => rfl); (case hg => rfl); (case hr => exact zqS); intro gb754 hg w22 hbox hb; have BK754 := Aside0.mk (hbox); have GW754 := Aside0.mk ((by rw [hg]; exact (below_size zq0) : w.heap.size ≤ gb754)); replace HB := Aside0.mk (below_step zq0 hb); have GE754 := GW754; clear hb hbox hg; have hcz23_0 := bz BK754.out 0 (.int .i64 a0_0); have hcz23_1 := bz BK754.out 1 (.int .i64 a0_1); have hcz23_2 := bz BK754.out 2 (.slice A0_2 l0_2.length c0_2); have hfz23_0 := blk_frozen BK754.out 0; have hfz23_1 := blk_frozen BK754.out 1; have hfz23_2 := blk_frozen BK754.out 2) | ((with_reducible refine gate_callee (f := 30) rfl ?_); refine goesL_ (some 9) rfl rfl Try.func30 (by kernel_rfl) rfl #[.agg #[.int .i64 a0_0, .int .i64 a0_1, .slice A0_2 l0_2.length c0_2]] rfl zq1 ?_; (with_reducible refine (impl_IsValidField.calls a0_0 a0_1 _ _ l0_2 false _ ?side1 ?side2 A4.out).mono ?_); (case side1 => exact zqC (Kd.C_below HR0_2.out HB.out)); (case side2 => exact HC0_2.out); rintro e w24 ⟨rfl, hb⟩; refine ⟨_, rfl, ?_⟩; replace BK754 := Aside0.mk (blk_below (g := gb754) (o := .cells #[.int .i64 a0_0, .int .i64 a0_1, .slice A0_2 l0_2.length c0_2] 29 (0, 0)) (zqK BK754.out) hb); replace HB := Aside0.mk (below_step zq26 hb); (try clear hb); (try clear hb2); (try clear hk); (try clear hi)))
  go_ret2
  exact ⟨zqE, zq26⟩
 subst c5
 have H1 : ((impl_hasCell.f a0_0 a0_1 l0_2 a1 a2).bind fun t756 => (if t756 = true then (if 0 ≤ (wrap64 ((wrap64 (a2 * a0_0)) + a1)) then (if (wrap64 ((wrap64 (a2 * a0_0)) + a1)) < (l0_2.length : Int) then (some (rd l0_2 (wrap64 ((wrap64 (a2 * a0_0)) + a1)), true)) else (none)) else (none)) else (some (0, false)))) = some (r1, r2) := by rw [if_pos rfl] at H; exact H
 clear H
 have H := H1
 clear H1
 replace H := Option.bind_eq_some_iff.mp H
 obtain ⟨t756, A60, H⟩ := H
 replace H : (if t756 = true then (if 0 ≤ (wrap64 ((wrap64 (a2 * a0_0)) + a1)) then (if (wrap64 ((wrap64 (a2 * a0_0)) + a1)) < (l0_2.length : Int) then (some (rd l0_2 (wrap64 ((wrap64 (a2 * a0_0)) + a1)), true)) else (none)) else (none)) else (some (0, false))) = some (r1, r2) := H
 have A6 := Aside0.mk A60
 clear A60
 by_cases c7 : t756 = true
 case neg =>
  replace c7 := Bool.eq_false_iff.mpr c7
  subst c7
  have H1 : (some (0, false)) = some (r1, r2) := by rw [if_neg (show ¬ (false = true) by decide)] at H; exact H
  clear H
  have H := H1
  clear H1
  simp only [Option.some.injEq, Prod.mk.injEq] at H
  obtain ⟨rfl, rfl⟩ := H
  go_enter Try.func22, Try.ntmps22
  go_wp2_with (first | ((with_reducible refine gate_dst (N := 3) rfl ?_); refine box_event ?hg (N := 3) ?hd (cs := #[.int .i64 a0_0, .int .i64 a0_1, .slice A0_2 l0_2.length c0_2]) (t := 29) ?hr ?_; (case hd => rfl); (case hg => rfl); (case hr => exact zqS); intro gb754 hg w17 hbox hb; have BK754 := Aside0.mk (hbox); have GW754 := Aside0.mk ((by rw [hg]; exact (below_size zq0) : w.heap.size ≤ gb754)); replace HB := Aside0.mk (below_step zq0 hb); have GE754 := GW754; clear hb hbox hg; have hcz18_0 := bz BK754.out 0 (.int .i64 a0_0); have hcz18_1 := bz BK754.out 1 (.int .i64 a0_1); have hcz18_2 := bz BK754.out 2 (.slice A0_2 l0_2.length c0_2); have hfz18_0 := blk_frozen BK754.out 0; have hfz18_1 := blk_frozen BK754.out 1; have hfz18_2 := blk_frozen BK754.out 2) | ((with_reducible refine gate_callee (f := 30) rfl ?_); refine goesL_ (some 9) rfl rfl Try.func30 (by kernel_rfl) rfl #[.agg #[.int .i64 a0_0, .int .i64 a0_1, .slice A0_2 l0_2.length c0_2]] rfl zq1 ?_; (with_reducible refine (impl_IsValidField.calls a0_0 a0_1 _ _ l0_2 true _ ?side1 ?side2 A4.out).mono ?_); (case side1 => exact zqC (Kd.C_below HR0_2.out HB.out)); (case side2 => exact HC0_2.out); rintro e w19 ⟨rfl, hb⟩; refine ⟨_, rfl, ?_⟩; replace BK754 := Aside0.mk (blk_below (g := gb754) (o := .cells #[.int .i64 a0_0, .int .i64 a0_1, .slice A0_2 l0_2.length c0_2] 29 (0, 0)) (zqK BK754.out) hb); replace HB := Aside0.mk (below_step zq26 hb); (try clear hb); (try clear hb2); (try clear hk); (try clear hi); have hcz20_0 := bz BK754.out 0 (.int .i64 a0_0); have hcz20_1 := bz BK754.out 1 (.int .i64 a0_1); have hcz20_2 := bz BK754.out 2 (.slice A0_2 l0_2.length c0_2); have hfz20_0 := blk_frozen BK754.out 0; have hfz20_1 := blk_frozen BK754.out 1; have hfz20_2 := blk_frozen BK754.out 2) | (go_at_call 48; (with_reducible refine (impl_hasCell.calls a0_0 a0_1 _ _ l0_2 a1 a2 false _ ?side1 ?side2 A6.out).mono ?_); (case side1 => exact zqC (Kd.C_below HR0_2.out HB.out)); (case side2 => exact HC0_2.out); rintro e w21 ⟨rfl, hb⟩; replace BK754 := Aside0.mk (blk_below (g := gb754) (o := .cells #[.int .i64 a0_0, .int .i64 a0_1, .slice A0_2 l0_2.length c0_2] 29 (0, 0)) (zqK BK754.out) hb); replace HB := Aside0.mk (below_step zq26 hb); (try clear hb); (try clear hb2); (try clear hk); (try clear hi)))
  go_ret2
  exact ⟨zqE, zq26⟩
 subst c7
 have H1 : (if 0 ≤ (wrap64 ((wrap64 (a2 * a0_0)) + a1)) then (if (wrap64 ((wrap64 (a2 * a0_0)) + a1)) < (l0_2.length : Int) then (some (rd l0_2 (wrap64 ((wrap64 (a2 * a0_0)) + a1)), true)) else (none)) else (none)) = some (r1, r2) := by rw [if_pos rfl] at H; exact H
 clear H
 have H := H1
 clear H1
 obtain ⟨ji8, hji8⟩ : ∃ j_ : Int, (wrap64 ((wrap64 (a2 * a0_0)) + a1)) = j_ := ⟨_, rfl⟩
 replace H : (if 0 ≤ (ji8) then (if (ji8) < (l0_2.length : Int) then (some (rd l0_2 (ji8), true)) else (none)) else (none)) = some (r1, r2) := by first | (rw [hji8] at H; exact H) | (simp only [hji8] at H ⊢; exact H)
 (try rw [hji8] at A4)
 (try rw [hji8] at A6)
 have hji8w : (IntKind.i64.wrap ((wrap64 (a2 * a0_0)) + a1)) = ji8 := (i64_w _).trans hji8
 by_cases c9 : 0 ≤ (ji8)
 case neg =>
  rw [if_neg c9] at H
  exact absurd H (by simp)
 rw [if_pos c9] at H
 have c9b0 : decide (0 ≤ (ji8)) = true := decide_eq_true c9
 clear c9
 by_cases c10 : (ji8) < (l0_2.length : Int)
 case neg =>
  rw [if_neg c10] at H
  exact absurd H (by simp)
 rw [if_pos c10] at H
 have c10b0 : decide ((ji8) < (l0_2.length : Int)) = true := decide_eq_true c10
 clear c10
 simp only [Option.some.injEq, Prod.mk.injEq] at H
 obtain ⟨rfl, rfl⟩ := H
 go_enter Try.func22, Try.ntmps22
 go_wp2_with (first | ((with_reducible refine gate_dst (N := 3) rfl ?_); refine box_event ?hg (N := 3) ?hd (cs := #[.int .i64 a0_0, .int .i64 a0_1, .slice A0_2 l0_2.length c0_2]) (t := 29) ?hr ?_; (case hd => rfl); (case hg => rfl); (case hr => exact zqS); intro gb754 hg w11 hbox hb; have BK754 := Aside0.mk (hbox); have GW754 := Aside0.mk ((by rw [hg]; exact (below_size zq0) : w.heap.size ≤ gb754)); replace HB := Aside0.mk (below_step zq0 hb); have GE754 := GW754; clear hb hbox hg; have hcz12_0 := bz BK754.out 0 (.int .i64 a0_0); have hcz12_1 := bz BK754.out 1 (.int .i64 a0_1); have hcz12_2 := bz BK754.out 2 (.slice A0_2 l0_2.length c0_2); have hfz12_0 := blk_frozen BK754.out 0; have hfz12_1 := blk_frozen BK754.out 1; have hfz12_2 := blk_frozen BK754.out 2) | ((with_reducible refine gate_callee (f := 30) rfl ?_); refine goesL_ (some 9) rfl rfl Try.func30 (by kernel_rfl) rfl #[.agg #[.int .i64 a0_0, .int .i64 a0_1, .slice A0_2 l0_2.length c0_2]] rfl zq1 ?_; (with_reducible refine (impl_IsValidField.calls a0_0 a0_1 _ _ l0_2 true _ ?side1 ?side2 A4.out).mono ?_); (case side1 => exact zqC (Kd.C_below HR0_2.out HB.out)); (case side2 => exact HC0_2.out); rintro e w13 ⟨rfl, hb⟩; refine ⟨_, rfl, ?_⟩; replace BK754 := Aside0.mk (blk_below (g := gb754) (o := .cells #[.int .i64 a0_0, .int .i64 a0_1, .slice A0_2 l0_2.length c0_2] 29 (0, 0)) (zqK BK754.out) hb); replace HB := Aside0.mk (below_step zq26 hb); (try clear hb); (try clear hb2); (try clear hk); (try clear hi); have hcz14_0 := bz BK754.out 0 (.int .i64 a0_0); have hcz14_1 := bz BK754.out 1 (.int .i64 a0_1); have hcz14_2 := bz BK754.out 2 (.slice A0_2 l0_2.length c0_2); have hfz14_0 := blk_frozen BK754.out 0; have hfz14_1 := blk_frozen BK754.out 1; have hfz14_2 := blk_frozen BK754.out 2) | (go_at_call 48; (with_reducible refine (impl_hasCell.calls a0_0 a0_1 _ _ l0_2 a1 a2 true _ ?side1 ?side2 A6.out).mono ?_); (case side1 => exact zqC (Kd.C_below HR0_2.out HB.out)); (case side2 => exact HC0_2.out); rintro e w15 ⟨rfl, hb⟩; replace BK754 := Aside0.mk (blk_below (g := gb754) (o := .cells #[.int .i64 a0_0, .int .i64 a0_1, .slice A0_2 l0_2.length c0_2] 29 (0, 0)) (zqK BK754.out) hb); replace HB := Aside0.mk (below_step zq26 hb); (try clear hb); (try clear hb2); (try clear hk); (try clear hi); have hcz16_0 := bz BK754.out 0 (.int .i64 a0_0); have hcz16_1 := bz BK754.out 1 (.int .i64 a0_1); have hcz16_2 := bz BK754.out 2 (.slice A0_2 l0_2.length c0_2); have hfz16_0 := blk_frozen BK754.out 0; have hfz16_1 := blk_frozen BK754.out 1; have hfz16_2 := blk_frozen BK754.out 2; have p757 : 0 ≤ ((ji8) : Int) := of_decide_eq_true zq2; have q757 : (ji8) < (l0_2.length : Int) := of_decide_eq_true zq2; obtain ⟨ad757, e757, hx757_0⟩ := Kd.at_int HR0_2.out (ji8) p757 q757; cases e757; replace hx757_0 := bx HB.out hx757_0; replace p757 := eq_true p757; replace q757 := eq_true q757))
 go_ret2
 exact ⟨by first | rfl | (simp [errW_none, errW_some] <;> rfl) | (simp only [← hji8]; first | rfl | (simp [errW_none, errW_some] <;> rfl)) | (simp [*, errW_none, errW_some] <;> rfl), zq26⟩
def impl_StormDistance.f (a0_0 : Int) (a0_1 : Int) (a0_2 : Int) (a0_3 : Int) (a1_0 : Int) (a1_1 : Int) (a1_2 : Int) (a1_3 : Int) : Option (Int × Bool) := (impl_areStorms.f (([(⟨a0_0, a0_1, a0_2, a0_3⟩ : S49), (⟨a1_0, a1_1, a1_2, a1_3⟩ : S49)] : List (S49)))).bind fun t763 => (if t763 = true then ((impl_stormDistance.f a0_0 a0_1 a0_2 a0_3 a1_0 a1_1 a1_2 a1_3).bind fun t764 => (some (t764, true))) else (some (0, false)))
set_option maxHeartbeats 8000000 in
set_option maxRecDepth 100000 in
theorem impl_StormDistance.calls (a0_0 : Int) (a0_1 : Int) (a0_2 : Int) (a0_3 : Int) (a1_0 : Int) (a1_1 : Int) (a1_2 : Int) (a1_3 : Int) (r1 : Int) (r2 : Bool) (w : World) (h : impl_StormDistance.f a0_0 a0_1 a0_2 a0_3 a1_0 a1_1 a1_2 a1_3 = some (r1, r2)) :
  Calls Try.prog 23 #[.agg #[.int .i64 a0_0, .int .i64 a0_1, .int .i64 a0_2, .int .i64 a0_3], .agg #[.int .i64 a1_0, .int .i64 a1_1, .int .i64 a1_2, .int .i64 a1_3]] w fun e w' => e = .returned (.tuple #[.int .i64 r1, .bool r2]) ∧ Below w.heap.size w w' := by
 have hu49 := Try.underlying49
 have HB := Aside0.mk (Below.refl w.heap.size w)
 have H : ((impl_areStorms.f (([(⟨a0_0, a0_1, a0_2, a0_3⟩ : S49), (⟨a1_0, a1_1, a1_2, a1_3⟩ : S49)] : List (S49)))).bind fun t763 => (if t763 = true then ((impl_stormDistance.f a0_0 a0_1 a0_2 a0_3 a1_0 a1_1 a1_2 a1_3).bind fun t764 => (some (t764, true))) else (some (0, false)))) = some (r1, r2) := h
 clear h
 obtain ⟨y760, hy760⟩ : ∃ y_ : List (S49), y_ = (([(⟨a0_0, a0_1, a0_2, a0_3⟩ : S49), (⟨a1_0, a1_1, a1_2, a1_3⟩ : S49)] : List (S49))) := ⟨_, rfl⟩
 replace H : ((impl_areStorms.f y760).bind fun t763 => (if t763 = true then ((impl_stormDistance.f a0_0 a0_1 a0_2 a0_3 a1_0 a1_1 a1_2 a1_3).bind fun t764 => (some (t764, true))) else (some (0, false)))) = some (r1, r2) := zqH hy760 H
 have Ny760 := Aside0.mk hy760
 clear hy760
 replace H := Option.bind_eq_some_iff.mp H
 obtain ⟨t763, A30, H⟩ := H
 replace H : (if t763 = true then ((impl_stormDistance.f a0_0 a0_1 a0_2 a0_3 a1_0 a1_1 a1_2 a1_3).bind fun t764 => (some (t764, true))) else (some (0, false))) = some (r1, r2) := H
 have A3 := Aside0.mk A30
 clear A30
 by_cases c4 : t763 = true
 case neg =>
  replace c4 := Bool.eq_false_iff.mpr c4
  subst c4
  have H1 : (some (0, false)) = some (r1, r2) := by rw [if_neg (show ¬ (false = true) by decide)] at H; exact H
  clear H
  have H := H1
  clear H1
  simp only [Option.some.injEq, Prod.mk.injEq] at H
  obtain ⟨rfl, rfl⟩ := H
  go_enter Try.func23, Try.ntmps23
  go_wp2_with (first | ((with_reducible refine gate_dst (N := 2) rfl ?_); refine box_event ?hg (N := 2) ?hd (cs := #[.int .i64 a0_0, .int .i64 a0_1, .int .i64 a0_2, .int .i64 a0_3]) (t := 49) ?hr ?_; (case hd => rfl); (case hg => rfl); (case hr => exact zqS); intro gb758 hg w18 hbox hb; have BK758 := Aside0.mk (hbox); have GW758 := Aside0.mk ((by rw [hg]; exact (below_size zq0) : w.heap.size ≤ gb758)); replace HB := Aside0.mk (below_step zq0 hb); have GE758 := GW758; clear hb hbox hg) | ((with_reducible refine gate_dst (N := 3) rfl ?_); refine box_event ?hg (N := 3) ?hd (cs := #[.int .i64 a1_0, .int .i64 a1_1, .int .i64 a1_2, .int .i64 a1_3]) (t := 49) ?hr ?_; (case hd => rfl); (case hg => rfl); (case hr => exact zqS); intro gb759 hg w19 hbox hb; have BK759 := Aside0.mk (hbox); have GW759 := Aside0.mk ((by rw [hg]; exact (below_size zq30) : w.heap.size ≤ gb759)); replace HB := Aside0.mk (below_step zq30 hb); have GE759 := GW759; have NB758_759 := Aside0.mk ((by rw [hg]; exact Nat.ne_of_lt (blk_lt (g := gb758) (o := .cells #[.int .i64 a0_0, .int .i64 a0_1, .int .i64 a0_2, .int .i64 a0_3] 49 (0, 0)) (zqK BK758.out)) : gb758 ≠ gb759)); have NB759_758 := Aside0.mk ((by rw [hg]; exact Nat.ne_of_gt (blk_lt (g := gb758) (o := .cells #[.int .i64 a0_0, .int .i64 a0_1, .int .i64 a0_2, .int .i64 a0_3] 49 (0, 0)) (zqK BK758.out)) : gb759 ≠ gb758)); replace BK758 := Aside0.mk (blk_below (g := gb758) (o := .cells #[.int .i64 a0_0, .int .i64 a0_1, .int .i64 a0_2, .int .i64 a0_3] 49 (0, 0)) (zqK BK758.out) hb); clear hb hbox hg; have hnb20 := NB758_759.out; have hnc20 := NB759_758.out; have hcz21_0 := bz BK758.out 0 (.int .i64 a0_0); have hcz21_1 := bz BK758.out 1 (.int .i64 a0_1); have hcz21_2 := bz BK758.out 2 (.int .i64 a0_2); have hcz21_3 := bz BK758.out 3 (.int .i64 a0_3); have hfz21_0 := blk_frozen BK758.out 0; have hfz21_1 := blk_frozen BK758.out 1; have hfz21_2 := blk_frozen BK758.out 2; have hfz21_3 := blk_frozen BK758.out 3; have hcz22_0 := bz BK759.out 0 (.int .i64 a1_0); have hcz22_1 := bz BK759.out 1 (.int .i64 a1_1); have hcz22_2 := bz BK759.out 2 (.int .i64 a1_2); have hcz22_3 := bz BK759.out 3 (.int .i64 a1_3); have hfz22_0 := blk_frozen BK759.out 0; have hfz22_1 := blk_frozen BK759.out 1; have hfz22_2 := blk_frozen BK759.out 2; have hfz22_3 := blk_frozen BK759.out 3) | ((with_reducible refine gate_dst (N := 8) rfl ?_); refine Kd.R_lit k49 _ 49 ?hg (N := 8) ?hd (xs := ([(⟨a0_0, a0_1, a0_2, a0_3⟩ : S49), (⟨a1_0, a1_1, a1_2, a1_3⟩ : S49)] : List (S49))) (inner := [.int .i64 a0_0, .int .i64 a0_1, .int .i64 a0_2, .int .i64 a0_3, .int .i64 a1_0, .int .i64 a1_1, .int .i64 a1_2, .int .i64 a1_3]) (ok := fun _ => True) (okp := fun _ => True) ?hr ?hp (fun _ hk => hk) trivial (Below.refl _ _) (Nat.le_refl _) (by simp) ?_; (case hd => rfl); (case hg => rfl); (case hr => exact zqS); (case hp => exact (Reps.c4 (show Kd.M k49 _ _ _ (⟨a0_0, a0_1, a0_2, a0_3⟩ : S49) [.int .i64 a0_0, .int .i64 a0_1, .int .i64 a0_2, .int .i64 a0_3] from (k49_mkM _ _ _ (⟨a0_0, a0_1, a0_2, a0_3⟩ : S49) )) (Reps.c4 (show Kd.M k49 _ _ _ (⟨a1_0, a1_1, a1_2, a1_3⟩ : S49) [.int .i64 a1_0, .int .i64 a1_1, .int .i64 a1_2, .int .i64 a1_3] from (k49_mkM _ _ _ (⟨a1_0, a1_1, a1_2, a1_3⟩ : S49) )) (Reps.none _ _)))); intro v761 w23 ho24 hb hg_ hnew_; clear hg_ hnew_; (first | rw [← Ny760.out] at ho24 | (simp only [Int.reduceToNat] at ho24; rw [← Ny760.out] at ho24)); have HO762 := Aside0.mk (Kd.R_lower (Kd.R_newB (Kd.R_newB ho24 (g := gb758) (o := .cells #[.int .i64 a0_0, .int .i64 a0_1, .int .i64 a0_2, .int .i64 a0_3] 49 (0, 0)) (zqK BK758.out)) (g := gb759) (o := .cells #[.int .i64 a1_0, .int .i64 a1_1, .int .i64 a1_2, .int .i64 a1_3] 49 (0, 0)) (zqK BK759.out)) (below_size zq22)); replace BK758 := Aside0.mk (blk_below (g := gb758) (o := .cells #[.int .i64 a0_0, .int .i64 a0_1, .int .i64 a0_2, .int .i64 a0_3] 49 (0, 0)) (zqK BK758.out) hb); replace BK759 := Aside0.mk (blk_below (g := gb759) (o := .cells #[.int .i64 a1_0, .int .i64 a1_1, .int .i64 a1_2, .int .i64 a1_3] 49 (0, 0)) (zqK BK759.out) hb); replace HB := Aside0.mk (below_step zq22 hb); clear hb ho24; obtain ⟨Ao25, co25, eo25⟩ := Kd.R_slice HO762.out; subst eo25) | ((with_reducible refine gate_callee (f := 49) rfl ?_); refine goesL_ (some 9) rfl rfl Try.func49 (by kernel_rfl) rfl #[.slice Ao25 y760.length co25] rfl zq1 ?_; (with_reducible refine (impl_areStorms.calls _ _ y760 false _ ?side1 ?side2 A3.out).mono ?_); (case side1 => exact zqC (Kd.R_reads' HO762.out).2.2); (case side2 => exact (Kd.R_reads' HO762.out).2.1); rintro e w26 ⟨rfl, hb⟩; refine ⟨_, rfl, ?_⟩; replace HO762 := Aside0.mk (Kd.R_below (zqR HO762.out) hb); replace BK758 := Aside0.mk (blk_below (g := gb758) (o := .cells #[.int .i64 a0_0, .int .i64 a0_1, .int .i64 a0_2, .int .i64 a0_3] 49 (0, 0)) (zqK BK758.out) hb); replace BK759 := Aside0.mk (blk_below (g := gb759) (o := .cells #[.int .i64 a1_0, .int .i64 a1_1, .int .i64 a1_2, .int .i64 a1_3] 49 (0, 0)) (zqK BK759.out) hb); replace HB := Aside0.mk (below_step zq22 hb); (try clear hb); (try clear hb2); (try clear hk); (try clear hi)))
  go_ret2
  exact ⟨zqE, zq22⟩
 subst c4
 have H1 : ((impl_stormDistance.f a0_0 a0_1 a0_2 a0_3 a1_0 a1_1 a1_2 a1_3).bind fun t764 => (some (t764, true))) = some (r1, r2) := by rw [if_pos rfl] at H; exact H
 clear H
 have H := H1
 clear H1
 replace H := Option.bind_eq_some_iff.mp H
 obtain ⟨t764, A50, H⟩ := H
 replace H : (some (t764, true)) = some (r1, r2) := H
 have A5 := Aside0.mk A50
 clear A50
 simp only [Option.some.injEq, Prod.mk.injEq] at H
 obtain ⟨rfl, rfl⟩ := H
 go_enter Try.func23, Try.ntmps23
 go_wp2_with (first | ((with_reducible refine gate_dst (N := 2) rfl ?_); refine box_event ?hg (N := 2) ?hd (cs := #[.int .i64 a0_0, .int .i64 a0_1, .int .i64 a0_2, .int .i64 a0_3]) (t := 49) ?hr ?_; (case hd => rfl); (case hg => rfl); (case hr => exact zqS); intro gb758 hg w6 hbox hb; have BK758 := Aside0.mk (hbox); have GW758 := Aside0.mk ((by rw [hg]; exact (below_size zq0) : w.heap.size ≤ gb758)); replace HB := Aside0.mk (below_step zq0 hb); have GE758 := GW758; clear hb hbox hg) | ((with_reducible refine gate_dst (N := 3) rfl ?_); refine box_event ?hg (N := 3) ?hd (cs := #[.int .i64 a1_0, .int .i64 a1_1, .int .i64 a1_2, .int .i64 a1_3]) (t := 49) ?hr ?_; (case hd => rfl); (case hg => rfl); (case hr => exact zqS); intro gb759 hg w7 hbox hb; have BK759 := Aside0.mk (hbox); have GW759 := Aside0.mk ((by rw [hg]; exact (below_size zq30) : w.heap.size ≤ gb759)); replace HB := Aside0.mk (below_step zq30 hb); have GE759 := GW759; have NB758_759 := Aside0.mk ((by rw [hg]; exact Nat.ne_of_lt (blk_lt (g := gb758) (o := .cells #[.int .i64 a0_0, .int .i64 a0_1, .int .i64 a0_2, .int .i64 a0_3] 49 (0, 0)) (zqK BK758.out)) : gb758 ≠ gb759)); have NB759_758 := Aside0.mk ((by rw [hg]; exact Nat.ne_of_gt (blk_lt (g := gb758) (o := .cells #[.int .i64 a0_0, .int .i64 a0_1, .int .i64 a0_2, .int .i64 a0_3] 49 (0, 0)) (zqK BK758.out)) : gb759 ≠ gb758)); replace BK758 := Aside0.mk (blk_below (g := gb758) (o := .cells #[.int .i64 a0_0, .int .i64 a0_1, .int .i64 a0_2, .int .i64 a0_3] 49 (0, 0)) (zqK BK758.out) hb); clear hb hbox hg; have hnb8 := NB758_759.out; have hnc8 := NB759_758.out; have hcz9_0 := bz BK758.out 0 (.int .i64 a0_0); have hcz9_1 := bz BK758.out 1 (.int .i64 a0_1); have hcz9_2 := bz BK758.out 2 (.int .i64 a0_2); have hcz9_3 := bz BK758.out 3 (.int .i64 a0_3); have hfz9_0 := blk_frozen BK758.out 0; have hfz9_1 := blk_frozen BK758.out 1; have hfz9_2 := blk_frozen BK758.out 2; have hfz9_3 := blk_frozen BK758.out 3; have hcz10_0 := bz BK759.out 0 (.int .i64 a1_0); have hcz10_1 := bz BK759.out 1 (.int .i64 a1_1); have hcz10_2 := bz BK759.out 2 (.int .i64 a1_2); have hcz10_3 := bz BK759.out 3 (.int .i64 a1_3); have hfz10_0 := blk_frozen BK759.out 0; have hfz10_1 := blk_frozen BK759.out 1; have hfz10_2 := blk_frozen BK759.out 2; have hfz10_3 := blk_frozen BK759.out 3) | ((with_reducible refine gate_dst (N := 8) rfl ?_); refine Kd.R_lit k49 _ 49 ?hg (N := 8) ?hd (xs := ([(⟨a0_0, a0_1, a0_2, a0_3⟩ : S49), (⟨a1_0, a1_1, a1_2, a1_3⟩ : S49)] : List (S49))) (inner := [.int .i64 a0_0, .int .i64 a0_1, .int .i64 a0_2, .int .i64 a0_3, .int .i64 a1_0, .int .i64 a1_1, .int .i64 a1_2, .int .i64 a1_3]) (ok := fun _ => True) (okp := fun _ => True) ?hr ?hp (fun _ hk => hk) trivial (Below.refl _ _) (Nat.le_refl _) (by simp) ?_; (case hd => rfl); (case hg => rfl); (case hr => exact zqS); (case hp => exact (Reps.c4 (show Kd.M k49 _ _ _ (⟨a0_0, a0_1, a0_2, a0_3⟩ : S49) [.int .i64 a0_0, .int .i64 a0_1, .int .i64 a0_2, .int .i64 a0_3] from (k49_mkM _ _ _ (⟨a0_0, a0_1, a0_2, a0_3⟩ : S49) )) (Reps.c4 (show Kd.M k49 _ _ _ (⟨a1_0, a1_1, a1_2, a1_3⟩ : S49) [.int .i64 a1_0, .int .i64 a1_1, .int .i64 a1_2, .int .i64 a1_3] from (k49_mkM _ _ _ (⟨a1_0, a1_1, a1_2, a1_3⟩ : S49) )) (Reps.none _ _)))); intro v761 w11 ho12 hb hg_ hnew_; clear hg_ hnew_; (first | rw [← Ny760.out] at ho12 | (simp only [Int.reduceToNat] at ho12; rw [← Ny760.out] at ho12)); have HO762 := Aside0.mk (Kd.R_lower (Kd.R_newB (Kd.R_newB ho12 (g := gb758) (o := .cells #[.int .i64 a0_0, .int .i64 a0_1, .int .i64 a0_2, .int .i64 a0_3] 49 (0, 0)) (zqK BK758.out)) (g := gb759) (o := .cells #[.int .i64 a1_0, .int .i64 a1_1, .int .i64 a1_2, .int .i64 a1_3] 49 (0, 0)) (zqK BK759.out)) (below_size zq22)); replace BK758 := Aside0.mk (blk_below (g := gb758) (o := .cells #[.int .i64 a0_0, .int .i64 a0_1, .int .i64 a0_2, .int .i64 a0_3] 49 (0, 0)) (zqK BK758.out) hb); replace BK759 := Aside0.mk (blk_below (g := gb759) (o := .cells #[.int .i64 a1_0, .int .i64 a1_1, .int .i64 a1_2, .int .i64 a1_3] 49 (0, 0)) (zqK BK759.out) hb); replace HB := Aside0.mk (below_step zq22 hb); clear hb ho12; obtain ⟨Ao13, co13, eo13⟩ := Kd.R_slice HO762.out; subst eo13) | ((with_reducible refine gate_callee (f := 49) rfl ?_); refine goesL_ (some 9) rfl rfl Try.func49 (by kernel_rfl) rfl #[.slice Ao13 y760.length co13] rfl zq1 ?_; (with_reducible refine (impl_areStorms.calls _ _ y760 true _ ?side1 ?side2 A3.out).mono ?_); (case side1 => exact zqC (Kd.R_reads' HO762.out).2.2); (case side2 => exact (Kd.R_reads' HO762.out).2.1); rintro e w14 ⟨rfl, hb⟩; refine ⟨_, rfl, ?_⟩; replace HO762 := Aside0.mk (Kd.R_below (zqR HO762.out) hb); replace BK758 := Aside0.mk (blk_below (g := gb758) (o := .cells #[.int .i64 a0_0, .int .i64 a0_1, .int .i64 a0_2, .int .i64 a0_3] 49 (0, 0)) (zqK BK758.out) hb); replace BK759 := Aside0.mk (blk_below (g := gb759) (o := .cells #[.int .i64 a1_0, .int .i64 a1_1, .int .i64 a1_2, .int .i64 a1_3] 49 (0, 0)) (zqK BK759.out) hb); replace HB := Aside0.mk (below_step zq22 hb); (try clear hb); (try clear hb2); (try clear hk); (try clear hi); have hcz15_0 := bz BK758.out 0 (.int .i64 a0_0); have hcz15_1 := bz BK758.out 1 (.int .i64 a0_1); have hcz15_2 := bz BK758.out 2 (.int .i64 a0_2); have hcz15_3 := bz BK758.out 3 (.int .i64 a0_3); have hfz15_0 := blk_frozen BK758.out 0; have hfz15_1 := blk_frozen BK758.out 1; have hfz15_2 := blk_frozen BK758.out 2; have hfz15_3 := blk_frozen BK758.out 3; have hcz16_0 := bz BK759.out 0 (.int .i64 a1_0); have hcz16_1 := bz BK759.out 1 (.int .i64 a1_1); have hcz16_2 := bz BK759.out 2 (.int .i64 a1_2); have hcz16_3 := bz BK759.out 3 (.int .i64 a1_3); have hfz16_0 := blk_frozen BK759.out 0; have hfz16_1 := blk_frozen BK759.out 1; have hfz16_2 := blk_frozen BK759.out 2; have hfz16_3 := blk_frozen BK759.out 3) | ((with_reducible refine gate_callee (f := 50) rfl ?_); refine goesL_ (some 13) rfl rfl Try.func50 (by kernel_rfl) rfl #[.agg #[.int .i64 a0_0, .int .i64 a0_1, .int .i64 a0_2, .int .i64 a0_3], .agg #[.int .i64 a1_0, .int .i64 a1_1, .int .i64 a1_2, .int .i64 a1_3]] rfl zq1 ?_; (with_reducible refine (impl_stormDistance.calls a0_0 a0_1 a0_2 a0_3 a1_0 a1_1 a1_2 a1_3 t764 _ A5.out).mono ?_); rintro e w17 ⟨rfl, hb⟩; refine ⟨_, rfl, ?_⟩; replace HO762 := Aside0.mk (Kd.R_below (zqR HO762.out) hb); replace BK758 := Aside0.mk (blk_below (g := gb758) (o := .cells #[.int .i64 a0_0, .int .i64 a0_1, .int .i64 a0_2, .int .i64 a0_3] 49 (0, 0)) (zqK BK758.out) hb); replace BK759 := Aside0.mk (blk_below (g := gb759) (o := .cells #[.int .i64 a1_0, .int .i64 a1_1, .int .i64 a1_2, .int .i64 a1_3] 49 (0, 0)) (zqK BK759.out) hb); replace HB := Aside0.mk (below_step zq22 hb); (try clear hb); (try clear hb2); (try clear hk); (try clear hi)))
 go_ret2
 exact ⟨zqE, zq22⟩
end Go.Proofs.Ytpdeapefekbdpaa.Q
