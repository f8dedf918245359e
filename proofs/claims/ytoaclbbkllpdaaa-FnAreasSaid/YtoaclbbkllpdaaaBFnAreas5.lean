/- Texts of this seat, put together: Qf44, Qf27, Qf10, Qf11, Qf12, Qf13. -/
import Derived.Test.YtoaclbbkllpdaaaZFnAreas
import Derived.Test.YtoaclbbkllpdaaaBFnAreas0
import Derived.Test.YtoaclbbkllpdaaaBFnAreas2
import Derived.Test.YtoaclbbkllpdaaaBFnAreas3
import Derived.Test.YtoaclbbkllpdaaaBFnAreas4
namespace Go.Proofs.Ytoaclbbkllpdaaa.Q
open Go.RowKit Go.Proofs.YtoaclbbkllpdaaaW.PrintWords Go.Proofs.YtoaclbbkllpdaaaW.PrintLast Go.Proofs.YtoaclbbkllpdaaaW.PrintMore
attribute [local go_sem] max2_int min2_int max_two min_two max_three min_three max_four min_four   -- for this text's walks alone
set_option linter.unusedVariables false
set_option linter.unusedSimpArgs false

/-! ### spec_l13At: function 44 -/
def spec_l13At.f (a0_0 : Int) (a0_1 : Int) (l0_2 : List Int) (a1 : Int) (a2 : Int) : Option (Int) := (spec_l1In.f a1 0 (wrap64 (a0_0 - 1))).bind fun t296 => (if t296 = true then ((spec_l1In.f a2 0 (wrap64 (a0_1 - 1))).bind fun t297 => (if t297 = true then (if 0 ≤ (wrap64 ((wrap64 (a0_0 * a2)) + a1)) then (if (wrap64 ((wrap64 (a0_0 * a2)) + a1)) < (l0_2.length : Int) then (some (rd l0_2 (wrap64 ((wrap64 (a0_0 * a2)) + a1)))) else (none)) else (none)) else (some 0))) else (some 0))
set_option maxHeartbeats 8000000 in
set_option maxRecDepth 100000 in
theorem spec_l13At.calls (a0_0 : Int) (a0_1 : Int) (A0_2 : Option Addr) (c0_2 : Nat) (l0_2 : List Int) (a1 : Int) (a2 : Int) (r : Int) (w : World) (hr0_2 : Kd.C (Kd.int .i64) w A0_2 l0_2.length l0_2) (hc0_2 : l0_2.length ≤ c0_2) (h : spec_l13At.f a0_0 a0_1 l0_2 a1 a2 = some r) :
  Calls Try.prog 44 #[.agg #[.int .i64 a0_0, .int .i64 a0_1, .slice A0_2 l0_2.length c0_2], .int .i64 a1, .int .i64 a2] w fun e w' => e = .returned (.int .i64 r) ∧ Below w.heap.size w w' := by
 have hu26 := Try.underlying26
 have HR0_2 := Aside0.mk hr0_2
 have HC0_2 := Aside0.mk hc0_2
 clear hr0_2 hc0_2
 have HB := Aside0.mk (Below.refl w.heap.size w)
 have H : ((spec_l1In.f a1 0 (wrap64 (a0_0 - 1))).bind fun t296 => (if t296 = true then ((spec_l1In.f a2 0 (wrap64 (a0_1 - 1))).bind fun t297 => (if t297 = true then (if 0 ≤ (wrap64 ((wrap64 (a0_0 * a2)) + a1)) then (if (wrap64 ((wrap64 (a0_0 * a2)) + a1)) < (l0_2.length : Int) then (some (rd l0_2 (wrap64 ((wrap64 (a0_0 * a2)) + a1)))) else (none)) else (none)) else (some 0))) else (some 0))) = some r := h
 clear h
 replace H := Option.bind_eq_some_iff.mp H
 obtain ⟨t296, A40, H⟩ := H
 replace H : (if t296 = true then ((spec_l1In.f a2 0 (wrap64 (a0_1 - 1))).bind fun t297 => (if t297 = true then (if 0 ≤ (wrap64 ((wrap64 (a0_0 * a2)) + a1)) then (if (wrap64 ((wrap64 (a0_0 * a2)) + a1)) < (l0_2.length : Int) then (some (rd l0_2 (wrap64 ((wrap64 (a0_0 * a2)) + a1)))) else (none)) else (none)) else (some 0))) else (some 0)) = some r := H
 have A4 := Aside0.mk A40
 clear A40
 by_cases c5 : t296 = true
 case neg =>
  replace c5 := Bool.eq_false_iff.mpr c5
  subst c5
  have H1 : (some 0) = some r := by rw [if_neg (show ¬ (false = true) by decide)] at H; exact H
  clear H
  have H := H1
  clear H1
  obtain rfl := Option.some.inj H
  go_enter Try.func44, Try.ntmps44
  go_wp2_with (first | ((with_reducible refine gate_dst (N := 3) rfl ?_); refine box_event ?hg (N := 3) ?hd (cs := #[.int .i64 a0_0, .int .i64 a0_1, .slice A0_2 l0_2.length c0_2]) (t := 26) ?hr ?_; (case hd => rfl); (case hg => rfl); (case hr => exact zqS); intro gb295 hg w15 hbox hb; have BK295 := Aside0.mk (hbox); have GW295 := Aside0.mk ((by rw [hg]; exact (below_size zq0) : w.heap.size ≤ gb295)); replace HB := Aside0.mk (below_step zq0 hb); have GE295 := GW295; clear hb hbox hg; have hcz16_0 := bz BK295.out 0 (.int .i64 a0_0); have hcz16_1 := bz BK295.out 1 (.int .i64 a0_1); have hcz16_2 := bz BK295.out 2 (.slice A0_2 l0_2.length c0_2); have hfz16_0 := blk_frozen BK295.out 0; have hfz16_1 := blk_frozen BK295.out 1; have hfz16_2 := blk_frozen BK295.out 2) | ((with_reducible refine gate_callee (f := 49) rfl ?_); refine goesL_ (some 11) rfl rfl Try.func49 (by kernel_rfl) rfl #[.int .i64 a1, .int .i64 0, .int .i64 (wrap64 (a0_0 - 1))] rfl zq1 ?_; (with_reducible refine (spec_l1In.calls a1 0 (wrap64 (a0_0 - 1)) false _ A4.out).mono ?_); rintro e w' ⟨rfl, ⟨nd, rfl⟩⟩; refine ⟨_, rfl, ?_⟩))
  go_ret
  exact ⟨zqE, zq49⟩
 subst c5
 have H1 : ((spec_l1In.f a2 0 (wrap64 (a0_1 - 1))).bind fun t297 => (if t297 = true then (if 0 ≤ (wrap64 ((wrap64 (a0_0 * a2)) + a1)) then (if (wrap64 ((wrap64 (a0_0 * a2)) + a1)) < (l0_2.length : Int) then (some (rd l0_2 (wrap64 ((wrap64 (a0_0 * a2)) + a1)))) else (none)) else (none)) else (some 0))) = some r := by rw [if_pos rfl] at H; exact H
 clear H
 have H := H1
 clear H1
 replace H := Option.bind_eq_some_iff.mp H
 obtain ⟨t297, A60, H⟩ := H
 replace H : (if t297 = true then (if 0 ≤ (wrap64 ((wrap64 (a0_0 * a2)) + a1)) then (if (wrap64 ((wrap64 (a0_0 * a2)) + a1)) < (l0_2.length : Int) then (some (rd l0_2 (wrap64 ((wrap64 (a0_0 * a2)) + a1)))) else (none)) else (none)) else (some 0)) = some r := H
 have A6 := Aside0.mk A60
 clear A60
 by_cases c7 : t297 = true
 case neg =>
  replace c7 := Bool.eq_false_iff.mpr c7
  subst c7
  have H1 : (some 0) = some r := by rw [if_neg (show ¬ (false = true) by decide)] at H; exact H
  clear H
  have H := H1
  clear H1
  obtain rfl := Option.some.inj H
  go_enter Try.func44, Try.ntmps44
  go_wp2_with (first | ((with_reducible refine gate_dst (N := 3) rfl ?_); refine box_event ?hg (N := 3) ?hd (cs := #[.int .i64 a0_0, .int .i64 a0_1, .slice A0_2 l0_2.length c0_2]) (t := 26) ?hr ?_; (case hd => rfl); (case hg => rfl); (case hr => exact zqS); intro gb295 hg w13 hbox hb; have BK295 := Aside0.mk (hbox); have GW295 := Aside0.mk ((by rw [hg]; exact (below_size zq0) : w.heap.size ≤ gb295)); replace HB := Aside0.mk (below_step zq0 hb); have GE295 := GW295; clear hb hbox hg; have hcz14_0 := bz BK295.out 0 (.int .i64 a0_0); have hcz14_1 := bz BK295.out 1 (.int .i64 a0_1); have hcz14_2 := bz BK295.out 2 (.slice A0_2 l0_2.length c0_2); have hfz14_0 := blk_frozen BK295.out 0; have hfz14_1 := blk_frozen BK295.out 1; have hfz14_2 := blk_frozen BK295.out 2) | ((with_reducible refine gate_callee (f := 49) rfl ?_); refine goesL_ (some 11) rfl rfl Try.func49 (by kernel_rfl) rfl #[.int .i64 a1, .int .i64 0, .int .i64 (wrap64 (a0_0 - 1))] rfl zq1 ?_; (with_reducible refine (spec_l1In.calls a1 0 (wrap64 (a0_0 - 1)) true _ A4.out).mono ?_); rintro e w' ⟨rfl, ⟨nd, rfl⟩⟩; refine ⟨_, rfl, ?_⟩) | (go_at_call 49; (with_reducible refine (spec_l1In.calls a2 0 (wrap64 (a0_1 - 1)) false _ A6.out).mono ?_); rintro e w' ⟨rfl, ⟨nd, rfl⟩⟩))
  go_ret
  exact ⟨zqE, zq49⟩
 subst c7
 have H1 : (if 0 ≤ (wrap64 ((wrap64 (a0_0 * a2)) + a1)) then (if (wrap64 ((wrap64 (a0_0 * a2)) + a1)) < (l0_2.length : Int) then (some (rd l0_2 (wrap64 ((wrap64 (a0_0 * a2)) + a1)))) else (none)) else (none)) = some r := by rw [if_pos rfl] at H; exact H
 clear H
 have H := H1
 clear H1
 obtain ⟨ji8, hji8⟩ : ∃ j_ : Int, (wrap64 ((wrap64 (a0_0 * a2)) + a1)) = j_ := ⟨_, rfl⟩
 replace H : (if 0 ≤ (ji8) then (if (ji8) < (l0_2.length : Int) then (some (rd l0_2 (ji8))) else (none)) else (none)) = some r := by first | (rw [hji8] at H; exact H) | (simp only [hji8] at H ⊢; exact H)
 (try rw [hji8] at A4)
 (try rw [hji8] at A6)
 have hji8w : (IntKind.i64.wrap ((wrap64 (a0_0 * a2)) + a1)) = ji8 := (i64_w _).trans hji8
 by_cases c9 : 0 ≤ (ji8)
 case neg =>
  rw [if_neg c9] at H
  exact absurd H (by simp)
 rw [if_pos c9] at H
 have c9b0 : decide (0 ≤ (ji8)) = true := decide_eq_true c9
 clear c9
 by_cases c10 : (ji8) < (l0_2.length : Int)
 case neg =>
  rw [if_neg c10] at H
  exact absurd H (by simp)
 rw [if_pos c10] at H
 have c10b0 : decide ((ji8) < (l0_2.length : Int)) = true := decide_eq_true c10
 clear c10
 obtain rfl := Option.some.inj H
 go_enter Try.func44, Try.ntmps44
 go_wp2_with (first | ((with_reducible refine gate_dst (N := 3) rfl ?_); refine box_event ?hg (N := 3) ?hd (cs := #[.int .i64 a0_0, .int .i64 a0_1, .slice A0_2 l0_2.length c0_2]) (t := 26) ?hr ?_; (case hd => rfl); (case hg => rfl); (case hr => exact zqS); intro gb295 hg w11 hbox hb; have BK295 := Aside0.mk (hbox); have GW295 := Aside0.mk ((by rw [hg]; exact (below_size zq0) : w.heap.size ≤ gb295)); replace HB := Aside0.mk (below_step zq0 hb); have GE295 := GW295; clear hb hbox hg; have hcz12_0 := bz BK295.out 0 (.int .i64 a0_0); have hcz12_1 := bz BK295.out 1 (.int .i64 a0_1); have hcz12_2 := bz BK295.out 2 (.slice A0_2 l0_2.length c0_2); have hfz12_0 := blk_frozen BK295.out 0; have hfz12_1 := blk_frozen BK295.out 1; have hfz12_2 := blk_frozen BK295.out 2) | ((with_reducible refine gate_callee (f := 49) rfl ?_); refine goesL_ (some 11) rfl rfl Try.func49 (by kernel_rfl) rfl #[.int .i64 a1, .int .i64 0, .int .i64 (wrap64 (a0_0 - 1))] rfl zq1 ?_; (with_reducible refine (spec_l1In.calls a1 0 (wrap64 (a0_0 - 1)) true _ A4.out).mono ?_); rintro e w' ⟨rfl, ⟨nd, rfl⟩⟩; refine ⟨_, rfl, ?_⟩) | (go_at_call 49; (with_reducible refine (spec_l1In.calls a2 0 (wrap64 (a0_1 - 1)) true _ A6.out).mono ?_); rintro e w' ⟨rfl, ⟨nd, rfl⟩⟩; have p298 : 0 ≤ ((ji8) : Int) := of_decide_eq_true zq10; have q298 : (ji8) < (l0_2.length : Int) := of_decide_eq_true zq10; obtain ⟨ad298, e298, hx298_0⟩ := Kd.at_int HR0_2.out (ji8) p298 q298; cases e298; replace hx298_0 := bx HB.out hx298_0; replace p298 := eq_true p298; replace q298 := eq_true q298))
 go_ret
 exact ⟨by first | rfl | (simp [errW_none, errW_some] <;> rfl) | (simp only [← hji8]; first | rfl | (simp [errW_none, errW_some] <;> rfl)) | (simp [*, errW_none, errW_some] <;> rfl), zq49⟩

/-! ### spec_l13Border: function 27 -/
mutual
def spec_l13Border.l0 : Nat → Int → Int → Int → Int → Int → Int → List Int → Option (Int)
 | 0, _, _, _, _, _, _, _ => none
 | k + 1, x1, x2, x7, x8, x300000, x300001, x300002 => if x8 < x300001 then (spec_l13Border.l1 k x1 x2 x7 x8 0 x300000 x300001 x300002) else (some x7)
def spec_l13Border.l1 : Nat → Int → Int → Int → Int → Int → Int → Int → List Int → Option (Int)
 | 0, _, _, _, _, _, _, _, _ => none
 | k + 1, x1, x2, x7, x8, x9, x300000, x300001, x300002 => if x9 < x300000 then ((spec_l13At.f x300000 x300001 x300002 x9 x8).bind fun t300 => ((spec_l13At.f x300000 x300001 x300002 (wrap64 (x9 + 1)) x8).bind fun t301 => ((spec_l13At.f x300000 x300001 x300002 x9 (wrap64 (x8 + 1))).bind fun t302 => (if t300 = x1 then (if t301 = x2 then (spec_l13Border.j2 k x1 x2 x7 x8 x9 t300 t302 true x300000 x300001 x300002) else (if t300 = x2 then (spec_l13Border.j2 k x1 x2 x7 x8 x9 t300 t302 (t301 == x1) x300000 x300001 x300002) else (spec_l13Border.j2 k x1 x2 x7 x8 x9 t300 t302 false x300000 x300001 x300002))) else (if t300 = x2 then (spec_l13Border.j2 k x1 x2 x7 x8 x9 t300 t302 (t301 == x1) x300000 x300001 x300002) else (spec_l13Border.j2 k x1 x2 x7 x8 x9 t300 t302 false x300000 x300001 x300002)))))) else (spec_l13Border.l0 k x1 x2 x7 (wrap64 (x8 + 1)) x300000 x300001 x300002)
def spec_l13Border.j2 : Nat → Int → Int → Int → Int → Int → Int → Int → Bool → Int → Int → List Int → Option (Int)
 | 0, _, _, _, _, _, _, _, _, _, _, _ => none
 | k + 1, x1, x2, x7, x8, x9, x10, x12, x56, x300000, x300001, x300002 => if x56 = true then (if x10 = x1 then (if x12 = x2 then (spec_l13Border.l1 k x1 x2 (wrap64 ((wrap64 (x7 + 1)) + 1)) x8 (wrap64 (x9 + 1)) x300000 x300001 x300002) else (if x10 = x2 then (if x12 = x1 then (spec_l13Border.l1 k x1 x2 (wrap64 ((wrap64 (x7 + 1)) + 1)) x8 (wrap64 (x9 + 1)) x300000 x300001 x300002) else (spec_l13Border.l1 k x1 x2 (wrap64 (x7 + 1)) x8 (wrap64 (x9 + 1)) x300000 x300001 x300002)) else (spec_l13Border.l1 k x1 x2 (wrap64 (x7 + 1)) x8 (wrap64 (x9 + 1)) x300000 x300001 x300002))) else (if x10 = x2 then (if x12 = x1 then (spec_l13Border.l1 k x1 x2 (wrap64 ((wrap64 (x7 + 1)) + 1)) x8 (wrap64 (x9 + 1)) x300000 x300001 x300002) else (spec_l13Border.l1 k x1 x2 (wrap64 (x7 + 1)) x8 (wrap64 (x9 + 1)) x300000 x300001 x300002)) else (spec_l13Border.l1 k x1 x2 (wrap64 (x7 + 1)) x8 (wrap64 (x9 + 1)) x300000 x300001 x300002))) else (if x10 = x1 then (if x12 = x2 then (spec_l13Border.l1 k x1 x2 (wrap64 (x7 + 1)) x8 (wrap64 (x9 + 1)) x300000 x300001 x300002) else (if x10 = x2 then (if x12 = x1 then (spec_l13Border.l1 k x1 x2 (wrap64 (x7 + 1)) x8 (wrap64 (x9 + 1)) x300000 x300001 x300002) else (spec_l13Border.l1 k x1 x2 x7 x8 (wrap64 (x9 + 1)) x300000 x300001 x300002)) else (spec_l13Border.l1 k x1 x2 x7 x8 (wrap64 (x9 + 1)) x300000 x300001 x300002))) else (if x10 = x2 then (if x12 = x1 then (spec_l13Border.l1 k x1 x2 (wrap64 (x7 + 1)) x8 (wrap64 (x9 + 1)) x300000 x300001 x300002) else (spec_l13Border.l1 k x1 x2 x7 x8 (wrap64 (x9 + 1)) x300000 x300001 x300002)) else (spec_l13Border.l1 k x1 x2 x7 x8 (wrap64 (x9 + 1)) x300000 x300001 x300002)))
end
def spec_l13Border.f (k : Nat) (a0_0 : Int) (a0_1 : Int) (l0_2 : List Int) (a1 : Int) (a2 : Int) : Option (Int) := spec_l13Border.l0 k a1 a2 0 0 a0_0 a0_1 l0_2
def spec_l13Border.T8 : Bool × List (List Nat × List Nat) := (true, [([], []), ([], []), ([], []), ([0, 1, 2], [0, 1, 2]), ([], []), ([], []), ([5], [5]), ([], []), ([4, 6, 7, 3], [4, 6, 7]), ([], []), ([], []), ([], []), ([11], [11]), ([9, 10, 12, 8], [9, 10, 12]), ([3, 13, 0, 1, 2, 3], [3]), ([8, 14, 0, 1, 2, 3, 4, 5, 6, 7, 8, 14], [8]), ([13, 15, 0, 1, 2, 3, 4, 5, 6, 7, 8, 9, 10, 11, 12, 13, 14, 15], [13])])
def spec_l13Border.B8 : List Nat := [0, 0, 0, 7, 0, 0, 32, 0, 255, 0, 0, 0, 2048, 8191, 16383, 32767, 65535]
theorem spec_l13Border.tab8 : rtab .any (opsOf Try.f27 8) = spec_l13Border.T8 := by kernel_rfl
theorem spec_l13Border.bits8 : waitsOk spec_l13Border.T8.2 spec_l13Border.B8 = true := by kernel_rfl
set_option maxHeartbeats 8000000 in
set_option maxRecDepth 100000 in
theorem spec_l13Border.calls (k : Nat) (a0_0 : Int) (a0_1 : Int) (A0_2 : Option Addr) (c0_2 : Nat) (l0_2 : List Int) (a1 : Int) (a2 : Int) (r : Int) (w : World) (hr0_2 : Kd.C (Kd.int .i64) w A0_2 l0_2.length l0_2) (hc0_2 : l0_2.length ≤ c0_2) (h : spec_l13Border.f k a0_0 a0_1 l0_2 a1 a2 = some r) :
  Calls Try.prog 27 #[.agg #[.int .i64 a0_0, .int .i64 a0_1, .slice A0_2 l0_2.length c0_2], .int .i64 a1, .int .i64 a2] w fun e w' => e = .returned (.int .i64 r) ∧ Below w.heap.size w w' := by
 have hu26 := Try.underlying26
 have HR0_2 := Aside0.mk hr0_2
 have HC0_2 := Aside0.mk hc0_2
 clear hr0_2 hc0_2
 have HB := Aside0.mk (Below.refl w.heap.size w)
 have H : (spec_l13Border.l0 k a1 a2 0 0 a0_0 a0_1 l0_2) = some r := h
 clear h
 have H' := Aside0.mk H
 clear H
 go_enter Try.func27, Try.ntmps27
 go_wp2_with (first | ((with_reducible refine gate_dst (N := 3) rfl ?_); refine box_event ?hg (N := 3) ?hd (cs := #[.int .i64 a0_0, .int .i64 a0_1, .slice A0_2 l0_2.length c0_2]) (t := 26) ?hr ?_; (case hd => rfl); (case hg => rfl); (case hr => exact zqS); intro gb299 hg w4 hbox hb; have BK299 := Aside0.mk (hbox); have GW299 := Aside0.mk ((by rw [hg]; exact (below_size zq0) : w.heap.size ≤ gb299)); replace HB := Aside0.mk (below_step zq0 hb); have GE299 := GW299; clear hb hbox hg))
 go_loopg [7, 8] k (fun kq v7 v8 w' => ∃ (x7_1 : Int) (x8_1 : Int), v7 = .int .i64 x7_1 ∧ v8 = .int .i64 x8_1 ∧ Aside0 (spec_l13Border.l0 kq a1 a2 x7_1 x8_1 a0_0 a0_1 l0_2 = some r) ∧ Aside0 (kq ≤ k) ∧ Aside0 (w'.heap[gb299]? = some (.cells #[.int .i64 a0_0, .int .i64 a0_1, (.slice A0_2 l0_2.length c0_2)] 26 (0, 0))) ∧ Aside0 (Below w.heap.size w w'))
 case atStart => exact ⟨(0), (0), (by first | rfl | (simp; done) | (simp [*]; done)), (by first | rfl | (simp; done) | (simp [*]; done)), H', ⟨Nat.le_refl _⟩, ⟨by (with_reducible repeat (first | refine blk_drewN ?_ _ | refine blk_drew ?_ | refine blk_alloc ?_ _)); exact BK299.out⟩, ⟨zq6⟩⟩
 clear H'
 try clear c2
 try clear p2
 obtain ⟨x7_1, x8_1, rfl, rfl, HA, HK1, BK299, HB⟩ := hrel
 cases gk with
 | zero => exact absurd HA.out (by simp [spec_l13Border.l0])
 | succ k1 =>
  have H := HA.out
  clear HA
  simp only [spec_l13Border.l0] at H
  by_cases c5 : x8_1 < a0_1
  case neg =>
   rw [if_neg c5] at H
   have c5b0 : decide (x8_1 < a0_1) = false := decide_eq_false c5
   clear c5
   obtain rfl := Option.some.inj H
   have hcz35_0 := bz BK299.out 0 (.int .i64 a0_0)
   have hcz35_1 := bz BK299.out 1 (.int .i64 a0_1)
   have hcz35_2 := bz BK299.out 2 (.slice A0_2 l0_2.length c0_2)
   have hfz35_0 := blk_frozen BK299.out 0
   have hfz35_1 := blk_frozen BK299.out 1
   have hfz35_2 := blk_frozen BK299.out 2
   go_wp2
   go_ret
   exact ⟨zqE, zq6⟩
  rw [if_pos c5] at H
  have c5b0 : decide (x8_1 < a0_1) = true := decide_eq_true c5
  clear c5
  have H' := Aside0.mk H
  clear H
  have hcz6_0 := bz BK299.out 0 (.int .i64 a0_0)
  have hcz6_1 := bz BK299.out 1 (.int .i64 a0_1)
  have hcz6_2 := bz BK299.out 2 (.slice A0_2 l0_2.length c0_2)
  have hfz6_0 := blk_frozen BK299.out 0
  have hfz6_1 := blk_frozen BK299.out 1
  have hfz6_2 := blk_frozen BK299.out 2
  go_wp2
  go_loopg [7, 9] k1 (fun kq v7 v9 w' => ∃ (x7_2 : Int) (x9_2 : Int), v7 = .int .i64 x7_2 ∧ v9 = .int .i64 x9_2 ∧ Aside0 (spec_l13Border.l1 kq a1 a2 x7_2 x8_1 x9_2 a0_0 a0_1 l0_2 = some r) ∧ Aside0 (kq ≤ k1) ∧ Aside0 (w'.heap[gb299]? = some (.cells #[.int .i64 a0_0, .int .i64 a0_1, (.slice A0_2 l0_2.length c0_2)] 26 (0, 0))) ∧ Aside0 (Below w.heap.size w w'))
  case atStart => exact ⟨(x7_1), (0), (by first | rfl | (simp; done) | (simp [*]; done)), (by first | rfl | (simp; done) | (simp [*]; done)), H', ⟨Nat.le_refl _⟩, ⟨by (with_reducible repeat (first | refine blk_drewN ?_ _ | refine blk_drew ?_ | refine blk_alloc ?_ _)); exact BK299.out⟩, ⟨zq6⟩⟩
  clear H'
  try clear c2
  try clear p2
  try clear c5
  try clear c5b0
  try clear hcz6_0
  try clear hcz6_1
  try clear hcz6_2
  try clear hfz6_0
  try clear hfz6_1
  try clear hfz6_2
  try clear p2
  obtain ⟨x7_2, x9_2, rfl, rfl, HA, HK2, BK299, HB⟩ := hrel
  cases gk with
  | zero => exact absurd HA.out (by simp [spec_l13Border.l1])
  | succ k2 =>
   have H := HA.out
   clear HA
   simp only [spec_l13Border.l1] at H
   by_cases c7 : x9_2 < a0_0
   case neg =>
    rw [if_neg c7] at H
    have c7b0 : decide (x9_2 < a0_0) = false := decide_eq_false c7
    clear c7
    have H' := Aside0.mk H
    clear H
    have hcz34_0 := bz BK299.out 0 (.int .i64 a0_0)
    have hcz34_1 := bz BK299.out 1 (.int .i64 a0_1)
    have hcz34_2 := bz BK299.out 2 (.slice A0_2 l0_2.length c0_2)
    have hfz34_0 := blk_frozen BK299.out 0
    have hfz34_1 := blk_frozen BK299.out 1
    have hfz34_2 := blk_frozen BK299.out 2
    go_wp2
    go_roundg k2
    case measure => have := HK1.out; have := HK2.out; omega
    case rel => exact ⟨(x7_2), (wrap64 (x8_1 + 1)), (by first | rfl | (simp; done) | (simp [*]; done)), (by first | rfl | (simp; done) | (simp [*]; done)), H', ⟨by have := HK1.out; have := HK2.out; omega⟩, ⟨by (with_reducible repeat (first | refine blk_drewN ?_ _ | refine blk_drew ?_ | refine blk_alloc ?_ _)); exact BK299.out⟩, ⟨zq6⟩⟩
   rw [if_pos c7] at H
   have c7b0 : decide (x9_2 < a0_0) = true := decide_eq_true c7
   clear c7
   replace H := Option.bind_eq_some_iff.mp H
   obtain ⟨t300, A80, H⟩ := H
   replace H : ((spec_l13At.f a0_0 a0_1 l0_2 (wrap64 (x9_2 + 1)) x8_1).bind fun t301 => ((spec_l13At.f a0_0 a0_1 l0_2 x9_2 (wrap64 (x8_1 + 1))).bind fun t302 => (if t300 = a1 then (if t301 = a2 then (spec_l13Border.j2 k2 a1 a2 x7_2 x8_1 x9_2 t300 t302 true a0_0 a0_1 l0_2) else (if t300 = a2 then (spec_l13Border.j2 k2 a1 a2 x7_2 x8_1 x9_2 t300 t302 (t301 == a1) a0_0 a0_1 l0_2) else (spec_l13Border.j2 k2 a1 a2 x7_2 x8_1 x9_2 t300 t302 false a0_0 a0_1 l0_2))) else (if t300 = a2 then (spec_l13Border.j2 k2 a1 a2 x7_2 x8_1 x9_2 t300 t302 (t301 == a1) a0_0 a0_1 l0_2) else (spec_l13Border.j2 k2 a1 a2 x7_2 x8_1 x9_2 t300 t302 false a0_0 a0_1 l0_2))))) = some r := H
   have A8 := Aside0.mk A80
   clear A80
   replace H := Option.bind_eq_some_iff.mp H
   obtain ⟨t301, A90, H⟩ := H
   replace H : ((spec_l13At.f a0_0 a0_1 l0_2 x9_2 (wrap64 (x8_1 + 1))).bind fun t302 => (if t300 = a1 then (if t301 = a2 then (spec_l13Border.j2 k2 a1 a2 x7_2 x8_1 x9_2 t300 t302 true a0_0 a0_1 l0_2) else (if t300 = a2 then (spec_l13Border.j2 k2 a1 a2 x7_2 x8_1 x9_2 t300 t302 (t301 == a1) a0_0 a0_1 l0_2) else (spec_l13Border.j2 k2 a1 a2 x7_2 x8_1 x9_2 t300 t302 false a0_0 a0_1 l0_2))) else (if t300 = a2 then (spec_l13Border.j2 k2 a1 a2 x7_2 x8_1 x9_2 t300 t302 (t301 == a1) a0_0 a0_1 l0_2) else (spec_l13Border.j2 k2 a1 a2 x7_2 x8_1 x9_2 t300 t302 false a0_0 a0_1 l0_2)))) = some r := H
   have A9 := Aside0.mk A90
   clear A90
   replace H := Option.bind_eq_some_iff.mp H
   obtain ⟨t302, A100, H⟩ := H
   replace H : (if t300 = a1 then (if t301 = a2 then (spec_l13Border.j2 k2 a1 a2 x7_2 x8_1 x9_2 t300 t302 true a0_0 a0_1 l0_2) else (if t300 = a2 then (spec_l13Border.j2 k2 a1 a2 x7_2 x8_1 x9_2 t300 t302 (t301 == a1) a0_0 a0_1 l0_2) else (spec_l13Border.j2 k2 a1 a2 x7_2 x8_1 x9_2 t300 t302 false a0_0 a0_1 l0_2))) else (if t300 = a2 then (spec_l13Border.j2 k2 a1 a2 x7_2 x8_1 x9_2 t300 t302 (t301 == a1) a0_0 a0_1 l0_2) else (spec_l13Border.j2 k2 a1 a2 x7_2 x8_1 x9_2 t300 t302 false a0_0 a0_1 l0_2))) = some r := H
   have A10 := Aside0.mk A100
   clear A100
   have HC11 := Aside0.mk H
   clear H
   have hcz12_0 := bz BK299.out 0 (.int .i64 a0_0)
   have hcz12_1 := bz BK299.out 1 (.int .i64 a0_1)
   have hcz12_2 := bz BK299.out 2 (.slice A0_2 l0_2.length c0_2)
   have hfz12_0 := blk_frozen BK299.out 0
   have hfz12_1 := blk_frozen BK299.out 1
   have hfz12_2 := blk_frozen BK299.out 2
   try go_wp2
   have n0_ := Aside0.mk (blk_drew BK299.out)
   have n1_ := Aside0.mk (below_drew1 HB.out)
   clear BK299
   clear HB
   have BK299 := n0_
   have HB := n1_
   clear n0_ n1_
   refine start_ (n := 17) (S := fun w' => w'.cell? ⟨gb299, 0, none⟩ = some (.int .i64 a0_0) ∧ w'.cell? ⟨gb299, 1, none⟩ = some (.int .i64 a0_1) ∧ w'.cell? ⟨gb299, 2, none⟩ = some (.slice A0_2 l0_2.length c0_2)) (ds := []) #[false, false, false, false, false, false, false, false, false, false, false, false, false, false, false, false, false] (by kernel_rfl) rfl rfl ⟨(blk_cell BK299.out 0).trans rfl, (blk_cell BK299.out 1).trans rfl, (blk_cell BK299.out 2).trans rfl⟩ (fun hHeld => ?_); refine with_tabW spec_l13Border.tab8 spec_l13Border.bits8 (fun HT_ HW_ => ?_)
   generalize wr.drew = w13 at BK299 HB hHeld ⊢
   refine pure_ (i := 1) (N := some 26) (v := ?_) (a' := ?_) #[false, true, false, false, false, false, false, false, false, false, false, false, false, false, false, false, false] rfl rfl (any_of HT_.out (by kernel_rfl)) (fun _ _ _ h => h) (Or.inl ⟨by rfl, ?_⟩) ?_ ?_
   rotate_left; · exact zqB
   rotate_left; · exact zqA
   refine pure_ (i := 2) (N := some 27) (v := ?_) (a' := ?_) #[false, true, true, false, false, false, false, false, false, false, false, false, false, false, false, false, false] rfl rfl (any_of HT_.out (by kernel_rfl)) (fun _ _ _ h => h) (Or.inl ⟨by rfl, ?_⟩) ?_ ?_
   rotate_left; · exact zqB
   rotate_left; · exact zqA
   refine pure_ (i := 5) (N := some 30) (v := ?_) (a' := ?_) #[false, true, true, false, false, true, false, false, false, false, false, false, false, false, false, false, false] rfl rfl (any_of HT_.out (by kernel_rfl)) (fun _ _ _ h => h) (Or.inl ⟨by rfl, ?_⟩) ?_ ?_
   rotate_left; · exact zqB
   rotate_left; · exact zqA
   refine pure_ (i := 6) (N := some 31) (v := ?_) (a' := ?_) #[false, true, true, false, false, true, true, false, false, false, false, false, false, false, false, false, false] rfl rfl (any_of HT_.out (by kernel_rfl)) (fun _ _ _ h => h) (Or.inl ⟨by rfl, ?_⟩) ?_ ?_
   rotate_left; · exact zqB
   rotate_left; · exact zqA
   refine pure_ (i := 7) (N := some 32) (v := ?_) (a' := ?_) #[false, true, true, false, false, true, true, true, false, false, false, false, false, false, false, false, false] rfl rfl (any_of HT_.out (by kernel_rfl)) (fun _ _ _ h => h) (Or.inl ⟨by rfl, ?_⟩) ?_ ?_
   rotate_left; · exact zqB
   rotate_left; · exact zqA
   refine pure_ (i := 10) (N := some 35) (v := ?_) (a' := ?_) #[false, true, true, false, false, true, true, true, false, false, true, false, false, false, false, false, false] rfl rfl (any_of HT_.out (by kernel_rfl)) (fun _ _ _ h => h) (Or.inl ⟨by rfl, ?_⟩) ?_ ?_
   rotate_left; · exact zqB
   rotate_left; · exact zqA
   refine pure_ (i := 11) (N := some 36) (v := ?_) (a' := ?_) #[false, true, true, false, false, true, true, true, false, false, true, true, false, false, false, false, false] rfl rfl (any_of HT_.out (by kernel_rfl)) (fun _ _ _ h => h) (Or.inl ⟨by rfl, ?_⟩) ?_ ?_
   rotate_left; · exact zqB
   rotate_left; · exact zqA
   refine pure_ (i := 12) (N := some 37) (v := ?_) (a' := ?_) #[false, true, true, false, false, true, true, true, false, false, true, true, true, false, false, false, false] rfl rfl (any_of HT_.out (by kernel_rfl)) (fun _ _ _ h => h) (Or.inl ⟨by rfl, ?_⟩) ?_ ?_
   rotate_left; · exact zqB
   rotate_left; · exact zqA
   refine take_ (i := 0) (N := some 25) (v := ?_) (a' := ?_) #[true, true, true, false, false, true, true, true, false, false, true, true, true, false, false, false, false] rfl rfl (take_ofW HT_.out HW_.out (by kernel_rfl)) (fun _ _ _ h => h) (Or.inl ⟨by rfl, ?_⟩) hHeld ?_ ?_
   rotate_left
   ·
    rintro w' ⟨s0, s1, s2⟩
    go_simp
    with_reducible rfl
   rotate_left; · exact zqA
   refine take_ (i := 4) (N := some 29) (v := ?_) (a' := ?_) #[true, true, true, false, true, true, true, true, false, false, true, true, true, false, false, false, false] rfl rfl (take_ofW HT_.out HW_.out (by kernel_rfl)) (fun _ _ _ h => h) (Or.inl ⟨by rfl, ?_⟩) hHeld ?_ ?_
   rotate_left
   ·
    rintro w' ⟨s0, s1, s2⟩
    go_simp
    with_reducible rfl
   rotate_left; · exact zqA
   refine take_ (i := 9) (N := some 34) (v := ?_) (a' := ?_) #[true, true, true, false, true, true, true, true, false, true, true, true, true, false, false, false, false] rfl rfl (take_ofW HT_.out HW_.out (by kernel_rfl)) (fun _ _ _ h => h) (Or.inl ⟨by rfl, ?_⟩) hHeld ?_ ?_
   rotate_left
   ·
    rintro w' ⟨s0, s1, s2⟩
    go_simp
    with_reducible rfl
   rotate_left; · exact zqA
   refine one_ (i := 3) (N := some 28) #[true, true, true, true, true, true, true, true, false, true, true, true, true, false, false, false, false] rfl rfl (one_of HT_.out (by kernel_rfl)) (by decide) (fun K hK => ?_)
   refine goes_ Try.func44 (by kernel_rfl) rfl #[.agg #[.int .i64 a0_0, .int .i64 a0_1, .slice A0_2 l0_2.length c0_2], .int .i64 x9_2, .int .i64 x8_1] (by rfl) rfl rfl zq1 ?_
   with_reducible refine (spec_l13At.calls a0_0 a0_1 _ _ l0_2 x9_2 x8_1 t300 _ ?side1 ?side2 A8.out).mono ?_
   (case side1 => exact zqC (Kd.C_below HR0_2.out HB.out))
   (case side2 => exact HC0_2.out)
   rintro e w14 ⟨rfl, hb⟩
   refine ⟨_, rfl, ?_⟩
   have n0_ := Aside0.mk (blk_below (g := gb299) (o := .cells #[.int .i64 a0_0, .int .i64 a0_1, .slice A0_2 l0_2.length c0_2] 26 (0, 0)) (zqK BK299.out) hb)
   have n1_ := Aside0.mk (below_step zq6 hb)
   clear BK299
   clear HB
   have BK299 := n0_
   have HB := n1_
   clear n0_ n1_
   (try clear hb)
   (try clear hb2)
   (try clear hk)
   (try clear hi)
   refine hK.out _ _ ⟨(blk_cell BK299.out 0).trans rfl, (blk_cell BK299.out 1).trans rfl, (blk_cell BK299.out 2).trans rfl⟩ (fun hHeld => ?_)
   clear hK K
   refine norm_ (a' := ?_) ?_ ?_
   rotate_left
   ·
    show Act.put _ (some 28) _ = _
    simp only [Act.put, List.setIfInBounds_toArray, List.set_cons_zero, List.set_cons_succ, i64_w, i32_w]
    rfl
   refine one_ (i := 8) (N := some 33) #[true, true, true, true, true, true, true, true, true, true, true, true, true, false, false, false, false] rfl rfl (one_of HT_.out (by kernel_rfl)) (by decide) (fun K hK => ?_)
   refine goes_ Try.func44 (by kernel_rfl) rfl #[.agg #[.int .i64 a0_0, .int .i64 a0_1, .slice A0_2 l0_2.length c0_2], .int .i64 (wrap64 (x9_2 + 1)), .int .i64 x8_1] (by rfl) rfl rfl zq1 ?_
   with_reducible refine (spec_l13At.calls a0_0 a0_1 _ _ l0_2 (wrap64 (x9_2 + 1)) x8_1 t301 _ ?side1 ?side2 A9.out).mono ?_
   (case side1 => exact zqC (Kd.C_below HR0_2.out HB.out))
   (case side2 => exact HC0_2.out)
   rintro e w15 ⟨rfl, hb⟩
   refine ⟨_, rfl, ?_⟩
   have n0_ := Aside0.mk (blk_below (g := gb299) (o := .cells #[.int .i64 a0_0, .int .i64 a0_1, .slice A0_2 l0_2.length c0_2] 26 (0, 0)) (zqK BK299.out) hb)
   have n1_ := Aside0.mk (below_step zq6 hb)
   clear BK299
   clear HB
   have BK299 := n0_
   have HB := n1_
   clear n0_ n1_
   (try clear hb)
   (try clear hb2)
   (try clear hk)
   (try clear hi)
   refine hK.out _ _ ⟨(blk_cell BK299.out 0).trans rfl, (blk_cell BK299.out 1).trans rfl, (blk_cell BK299.out 2).trans rfl⟩ (fun hHeld => ?_)
   clear hK K
   refine norm_ (a' := ?_) ?_ ?_
   rotate_left
   ·
    show Act.put _ (some 33) _ = _
    simp only [Act.put, List.setIfInBounds_toArray, List.set_cons_zero, List.set_cons_succ, i64_w, i32_w]
    rfl
   refine one_ (i := 13) (N := some 38) #[true, true, true, true, true, true, true, true, true, true, true, true, true, true, false, false, false] rfl rfl (one_of HT_.out (by kernel_rfl)) (by decide) (fun K hK => ?_)
   refine goes_ Try.func44 (by kernel_rfl) rfl #[.agg #[.int .i64 a0_0, .int .i64 a0_1, .slice A0_2 l0_2.length c0_2], .int .i64 x9_2, .int .i64 (wrap64 (x8_1 + 1))] (by rfl) rfl rfl zq1 ?_
   with_reducible refine (spec_l13At.calls a0_0 a0_1 _ _ l0_2 x9_2 (wrap64 (x8_1 + 1)) t302 _ ?side1 ?side2 A10.out).mono ?_
   (case side1 => exact zqC (Kd.C_below HR0_2.out HB.out))
   (case side2 => exact HC0_2.out)
   rintro e w16 ⟨rfl, hb⟩
   refine ⟨_, rfl, ?_⟩
   have n0_ := Aside0.mk (blk_below (g := gb299) (o := .cells #[.int .i64 a0_0, .int .i64 a0_1, .slice A0_2 l0_2.length c0_2] 26 (0, 0)) (zqK BK299.out) hb)
   have n1_ := Aside0.mk (below_step zq6 hb)
   clear BK299
   clear HB
   have BK299 := n0_
   have HB := n1_
   clear n0_ n1_
   (try clear hb)
   (try clear hb2)
   (try clear hk)
   (try clear hi)
   refine hK.out _ _ ⟨(blk_cell BK299.out 0).trans rfl, (blk_cell BK299.out 1).trans rfl, (blk_cell BK299.out 2).trans rfl⟩ (fun hHeld => ?_)
   clear hK K
   refine norm_ (a' := ?_) ?_ ?_
   rotate_left
   ·
    show Act.put _ (some 38) _ = _
    simp only [Act.put, List.setIfInBounds_toArray, List.set_cons_zero, List.set_cons_succ, i64_w, i32_w]
    rfl
   refine pure_ (i := 14) (N := some 10) (v := ?_) (a' := ?_) #[true, true, true, true, true, true, true, true, true, true, true, true, true, true, true, false, false] rfl rfl (any_of HT_.out (by kernel_rfl)) (fun _ _ _ h => h) (Or.inl ⟨by rfl, ?_⟩) ?_ ?_
   rotate_left; · exact zqB
   rotate_left; · exact zqA
   refine pure_ (i := 15) (N := some 11) (v := ?_) (a' := ?_) #[true, true, true, true, true, true, true, true, true, true, true, true, true, true, true, true, false] rfl rfl (any_of HT_.out (by kernel_rfl)) (fun _ _ _ h => h) (Or.inl ⟨by rfl, ?_⟩) ?_ ?_
   rotate_left; · exact zqB
   rotate_left; · exact zqA
   refine pure_ (i := 16) (N := some 12) (v := ?_) (a' := ?_) #[true, true, true, true, true, true, true, true, true, true, true, true, true, true, true, true, true] rfl rfl (any_of HT_.out (by kernel_rfl)) (fun _ _ _ h => h) (Or.inl ⟨by rfl, ?_⟩) ?_ ?_
   rotate_left; · exact zqB
   rotate_left; · exact zqA
   refine done_ (done_of HT_.out (by kernel_rfl)) ?_
   go_upto_region 9 with (fail)
   go_cut [56] (fun v56 wc => ∃ (kq : Nat) (x56_10 : Bool), v56 = .bool x56_10 ∧ Aside0 (spec_l13Border.j2 kq a1 a2 x7_2 x8_1 x9_2 t300 t302 x56_10 a0_0 a0_1 l0_2 = some r) ∧ Aside0 (kq ≤ k2) ∧ Aside0 (wc.heap[gb299]? = some (.cells #[.int .i64 a0_0, .int .i64 a0_1, (.slice A0_2 l0_2.length c0_2)] 26 (0, 0))) ∧ Aside0 (Below w.heap.size w wc))
   case first =>
    have H := HC11.out
    clear HC11
    by_cases c17 : t300 = a1
    case neg =>
     rw [if_neg c17] at H
     have c17b0 : (t300 == a1) = false := beq_eq_false_iff_ne.mpr c17
     have c17b1 : (t300 != a1) = true := bne_iff_ne.mpr c17
     (first | rw [c17b0] | (simp only [i64_w, i32_w]; rw [c17b0]) | rw [c17b1] | skip)
     by_cases c20 : t300 = a2
     case neg =>
      rw [if_neg c20] at H
      have c20b0 : (t300 == a2) = false := beq_eq_false_iff_ne.mpr c20
      have c20b1 : (t300 != a2) = true := bne_iff_ne.mpr c20
      have H' := Aside0.mk H
      clear H
      go_wp2
      go_meet
      case rel => exact ⟨_, (false), (by first | rfl | (simp; done) | (simp [*]; done)), H', ⟨by have := HK1.out; have := HK2.out; first | omega | exact Nat.le_refl _⟩, ⟨by (with_reducible repeat (first | refine blk_drewN ?_ _ | refine blk_drew ?_ | refine blk_alloc ?_ _)); exact BK299.out⟩, ⟨zq6⟩⟩
     rw [if_pos c20] at H
     have c20b0 : (t300 == a2) = true := beq_iff_eq.mpr c20
     have c20b1 : (t300 != a2) = false := bne_eq_false_iff_eq.mpr c20
     clear c20
     have H' := Aside0.mk H
     clear H
     go_wp2
     go_meet
     case rel => exact ⟨_, ((t301 == a1)), (by first | rfl | (simp; done) | (simp [*]; done)), H', ⟨by have := HK1.out; have := HK2.out; first | omega | exact Nat.le_refl _⟩, ⟨by (with_reducible repeat (first | refine blk_drewN ?_ _ | refine blk_drew ?_ | refine blk_alloc ?_ _)); exact BK299.out⟩, ⟨zq6⟩⟩
    rw [if_pos c17] at H
    have c17b0 : (t300 == a1) = true := beq_iff_eq.mpr c17
    have c17b1 : (t300 != a1) = false := bne_eq_false_iff_eq.mpr c17
    clear c17
    (first | rw [c17b0] | (simp only [i64_w, i32_w]; rw [c17b0]) | rw [c17b1] | skip)
    by_cases c18 : t301 = a2
    case pos =>
     rw [if_pos c18] at H
     have c18b0 : (t301 == a2) = true := beq_iff_eq.mpr c18
     have c18b1 : (t301 != a2) = false := bne_eq_false_iff_eq.mpr c18
     clear c18
     have H' := Aside0.mk H
     clear H
     go_wp2
     go_meet
     case rel => exact ⟨_, (true), (by first | rfl | (simp; done) | (simp [*]; done)), H', ⟨by have := HK1.out; have := HK2.out; first | omega | exact Nat.le_refl _⟩, ⟨by (with_reducible repeat (first | refine blk_drewN ?_ _ | refine blk_drew ?_ | refine blk_alloc ?_ _)); exact BK299.out⟩, ⟨zq6⟩⟩
    rw [if_neg c18] at H
    have c18b0 : (t301 == a2) = false := beq_eq_false_iff_ne.mpr c18
    have c18b1 : (t301 != a2) = true := bne_iff_ne.mpr c18
    by_cases c19 : t300 = a2
    case neg =>
     rw [if_neg c19] at H
     have c19b0 : (t300 == a2) = false := beq_eq_false_iff_ne.mpr c19
     have c19b1 : (t300 != a2) = true := bne_iff_ne.mpr c19
     have H' := Aside0.mk H
     clear H
     go_wp2
     go_meet
     case rel => exact ⟨_, (false), (by first | rfl | (simp; done) | (simp [*]; done)), H', ⟨by have := HK1.out; have := HK2.out; first | omega | exact Nat.le_refl _⟩, ⟨by (with_reducible repeat (first | refine blk_drewN ?_ _ | refine blk_drew ?_ | refine blk_alloc ?_ _)); exact BK299.out⟩, ⟨zq6⟩⟩
    rw [if_pos c19] at H
    have c19b0 : (t300 == a2) = true := beq_iff_eq.mpr c19
    have c19b1 : (t300 != a2) = false := bne_eq_false_iff_eq.mpr c19
    clear c19
    have H' := Aside0.mk H
    clear H
    go_wp2
    go_meet
    case rel => exact ⟨_, ((t301 == a1)), (by first | rfl | (simp; done) | (simp [*]; done)), H', ⟨by have := HK1.out; have := HK2.out; first | omega | exact Nat.le_refl _⟩, ⟨by (with_reducible repeat (first | refine blk_drewN ?_ _ | refine blk_drew ?_ | refine blk_alloc ?_ _)); exact BK299.out⟩, ⟨zq6⟩⟩
   clear HC11
   try clear c1
   try clear c2
   try clear p2
   try clear c4
   try clear c5
   try clear c5b0
   try clear p6
   try clear c7
   try clear c7b0
   try clear c17
   try clear c17b0
   try clear c17b1
   try clear c18
   try clear c18b0
   try clear c18b1
   try clear c19
   try clear c19b0
   try clear c19b1
   try clear c20
   try clear c20b0
   try clear c20b1
   try clear hcz12_0
   try clear hcz12_1
   try clear hcz12_2
   try clear hcz6_0
   try clear hcz6_1
   try clear hcz6_2
   try clear hfz12_0
   try clear hfz12_1
   try clear hfz12_2
   try clear hfz6_0
   try clear hfz6_1
   try clear hfz6_2
   try clear p2
   obtain ⟨kq, x56_10, rfl, HA, HJ10, BK299, HB⟩ := hcut
   cases kq with
   | zero => exact absurd HA.out (by simp [spec_l13Border.j2])
   | succ kj10 =>
    have H := HA.out
    clear HA
    simp only [spec_l13Border.j2] at H
    by_cases c21 : x56_10 = true
    case pos =>
     subst c21
     have H1 : (if t300 = a1 then (if t302 = a2 then (spec_l13Border.l1 kj10 a1 a2 (wrap64 ((wrap64 (x7_2 + 1)) + 1)) x8_1 (wrap64 (x9_2 + 1)) a0_0 a0_1 l0_2) else (if t300 = a2 then (if t302 = a1 then (spec_l13Border.l1 kj10 a1 a2 (wrap64 ((wrap64 (x7_2 + 1)) + 1)) x8_1 (wrap64 (x9_2 + 1)) a0_0 a0_1 l0_2) else (spec_l13Border.l1 kj10 a1 a2 (wrap64 (x7_2 + 1)) x8_1 (wrap64 (x9_2 + 1)) a0_0 a0_1 l0_2)) else (spec_l13Border.l1 kj10 a1 a2 (wrap64 (x7_2 + 1)) x8_1 (wrap64 (x9_2 + 1)) a0_0 a0_1 l0_2))) else (if t300 = a2 then (if t302 = a1 then (spec_l13Border.l1 kj10 a1 a2 (wrap64 ((wrap64 (x7_2 + 1)) + 1)) x8_1 (wrap64 (x9_2 + 1)) a0_0 a0_1 l0_2) else (spec_l13Border.l1 kj10 a1 a2 (wrap64 (x7_2 + 1)) x8_1 (wrap64 (x9_2 + 1)) a0_0 a0_1 l0_2)) else (spec_l13Border.l1 kj10 a1 a2 (wrap64 (x7_2 + 1)) x8_1 (wrap64 (x9_2 + 1)) a0_0 a0_1 l0_2))) = some r := by rw [if_pos rfl] at H; exact H
     clear H
     have H := H1
     clear H1
     by_cases c22 : t300 = a1
     case neg =>
      rw [if_neg c22] at H
      have c22b0 : (t300 == a1) = false := beq_eq_false_iff_ne.mpr c22
      have c22b1 : (t300 != a1) = true := bne_iff_ne.mpr c22
      by_cases c26 : t300 = a2
      case neg =>
       rw [if_neg c26] at H
       have c26b0 : (t300 == a2) = false := beq_eq_false_iff_ne.mpr c26
       have c26b1 : (t300 != a2) = true := bne_iff_ne.mpr c26
       have H' := Aside0.mk H
       clear H
       go_wp2
       go_roundg kj10
       case measure => have := HK1.out; have := HK2.out; have := HJ10.out; omega
       case rel => exact ⟨(wrap64 (x7_2 + 1)), (wrap64 (x9_2 + 1)), (by first | rfl | (simp; done) | (simp [*]; done)), (by first | rfl | (simp; done) | (simp [*]; done)), H', ⟨by have := HK1.out; have := HK2.out; have := HJ10.out; omega⟩, ⟨by (with_reducible repeat (first | refine blk_drewN ?_ _ | refine blk_drew ?_ | refine blk_alloc ?_ _)); exact BK299.out⟩, ⟨zq6⟩⟩
      rw [if_pos c26] at H
      have c26b0 : (t300 == a2) = true := beq_iff_eq.mpr c26
      have c26b1 : (t300 != a2) = false := bne_eq_false_iff_eq.mpr c26
      clear c26
      by_cases c27 : t302 = a1
      case neg =>
       rw [if_neg c27] at H
       have c27b0 : (t302 == a1) = false := beq_eq_false_iff_ne.mpr c27
       have c27b1 : (t302 != a1) = true := bne_iff_ne.mpr c27
       have H' := Aside0.mk H
       clear H
       go_wp2
       go_roundg kj10
       case measure => have := HK1.out; have := HK2.out; have := HJ10.out; omega
       case rel => exact ⟨(wrap64 (x7_2 + 1)), (wrap64 (x9_2 + 1)), (by first | rfl | (simp; done) | (simp [*]; done)), (by first | rfl | (simp; done) | (simp [*]; done)), H', ⟨by have := HK1.out; have := HK2.out; have := HJ10.out; omega⟩, ⟨by (with_reducible repeat (first | refine blk_drewN ?_ _ | refine blk_drew ?_ | refine blk_alloc ?_ _)); exact BK299.out⟩, ⟨zq6⟩⟩
      rw [if_pos c27] at H
      have c27b0 : (t302 == a1) = true := beq_iff_eq.mpr c27
      have c27b1 : (t302 != a1) = false := bne_eq_false_iff_eq.mpr c27
      clear c27
      have H' := Aside0.mk H
      clear H
      go_wp2
      go_roundg kj10
      case measure => have := HK1.out; have := HK2.out; have := HJ10.out; omega
      case rel => exact ⟨(wrap64 ((wrap64 (x7_2 + 1)) + 1)), (wrap64 (x9_2 + 1)), (by first | rfl | (simp; done) | (simp [*]; done)), (by first | rfl | (simp; done) | (simp [*]; done)), H', ⟨by have := HK1.out; have := HK2.out; have := HJ10.out; omega⟩, ⟨by (with_reducible repeat (first | refine blk_drewN ?_ _ | refine blk_drew ?_ | refine blk_alloc ?_ _)); exact BK299.out⟩, ⟨zq6⟩⟩
     rw [if_pos c22] at H
     have c22b0 : (t300 == a1) = true := beq_iff_eq.mpr c22
     have c22b1 : (t300 != a1) = false := bne_eq_false_iff_eq.mpr c22
     clear c22
     by_cases c23 : t302 = a2
     case pos =>
      rw [if_pos c23] at H
      have c23b0 : (t302 == a2) = true := beq_iff_eq.mpr c23
      have c23b1 : (t302 != a2) = false := bne_eq_false_iff_eq.mpr c23
      clear c23
      have H' := Aside0.mk H
      clear H
      go_wp2
      go_roundg kj10
      case measure => have := HK1.out; have := HK2.out; have := HJ10.out; omega
      case rel => exact ⟨(wrap64 ((wrap64 (x7_2 + 1)) + 1)), (wrap64 (x9_2 + 1)), (by first | rfl | (simp; done) | (simp [*]; done)), (by first | rfl | (simp; done) | (simp [*]; done)), H', ⟨by have := HK1.out; have := HK2.out; have := HJ10.out; omega⟩, ⟨by (with_reducible repeat (first | refine blk_drewN ?_ _ | refine blk_drew ?_ | refine blk_alloc ?_ _)); exact BK299.out⟩, ⟨zq6⟩⟩
     rw [if_neg c23] at H
     have c23b0 : (t302 == a2) = false := beq_eq_false_iff_ne.mpr c23
     have c23b1 : (t302 != a2) = true := bne_iff_ne.mpr c23
     by_cases c24 : t300 = a2
     case neg =>
      rw [if_neg c24] at H
      have c24b0 : (t300 == a2) = false := beq_eq_false_iff_ne.mpr c24
      have c24b1 : (t300 != a2) = true := bne_iff_ne.mpr c24
      have H' := Aside0.mk H
      clear H
      go_wp2
      go_roundg kj10
      case measure => have := HK1.out; have := HK2.out; have := HJ10.out; omega
      case rel => exact ⟨(wrap64 (x7_2 + 1)), (wrap64 (x9_2 + 1)), (by first | rfl | (simp; done) | (simp [*]; done)), (by first | rfl | (simp; done) | (simp [*]; done)), H', ⟨by have := HK1.out; have := HK2.out; have := HJ10.out; omega⟩, ⟨by (with_reducible repeat (first | refine blk_drewN ?_ _ | refine blk_drew ?_ | refine blk_alloc ?_ _)); exact BK299.out⟩, ⟨zq6⟩⟩
     rw [if_pos c24] at H
     have c24b0 : (t300 == a2) = true := beq_iff_eq.mpr c24
     have c24b1 : (t300 != a2) = false := bne_eq_false_iff_eq.mpr c24
     clear c24
     by_cases c25 : t302 = a1
     case neg =>
      rw [if_neg c25] at H
      have c25b0 : (t302 == a1) = false := beq_eq_false_iff_ne.mpr c25
      have c25b1 : (t302 != a1) = true := bne_iff_ne.mpr c25
      have H' := Aside0.mk H
      clear H
      go_wp2
      go_roundg kj10
      case measure => have := HK1.out; have := HK2.out; have := HJ10.out; omega
      case rel => exact ⟨(wrap64 (x7_2 + 1)), (wrap64 (x9_2 + 1)), (by first | rfl | (simp; done) | (simp [*]; done)), (by first | rfl | (simp; done) | (simp [*]; done)), H', ⟨by have := HK1.out; have := HK2.out; have := HJ10.out; omega⟩, ⟨by (with_reducible repeat (first | refine blk_drewN ?_ _ | refine blk_drew ?_ | refine blk_alloc ?_ _)); exact BK299.out⟩, ⟨zq6⟩⟩
     rw [if_pos c25] at H
     have c25b0 : (t302 == a1) = true := beq_iff_eq.mpr c25
     have c25b1 : (t302 != a1) = false := bne_eq_false_iff_eq.mpr c25
     clear c25
     have H' := Aside0.mk H
     clear H
     go_wp2
     go_roundg kj10
     case measure => have := HK1.out; have := HK2.out; have := HJ10.out; omega
     case rel => exact ⟨(wrap64 ((wrap64 (x7_2 + 1)) + 1)), (wrap64 (x9_2 + 1)), (by first | rfl | (simp; done) | (simp [*]; done)), (by first | rfl | (simp; done) | (simp [*]; done)), H', ⟨by have := HK1.out; have := HK2.out; have := HJ10.out; omega⟩, ⟨by (with_reducible repeat (first | refine blk_drewN ?_ _ | refine blk_drew ?_ | refine blk_alloc ?_ _)); exact BK299.out⟩, ⟨zq6⟩⟩
    replace c21 := Bool.eq_false_iff.mpr c21
    subst c21
    have H1 : (if t300 = a1 then (if t302 = a2 then (spec_l13Border.l1 kj10 a1 a2 (wrap64 (x7_2 + 1)) x8_1 (wrap64 (x9_2 + 1)) a0_0 a0_1 l0_2) else (if t300 = a2 then (if t302 = a1 then (spec_l13Border.l1 kj10 a1 a2 (wrap64 (x7_2 + 1)) x8_1 (wrap64 (x9_2 + 1)) a0_0 a0_1 l0_2) else (spec_l13Border.l1 kj10 a1 a2 x7_2 x8_1 (wrap64 (x9_2 + 1)) a0_0 a0_1 l0_2)) else (spec_l13Border.l1 kj10 a1 a2 x7_2 x8_1 (wrap64 (x9_2 + 1)) a0_0 a0_1 l0_2))) else (if t300 = a2 then (if t302 = a1 then (spec_l13Border.l1 kj10 a1 a2 (wrap64 (x7_2 + 1)) x8_1 (wrap64 (x9_2 + 1)) a0_0 a0_1 l0_2) else (spec_l13Border.l1 kj10 a1 a2 x7_2 x8_1 (wrap64 (x9_2 + 1)) a0_0 a0_1 l0_2)) else (spec_l13Border.l1 kj10 a1 a2 x7_2 x8_1 (wrap64 (x9_2 + 1)) a0_0 a0_1 l0_2))) = some r := by rw [if_neg (show ¬ (false = true) by decide)] at H; exact H
    clear H
    have H := H1
    clear H1
    by_cases c28 : t300 = a1
    case neg =>
     rw [if_neg c28] at H
     have c28b0 : (t300 == a1) = false := beq_eq_false_iff_ne.mpr c28
     have c28b1 : (t300 != a1) = true := bne_iff_ne.mpr c28
     by_cases c32 : t300 = a2
     case neg =>
      rw [if_neg c32] at H
      have c32b0 : (t300 == a2) = false := beq_eq_false_iff_ne.mpr c32
      have c32b1 : (t300 != a2) = true := bne_iff_ne.mpr c32
      have H' := Aside0.mk H
      clear H
      go_wp2
      go_roundg kj10
      case measure => have := HK1.out; have := HK2.out; have := HJ10.out; omega
      case rel => exact ⟨(x7_2), (wrap64 (x9_2 + 1)), (by first | rfl | (simp; done) | (simp [*]; done)), (by first | rfl | (simp; done) | (simp [*]; done)), H', ⟨by have := HK1.out; have := HK2.out; have := HJ10.out; omega⟩, ⟨by (with_reducible repeat (first | refine blk_drewN ?_ _ | refine blk_drew ?_ | refine blk_alloc ?_ _)); exact BK299.out⟩, ⟨zq6⟩⟩
     rw [if_pos c32] at H
     have c32b0 : (t300 == a2) = true := beq_iff_eq.mpr c32
     have c32b1 : (t300 != a2) = false := bne_eq_false_iff_eq.mpr c32
     clear c32
     by_cases c33 : t302 = a1
     case neg =>
      rw [if_neg c33] at H
      have c33b0 : (t302 == a1) = false := beq_eq_false_iff_ne.mpr c33
      have c33b1 : (t302 != a1) = true := bne_iff_ne.mpr c33
      have H' := Aside0.mk H
      clear H
      go_wp2
      go_roundg kj10
      case measure => have := HK1.out; have := HK2.out; have := HJ10.out; omega
      case rel => exact ⟨(x7_2), (wrap64 (x9_2 + 1)), (by first | rfl | (simp; done) | (simp [*]; done)), (by first | rfl | (simp; done) | (simp [*]; done)), H', ⟨by have := HK1.out; have := HK2.out; have := HJ10.out; omega⟩, ⟨by (with_reducible repeat (first | refine blk_drewN ?_ _ | refine blk_drew ?_ | refine blk_alloc ?_ _)); exact BK299.out⟩, ⟨zq6⟩⟩
     rw [if_pos c33] at H
     have c33b0 : (t302 == a1) = true := beq_iff_eq.mpr c33
     have c33b1 : (t302 != a1) = false := bne_eq_false_iff_eq.mpr c33
     clear c33
     have H' := Aside0.mk H
     clear H
     go_wp2
     go_roundg kj10
     case measure => have := HK1.out; have := HK2.out; have := HJ10.out; omega
     case rel => exact ⟨(wrap64 (x7_2 + 1)), (wrap64 (x9_2 + 1)), (by first | rfl | (simp; done) | (simp [*]; done)), (by first | rfl | (simp; done) | (simp [*]; done)), H', ⟨by have := HK1.out; have := HK2.out; have := HJ10.out; omega⟩, ⟨by (with_reducible repeat (first | refine blk_drewN ?_ _ | refine blk_drew ?_ | refine blk_alloc ?_ _)); exact BK299.out⟩, ⟨zq6⟩⟩
    rw [if_pos c28] at H
    have c28b0 : (t300 == a1) = true := beq_iff_eq.mpr c28
    have c28b1 : (t300 != a1) = false := bne_eq_false_iff_eq.mpr c28
    clear c28
    by_cases c29 : t302 = a2
    case pos =>
     rw [if_pos c29] at H
     have c29b0 : (t302 == a2) = true := beq_iff_eq.mpr c29
     have c29b1 : (t302 != a2) = false := bne_eq_false_iff_eq.mpr c29
     clear c29
     have H' := Aside0.mk H
     clear H
     go_wp2
     go_roundg kj10
     case measure => have := HK1.out; have := HK2.out; have := HJ10.out; omega
     case rel => exact ⟨(wrap64 (x7_2 + 1)), (wrap64 (x9_2 + 1)), (by first | rfl | (simp; done) | (simp [*]; done)), (by first | rfl | (simp; done) | (simp [*]; done)), H', ⟨by have := HK1.out; have := HK2.out; have := HJ10.out; omega⟩, ⟨by (with_reducible repeat (first | refine blk_drewN ?_ _ | refine blk_drew ?_ | refine blk_alloc ?_ _)); exact BK299.out⟩, ⟨zq6⟩⟩
    rw [if_neg c29] at H
    have c29b0 : (t302 == a2) = false := beq_eq_false_iff_ne.mpr c29
    have c29b1 : (t302 != a2) = true := bne_iff_ne.mpr c29
    by_cases c30 : t300 = a2
    case neg =>
     rw [if_neg c30] at H
     have c30b0 : (t300 == a2) = false := beq_eq_false_iff_ne.mpr c30
     have c30b1 : (t300 != a2) = true := bne_iff_ne.mpr c30
     have H' := Aside0.mk H
     clear H
     go_wp2
     go_roundg kj10
     case measure => have := HK1.out; have := HK2.out; have := HJ10.out; omega
     case rel => exact ⟨(x7_2), (wrap64 (x9_2 + 1)), (by first | rfl | (simp; done) | (simp [*]; done)), (by first | rfl | (simp; done) | (simp [*]; done)), H', ⟨by have := HK1.out; have := HK2.out; have := HJ10.out; omega⟩, ⟨by (with_reducible repeat (first | refine blk_drewN ?_ _ | refine blk_drew ?_ | refine blk_alloc ?_ _)); exact BK299.out⟩, ⟨zq6⟩⟩
    rw [if_pos c30] at H
    have c30b0 : (t300 == a2) = true := beq_iff_eq.mpr c30
    have c30b1 : (t300 != a2) = false := bne_eq_false_iff_eq.mpr c30
    clear c30
    by_cases c31 : t302 = a1
    case neg =>
     rw [if_neg c31] at H
     have c31b0 : (t302 == a1) = false := beq_eq_false_iff_ne.mpr c31
     have c31b1 : (t302 != a1) = true := bne_iff_ne.mpr c31
     have H' := Aside0.mk H
     clear H
     go_wp2
     go_roundg kj10
     case measure => have := HK1.out; have := HK2.out; have := HJ10.out; omega
     case rel => exact ⟨(x7_2), (wrap64 (x9_2 + 1)), (by first | rfl | (simp; done) | (simp [*]; done)), (by first | rfl | (simp; done) | (simp [*]; done)), H', ⟨by have := HK1.out; have := HK2.out; have := HJ10.out; omega⟩, ⟨by (with_reducible repeat (first | refine blk_drewN ?_ _ | refine blk_drew ?_ | refine blk_alloc ?_ _)); exact BK299.out⟩, ⟨zq6⟩⟩
    rw [if_pos c31] at H
    have c31b0 : (t302 == a1) = true := beq_iff_eq.mpr c31
    have c31b1 : (t302 != a1) = false := bne_eq_false_iff_eq.mpr c31
    clear c31
    have H' := Aside0.mk H
    clear H
    go_wp2
    go_roundg kj10
    case measure => have := HK1.out; have := HK2.out; have := HJ10.out; omega
    case rel => exact ⟨(wrap64 (x7_2 + 1)), (wrap64 (x9_2 + 1)), (by first | rfl | (simp; done) | (simp [*]; done)), (by first | rfl | (simp; done) | (simp [*]; done)), H', ⟨by have := HK1.out; have := HK2.out; have := HJ10.out; omega⟩, ⟨by (with_reducible repeat (first | refine blk_drewN ?_ _ | refine blk_drew ?_ | refine blk_alloc ?_ _)); exact BK299.out⟩, ⟨zq6⟩⟩

/-! ### spec_CommonSides: function 10 -/
def spec_CommonSides.f (k : Nat) (a0_0 : Int) (a0_1 : Int) (l0_2 : List Int) (a1 : Int) (a2 : Int) : Option (Int × Bool) := (spec_l13There.f k a0_0 a0_1 l0_2 a1).bind fun t304 => (if t304 = true then ((spec_l13There.f k a0_0 a0_1 l0_2 a2).bind fun t305 => (if t305 = true then (if a1 = a2 then (some (0, false)) else ((spec_l13Border.f k a0_0 a0_1 l0_2 a1 a2).bind fun t306 => (some (t306, true)))) else (some (0, false)))) else (some (0, false)))
set_option maxHeartbeats 8000000 in
set_option maxRecDepth 100000 in
theorem spec_CommonSides.calls (k : Nat) (a0_0 : Int) (a0_1 : Int) (A0_2 : Option Addr) (c0_2 : Nat) (l0_2 : List Int) (a1 : Int) (a2 : Int) (r1 : Int) (r2 : Bool) (w : World) (hr0_2 : Kd.C (Kd.int .i64) w A0_2 l0_2.length l0_2) (hc0_2 : l0_2.length ≤ c0_2) (h : spec_CommonSides.f k a0_0 a0_1 l0_2 a1 a2 = some (r1, r2)) :
  Calls Try.prog 10 #[.agg #[.int .i64 a0_0, .int .i64 a0_1, .slice A0_2 l0_2.length c0_2], .int .i64 a1, .int .i64 a2] w fun e w' => e = .returned (.tuple #[.int .i64 r1, .bool r2]) ∧ Below w.heap.size w w' := by
 have hu26 := Try.underlying26
 have HR0_2 := Aside0.mk hr0_2
 have HC0_2 := Aside0.mk hc0_2
 clear hr0_2 hc0_2
 have HB := Aside0.mk (Below.refl w.heap.size w)
 have H : ((spec_l13There.f k a0_0 a0_1 l0_2 a1).bind fun t304 => (if t304 = true then ((spec_l13There.f k a0_0 a0_1 l0_2 a2).bind fun t305 => (if t305 = true then (if a1 = a2 then (some (0, false)) else ((spec_l13Border.f k a0_0 a0_1 l0_2 a1 a2).bind fun t306 => (some (t306, true)))) else (some (0, false)))) else (some (0, false)))) = some (r1, r2) := h
 clear h
 replace H := Option.bind_eq_some_iff.mp H
 obtain ⟨t304, A40, H⟩ := H
 replace H : (if t304 = true then ((spec_l13There.f k a0_0 a0_1 l0_2 a2).bind fun t305 => (if t305 = true then (if a1 = a2 then (some (0, false)) else ((spec_l13Border.f k a0_0 a0_1 l0_2 a1 a2).bind fun t306 => (some (t306, true)))) else (some (0, false)))) else (some (0, false))) = some (r1, r2) := H
 have A4 := Aside0.mk A40
 clear A40
 by_cases c5 : t304 = true
 case neg =>
  replace c5 := Bool.eq_false_iff.mpr c5
  subst c5
  have H1 : (some (0, false)) = some (r1, r2) := by rw [if_neg (show ¬ (false = true) by decide)] at H; exact H
  clear H
  have H := H1
  clear H1
  simp only [Option.some.injEq, Prod.mk.injEq] at H
  obtain ⟨rfl, rfl⟩ := H
  go_enter Try.func10, Try.ntmps10
  go_wp2_with (first | ((with_reducible refine gate_dst (N := 3) rfl ?_); refine box_event ?hg (N := 3) ?hd (cs := #[.int .i64 a0_0, .int .i64 a0_1, .slice A0_2 l0_2.length c0_2]) (t := 26) ?hr ?_; (case hd => rfl); (case hg => rfl); (case hr => exact zqS); intro gb303 hg w27 hbox hb; have BK303 := Aside0.mk (hbox); have GW303 := Aside0.mk ((by rw [hg]; exact (below_size zq0) : w.heap.size ≤ gb303)); replace HB := Aside0.mk (below_step zq0 hb); have GE303 := GW303; clear hb hbox hg; have hcz28_0 := bz BK303.out 0 (.int .i64 a0_0); have hcz28_1 := bz BK303.out 1 (.int .i64 a0_1); have hcz28_2 := bz BK303.out 2 (.slice A0_2 l0_2.length c0_2); have hfz28_0 := blk_frozen BK303.out 0; have hfz28_1 := blk_frozen BK303.out 1; have hfz28_2 := blk_frozen BK303.out 2) | ((with_reducible refine gate_callee (f := 24) rfl ?_); refine goesL_ (some 10) rfl rfl Try.func24 (by kernel_rfl) rfl #[.agg #[.int .i64 a0_0, .int .i64 a0_1, .slice A0_2 l0_2.length c0_2], .int .i64 a1] rfl zq1 ?_; (with_reducible refine (spec_l13There.calls k a0_0 a0_1 _ _ l0_2 a1 false _ ?side1 ?side2 A4.out).mono ?_); (case side1 => exact zqC (Kd.C_below HR0_2.out HB.out)); (case side2 => exact HC0_2.out); rintro e w29 ⟨rfl, hb⟩; refine ⟨_, rfl, ?_⟩; replace BK303 := Aside0.mk (blk_below (g := gb303) (o := .cells #[.int .i64 a0_0, .int .i64 a0_1, .slice A0_2 l0_2.length c0_2] 26 (0, 0)) (zqK BK303.out) hb); replace HB := Aside0.mk (below_step zq21 hb); (try clear hb); (try clear hb2); (try clear hk); (try clear hi)))
  go_ret2
  exact ⟨zqE, zq21⟩
 subst c5
 have H1 : ((spec_l13There.f k a0_0 a0_1 l0_2 a2).bind fun t305 => (if t305 = true then (if a1 = a2 then (some (0, false)) else ((spec_l13Border.f k a0_0 a0_1 l0_2 a1 a2).bind fun t306 => (some (t306, true)))) else (some (0, false)))) = some (r1, r2) := by rw [if_pos rfl] at H; exact H
 clear H
 have H := H1
 clear H1
 replace H := Option.bind_eq_some_iff.mp H
 obtain ⟨t305, A60, H⟩ := H
 replace H : (if t305 = true then (if a1 = a2 then (some (0, false)) else ((spec_l13Border.f k a0_0 a0_1 l0_2 a1 a2).bind fun t306 => (some (t306, true)))) else (some (0, false))) = some (r1, r2) := H
 have A6 := Aside0.mk A60
 clear A60
 by_cases c7 : t305 = true
 case neg =>
  replace c7 := Bool.eq_false_iff.mpr c7
  subst c7
  have H1 : (some (0, false)) = some (r1, r2) := by rw [if_neg (show ¬ (false = true) by decide)] at H; exact H
  clear H
  have H := H1
  clear H1
  simp only [Option.some.injEq, Prod.mk.injEq] at H
  obtain ⟨rfl, rfl⟩ := H
  go_enter Try.func10, Try.ntmps10
  go_wp2_with (first | ((with_reducible refine gate_dst (N := 3) rfl ?_); refine box_event ?hg (N := 3) ?hd (cs := #[.int .i64 a0_0, .int .i64 a0_1, .slice A0_2 l0_2.length c0_2]) (t := 26) ?hr ?_; (case hd => rfl); (case hg => rfl); (case hr => exact zqS); intro gb303 hg w22 hbox hb; have BK303 := Aside0.mk (hbox); have GW303 := Aside0.mk ((by rw [hg]; exact (below_size zq0) : w.heap.size ≤ gb303)); replace HB := Aside0.mk (below_step zq0 hb); have GE303 := GW303; clear hb hbox hg; have hcz23_0 := bz BK303.out 0 (.int .i64 a0_0); have hcz23_1 := bz BK303.out 1 (.int .i64 a0_1); have hcz23_2 := bz BK303.out 2 (.slice A0_2 l0_2.length c0_2); have hfz23_0 := blk_frozen BK303.out 0; have hfz23_1 := blk_frozen BK303.out 1; have hfz23_2 := blk_frozen BK303.out 2) | ((with_reducible refine gate_callee (f := 24) rfl ?_); refine goesL_ (some 10) rfl rfl Try.func24 (by kernel_rfl) rfl #[.agg #[.int .i64 a0_0, .int .i64 a0_1, .slice A0_2 l0_2.length c0_2], .int .i64 a1] rfl zq1 ?_; (with_reducible refine (spec_l13There.calls k a0_0 a0_1 _ _ l0_2 a1 true _ ?side1 ?side2 A4.out).mono ?_); (case side1 => exact zqC (Kd.C_below HR0_2.out HB.out)); (case side2 => exact HC0_2.out); rintro e w24 ⟨rfl, hb⟩; refine ⟨_, rfl, ?_⟩; replace BK303 := Aside0.mk (blk_below (g := gb303) (o := .cells #[.int .i64 a0_0, .int .i64 a0_1, .slice A0_2 l0_2.length c0_2] 26 (0, 0)) (zqK BK303.out) hb); replace HB := Aside0.mk (below_step zq21 hb); (try clear hb); (try clear hb2); (try clear hk); (try clear hi); have hcz25_0 := bz BK303.out 0 (.int .i64 a0_0); have hcz25_1 := bz BK303.out 1 (.int .i64 a0_1); have hcz25_2 := bz BK303.out 2 (.slice A0_2 l0_2.length c0_2); have hfz25_0 := blk_frozen BK303.out 0; have hfz25_1 := blk_frozen BK303.out 1; have hfz25_2 := blk_frozen BK303.out 2) | (go_at_call 24; (with_reducible refine (spec_l13There.calls k a0_0 a0_1 _ _ l0_2 a2 false _ ?side1 ?side2 A6.out).mono ?_); (case side1 => exact zqC (Kd.C_below HR0_2.out HB.out)); (case side2 => exact HC0_2.out); rintro e w26 ⟨rfl, hb⟩; replace BK303 := Aside0.mk (blk_below (g := gb303) (o := .cells #[.int .i64 a0_0, .int .i64 a0_1, .slice A0_2 l0_2.length c0_2] 26 (0, 0)) (zqK BK303.out) hb); replace HB := Aside0.mk (below_step zq21 hb); (try clear hb); (try clear hb2); (try clear hk); (try clear hi)))
  go_ret2
  exact ⟨zqE, zq21⟩
 subst c7
 have H1 : (if a1 = a2 then (some (0, false)) else ((spec_l13Border.f k a0_0 a0_1 l0_2 a1 a2).bind fun t306 => (some (t306, true)))) = some (r1, r2) := by rw [if_pos rfl] at H; exact H
 clear H
 have H := H1
 clear H1
 by_cases c8 : a1 = a2
 case pos =>
  rw [if_pos c8] at H
  have c8b0 : (a1 == a2) = true := beq_iff_eq.mpr c8
  have c8b1 : (a1 != a2) = false := bne_eq_false_iff_eq.mpr c8
  clear c8
  simp only [Option.some.injEq, Prod.mk.injEq] at H
  obtain ⟨rfl, rfl⟩ := H
  go_enter Try.func10, Try.ntmps10
  go_wp2_with (first | ((with_reducible refine gate_dst (N := 3) rfl ?_); refine box_event ?hg (N := 3) ?hd (cs := #[.int .i64 a0_0, .int .i64 a0_1, .slice A0_2 l0_2.length c0_2]) (t := 26) ?hr ?_; (case hd => rfl); (case hg => rfl); (case hr => exact zqS); intro gb303 hg w9 hbox hb; have BK303 := Aside0.mk (hbox); have GW303 := Aside0.mk ((by rw [hg]; exact (below_size zq0) : w.heap.size ≤ gb303)); replace HB := Aside0.mk (below_step zq0 hb); have GE303 := GW303; clear hb hbox hg; have hcz10_0 := bz BK303.out 0 (.int .i64 a0_0); have hcz10_1 := bz BK303.out 1 (.int .i64 a0_1); have hcz10_2 := bz BK303.out 2 (.slice A0_2 l0_2.length c0_2); have hfz10_0 := blk_frozen BK303.out 0; have hfz10_1 := blk_frozen BK303.out 1; have hfz10_2 := blk_frozen BK303.out 2) | ((with_reducible refine gate_callee (f := 24) rfl ?_); refine goesL_ (some 10) rfl rfl Try.func24 (by kernel_rfl) rfl #[.agg #[.int .i64 a0_0, .int .i64 a0_1, .slice A0_2 l0_2.length c0_2], .int .i64 a1] rfl zq1 ?_; (with_reducible refine (spec_l13There.calls k a0_0 a0_1 _ _ l0_2 a1 true _ ?side1 ?side2 A4.out).mono ?_); (case side1 => exact zqC (Kd.C_below HR0_2.out HB.out)); (case side2 => exact HC0_2.out); rintro e w11 ⟨rfl, hb⟩; refine ⟨_, rfl, ?_⟩; replace BK303 := Aside0.mk (blk_below (g := gb303) (o := .cells #[.int .i64 a0_0, .int .i64 a0_1, .slice A0_2 l0_2.length c0_2] 26 (0, 0)) (zqK BK303.out) hb); replace HB := Aside0.mk (below_step zq21 hb); (try clear hb); (try clear hb2); (try clear hk); (try clear hi); have hcz12_0 := bz BK303.out 0 (.int .i64 a0_0); have hcz12_1 := bz BK303.out 1 (.int .i64 a0_1); have hcz12_2 := bz BK303.out 2 (.slice A0_2 l0_2.length c0_2); have hfz12_0 := blk_frozen BK303.out 0; have hfz12_1 := blk_frozen BK303.out 1; have hfz12_2 := blk_frozen BK303.out 2) | (go_at_call 24; (with_reducible refine (spec_l13There.calls k a0_0 a0_1 _ _ l0_2 a2 true _ ?side1 ?side2 A6.out).mono ?_); (case side1 => exact zqC (Kd.C_below HR0_2.out HB.out)); (case side2 => exact HC0_2.out); rintro e w13 ⟨rfl, hb⟩; replace BK303 := Aside0.mk (blk_below (g := gb303) (o := .cells #[.int .i64 a0_0, .int .i64 a0_1, .slice A0_2 l0_2.length c0_2] 26 (0, 0)) (zqK BK303.out) hb); replace HB := Aside0.mk (below_step zq21 hb); (try clear hb); (try clear hb2); (try clear hk); (try clear hi)))
  go_ret2
  exact ⟨zqE, zq21⟩
 rw [if_neg c8] at H
 have c8b0 : (a1 == a2) = false := beq_eq_false_iff_ne.mpr c8
 have c8b1 : (a1 != a2) = true := bne_iff_ne.mpr c8
 replace H := Option.bind_eq_some_iff.mp H
 obtain ⟨t306, A140, H⟩ := H
 replace H : (some (t306, true)) = some (r1, r2) := H
 have A14 := Aside0.mk A140
 clear A140
 simp only [Option.some.injEq, Prod.mk.injEq] at H
 obtain ⟨rfl, rfl⟩ := H
 go_enter Try.func10, Try.ntmps10
 go_wp2_with (first | ((with_reducible refine gate_dst (N := 3) rfl ?_); refine box_event ?hg (N := 3) ?hd (cs := #[.int .i64 a0_0, .int .i64 a0_1, .slice A0_2 l0_2.length c0_2]) (t := 26) ?hr ?_; (case hd => rfl); (case hg => rfl); (case hr => exact zqS); intro gb303 hg w15 hbox hb; have BK303 := Aside0.mk (hbox); have GW303 := Aside0.mk ((by rw [hg]; exact (below_size zq0) : w.heap.size ≤ gb303)); replace HB := Aside0.mk (below_step zq0 hb); have GE303 := GW303; clear hb hbox hg; have hcz16_0 := bz BK303.out 0 (.int .i64 a0_0); have hcz16_1 := bz BK303.out 1 (.int .i64 a0_1); have hcz16_2 := bz BK303.out 2 (.slice A0_2 l0_2.length c0_2); have hfz16_0 := blk_frozen BK303.out 0; have hfz16_1 := blk_frozen BK303.out 1; have hfz16_2 := blk_frozen BK303.out 2) | ((with_reducible refine gate_callee (f := 24) rfl ?_); refine goesL_ (some 10) rfl rfl Try.func24 (by kernel_rfl) rfl #[.agg #[.int .i64 a0_0, .int .i64 a0_1, .slice A0_2 l0_2.length c0_2], .int .i64 a1] rfl zq1 ?_; (with_reducible refine (spec_l13There.calls k a0_0 a0_1 _ _ l0_2 a1 true _ ?side1 ?side2 A4.out).mono ?_); (case side1 => exact zqC (Kd.C_below HR0_2.out HB.out)); (case side2 => exact HC0_2.out); rintro e w17 ⟨rfl, hb⟩; refine ⟨_, rfl, ?_⟩; replace BK303 := Aside0.mk (blk_below (g := gb303) (o := .cells #[.int .i64 a0_0, .int .i64 a0_1, .slice A0_2 l0_2.length c0_2] 26 (0, 0)) (zqK BK303.out) hb); replace HB := Aside0.mk (below_step zq21 hb); (try clear hb); (try clear hb2); (try clear hk); (try clear hi); have hcz18_0 := bz BK303.out 0 (.int .i64 a0_0); have hcz18_1 := bz BK303.out 1 (.int .i64 a0_1); have hcz18_2 := bz BK303.out 2 (.slice A0_2 l0_2.length c0_2); have hfz18_0 := blk_frozen BK303.out 0; have hfz18_1 := blk_frozen BK303.out 1; have hfz18_2 := blk_frozen BK303.out 2) | (go_at_call 24; (with_reducible refine (spec_l13There.calls k a0_0 a0_1 _ _ l0_2 a2 true _ ?side1 ?side2 A6.out).mono ?_); (case side1 => exact zqC (Kd.C_below HR0_2.out HB.out)); (case side2 => exact HC0_2.out); rintro e w19 ⟨rfl, hb⟩; replace BK303 := Aside0.mk (blk_below (g := gb303) (o := .cells #[.int .i64 a0_0, .int .i64 a0_1, .slice A0_2 l0_2.length c0_2] 26 (0, 0)) (zqK BK303.out) hb); replace HB := Aside0.mk (below_step zq21 hb); (try clear hb); (try clear hb2); (try clear hk); (try clear hi); have hcz20_0 := bz BK303.out 0 (.int .i64 a0_0); have hcz20_1 := bz BK303.out 1 (.int .i64 a0_1); have hcz20_2 := bz BK303.out 2 (.slice A0_2 l0_2.length c0_2); have hfz20_0 := blk_frozen BK303.out 0; have hfz20_1 := blk_frozen BK303.out 1; have hfz20_2 := blk_frozen BK303.out 2) | ((with_reducible refine gate_callee (f := 27) rfl ?_); refine goesL_ (some 26) rfl rfl Try.func27 (by kernel_rfl) rfl #[.agg #[.int .i64 a0_0, .int .i64 a0_1, .slice A0_2 l0_2.length c0_2], .int .i64 a1, .int .i64 a2] rfl zq1 ?_; (with_reducible refine (spec_l13Border.calls k a0_0 a0_1 _ _ l0_2 a1 a2 t306 _ ?side1 ?side2 A14.out).mono ?_); (case side1 => exact zqC (Kd.C_below HR0_2.out HB.out)); (case side2 => exact HC0_2.out); rintro e w21 ⟨rfl, hb⟩; refine ⟨_, rfl, ?_⟩; replace BK303 := Aside0.mk (blk_below (g := gb303) (o := .cells #[.int .i64 a0_0, .int .i64 a0_1, .slice A0_2 l0_2.length c0_2] 26 (0, 0)) (zqK BK303.out) hb); replace HB := Aside0.mk (below_step zq21 hb); (try clear hb); (try clear hb2); (try clear hk); (try clear hi)))
 go_ret2
 exact ⟨zqE, zq21⟩

/-! ### impl_AreaCells: function 11 -/
def impl_AreaCells.f (k : Nat) (a0_0 : Int) (a0_1 : Int) (l0_2 : List Int) (a1 : Int) : Option (Int × Bool) := (impl_hasAreas.f k a0_0 a0_1 l0_2 (([a1] : List Int))).bind fun t311 => (if t311 = true then ((impl_cellsOf.f k a0_0 a0_1 l0_2 a1).bind fun t312 => (some ((t312.length : Int), true))) else (some (0, false)))
set_option maxHeartbeats 8000000 in
set_option maxRecDepth 100000 in
theorem impl_AreaCells.calls (k : Nat) (a0_0 : Int) (a0_1 : Int) (A0_2 : Option Addr) (c0_2 : Nat) (l0_2 : List Int) (a1 : Int) (r1 : Int) (r2 : Bool) (w : World) (hr0_2 : Kd.C (Kd.int .i64) w A0_2 l0_2.length l0_2) (hc0_2 : l0_2.length ≤ c0_2) (h : impl_AreaCells.f k a0_0 a0_1 l0_2 a1 = some (r1, r2)) :
  Calls Try.prog 11 #[.agg #[.int .i64 a0_0, .int .i64 a0_1, .slice A0_2 l0_2.length c0_2], .int .i64 a1] w fun e w' => e = .returned (.tuple #[.int .i64 r1, .bool r2]) ∧ Below w.heap.size w w' := by
 have hu26 := Try.underlying26
 have HR0_2 := Aside0.mk hr0_2
 have HC0_2 := Aside0.mk hc0_2
 clear hr0_2 hc0_2
 have HB := Aside0.mk (Below.refl w.heap.size w)
 have H : ((impl_hasAreas.f k a0_0 a0_1 l0_2 (([a1] : List Int))).bind fun t311 => (if t311 = true then ((impl_cellsOf.f k a0_0 a0_1 l0_2 a1).bind fun t312 => (some ((t312.length : Int), true))) else (some (0, false)))) = some (r1, r2) := h
 clear h
 obtain ⟨y308, hy308⟩ : ∃ y_ : List Int, y_ = (([a1] : List Int)) := ⟨_, rfl⟩
 replace H : ((impl_hasAreas.f k a0_0 a0_1 l0_2 y308).bind fun t311 => (if t311 = true then ((impl_cellsOf.f k a0_0 a0_1 l0_2 a1).bind fun t312 => (some ((t312.length : Int), true))) else (some (0, false)))) = some (r1, r2) := zqH hy308 H
 have Ny308 := Aside0.mk hy308
 clear hy308
 replace H := Option.bind_eq_some_iff.mp H
 obtain ⟨t311, A30, H⟩ := H
 replace H : (if t311 = true then ((impl_cellsOf.f k a0_0 a0_1 l0_2 a1).bind fun t312 => (some ((t312.length : Int), true))) else (some (0, false))) = some (r1, r2) := H
 have A3 := Aside0.mk A30
 clear A30
 by_cases c4 : t311 = true
 case neg =>
  replace c4 := Bool.eq_false_iff.mpr c4
  subst c4
  have H1 : (some (0, false)) = some (r1, r2) := by rw [if_neg (show ¬ (false = true) by decide)] at H; exact H
  clear H
  have H := H1
  clear H1
  simp only [Option.some.injEq, Prod.mk.injEq] at H
  obtain ⟨rfl, rfl⟩ := H
  go_enter Try.func11, Try.ntmps11
  go_wp2_with (first | ((with_reducible refine gate_dst (N := 2) rfl ?_); refine box_event ?hg (N := 2) ?hd (cs := #[.int .i64 a0_0, .int .i64 a0_1, .slice A0_2 l0_2.length c0_2]) (t := 26) ?hr ?_; (case hd => rfl); (case hg => rfl); (case hr => exact zqS); intro gb307 hg w15 hbox hb; have BK307 := Aside0.mk (hbox); have GW307 := Aside0.mk ((by rw [hg]; exact (below_size zq0) : w.heap.size ≤ gb307)); replace HB := Aside0.mk (below_step zq0 hb); have GE307 := GW307; clear hb hbox hg; have hcz16_0 := bz BK307.out 0 (.int .i64 a0_0); have hcz16_1 := bz BK307.out 1 (.int .i64 a0_1); have hcz16_2 := bz BK307.out 2 (.slice A0_2 l0_2.length c0_2); have hfz16_0 := blk_frozen BK307.out 0; have hfz16_1 := blk_frozen BK307.out 1; have hfz16_2 := blk_frozen BK307.out 2) | ((with_reducible refine gate_dst (N := 8) rfl ?_); refine Kd.R_lit (Kd.int .i64) _ 3 ?hg (N := 8) ?hd (xs := ([a1] : List Int)) (inner := [.int .i64 a1]) (ok := fun _ => True) (okp := fun _ => True) ?hr ?hp (fun _ hk => hk) trivial (Below.refl _ _) (Nat.le_refl _) (by simp) ?_; (case hd => rfl); (case hg => rfl); (case hr => exact zqS); (case hp => exact (Reps.one (show Kd.M (Kd.int .i64) _ _ _ a1 [.int .i64 a1] from rfl) (Reps.none _ _))); intro v309 w17 ho18 hb hg_ hnew_; clear hg_ hnew_; (first | rw [← Ny308.out] at ho18 | (simp only [Int.reduceToNat] at ho18; rw [← Ny308.out] at ho18)); have HO310 := Aside0.mk (Kd.R_lower ho18 (below_size zq28)); replace BK307 := Aside0.mk (blk_below (g := gb307) (o := .cells #[.int .i64 a0_0, .int .i64 a0_1, .slice A0_2 l0_2.length c0_2] 26 (0, 0)) (zqK BK307.out) hb); replace HB := Aside0.mk (below_step zq28 hb); clear hb ho18; obtain ⟨Ao19, co19, eo19⟩ := Kd.R_slice HO310.out; subst eo19) | ((with_reducible refine gate_callee (f := 21) rfl ?_); refine goesL_ (some 9) rfl rfl Try.func21 (by kernel_rfl) rfl #[.agg #[.int .i64 a0_0, .int .i64 a0_1, .slice A0_2 l0_2.length c0_2], .slice Ao19 y308.length co19] rfl zq1 ?_; (with_reducible refine (impl_hasAreas.calls k a0_0 a0_1 _ _ l0_2 _ _ y308 false _ ?side1 ?side2 ?side3 ?side4 A3.out).mono ?_); (case side1 => exact zqC (Kd.C_below HR0_2.out HB.out)); (case side2 => exact HC0_2.out); (case side3 => exact zqC (Kd.R_reads' HO310.out).2.2); (case side4 => exact (Kd.R_reads' HO310.out).2.1); rintro e w20 ⟨rfl, hb⟩; refine ⟨_, rfl, ?_⟩; replace HO310 := Aside0.mk (Kd.R_below (zqR HO310.out) hb); replace BK307 := Aside0.mk (blk_below (g := gb307) (o := .cells #[.int .i64 a0_0, .int .i64 a0_1, .slice A0_2 l0_2.length c0_2] 26 (0, 0)) (zqK BK307.out) hb); replace HB := Aside0.mk (below_step zq28 hb); (try clear hb); (try clear hb2); (try clear hk); (try clear hi)))
  go_ret2
  exact ⟨zqE, zq28⟩
 subst c4
 have H1 : ((impl_cellsOf.f k a0_0 a0_1 l0_2 a1).bind fun t312 => (some ((t312.length : Int), true))) = some (r1, r2) := by rw [if_pos rfl] at H; exact H
 clear H
 have H := H1
 clear H1
 replace H := Option.bind_eq_some_iff.mp H
 obtain ⟨t312, A50, H⟩ := H
 replace H : (some ((t312.length : Int), true)) = some (r1, r2) := H
 have A5 := Aside0.mk A50
 clear A50
 simp only [Option.some.injEq, Prod.mk.injEq] at H
 obtain ⟨rfl, rfl⟩ := H
 go_enter Try.func11, Try.ntmps11
 go_wp2_with (first | ((with_reducible refine gate_dst (N := 2) rfl ?_); refine box_event ?hg (N := 2) ?hd (cs := #[.int .i64 a0_0, .int .i64 a0_1, .slice A0_2 l0_2.length c0_2]) (t := 26) ?hr ?_; (case hd => rfl); (case hg => rfl); (case hr => exact zqS); intro gb307 hg w6 hbox hb; have BK307 := Aside0.mk (hbox); have GW307 := Aside0.mk ((by rw [hg]; exact (below_size zq0) : w.heap.size ≤ gb307)); replace HB := Aside0.mk (below_step zq0 hb); have GE307 := GW307; clear hb hbox hg; have hcz7_0 := bz BK307.out 0 (.int .i64 a0_0); have hcz7_1 := bz BK307.out 1 (.int .i64 a0_1); have hcz7_2 := bz BK307.out 2 (.slice A0_2 l0_2.length c0_2); have hfz7_0 := blk_frozen BK307.out 0; have hfz7_1 := blk_frozen BK307.out 1; have hfz7_2 := blk_frozen BK307.out 2) | ((with_reducible refine gate_dst (N := 8) rfl ?_); refine Kd.R_lit (Kd.int .i64) _ 3 ?hg (N := 8) ?hd (xs := ([a1] : List Int)) (inner := [.int .i64 a1]) (ok := fun _ => True) (okp := fun _ => True) ?hr ?hp (fun _ hk => hk) trivial (Below.refl _ _) (Nat.le_refl _) (by simp) ?_; (case hd => rfl); (case hg => rfl); (case hr => exact zqS); (case hp => exact (Reps.one (show Kd.M (Kd.int .i64) _ _ _ a1 [.int .i64 a1] from rfl) (Reps.none _ _))); intro v309 w8 ho9 hb hg_ hnew_; clear hg_ hnew_; (first | rw [← Ny308.out] at ho9 | (simp only [Int.reduceToNat] at ho9; rw [← Ny308.out] at ho9)); have HO310 := Aside0.mk (Kd.R_lower ho9 (below_size zq28)); replace BK307 := Aside0.mk (blk_below (g := gb307) (o := .cells #[.int .i64 a0_0, .int .i64 a0_1, .slice A0_2 l0_2.length c0_2] 26 (0, 0)) (zqK BK307.out) hb); replace HB := Aside0.mk (below_step zq28 hb); clear hb ho9; obtain ⟨Ao10, co10, eo10⟩ := Kd.R_slice HO310.out; subst eo10) | ((with_reducible refine gate_callee (f := 21) rfl ?_); refine goesL_ (some 9) rfl rfl Try.func21 (by kernel_rfl) rfl #[.agg #[.int .i64 a0_0, .int .i64 a0_1, .slice A0_2 l0_2.length c0_2], .slice Ao10 y308.length co10] rfl zq1 ?_; (with_reducible refine (impl_hasAreas.calls k a0_0 a0_1 _ _ l0_2 _ _ y308 true _ ?side1 ?side2 ?side3 ?side4 A3.out).mono ?_); (case side1 => exact zqC (Kd.C_below HR0_2.out HB.out)); (case side2 => exact HC0_2.out); (case side3 => exact zqC (Kd.R_reads' HO310.out).2.2); (case side4 => exact (Kd.R_reads' HO310.out).2.1); rintro e w11 ⟨rfl, hb⟩; refine ⟨_, rfl, ?_⟩; replace HO310 := Aside0.mk (Kd.R_below (zqR HO310.out) hb); replace BK307 := Aside0.mk (blk_below (g := gb307) (o := .cells #[.int .i64 a0_0, .int .i64 a0_1, .slice A0_2 l0_2.length c0_2] 26 (0, 0)) (zqK BK307.out) hb); replace HB := Aside0.mk (below_step zq28 hb); (try clear hb); (try clear hb2); (try clear hk); (try clear hi); have hcz12_0 := bz BK307.out 0 (.int .i64 a0_0); have hcz12_1 := bz BK307.out 1 (.int .i64 a0_1); have hcz12_2 := bz BK307.out 2 (.slice A0_2 l0_2.length c0_2); have hfz12_0 := blk_frozen BK307.out 0; have hfz12_1 := blk_frozen BK307.out 1; have hfz12_2 := blk_frozen BK307.out 2) | ((with_reducible refine gate_callee (f := 23) rfl ?_); refine goesL_ (some 13) rfl rfl Try.func23 (by kernel_rfl) rfl #[.agg #[.int .i64 a0_0, .int .i64 a0_1, .slice A0_2 l0_2.length c0_2], .int .i64 a1] rfl zq1 ?_; (with_reducible refine (impl_cellsOf.calls k a0_0 a0_1 _ _ l0_2 a1 t312 _ ?side1 ?side2 A5.out).mono ?_); (case side1 => exact zqC (Kd.C_below HR0_2.out HB.out)); (case side2 => exact HC0_2.out); rintro e w13 ⟨v313, rfl, ho0, hb⟩; refine ⟨_, rfl, ?_⟩; have HO314 := Aside0.mk (Kd.R_lower (Kd.R_new' ho0 (Kd.R_lt (zqR HO310.out))) (below_size zq28)); replace HO310 := Aside0.mk (Kd.R_elder' (zqR HO310.out) (Kd.R_base ho0) hb); replace BK307 := Aside0.mk (blk_below (g := gb307) (o := .cells #[.int .i64 a0_0, .int .i64 a0_1, .slice A0_2 l0_2.length c0_2] 26 (0, 0)) (zqK BK307.out) hb); replace HB := Aside0.mk (below_step zq28 hb); (try clear hb); (try clear hb2); (try clear hk); (try clear hi); (try clear ho0); obtain ⟨Ao14, co14, eo14⟩ := Kd.R_slice HO314.out; subst eo14))
 go_ret2
 exact ⟨zqE, zq28⟩

/-! ### impl_NeighborsOf: function 12 -/
def impl_NeighborsOf.l0 : Nat → Int → List Int → Int → Int → Int → List Int → Option (List Int × Bool)
 | 0, _, _, _, _, _, _ => none
 | k + 1, x1, x6, x7, x316000, x316001, x316002 => if x7 ≤ 9 then (if x7 = x1 then (impl_NeighborsOf.l0 k x1 x6 (wrap64 (x7 + 1)) x316000 x316001 x316002) else ((impl_commonSides.f k x316000 x316001 x316002 x1 x7).bind fun t320 => (if t320 > 0 then (if x6.length < 17592186044416 then (impl_NeighborsOf.l0 k x1 (x6 ++ [x7]) (wrap64 (x7 + 1)) x316000 x316001 x316002) else (none)) else (impl_NeighborsOf.l0 k x1 x6 (wrap64 (x7 + 1)) x316000 x316001 x316002)))) else (some (x6, true))
def impl_NeighborsOf.f (k : Nat) (a0_0 : Int) (a0_1 : Int) (l0_2 : List Int) (a1 : Int) : Option (List Int × Bool) := (impl_hasAreas.f k a0_0 a0_1 l0_2 (([a1] : List Int))).bind fun t319 => (if t319 = true then (impl_NeighborsOf.l0 k a1 ([] : List Int) 1 a0_0 a0_1 l0_2) else (some (([] : List Int), false)))
set_option maxHeartbeats 8000000 in
set_option maxRecDepth 100000 in
theorem impl_NeighborsOf.calls (k : Nat) (a0_0 : Int) (a0_1 : Int) (A0_2 : Option Addr) (c0_2 : Nat) (l0_2 : List Int) (a1 : Int) (r1 : List Int) (r2 : Bool) (w : World) (hr0_2 : Kd.C (Kd.int .i64) w A0_2 l0_2.length l0_2) (hc0_2 : l0_2.length ≤ c0_2) (h : impl_NeighborsOf.f k a0_0 a0_1 l0_2 a1 = some (r1, r2)) :
  Calls Try.prog 12 #[.agg #[.int .i64 a0_0, .int .i64 a0_1, .slice A0_2 l0_2.length c0_2], .int .i64 a1] w fun e w' => ∃ v0_ : Value, e = .returned (.tuple #[v0_, .bool r2]) ∧ Kd.R (Kd.int .i64) 3 w' w.heap.size (fun _ => True) v0_ r1 ∧ Below w.heap.size w w' := by
 have hu26 := Try.underlying26
 have HR0_2 := Aside0.mk hr0_2
 have HC0_2 := Aside0.mk hc0_2
 clear hr0_2 hc0_2
 have HB := Aside0.mk (Below.refl w.heap.size w)
 have H : ((impl_hasAreas.f k a0_0 a0_1 l0_2 (([a1] : List Int))).bind fun t319 => (if t319 = true then (impl_NeighborsOf.l0 k a1 ([] : List Int) 1 a0_0 a0_1 l0_2) else (some (([] : List Int), false)))) = some (r1, r2) := h
 clear h
 obtain ⟨y316, hy316⟩ : ∃ y_ : List Int, y_ = (([a1] : List Int)) := ⟨_, rfl⟩
 replace H : ((impl_hasAreas.f k a0_0 a0_1 l0_2 y316).bind fun t319 => (if t319 = true then (impl_NeighborsOf.l0 k a1 ([] : List Int) 1 a0_0 a0_1 l0_2) else (some (([] : List Int), false)))) = some (r1, r2) := zqH hy316 H
 have Ny316 := Aside0.mk hy316
 clear hy316
 replace H := Option.bind_eq_some_iff.mp H
 obtain ⟨t319, A30, H⟩ := H
 replace H : (if t319 = true then (impl_NeighborsOf.l0 k a1 ([] : List Int) 1 a0_0 a0_1 l0_2) else (some (([] : List Int), false))) = some (r1, r2) := H
 have A3 := Aside0.mk A30
 clear A30
 by_cases c4 : t319 = true
 case neg =>
  replace c4 := Bool.eq_false_iff.mpr c4
  subst c4
  have H1 : (some (([] : List Int), false)) = some (r1, r2) := by rw [if_neg (show ¬ (false = true) by decide)] at H; exact H
  clear H
  have H := H1
  clear H1
  simp only [Option.some.injEq, Prod.mk.injEq] at H
  obtain ⟨rfl, rfl⟩ := H
  go_enter Try.func12, Try.ntmps12
  go_wp2_with (first | ((with_reducible refine gate_dst (N := 2) rfl ?_); refine box_event ?hg (N := 2) ?hd (cs := #[.int .i64 a0_0, .int .i64 a0_1, .slice A0_2 l0_2.length c0_2]) (t := 26) ?hr ?_; (case hd => rfl); (case hg => rfl); (case hr => exact zqS); intro gb315 hg w21 hbox hb; have BK315 := Aside0.mk (hbox); have GW315 := Aside0.mk ((by rw [hg]; exact (below_size zq0) : w.heap.size ≤ gb315)); replace HB := Aside0.mk (below_step zq0 hb); have GE315 := GW315; clear hb hbox hg; have hcz22_0 := bz BK315.out 0 (.int .i64 a0_0); have hcz22_1 := bz BK315.out 1 (.int .i64 a0_1); have hcz22_2 := bz BK315.out 2 (.slice A0_2 l0_2.length c0_2); have hfz22_0 := blk_frozen BK315.out 0; have hfz22_1 := blk_frozen BK315.out 1; have hfz22_2 := blk_frozen BK315.out 2) | ((with_reducible refine gate_dst (N := 10) rfl ?_); refine Kd.R_lit (Kd.int .i64) _ 3 ?hg (N := 10) ?hd (xs := ([a1] : List Int)) (inner := [.int .i64 a1]) (ok := fun _ => True) (okp := fun _ => True) ?hr ?hp (fun _ hk => hk) trivial (Below.refl _ _) (Nat.le_refl _) (by simp) ?_; (case hd => rfl); (case hg => rfl); (case hr => exact zqS); (case hp => exact (Reps.one (show Kd.M (Kd.int .i64) _ _ _ a1 [.int .i64 a1] from rfl) (Reps.none _ _))); intro v317 w23 ho24 hb hg_ hnew_; clear hg_ hnew_; (first | rw [← Ny316.out] at ho24 | (simp only [Int.reduceToNat] at ho24; rw [← Ny316.out] at ho24)); have HO318 := Aside0.mk (Kd.R_lower ho24 (below_size zq14)); replace BK315 := Aside0.mk (blk_below (g := gb315) (o := .cells #[.int .i64 a0_0, .int .i64 a0_1, .slice A0_2 l0_2.length c0_2] 26 (0, 0)) (zqK BK315.out) hb); replace HB := Aside0.mk (below_step zq14 hb); clear hb ho24; obtain ⟨Ao25, co25, eo25⟩ := Kd.R_slice HO318.out; subst eo25) | ((with_reducible refine gate_callee (f := 21) rfl ?_); refine goesL_ (some 11) rfl rfl Try.func21 (by kernel_rfl) rfl #[.agg #[.int .i64 a0_0, .int .i64 a0_1, .slice A0_2 l0_2.length c0_2], .slice Ao25 y316.length co25] rfl zq1 ?_; (with_reducible refine (impl_hasAreas.calls k a0_0 a0_1 _ _ l0_2 _ _ y316 false _ ?side1 ?side2 ?side3 ?side4 A3.out).mono ?_); (case side1 => exact zqC (Kd.C_below HR0_2.out HB.out)); (case side2 => exact HC0_2.out); (case side3 => exact zqC (Kd.R_reads' HO318.out).2.2); (case side4 => exact (Kd.R_reads' HO318.out).2.1); rintro e w26 ⟨rfl, hb⟩; refine ⟨_, rfl, ?_⟩; replace HO318 := Aside0.mk (Kd.R_below (zqR HO318.out) hb); replace BK315 := Aside0.mk (blk_below (g := gb315) (o := .cells #[.int .i64 a0_0, .int .i64 a0_1, .slice A0_2 l0_2.length c0_2] 26 (0, 0)) (zqK BK315.out) hb); replace HB := Aside0.mk (below_step zq14 hb); (try clear hb); (try clear hb2); (try clear hk); (try clear hi)))
  go_ret2
  exact ⟨_, by first | rfl | (simp [errW_none, errW_some] <;> rfl) | (simp [*, errW_none, errW_some] <;> rfl), by first | exact Kd.R_nil _ _ _ _ _ | exact Kd.N_nil _ _ _ _ _ | exact Kd.V_nil _ _ _ _ _ | exact Kd.Q_nil _ _ _ _ _ | exact Kd.S_nil _ _ _ _ _, zq14⟩
 subst c4
 have H1 : (impl_NeighborsOf.l0 k a1 ([] : List Int) 1 a0_0 a0_1 l0_2) = some (r1, r2) := by rw [if_pos rfl] at H; exact H
 clear H
 have H := H1
 clear H1
 have H' := Aside0.mk H
 clear H
 go_enter Try.func12, Try.ntmps12
 go_wp2_with (first | ((with_reducible refine gate_dst (N := 2) rfl ?_); refine box_event ?hg (N := 2) ?hd (cs := #[.int .i64 a0_0, .int .i64 a0_1, .slice A0_2 l0_2.length c0_2]) (t := 26) ?hr ?_; (case hd => rfl); (case hg => rfl); (case hr => exact zqS); intro gb315 hg w5 hbox hb; have BK315 := Aside0.mk (hbox); have GW315 := Aside0.mk ((by rw [hg]; exact (below_size zq0) : w.heap.size ≤ gb315)); replace HB := Aside0.mk (below_step zq0 hb); have GE315 := GW315; clear hb hbox hg; have hcz6_0 := bz BK315.out 0 (.int .i64 a0_0); have hcz6_1 := bz BK315.out 1 (.int .i64 a0_1); have hcz6_2 := bz BK315.out 2 (.slice A0_2 l0_2.length c0_2); have hfz6_0 := blk_frozen BK315.out 0; have hfz6_1 := blk_frozen BK315.out 1; have hfz6_2 := blk_frozen BK315.out 2) | ((with_reducible refine gate_dst (N := 10) rfl ?_); refine Kd.R_lit (Kd.int .i64) _ 3 ?hg (N := 10) ?hd (xs := ([a1] : List Int)) (inner := [.int .i64 a1]) (ok := fun _ => True) (okp := fun _ => True) ?hr ?hp (fun _ hk => hk) trivial (Below.refl _ _) (Nat.le_refl _) (by simp) ?_; (case hd => rfl); (case hg => rfl); (case hr => exact zqS); (case hp => exact (Reps.one (show Kd.M (Kd.int .i64) _ _ _ a1 [.int .i64 a1] from rfl) (Reps.none _ _))); intro v317 w7 ho8 hb hg_ hnew_; clear hg_ hnew_; (first | rw [← Ny316.out] at ho8 | (simp only [Int.reduceToNat] at ho8; rw [← Ny316.out] at ho8)); have HO318 := Aside0.mk (Kd.R_lower ho8 (below_size zq14)); replace BK315 := Aside0.mk (blk_below (g := gb315) (o := .cells #[.int .i64 a0_0, .int .i64 a0_1, .slice A0_2 l0_2.length c0_2] 26 (0, 0)) (zqK BK315.out) hb); replace HB := Aside0.mk (below_step zq14 hb); clear hb ho8; obtain ⟨Ao9, co9, eo9⟩ := Kd.R_slice HO318.out; subst eo9) | ((with_reducible refine gate_callee (f := 21) rfl ?_); refine goesL_ (some 11) rfl rfl Try.func21 (by kernel_rfl) rfl #[.agg #[.int .i64 a0_0, .int .i64 a0_1, .slice A0_2 l0_2.length c0_2], .slice Ao9 y316.length co9] rfl zq1 ?_; (with_reducible refine (impl_hasAreas.calls k a0_0 a0_1 _ _ l0_2 _ _ y316 true _ ?side1 ?side2 ?side3 ?side4 A3.out).mono ?_); (case side1 => exact zqC (Kd.C_below HR0_2.out HB.out)); (case side2 => exact HC0_2.out); (case side3 => exact zqC (Kd.R_reads' HO318.out).2.2); (case side4 => exact (Kd.R_reads' HO318.out).2.1); rintro e w10 ⟨rfl, hb⟩; refine ⟨_, rfl, ?_⟩; replace HO318 := Aside0.mk (Kd.R_below (zqR HO318.out) hb); replace BK315 := Aside0.mk (blk_below (g := gb315) (o := .cells #[.int .i64 a0_0, .int .i64 a0_1, .slice A0_2 l0_2.length c0_2] 26 (0, 0)) (zqK BK315.out) hb); replace HB := Aside0.mk (below_step zq14 hb); (try clear hb); (try clear hb2); (try clear hk); (try clear hi)))
 go_loopg [6, 7] k (fun kq v6 v7 w' => ∃ (x6_1 : List Int) (x7_1 : Int), v7 = .int .i64 x7_1 ∧ Aside0 (impl_NeighborsOf.l0 kq a1 x6_1 x7_1 a0_0 a0_1 l0_2 = some (r1, r2)) ∧ Aside0 (kq ≤ k) ∧ Aside0 (Kd.R (Kd.int .i64) 3 w' w.heap.size (fun _ => True) v6 x6_1) ∧ Aside0 (w'.heap[gb315]? = some (.cells #[.int .i64 a0_0, .int .i64 a0_1, (.slice A0_2 l0_2.length c0_2)] 26 (0, 0))) ∧ Aside0 (Below w.heap.size w w'))
 case atStart => exact ⟨(([] : List Int)), (1), (by first | rfl | (simp; done) | (simp [*]; done)), H', ⟨Nat.le_refl _⟩, ⟨by first | exact Kd.R_nil _ _ _ _ _ | exact Kd.N_nil _ _ _ _ _ | exact Kd.V_nil _ _ _ _ _ | exact Kd.Q_nil _ _ _ _ _ | exact Kd.S_nil _ _ _ _ _⟩, ⟨by (with_reducible repeat (first | refine blk_drewN ?_ _ | refine blk_drew ?_ | refine blk_alloc ?_ _)); exact BK315.out⟩, ⟨zq14⟩⟩
 clear H'
 try clear c1
 try clear c2
 try clear p2
 try clear c4
 try clear hcz6_0
 try clear hcz6_1
 try clear hcz6_2
 try clear hfz6_0
 try clear hfz6_1
 try clear hfz6_2
 obtain ⟨x6_1, x7_1, rfl, HA, HK1, HO_6, BK315, HB⟩ := hrel
 cases gk with
 | zero => exact absurd HA.out (by simp [impl_NeighborsOf.l0])
 | succ k1 =>
  have H := HA.out
  clear HA
  simp only [impl_NeighborsOf.l0] at H
  by_cases c11 : x7_1 ≤ 9
  case neg =>
   rw [if_neg c11] at H
   have c11b0 : decide (x7_1 ≤ 9) = false := decide_eq_false c11
   clear c11
   simp only [Option.some.injEq, Prod.mk.injEq] at H
   obtain ⟨rfl, rfl⟩ := H
   go_wp2
   go_ret2
   exact ⟨_, by first | rfl | (simp [errW_none, errW_some] <;> rfl) | (simp [*, errW_none, errW_some] <;> rfl), zqR HO_6.out, zq14⟩
  rw [if_pos c11] at H
  have c11b0 : decide (x7_1 ≤ 9) = true := decide_eq_true c11
  clear c11
  by_cases c12 : x7_1 = a1
  case pos =>
   rw [if_pos c12] at H
   have c12b0 : (x7_1 == a1) = true := beq_iff_eq.mpr c12
   have c12b1 : (x7_1 != a1) = false := bne_eq_false_iff_eq.mpr c12
   clear c12
   have H' := Aside0.mk H
   clear H
   go_wp2
   go_roundg k1
   case measure => have := HK1.out; omega
   case rel => exact ⟨(x6_1), (wrap64 (x7_1 + 1)), (by first | rfl | (simp; done) | (simp [*]; done)), H', ⟨by have := HK1.out; omega⟩, ⟨zqR HO_6.out⟩, ⟨by (with_reducible repeat (first | refine blk_drewN ?_ _ | refine blk_drew ?_ | refine blk_alloc ?_ _)); exact BK315.out⟩, ⟨zq14⟩⟩
  rw [if_neg c12] at H
  have c12b0 : (x7_1 == a1) = false := beq_eq_false_iff_ne.mpr c12
  have c12b1 : (x7_1 != a1) = true := bne_iff_ne.mpr c12
  replace H := Option.bind_eq_some_iff.mp H
  obtain ⟨t320, A130, H⟩ := H
  replace H : (if t320 > 0 then (if x6_1.length < 17592186044416 then (impl_NeighborsOf.l0 k1 a1 (x6_1 ++ [x7_1]) (wrap64 (x7_1 + 1)) a0_0 a0_1 l0_2) else (none)) else (impl_NeighborsOf.l0 k1 a1 x6_1 (wrap64 (x7_1 + 1)) a0_0 a0_1 l0_2)) = some (r1, r2) := H
  have A13 := Aside0.mk A130
  clear A130
  by_cases c14 : t320 > 0
  case neg =>
   rw [if_neg c14] at H
   have c14b0 : decide (0 < t320) = false := decide_eq_false c14
   clear c14
   have H' := Aside0.mk H
   clear H
   have hcz19_0 := bz BK315.out 0 (.int .i64 a0_0)
   have hcz19_1 := bz BK315.out 1 (.int .i64 a0_1)
   have hcz19_2 := bz BK315.out 2 (.slice A0_2 l0_2.length c0_2)
   have hfz19_0 := blk_frozen BK315.out 0
   have hfz19_1 := blk_frozen BK315.out 1
   have hfz19_2 := blk_frozen BK315.out 2
   go_wp2_with (first | (go_at_call 26; (with_reducible refine (impl_commonSides.calls k1 a0_0 a0_1 _ _ l0_2 a1 x7_1 t320 _ ?side1 ?side2 A13.out).mono ?_); (case side1 => exact zqC (Kd.C_below HR0_2.out HB.out)); (case side2 => exact HC0_2.out); rintro e w20 ⟨rfl, hb⟩; replace HO_6 := Aside0.mk (Kd.R_below (zqR HO_6.out) hb); replace BK315 := Aside0.mk (blk_below (g := gb315) (o := .cells #[.int .i64 a0_0, .int .i64 a0_1, .slice A0_2 l0_2.length c0_2] 26 (0, 0)) (zqK BK315.out) hb); replace HB := Aside0.mk (below_step zq14 hb); (try clear hb); (try clear hb2); (try clear hk); (try clear hi)))
   go_roundg k1
   case measure => have := HK1.out; omega
   case rel => exact ⟨(x6_1), (wrap64 (x7_1 + 1)), (by first | rfl | (simp; done) | (simp [*]; done)), H', ⟨by have := HK1.out; omega⟩, ⟨zqR HO_6.out⟩, ⟨by (with_reducible repeat (first | refine blk_drewN ?_ _ | refine blk_drew ?_ | refine blk_alloc ?_ _)); exact BK315.out⟩, ⟨zq14⟩⟩
  rw [if_pos c14] at H
  have c14b0 : decide (0 < t320) = true := decide_eq_true c14
  clear c14
  by_cases c15 : x6_1.length < 17592186044416
  case neg =>
   rw [if_neg c15] at H
   exact absurd H (by simp)
  rw [if_pos c15] at H
  have LMc15 := Aside0.mk c15
  clear c15
  obtain ⟨y321, hy321⟩ : ∃ y_ : List Int, y_ = (x6_1 ++ [x7_1]) := ⟨_, rfl⟩
  replace H : (impl_NeighborsOf.l0 k1 a1 y321 (wrap64 (x7_1 + 1)) a0_0 a0_1 l0_2) = some (r1, r2) := zqH hy321 H
  have Ny321 := Aside0.mk hy321
  clear hy321
  have H' := Aside0.mk H
  clear H
  have hcz16_0 := bz BK315.out 0 (.int .i64 a0_0)
  have hcz16_1 := bz BK315.out 1 (.int .i64 a0_1)
  have hcz16_2 := bz BK315.out 2 (.slice A0_2 l0_2.length c0_2)
  have hfz16_0 := blk_frozen BK315.out 0
  have hfz16_1 := blk_frozen BK315.out 1
  have hfz16_2 := blk_frozen BK315.out 2
  go_wp2_with (first | (go_at_call 26; (with_reducible refine (impl_commonSides.calls k1 a0_0 a0_1 _ _ l0_2 a1 x7_1 t320 _ ?side1 ?side2 A13.out).mono ?_); (case side1 => exact zqC (Kd.C_below HR0_2.out HB.out)); (case side2 => exact HC0_2.out); rintro e w17 ⟨rfl, hb⟩; replace HO_6 := Aside0.mk (Kd.R_below (zqR HO_6.out) hb); replace BK315 := Aside0.mk (blk_below (g := gb315) (o := .cells #[.int .i64 a0_0, .int .i64 a0_1, .slice A0_2 l0_2.length c0_2] 26 (0, 0)) (zqK BK315.out) hb); replace HB := Aside0.mk (below_step zq14 hb); (try clear hb); (try clear hb2); (try clear hk); (try clear hi)) | ((with_reducible refine gate_builtin (b := .append) (xs := #[.tmp 27, .tmp 29]) rfl ?_); at_builtin; refine Kd.R_append (Kd.int .i64) (w0 := w) w.heap.size rfl (.tmp 27) (.tmp 29) 24 3 (.int .i64 0) 8 rfl Try.underlying24 info3 rfl (by decide) (by omega) u6 x6_1 x7_1 [.int .i64 x7_1] (fun _ => True) (fun _ => False) rfl rfl ?aP (fun _ hk => hk.elim) ?aF ?aO ?aB ?aS ?aL ?_; (case aP => exact rfl); (case aB => exact zq14); (case aF => exact (fun _ _ => trivial)); (case aO => exact (zqR HO_6.out)); (case aS => exact (below_size zq14)); (case aL => have := LMc15.out; omega); intro v322 w18 ho hb hg hat; rw [← Ny321.out] at ho; replace BK315 := Aside0.mk (blk_grown (g := gb315) (o := .cells #[.int .i64 a0_0, .int .i64 a0_1, .slice A0_2 l0_2.length c0_2] 26 (0, 0)) (zqK BK315.out) hg (Kd.R_ne HO_6.out BK315.out (by decide))); replace HB := Aside0.mk (hb); have HO323 := Aside0.mk (ho); clear HO_6; clear ho hb hg hat))
  go_roundg k1
  case measure => have := HK1.out; omega
  case rel => exact ⟨(y321), (wrap64 (x7_1 + 1)), (by first | rfl | (simp; done) | (simp [*]; done)), H', ⟨by have := HK1.out; omega⟩, ⟨zqR HO323.out⟩, ⟨by (with_reducible repeat (first | refine blk_drewN ?_ _ | refine blk_drew ?_ | refine blk_alloc ?_ _)); exact BK315.out⟩, ⟨zq14⟩⟩

/-! ### laws_rHas: function 13 -/
def laws_rHas.l0 : Nat → List Int → Int → Int → Option (Bool)
 | 0, _, _, _ => none
 | k + 1, x0, x1, x5 => if x5 < (x0.length : Int) then (if 0 ≤ x5 then (if (rd x0 x5) = x1 then (some true) else (laws_rHas.l0 k x0 x1 (wrap64 (x5 + 1)))) else (none)) else (some false)
def laws_rHas.f (k : Nat) (l0 : List Int) (a1 : Int) : Option (Bool) := laws_rHas.l0 k l0 a1 0
set_option maxHeartbeats 8000000 in
set_option maxRecDepth 100000 in
theorem laws_rHas.calls (k : Nat) (A0 : Option Addr) (c0 : Nat) (l0 : List Int) (a1 : Int) (r : Bool) (w : World) (hr0 : Kd.C (Kd.int .i64) w A0 l0.length l0) (hc0 : l0.length ≤ c0) (h : laws_rHas.f k l0 a1 = some r) :
  Calls Try.prog 13 #[.slice A0 l0.length c0, .int .i64 a1] w fun e w' => e = .returned (.bool r) ∧ Drawn0 w w' := by
 have HR0 := Aside0.mk hr0
 have HC0 := Aside0.mk hc0
 clear hr0 hc0
 have H : (laws_rHas.l0 k l0 a1 0) = some r := h
 clear h
 have H' := Aside0.mk H
 clear H
 go_enter Try.func13, Try.ntmps13
 go_wp2
 go_loopg [5] k (fun kq v5 w' => ∃ (x5_1 : Int), v5 = .int .i64 x5_1 ∧ Aside0 (laws_rHas.l0 kq l0 a1 x5_1 = some r) ∧ Aside0 (kq ≤ k) ∧ Drawn0 w w')
 case atStart => exact ⟨(0), (by first | rfl | (simp; done) | (simp [*]; done)), H', ⟨Nat.le_refl _⟩, zq23⟩
 clear H'
 try clear c1
 try clear p2
 obtain ⟨x5_1, rfl, HA, HK1, ⟨m1, rfl⟩⟩ := hrel
 cases gk with
 | zero => exact absurd HA.out (by simp [laws_rHas.l0])
 | succ k1 =>
  have H := HA.out
  clear HA
  simp only [laws_rHas.l0] at H
  by_cases c3 : x5_1 < (l0.length : Int)
  case neg =>
   rw [if_neg c3] at H
   have c3b0 : decide (x5_1 < (l0.length : Int)) = false := decide_eq_false c3
   clear c3
   obtain rfl := Option.some.inj H
   go_wp2
   go_ret
   exact ⟨by first | rfl | (simp; done) | (simp [*]; done), zq23⟩
  rw [if_pos c3] at H
  have c3b0 : decide (x5_1 < (l0.length : Int)) = true := decide_eq_true c3
  clear c3
  by_cases c4 : 0 ≤ x5_1
  case neg =>
   rw [if_neg c4] at H
   exact absurd H (by simp)
  rw [if_pos c4] at H
  have c4b0 : decide (0 ≤ x5_1) = true := decide_eq_true c4
  clear c4
  by_cases c5 : (rd l0 x5_1) = a1
  case pos =>
   rw [if_pos c5] at H
   have c5b0 : ((rd l0 x5_1) == a1) = true := beq_iff_eq.mpr c5
   have c5b1 : ((rd l0 x5_1) != a1) = false := bne_eq_false_iff_eq.mpr c5
   clear c5
   obtain rfl := Option.some.inj H
   have p324 : 0 ≤ (x5_1 : Int) := of_decide_eq_true zq10
   have q324 : x5_1 < (l0.length : Int) := of_decide_eq_true zq10
   obtain ⟨ad324, e324, hx324_0⟩ := Kd.at_int HR0.out x5_1 p324 q324
   cases e324
   replace p324 := eq_true p324
   replace q324 := eq_true q324
   go_wp2
   go_ret
   exact ⟨by first | rfl | (simp; done) | (simp [*]; done), zq23⟩
  rw [if_neg c5] at H
  have c5b0 : ((rd l0 x5_1) == a1) = false := beq_eq_false_iff_ne.mpr c5
  have c5b1 : ((rd l0 x5_1) != a1) = true := bne_iff_ne.mpr c5
  have H' := Aside0.mk H
  clear H
  have p324 : 0 ≤ (x5_1 : Int) := of_decide_eq_true zq10
  have q324 : x5_1 < (l0.length : Int) := of_decide_eq_true zq10
  obtain ⟨ad324, e324, hx324_0⟩ := Kd.at_int HR0.out x5_1 p324 q324
  cases e324
  replace p324 := eq_true p324
  replace q324 := eq_true q324
  go_wp2
  go_roundg k1
  case measure => have := HK1.out; omega
  case rel => exact ⟨(wrap64 (x5_1 + 1)), (by first | rfl | (simp; done) | (simp [*]; done)), H', ⟨by have := HK1.out; omega⟩, zq23⟩
end Go.Proofs.Ytoaclbbkllpdaaa.Q
