/- Texts of this seat, put together: Qf7, Qf39, Qf24, Qf8, Qf41, Qf26. -/
import Derived.Test.YtcfjglbnhbgbdaaBFnTracking0
import Derived.Test.YtcfjglbnhbgbdaaBFnTracking1
import Derived.Test.YtcfjglbnhbgbdaaBFnTracking2
import Derived.Test.YtcfjglbnhbgbdaaBFnTracking3
namespace Go.Proofs.Ytcfjglbnhbgbdaa.Q
open Go.RowKit Go.Proofs.YtcfjglbnhbgbdaaW.PrintWords Go.Proofs.YtcfjglbnhbgbdaaW.PrintLast Go.Proofs.YtcfjglbnhbgbdaaW.PrintMore
attribute [local go_sem] max2_int min2_int max_two min_two max_three min_three max_four min_four   -- for this text's walks alone
set_option linter.unusedVariables false
set_option linter.unusedSimpArgs false

/-! ### spec_TrackingCost: function 7 -/
def spec_TrackingCost.f (k : Nat) (l0 : List (S54)) (l1 : List (S54)) (l2 : List Int) (a3 : Int) : Option (Int × Bool) := (spec_l12Tracking.f k l0 l1 l2).bind fun t251 => (if t251 = true then ((spec_l12Penalty.f a3).bind fun t252 => (if t252 = true then ((spec_l12Cost.f k l0 l1 l2 a3).bind fun t253 => (some (t253, true))) else (some (0, false)))) else (some (0, false)))
theorem spec_TrackingCost.mono : ∀ a0 a1 a2 a3 k, LeO (spec_TrackingCost.f k a0 a1 a2 a3) (spec_TrackingCost.f (k + 1) a0 a1 a2 a3) := by
 intro a0 a1 a2 a3 k
 unfold spec_TrackingCost.f
 repeat' first
   | (with_reducible exact spec_l12Cost.mono _ _ _ _ _)
   | (with_reducible exact spec_l12Tracking.mono _ _ _ _)
   | (with_reducible exact LeO.refl _)
   | (with_reducible exact LeO.none _)
   | (with_reducible refine LeO.ite ?_ ?_)
   | (with_reducible refine LeO.bind ?_ (fun _ => ?_))
   | exact spec_l12Cost.mono _ _ _ _ _
   | exact spec_l12Tracking.mono _ _ _ _
   | exact LeO.none _
   | refine LeO.ite ?_ ?_
   | refine LeO.bind ?_ (fun _ => ?_)
set_option maxHeartbeats 8000000 in
set_option maxRecDepth 100000 in
theorem spec_TrackingCost.calls (k : Nat) (A0 : Option Addr) (c0 : Nat) (l0 : List (S54)) (A1 : Option Addr) (c1 : Nat) (l1 : List (S54)) (A2 : Option Addr) (c2 : Nat) (l2 : List Int) (a3 : Int) (r1 : Int) (r2 : Bool) (w : World) (hr0 : Kd.C k54 w A0 l0.length l0) (hc0 : l0.length ≤ c0) (hr1 : Kd.C k54 w A1 l1.length l1) (hc1 : l1.length ≤ c1) (hr2 : Kd.C (Kd.int .i64) w A2 l2.length l2) (hc2 : l2.length ≤ c2) (h : spec_TrackingCost.f k l0 l1 l2 a3 = some (r1, r2)) :
  Calls Try.prog 7 #[.slice A0 l0.length c0, .slice A1 l1.length c1, .slice A2 l2.length c2, .int .i64 a3] w fun e w' => e = .returned (.tuple #[.int .i64 r1, .bool r2]) ∧ Below w.heap.size w w' := by
 have HR0 := Aside0.mk hr0
 have HC0 := Aside0.mk hc0
 clear hr0 hc0
 have HR1 := Aside0.mk hr1
 have HC1 := Aside0.mk hc1
 clear hr1 hc1
 have HR2 := Aside0.mk hr2
 have HC2 := Aside0.mk hc2
 clear hr2 hc2
 have HB := Aside0.mk (Below.refl w.heap.size w)
 have H : ((spec_l12Tracking.f k l0 l1 l2).bind fun t251 => (if t251 = true then ((spec_l12Penalty.f a3).bind fun t252 => (if t252 = true then ((spec_l12Cost.f k l0 l1 l2 a3).bind fun t253 => (some (t253, true))) else (some (0, false)))) else (some (0, false)))) = some (r1, r2) := h
 clear h
 replace H := Option.bind_eq_some_iff.mp H
 obtain ⟨t251, A50, H⟩ := H
 replace H : (if t251 = true then ((spec_l12Penalty.f a3).bind fun t252 => (if t252 = true then ((spec_l12Cost.f k l0 l1 l2 a3).bind fun t253 => (some (t253, true))) else (some (0, false)))) else (some (0, false))) = some (r1, r2) := H
 have A5 := Aside0.mk A50
 clear A50
 by_cases c6 : t251 = true
 ·
  subst c6
  have H1 : ((spec_l12Penalty.f a3).bind fun t252 => (if t252 = true then ((spec_l12Cost.f k l0 l1 l2 a3).bind fun t253 => (some (t253, true))) else (some (0, false)))) = some (r1, r2) := by rw [if_pos rfl] at H; exact H
  clear H
  have H := H1
  clear H1
  replace H := Option.bind_eq_some_iff.mp H
  obtain ⟨t252, A70, H⟩ := H
  replace H : (if t252 = true then ((spec_l12Cost.f k l0 l1 l2 a3).bind fun t253 => (some (t253, true))) else (some (0, false))) = some (r1, r2) := H
  have A7 := Aside0.mk A70
  clear A70
  by_cases c8 : t252 = true
  ·
   subst c8
   have H1 : ((spec_l12Cost.f k l0 l1 l2 a3).bind fun t253 => (some (t253, true))) = some (r1, r2) := by rw [if_pos rfl] at H; exact H
   clear H
   have H := H1
   clear H1
   replace H := Option.bind_eq_some_iff.mp H
   obtain ⟨t253, A90, H⟩ := H
   replace H : (some (t253, true)) = some (r1, r2) := H
   have A9 := Aside0.mk A90
   clear A90
   simp only [Option.some.injEq, Prod.mk.injEq] at H
   obtain ⟨rfl, rfl⟩ := H
   go_enter Try.func7, Try.ntmps7
   go_wp2_with (first | ((with_reducible refine gate_callee (f := 20) rfl ?_); refine goesL_ (some 13) rfl rfl Try.func20 (by kernel_rfl) rfl #[.slice A0 l0.length c0, .slice A1 l1.length c1, .slice A2 l2.length c2] rfl (by (try simp only [List.map_toArray, List.map_cons, List.map_nil]); first | done | rfl | (simp only [List.length_drop, List.length_take]; rfl)) ?_; (with_reducible refine (spec_l12Tracking.calls k _ _ l0 _ _ l1 _ _ l2 true _ ?side1 ?side2 ?side3 ?side4 ?side5 ?side6 A5.out).mono ?_); (case side1 => repeat (first | exact HR0.out | (with_reducible refine Kd.C_alloc ?_ _) | (with_reducible refine Kd.C_drewN ?_ _) | (with_reducible refine Kd.C_drew ?_))); (case side2 => exact HC0.out); (case side3 => repeat (first | exact HR1.out | (with_reducible refine Kd.C_alloc ?_ _) | (with_reducible refine Kd.C_drewN ?_ _) | (with_reducible refine Kd.C_drew ?_))); (case side4 => exact HC1.out); (case side5 => repeat (first | exact HR2.out | (with_reducible refine Kd.C_alloc ?_ _) | (with_reducible refine Kd.C_drewN ?_ _) | (with_reducible refine Kd.C_drew ?_))); (case side6 => exact HC2.out); rintro e w10 ⟨rfl, hb⟩; refine ⟨_, rfl, ?_⟩; have n0_ := Aside0.mk (below_step (by repeat (first | (with_reducible first | exact HB.out | apply below_alloc | apply pw_below_drewN | apply below_drew1) | exact HB.out)) hb); clear HB; have HB := n0_; clear n0_; (try clear hb); (try clear hb2); (try clear hk); (try clear hi)) | (go_at_call 21; (with_reducible refine (spec_l12Penalty.calls a3 true _ A7.out).mono ?_); rintro e w' ⟨rfl, ⟨nd, rfl⟩⟩) | ((with_reducible refine gate_callee (f := 22) rfl ?_); refine goesL_ (some 24) rfl rfl Try.func22 (by kernel_rfl) rfl #[.slice A0 l0.length c0, .slice A1 l1.length c1, .slice A2 l2.length c2, .int .i64 a3] rfl (by (try simp only [List.map_toArray, List.map_cons, List.map_nil]); first | done | rfl | (simp only [List.length_drop, List.length_take]; rfl)) ?_; (with_reducible refine (spec_l12Cost.calls k _ _ l0 _ _ l1 _ _ l2 a3 t253 _ ?side1 ?side2 ?side3 ?side4 ?side5 ?side6 A9.out).mono ?_); (case side1 => repeat (first | exact (Kd.C_below HR0.out (by repeat (first | (with_reducible first | exact HB.out | apply below_alloc | apply pw_below_drewN | apply below_drew1) | exact HB.out))) | (with_reducible refine Kd.C_alloc ?_ _) | (with_reducible refine Kd.C_drewN ?_ _) | (with_reducible refine Kd.C_drew ?_))); (case side2 => exact HC0.out); (case side3 => repeat (first | exact (Kd.C_below HR1.out (by repeat (first | (with_reducible first | exact HB.out | apply below_alloc | apply pw_below_drewN | apply below_drew1) | exact HB.out))) | (with_reducible refine Kd.C_alloc ?_ _) | (with_reducible refine Kd.C_drewN ?_ _) | (with_reducible refine Kd.C_drew ?_))); (case side4 => exact HC1.out); (case side5 => repeat (first | exact (Kd.C_below HR2.out (by repeat (first | (with_reducible first | exact HB.out | apply below_alloc | apply pw_below_drewN | apply below_drew1) | exact HB.out))) | (with_reducible refine Kd.C_alloc ?_ _) | (with_reducible refine Kd.C_drewN ?_ _) | (with_reducible refine Kd.C_drew ?_))); (case side6 => exact HC2.out); rintro e w11 ⟨rfl, hb⟩; refine ⟨_, rfl, ?_⟩; have n0_ := Aside0.mk (below_step (by repeat (first | (with_reducible first | exact HB.out | apply below_alloc | apply pw_below_drewN | apply below_drew1) | exact HB.out)) hb); clear HB; have HB := n0_; clear n0_; (try clear hb); (try clear hb2); (try clear hk); (try clear hi)))
   go_ret2
   exact ⟨by first | rfl | (simp [errW_none, errW_some] <;> rfl) | (simp [*, errW_none, errW_some] <;> rfl), by repeat (first | (with_reducible first | exact HB.out | apply below_alloc | apply pw_below_drewN | apply below_drew1) | exact HB.out)⟩
  ·
   replace c8 := Bool.eq_false_iff.mpr c8
   subst c8
   have H1 : (some (0, false)) = some (r1, r2) := by rw [if_neg (show ¬ (false = true) by decide)] at H; exact H
   clear H
   have H := H1
   clear H1
   simp only [Option.some.injEq, Prod.mk.injEq] at H
   obtain ⟨rfl, rfl⟩ := H
   go_enter Try.func7, Try.ntmps7
   go_wp2_with (first | ((with_reducible refine gate_callee (f := 20) rfl ?_); refine goesL_ (some 13) rfl rfl Try.func20 (by kernel_rfl) rfl #[.slice A0 l0.length c0, .slice A1 l1.length c1, .slice A2 l2.length c2] rfl (by (try simp only [List.map_toArray, List.map_cons, List.map_nil]); first | done | rfl | (simp only [List.length_drop, List.length_take]; rfl)) ?_; (with_reducible refine (spec_l12Tracking.calls k _ _ l0 _ _ l1 _ _ l2 true _ ?side1 ?side2 ?side3 ?side4 ?side5 ?side6 A5.out).mono ?_); (case side1 => repeat (first | exact HR0.out | (with_reducible refine Kd.C_alloc ?_ _) | (with_reducible refine Kd.C_drewN ?_ _) | (with_reducible refine Kd.C_drew ?_))); (case side2 => exact HC0.out); (case side3 => repeat (first | exact HR1.out | (with_reducible refine Kd.C_alloc ?_ _) | (with_reducible refine Kd.C_drewN ?_ _) | (with_reducible refine Kd.C_drew ?_))); (case side4 => exact HC1.out); (case side5 => repeat (first | exact HR2.out | (with_reducible refine Kd.C_alloc ?_ _) | (with_reducible refine Kd.C_drewN ?_ _) | (with_reducible refine Kd.C_drew ?_))); (case side6 => exact HC2.out); rintro e w12 ⟨rfl, hb⟩; refine ⟨_, rfl, ?_⟩; have n0_ := Aside0.mk (below_step (by repeat (first | (with_reducible first | exact HB.out | apply below_alloc | apply pw_below_drewN | apply below_drew1) | exact HB.out)) hb); clear HB; have HB := n0_; clear n0_; (try clear hb); (try clear hb2); (try clear hk); (try clear hi)) | (go_at_call 21; (with_reducible refine (spec_l12Penalty.calls a3 false _ A7.out).mono ?_); rintro e w' ⟨rfl, ⟨nd, rfl⟩⟩))
   go_ret2
   exact ⟨by first | rfl | (simp [errW_none, errW_some] <;> rfl) | (simp [*, errW_none, errW_some] <;> rfl), by repeat (first | (with_reducible first | exact HB.out | apply below_alloc | apply pw_below_drewN | apply below_drew1) | exact HB.out)⟩
 ·
  replace c6 := Bool.eq_false_iff.mpr c6
  subst c6
  have H1 : (some (0, false)) = some (r1, r2) := by rw [if_neg (show ¬ (false = true) by decide)] at H; exact H
  clear H
  have H := H1
  clear H1
  simp only [Option.some.injEq, Prod.mk.injEq] at H
  obtain ⟨rfl, rfl⟩ := H
  go_enter Try.func7, Try.ntmps7
  go_wp2_with (first | ((with_reducible refine gate_callee (f := 20) rfl ?_); refine goesL_ (some 13) rfl rfl Try.func20 (by kernel_rfl) rfl #[.slice A0 l0.length c0, .slice A1 l1.length c1, .slice A2 l2.length c2] rfl (by (try simp only [List.map_toArray, List.map_cons, List.map_nil]); first | done | rfl | (simp only [List.length_drop, List.length_take]; rfl)) ?_; (with_reducible refine (spec_l12Tracking.calls k _ _ l0 _ _ l1 _ _ l2 false _ ?side1 ?side2 ?side3 ?side4 ?side5 ?side6 A5.out).mono ?_); (case side1 => repeat (first | exact HR0.out | (with_reducible refine Kd.C_alloc ?_ _) | (with_reducible refine Kd.C_drewN ?_ _) | (with_reducible refine Kd.C_drew ?_))); (case side2 => exact HC0.out); (case side3 => repeat (first | exact HR1.out | (with_reducible refine Kd.C_alloc ?_ _) | (with_reducible refine Kd.C_drewN ?_ _) | (with_reducible refine Kd.C_drew ?_))); (case side4 => exact HC1.out); (case side5 => repeat (first | exact HR2.out | (with_reducible refine Kd.C_alloc ?_ _) | (with_reducible refine Kd.C_drewN ?_ _) | (with_reducible refine Kd.C_drew ?_))); (case side6 => exact HC2.out); rintro e w13 ⟨rfl, hb⟩; refine ⟨_, rfl, ?_⟩; have n0_ := Aside0.mk (below_step (by repeat (first | (with_reducible first | exact HB.out | apply below_alloc | apply pw_below_drewN | apply below_drew1) | exact HB.out)) hb); clear HB; have HB := n0_; clear n0_; (try clear hb); (try clear hb2); (try clear hk); (try clear hi)))
  go_ret2
  exact ⟨by first | rfl | (simp [errW_none, errW_some] <;> rfl) | (simp [*, errW_none, errW_some] <;> rfl), by repeat (first | (with_reducible first | exact HB.out | apply below_alloc | apply pw_below_drewN | apply below_drew1) | exact HB.out)⟩

end Go.Proofs.Ytcfjglbnhbgbdaa.Q
namespace Go.Proofs.Ytcfjglbnhbgbdaa.Q
open Go.RowKit Go.Proofs.YtcfjglbnhbgbdaaW.PrintWords Go.Proofs.YtcfjglbnhbgbdaaW.PrintLast Go.Proofs.YtcfjglbnhbgbdaaW.PrintMore
attribute [local go_sem] max2_int min2_int max_two min_two max_three min_three max_four min_four   -- for this text's walks alone
set_option linter.unusedVariables false
set_option linter.unusedSimpArgs false

/-! ### slices_Clone_int_int: function 39 -/
/-- slices.Clone at ints: the same list, in a row of its own. -/
def slices_Clone_int_int.f (l0 : List Int) : Option (List Int) := if l0.length < 17592186044416 then some l0 else none
set_option maxHeartbeats 4000000 in
theorem slices_Clone_int_int.calls (A0 : Option Addr) (c0 : Nat) (l0 : List Int) (r : List Int) (w : World) (hr0 : Kd.C (Kd.int .i64) w A0 l0.length l0) (hc0 : l0.length ≤ c0) (h : slices_Clone_int_int.f l0 = some r) :
  Calls Try.prog 39 #[.slice A0 l0.length c0] w fun e w' => ∃ v0_ : Value, e = .returned (v0_) ∧ Kd.R (Kd.int .i64) 3 w' w.heap.size (fun _ => True) v0_ r ∧ Below w.heap.size w w' := by
 have q26 : ∀ (w : World) (a : Option Addr) (n c n' c' : Nat), (binOp .eql 25 (.slice a n c) (.slice none n' c')).run Try.prog w = .ok (.bool a.isNone) w := fun w a n c n' c' => Lib.run_eql_slice_nil w _ _ a n c n' c' Try.underlying25
 unfold slices_Clone_int_int.f at h
 by_cases c4 : l0.length < 17592186044416
 ·
  rw [if_pos c4] at h
  obtain rfl := Option.some.inj h
  clear h
  cases A0 with
  | none =>
   have e0 : l0 = [] := by
    rcases Nat.eq_zero_or_pos l0.length with h0 | h0
    ·
     exact List.length_eq_zero_iff.1 h0
    ·
     obtain ⟨ad, ha, _⟩ := hr0.2.2 h0
     cases ha
   subst e0
   clear hr0 hc0
   go_enter Try.func39, Try.ntmps39
   go_wp2
   go_ret
   exact ⟨_, rfl, Kd.R_nil _ _ _ _ _, Below.refl _ _⟩
  | some ad =>
   have HR0 := Aside0.mk hr0
   have HC0 := Aside0.mk hc0
   have LM := Aside0.mk c4
   clear hr0 hc0 c4
   have HB := Aside0.mk (Below.refl w.heap.size w)
   go_enter Try.func39, Try.ntmps39
   go_wp2_with (first | ((with_reducible refine gate_dst (N := 5) rfl ?_); refine Kd.R_lit (Kd.int .i64) _ 3 ?hg (N := 5) ?hd (xs := ([] : List Int)) (inner := []) (ok := fun _ => True) (okp := fun _ => True) ?hr ?hp (fun _ hk => hk) trivial HB.out (Nat.le_refl _) (by simp) ?_; (case hd => rfl); (case hg => rfl); (case hr => first | (go_simp; done) | (go_simp; rfl)); (case hp => exact (Reps.none _ _)); intro v5 w5 ho5 hb5 hg5 hn5; have HO := Aside0.mk ho5; have HB5 := Aside0.mk hb5; clear ho5 hb5 hg5 hn5) | ((with_reducible refine gate_builtin (b := .append) (xs := #[.tmp 5, .tmp 6]) rfl ?_); at_builtin; refine Kd.R_append_rows (Kd.int .i64) (w0 := w) w.heap.size rfl (.tmp 5) (.tmp 6) 25 3 (.int .i64 0) 8 rfl Try.underlying25 info3 rfl (by decide) (by omega) v5 ([] : List Int) l0 _ _ _ (fun _ => True) (fun _ => False) rfl rfl (by (with_reducible repeat (first | apply Kd.R_alloc | apply Kd.R_drewN | apply Kd.R_drew)); exact HO.out) (by (with_reducible repeat (first | refine Kd.C_alloc ?_ _ | refine Kd.C_drewN ?_ _ | refine Kd.C_drew ?_)); exact (Kd.C_below HR0.out HB5.out)) (fun _ _ h => h) (fun _ h => h.elim) (fun _ _ => trivial) (by repeat (first | (with_reducible first | exact HB5.out | apply below_alloc | apply pw_below_drewN | apply below_drew1) | exact HB5.out)) (below_size (by repeat (first | (with_reducible first | exact HB5.out | apply below_alloc | apply pw_below_drewN | apply below_drew1) | exact HB5.out))) (by have := LM.out; simp only [List.length_nil]; omega) ?_; intro v7 w7 ho7 hb7 hg7 hat7; rw [List.nil_append] at ho7; have HO7 := Aside0.mk ho7; have HB7 := Aside0.mk hb7; clear ho7 hb7 hg7 hat7))
   go_ret
   exact ⟨_, rfl, by (with_reducible repeat (first | apply Kd.R_alloc | apply Kd.R_drewN | apply Kd.R_drew)); exact HO7.out, by repeat (first | (with_reducible first | exact HB7.out | apply below_alloc | apply pw_below_drewN | apply below_drew1) | exact HB7.out)⟩
 ·
  rw [if_neg c4] at h
  cases h

end Go.Proofs.Ytcfjglbnhbgbdaa.Q
namespace Go.Proofs.Ytcfjglbnhbgbdaa.Q
open Go.RowKit Go.Proofs.YtcfjglbnhbgbdaaW.PrintWords Go.Proofs.YtcfjglbnhbgbdaaW.PrintLast Go.Proofs.YtcfjglbnhbgbdaaW.PrintMore
attribute [local go_sem] max2_int min2_int max_two min_two max_three min_three max_four min_four   -- for this text's walks alone
set_option linter.unusedVariables false
set_option linter.unusedSimpArgs false

/-! ### impl_bestTracking: function 24 -/
-- called: 19 39 27
def impl_bestTracking.c.T8 : Bool × List (List Nat × List Nat) := (true, [([], []), ([], []), ([1], [1]), ([], []), ([3], [3]), ([2, 4, 2], [2, 4]), ([0, 5, 5], [0, 5])])
def impl_bestTracking.c.B8 : List Nat := [0, 0, 2, 0, 8, 30, 63]
theorem impl_bestTracking.c.tab8 : rtab .any (opsOf Try.f38 8) = impl_bestTracking.c.T8 := by kernel_rfl
theorem impl_bestTracking.c.bits8 : waitsOk impl_bestTracking.c.T8.2 impl_bestTracking.c.B8 = true := by kernel_rfl
def impl_bestTracking.d.T6 : Bool × List (List Nat × List Nat) := (true, [([], []), ([], []), ([0, 0], [0]), ([1, 2, 0, 1, 2], [1])])
def impl_bestTracking.d.B6 : List Nat := [0, 0, 1, 7]
theorem impl_bestTracking.d.tab6 : rtab .any (opsOf Try.f24 6) = impl_bestTracking.d.T6 := by kernel_rfl
theorem impl_bestTracking.d.bits6 : waitsOk impl_bestTracking.d.T6.2 impl_bestTracking.d.B6 = true := by kernel_rfl
/-- One way on from a tracking behind the other: -1 first, then each place that is not in it. -/
def btL (f : List Int → List Int × Int → Option (List Int × Int)) (tr : List Int) : Nat → Nat → List Int × Int → Option (List Int × Int)
 | 0, _, s => some s
 | d + 1, i, s => if (i : Int) - 1 < 0 ∨ ¬ ((i : Int) - 1 ∈ tr) then (f (tr ++ [(i : Int) - 1]) s).bind fun s' => btL f tr d (i + 1) s' else btL f tr d (i + 1) s
def btF (c : List Int → Option Int) (nb : Nat) : Nat → List Int → List Int × Int → Option (List Int × Int)
 | 0, tr, s => (c tr).bind fun x => some (if s.2 < 0 ∨ x < s.2 then (tr, x) else s)
 | n + 1, tr, s => btL (btF c nb n) tr (nb + 1) 0 s
theorem btL_mono {f g : List Int → List Int × Int → Option (List Int × Int)} (h : ∀ t s, LeO (f t s) (g t s)) (tr : List Int) : ∀ d i s, LeO (btL f tr d i s) (btL g tr d i s)
 | 0, _, _ => LeO.refl _
 | d + 1, i, s => by
  unfold btL
  split
  ·
   exact LeO.bind (h _ _) (fun _ => btL_mono h tr d _ _)
  ·
   exact btL_mono h tr d _ _
theorem btF_mono {c e : List Int → Option Int} (h : ∀ t, LeO (c t) (e t)) (nb : Nat) : ∀ n tr s, LeO (btF c nb n tr s) (btF e nb n tr s)
 | 0, tr, s => LeO.bind (h tr) (fun _ => LeO.refl _)
 | n + 1, tr, s => btL_mono (fun t s => btF_mono h nb n t s) tr _ _ _
def impl_bestTracking.f (k : Nat) (l0 l1 : List S54) (a2 : Int) : Option (List Int × Int) := if l0.length ≤ 5 ∧ l1.length ≤ 5 then btF (fun t => impl_trackingCost.f k l0 l1 t a2) l1.length l0.length [] ([], -1) else none
theorem impl_bestTracking.mono : ∀ a0 a1 a2 k, LeO (impl_bestTracking.f k a0 a1 a2) (impl_bestTracking.f (k + 1) a0 a1 a2) := fun a b c k => by
 unfold impl_bestTracking.f
 split
 ·
  exact btF_mono (fun t => impl_trackingCost.mono _ _ _ _ k) _ _ _ _
 ·
  exact LeO.refl _
theorem C_blkI {w W : World} {A : Option Addr} {n : Nat} {xs : List Int} (h : Kd.C (Kd.int .i64) w A n xs) (hb : ∀ ad, A = some ad → 0 < n → W.heap[ad.block]? = w.heap[ad.block]?) : Kd.C (Kd.int .i64) W A n xs := by
 have h' := Kd.reads_of_C (d := 0) h
 refine Kd.C_of_reads (d := 0) ⟨h'.1, h'.2.1, fun hn => ?_⟩
 obtain ⟨ad, e, hc⟩ := h'.2.2 hn
 have e2 : ∀ j, (ad.add j).block = ad.block := fun j => by unfold Addr.add; cases ad; first | rfl | (split <;> rfl)
 exact ⟨ad, e, fun j hj => (World.cell?_of_block (a := ad.add j) (by rw [e2]; exact hb ad e hn)).trans (hc j hj)⟩
theorem C_ltI {w : World} {A : Option Addr} {n : Nat} {xs : List Int} (h : Kd.C (Kd.int .i64) w A n xs) (ad : Addr) (e : A = some ad) (hn : 0 < n) : ad.block < w.heap.size := by
 have h' := Kd.reads_of_C (d := 0) h
 obtain ⟨ad', e', hc⟩ := h'.2.2 hn
 have : ad' = ad := Option.some.inj (e'.symm.trans e)
 subst this
 have e2 : (ad'.add 0).block = ad'.block := by unfold Addr.add; cases ad'; first | rfl | (split <;> rfl)
 rw [← e2]
 exact World.block_lt_of_cell? w _ (hc 0 hn)
/-- What the boxes of the best tracking and of its cost hold. -/
def ST (W : World) (B Bs Bl : Nat) (v : Value) (s : List Int × Int) : Prop := W.heap[Bs]? = some (.cells #[v] 25 (0, 0)) ∧ W.heap[Bl]? = some (.cells #[.int .i64 s.2] 3 (0, 0)) ∧ Kd.R (Kd.int .i64) 3 W B (fun q => B ≤ q) v s.1
theorem ST.below {W W' : World} {B Bs Bl : Nat} {v : Value} {s : List Int × Int} (h : ST W B Bs Bl v s) (hb : Below W.heap.size W W') : ST W' B Bs Bl v s := ⟨blk_below h.1 hb, blk_below h.2.1 hb, Kd.R_below h.2.2 hb⟩
theorem repsOne {w : World} {b : Nat} {ok : Nat → Prop} (x : Int) : Reps ((Kd.int .i64).M w b ok) (Kd.int .i64).sz [x] [.int .i64 x] := Kd.reps_scalar (enc := Value.int .i64) [x]
theorem C_keepI {w W : World} {A : Option Addr} {n : Nat} {xs : List Int} (h : Kd.C (Kd.int .i64) w A n xs) (hb : Below w.heap.size w W) : Kd.C (Kd.int .i64) W A n xs := Kd.C_below h hb
def Two (Bs Bl : Nat) (q : Nat) : Prop := q = Bs ∨ q = Bl
theorem keptT {w W : World} {S : Nat → Prop} (h : Kept w W S) {g : Nat} (hg : S g) (v : Value) : Kept w (W.setCell ⟨g, 0, none⟩ v) S :=
 ⟨by rw [show (W.setCell ⟨g, 0, none⟩ v).heap.size = W.heap.size by simp [World.setCell]]; exact h.1, fun k hk hn => (Below.heap_setCell W ⟨g, 0, none⟩ v k (fun e => hn (by rw [e]; exact hg))).trans (h.2 k hk hn)⟩
/-- A call of a function value that lies in a temporary. -/
theorem goesV_ {P : Program} {ops : Array Oper} {Q : Exit → Act → World → Prop} {oi : Oper} {N : Option Tmp} {a : Act} {w : World} {K : Act → World → Prop} {f : FuncId} {t : Operand} {os_ : Array Operand} {ts : Array TypeId} {lb : Array Value} (eg : ∀ args w, (callFunc f args).run P w = .ok (.enter f args) w) (args : Array Value)
  (hw : Region.wanted oi (yielded ops a.tmps) = true) (hN : oi.dst = N) (hop : oi.op = .call { callee := .value t, args := os_, argTypes := ts }) (ht : a.eval t = .func (.func f) #[] lb) (hargs : os_.map a.eval ++ lb = args)
  (h : Calls P f args w fun e w' => ∃ v, e = .returned v ∧ K (a.put N v) w') : if Region.wanted oi (yielded ops a.tmps) = true then Oper.wp P oi a w K Q else K (a.put N undef) w := by
 refine call_ f args hw hN ?_ h
 unfold execOp
 simp [hop, resolve, Deferred.ofValue, invoke, ht, hargs, eg]
set_option maxHeartbeats 4000000 in
set_option maxRecDepth 100000 in
theorem impl_bestTracking.ext (k : Nat) (l0 l1 : List S54) (a2 : Int) (A0 A1 : Option Addr) (c0 c1 : Nat) (w0 W1 : World) (Ba Bb Bp Bs Bl Be : Nat) (lb : Array Value)
  (hlb : lb = #[.pointer (some ⟨Ba, 0, none⟩), .pointer (some ⟨Bb, 0, none⟩), .pointer (some ⟨Bp, 0, none⟩), .pointer (some ⟨Bl, 0, none⟩), .pointer (some ⟨Bs, 0, none⟩), .pointer (some ⟨Be, 0, none⟩)])
  (hA : W1.heap[Ba]? = some (.cells #[.slice A0 l0.length c0] 24 (0, 0))) (hBb : W1.heap[Bb]? = some (.cells #[.slice A1 l1.length c1] 24 (0, 0)))
  (hP : W1.heap[Bp]? = some (.cells #[.int .i64 a2] 3 (0, 0))) (hE : W1.heap[Be]? = some (.cells #[.func (.func 38) #[] lb] 62 (0, 0)))
  (hd : Ba ≠ Bs ∧ Ba ≠ Bl ∧ Bb ≠ Bs ∧ Bb ≠ Bl ∧ Bp ≠ Bs ∧ Bp ≠ Bl ∧ Be ≠ Bs ∧ Be ≠ Bl ∧ Bs ≠ Bl) (hg : w0.heap.size ≤ Bs ∧ w0.heap.size ≤ Bl) (hlt : Bs < W1.heap.size ∧ Bl < W1.heap.size) (hl : l0.length ≤ 5 ∧ l1.length ≤ 5)
  (hr0 : Kd.C k54 w0 A0 l0.length l0) (hc0 : l0.length ≤ c0) (hr1 : Kd.C k54 w0 A1 l1.length l1) (hc1 : l1.length ≤ c1) :
  ∀ (n : Nat) (tr : List Int) (At : Option Addr) (ct : Nat) (W : World) (v : Value) (s r : List Int × Int), l0.length = tr.length + n → Kd.C (Kd.int .i64) W At tr.length tr → tr.length ≤ ct → (∀ ad, At = some ad → 0 < tr.length → ad.block ≠ Bs ∧ ad.block ≠ Bl) →
   Below w0.heap.size w0 W → Kept W1 W (Two Bs Bl) → ST W W1.heap.size Bs Bl v s → btF (fun t => impl_trackingCost.f k l0 l1 t a2) l1.length n tr s = some r →
   Calls Try.prog 38 #[.slice At tr.length ct, .pointer (some ⟨Ba, 0, none⟩), .pointer (some ⟨Bb, 0, none⟩), .pointer (some ⟨Bp, 0, none⟩), .pointer (some ⟨Bl, 0, none⟩), .pointer (some ⟨Bs, 0, none⟩), .pointer (some ⟨Be, 0, none⟩)] W fun e w' => e = .returned (.tuple #[]) ∧ Below w0.heap.size w0 w' ∧ Kept W w' (Two Bs Bl) ∧ ∃ v', ST w' W1.heap.size Bs Bl v' r := by
 subst hlb
 have eg : ∀ args w, (callFunc 38 args).run Try.prog w = .ok (.enter 38 args) w := enters_of Try.func38 (by kernel_rfl) rfl
 have EG := Aside0.mk eg
 clear eg
 have env : ∀ W, Kept W1 W (Two Bs Bl) → W.heap[Ba]? = some (.cells #[.slice A0 l0.length c0] 24 (0, 0)) ∧ W.heap[Bb]? = some (.cells #[.slice A1 l1.length c1] 24 (0, 0)) ∧ W.heap[Bp]? = some (.cells #[.int .i64 a2] 3 (0, 0)) ∧ W.heap[Be]? = some (.cells #[.func (.func 38) #[] #[.pointer (some ⟨Ba, 0, none⟩), .pointer (some ⟨Bb, 0, none⟩), .pointer (some ⟨Bp, 0, none⟩), .pointer (some ⟨Bl, 0, none⟩), .pointer (some ⟨Bs, 0, none⟩), .pointer (some ⟨Be, 0, none⟩)]] 62 (0, 0)) := fun W hk =>
  ⟨(hk.2 Ba (blk_lt hA) (fun e => e.elim hd.1 hd.2.1)).trans hA, (hk.2 Bb (blk_lt hBb) (fun e => e.elim hd.2.2.1 hd.2.2.2.1)).trans hBb, (hk.2 Bp (blk_lt hP) (fun e => e.elim hd.2.2.2.2.1 hd.2.2.2.2.2.1)).trans hP, (hk.2 Be (blk_lt hE) (fun e => e.elim hd.2.2.2.2.2.2.1 hd.2.2.2.2.2.2.2.1)).trans hE⟩
 have ENV := Aside0.mk env
 have HD := Aside0.mk hd
 have HG := Aside0.mk hg
 have HLT := Aside0.mk hlt
 have HL := Aside0.mk hl
 have HR0 := Aside0.mk hr0
 have HC0 := Aside0.mk hc0
 have HR1 := Aside0.mk hr1
 have HC1 := Aside0.mk hc1
 clear env hd hg hlt hr0 hc0 hr1 hc1 hA hBb hP hE
 intro n
 induction n with
 | zero =>
  intro tr At ct W v s r hn hC hct hne hB hK hS h
  obtain ⟨eA, eB, eP, eE⟩ := ENV.out W hK
  have cA : W.cell? ⟨Ba, 0, none⟩ = some (.slice A0 l0.length c0) := blk_cell eA 0
  have cB : W.cell? ⟨Bb, 0, none⟩ = some (.slice A1 l1.length c1) := blk_cell eB 0
  have cP : W.cell? ⟨Bp, 0, none⟩ = some (.int .i64 a2) := blk_cell eP 0
  have HCt := Aside0.mk hC
  have Hct := Aside0.mk hct
  have HB := Aside0.mk hB
  have HK := Aside0.mk hK
  have HS := Aside0.mk hS
  unfold btF at h
  obtain ⟨x, hx, h⟩ := Option.bind_eq_some_iff.1 h
  have HX := Aside0.mk hx
  have HR := Aside0.mk (Option.some.inj h)
  have hz1 : ((tr.length : Int) == (l0.length : Int)) = true := beq_iff_eq.2 (by omega)
  have hz2 : decide ((tr.length : Int) = (l0.length : Int)) = true := decide_eq_true (by omega)
  have hz3 : ((tr.length : Int) = (l0.length : Int)) = True := eq_true (by omega)
  have hbig : tr.length < 17592186044416 := by have := HL.out; omega
  have HBIG := Aside0.mk hbig
  clear eA eB eP eE hC hct hne hB hK hS hx h hn hbig hl
  show Calls Try.prog 38 #[.slice At tr.length ct, .pointer (some ⟨Ba, 0, none⟩), .pointer (some ⟨Bb, 0, none⟩), .pointer (some ⟨Bp, 0, none⟩), .pointer (some ⟨Bl, 0, none⟩), .pointer (some ⟨Bs, 0, none⟩), .pointer (some ⟨Be, 0, none⟩)] W _
  go_enter Try.func38, Try.ntmps38
  go_wp2_with fail
  refine (impl_trackingCost.calls k A0 c0 l0 A1 c1 l1 At ct tr a2 x _ (Kd.C_below HR0.out HB.out) HC0.out (Kd.C_below HR1.out HB.out) HC1.out HCt.out Hct.out HX.out).mono ?_
  rintro e w1 ⟨rfl, hb⟩
  have HS1 := Aside0.mk (HS.out.below hb)
  have HB1 := Aside0.mk (HB.out.trans (hb.mono HB.out.size))
  have HK1 := Aside0.mk (Kept.of_below hb (Two Bs Bl))
  have HC1t := Aside0.mk (Kd.C_below HCt.out hb)
  have cl : w1.cell? ⟨Bl, 0, none⟩ = some (.int .i64 s.2) := blk_cell HS1.out.2.1 0
  clear hb cA cB cP
  by_cases k1 : s.2 < 0
  ·
   have k1a : (s.2 < 0) = True := eq_true k1
   have k1b : decide (s.2 < 0) = true := decide_eq_true k1
   go_wp2_with fail
   refine (slices_Clone_int_int.calls At ct tr tr _ HC1t.out Hct.out (if_pos HBIG.out)).mono ?_
   rintro e w2 ⟨v2, rfl, ho2, hb2⟩
   have HS2 := Aside0.mk (HS1.out.below hb2)
   have HB2 := Aside0.mk (HB1.out.trans (hb2.mono HB1.out.size))
   have HK2 := Aside0.mk (Kept.then_ (S := Two Bs Bl) HK1.out (Kept.of_below hb2 (fun _ => False)) (fun _ h => h.elim))
   have hW1 : W1.heap.size ≤ w1.heap.size := Nat.le_trans HK.out.1 HK1.out.1
   have HO2 := Aside0.mk (Kd.R_lower (Kd.R_mono (Kd.R_bound ho2) (ok' := fun q => W1.heap.size ≤ q) (fun q hq => Nat.le_trans hW1 hq.2.1)) hW1)
   have g1 : w2.cell? ⟨Bs, 0, none⟩ = some v := blk_cell HS2.out.1 0
   have g2 : w2.frozen? ⟨Bs, 0, none⟩ = false := blk_frozen HS2.out.1 0
   have g3 : ∀ u, (w2.setCell ⟨Bs, 0, none⟩ u).cell? ⟨Bl, 0, none⟩ = some (.int .i64 s.2) := fun u => blk_cell (blk_far HS2.out.2.1 (fun e => HD.out.2.2.2.2.2.2.2.2 e.symm) u) 0
   have g4 : ∀ u, (w2.setCell ⟨Bs, 0, none⟩ u).frozen? ⟨Bl, 0, none⟩ = false := fun u => blk_frozen (blk_far HS2.out.2.1 (fun e => HD.out.2.2.2.2.2.2.2.2 e.symm) u) 0
   have g5 : w2.cell? ⟨Bl, 0, none⟩ = some (.int .i64 s.2) := blk_cell HS2.out.2.1 0
   have g6 : w2.frozen? ⟨Bl, 0, none⟩ = false := blk_frozen HS2.out.2.1 0
   have hv2 : v2.oneCell' = true := by obtain ⟨A', c', rfl⟩ := Kd.R_slice HO2.out; rfl
   obtain ⟨A2', c2', ev2⟩ := Kd.R_slice HO2.out
   subst ev2
   clear ho2 hb2 hW1 hv2
   go_wp2
   (try simp only [Exit.inBlock, Exit.then]); refine bodyPost_ret (results_none rfl _ _ _) rfl ?_
   rw [← HR.out]
   have lt1 := HLT.out
   have b1 := blk_put HS2.out.1 0 (.slice A2' tr.length c2') (cs' := #[.slice A2' tr.length c2']) rfl
   have b2 := blk_far HS2.out.2.1 (p := ⟨Bs, 0, none⟩) (fun e => HD.out.2.2.2.2.2.2.2.2 e.symm) (.slice A2' tr.length c2')
   have r1 := Kd.R_far HO2.out (p := ⟨Bs, 0, none⟩) (fun q hq => by show q ≠ Bs; omega) (.slice A2' tr.length c2')
   refine ⟨rfl, (HB2.out.setCell (p := ⟨Bs, 0, none⟩) HG.out.1 _).setCell (p := ⟨Bl, 0, none⟩) HG.out.2 _, keptT (keptT HK2.out (.inl rfl) _) (.inr rfl) _, .slice A2' tr.length c2', ?_⟩
   rw [if_pos (.inl k1)]
   exact ⟨blk_far b1 (p := ⟨Bl, 0, none⟩) HD.out.2.2.2.2.2.2.2.2 _, blk_put b2 0 (.int .i64 x) rfl, Kd.R_far r1 (p := ⟨Bl, 0, none⟩) (fun q hq => by show q ≠ Bl; omega) _⟩
  ·
   have k1a : (s.2 < 0) = False := eq_false k1
   have k1b : decide (s.2 < 0) = false := decide_eq_false k1
   by_cases k2 : x < s.2
   ·
    have k2a : (x < s.2) = True := eq_true k2
    have k2b : decide (x < s.2) = true := decide_eq_true k2
    go_wp2_with fail
    refine (slices_Clone_int_int.calls At ct tr tr _ HC1t.out Hct.out (if_pos HBIG.out)).mono ?_
    rintro e w2 ⟨v2, rfl, ho2, hb2⟩
    have HS2 := Aside0.mk (HS1.out.below hb2)
    have HB2 := Aside0.mk (HB1.out.trans (hb2.mono HB1.out.size))
    have HK2 := Aside0.mk (Kept.then_ (S := Two Bs Bl) HK1.out (Kept.of_below hb2 (fun _ => False)) (fun _ h => h.elim))
    have hW1 : W1.heap.size ≤ w1.heap.size := Nat.le_trans HK.out.1 HK1.out.1
    have HO2 := Aside0.mk (Kd.R_lower (Kd.R_mono (Kd.R_bound ho2) (ok' := fun q => W1.heap.size ≤ q) (fun q hq => Nat.le_trans hW1 hq.2.1)) hW1)
    have g1 : w2.cell? ⟨Bs, 0, none⟩ = some v := blk_cell HS2.out.1 0
    have g2 : w2.frozen? ⟨Bs, 0, none⟩ = false := blk_frozen HS2.out.1 0
    have g3 : ∀ u, (w2.setCell ⟨Bs, 0, none⟩ u).cell? ⟨Bl, 0, none⟩ = some (.int .i64 s.2) := fun u => blk_cell (blk_far HS2.out.2.1 (fun e => HD.out.2.2.2.2.2.2.2.2 e.symm) u) 0
    have g4 : ∀ u, (w2.setCell ⟨Bs, 0, none⟩ u).frozen? ⟨Bl, 0, none⟩ = false := fun u => blk_frozen (blk_far HS2.out.2.1 (fun e => HD.out.2.2.2.2.2.2.2.2 e.symm) u) 0
    have g5 : w2.cell? ⟨Bl, 0, none⟩ = some (.int .i64 s.2) := blk_cell HS2.out.2.1 0
    have g6 : w2.frozen? ⟨Bl, 0, none⟩ = false := blk_frozen HS2.out.2.1 0
    have hv2 : v2.oneCell' = true := by obtain ⟨A', c', rfl⟩ := Kd.R_slice HO2.out; rfl
    obtain ⟨A2', c2', ev2⟩ := Kd.R_slice HO2.out
    subst ev2
    clear ho2 hb2 hW1 hv2
    go_wp2
    (try simp only [Exit.inBlock, Exit.then]); refine bodyPost_ret (results_none rfl _ _ _) rfl ?_
    rw [← HR.out]
    have lt1 := HLT.out
    have b1 := blk_put HS2.out.1 0 (.slice A2' tr.length c2') (cs' := #[.slice A2' tr.length c2']) rfl
    have b2 := blk_far HS2.out.2.1 (p := ⟨Bs, 0, none⟩) (fun e => HD.out.2.2.2.2.2.2.2.2 e.symm) (.slice A2' tr.length c2')
    have r1 := Kd.R_far HO2.out (p := ⟨Bs, 0, none⟩) (fun q hq => by show q ≠ Bs; omega) (.slice A2' tr.length c2')
    refine ⟨rfl, (HB2.out.setCell (p := ⟨Bs, 0, none⟩) HG.out.1 _).setCell (p := ⟨Bl, 0, none⟩) HG.out.2 _, keptT (keptT HK2.out (.inl rfl) _) (.inr rfl) _, .slice A2' tr.length c2', ?_⟩
    rw [if_pos (.inr k2)]
    exact ⟨blk_far b1 (p := ⟨Bl, 0, none⟩) HD.out.2.2.2.2.2.2.2.2 _, blk_put b2 0 (.int .i64 x) rfl, Kd.R_far r1 (p := ⟨Bl, 0, none⟩) (fun q hq => by show q ≠ Bl; omega) _⟩
   ·
    have k2a : (x < s.2) = False := eq_false k2
    have k2b : decide (x < s.2) = false := decide_eq_false k2
    go_wp2
    (try simp only [Exit.inBlock, Exit.then]); refine bodyPost_ret (results_none rfl _ _ _) rfl ?_
    rw [← HR.out, if_neg (fun e => e.elim (fun q => by omega) (fun q => by omega))]
    exact ⟨rfl, HB1.out, HK1.out, v, HS1.out⟩
 | succ n ih =>
  intro tr At ct W v s r hn hC hct hne hB hK hS h
  have hbig : tr.length < 17592186044416 := by have := HL.out; omega
  have HBIG := Aside0.mk hbig
  have HN := Aside0.mk hn
  have HCt := Aside0.mk hC
  have Hct := Aside0.mk hct
  have HNE := Aside0.mk hne
  have HB := Aside0.mk hB
  have HK := Aside0.mk hK
  have HS := Aside0.mk hS
  unfold btF at h
  have HH := Aside0.mk h
  have cA : W.cell? ⟨Ba, 0, none⟩ = some (.slice A0 l0.length c0) := blk_cell (ENV.out W hK).1 0
  have hz1 : ((tr.length : Int) == (l0.length : Int)) = false := beq_eq_false_iff_ne.2 (by omega)
  have hz2 : decide ((tr.length : Int) = (l0.length : Int)) = false := decide_eq_false (by omega)
  have hz3 : ((tr.length : Int) = (l0.length : Int)) = False := eq_false (by omega)
  have hl1 : l1.length ≤ 5 := HL.out.2
  have KC : ∀ W', Kept W W' (Two Bs Bl) → Kd.C (Kd.int .i64) W' At tr.length tr := fun W' hk => C_blkI HCt.out (fun ad e hp => hk.2 ad.block (C_ltI HCt.out ad e hp) (fun q => q.elim (HNE.out ad e hp).1 (HNE.out ad e hp).2))
  have HKC := Aside0.mk KC
  clear hbig hn hC hct hne hB hK hS h KC hl
  go_enter Try.func38, Try.ntmps38
  go_wp2_with fail
  clear cA
  go_loopg [9, 30, 31, 32, 33, 34, 35, 36, 37, 38, 39, 40, 41, 42, 43, 44, 45, 46, 47, 48, 49, 50] (l1.length + 1) (fun gg s9 _ _ _ _ _ _ _ _ _ _ _ _ _ _ _ _ _ _ _ _ _ wr => ∃ (i : Nat) (v' : Value) (s' : List Int × Int), i ≤ l1.length + 1 ∧ l1.length + 1 - i ≤ gg ∧ s9 = .int .i64 ((i : Int) - 1) ∧ Aside0 (Below w0.heap.size w0 wr) ∧ Aside0 (Kept W wr (Two Bs Bl)) ∧ Aside0 (ST wr W1.heap.size Bs Bl v' s') ∧ Aside0 (btL (btF (fun t => impl_trackingCost.f k l0 l1 t a2) l1.length n) tr (l1.length + 1 - i) i s' = some r))
  case atStart => exact ⟨0, v, s, by omega, by omega, by go_num, HB, ⟨Kept.refl _ _⟩, HS, HH⟩
  case round =>
   obtain ⟨i, v', s', hi, hgg, rfl, HBr, HKr, HSr, HTr⟩ := hrel
   have HKr1 := Aside0.mk (Kept.then_ (S := Two Bs Bl) HK.out HKr.out (fun _ h => .inl h))
   have cB : wr.cell? ⟨Bb, 0, none⟩ = some (.slice A1 l1.length c1) := blk_cell (ENV.out wr HKr1.out).2.1 0
   by_cases hlt : i < l1.length + 1
   ·
    have hltz : ((i : Int) - 1 < (l1.length : Int)) = True := eq_true (by omega)
    obtain ⟨d, hd⟩ : ∃ d, l1.length + 1 - i = d + 1 := ⟨l1.length - i, by omega⟩
    have HT0 := HTr.out
    rw [hd] at HT0
    unfold btL at HT0
    have cE0 := blk_cell (ENV.out wr HKr1.out).2.2.2 0
    have cE : wr.cell? ⟨Be, 0, none⟩ = some (.func (.func 38) #[] #[.pointer (some ⟨Ba, 0, none⟩), .pointer (some ⟨Bb, 0, none⟩), .pointer (some ⟨Bp, 0, none⟩), .pointer (some ⟨Bl, 0, none⟩), .pointer (some ⟨Bs, 0, none⟩), .pointer (some ⟨Be, 0, none⟩)]) := cE0
    clear cE0
    by_cases hi0 : i = 0
    ·
     have hneg : ((i : Int) - 1 < 0) = True := eq_true (by omega)
     have hnegb : decide ((i : Int) - 1 < 0) = true := decide_eq_true (by omega)
     rw [if_pos (.inl (by omega))] at HT0
     obtain ⟨s2, hf, ht⟩ := Option.bind_eq_some_iff.1 HT0
     have HF := Aside0.mk hf
     have HT := Aside0.mk ht
     clear hf ht HT0
     obtain ⟨wq, hwq⟩ : ∃ wq, wq = wr := ⟨_, rfl⟩
     subst hwq
     have HBq := HBr
     have HKq := HKr
     have HKq1 := HKr1
     have HSq := HSr
     have HCq := Aside0.mk (HKC.out _ HKr.out)
     go_wp2_with fail
     obtain ⟨y, hy⟩ : ∃ y, y = tr ++ [(i : Int) - 1] := ⟨_, rfl⟩
     have NY := Aside0.mk hy
     clear hy
     have HBd := Aside0.mk (below_drew (Below.refl wq.heap.size wq))
     refine start_ (n := 7) (S := fun w' => w'.cell? ⟨Be, 0, none⟩ = some (.func (.func 38) #[] #[.pointer (some ⟨Ba, 0, none⟩), .pointer (some ⟨Bb, 0, none⟩), .pointer (some ⟨Bp, 0, none⟩), .pointer (some ⟨Bl, 0, none⟩), .pointer (some ⟨Bs, 0, none⟩), .pointer (some ⟨Be, 0, none⟩)])) (ds := []) #[false, false, false, false, false, false, false] (by kernel_rfl) rfl rfl (show wq.drew.cell? ⟨Be, 0, none⟩ = _ from cE) (fun hHeld => ?_)
     refine with_tabW impl_bestTracking.c.tab8 impl_bestTracking.c.bits8 (fun HT_ HW_ => ?_)
     generalize wq.drew = wd at HBd hHeld ⊢
     refine pure_ (i := 1) (N := some 45) (v := ?_) (a' := ?_) #[false, true, false, false, false, false, false] rfl rfl (any_of HT_.out (by kernel_rfl)) (fun _ _ _ h => h) (Or.inl ⟨by rfl, ?_⟩) ?_ ?_
     rotate_left
     ·
      intro w'
      go_simp
      with_reducible rfl
     rotate_left
     ·
      simp only [Act.put, List.setIfInBounds_toArray, List.set_cons_zero, List.set_cons_succ, i64_w, i32_w]
      rfl
     refine pure_ (i := 3) (N := some 47) (v := ?_) (a' := ?_) #[false, true, false, true, false, false, false] rfl rfl (any_of HT_.out (by kernel_rfl)) (fun _ _ _ h => h) (Or.inl ⟨by rfl, ?_⟩) ?_ ?_
     rotate_left
     ·
      intro w'
      go_simp
      with_reducible rfl
     rotate_left
     ·
      simp only [Act.put, List.setIfInBounds_toArray, List.set_cons_zero, List.set_cons_succ, i64_w, i32_w]
      rfl
     refine take_ (i := 0) (N := some 44) (v := ?_) (a' := ?_) #[true, true, false, true, false, false, false] rfl rfl (take_ofW HT_.out HW_.out (by kernel_rfl)) (fun _ _ _ h => h) (Or.inl ⟨by rfl, ?_⟩) hHeld ?_ ?_
     rotate_left
     ·
      rintro w' s0
      go_simp
      with_reducible rfl
     rotate_left
     ·
      simp only [Act.put, List.setIfInBounds_toArray, List.set_cons_zero, List.set_cons_succ, i64_w, i32_w]
      rfl
     refine join_ (σ := Value × Value) 2 #[true, true, true, true, true, false, false] (fun s_ => [(46, s_.1), (48, s_.2)]) (fun s_ w' => w'.cell? ⟨Be, 0, none⟩ = some (.func (.func 38) #[] #[.pointer (some ⟨Ba, 0, none⟩), .pointer (some ⟨Bb, 0, none⟩), .pointer (some ⟨Bp, 0, none⟩), .pointer (some ⟨Bl, 0, none⟩), .pointer (some ⟨Bs, 0, none⟩), .pointer (some ⟨Be, 0, none⟩)]) ∧ Kd.R (Kd.int .i64) 3 w' wq.heap.size (fun _ => True) s_.1 tr ∧ Kd.R (Kd.int .i64) 3 w' wq.heap.size (fun _ => True) s_.2 [(i : Int) - 1] ∧ Below wq.heap.size wq w') ?_ ?_
     rotate_left
     ·
      intro hCont
      refine two_ (i := 2) (j := 4) (Ni := some 46) (Nj := some 48) #[true, true, true, true, false, false, false] #[true, true, false, true, true, false, false] rfl rfl rfl rfl (by kernel_rfl) (by decide) (by decide) (fun K hK => ?_) (fun K hK => ?_)
      ·
       refine goes_ Try.func39 (by kernel_rfl) rfl #[.slice At tr.length ct] (by rfl) rfl rfl (by (try simp only [List.map_toArray, List.map_cons, List.map_nil]); first | done | rfl) ?_
       refine (slices_Clone_int_int.calls At ct tr tr _ (C_keepI HCq.out HBd.out) Hct.out (if_pos HBIG.out)).mono ?_
       rintro e wc ⟨vc, rfl, hoc, hb⟩
       refine ⟨_, rfl, ?_⟩
       have HOc := Aside0.mk (Kd.R_lower hoc HBd.out.size)
       have HBc := Aside0.mk (HBd.out.trans (hb.mono HBd.out.size))
       refine hK.out _ _ ((hb.cell (World.block_lt_of_cell? _ _ hHeld)).trans hHeld) (fun hHeld => ?_)
       clear hK K hoc hb
       refine norm_ (a' := ?_) ?_ ?_
       rotate_left
       ·
        show Act.put _ (some 46) _ = _
        simp only [Act.put, List.setIfInBounds_toArray, List.set_cons_zero, List.set_cons_succ, i64_w, i32_w]
        rfl
       refine one_ (i := 4) (N := some 48) #[true, true, true, true, true, false, false] rfl rfl (by kernel_rfl) (by decide) (fun K hK => ?_)
       refine Kd.R_lit_step (Kd.int .i64) _ 3 ?hg (N := 48) ?hd (xs := [(i : Int) - 1]) (inner := [.int .i64 ((i : Int) - 1)]) (ok := fun _ => True) (okp := fun _ => True) ?hr ?hp (fun _ hk => hk) trivial (Below.refl _ _) (Nat.le_refl _) (by simp) ?_
       case hd => rfl
       case hg => rfl
       case hr => first | (go_simp; done) | (go_simp; rfl)
       case hp => exact repsOne _
       intro vk wk hok hb _ _
       have HOc2 := Aside0.mk (Kd.R_below HOc.out hb)
       have HBk := Aside0.mk (HBc.out.trans (hb.mono HBc.out.size))
       have HOk := Aside0.mk (Kd.R_lower hok HBc.out.size)
       refine hK.out _ _ ((hb.cell (World.block_lt_of_cell? _ _ hHeld)).trans hHeld) (fun hHeld => ?_)
       clear hK K hok hb
       refine norm_ (a' := ?_) ?_ ?_
       rotate_left
       ·
        show Act.put _ (some 48) _ = _
        simp only [Act.put, List.setIfInBounds_toArray, List.set_cons_zero, List.set_cons_succ, i64_w, i32_w]
        rfl
       exact norm_ (by simp only [putAll, Act.put, List.setIfInBounds_toArray, List.set_cons_zero, List.set_cons_succ]) (hCont (vc, vk) _ ⟨hHeld, HOc2.out, HOk.out, HBk.out⟩)
      ·
       skip
       refine Kd.R_lit_step (Kd.int .i64) _ 3 ?hg (N := 48) ?hd (xs := [(i : Int) - 1]) (inner := [.int .i64 ((i : Int) - 1)]) (ok := fun _ => True) (okp := fun _ => True) ?hr ?hp (fun _ hk => hk) trivial (Below.refl _ _) (Nat.le_refl _) (by simp) ?_
       case hd => rfl
       case hg => rfl
       case hr => first | (go_simp; done) | (go_simp; rfl)
       case hp => exact repsOne _
       intro vk wk hok hb _ _
       have HBk := Aside0.mk (HBd.out.trans (hb.mono HBd.out.size))
       have HOk := Aside0.mk (Kd.R_lower hok HBd.out.size)
       refine hK.out _ _ ((hb.cell (World.block_lt_of_cell? _ _ hHeld)).trans hHeld) (fun hHeld => ?_)
       clear hK K hok hb
       refine norm_ (a' := ?_) ?_ ?_
       rotate_left
       ·
        show Act.put _ (some 48) _ = _
        simp only [Act.put, List.setIfInBounds_toArray, List.set_cons_zero, List.set_cons_succ, i64_w, i32_w]
        rfl
       refine one_ (i := 2) (N := some 46) #[true, true, true, true, true, false, false] rfl rfl (by kernel_rfl) (by decide) (fun K hK => ?_)
       refine goes_ Try.func39 (by kernel_rfl) rfl #[.slice At tr.length ct] (by rfl) rfl rfl (by (try simp only [List.map_toArray, List.map_cons, List.map_nil]); first | done | rfl) ?_
       refine (slices_Clone_int_int.calls At ct tr tr _ (C_keepI HCq.out HBk.out) Hct.out (if_pos HBIG.out)).mono ?_
       rintro e wc ⟨vc, rfl, hoc, hb⟩
       refine ⟨_, rfl, ?_⟩
       have HOc := Aside0.mk (Kd.R_lower hoc HBk.out.size)
       have HBc := Aside0.mk (HBk.out.trans (hb.mono HBk.out.size))
       have HOk2 := Aside0.mk (Kd.R_below HOk.out hb)
       refine hK.out _ _ ((hb.cell (World.block_lt_of_cell? _ _ hHeld)).trans hHeld) (fun hHeld => ?_)
       clear hK K hoc hb
       refine norm_ (a' := ?_) ?_ ?_
       rotate_left
       ·
        show Act.put _ (some 46) _ = _
        simp only [Act.put, List.setIfInBounds_toArray, List.set_cons_zero, List.set_cons_succ, i64_w, i32_w]
        rfl
       exact norm_ (by simp only [putAll, Act.put, List.setIfInBounds_toArray, List.set_cons_zero, List.set_cons_succ]) (hCont (vc, vk) _ ⟨hHeld, HOc.out, HOk2.out, HBc.out⟩)
     rintro ⟨vc, vk⟩ wj ⟨hS_, h0_, h1_, h2_⟩
     have HOc : Aside0 (Kd.R (Kd.int .i64) 3 wj wq.heap.size (fun _ => True) vc tr) := ⟨h0_⟩
     have HOk : Aside0 (Kd.R (Kd.int .i64) 3 wj wq.heap.size (fun _ => True) vk [(i : Int) - 1]) := ⟨h1_⟩
     have HBj : Aside0 (Below wq.heap.size wq wj) := ⟨h2_⟩
     have hHeld : wj.cell? ⟨Be, 0, none⟩ = some (.func (.func 38) #[] #[.pointer (some ⟨Ba, 0, none⟩), .pointer (some ⟨Bb, 0, none⟩), .pointer (some ⟨Bp, 0, none⟩), .pointer (some ⟨Bl, 0, none⟩), .pointer (some ⟨Bs, 0, none⟩), .pointer (some ⟨Be, 0, none⟩)]) := hS_
     clear h0_ h1_ h2_ hS_
     obtain ⟨Ak, ck, eo⟩ := Kd.R_slice HOk.out
     subst eo
     refine norm_ (a' := ?_) ?_ ?_
     rotate_left
     ·
      simp only [putAll, Act.put, List.setIfInBounds_toArray, List.set_cons_zero, List.set_cons_succ]
      rfl
     refine one_ (i := 5) (N := some 49) #[true, true, true, true, true, true, false] rfl rfl (by kernel_rfl) (by decide) (fun K hK => ?_)
     refine Kd.R_append_rows_step (Kd.int .i64) wq.heap.size (by rfl) (.tmp 46) (.tmp 48) 25 3 (.int .i64 0) 8 rfl Try.underlying25 info3 rfl (by decide) (by omega) vc tr [(i : Int) - 1] _ _ _ (fun _ => True) (fun _ => False) rfl rfl ?aO ?aR (fun _ _ h => h) (fun _ h => h.elim) ?aF HBj.out ?aS ?aL ?_
     case aO => exact HOc.out
     case aR => exact (Kd.R_reads' HOk.out).2.2
     case aF => exact fun _ _ => trivial
     case aS => exact HBj.out.size
     case aL => have := HBIG.out; simp only [List.length_singleton]; omega
     intro v3 w3 ho hb hg hat
     rw [← NY.out] at ho
     have HO3 := Aside0.mk ho
     have HB3 := Aside0.mk hb
     clear ho hb hg hat
     obtain ⟨Ao, co, eo⟩ := Kd.R_slice HO3.out
     subst eo
     have hHeld3 : w3.cell? ⟨Be, 0, none⟩ = some (.func (.func 38) #[] #[.pointer (some ⟨Ba, 0, none⟩), .pointer (some ⟨Bb, 0, none⟩), .pointer (some ⟨Bp, 0, none⟩), .pointer (some ⟨Bl, 0, none⟩), .pointer (some ⟨Bs, 0, none⟩), .pointer (some ⟨Be, 0, none⟩)]) := (HB3.out.cell (World.block_lt_of_cell? _ _ cE)).trans cE
     clear hHeld
     refine hK.out _ _ hHeld3 (fun hHeld => ?_)
     clear hK K hHeld3
     refine norm_ (a' := ?_) ?_ ?_
     rotate_left
     ·
      show Act.put _ (some 49) _ = _
      simp only [Act.put, List.setIfInBounds_toArray, List.set_cons_zero, List.set_cons_succ, i64_w, i32_w]
      rfl
     refine one_ (i := 6) (N := some 50) #[true, true, true, true, true, true, true] rfl rfl (by kernel_rfl) (by decide) (fun K hK => ?_)
     refine goesV_ EG.out #[.slice Ao y.length co, .pointer (some ⟨Ba, 0, none⟩), .pointer (some ⟨Bb, 0, none⟩), .pointer (some ⟨Bp, 0, none⟩), .pointer (some ⟨Bl, 0, none⟩), .pointer (some ⟨Bs, 0, none⟩), .pointer (some ⟨Be, 0, none⟩)] (by rfl) rfl rfl (by rfl) (by simp only [List.map_toArray, List.map_cons, List.map_nil]; rfl) ?_
     refine (ih y Ao co w3 v' s' s2 (by rw [NY.out, List.length_append, List.length_singleton]; have := HN.out; omega) (Kd.R_reads' HO3.out).2.2 (Kd.R_reads' HO3.out).2.1 ?hne (HBq.out.trans (HB3.out.mono HBq.out.size)) ?hk (HSq.out.below HB3.out) (by rw [NY.out]; exact HF.out)).mono ?_
     case hne =>
      intro ad ea hpos
      have h1 : wq.heap.size ≤ ad.block := Kd.R_base HO3.out ad.block (by rw [ea]; rfl)
      have h2 := HLT.out
      have h3 := HKq1.out.1
      exact ⟨by omega, by omega⟩
     case hk => exact Kept.then_ (S := Two Bs Bl) HKq1.out (Kept.of_below HB3.out (fun _ => False)) (fun _ h => h.elim)
     rintro e w4 ⟨rfl, hb4, hk4, v4, hs4⟩
     refine ⟨_, rfl, ?_⟩
     have HK4 := Aside0.mk (Kept.then_ (S := Two Bs Bl) (Kept.then_ (S := Two Bs Bl) HKq.out (Kept.of_below HB3.out (fun _ => False)) (fun _ h => h.elim)) hk4 (fun _ h => .inl h))
     have HK41 := Aside0.mk (Kept.then_ (S := Two Bs Bl) (Kept.then_ (S := Two Bs Bl) HKq1.out (Kept.of_below HB3.out (fun _ => False)) (fun _ h => h.elim)) hk4 (fun _ h => .inl h))
     have HB4 := Aside0.mk hb4
     have HS4 := Aside0.mk hs4
     clear hb4 hk4 hs4
     have cE4 := blk_cell (ENV.out w4 HK41.out).2.2.2 0
     refine hK.out _ _ cE4 (fun hHeld4 => ?_)
     clear hK K
     refine done_ (done_of HT_.out (by kernel_rfl)) ?_
     clear hHeld hHeld4 cE4 cE HT_ HW_
     go_wp2
     go_roundg (l1.length + 1 - (i + 1))
     case measure => omega
     case rel => exact ⟨i + 1, v4, s2, by omega, by omega, by go_num, HB4, HK4, HS4, ⟨by rw [show l1.length + 1 - (i + 1) = d from by omega]; exact HT.out⟩⟩
    ·
     have hneg : ((i : Int) - 1 < 0) = False := eq_false (by omega)
     have hnegb : decide ((i : Int) - 1 < 0) = false := decide_eq_false (by omega)
     obtain ⟨k1, hf1⟩ := (ev_containsI tr (by have := HBIG.out; omega) ((i : Int) - 1)).rounds
     have HCN := Aside0.mk hf1
     clear hf1
     go_wp2_with fail
     by_cases hin : ((i : Int) - 1) ∈ tr
     ·
      rw [decide_eq_true hin] at HCN
      rw [if_neg (fun q => q.elim (by omega) (fun n => n hin))] at HT0
      have HT := Aside0.mk HT0
      clear HT0
      refine (slices_Contains_int_int.calls k1 At ct tr ((i : Int) - 1) true _ (HKC.out _ HKr.out) Hct.out HCN.out).mono ?_
      rintro e wq ⟨rfl, hb⟩
      replace hb := hb.below
      go_wp2
      go_roundg (l1.length + 1 - (i + 1))
      case measure => omega
      case rel => exact ⟨i + 1, v', s', by omega, by omega, by go_num, ⟨HBr.out.trans (hb.mono HBr.out.size)⟩, ⟨Kept.then_ (S := Two Bs Bl) HKr.out (Kept.of_below hb (fun _ => False)) (fun _ h => h.elim)⟩, ⟨HSr.out.below hb⟩, ⟨by rw [show l1.length + 1 - (i + 1) = d from by omega]; exact HT.out⟩⟩
     ·
      rw [decide_eq_false hin] at HCN
      rw [if_pos (.inr hin)] at HT0
      obtain ⟨s2, hf, ht⟩ := Option.bind_eq_some_iff.1 HT0
      have HF := Aside0.mk hf
      have HT := Aside0.mk ht
      clear hf ht HT0
      refine (slices_Contains_int_int.calls k1 At ct tr ((i : Int) - 1) false _ (HKC.out _ HKr.out) Hct.out HCN.out).mono ?_
      rintro e wq ⟨rfl, hb⟩
      replace hb := hb.below
      have HBq := Aside0.mk (HBr.out.trans (hb.mono HBr.out.size))
      have HKq := Aside0.mk (Kept.then_ (S := Two Bs Bl) HKr.out (Kept.of_below hb (fun _ => False)) (fun _ h => h.elim))
      have HKq1 := Aside0.mk (Kept.then_ (S := Two Bs Bl) HKr1.out (Kept.of_below hb (fun _ => False)) (fun _ h => h.elim))
      have HSq := Aside0.mk (HSr.out.below hb)
      have HCq := Aside0.mk (HKC.out _ HKq.out)
      replace cE : wq.cell? ⟨Be, 0, none⟩ = some (.func (.func 38) #[] #[.pointer (some ⟨Ba, 0, none⟩), .pointer (some ⟨Bb, 0, none⟩), .pointer (some ⟨Bp, 0, none⟩), .pointer (some ⟨Bl, 0, none⟩), .pointer (some ⟨Bs, 0, none⟩), .pointer (some ⟨Be, 0, none⟩)]) := blk_cell (ENV.out wq HKq1.out).2.2.2 0
      clear hb cB
      go_wp2_with fail
      obtain ⟨y, hy⟩ : ∃ y, y = tr ++ [(i : Int) - 1] := ⟨_, rfl⟩
      have NY := Aside0.mk hy
      clear hy
      have HBd := Aside0.mk (below_drew (Below.refl wq.heap.size wq))
      refine start_ (n := 7) (S := fun w' => w'.cell? ⟨Be, 0, none⟩ = some (.func (.func 38) #[] #[.pointer (some ⟨Ba, 0, none⟩), .pointer (some ⟨Bb, 0, none⟩), .pointer (some ⟨Bp, 0, none⟩), .pointer (some ⟨Bl, 0, none⟩), .pointer (some ⟨Bs, 0, none⟩), .pointer (some ⟨Be, 0, none⟩)])) (ds := []) #[false, false, false, false, false, false, false] (by kernel_rfl) rfl rfl (show wq.drew.cell? ⟨Be, 0, none⟩ = _ from cE) (fun hHeld => ?_)
      refine with_tabW impl_bestTracking.c.tab8 impl_bestTracking.c.bits8 (fun HT_ HW_ => ?_)
      generalize wq.drew = wd at HBd hHeld ⊢
      refine pure_ (i := 1) (N := some 45) (v := ?_) (a' := ?_) #[false, true, false, false, false, false, false] rfl rfl (any_of HT_.out (by kernel_rfl)) (fun _ _ _ h => h) (Or.inl ⟨by rfl, ?_⟩) ?_ ?_
      rotate_left
      ·
       intro w'
       go_simp
       with_reducible rfl
      rotate_left
      ·
       simp only [Act.put, List.setIfInBounds_toArray, List.set_cons_zero, List.set_cons_succ, i64_w, i32_w]
       rfl
      refine pure_ (i := 3) (N := some 47) (v := ?_) (a' := ?_) #[false, true, false, true, false, false, false] rfl rfl (any_of HT_.out (by kernel_rfl)) (fun _ _ _ h => h) (Or.inl ⟨by rfl, ?_⟩) ?_ ?_
      rotate_left
      ·
       intro w'
       go_simp
       with_reducible rfl
      rotate_left
      ·
       simp only [Act.put, List.setIfInBounds_toArray, List.set_cons_zero, List.set_cons_succ, i64_w, i32_w]
       rfl
      refine take_ (i := 0) (N := some 44) (v := ?_) (a' := ?_) #[true, true, false, true, false, false, false] rfl rfl (take_ofW HT_.out HW_.out (by kernel_rfl)) (fun _ _ _ h => h) (Or.inl ⟨by rfl, ?_⟩) hHeld ?_ ?_
      rotate_left
      ·
       rintro w' s0
       go_simp
       with_reducible rfl
      rotate_left
      ·
       simp only [Act.put, List.setIfInBounds_toArray, List.set_cons_zero, List.set_cons_succ, i64_w, i32_w]
       rfl
      refine join_ (σ := Value × Value) 2 #[true, true, true, true, true, false, false] (fun s_ => [(46, s_.1), (48, s_.2)]) (fun s_ w' => w'.cell? ⟨Be, 0, none⟩ = some (.func (.func 38) #[] #[.pointer (some ⟨Ba, 0, none⟩), .pointer (some ⟨Bb, 0, none⟩), .pointer (some ⟨Bp, 0, none⟩), .pointer (some ⟨Bl, 0, none⟩), .pointer (some ⟨Bs, 0, none⟩), .pointer (some ⟨Be, 0, none⟩)]) ∧ Kd.R (Kd.int .i64) 3 w' wq.heap.size (fun _ => True) s_.1 tr ∧ Kd.R (Kd.int .i64) 3 w' wq.heap.size (fun _ => True) s_.2 [(i : Int) - 1] ∧ Below wq.heap.size wq w') ?_ ?_
      rotate_left
      ·
       intro hCont
       refine two_ (i := 2) (j := 4) (Ni := some 46) (Nj := some 48) #[true, true, true, true, false, false, false] #[true, true, false, true, true, false, false] rfl rfl rfl rfl (by kernel_rfl) (by decide) (by decide) (fun K hK => ?_) (fun K hK => ?_)
       ·
        refine goes_ Try.func39 (by kernel_rfl) rfl #[.slice At tr.length ct] (by rfl) rfl rfl (by (try simp only [List.map_toArray, List.map_cons, List.map_nil]); first | done | rfl) ?_
        refine (slices_Clone_int_int.calls At ct tr tr _ (C_keepI HCq.out HBd.out) Hct.out (if_pos HBIG.out)).mono ?_
        rintro e wc ⟨vc, rfl, hoc, hb⟩
        refine ⟨_, rfl, ?_⟩
        have HOc := Aside0.mk (Kd.R_lower hoc HBd.out.size)
        have HBc := Aside0.mk (HBd.out.trans (hb.mono HBd.out.size))
        refine hK.out _ _ ((hb.cell (World.block_lt_of_cell? _ _ hHeld)).trans hHeld) (fun hHeld => ?_)
        clear hK K hoc hb
        refine norm_ (a' := ?_) ?_ ?_
        rotate_left
        ·
         show Act.put _ (some 46) _ = _
         simp only [Act.put, List.setIfInBounds_toArray, List.set_cons_zero, List.set_cons_succ, i64_w, i32_w]
         rfl
        refine one_ (i := 4) (N := some 48) #[true, true, true, true, true, false, false] rfl rfl (by kernel_rfl) (by decide) (fun K hK => ?_)
        refine Kd.R_lit_step (Kd.int .i64) _ 3 ?hg (N := 48) ?hd (xs := [(i : Int) - 1]) (inner := [.int .i64 ((i : Int) - 1)]) (ok := fun _ => True) (okp := fun _ => True) ?hr ?hp (fun _ hk => hk) trivial (Below.refl _ _) (Nat.le_refl _) (by simp) ?_
        case hd => rfl
        case hg => rfl
        case hr => first | (go_simp; done) | (go_simp; rfl)
        case hp => exact repsOne _
        intro vk wk hok hb _ _
        have HOc2 := Aside0.mk (Kd.R_below HOc.out hb)
        have HBk := Aside0.mk (HBc.out.trans (hb.mono HBc.out.size))
        have HOk := Aside0.mk (Kd.R_lower hok HBc.out.size)
        refine hK.out _ _ ((hb.cell (World.block_lt_of_cell? _ _ hHeld)).trans hHeld) (fun hHeld => ?_)
        clear hK K hok hb
        refine norm_ (a' := ?_) ?_ ?_
        rotate_left
        ·
         show Act.put _ (some 48) _ = _
         simp only [Act.put, List.setIfInBounds_toArray, List.set_cons_zero, List.set_cons_succ, i64_w, i32_w]
         rfl
        exact norm_ (by simp only [putAll, Act.put, List.setIfInBounds_toArray, List.set_cons_zero, List.set_cons_succ]) (hCont (vc, vk) _ ⟨hHeld, HOc2.out, HOk.out, HBk.out⟩)
       ·
        skip
        refine Kd.R_lit_step (Kd.int .i64) _ 3 ?hg (N := 48) ?hd (xs := [(i : Int) - 1]) (inner := [.int .i64 ((i : Int) - 1)]) (ok := fun _ => True) (okp := fun _ => True) ?hr ?hp (fun _ hk => hk) trivial (Below.refl _ _) (Nat.le_refl _) (by simp) ?_
        case hd => rfl
        case hg => rfl
        case hr => first | (go_simp; done) | (go_simp; rfl)
        case hp => exact repsOne _
        intro vk wk hok hb _ _
        have HBk := Aside0.mk (HBd.out.trans (hb.mono HBd.out.size))
        have HOk := Aside0.mk (Kd.R_lower hok HBd.out.size)
        refine hK.out _ _ ((hb.cell (World.block_lt_of_cell? _ _ hHeld)).trans hHeld) (fun hHeld => ?_)
        clear hK K hok hb
        refine norm_ (a' := ?_) ?_ ?_
        rotate_left
        ·
         show Act.put _ (some 48) _ = _
         simp only [Act.put, List.setIfInBounds_toArray, List.set_cons_zero, List.set_cons_succ, i64_w, i32_w]
         rfl
        refine one_ (i := 2) (N := some 46) #[true, true, true, true, true, false, false] rfl rfl (by kernel_rfl) (by decide) (fun K hK => ?_)
        refine goes_ Try.func39 (by kernel_rfl) rfl #[.slice At tr.length ct] (by rfl) rfl rfl (by (try simp only [List.map_toArray, List.map_cons, List.map_nil]); first | done | rfl) ?_
        refine (slices_Clone_int_int.calls At ct tr tr _ (C_keepI HCq.out HBk.out) Hct.out (if_pos HBIG.out)).mono ?_
        rintro e wc ⟨vc, rfl, hoc, hb⟩
        refine ⟨_, rfl, ?_⟩
        have HOc := Aside0.mk (Kd.R_lower hoc HBk.out.size)
        have HBc := Aside0.mk (HBk.out.trans (hb.mono HBk.out.size))
        have HOk2 := Aside0.mk (Kd.R_below HOk.out hb)
        refine hK.out _ _ ((hb.cell (World.block_lt_of_cell? _ _ hHeld)).trans hHeld) (fun hHeld => ?_)
        clear hK K hoc hb
        refine norm_ (a' := ?_) ?_ ?_
        rotate_left
        ·
         show Act.put _ (some 46) _ = _
         simp only [Act.put, List.setIfInBounds_toArray, List.set_cons_zero, List.set_cons_succ, i64_w, i32_w]
         rfl
        exact norm_ (by simp only [putAll, Act.put, List.setIfInBounds_toArray, List.set_cons_zero, List.set_cons_succ]) (hCont (vc, vk) _ ⟨hHeld, HOc.out, HOk2.out, HBc.out⟩)
      rintro ⟨vc, vk⟩ wj ⟨hS_, h0_, h1_, h2_⟩
      have HOc : Aside0 (Kd.R (Kd.int .i64) 3 wj wq.heap.size (fun _ => True) vc tr) := ⟨h0_⟩
      have HOk : Aside0 (Kd.R (Kd.int .i64) 3 wj wq.heap.size (fun _ => True) vk [(i : Int) - 1]) := ⟨h1_⟩
      have HBj : Aside0 (Below wq.heap.size wq wj) := ⟨h2_⟩
      have hHeld : wj.cell? ⟨Be, 0, none⟩ = some (.func (.func 38) #[] #[.pointer (some ⟨Ba, 0, none⟩), .pointer (some ⟨Bb, 0, none⟩), .pointer (some ⟨Bp, 0, none⟩), .pointer (some ⟨Bl, 0, none⟩), .pointer (some ⟨Bs, 0, none⟩), .pointer (some ⟨Be, 0, none⟩)]) := hS_
      clear h0_ h1_ h2_ hS_
      obtain ⟨Ak, ck, eo⟩ := Kd.R_slice HOk.out
      subst eo
      refine norm_ (a' := ?_) ?_ ?_
      rotate_left
      ·
       simp only [putAll, Act.put, List.setIfInBounds_toArray, List.set_cons_zero, List.set_cons_succ]
       rfl
      refine one_ (i := 5) (N := some 49) #[true, true, true, true, true, true, false] rfl rfl (by kernel_rfl) (by decide) (fun K hK => ?_)
      refine Kd.R_append_rows_step (Kd.int .i64) wq.heap.size (by rfl) (.tmp 46) (.tmp 48) 25 3 (.int .i64 0) 8 rfl Try.underlying25 info3 rfl (by decide) (by omega) vc tr [(i : Int) - 1] _ _ _ (fun _ => True) (fun _ => False) rfl rfl ?aO ?aR (fun _ _ h => h) (fun _ h => h.elim) ?aF HBj.out ?aS ?aL ?_
      case aO => exact HOc.out
      case aR => exact (Kd.R_reads' HOk.out).2.2
      case aF => exact fun _ _ => trivial
      case aS => exact HBj.out.size
      case aL => have := HBIG.out; simp only [List.length_singleton]; omega
      intro v3 w3 ho hb hg hat
      rw [← NY.out] at ho
      have HO3 := Aside0.mk ho
      have HB3 := Aside0.mk hb
      clear ho hb hg hat
      obtain ⟨Ao, co, eo⟩ := Kd.R_slice HO3.out
      subst eo
      have hHeld3 : w3.cell? ⟨Be, 0, none⟩ = some (.func (.func 38) #[] #[.pointer (some ⟨Ba, 0, none⟩), .pointer (some ⟨Bb, 0, none⟩), .pointer (some ⟨Bp, 0, none⟩), .pointer (some ⟨Bl, 0, none⟩), .pointer (some ⟨Bs, 0, none⟩), .pointer (some ⟨Be, 0, none⟩)]) := (HB3.out.cell (World.block_lt_of_cell? _ _ cE)).trans cE
      clear hHeld
      refine hK.out _ _ hHeld3 (fun hHeld => ?_)
      clear hK K hHeld3
      refine norm_ (a' := ?_) ?_ ?_
      rotate_left
      ·
       show Act.put _ (some 49) _ = _
       simp only [Act.put, List.setIfInBounds_toArray, List.set_cons_zero, List.set_cons_succ, i64_w, i32_w]
       rfl
      refine one_ (i := 6) (N := some 50) #[true, true, true, true, true, true, true] rfl rfl (by kernel_rfl) (by decide) (fun K hK => ?_)
      refine goesV_ EG.out #[.slice Ao y.length co, .pointer (some ⟨Ba, 0, none⟩), .pointer (some ⟨Bb, 0, none⟩), .pointer (some ⟨Bp, 0, none⟩), .pointer (some ⟨Bl, 0, none⟩), .pointer (some ⟨Bs, 0, none⟩), .pointer (some ⟨Be, 0, none⟩)] (by rfl) rfl rfl (by rfl) (by simp only [List.map_toArray, List.map_cons, List.map_nil]; rfl) ?_
      refine (ih y Ao co w3 v' s' s2 (by rw [NY.out, List.length_append, List.length_singleton]; have := HN.out; omega) (Kd.R_reads' HO3.out).2.2 (Kd.R_reads' HO3.out).2.1 ?hne (HBq.out.trans (HB3.out.mono HBq.out.size)) ?hk (HSq.out.below HB3.out) (by rw [NY.out]; exact HF.out)).mono ?_
      case hne =>
       intro ad ea hpos
       have h1 : wq.heap.size ≤ ad.block := Kd.R_base HO3.out ad.block (by rw [ea]; rfl)
       have h2 := HLT.out
       have h3 := HKq1.out.1
       exact ⟨by omega, by omega⟩
      case hk => exact Kept.then_ (S := Two Bs Bl) HKq1.out (Kept.of_below HB3.out (fun _ => False)) (fun _ h => h.elim)
      rintro e w4 ⟨rfl, hb4, hk4, v4, hs4⟩
      refine ⟨_, rfl, ?_⟩
      have HK4 := Aside0.mk (Kept.then_ (S := Two Bs Bl) (Kept.then_ (S := Two Bs Bl) HKq.out (Kept.of_below HB3.out (fun _ => False)) (fun _ h => h.elim)) hk4 (fun _ h => .inl h))
      have HK41 := Aside0.mk (Kept.then_ (S := Two Bs Bl) (Kept.then_ (S := Two Bs Bl) HKq1.out (Kept.of_below HB3.out (fun _ => False)) (fun _ h => h.elim)) hk4 (fun _ h => .inl h))
      have HB4 := Aside0.mk hb4
      have HS4 := Aside0.mk hs4
      clear hb4 hk4 hs4
      have cE4 := blk_cell (ENV.out w4 HK41.out).2.2.2 0
      refine hK.out _ _ cE4 (fun hHeld4 => ?_)
      clear hK K
      refine done_ (done_of HT_.out (by kernel_rfl)) ?_
      clear hHeld hHeld4 cE4 cE HT_ HW_
      go_wp2
      go_roundg (l1.length + 1 - (i + 1))
      case measure => omega
      case rel => exact ⟨i + 1, v4, s2, by omega, by omega, by go_num, HB4, HK4, HS4, ⟨by rw [show l1.length + 1 - (i + 1) = d from by omega]; exact HT.out⟩⟩
   ·
    have hltz : ((i : Int) - 1 < (l1.length : Int)) = False := eq_false (by omega)
    have HT0 := HTr.out
    rw [show l1.length + 1 - i = 0 from by omega] at HT0
    have hr : s' = r := Option.some.inj HT0
    subst hr
    clear HT0
    go_wp2
    (try simp only [Exit.inBlock, Exit.then]); first | refine bodyPost_end (results_none rfl _ _ _) rfl ?_ | refine bodyPost_ret (results_none rfl _ _ _) rfl ?_
    exact ⟨rfl, HBr.out, HKr.out, v', HSr.out⟩
theorem rsFunc (P : Program) (w : World) (a : Addr) (m : Mode) (fn : Fn) (first captured : Array Value) : (store a (.func fn first captured) m).run P w = stored P w a (.func fn first captured) m := run_store P w a _ m rfl
attribute [local go_sem] rsFunc
set_option maxHeartbeats 4000000 in
set_option maxRecDepth 100000 in
theorem impl_bestTracking.calls (k : Nat) (A0 : Option Addr) (c0 : Nat) (l0 : List S54) (A1 : Option Addr) (c1 : Nat) (l1 : List S54) (a2 : Int) (r1 : List Int) (r2 : Int) (w : World) (hr0 : Kd.C k54 w A0 l0.length l0) (hc0 : l0.length ≤ c0) (hr1 : Kd.C k54 w A1 l1.length l1) (hc1 : l1.length ≤ c1) (h : impl_bestTracking.f k l0 l1 a2 = some (r1, r2)) :
  Calls Try.prog 24 #[.slice A0 l0.length c0, .slice A1 l1.length c1, .int .i64 a2] w fun e w' => ∃ v0_ : Value, e = .returned (.tuple #[v0_, .int .i64 r2]) ∧ Kd.R (Kd.int .i64) 3 w' w.heap.size (fun _ => True) v0_ r1 ∧ Below w.heap.size w w' := by
 have H := h
 unfold impl_bestTracking.f at H
 split at H
 ·
  rename_i hl
  obtain ⟨W1, hW1⟩ : ∃ W1, W1 = ((((((w.alloc (.cells #[.slice A0 l0.length c0] 24)).alloc (.cells #[.slice A1 l1.length c1] 24)).alloc (.cells #[.int .i64 a2] 3)).alloc (.cells #[.slice none 0 0] 25)).alloc (.cells #[.int .i64 (-1)] 3)).alloc (.cells #[.func (.func 38) #[] #[.pointer (some ⟨w.heap.size, 0, none⟩), .pointer (some ⟨w.heap.size + 1, 0, none⟩), .pointer (some ⟨w.heap.size + 1 + 1, 0, none⟩), .pointer (some ⟨w.heap.size + 1 + 1 + 1 + 1, 0, none⟩), .pointer (some ⟨w.heap.size + 1 + 1 + 1, 0, none⟩), .pointer (some ⟨w.heap.size + 1 + 1 + 1 + 1 + 1, 0, none⟩)]] 62)) := ⟨_, rfl⟩
  have a1B : Below w.heap.size w W1 := by rw [hW1]; repeat (first | exact Below.refl _ _ | apply below_alloc)
  have n0 : W1.heap[w.heap.size]? = some (.cells #[.slice A0 l0.length c0] 24 (0, 0)) := by
   rw [hW1]
   have q := blk_new w (.cells #[.slice A0 l0.length c0] 24)
   have q := blk_alloc q (.cells #[.slice A1 l1.length c1] 24)
   have q := blk_alloc q (.cells #[.int .i64 a2] 3)
   have q := blk_alloc q (.cells #[.slice none 0 0] 25)
   have q := blk_alloc q (.cells #[.int .i64 (-1)] 3)
   have q := blk_alloc q (.cells #[.func (.func 38) #[] #[.pointer (some ⟨w.heap.size, 0, none⟩), .pointer (some ⟨w.heap.size + 1, 0, none⟩), .pointer (some ⟨w.heap.size + 1 + 1, 0, none⟩), .pointer (some ⟨w.heap.size + 1 + 1 + 1 + 1, 0, none⟩), .pointer (some ⟨w.heap.size + 1 + 1 + 1, 0, none⟩), .pointer (some ⟨w.heap.size + 1 + 1 + 1 + 1 + 1, 0, none⟩)]] 62)
   simpa using q
  have n1 : W1.heap[w.heap.size + 1]? = some (.cells #[.slice A1 l1.length c1] 24 (0, 0)) := by
   rw [hW1]
   have q := blk_new (w.alloc (.cells #[.slice A0 l0.length c0] 24)) (.cells #[.slice A1 l1.length c1] 24)
   have q := blk_alloc q (.cells #[.int .i64 a2] 3)
   have q := blk_alloc q (.cells #[.slice none 0 0] 25)
   have q := blk_alloc q (.cells #[.int .i64 (-1)] 3)
   have q := blk_alloc q (.cells #[.func (.func 38) #[] #[.pointer (some ⟨w.heap.size, 0, none⟩), .pointer (some ⟨w.heap.size + 1, 0, none⟩), .pointer (some ⟨w.heap.size + 1 + 1, 0, none⟩), .pointer (some ⟨w.heap.size + 1 + 1 + 1 + 1, 0, none⟩), .pointer (some ⟨w.heap.size + 1 + 1 + 1, 0, none⟩), .pointer (some ⟨w.heap.size + 1 + 1 + 1 + 1 + 1, 0, none⟩)]] 62)
   simpa using q
  have n2 : W1.heap[w.heap.size + 1 + 1]? = some (.cells #[.int .i64 a2] 3 (0, 0)) := by
   rw [hW1]
   have q := blk_new ((w.alloc (.cells #[.slice A0 l0.length c0] 24)).alloc (.cells #[.slice A1 l1.length c1] 24)) (.cells #[.int .i64 a2] 3)
   have q := blk_alloc q (.cells #[.slice none 0 0] 25)
   have q := blk_alloc q (.cells #[.int .i64 (-1)] 3)
   have q := blk_alloc q (.cells #[.func (.func 38) #[] #[.pointer (some ⟨w.heap.size, 0, none⟩), .pointer (some ⟨w.heap.size + 1, 0, none⟩), .pointer (some ⟨w.heap.size + 1 + 1, 0, none⟩), .pointer (some ⟨w.heap.size + 1 + 1 + 1 + 1, 0, none⟩), .pointer (some ⟨w.heap.size + 1 + 1 + 1, 0, none⟩), .pointer (some ⟨w.heap.size + 1 + 1 + 1 + 1 + 1, 0, none⟩)]] 62)
   simpa using q
  have n3 : W1.heap[w.heap.size + 1 + 1 + 1]? = some (.cells #[.slice none 0 0] 25 (0, 0)) := by
   rw [hW1]
   have q := blk_new (((w.alloc (.cells #[.slice A0 l0.length c0] 24)).alloc (.cells #[.slice A1 l1.length c1] 24)).alloc (.cells #[.int .i64 a2] 3)) (.cells #[.slice none 0 0] 25)
   have q := blk_alloc q (.cells #[.int .i64 (-1)] 3)
   have q := blk_alloc q (.cells #[.func (.func 38) #[] #[.pointer (some ⟨w.heap.size, 0, none⟩), .pointer (some ⟨w.heap.size + 1, 0, none⟩), .pointer (some ⟨w.heap.size + 1 + 1, 0, none⟩), .pointer (some ⟨w.heap.size + 1 + 1 + 1 + 1, 0, none⟩), .pointer (some ⟨w.heap.size + 1 + 1 + 1, 0, none⟩), .pointer (some ⟨w.heap.size + 1 + 1 + 1 + 1 + 1, 0, none⟩)]] 62)
   simpa using q
  have n4 : W1.heap[w.heap.size + 1 + 1 + 1 + 1]? = some (.cells #[.int .i64 (-1)] 3 (0, 0)) := by
   rw [hW1]
   have q := blk_new ((((w.alloc (.cells #[.slice A0 l0.length c0] 24)).alloc (.cells #[.slice A1 l1.length c1] 24)).alloc (.cells #[.int .i64 a2] 3)).alloc (.cells #[.slice none 0 0] 25)) (.cells #[.int .i64 (-1)] 3)
   have q := blk_alloc q (.cells #[.func (.func 38) #[] #[.pointer (some ⟨w.heap.size, 0, none⟩), .pointer (some ⟨w.heap.size + 1, 0, none⟩), .pointer (some ⟨w.heap.size + 1 + 1, 0, none⟩), .pointer (some ⟨w.heap.size + 1 + 1 + 1 + 1, 0, none⟩), .pointer (some ⟨w.heap.size + 1 + 1 + 1, 0, none⟩), .pointer (some ⟨w.heap.size + 1 + 1 + 1 + 1 + 1, 0, none⟩)]] 62)
   simpa using q
  have n5 : W1.heap[w.heap.size + 1 + 1 + 1 + 1 + 1]? = some (.cells #[.func (.func 38) #[] #[.pointer (some ⟨w.heap.size, 0, none⟩), .pointer (some ⟨w.heap.size + 1, 0, none⟩), .pointer (some ⟨w.heap.size + 1 + 1, 0, none⟩), .pointer (some ⟨w.heap.size + 1 + 1 + 1 + 1, 0, none⟩), .pointer (some ⟨w.heap.size + 1 + 1 + 1, 0, none⟩), .pointer (some ⟨w.heap.size + 1 + 1 + 1 + 1 + 1, 0, none⟩)]] 62 (0, 0)) := by
   rw [hW1]
   have q := blk_new (((((w.alloc (.cells #[.slice A0 l0.length c0] 24)).alloc (.cells #[.slice A1 l1.length c1] 24)).alloc (.cells #[.int .i64 a2] 3)).alloc (.cells #[.slice none 0 0] 25)).alloc (.cells #[.int .i64 (-1)] 3)) (.cells #[.func (.func 38) #[] #[.pointer (some ⟨w.heap.size, 0, none⟩), .pointer (some ⟨w.heap.size + 1, 0, none⟩), .pointer (some ⟨w.heap.size + 1 + 1, 0, none⟩), .pointer (some ⟨w.heap.size + 1 + 1 + 1 + 1, 0, none⟩), .pointer (some ⟨w.heap.size + 1 + 1 + 1, 0, none⟩), .pointer (some ⟨w.heap.size + 1 + 1 + 1 + 1 + 1, 0, none⟩)]] 62)
   simpa using q
  have hsz : W1.heap.size = w.heap.size + 6 := by rw [hW1]; simp
  have HW := Aside0.mk hW1
  have HBW := Aside0.mk a1B
  have HSZ := Aside0.mk hsz
  have HX := Aside0.mk (impl_bestTracking.ext k l0 l1 a2 A0 A1 c0 c1 w W1 (w.heap.size) (w.heap.size + 1) (w.heap.size + 1 + 1) (w.heap.size + 1 + 1 + 1) (w.heap.size + 1 + 1 + 1 + 1) (w.heap.size + 1 + 1 + 1 + 1 + 1) _ rfl n0 n1 n2 n5 ⟨by omega, by omega, by omega, by omega, by omega, by omega, by omega, by omega, by omega⟩ ⟨by omega, by omega⟩ ⟨by omega, by omega⟩ hl hr0 hc0 hr1 hc1 l0.length [] none 0 W1 (.slice none 0 0) ([], -1) (r1, r2) (by simp) (Kd.C_nil _ _) (by simp) (fun ad e => by cases e) a1B (Kept.refl _ _) ⟨n3, n4, Kd.R_nil _ _ _ _ _⟩ H)
  clear hW1 a1B n0 n1 n2 n3 n4 n5 hsz hr0 hc0 hr1 hc1 h H hl
  go_enter Try.func24, Try.ntmps24
  go_wp2_with fail
  rw [← HW.out]
  refine HX.out.mono ?_
  rintro e we ⟨rfl, hb, hk, v', hs⟩
  obtain ⟨Av, cv, ev⟩ := Kd.R_slice hs.2.2
  subst ev
  have HB := Aside0.mk (below_drew hb)
  have HR := Aside0.mk (Kd.R_drew hs.2.2)
  have d0 : we.cell? ⟨w.heap.size + 1 + 1 + 1, 0, none⟩ = some (.slice Av r1.length cv) := blk_cell hs.1 0
  have d1 : we.cell? ⟨w.heap.size + 1 + 1 + 1 + 1, 0, none⟩ = some (.int .i64 r2) := blk_cell hs.2.1 0
  clear hb hk hs
  go_wp2_with fail
  refine start_ (n := 4) (S := fun w' => w'.cell? ⟨w.heap.size + 1 + 1 + 1, 0, none⟩ = some (.slice Av r1.length cv) ∧ w'.cell? ⟨w.heap.size + 1 + 1 + 1 + 1, 0, none⟩ = some (.int .i64 r2)) (ds := []) #[false, false, false, false] (by kernel_rfl) rfl rfl ⟨(show we.drew.cell? _ = _ from d0), (show we.drew.cell? _ = _ from d1)⟩ (fun hHeld => ?_)
  refine with_tabW impl_bestTracking.d.tab6 impl_bestTracking.d.bits6 (fun HT_ HW_ => ?_)
  generalize we.drew = w1 at HB HR hHeld ⊢
  refine take_ (i := 0) (N := some 14) (v := ?_) (a' := ?_) #[true, false, false, false] rfl rfl (take_ofW HT_.out HW_.out (by kernel_rfl)) (fun _ _ _ h => h) (Or.inl ⟨by rfl, ?_⟩) hHeld ?_ ?_
  rotate_left
  ·
   rintro w' ⟨s0, s1⟩
   go_simp
   with_reducible rfl
  rotate_left
  ·
   simp only [Act.put, List.setIfInBounds_toArray, List.set_cons_zero, List.set_cons_succ, i64_w, i32_w]
   rfl
  refine pure_ (i := 2) (N := some 6) (v := ?_) (a' := ?_) #[true, false, true, false] rfl rfl (any_of HT_.out (by kernel_rfl)) (fun _ _ _ h => h) (Or.inl ⟨by rfl, ?_⟩) ?_ ?_
  rotate_left
  ·
   intro w'
   go_simp
   with_reducible rfl
  rotate_left
  ·
   simp only [Act.put, List.setIfInBounds_toArray, List.set_cons_zero, List.set_cons_succ, i64_w, i32_w]
   rfl
  refine take_ (i := 1) (N := some 15) (v := ?_) (a' := ?_) #[true, true, true, false] rfl rfl (take_ofW HT_.out HW_.out (by kernel_rfl)) (fun _ _ _ h => h) (Or.inl ⟨by rfl, ?_⟩) hHeld ?_ ?_
  rotate_left
  ·
   rintro w' ⟨s0, s1⟩
   go_simp
   with_reducible rfl
  rotate_left
  ·
   simp only [Act.put, List.setIfInBounds_toArray, List.set_cons_zero, List.set_cons_succ, i64_w, i32_w]
   rfl
  refine pure_ (i := 3) (N := some 7) (v := ?_) (a' := ?_) #[true, true, true, true] rfl rfl (any_of HT_.out (by kernel_rfl)) (fun _ _ _ h => h) (Or.inl ⟨by rfl, ?_⟩) ?_ ?_
  rotate_left
  ·
   intro w'
   go_simp
   with_reducible rfl
  rotate_left
  ·
   simp only [Act.put, List.setIfInBounds_toArray, List.set_cons_zero, List.set_cons_succ, i64_w, i32_w]
   rfl
  refine done_ (done_of HT_.out (by kernel_rfl)) ?_
  go_wp2
  go_ret2
  exact ⟨_, rfl, Kd.R_mono (Kd.R_lower HR.out HBW.out.size) (fun _ _ => trivial), HB.out⟩
 ·
  cases H

end Go.Proofs.Ytcfjglbnhbgbdaa.Q
namespace Go.Proofs.Ytcfjglbnhbgbdaa.Q
open Go.RowKit Go.Proofs.YtcfjglbnhbgbdaaW.PrintWords Go.Proofs.YtcfjglbnhbgbdaaW.PrintLast Go.Proofs.YtcfjglbnhbgbdaaW.PrintMore
attribute [local go_sem] max2_int min2_int max_two min_two max_three min_three max_four min_four   -- for this text's walks alone
set_option linter.unusedVariables false
set_option linter.unusedSimpArgs false

/-! ### impl_BestTracking: function 8 -/
def impl_BestTracking.f (k : Nat) (l0 : List (S54)) (l1 : List (S54)) (a2 : Int) : Option (List Int × Int × Bool) := (impl_areStorms.f l0).bind fun t254 => (if t254 = true then ((impl_areStorms.f l1).bind fun t255 => (if t255 = true then ((impl_isPenalty.f a2).bind fun t256 => (if t256 = true then ((impl_bestTracking.f k l0 l1 a2).bind fun bt257 => (some (bt257.1, bt257.2, true))) else (some (([] : List Int), 0, false)))) else (some (([] : List Int), 0, false)))) else (some (([] : List Int), 0, false)))
theorem impl_BestTracking.mono : ∀ a0 a1 a2 k, LeO (impl_BestTracking.f k a0 a1 a2) (impl_BestTracking.f (k + 1) a0 a1 a2) := by
 intro a0 a1 a2 k
 unfold impl_BestTracking.f
 repeat' first
   | (with_reducible exact impl_bestTracking.mono _ _ _ _)
   | (with_reducible exact LeO.refl _)
   | (with_reducible exact LeO.none _)
   | (with_reducible refine LeO.ite ?_ ?_)
   | (with_reducible refine LeO.bind ?_ (fun _ => ?_))
   | exact impl_bestTracking.mono _ _ _ _
   | exact LeO.none _
   | refine LeO.ite ?_ ?_
   | refine LeO.bind ?_ (fun _ => ?_)
set_option maxHeartbeats 8000000 in
set_option maxRecDepth 100000 in
theorem impl_BestTracking.calls (k : Nat) (A0 : Option Addr) (c0 : Nat) (l0 : List (S54)) (A1 : Option Addr) (c1 : Nat) (l1 : List (S54)) (a2 : Int) (r1 : List Int) (r2 : Int) (r3 : Bool) (w : World) (hr0 : Kd.C k54 w A0 l0.length l0) (hc0 : l0.length ≤ c0) (hr1 : Kd.C k54 w A1 l1.length l1) (hc1 : l1.length ≤ c1) (h : impl_BestTracking.f k l0 l1 a2 = some (r1, r2, r3)) :
  Calls Try.prog 8 #[.slice A0 l0.length c0, .slice A1 l1.length c1, .int .i64 a2] w fun e w' => ∃ v0_ : Value, e = .returned (.tuple #[v0_, .int .i64 r2, .bool r3]) ∧ Kd.R (Kd.int .i64) 3 w' w.heap.size (fun _ => True) v0_ r1 ∧ Below w.heap.size w w' := by
 have HR0 := Aside0.mk hr0
 have HC0 := Aside0.mk hc0
 clear hr0 hc0
 have HR1 := Aside0.mk hr1
 have HC1 := Aside0.mk hc1
 clear hr1 hc1
 have HB := Aside0.mk (Below.refl w.heap.size w)
 have H : ((impl_areStorms.f l0).bind fun t254 => (if t254 = true then ((impl_areStorms.f l1).bind fun t255 => (if t255 = true then ((impl_isPenalty.f a2).bind fun t256 => (if t256 = true then ((impl_bestTracking.f k l0 l1 a2).bind fun bt257 => (some (bt257.1, bt257.2, true))) else (some (([] : List Int), 0, false)))) else (some (([] : List Int), 0, false)))) else (some (([] : List Int), 0, false)))) = some (r1, r2, r3) := h
 clear h
 replace H := Option.bind_eq_some_iff.mp H
 obtain ⟨t254, A40, H⟩ := H
 replace H : (if t254 = true then ((impl_areStorms.f l1).bind fun t255 => (if t255 = true then ((impl_isPenalty.f a2).bind fun t256 => (if t256 = true then ((impl_bestTracking.f k l0 l1 a2).bind fun bt257 => (some (bt257.1, bt257.2, true))) else (some (([] : List Int), 0, false)))) else (some (([] : List Int), 0, false)))) else (some (([] : List Int), 0, false))) = some (r1, r2, r3) := H
 have A4 := Aside0.mk A40
 clear A40
 by_cases c5 : t254 = true
 ·
  subst c5
  have H1 : ((impl_areStorms.f l1).bind fun t255 => (if t255 = true then ((impl_isPenalty.f a2).bind fun t256 => (if t256 = true then ((impl_bestTracking.f k l0 l1 a2).bind fun bt257 => (some (bt257.1, bt257.2, true))) else (some (([] : List Int), 0, false)))) else (some (([] : List Int), 0, false)))) = some (r1, r2, r3) := by rw [if_pos rfl] at H; exact H
  clear H
  have H := H1
  clear H1
  replace H := Option.bind_eq_some_iff.mp H
  obtain ⟨t255, A60, H⟩ := H
  replace H : (if t255 = true then ((impl_isPenalty.f a2).bind fun t256 => (if t256 = true then ((impl_bestTracking.f k l0 l1 a2).bind fun bt257 => (some (bt257.1, bt257.2, true))) else (some (([] : List Int), 0, false)))) else (some (([] : List Int), 0, false))) = some (r1, r2, r3) := H
  have A6 := Aside0.mk A60
  clear A60
  by_cases c7 : t255 = true
  ·
   subst c7
   have H1 : ((impl_isPenalty.f a2).bind fun t256 => (if t256 = true then ((impl_bestTracking.f k l0 l1 a2).bind fun bt257 => (some (bt257.1, bt257.2, true))) else (some (([] : List Int), 0, false)))) = some (r1, r2, r3) := by rw [if_pos rfl] at H; exact H
   clear H
   have H := H1
   clear H1
   replace H := Option.bind_eq_some_iff.mp H
   obtain ⟨t256, A80, H⟩ := H
   replace H : (if t256 = true then ((impl_bestTracking.f k l0 l1 a2).bind fun bt257 => (some (bt257.1, bt257.2, true))) else (some (([] : List Int), 0, false))) = some (r1, r2, r3) := H
   have A8 := Aside0.mk A80
   clear A80
   by_cases c9 : t256 = true
   ·
    subst c9
    have H1 : ((impl_bestTracking.f k l0 l1 a2).bind fun bt257 => (some (bt257.1, bt257.2, true))) = some (r1, r2, r3) := by rw [if_pos rfl] at H; exact H
    clear H
    have H := H1
    clear H1
    replace H := Option.bind_eq_some_iff.mp H
    obtain ⟨⟨t257, t258⟩, A100, H⟩ := H
    replace H : (some (t257, t258, true)) = some (r1, r2, r3) := H
    have A10 := Aside0.mk A100
    clear A100
    simp only [Option.some.injEq, Prod.mk.injEq] at H
    obtain ⟨rfl, rfl, rfl⟩ := H
    go_enter Try.func8, Try.ntmps8
    go_wp2_with (first | ((with_reducible refine gate_callee (f := 23) rfl ?_); refine goesL_ (some 12) rfl rfl Try.func23 (by kernel_rfl) rfl #[.slice A0 l0.length c0] rfl (by (try simp only [List.map_toArray, List.map_cons, List.map_nil]); first | done | rfl | (simp only [List.length_drop, List.length_take]; rfl)) ?_; (with_reducible refine (impl_areStorms.calls _ _ l0 true _ ?side1 ?side2 A4.out).mono ?_); (case side1 => repeat (first | exact HR0.out | (with_reducible refine Kd.C_alloc ?_ _) | (with_reducible refine Kd.C_drewN ?_ _) | (with_reducible refine Kd.C_drew ?_))); (case side2 => exact HC0.out); rintro e w11 ⟨rfl, hb⟩; refine ⟨_, rfl, ?_⟩; have n0_ := Aside0.mk (below_step (by repeat (first | (with_reducible first | exact HB.out | apply below_alloc | apply pw_below_drewN | apply below_drew1) | exact HB.out)) hb); clear HB; have HB := n0_; clear n0_; (try clear hb); (try clear hb2); (try clear hk); (try clear hi)) | (go_at_call 23; (with_reducible refine (impl_areStorms.calls _ _ l1 true _ ?side1 ?side2 A6.out).mono ?_); (case side1 => repeat (first | exact (Kd.C_below HR1.out HB.out) | (with_reducible refine Kd.C_alloc ?_ _) | (with_reducible refine Kd.C_drewN ?_ _) | (with_reducible refine Kd.C_drew ?_))); (case side2 => exact HC1.out); rintro e w12 ⟨rfl, hb⟩; have n0_ := Aside0.mk (below_step (by repeat (first | (with_reducible first | exact HB.out | apply below_alloc | apply pw_below_drewN | apply below_drew1) | exact HB.out)) hb); clear HB; have HB := n0_; clear n0_; (try clear hb); (try clear hb2); (try clear hk); (try clear hi)) | (go_at_call 18; (with_reducible refine (impl_isPenalty.calls a2 true _ A8.out).mono ?_); rintro e w' ⟨rfl, ⟨nd, rfl⟩⟩) | ((with_reducible refine gate_callee (f := 24) rfl ?_); refine goesL_ (some 28) rfl rfl Try.func24 (by kernel_rfl) rfl #[.slice A0 l0.length c0, .slice A1 l1.length c1, .int .i64 a2] rfl (by (try simp only [List.map_toArray, List.map_cons, List.map_nil]); first | done | rfl | (simp only [List.length_drop, List.length_take]; rfl)) ?_; (with_reducible refine (impl_bestTracking.calls k _ _ l0 _ _ l1 a2 t257 t258 _ ?side1 ?side2 ?side3 ?side4 A10.out).mono ?_); (case side1 => repeat (first | exact (Kd.C_below HR0.out (by repeat (first | (with_reducible first | exact HB.out | apply below_alloc | apply pw_below_drewN | apply below_drew1) | exact HB.out))) | (with_reducible refine Kd.C_alloc ?_ _) | (with_reducible refine Kd.C_drewN ?_ _) | (with_reducible refine Kd.C_drew ?_))); (case side2 => exact HC0.out); (case side3 => repeat (first | exact (Kd.C_below HR1.out (by repeat (first | (with_reducible first | exact HB.out | apply below_alloc | apply pw_below_drewN | apply below_drew1) | exact HB.out))) | (with_reducible refine Kd.C_alloc ?_ _) | (with_reducible refine Kd.C_drewN ?_ _) | (with_reducible refine Kd.C_drew ?_))); (case side4 => exact HC1.out); rintro e w13 ⟨v259, rfl, ho0, hb⟩; refine ⟨_, rfl, ?_⟩; have n0_ := Aside0.mk (Kd.R_lower ho0 (below_size (by repeat (first | (with_reducible first | exact HB.out | apply below_alloc | apply pw_below_drewN | apply below_drew1) | exact HB.out)))); have n1_ := Aside0.mk (below_step (by repeat (first | (with_reducible first | exact HB.out | apply below_alloc | apply pw_below_drewN | apply below_drew1) | exact HB.out)) hb); clear HB; have HO260 := n0_; have HB := n1_; clear n0_ n1_; (try clear hb); (try clear hb2); (try clear hk); (try clear hi); (try clear ho0)))
    go_ret3
    exact ⟨_, by first | rfl | (simp [errW_none, errW_some] <;> rfl) | (simp [*, errW_none, errW_some] <;> rfl), by (with_reducible repeat (first | apply Kd.R_alloc | apply Kd.R_drewN | apply Kd.R_drew)); exact HO260.out, by repeat (first | (with_reducible first | exact HB.out | apply below_alloc | apply pw_below_drewN | apply below_drew1) | exact HB.out)⟩
   ·
    replace c9 := Bool.eq_false_iff.mpr c9
    subst c9
    have H1 : (some (([] : List Int), 0, false)) = some (r1, r2, r3) := by rw [if_neg (show ¬ (false = true) by decide)] at H; exact H
    clear H
    have H := H1
    clear H1
    simp only [Option.some.injEq, Prod.mk.injEq] at H
    obtain ⟨rfl, rfl, rfl⟩ := H
    go_enter Try.func8, Try.ntmps8
    go_wp2_with (first | ((with_reducible refine gate_callee (f := 23) rfl ?_); refine goesL_ (some 12) rfl rfl Try.func23 (by kernel_rfl) rfl #[.slice A0 l0.length c0] rfl (by (try simp only [List.map_toArray, List.map_cons, List.map_nil]); first | done | rfl | (simp only [List.length_drop, List.length_take]; rfl)) ?_; (with_reducible refine (impl_areStorms.calls _ _ l0 true _ ?side1 ?side2 A4.out).mono ?_); (case side1 => repeat (first | exact HR0.out | (with_reducible refine Kd.C_alloc ?_ _) | (with_reducible refine Kd.C_drewN ?_ _) | (with_reducible refine Kd.C_drew ?_))); (case side2 => exact HC0.out); rintro e w14 ⟨rfl, hb⟩; refine ⟨_, rfl, ?_⟩; have n0_ := Aside0.mk (below_step (by repeat (first | (with_reducible first | exact HB.out | apply below_alloc | apply pw_below_drewN | apply below_drew1) | exact HB.out)) hb); clear HB; have HB := n0_; clear n0_; (try clear hb); (try clear hb2); (try clear hk); (try clear hi)) | (go_at_call 23; (with_reducible refine (impl_areStorms.calls _ _ l1 true _ ?side1 ?side2 A6.out).mono ?_); (case side1 => repeat (first | exact (Kd.C_below HR1.out HB.out) | (with_reducible refine Kd.C_alloc ?_ _) | (with_reducible refine Kd.C_drewN ?_ _) | (with_reducible refine Kd.C_drew ?_))); (case side2 => exact HC1.out); rintro e w15 ⟨rfl, hb⟩; have n0_ := Aside0.mk (below_step (by repeat (first | (with_reducible first | exact HB.out | apply below_alloc | apply pw_below_drewN | apply below_drew1) | exact HB.out)) hb); clear HB; have HB := n0_; clear n0_; (try clear hb); (try clear hb2); (try clear hk); (try clear hi)) | (go_at_call 18; (with_reducible refine (impl_isPenalty.calls a2 false _ A8.out).mono ?_); rintro e w' ⟨rfl, ⟨nd, rfl⟩⟩))
    go_ret3
    exact ⟨_, by first | rfl | (simp [errW_none, errW_some] <;> rfl) | (simp [*, errW_none, errW_some] <;> rfl), by first | exact Kd.R_nil _ _ _ _ _ | exact Kd.N_nil _ _ _ _ _ | exact Kd.V_nil _ _ _ _ _ | exact Kd.Q_nil _ _ _ _ _ | exact Kd.S_nil _ _ _ _ _, by repeat (first | (with_reducible first | exact HB.out | apply below_alloc | apply pw_below_drewN | apply below_drew1) | exact HB.out)⟩
  ·
   replace c7 := Bool.eq_false_iff.mpr c7
   subst c7
   have H1 : (some (([] : List Int), 0, false)) = some (r1, r2, r3) := by rw [if_neg (show ¬ (false = true) by decide)] at H; exact H
   clear H
   have H := H1
   clear H1
   simp only [Option.some.injEq, Prod.mk.injEq] at H
   obtain ⟨rfl, rfl, rfl⟩ := H
   go_enter Try.func8, Try.ntmps8
   go_wp2_with (first | ((with_reducible refine gate_callee (f := 23) rfl ?_); refine goesL_ (some 12) rfl rfl Try.func23 (by kernel_rfl) rfl #[.slice A0 l0.length c0] rfl (by (try simp only [List.map_toArray, List.map_cons, List.map_nil]); first | done | rfl | (simp only [List.length_drop, List.length_take]; rfl)) ?_; (with_reducible refine (impl_areStorms.calls _ _ l0 true _ ?side1 ?side2 A4.out).mono ?_); (case side1 => repeat (first | exact HR0.out | (with_reducible refine Kd.C_alloc ?_ _) | (with_reducible refine Kd.C_drewN ?_ _) | (with_reducible refine Kd.C_drew ?_))); (case side2 => exact HC0.out); rintro e w16 ⟨rfl, hb⟩; refine ⟨_, rfl, ?_⟩; have n0_ := Aside0.mk (below_step (by repeat (first | (with_reducible first | exact HB.out | apply below_alloc | apply pw_below_drewN | apply below_drew1) | exact HB.out)) hb); clear HB; have HB := n0_; clear n0_; (try clear hb); (try clear hb2); (try clear hk); (try clear hi)) | (go_at_call 23; (with_reducible refine (impl_areStorms.calls _ _ l1 false _ ?side1 ?side2 A6.out).mono ?_); (case side1 => repeat (first | exact (Kd.C_below HR1.out HB.out) | (with_reducible refine Kd.C_alloc ?_ _) | (with_reducible refine Kd.C_drewN ?_ _) | (with_reducible refine Kd.C_drew ?_))); (case side2 => exact HC1.out); rintro e w17 ⟨rfl, hb⟩; have n0_ := Aside0.mk (below_step (by repeat (first | (with_reducible first | exact HB.out | apply below_alloc | apply pw_below_drewN | apply below_drew1) | exact HB.out)) hb); clear HB; have HB := n0_; clear n0_; (try clear hb); (try clear hb2); (try clear hk); (try clear hi)))
   go_ret3
   exact ⟨_, by first | rfl | (simp [errW_none, errW_some] <;> rfl) | (simp [*, errW_none, errW_some] <;> rfl), by first | exact Kd.R_nil _ _ _ _ _ | exact Kd.N_nil _ _ _ _ _ | exact Kd.V_nil _ _ _ _ _ | exact Kd.Q_nil _ _ _ _ _ | exact Kd.S_nil _ _ _ _ _, by repeat (first | (with_reducible first | exact HB.out | apply below_alloc | apply pw_below_drewN | apply below_drew1) | exact HB.out)⟩
 ·
  replace c5 := Bool.eq_false_iff.mpr c5
  subst c5
  have H1 : (some (([] : List Int), 0, false)) = some (r1, r2, r3) := by rw [if_neg (show ¬ (false = true) by decide)] at H; exact H
  clear H
  have H := H1
  clear H1
  simp only [Option.some.injEq, Prod.mk.injEq] at H
  obtain ⟨rfl, rfl, rfl⟩ := H
  go_enter Try.func8, Try.ntmps8
  go_wp2_with (first | ((with_reducible refine gate_callee (f := 23) rfl ?_); refine goesL_ (some 12) rfl rfl Try.func23 (by kernel_rfl) rfl #[.slice A0 l0.length c0] rfl (by (try simp only [List.map_toArray, List.map_cons, List.map_nil]); first | done | rfl | (simp only [List.length_drop, List.length_take]; rfl)) ?_; (with_reducible refine (impl_areStorms.calls _ _ l0 false _ ?side1 ?side2 A4.out).mono ?_); (case side1 => repeat (first | exact HR0.out | (with_reducible refine Kd.C_alloc ?_ _) | (with_reducible refine Kd.C_drewN ?_ _) | (with_reducible refine Kd.C_drew ?_))); (case side2 => exact HC0.out); rintro e w18 ⟨rfl, hb⟩; refine ⟨_, rfl, ?_⟩; have n0_ := Aside0.mk (below_step (by repeat (first | (with_reducible first | exact HB.out | apply below_alloc | apply pw_below_drewN | apply below_drew1) | exact HB.out)) hb); clear HB; have HB := n0_; clear n0_; (try clear hb); (try clear hb2); (try clear hk); (try clear hi)))
  go_ret3
  exact ⟨_, by first | rfl | (simp [errW_none, errW_some] <;> rfl) | (simp [*, errW_none, errW_some] <;> rfl), by first | exact Kd.R_nil _ _ _ _ _ | exact Kd.N_nil _ _ _ _ _ | exact Kd.V_nil _ _ _ _ _ | exact Kd.Q_nil _ _ _ _ _ | exact Kd.S_nil _ _ _ _ _, by repeat (first | (with_reducible first | exact HB.out | apply below_alloc | apply pw_below_drewN | apply below_drew1) | exact HB.out)⟩

end Go.Proofs.Ytcfjglbnhbgbdaa.Q
namespace Go.Proofs.Ytcfjglbnhbgbdaa.Q
open Go.RowKit Go.Proofs.YtcfjglbnhbgbdaaW.PrintWords Go.Proofs.YtcfjglbnhbgbdaaW.PrintLast Go.Proofs.YtcfjglbnhbgbdaaW.PrintMore
attribute [local go_sem] max2_int min2_int max_two min_two max_three min_three max_four min_four   -- for this text's walks alone
set_option linter.unusedVariables false
set_option linter.unusedSimpArgs false

/-! ### spec_l1Own: function 41 -/
def spec_l1Own.f (l0 : List Int) : Option (List Int) := (some (([] : List Int) : List Int)).bind fun y261 => (if y261.length + l0.length < 17592186044416 then (some (y261 ++ l0)) else (none))
set_option maxHeartbeats 8000000 in
set_option maxRecDepth 100000 in
theorem spec_l1Own.calls (A0 : Option Addr) (c0 : Nat) (l0 : List Int) (r : List Int) (w : World) (hr0 : Kd.C (Kd.int .i64) w A0 l0.length l0) (hc0 : l0.length ≤ c0) (h : spec_l1Own.f l0 = some r) :
  Calls Try.prog 41 #[.slice A0 l0.length c0] w fun e w' => ∃ v0_ : Value, e = .returned (v0_) ∧ Kd.R (Kd.int .i64) 3 w' w.heap.size (fun _ => True) v0_ r ∧ Below w.heap.size w w' := by
 have HR0 := Aside0.mk hr0
 have HC0 := Aside0.mk hc0
 clear hr0 hc0
 have HB := Aside0.mk (Below.refl w.heap.size w)
 have H : ((some (([] : List Int) : List Int)).bind fun y261 => (if y261.length + l0.length < 17592186044416 then (some (y261 ++ l0)) else (none))) = some r := h
 clear h
 obtain ⟨y261, hy261⟩ : ∃ y_ : List Int, y_ = (([] : List Int)) := ⟨_, rfl⟩
 replace H : (if y261.length + l0.length < 17592186044416 then (some (y261 ++ l0)) else (none)) = some r := by first | (rw [hy261]; with_reducible exact H) | (have H2_ := (Option.bind_some _ _).symm.trans H; rw [hy261]; with_reducible exact H2_) | (have H2_ := (Option.bind_some _ _).symm.trans H; with_reducible exact H2_) | with_reducible exact H | (rw [hy261]; exact H) | exact H
 have Ny261 := Aside0.mk hy261
 clear hy261
 by_cases c2 : y261.length + l0.length < 17592186044416
 ·
  rw [if_pos c2] at H
  have LMc2 := Aside0.mk c2
  clear c2
  obtain ⟨y264, hy264⟩ : ∃ y_ : List Int, y_ = (y261 ++ l0) := ⟨_, rfl⟩
  replace H : (some y264) = some r := by first | (rw [hy264]; with_reducible exact H) | (have H2_ := (Option.bind_some _ _).symm.trans H; rw [hy264]; with_reducible exact H2_) | (have H2_ := (Option.bind_some _ _).symm.trans H; with_reducible exact H2_) | with_reducible exact H | (rw [hy264]; exact H) | exact H
  have Ny264 := Aside0.mk hy264
  clear hy264
  obtain rfl := Option.some.inj H
  go_enter Try.func41, Try.ntmps41
  go_wp2_with (first | ((with_reducible refine gate_dst (N := 3) rfl ?_); refine Kd.R_lit (Kd.int .i64) _ 3 ?hg (N := 3) ?hd (xs := ([] : List Int)) (inner := []) (ok := fun _ => True) (okp := fun _ => True) ?hr ?hp (fun _ hk => hk) trivial (Below.refl _ _) (Nat.le_refl _) (by simp) ?_; (case hd => rfl); (case hg => rfl); (case hr => first | (go_simp; done) | (go_simp; rfl)); (case hp => exact (Reps.none _ _)); intro v262 w3 ho4 hb hg_ hnew_; clear hg_ hnew_; (first | rw [← Ny261.out] at ho4 | (simp only [Int.reduceToNat] at ho4; rw [← Ny261.out] at ho4)); have n0_ := Aside0.mk (Kd.R_lower ho4 (below_size (by repeat (first | (with_reducible first | exact HB.out | apply below_alloc | apply pw_below_drewN | apply below_drew1) | exact HB.out)))); have n1_ := Aside0.mk (below_step (by repeat (first | (with_reducible first | exact HB.out | apply below_alloc | apply pw_below_drewN | apply below_drew1) | exact HB.out)) hb); clear HB; have HO263 := n0_; have HB := n1_; clear n0_ n1_; clear hb ho4) | ((with_reducible refine gate_builtin (b := .append) (xs := #[.tmp 3, .tmp 4]) rfl ?_); at_builtin; refine Kd.R_append_rows (Kd.int .i64) (w0 := w) w.heap.size rfl (.tmp 3) (.tmp 4) 25 3 (.int .i64 0) 8 rfl Try.underlying25 info3 rfl (by decide) (by omega) v262 y261 l0 _ _ _ (fun _ => True) (fun _ => False) rfl rfl ?aO ?aR (fun _ _ h => h) (fun _ h => h.elim) ?aF ?aB ?aS ?aL ?_; (case aR => repeat (first | exact (Kd.C_below HR0.out HB.out) | (with_reducible refine Kd.C_alloc ?_ _) | (with_reducible refine Kd.C_drewN ?_ _) | (with_reducible refine Kd.C_drew ?_))); (case aB => exact (by repeat (first | (with_reducible first | exact HB.out | apply below_alloc | apply pw_below_drewN | apply below_drew1) | exact HB.out))); (case aF => exact (fun _ _ => trivial)); (case aO => exact (by (with_reducible repeat (first | apply Kd.R_alloc | apply Kd.R_drewN | apply Kd.R_drew)); exact HO263.out)); (case aS => exact (below_size (by repeat (first | (with_reducible first | exact HB.out | apply below_alloc | apply pw_below_drewN | apply below_drew1) | exact HB.out)))); (case aL => have := LMc2.out; omega); intro v265 w5 ho hb hg hat; rw [← Ny264.out] at ho; have n0_ := Aside0.mk (hb); have n1_ := Aside0.mk (ho); clear HB; clear HO263; have HB := n0_; have HO266 := n1_; clear n0_ n1_; clear ho hb hg hat))
  go_ret
  exact ⟨_, by first | rfl | (simp [errW_none, errW_some] <;> rfl) | (simp [*, errW_none, errW_some] <;> rfl), by (with_reducible repeat (first | apply Kd.R_alloc | apply Kd.R_drewN | apply Kd.R_drew)); exact HO266.out, by repeat (first | (with_reducible first | exact HB.out | apply below_alloc | apply pw_below_drewN | apply below_drew1) | exact HB.out)⟩
 ·
  rw [if_neg c2] at H
  exact absurd H (by simp)

end Go.Proofs.Ytcfjglbnhbgbdaa.Q
namespace Go.Proofs.Ytcfjglbnhbgbdaa.Q
open Go.RowKit Go.Proofs.YtcfjglbnhbgbdaaW.PrintWords Go.Proofs.YtcfjglbnhbgbdaaW.PrintLast Go.Proofs.YtcfjglbnhbgbdaaW.PrintMore
attribute [local go_sem] max2_int min2_int max_two min_two max_three min_three max_four min_four   -- for this text's walks alone
set_option linter.unusedVariables false
set_option linter.unusedSimpArgs false

/-! ### spec_l12Best: function 26 -/
mutual
def spec_l12Best.l0 : Nat → List (S54) → List (S54) → Int → List Int → List Int → Int → Int → Option (List Int × Int)
 | 0, _, _, _, _, _, _, _ => none
 | k + 1, x0, x1, x2, x3, x10, x11, x12 => if x12 < (x1.length : Int) then ((spec_l1Has.f k x3 x12).bind fun t278 => (if t278 = true then (spec_l12Best.l0 k x0 x1 x2 x3 x10 x11 (wrap64 (x12 + 1))) else ((spec_l1Own.f x3).bind fun t279 => (if t279.length < 17592186044416 then ((spec_l12Best.f k x0 x1 x2 (t279 ++ [x12])).bind fun bt285 => (if bt285.2 < x11 then (spec_l12Best.l0 k x0 x1 x2 x3 bt285.1 bt285.2 (wrap64 (x12 + 1))) else (spec_l12Best.l0 k x0 x1 x2 x3 x10 x11 (wrap64 (x12 + 1))))) else (none))))) else (some (x10, x11))
def spec_l12Best.f : Nat → List (S54) → List (S54) → Int → List Int → Option (List Int × Int)
 | 0, _, _, _, _ => none
 | k + 1, l0, l1, a2, l3 => if (l3.length : Int) = (l0.length : Int) then ((spec_l12Cost.f k l0 l1 l3 a2).bind fun t267 => (some (l3, t267))) else ((spec_l1Own.f l3).bind fun t268 => (if t268.length < 17592186044416 then ((spec_l12Best.f k l0 l1 a2 (t268 ++ [(-1)])).bind fun bt274 => (spec_l12Best.l0 k l0 l1 a2 l3 bt274.1 bt274.2 0)) else (none)))
end
theorem spec_l12Best.mono_l : ∀ k, (∀ y0 y1 y2 y3, LeO (spec_l12Best.f k y0 y1 y2 y3) (spec_l12Best.f (k + 1) y0 y1 y2 y3)) ∧ (∀ y0 y1 y2 y3 y4 y5 y6, LeO (spec_l12Best.l0 k y0 y1 y2 y3 y4 y5 y6) (spec_l12Best.l0 (k + 1) y0 y1 y2 y3 y4 y5 y6))
 | 0 => ⟨fun _ _ _ _ r h => by simp [spec_l12Best.f] at h, fun _ _ _ _ _ _ _ r h => by simp [spec_l12Best.l0] at h⟩
 | k + 1 => by
  obtain ⟨ih0, ih1⟩ := spec_l12Best.mono_l k
  refine ⟨?_, ?_⟩
  ·
   intro y0 y1 y2 y3
   unfold spec_l12Best.f
   repeat' first
   | (with_reducible exact ih0 _ _ _ _)
   | (with_reducible exact ih1 _ _ _ _ _ _ _)
   | (with_reducible exact spec_l12Cost.mono _ _ _ _ _)
   | (with_reducible exact spec_l1Has.mono _ _ _)
   | (with_reducible exact LeO.refl _)
   | (with_reducible exact LeO.none _)
   | (with_reducible refine LeO.ite ?_ ?_)
   | (with_reducible refine LeO.bind ?_ (fun _ => ?_))
   | exact ih0 _ _ _ _
   | exact ih1 _ _ _ _ _ _ _
   | exact spec_l12Cost.mono _ _ _ _ _
   | exact spec_l1Has.mono _ _ _
   | exact LeO.none _
   | refine LeO.ite ?_ ?_
   | refine LeO.bind ?_ (fun _ => ?_)
  ·
   intro y0 y1 y2 y3 y4 y5 y6
   unfold spec_l12Best.l0
   repeat' first
   | (with_reducible exact ih0 _ _ _ _)
   | (with_reducible exact ih1 _ _ _ _ _ _ _)
   | (with_reducible exact spec_l12Cost.mono _ _ _ _ _)
   | (with_reducible exact spec_l1Has.mono _ _ _)
   | (with_reducible exact LeO.refl _)
   | (with_reducible exact LeO.none _)
   | (with_reducible refine LeO.ite ?_ ?_)
   | (with_reducible refine LeO.bind ?_ (fun _ => ?_))
   | exact ih0 _ _ _ _
   | exact ih1 _ _ _ _ _ _ _
   | exact spec_l12Cost.mono _ _ _ _ _
   | exact spec_l1Has.mono _ _ _
   | exact LeO.none _
   | refine LeO.ite ?_ ?_
   | refine LeO.bind ?_ (fun _ => ?_)
theorem spec_l12Best.mono : ∀ a0 a1 a2 a3 k, LeO (spec_l12Best.f k a0 a1 a2 a3) (spec_l12Best.f (k + 1) a0 a1 a2 a3) := by
 intro a0 a1 a2 a3 k
 obtain ⟨ih0, ih1⟩ := spec_l12Best.mono_l k
 exact ih0 a0 a1 a2 a3
set_option maxHeartbeats 8000000 in
set_option maxRecDepth 100000 in
theorem spec_l12Best.calls (k : Nat) : ∀ (A0 : Option Addr) (c0 : Nat) (l0 : List (S54)) (A1 : Option Addr) (c1 : Nat) (l1 : List (S54)) (a2 : Int) (P3_ : Nat → Prop) (u9000_ : Value) (l3 : List Int) (r1 : List Int) (r2 : Int) (w0 w : World) (hB : Below w0.heap.size w0 w) (hr0 : ∀ W_, Kept w W_ (fun k_ => P3_ k_) → Kd.C k54 W_ A0 l0.length l0) (hc0 : l0.length ≤ c0) (hr1 : ∀ W_, Kept w W_ (fun k_ => P3_ k_) → Kd.C k54 W_ A1 l1.length l1) (hc1 : l1.length ≤ c1) (ho3 : Kd.R (Kd.int .i64) 3 w w0.heap.size P3_ u9000_ l3) (h : spec_l12Best.f k l0 l1 a2 l3 = some (r1, r2)),
  Calls Try.prog 26 #[.slice A0 l0.length c0, .slice A1 l1.length c1, .int .i64 a2, u9000_] w fun e w' => ∃ v0_ : Value, e = .returned (.tuple #[v0_, .int .i64 r2]) ∧ Kd.R (Kd.int .i64) 3 w' w0.heap.size (fun k_ => (P3_ k_ ∨ w.heap.size ≤ k_)) v0_ r1 ∧ Below w0.heap.size w0 w' ∧ Kept w w' (fun k_ => P3_ k_) := by
 induction k using Nat.strongRecOn with
 | _ k ih =>
 intro A0 c0 l0 A1 c1 l1 a2 P3_ u9000_ l3 r1 r2 w0 w hB hr0 hc0 hr1 hc1 ho3 h
 cases k with
 | zero => exact absurd h (by simp [spec_l12Best.f])
 | succ k =>
 simp only [spec_l12Best.f] at h
 have HR0 := Aside0.mk hr0
 have HC0 := Aside0.mk hc0
 clear hr0 hc0
 have HR1 := Aside0.mk hr1
 have HC1 := Aside0.mk hc1
 clear hr1 hc1
 have HO3 := Aside0.mk (show Kd.R (Kd.int .i64) 3 w w0.heap.size (fun k_ => (P3_ k_ ∨ w.heap.size ≤ k_)) u9000_ l3 from Kd.R_mono ho3 (fun k_ hk => (.inl hk)))
 have HK := Aside0.mk (Kept.refl w (fun k_ => P3_ k_))
 have HW0 := Aside0.mk hB.size
 have HB := Aside0.mk hB
 clear hB
 have H : (if (l3.length : Int) = (l0.length : Int) then ((spec_l12Cost.f k l0 l1 l3 a2).bind fun t267 => (some (l3, t267))) else ((spec_l1Own.f l3).bind fun t268 => (if t268.length < 17592186044416 then ((spec_l12Best.f k l0 l1 a2 (t268 ++ [(-1)])).bind fun bt274 => (spec_l12Best.l0 k l0 l1 a2 l3 bt274.1 bt274.2 0)) else (none)))) = some (r1, r2) := h
 clear h
 by_cases c5 : (l3.length : Int) = (l0.length : Int)
 ·
  rw [if_pos c5] at H
  have c5b0 : ((l3.length : Int) == (l0.length : Int)) = true := beq_iff_eq.mpr c5
  have c5b1 : ((l3.length : Int) != (l0.length : Int)) = false := bne_eq_false_iff_eq.mpr c5
  have c5b2 : (l3.length == l0.length) = true := by first | simpa using c5 | (simp at c5 ⊢; omega)
  clear c5
  replace H := Option.bind_eq_some_iff.mp H
  obtain ⟨t267, A60, H⟩ := H
  replace H : (some (l3, t267)) = some (r1, r2) := H
  have A6 := Aside0.mk A60
  clear A60
  simp only [Option.some.injEq, Prod.mk.injEq] at H
  obtain ⟨rfl, rfl⟩ := H
  obtain ⟨Ao7, co7, eo7⟩ := Kd.R_slice HO3.out
  subst eo7
  go_enter Try.func26, Try.ntmps26
  go_wp2_with (first | ((with_reducible refine gate_callee (f := 22) rfl ?_); refine goesL_ (some 25) rfl rfl Try.func22 (by kernel_rfl) rfl #[.slice A0 l0.length c0, .slice A1 l1.length c1, .slice Ao7 l3.length co7, .int .i64 a2] rfl (by (try simp only [List.map_toArray, List.map_cons, List.map_nil]); first | done | rfl | (simp only [List.length_drop, List.length_take]; rfl)) ?_; (with_reducible refine (spec_l12Cost.calls k _ _ l0 _ _ l1 _ _ l3 a2 t267 _ ?side1 ?side2 ?side3 ?side4 ?side5 ?side6 A6.out).mono ?_); (case side1 => exact Kd.C_kept_now HR0.out (by repeat (first | (with_reducible first | exact HK.out | apply Kept.alloc | apply Kept.drewN | apply Kept.drew) | exact HK.out))); (case side2 => exact HC0.out); (case side3 => exact Kd.C_kept_now HR1.out (by repeat (first | (with_reducible first | exact HK.out | apply Kept.alloc | apply Kept.drewN | apply Kept.drew) | exact HK.out))); (case side4 => exact HC1.out); (case side5 => repeat (first | exact (Kd.R_reads' HO3.out).2.2 | (with_reducible refine Kd.C_alloc ?_ _) | (with_reducible refine Kd.C_drewN ?_ _) | (with_reducible refine Kd.C_drew ?_))); (case side6 => exact (Kd.R_reads' HO3.out).2.1); rintro e w8 ⟨rfl, hb⟩; refine ⟨_, rfl, ?_⟩; have n0_ := Aside0.mk (Kd.R_below (by (with_reducible repeat (first | apply Kd.R_alloc | apply Kd.R_drewN | apply Kd.R_drew)); exact HO3.out) hb); have n1_ := Aside0.mk (Kept.below (S := (fun k_ => P3_ k_)) (by repeat (first | (with_reducible first | exact HK.out | apply Kept.alloc | apply Kept.drewN | apply Kept.drew) | exact HK.out)) hb); have n2_ := Aside0.mk (below_step (by repeat (first | (with_reducible first | exact HB.out | apply below_alloc | apply pw_below_drewN | apply below_drew1) | exact HB.out)) hb); clear HO3; clear HK; clear HB; have HO3 := n0_; have HK := n1_; have HB := n2_; clear n0_ n1_ n2_; (try clear hb); (try clear hb2); (try clear hk); (try clear hi)))
  go_ret2
  exact ⟨_, by first | rfl | (simp [errW_none, errW_some] <;> rfl) | (simp [*, errW_none, errW_some] <;> rfl), by (with_reducible repeat (first | apply Kd.R_alloc | apply Kd.R_drewN | apply Kd.R_drew)); exact HO3.out, by repeat (first | (with_reducible first | exact HB.out | apply below_alloc | apply pw_below_drewN | apply below_drew1) | exact HB.out), by repeat (first | (with_reducible first | exact HK.out | apply Kept.alloc | apply Kept.drewN | apply Kept.drew) | exact HK.out)⟩
 ·
  rw [if_neg c5] at H
  have c5b0 : ((l3.length : Int) == (l0.length : Int)) = false := beq_eq_false_iff_ne.mpr c5
  have c5b1 : ((l3.length : Int) != (l0.length : Int)) = true := bne_iff_ne.mpr c5
  have c5b2 : (l3.length == l0.length) = false := by first | simpa using c5 | (simp at c5 ⊢; omega)
  replace H := Option.bind_eq_some_iff.mp H
  obtain ⟨t268, A90, H⟩ := H
  replace H : (if t268.length < 17592186044416 then ((spec_l12Best.f k l0 l1 a2 (t268 ++ [(-1)])).bind fun bt274 => (spec_l12Best.l0 k l0 l1 a2 l3 bt274.1 bt274.2 0)) else (none)) = some (r1, r2) := H
  have A9 := Aside0.mk A90
  clear A90
  by_cases c10 : t268.length < 17592186044416
  ·
   rw [if_pos c10] at H
   have LMc10 := Aside0.mk c10
   clear c10
   obtain ⟨y271, hy271⟩ : ∃ y_ : List Int, y_ = (t268 ++ [(-1)]) := ⟨_, rfl⟩
   replace H : ((spec_l12Best.f k l0 l1 a2 y271).bind fun bt274 => (spec_l12Best.l0 k l0 l1 a2 l3 bt274.1 bt274.2 0)) = some (r1, r2) := by first | (rw [hy271]; with_reducible exact H) | (have H2_ := (Option.bind_some _ _).symm.trans H; rw [hy271]; with_reducible exact H2_) | (have H2_ := (Option.bind_some _ _).symm.trans H; with_reducible exact H2_) | with_reducible exact H | (rw [hy271]; exact H) | exact H
   have Ny271 := Aside0.mk hy271
   clear hy271
   replace H := Option.bind_eq_some_iff.mp H
   obtain ⟨⟨t274, t277⟩, A110, H⟩ := H
   replace H : (spec_l12Best.l0 k l0 l1 a2 l3 t274 t277 0) = some (r1, r2) := H
   have A11 := Aside0.mk A110
   clear A110
   have H' := Aside0.mk H
   clear H
   obtain ⟨Ao12, co12, eo12⟩ := Kd.R_slice HO3.out
   subst eo12
   go_enter Try.func26, Try.ntmps26
   go_wp2_with (first | ((with_reducible refine gate_callee (f := 41) rfl ?_); refine goesL_ (some 31) rfl rfl Try.func41 (by kernel_rfl) rfl #[.slice Ao12 l3.length co12] rfl (by (try simp only [List.map_toArray, List.map_cons, List.map_nil]); first | done | rfl | (simp only [List.length_drop, List.length_take]; rfl)) ?_; (with_reducible refine (spec_l1Own.calls _ _ l3 t268 _ ?side1 ?side2 A9.out).mono ?_); (case side1 => repeat (first | exact (Kd.R_reads' HO3.out).2.2 | (with_reducible refine Kd.C_alloc ?_ _) | (with_reducible refine Kd.C_drewN ?_ _) | (with_reducible refine Kd.C_drew ?_))); (case side2 => exact (Kd.R_reads' HO3.out).2.1); rintro e w13 ⟨v269, rfl, ho0, hb⟩; refine ⟨_, rfl, ?_⟩; have n0_ := Aside0.mk (Kd.R_elder' (by (with_reducible repeat (first | apply Kd.R_alloc | apply Kd.R_drewN | apply Kd.R_drew)); exact HO3.out) (Kd.R_base ho0) hb); have n1_ := Aside0.mk (Kd.R_lower (Kd.R_new' (Kd.R_newM (M := fun k_ => (P3_ k_ ∨ w.heap.size ≤ k_)) ho0 (by first | exact HK.out.1 | exact (show Kept w _ (fun k_ => P3_ k_) from by repeat (first | (with_reducible first | exact HK.out | apply Kept.alloc | apply Kept.drewN | apply Kept.drew) | exact HK.out)).1) (fun k_ h_ => .inr h_)) (Kd.R_lt (by (with_reducible repeat (first | apply Kd.R_alloc | apply Kd.R_drewN | apply Kd.R_drew)); exact HO3.out))) (below_size (by repeat (first | (with_reducible first | exact HB.out | apply below_alloc | apply pw_below_drewN | apply below_drew1) | exact HB.out)))); have n2_ := Aside0.mk (Kept.below (S := (fun k_ => P3_ k_)) (by repeat (first | (with_reducible first | exact HK.out | apply Kept.alloc | apply Kept.drewN | apply Kept.drew) | exact HK.out)) hb); have n3_ := Aside0.mk (below_step (by repeat (first | (with_reducible first | exact HB.out | apply below_alloc | apply pw_below_drewN | apply below_drew1) | exact HB.out)) hb); clear HO3; clear HK; clear HB; have HO3 := n0_; have HO270 := n1_; have HK := n2_; have HB := n3_; clear n0_ n1_ n2_ n3_; (try clear hb); (try clear hb2); (try clear hk); (try clear hi); (try clear ho0)) | ((with_reducible refine gate_builtin (b := .append) (xs := #[.tmp 31, .tmp 32]) rfl ?_); at_builtin; refine Kd.R_append (Kd.int .i64) (w0 := w0) w0.heap.size rfl (.tmp 31) (.tmp 32) 25 3 (.int .i64 0) 8 rfl Try.underlying25 info3 rfl (by decide) (by omega) v269 t268 (-1) [.int .i64 (-1)] (fun k_ => (P3_ k_ ∨ w.heap.size ≤ k_) ∧ some k_ ≠ (.slice Ao12 l3.length co12 : Value).ownBlock) (fun _ => False) rfl rfl ?aP (fun _ hk => hk.elim) ?aF ?aO ?aB ?aS ?aL ?_; (case aP => exact rfl); (case aB => exact (by repeat (first | (with_reducible first | exact HB.out | apply below_alloc | apply pw_below_drewN | apply below_drew1) | exact HB.out))); (case aF => exact (fun k_ hk => ⟨(.inr (Nat.le_trans (by first | exact HK.out.1 | exact (show Kept w _ (fun k_ => P3_ k_) from by repeat (first | (with_reducible first | exact HK.out | apply Kept.alloc | apply Kept.drewN | apply Kept.drew) | exact HK.out)).1) hk)), Kd.fresh' (Kd.R_lt (by (with_reducible repeat (first | apply Kd.R_alloc | apply Kd.R_drewN | apply Kd.R_drew)); exact HO3.out)) k_ hk⟩)); (case aO => exact (by (with_reducible repeat (first | apply Kd.R_alloc | apply Kd.R_drewN | apply Kd.R_drew)); exact Kd.R_mono HO270.out (fun _ hk => ⟨hk.1.1, hk.2⟩))); (case aS => exact (below_size (by repeat (first | (with_reducible first | exact HB.out | apply below_alloc | apply pw_below_drewN | apply below_drew1) | exact HB.out)))); (case aL => have := LMc10.out; omega); intro v272 w14 ho hb hg hat; rw [← Ny271.out] at ho; have n0_ := Aside0.mk (Kd.R_after (ok := (fun k_ => (P3_ k_ ∨ w.heap.size ≤ k_))) (by (with_reducible repeat (first | apply Kd.R_alloc | apply Kd.R_drewN | apply Kd.R_drew)); exact HO3.out) hg hat); have n1_ := Aside0.mk (hb); have n2_ := Aside0.mk (Kept.of_grown (S := (fun k_ => P3_ k_)) hg (by repeat (first | (with_reducible first | exact HK.out | apply Kept.alloc | apply Kept.drewN | apply Kept.drew) | exact HK.out)) (fun k_ e_ => (HO270.out.1 k_ e_).1.1)); have n3_ := Aside0.mk (ho); clear HO3; clear HB; clear HK; clear HO270; have HO3 := n0_; have HB := n1_; have HK := n2_; have HO273 := n3_; clear n0_ n1_ n2_ n3_; clear ho hb hg hat; obtain ⟨Ao15, co15, eo15⟩ := Kd.R_slice HO273.out; subst eo15) | ((with_reducible refine gate_callee (f := 26) rfl ?_); refine goesL_ (some 34) rfl rfl Try.func26 (by kernel_rfl) rfl #[.slice A0 l0.length c0, .slice A1 l1.length c1, .int .i64 a2, .slice Ao15 y271.length co15] rfl (by (try simp only [List.map_toArray, List.map_cons, List.map_nil]); first | done | rfl | (simp only [List.length_drop, List.length_take]; rfl)) ?_; (with_reducible refine (ih k (by omega) _ _ l0 _ _ l1 a2 (fun k_ => some k_ = (.slice Ao15 y271.length co15 : Value).ownBlock) (.slice Ao15 y271.length co15) y271 t274 t277 w0 _ ?side1 ?side2 ?side3 ?side4 ?side5 ?side6 A11.out).mono ?_); (case side1 => repeat (first | (with_reducible first | exact HB.out | apply below_alloc | apply pw_below_drewN | apply below_drew1) | exact HB.out)); (case side2 => exact Kd.C_kept_call HR0.out (by repeat (first | (with_reducible first | exact HK.out | apply Kept.alloc | apply Kept.drewN | apply Kept.drew) | exact HK.out)) (fun k_ hs_ => (fun e_ => (HO273.out.1 k_ e_.symm).1) hs_)); (case side3 => exact HC0.out); (case side4 => exact Kd.C_kept_call HR1.out (by repeat (first | (with_reducible first | exact HK.out | apply Kept.alloc | apply Kept.drewN | apply Kept.drew) | exact HK.out)) (fun k_ hs_ => (fun e_ => (HO273.out.1 k_ e_.symm).1) hs_)); (case side5 => exact HC1.out); (case side6 => exact Kd.R_tight rfl HO273.out); rintro e w16 ⟨v275, rfl, ho0, hb, hkp⟩; refine ⟨_, rfl, ?_⟩; have n0_ := Aside0.mk (Kd.R_mono (ok' := fun k_ => (P3_ k_ ∨ w.heap.size ≤ k_) ∧ some k_ ≠ (v275 : Value).ownBlock) (Kd.R_keptB (HO3.out) hkp (fun k_ hk_ hs_ => (hk_.2) hs_)) (fun k_ hk_ => ⟨hk_.1.1, fun e_ => Or.elim (ho0.1 k_ e_.symm) (fun hs_ => hk_.2.1 hs_) (fun hn_ => Nat.not_le.2 hk_.2.2 hn_)⟩)); have n1_ := Aside0.mk (Kd.R_mono (ok' := fun k_ => (P3_ k_ ∨ w.heap.size ≤ k_) ∧ some k_ ≠ (.slice Ao12 l3.length co12 : Value).ownBlock) ho0 (fun k_ hk_ => ⟨Or.elim hk_ (fun hs_ => (HO273.out.1 k_ (hs_).symm).1) (fun hn_ => (.inr (Nat.le_trans (by first | exact HK.out.1 | exact (show Kept w _ (fun k_ => P3_ k_) from by repeat (first | (with_reducible first | exact HK.out | apply Kept.alloc | apply Kept.drewN | apply Kept.drew) | exact HK.out)).1) hn_))), Or.elim hk_ (fun hs_ => fun e_ => (((HO3.out).1 k_ e_.symm).2) hs_) (fun hn_ => (Kd.fresh' (Kd.R_lt (by (with_reducible repeat (first | apply Kd.R_alloc | apply Kd.R_drewN | apply Kd.R_drew)); exact HO3.out)) k_ hn_))⟩)); have n2_ := Aside0.mk (Kept.then_ (S := (fun k_ => P3_ k_)) (by repeat (first | (with_reducible first | exact HK.out | apply Kept.alloc | apply Kept.drewN | apply Kept.drew) | exact HK.out)) hkp (fun k_ hs_ => (fun e_ => (HO273.out.1 k_ e_.symm).1) hs_)); have n3_ := Aside0.mk (hb); clear HO3; clear HK; clear HB; clear HO273; have HO3 := n0_; have HO276 := n1_; have HK := n2_; have HB := n3_; clear n0_ n1_ n2_ n3_; (try clear hb); (try clear hkp); (try clear ho0)))
   go_loopg [10, 11, 12] k (fun kq v10 v11 v12 w' => ∃ (x10_1 : List Int) (x11_1 : Int) (x12_1 : Int), v11 = .int .i64 x11_1 ∧ v12 = .int .i64 x12_1 ∧ Aside0 (spec_l12Best.l0 kq l0 l1 a2 l3 x10_1 x11_1 x12_1 = some (r1, r2)) ∧ Aside0 (kq ≤ k) ∧ Aside0 (Kd.R (Kd.int .i64) 3 w' w0.heap.size (fun k_ => (P3_ k_ ∨ w.heap.size ≤ k_) ∧ some k_ ≠ (v10 : Value).ownBlock) (.slice Ao12 l3.length co12) l3) ∧ Aside0 (Kd.R (Kd.int .i64) 3 w' w0.heap.size (fun k_ => (P3_ k_ ∨ w.heap.size ≤ k_) ∧ some k_ ≠ ((.slice Ao12 l3.length co12) : Value).ownBlock) v10 x10_1) ∧ Aside0 (Kept w w' (fun k_ => P3_ k_)) ∧ Aside0 (Below w0.heap.size w0 w'))
   case atStart => exact ⟨(t274), (t277), (0), (by first | rfl | (simp; done) | (simp [*]; done)), (by first | rfl | (simp; done) | (simp [*]; done)), H', ⟨Nat.le_refl _⟩, ⟨by (with_reducible repeat (first | apply Kd.R_alloc | apply Kd.R_drewN | apply Kd.R_drew)); exact HO3.out⟩, ⟨by (with_reducible repeat (first | apply Kd.R_alloc | apply Kd.R_drewN | apply Kd.R_drew)); exact HO276.out⟩, ⟨by repeat (first | (with_reducible first | exact HK.out | apply Kept.alloc | apply Kept.drewN | apply Kept.drew) | exact HK.out)⟩, ⟨by repeat (first | (with_reducible first | exact HB.out | apply below_alloc | apply pw_below_drewN | apply below_drew1) | exact HB.out)⟩⟩
   case round =>
    clear H'
    try clear c1
    try clear c2
    try clear p2
    try clear c4
    try clear c5
    try clear c5b0
    try clear c5b1
    try clear c5b2
    try clear c10
    obtain ⟨x10_1, x11_1, x12_1, rfl, rfl, HA, HK1, HO_3, HO_10, HK, HB⟩ := hrel
    cases gk with
    | zero => exact absurd HA.out (by simp [spec_l12Best.l0])
    | succ k1 =>
     have H := HA.out
     clear HA
     simp only [spec_l12Best.l0] at H
     by_cases c17 : x12_1 < (l1.length : Int)
     ·
      rw [if_pos c17] at H
      have c17b0 : decide (x12_1 < (l1.length : Int)) = true := decide_eq_true c17
      clear c17
      replace H := Option.bind_eq_some_iff.mp H
      obtain ⟨t278, A180, H⟩ := H
      replace H : (if t278 = true then (spec_l12Best.l0 k1 l0 l1 a2 l3 x10_1 x11_1 (wrap64 (x12_1 + 1))) else ((spec_l1Own.f l3).bind fun t279 => (if t279.length < 17592186044416 then ((spec_l12Best.f k1 l0 l1 a2 (t279 ++ [x12_1])).bind fun bt285 => (if bt285.2 < x11_1 then (spec_l12Best.l0 k1 l0 l1 a2 l3 bt285.1 bt285.2 (wrap64 (x12_1 + 1))) else (spec_l12Best.l0 k1 l0 l1 a2 l3 x10_1 x11_1 (wrap64 (x12_1 + 1))))) else (none)))) = some (r1, r2) := H
      have A18 := Aside0.mk A180
      clear A180
      by_cases c19 : t278 = true
      ·
       subst c19
       have H1 : (spec_l12Best.l0 k1 l0 l1 a2 l3 x10_1 x11_1 (wrap64 (x12_1 + 1))) = some (r1, r2) := by rw [if_pos rfl] at H; exact H
       clear H
       have H := H1
       clear H1
       have H' := Aside0.mk H
       clear H
       go_wp2_with (first | ((with_reducible refine gate_callee (f := 29) rfl ?_); refine goesL_ (some 45) rfl rfl Try.func29 (by kernel_rfl) rfl #[.slice Ao12 l3.length co12, .int .i64 x12_1] rfl (by (try simp only [List.map_toArray, List.map_cons, List.map_nil]); first | done | rfl | (simp only [List.length_drop, List.length_take]; rfl)) ?_; (with_reducible refine (spec_l1Has.calls k1 _ _ l3 x12_1 true _ ?side1 ?side2 A18.out).mono ?_); (case side1 => repeat (first | exact (Kd.R_reads' HO_3.out).2.2 | (with_reducible refine Kd.C_alloc ?_ _) | (with_reducible refine Kd.C_drewN ?_ _) | (with_reducible refine Kd.C_drew ?_))); (case side2 => exact (Kd.R_reads' HO_3.out).2.1); rintro e w' ⟨rfl, ⟨nd, rfl⟩⟩; refine ⟨_, rfl, ?_⟩))
       go_roundg k1
       case measure => have := HK1.out; omega
       case rel => exact ⟨(x10_1), (x11_1), (wrap64 (x12_1 + 1)), (by first | rfl | (simp; done) | (simp [*]; done)), (by first | rfl | (simp; done) | (simp [*]; done)), H', ⟨by have := HK1.out; omega⟩, ⟨by (with_reducible repeat (first | apply Kd.R_alloc | apply Kd.R_drewN | apply Kd.R_drew)); exact HO_3.out⟩, ⟨by (with_reducible repeat (first | apply Kd.R_alloc | apply Kd.R_drewN | apply Kd.R_drew)); exact HO_10.out⟩, ⟨by repeat (first | (with_reducible first | exact HK.out | apply Kept.alloc | apply Kept.drewN | apply Kept.drew) | exact HK.out)⟩, ⟨by repeat (first | (with_reducible first | exact HB.out | apply below_alloc | apply pw_below_drewN | apply below_drew1) | exact HB.out)⟩⟩
      ·
       replace c19 := Bool.eq_false_iff.mpr c19
       subst c19
       have H1 : ((spec_l1Own.f l3).bind fun t279 => (if t279.length < 17592186044416 then ((spec_l12Best.f k1 l0 l1 a2 (t279 ++ [x12_1])).bind fun bt285 => (if bt285.2 < x11_1 then (spec_l12Best.l0 k1 l0 l1 a2 l3 bt285.1 bt285.2 (wrap64 (x12_1 + 1))) else (spec_l12Best.l0 k1 l0 l1 a2 l3 x10_1 x11_1 (wrap64 (x12_1 + 1))))) else (none))) = some (r1, r2) := by rw [if_neg (show ¬ (false = true) by decide)] at H; exact H
       clear H
       have H := H1
       clear H1
       replace H := Option.bind_eq_some_iff.mp H
       obtain ⟨t279, A200, H⟩ := H
       replace H : (if t279.length < 17592186044416 then ((spec_l12Best.f k1 l0 l1 a2 (t279 ++ [x12_1])).bind fun bt285 => (if bt285.2 < x11_1 then (spec_l12Best.l0 k1 l0 l1 a2 l3 bt285.1 bt285.2 (wrap64 (x12_1 + 1))) else (spec_l12Best.l0 k1 l0 l1 a2 l3 x10_1 x11_1 (wrap64 (x12_1 + 1))))) else (none)) = some (r1, r2) := H
       have A20 := Aside0.mk A200
       clear A200
       by_cases c21 : t279.length < 17592186044416
       ·
        rw [if_pos c21] at H
        have LMc21 := Aside0.mk c21
        clear c21
        obtain ⟨y282, hy282⟩ : ∃ y_ : List Int, y_ = (t279 ++ [x12_1]) := ⟨_, rfl⟩
        replace H : ((spec_l12Best.f k1 l0 l1 a2 y282).bind fun bt285 => (if bt285.2 < x11_1 then (spec_l12Best.l0 k1 l0 l1 a2 l3 bt285.1 bt285.2 (wrap64 (x12_1 + 1))) else (spec_l12Best.l0 k1 l0 l1 a2 l3 x10_1 x11_1 (wrap64 (x12_1 + 1))))) = some (r1, r2) := by first | (rw [hy282]; with_reducible exact H) | (have H2_ := (Option.bind_some _ _).symm.trans H; rw [hy282]; with_reducible exact H2_) | (have H2_ := (Option.bind_some _ _).symm.trans H; with_reducible exact H2_) | with_reducible exact H | (rw [hy282]; exact H) | exact H
        have Ny282 := Aside0.mk hy282
        clear hy282
        replace H := Option.bind_eq_some_iff.mp H
        obtain ⟨⟨t285, t288⟩, A220, H⟩ := H
        replace H : (if t288 < x11_1 then (spec_l12Best.l0 k1 l0 l1 a2 l3 t285 t288 (wrap64 (x12_1 + 1))) else (spec_l12Best.l0 k1 l0 l1 a2 l3 x10_1 x11_1 (wrap64 (x12_1 + 1)))) = some (r1, r2) := H
        have A22 := Aside0.mk A220
        clear A220
        by_cases c23 : t288 < x11_1
        ·
         rw [if_pos c23] at H
         have c23b0 : decide (t288 < x11_1) = true := decide_eq_true c23
         clear c23
         have H' := Aside0.mk H
         clear H
         go_wp2_with (first | ((with_reducible refine gate_callee (f := 29) rfl ?_); refine goesL_ (some 45) rfl rfl Try.func29 (by kernel_rfl) rfl #[.slice Ao12 l3.length co12, .int .i64 x12_1] rfl (by (try simp only [List.map_toArray, List.map_cons, List.map_nil]); first | done | rfl | (simp only [List.length_drop, List.length_take]; rfl)) ?_; (with_reducible refine (spec_l1Has.calls k1 _ _ l3 x12_1 false _ ?side1 ?side2 A18.out).mono ?_); (case side1 => repeat (first | exact (Kd.R_reads' HO_3.out).2.2 | (with_reducible refine Kd.C_alloc ?_ _) | (with_reducible refine Kd.C_drewN ?_ _) | (with_reducible refine Kd.C_drew ?_))); (case side2 => exact (Kd.R_reads' HO_3.out).2.1); rintro e w' ⟨rfl, ⟨nd, rfl⟩⟩; refine ⟨_, rfl, ?_⟩) | ((with_reducible refine gate_callee (f := 41) rfl ?_); refine goesL_ (some 51) rfl rfl Try.func41 (by kernel_rfl) rfl #[.slice Ao12 l3.length co12] rfl (by (try simp only [List.map_toArray, List.map_cons, List.map_nil]); first | done | rfl | (simp only [List.length_drop, List.length_take]; rfl)) ?_; (with_reducible refine (spec_l1Own.calls _ _ l3 t279 _ ?side1 ?side2 A20.out).mono ?_); (case side1 => repeat (first | exact (Kd.R_reads' HO_3.out).2.2 | (with_reducible refine Kd.C_alloc ?_ _) | (with_reducible refine Kd.C_drewN ?_ _) | (with_reducible refine Kd.C_drew ?_))); (case side2 => exact (Kd.R_reads' HO_3.out).2.1); rintro e w24 ⟨v280, rfl, ho0, hb⟩; refine ⟨_, rfl, ?_⟩; have n0_ := Aside0.mk (Kd.R_elder' (by (with_reducible repeat (first | apply Kd.R_alloc | apply Kd.R_drewN | apply Kd.R_drew)); exact HO_3.out) (Kd.R_base ho0) hb); have n1_ := Aside0.mk (Kd.R_elder' (by (with_reducible repeat (first | apply Kd.R_alloc | apply Kd.R_drewN | apply Kd.R_drew)); exact HO_10.out) (Kd.R_base ho0) hb); have n2_ := Aside0.mk (Kd.R_lower (Kd.R_new' (Kd.R_new' (Kd.R_newM (M := fun k_ => (P3_ k_ ∨ w.heap.size ≤ k_)) ho0 (by first | exact HK.out.1 | exact (show Kept w _ (fun k_ => P3_ k_) from by repeat (first | (with_reducible first | exact HK.out | apply Kept.alloc | apply Kept.drewN | apply Kept.drew) | exact HK.out)).1) (fun k_ h_ => .inr h_)) (Kd.R_lt (by (with_reducible repeat (first | apply Kd.R_alloc | apply Kd.R_drewN | apply Kd.R_drew)); exact HO_3.out))) (Kd.R_lt (by (with_reducible repeat (first | apply Kd.R_alloc | apply Kd.R_drewN | apply Kd.R_drew)); exact HO_10.out))) (below_size (by repeat (first | (with_reducible first | exact HB.out | apply below_alloc | apply pw_below_drewN | apply below_drew1) | exact HB.out)))); have n3_ := Aside0.mk (Kept.below (S := (fun k_ => P3_ k_)) (by repeat (first | (with_reducible first | exact HK.out | apply Kept.alloc | apply Kept.drewN | apply Kept.drew) | exact HK.out)) hb); have n4_ := Aside0.mk (below_step (by repeat (first | (with_reducible first | exact HB.out | apply below_alloc | apply pw_below_drewN | apply below_drew1) | exact HB.out)) hb); clear HO_3; clear HO_10; clear HK; clear HB; have HO_3 := n0_; have HO_10 := n1_; have HO281 := n2_; have HK := n3_; have HB := n4_; clear n0_ n1_ n2_ n3_ n4_; (try clear hb); (try clear hb2); (try clear hk); (try clear hi); (try clear ho0)) | ((with_reducible refine gate_builtin (b := .append) (xs := #[.tmp 51, .tmp 53]) rfl ?_); at_builtin; refine Kd.R_append (Kd.int .i64) (w0 := w0) w0.heap.size rfl (.tmp 51) (.tmp 53) 25 3 (.int .i64 0) 8 rfl Try.underlying25 info3 rfl (by decide) (by omega) v280 t279 x12_1 [.int .i64 x12_1] (fun k_ => (P3_ k_ ∨ w.heap.size ≤ k_) ∧ some k_ ≠ (.slice Ao12 l3.length co12 : Value).ownBlock ∧ some k_ ≠ (u10 : Value).ownBlock) (fun _ => False) rfl rfl ?aP (fun _ hk => hk.elim) ?aF ?aO ?aB ?aS ?aL ?_; (case aP => exact rfl); (case aB => exact (by repeat (first | (with_reducible first | exact HB.out | apply below_alloc | apply pw_below_drewN | apply below_drew1) | exact HB.out))); (case aF => exact (fun k_ hk => ⟨(.inr (Nat.le_trans (by first | exact HK.out.1 | exact (show Kept w _ (fun k_ => P3_ k_) from by repeat (first | (with_reducible first | exact HK.out | apply Kept.alloc | apply Kept.drewN | apply Kept.drew) | exact HK.out)).1) hk)), Kd.fresh' (Kd.R_lt (by (with_reducible repeat (first | apply Kd.R_alloc | apply Kd.R_drewN | apply Kd.R_drew)); exact HO_3.out)) k_ hk, Kd.fresh' (Kd.R_lt (by (with_reducible repeat (first | apply Kd.R_alloc | apply Kd.R_drewN | apply Kd.R_drew)); exact HO_10.out)) k_ hk⟩)); (case aO => exact (by (with_reducible repeat (first | apply Kd.R_alloc | apply Kd.R_drewN | apply Kd.R_drew)); exact Kd.R_mono HO281.out (fun _ hk => ⟨hk.1.1.1, ⟨hk.1.2, hk.2⟩⟩))); (case aS => exact (below_size (by repeat (first | (with_reducible first | exact HB.out | apply below_alloc | apply pw_below_drewN | apply below_drew1) | exact HB.out)))); (case aL => have := LMc21.out; omega); intro v283 w25 ho hb hg hat; rw [← Ny282.out] at ho; have n0_ := Aside0.mk (Kd.R_after (ok := (fun k_ => (P3_ k_ ∨ w.heap.size ≤ k_) ∧ some k_ ≠ (u10 : Value).ownBlock)) (by (with_reducible repeat (first | apply Kd.R_alloc | apply Kd.R_drewN | apply Kd.R_drew)); exact HO_3.out) hg hat); have n1_ := Aside0.mk (Kd.R_after (ok := (fun k_ => (P3_ k_ ∨ w.heap.size ≤ k_) ∧ some k_ ≠ (.slice Ao12 l3.length co12 : Value).ownBlock)) (by (with_reducible repeat (first | apply Kd.R_alloc | apply Kd.R_drewN | apply Kd.R_drew)); exact HO_10.out) hg hat); have n2_ := Aside0.mk (hb); have n3_ := Aside0.mk (Kept.of_grown (S := (fun k_ => P3_ k_)) hg (by repeat (first | (with_reducible first | exact HK.out | apply Kept.alloc | apply Kept.drewN | apply Kept.drew) | exact HK.out)) (fun k_ e_ => (HO281.out.1 k_ e_).1.1.1)); have n4_ := Aside0.mk (ho); clear HO_3; clear HO_10; clear HB; clear HK; clear HO281; have HO_3 := n0_; have HO_10 := n1_; have HB := n2_; have HK := n3_; have HO284 := n4_; clear n0_ n1_ n2_ n3_ n4_; clear ho hb hg hat; obtain ⟨Ao26, co26, eo26⟩ := Kd.R_slice HO284.out; subst eo26) | ((with_reducible refine gate_callee (f := 26) rfl ?_); refine goesL_ (some 55) rfl rfl Try.func26 (by kernel_rfl) rfl #[.slice A0 l0.length c0, .slice A1 l1.length c1, .int .i64 a2, .slice Ao26 y282.length co26] rfl (by (try simp only [List.map_toArray, List.map_cons, List.map_nil]); first | done | rfl | (simp only [List.length_drop, List.length_take]; rfl)) ?_; (with_reducible refine (ih k1 (by have := HK1.out; omega) _ _ l0 _ _ l1 a2 (fun k_ => some k_ = (.slice Ao26 y282.length co26 : Value).ownBlock) (.slice Ao26 y282.length co26) y282 t285 t288 w0 _ ?side1 ?side2 ?side3 ?side4 ?side5 ?side6 A22.out).mono ?_); (case side1 => repeat (first | (with_reducible first | exact HB.out | apply below_alloc | apply pw_below_drewN | apply below_drew1) | exact HB.out)); (case side2 => exact Kd.C_kept_call HR0.out (by repeat (first | (with_reducible first | exact HK.out | apply Kept.alloc | apply Kept.drewN | apply Kept.drew) | exact HK.out)) (fun k_ hs_ => (fun e_ => (HO284.out.1 k_ e_.symm).1) hs_)); (case side3 => exact HC0.out); (case side4 => exact Kd.C_kept_call HR1.out (by repeat (first | (with_reducible first | exact HK.out | apply Kept.alloc | apply Kept.drewN | apply Kept.drew) | exact HK.out)) (fun k_ hs_ => (fun e_ => (HO284.out.1 k_ e_.symm).1) hs_)); (case side5 => exact HC1.out); (case side6 => exact Kd.R_tight rfl HO284.out); rintro e w27 ⟨v286, rfl, ho0, hb, hkp⟩; refine ⟨_, rfl, ?_⟩; have n0_ := Aside0.mk (Kd.R_mono (ok' := fun k_ => (P3_ k_ ∨ w.heap.size ≤ k_) ∧ some k_ ≠ (u10 : Value).ownBlock ∧ some k_ ≠ (v286 : Value).ownBlock) (Kd.R_keptB (HO_3.out) hkp (fun k_ hk_ hs_ => (hk_.2) hs_)) (fun k_ hk_ => ⟨hk_.1.1.1, hk_.1.1.2, fun e_ => Or.elim (ho0.1 k_ e_.symm) (fun hs_ => hk_.2.1 hs_) (fun hn_ => Nat.not_le.2 hk_.2.2 hn_)⟩)); have n1_ := Aside0.mk (Kd.R_mono (ok' := fun k_ => (P3_ k_ ∨ w.heap.size ≤ k_) ∧ some k_ ≠ (.slice Ao12 l3.length co12 : Value).ownBlock ∧ some k_ ≠ (v286 : Value).ownBlock) (Kd.R_keptB (HO_10.out) hkp (fun k_ hk_ hs_ => (hk_.2) hs_)) (fun k_ hk_ => ⟨hk_.1.1.1, hk_.1.1.2, fun e_ => Or.elim (ho0.1 k_ e_.symm) (fun hs_ => hk_.2.1 hs_) (fun hn_ => Nat.not_le.2 hk_.2.2 hn_)⟩)); have n2_ := Aside0.mk (Kd.R_mono (ok' := fun k_ => (P3_ k_ ∨ w.heap.size ≤ k_) ∧ some k_ ≠ (.slice Ao12 l3.length co12 : Value).ownBlock ∧ some k_ ≠ (u10 : Value).ownBlock) ho0 (fun k_ hk_ => ⟨Or.elim hk_ (fun hs_ => (HO284.out.1 k_ (hs_).symm).1) (fun hn_ => (.inr (Nat.le_trans (by first | exact HK.out.1 | exact (show Kept w _ (fun k_ => P3_ k_) from by repeat (first | (with_reducible first | exact HK.out | apply Kept.alloc | apply Kept.drewN | apply Kept.drew) | exact HK.out)).1) hn_))), Or.elim hk_ (fun hs_ => fun e_ => (((HO_3.out).1 k_ e_.symm).2) hs_) (fun hn_ => (Kd.fresh' (Kd.R_lt (by (with_reducible repeat (first | apply Kd.R_alloc | apply Kd.R_drewN | apply Kd.R_drew)); exact HO_3.out)) k_ hn_)), Or.elim hk_ (fun hs_ => fun e_ => (((HO_10.out).1 k_ e_.symm).2) hs_) (fun hn_ => (Kd.fresh' (Kd.R_lt (by (with_reducible repeat (first | apply Kd.R_alloc | apply Kd.R_drewN | apply Kd.R_drew)); exact HO_10.out)) k_ hn_))⟩)); have n3_ := Aside0.mk (Kept.then_ (S := (fun k_ => P3_ k_)) (by repeat (first | (with_reducible first | exact HK.out | apply Kept.alloc | apply Kept.drewN | apply Kept.drew) | exact HK.out)) hkp (fun k_ hs_ => (fun e_ => (HO284.out.1 k_ e_.symm).1) hs_)); have n4_ := Aside0.mk (hb); clear HO_3; clear HO_10; clear HK; clear HB; clear HO284; have HO_3 := n0_; have HO_10 := n1_; have HO287 := n2_; have HK := n3_; have HB := n4_; clear n0_ n1_ n2_ n3_ n4_; (try clear hb); (try clear hkp); (try clear ho0)))
         go_roundg k1
         case measure => have := HK1.out; omega
         case rel => exact ⟨(t285), (t288), (wrap64 (x12_1 + 1)), (by first | rfl | (simp; done) | (simp [*]; done)), (by first | rfl | (simp; done) | (simp [*]; done)), H', ⟨by have := HK1.out; omega⟩, ⟨by (with_reducible repeat (first | apply Kd.R_alloc | apply Kd.R_drewN | apply Kd.R_drew)); exact Kd.R_mono HO_3.out (fun _ hk => ⟨hk.1, hk.2.2⟩)⟩, ⟨by (with_reducible repeat (first | apply Kd.R_alloc | apply Kd.R_drewN | apply Kd.R_drew)); exact Kd.R_mono HO287.out (fun _ hk => ⟨hk.1, hk.2.1⟩)⟩, ⟨by repeat (first | (with_reducible first | exact HK.out | apply Kept.alloc | apply Kept.drewN | apply Kept.drew) | exact HK.out)⟩, ⟨by repeat (first | (with_reducible first | exact HB.out | apply below_alloc | apply pw_below_drewN | apply below_drew1) | exact HB.out)⟩⟩
        ·
         rw [if_neg c23] at H
         have c23b0 : decide (t288 < x11_1) = false := decide_eq_false c23
         clear c23
         have H' := Aside0.mk H
         clear H
         go_wp2_with (first | ((with_reducible refine gate_callee (f := 29) rfl ?_); refine goesL_ (some 45) rfl rfl Try.func29 (by kernel_rfl) rfl #[.slice Ao12 l3.length co12, .int .i64 x12_1] rfl (by (try simp only [List.map_toArray, List.map_cons, List.map_nil]); first | done | rfl | (simp only [List.length_drop, List.length_take]; rfl)) ?_; (with_reducible refine (spec_l1Has.calls k1 _ _ l3 x12_1 false _ ?side1 ?side2 A18.out).mono ?_); (case side1 => repeat (first | exact (Kd.R_reads' HO_3.out).2.2 | (with_reducible refine Kd.C_alloc ?_ _) | (with_reducible refine Kd.C_drewN ?_ _) | (with_reducible refine Kd.C_drew ?_))); (case side2 => exact (Kd.R_reads' HO_3.out).2.1); rintro e w' ⟨rfl, ⟨nd, rfl⟩⟩; refine ⟨_, rfl, ?_⟩) | ((with_reducible refine gate_callee (f := 41) rfl ?_); refine goesL_ (some 51) rfl rfl Try.func41 (by kernel_rfl) rfl #[.slice Ao12 l3.length co12] rfl (by (try simp only [List.map_toArray, List.map_cons, List.map_nil]); first | done | rfl | (simp only [List.length_drop, List.length_take]; rfl)) ?_; (with_reducible refine (spec_l1Own.calls _ _ l3 t279 _ ?side1 ?side2 A20.out).mono ?_); (case side1 => repeat (first | exact (Kd.R_reads' HO_3.out).2.2 | (with_reducible refine Kd.C_alloc ?_ _) | (with_reducible refine Kd.C_drewN ?_ _) | (with_reducible refine Kd.C_drew ?_))); (case side2 => exact (Kd.R_reads' HO_3.out).2.1); rintro e w28 ⟨v280, rfl, ho0, hb⟩; refine ⟨_, rfl, ?_⟩; have n0_ := Aside0.mk (Kd.R_elder' (by (with_reducible repeat (first | apply Kd.R_alloc | apply Kd.R_drewN | apply Kd.R_drew)); exact HO_3.out) (Kd.R_base ho0) hb); have n1_ := Aside0.mk (Kd.R_elder' (by (with_reducible repeat (first | apply Kd.R_alloc | apply Kd.R_drewN | apply Kd.R_drew)); exact HO_10.out) (Kd.R_base ho0) hb); have n2_ := Aside0.mk (Kd.R_lower (Kd.R_new' (Kd.R_new' (Kd.R_newM (M := fun k_ => (P3_ k_ ∨ w.heap.size ≤ k_)) ho0 (by first | exact HK.out.1 | exact (show Kept w _ (fun k_ => P3_ k_) from by repeat (first | (with_reducible first | exact HK.out | apply Kept.alloc | apply Kept.drewN | apply Kept.drew) | exact HK.out)).1) (fun k_ h_ => .inr h_)) (Kd.R_lt (by (with_reducible repeat (first | apply Kd.R_alloc | apply Kd.R_drewN | apply Kd.R_drew)); exact HO_3.out))) (Kd.R_lt (by (with_reducible repeat (first | apply Kd.R_alloc | apply Kd.R_drewN | apply Kd.R_drew)); exact HO_10.out))) (below_size (by repeat (first | (with_reducible first | exact HB.out | apply below_alloc | apply pw_below_drewN | apply below_drew1) | exact HB.out)))); have n3_ := Aside0.mk (Kept.below (S := (fun k_ => P3_ k_)) (by repeat (first | (with_reducible first | exact HK.out | apply Kept.alloc | apply Kept.drewN | apply Kept.drew) | exact HK.out)) hb); have n4_ := Aside0.mk (below_step (by repeat (first | (with_reducible first | exact HB.out | apply below_alloc | apply pw_below_drewN | apply below_drew1) | exact HB.out)) hb); clear HO_3; clear HO_10; clear HK; clear HB; have HO_3 := n0_; have HO_10 := n1_; have HO281 := n2_; have HK := n3_; have HB := n4_; clear n0_ n1_ n2_ n3_ n4_; (try clear hb); (try clear hb2); (try clear hk); (try clear hi); (try clear ho0)) | ((with_reducible refine gate_builtin (b := .append) (xs := #[.tmp 51, .tmp 53]) rfl ?_); at_builtin; refine Kd.R_append (Kd.int .i64) (w0 := w0) w0.heap.size rfl (.tmp 51) (.tmp 53) 25 3 (.int .i64 0) 8 rfl Try.underlying25 info3 rfl (by decide) (by omega) v280 t279 x12_1 [.int .i64 x12_1] (fun k_ => (P3_ k_ ∨ w.heap.size ≤ k_) ∧ some k_ ≠ (.slice Ao12 l3.length co12 : Value).ownBlock ∧ some k_ ≠ (u10 : Value).ownBlock) (fun _ => False) rfl rfl ?aP (fun _ hk => hk.elim) ?aF ?aO ?aB ?aS ?aL ?_; (case aP => exact rfl); (case aB => exact (by repeat (first | (with_reducible first | exact HB.out | apply below_alloc | apply pw_below_drewN | apply below_drew1) | exact HB.out))); (case aF => exact (fun k_ hk => ⟨(.inr (Nat.le_trans (by first | exact HK.out.1 | exact (show Kept w _ (fun k_ => P3_ k_) from by repeat (first | (with_reducible first | exact HK.out | apply Kept.alloc | apply Kept.drewN | apply Kept.drew) | exact HK.out)).1) hk)), Kd.fresh' (Kd.R_lt (by (with_reducible repeat (first | apply Kd.R_alloc | apply Kd.R_drewN | apply Kd.R_drew)); exact HO_3.out)) k_ hk, Kd.fresh' (Kd.R_lt (by (with_reducible repeat (first | apply Kd.R_alloc | apply Kd.R_drewN | apply Kd.R_drew)); exact HO_10.out)) k_ hk⟩)); (case aO => exact (by (with_reducible repeat (first | apply Kd.R_alloc | apply Kd.R_drewN | apply Kd.R_drew)); exact Kd.R_mono HO281.out (fun _ hk => ⟨hk.1.1.1, ⟨hk.1.2, hk.2⟩⟩))); (case aS => exact (below_size (by repeat (first | (with_reducible first | exact HB.out | apply below_alloc | apply pw_below_drewN | apply below_drew1) | exact HB.out)))); (case aL => have := LMc21.out; omega); intro v283 w29 ho hb hg hat; rw [← Ny282.out] at ho; have n0_ := Aside0.mk (Kd.R_after (ok := (fun k_ => (P3_ k_ ∨ w.heap.size ≤ k_) ∧ some k_ ≠ (u10 : Value).ownBlock)) (by (with_reducible repeat (first | apply Kd.R_alloc | apply Kd.R_drewN | apply Kd.R_drew)); exact HO_3.out) hg hat); have n1_ := Aside0.mk (Kd.R_after (ok := (fun k_ => (P3_ k_ ∨ w.heap.size ≤ k_) ∧ some k_ ≠ (.slice Ao12 l3.length co12 : Value).ownBlock)) (by (with_reducible repeat (first | apply Kd.R_alloc | apply Kd.R_drewN | apply Kd.R_drew)); exact HO_10.out) hg hat); have n2_ := Aside0.mk (hb); have n3_ := Aside0.mk (Kept.of_grown (S := (fun k_ => P3_ k_)) hg (by repeat (first | (with_reducible first | exact HK.out | apply Kept.alloc | apply Kept.drewN | apply Kept.drew) | exact HK.out)) (fun k_ e_ => (HO281.out.1 k_ e_).1.1.1)); have n4_ := Aside0.mk (ho); clear HO_3; clear HO_10; clear HB; clear HK; clear HO281; have HO_3 := n0_; have HO_10 := n1_; have HB := n2_; have HK := n3_; have HO284 := n4_; clear n0_ n1_ n2_ n3_ n4_; clear ho hb hg hat; obtain ⟨Ao30, co30, eo30⟩ := Kd.R_slice HO284.out; subst eo30) | ((with_reducible refine gate_callee (f := 26) rfl ?_); refine goesL_ (some 55) rfl rfl Try.func26 (by kernel_rfl) rfl #[.slice A0 l0.length c0, .slice A1 l1.length c1, .int .i64 a2, .slice Ao30 y282.length co30] rfl (by (try simp only [List.map_toArray, List.map_cons, List.map_nil]); first | done | rfl | (simp only [List.length_drop, List.length_take]; rfl)) ?_; (with_reducible refine (ih k1 (by have := HK1.out; omega) _ _ l0 _ _ l1 a2 (fun k_ => some k_ = (.slice Ao30 y282.length co30 : Value).ownBlock) (.slice Ao30 y282.length co30) y282 t285 t288 w0 _ ?side1 ?side2 ?side3 ?side4 ?side5 ?side6 A22.out).mono ?_); (case side1 => repeat (first | (with_reducible first | exact HB.out | apply below_alloc | apply pw_below_drewN | apply below_drew1) | exact HB.out)); (case side2 => exact Kd.C_kept_call HR0.out (by repeat (first | (with_reducible first | exact HK.out | apply Kept.alloc | apply Kept.drewN | apply Kept.drew) | exact HK.out)) (fun k_ hs_ => (fun e_ => (HO284.out.1 k_ e_.symm).1) hs_)); (case side3 => exact HC0.out); (case side4 => exact Kd.C_kept_call HR1.out (by repeat (first | (with_reducible first | exact HK.out | apply Kept.alloc | apply Kept.drewN | apply Kept.drew) | exact HK.out)) (fun k_ hs_ => (fun e_ => (HO284.out.1 k_ e_.symm).1) hs_)); (case side5 => exact HC1.out); (case side6 => exact Kd.R_tight rfl HO284.out); rintro e w31 ⟨v286, rfl, ho0, hb, hkp⟩; refine ⟨_, rfl, ?_⟩; have n0_ := Aside0.mk (Kd.R_mono (ok' := fun k_ => (P3_ k_ ∨ w.heap.size ≤ k_) ∧ some k_ ≠ (u10 : Value).ownBlock ∧ some k_ ≠ (v286 : Value).ownBlock) (Kd.R_keptB (HO_3.out) hkp (fun k_ hk_ hs_ => (hk_.2) hs_)) (fun k_ hk_ => ⟨hk_.1.1.1, hk_.1.1.2, fun e_ => Or.elim (ho0.1 k_ e_.symm) (fun hs_ => hk_.2.1 hs_) (fun hn_ => Nat.not_le.2 hk_.2.2 hn_)⟩)); have n1_ := Aside0.mk (Kd.R_mono (ok' := fun k_ => (P3_ k_ ∨ w.heap.size ≤ k_) ∧ some k_ ≠ (.slice Ao12 l3.length co12 : Value).ownBlock ∧ some k_ ≠ (v286 : Value).ownBlock) (Kd.R_keptB (HO_10.out) hkp (fun k_ hk_ hs_ => (hk_.2) hs_)) (fun k_ hk_ => ⟨hk_.1.1.1, hk_.1.1.2, fun e_ => Or.elim (ho0.1 k_ e_.symm) (fun hs_ => hk_.2.1 hs_) (fun hn_ => Nat.not_le.2 hk_.2.2 hn_)⟩)); have n2_ := Aside0.mk (Kd.R_mono (ok' := fun k_ => (P3_ k_ ∨ w.heap.size ≤ k_) ∧ some k_ ≠ (.slice Ao12 l3.length co12 : Value).ownBlock ∧ some k_ ≠ (u10 : Value).ownBlock) ho0 (fun k_ hk_ => ⟨Or.elim hk_ (fun hs_ => (HO284.out.1 k_ (hs_).symm).1) (fun hn_ => (.inr (Nat.le_trans (by first | exact HK.out.1 | exact (show Kept w _ (fun k_ => P3_ k_) from by repeat (first | (with_reducible first | exact HK.out | apply Kept.alloc | apply Kept.drewN | apply Kept.drew) | exact HK.out)).1) hn_))), Or.elim hk_ (fun hs_ => fun e_ => (((HO_3.out).1 k_ e_.symm).2) hs_) (fun hn_ => (Kd.fresh' (Kd.R_lt (by (with_reducible repeat (first | apply Kd.R_alloc | apply Kd.R_drewN | apply Kd.R_drew)); exact HO_3.out)) k_ hn_)), Or.elim hk_ (fun hs_ => fun e_ => (((HO_10.out).1 k_ e_.symm).2) hs_) (fun hn_ => (Kd.fresh' (Kd.R_lt (by (with_reducible repeat (first | apply Kd.R_alloc | apply Kd.R_drewN | apply Kd.R_drew)); exact HO_10.out)) k_ hn_))⟩)); have n3_ := Aside0.mk (Kept.then_ (S := (fun k_ => P3_ k_)) (by repeat (first | (with_reducible first | exact HK.out | apply Kept.alloc | apply Kept.drewN | apply Kept.drew) | exact HK.out)) hkp (fun k_ hs_ => (fun e_ => (HO284.out.1 k_ e_.symm).1) hs_)); have n4_ := Aside0.mk (hb); clear HO_3; clear HO_10; clear HK; clear HB; clear HO284; have HO_3 := n0_; have HO_10 := n1_; have HO287 := n2_; have HK := n3_; have HB := n4_; clear n0_ n1_ n2_ n3_ n4_; (try clear hb); (try clear hkp); (try clear ho0)))
         go_roundg k1
         case measure => have := HK1.out; omega
         case rel => exact ⟨(x10_1), (x11_1), (wrap64 (x12_1 + 1)), (by first | rfl | (simp; done) | (simp [*]; done)), (by first | rfl | (simp; done) | (simp [*]; done)), H', ⟨by have := HK1.out; omega⟩, ⟨by (with_reducible repeat (first | apply Kd.R_alloc | apply Kd.R_drewN | apply Kd.R_drew)); exact Kd.R_mono HO_3.out (fun _ hk => ⟨hk.1, hk.2.1⟩)⟩, ⟨by (with_reducible repeat (first | apply Kd.R_alloc | apply Kd.R_drewN | apply Kd.R_drew)); exact Kd.R_mono HO_10.out (fun _ hk => ⟨hk.1, hk.2.1⟩)⟩, ⟨by repeat (first | (with_reducible first | exact HK.out | apply Kept.alloc | apply Kept.drewN | apply Kept.drew) | exact HK.out)⟩, ⟨by repeat (first | (with_reducible first | exact HB.out | apply below_alloc | apply pw_below_drewN | apply below_drew1) | exact HB.out)⟩⟩
       ·
        rw [if_neg c21] at H
        exact absurd H (by simp)
     ·
      rw [if_neg c17] at H
      have c17b0 : decide (x12_1 < (l1.length : Int)) = false := decide_eq_false c17
      clear c17
      simp only [Option.some.injEq, Prod.mk.injEq] at H
      obtain ⟨rfl, rfl⟩ := H
      go_wp2
      go_ret2
      exact ⟨_, by first | rfl | (simp [errW_none, errW_some] <;> rfl) | (simp [*, errW_none, errW_some] <;> rfl), by (with_reducible repeat (first | apply Kd.R_alloc | apply Kd.R_drewN | apply Kd.R_drew)); exact Kd.R_mono HO_10.out (fun _ hk => hk.1), by repeat (first | (with_reducible first | exact HB.out | apply below_alloc | apply pw_below_drewN | apply below_drew1) | exact HB.out), by repeat (first | (with_reducible first | exact HK.out | apply Kept.alloc | apply Kept.drewN | apply Kept.drew) | exact HK.out)⟩
  ·
   rw [if_neg c10] at H
   exact absurd H (by simp)

end Go.Proofs.Ytcfjglbnhbgbdaa.Q
