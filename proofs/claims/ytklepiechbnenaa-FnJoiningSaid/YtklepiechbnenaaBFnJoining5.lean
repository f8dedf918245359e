/- Texts of this seat, put together: Qf39, Qf66, Qf103, Qf67. -/
import Derived.Test.YtklepiechbnenaaZFnJoining
import Derived.Test.YtklepiechbnenaaBFnJoining0
import Derived.Test.YtklepiechbnenaaBFnJoining4
namespace Go.Proofs.Ytklepiechbnenaa.Q
open Go.RowKit Go.Proofs.YtklepiechbnenaaW.PrintWords Go.Proofs.YtklepiechbnenaaW.PrintLast Go.Proofs.YtklepiechbnenaaW.PrintMore
attribute [local go_sem] max2_int min2_int max_two min_two max_three min_three max_four min_four   -- for this text's walks alone
set_option linter.unusedVariables false
set_option linter.unusedSimpArgs false

/-! ### impl_IsValidWarning: function 39 -/
def impl_IsValidWarning.f (a0_0 : Int) (a0_1 : Int) (a0_2 : Int) (a0_3 : Int) (a0_4 : Int) (a0_5 : Int) : Option (Bool) := (impl_within.f a0_0 1 999).bind fun t282 => (if t282 = true then ((impl_within.f a0_1 1 5).bind fun t283 => (if t283 = true then ((impl_within.f a0_2 1 3).bind fun t284 => (if t284 = true then ((impl_within.f a0_3 1 9).bind fun t285 => (if t285 = true then (if a0_4 ≥ 0 then (if a0_4 < a0_5 then (some (decide (a0_5 ≤ 240))) else (some false)) else (some false)) else (some false))) else (some false))) else (some false))) else (some false))
set_option maxHeartbeats 8000000 in
set_option maxRecDepth 100000 in
theorem impl_IsValidWarning.calls (a0_0 : Int) (a0_1 : Int) (a0_2 : Int) (a0_3 : Int) (a0_4 : Int) (a0_5 : Int) (r : Bool) (w : World) (h : impl_IsValidWarning.f a0_0 a0_1 a0_2 a0_3 a0_4 a0_5 = some r) :
  Calls Try.prog 39 #[.agg #[.int .i64 a0_0, .int .i64 a0_1, .int .i64 a0_2, .int .i64 a0_3, .int .i64 a0_4, .int .i64 a0_5]] w fun e w' => e = .returned (.bool r) ∧ Below w.heap.size w w' := by
 have hu31 := Try.underlying31
 have HB := Aside0.mk (Below.refl w.heap.size w)
 have H : ((impl_within.f a0_0 1 999).bind fun t282 => (if t282 = true then ((impl_within.f a0_1 1 5).bind fun t283 => (if t283 = true then ((impl_within.f a0_2 1 3).bind fun t284 => (if t284 = true then ((impl_within.f a0_3 1 9).bind fun t285 => (if t285 = true then (if a0_4 ≥ 0 then (if a0_4 < a0_5 then (some (decide (a0_5 ≤ 240))) else (some false)) else (some false)) else (some false))) else (some false))) else (some false))) else (some false))) = some r := h
 clear h
 replace H := Option.bind_eq_some_iff.mp H
 obtain ⟨t282, A20, H⟩ := H
 replace H : (if t282 = true then ((impl_within.f a0_1 1 5).bind fun t283 => (if t283 = true then ((impl_within.f a0_2 1 3).bind fun t284 => (if t284 = true then ((impl_within.f a0_3 1 9).bind fun t285 => (if t285 = true then (if a0_4 ≥ 0 then (if a0_4 < a0_5 then (some (decide (a0_5 ≤ 240))) else (some false)) else (some false)) else (some false))) else (some false))) else (some false))) else (some false)) = some r := H
 have A2 := Aside0.mk A20
 clear A20
 by_cases c3 : t282 = true
 case neg =>
  replace c3 := Bool.eq_false_iff.mpr c3
  subst c3
  have H1 : (some false) = some r := by rw [if_neg (show ¬ (false = true) by decide)] at H; exact H
  clear H
  have H := H1
  clear H1
  obtain rfl := Option.some.inj H
  go_enter Try.func39, Try.ntmps39
  go_wp2_with (first | ((with_reducible refine gate_dst (N := 1) rfl ?_); refine box_event ?hg (N := 1) ?hd (cs := #[.int .i64 a0_0, .int .i64 a0_1, .int .i64 a0_2, .int .i64 a0_3, .int .i64 a0_4, .int .i64 a0_5]) (t := 31) ?hr ?_; (case hd => rfl); (case hg => rfl); (case hr => exact zqS); intro gb281 hg w24 hbox hb; have n0_ := Aside0.mk (below_step zq0 hb); have n1_ := Aside0.mk (hbox); have n2_ := Aside0.mk ((by rw [hg]; exact (below_size zq0) : w.heap.size ≤ gb281)); have n3_ := n2_; clear HB; have HB := n0_; have BK281 := n1_; have GW281 := n2_; have GE281 := n3_; clear n0_ n1_ n2_ n3_; clear hb hbox hg; obtain ⟨hcz25_0, hcz25_1, hcz25_2, hcz25_3, hcz25_4, hcz25_5, hfz25_0, hfz25_1, hfz25_2, hfz25_3, hfz25_4, hfz25_5⟩ := bz6 BK281.out) | ((with_reducible refine gate_callee (f := 60) rfl ?_); refine goesL_ (some 5) rfl rfl Try.func60 (by kernel_rfl) rfl #[.int .i64 a0_0, .int .i64 1, .int .i64 999] rfl zq1 ?_; (with_reducible refine (impl_within.calls a0_0 1 999 false _ A2.out).mono ?_); rintro e w' ⟨rfl, ⟨nd, rfl⟩⟩; refine ⟨_, rfl, ?_⟩))
  go_ret
  exact ⟨zqE, zq28⟩
 subst c3
 have H1 : ((impl_within.f a0_1 1 5).bind fun t283 => (if t283 = true then ((impl_within.f a0_2 1 3).bind fun t284 => (if t284 = true then ((impl_within.f a0_3 1 9).bind fun t285 => (if t285 = true then (if a0_4 ≥ 0 then (if a0_4 < a0_5 then (some (decide (a0_5 ≤ 240))) else (some false)) else (some false)) else (some false))) else (some false))) else (some false))) = some r := by rw [if_pos rfl] at H; exact H
 clear H
 have H := H1
 clear H1
 replace H := Option.bind_eq_some_iff.mp H
 obtain ⟨t283, A40, H⟩ := H
 replace H : (if t283 = true then ((impl_within.f a0_2 1 3).bind fun t284 => (if t284 = true then ((impl_within.f a0_3 1 9).bind fun t285 => (if t285 = true then (if a0_4 ≥ 0 then (if a0_4 < a0_5 then (some (decide (a0_5 ≤ 240))) else (some false)) else (some false)) else (some false))) else (some false))) else (some false)) = some r := H
 have A4 := Aside0.mk A40
 clear A40
 by_cases c5 : t283 = true
 case neg =>
  replace c5 := Bool.eq_false_iff.mpr c5
  subst c5
  have H1 : (some false) = some r := by rw [if_neg (show ¬ (false = true) by decide)] at H; exact H
  clear H
  have H := H1
  clear H1
  obtain rfl := Option.some.inj H
  go_enter Try.func39, Try.ntmps39
  go_wp2_with (first | ((with_reducible refine gate_dst (N := 1) rfl ?_); refine box_event ?hg (N := 1) ?hd (cs := #[.int .i64 a0_0, .int .i64 a0_1, .int .i64 a0_2, .int .i64 a0_3, .int .i64 a0_4, .int .i64 a0_5]) (t := 31) ?hr ?_; (case hd => rfl); (case hg => rfl); (case hr => exact zqS); intro gb281 hg w22 hbox hb; have n0_ := Aside0.mk (below_step zq0 hb); have n1_ := Aside0.mk (hbox); have n2_ := Aside0.mk ((by rw [hg]; exact (below_size zq0) : w.heap.size ≤ gb281)); have n3_ := n2_; clear HB; have HB := n0_; have BK281 := n1_; have GW281 := n2_; have GE281 := n3_; clear n0_ n1_ n2_ n3_; clear hb hbox hg; obtain ⟨hcz23_0, hcz23_1, hcz23_2, hcz23_3, hcz23_4, hcz23_5, hfz23_0, hfz23_1, hfz23_2, hfz23_3, hfz23_4, hfz23_5⟩ := bz6 BK281.out) | ((with_reducible refine gate_callee (f := 60) rfl ?_); refine goesL_ (some 5) rfl rfl Try.func60 (by kernel_rfl) rfl #[.int .i64 a0_0, .int .i64 1, .int .i64 999] rfl zq1 ?_; (with_reducible refine (impl_within.calls a0_0 1 999 true _ A2.out).mono ?_); rintro e w' ⟨rfl, ⟨nd, rfl⟩⟩; refine ⟨_, rfl, ?_⟩) | (go_at_call 60; (with_reducible refine (impl_within.calls a0_1 1 5 false _ A4.out).mono ?_); rintro e w' ⟨rfl, ⟨nd, rfl⟩⟩))
  go_ret
  exact ⟨zqE, zq28⟩
 subst c5
 have H1 : ((impl_within.f a0_2 1 3).bind fun t284 => (if t284 = true then ((impl_within.f a0_3 1 9).bind fun t285 => (if t285 = true then (if a0_4 ≥ 0 then (if a0_4 < a0_5 then (some (decide (a0_5 ≤ 240))) else (some false)) else (some false)) else (some false))) else (some false))) = some r := by rw [if_pos rfl] at H; exact H
 clear H
 have H := H1
 clear H1
 replace H := Option.bind_eq_some_iff.mp H
 obtain ⟨t284, A60, H⟩ := H
 replace H : (if t284 = true then ((impl_within.f a0_3 1 9).bind fun t285 => (if t285 = true then (if a0_4 ≥ 0 then (if a0_4 < a0_5 then (some (decide (a0_5 ≤ 240))) else (some false)) else (some false)) else (some false))) else (some false)) = some r := H
 have A6 := Aside0.mk A60
 clear A60
 by_cases c7 : t284 = true
 case neg =>
  replace c7 := Bool.eq_false_iff.mpr c7
  subst c7
  have H1 : (some false) = some r := by rw [if_neg (show ¬ (false = true) by decide)] at H; exact H
  clear H
  have H := H1
  clear H1
  obtain rfl := Option.some.inj H
  go_enter Try.func39, Try.ntmps39
  go_wp2_with (first | ((with_reducible refine gate_dst (N := 1) rfl ?_); refine box_event ?hg (N := 1) ?hd (cs := #[.int .i64 a0_0, .int .i64 a0_1, .int .i64 a0_2, .int .i64 a0_3, .int .i64 a0_4, .int .i64 a0_5]) (t := 31) ?hr ?_; (case hd => rfl); (case hg => rfl); (case hr => exact zqS); intro gb281 hg w20 hbox hb; have n0_ := Aside0.mk (below_step zq0 hb); have n1_ := Aside0.mk (hbox); have n2_ := Aside0.mk ((by rw [hg]; exact (below_size zq0) : w.heap.size ≤ gb281)); have n3_ := n2_; clear HB; have HB := n0_; have BK281 := n1_; have GW281 := n2_; have GE281 := n3_; clear n0_ n1_ n2_ n3_; clear hb hbox hg; obtain ⟨hcz21_0, hcz21_1, hcz21_2, hcz21_3, hcz21_4, hcz21_5, hfz21_0, hfz21_1, hfz21_2, hfz21_3, hfz21_4, hfz21_5⟩ := bz6 BK281.out) | ((with_reducible refine gate_callee (f := 60) rfl ?_); refine goesL_ (some 5) rfl rfl Try.func60 (by kernel_rfl) rfl #[.int .i64 a0_0, .int .i64 1, .int .i64 999] rfl zq1 ?_; (with_reducible refine (impl_within.calls a0_0 1 999 true _ A2.out).mono ?_); rintro e w' ⟨rfl, ⟨nd, rfl⟩⟩; refine ⟨_, rfl, ?_⟩) | (go_at_call 60; (with_reducible refine (impl_within.calls a0_1 1 5 true _ A4.out).mono ?_); rintro e w' ⟨rfl, ⟨nd, rfl⟩⟩) | (go_at_call 60; (with_reducible refine (impl_within.calls a0_2 1 3 false _ A6.out).mono ?_); rintro e w' ⟨rfl, ⟨nd, rfl⟩⟩))
  go_ret
  exact ⟨zqE, zq28⟩
 subst c7
 have H1 : ((impl_within.f a0_3 1 9).bind fun t285 => (if t285 = true then (if a0_4 ≥ 0 then (if a0_4 < a0_5 then (some (decide (a0_5 ≤ 240))) else (some false)) else (some false)) else (some false))) = some r := by rw [if_pos rfl] at H; exact H
 clear H
 have H := H1
 clear H1
 replace H := Option.bind_eq_some_iff.mp H
 obtain ⟨t285, A80, H⟩ := H
 replace H : (if t285 = true then (if a0_4 ≥ 0 then (if a0_4 < a0_5 then (some (decide (a0_5 ≤ 240))) else (some false)) else (some false)) else (some false)) = some r := H
 have A8 := Aside0.mk A80
 clear A80
 by_cases c9 : t285 = true
 case neg =>
  replace c9 := Bool.eq_false_iff.mpr c9
  subst c9
  have H1 : (some false) = some r := by rw [if_neg (show ¬ (false = true) by decide)] at H; exact H
  clear H
  have H := H1
  clear H1
  obtain rfl := Option.some.inj H
  go_enter Try.func39, Try.ntmps39
  go_wp2_with (first | ((with_reducible refine gate_dst (N := 1) rfl ?_); refine box_event ?hg (N := 1) ?hd (cs := #[.int .i64 a0_0, .int .i64 a0_1, .int .i64 a0_2, .int .i64 a0_3, .int .i64 a0_4, .int .i64 a0_5]) (t := 31) ?hr ?_; (case hd => rfl); (case hg => rfl); (case hr => exact zqS); intro gb281 hg w18 hbox hb; have n0_ := Aside0.mk (below_step zq0 hb); have n1_ := Aside0.mk (hbox); have n2_ := Aside0.mk ((by rw [hg]; exact (below_size zq0) : w.heap.size ≤ gb281)); have n3_ := n2_; clear HB; have HB := n0_; have BK281 := n1_; have GW281 := n2_; have GE281 := n3_; clear n0_ n1_ n2_ n3_; clear hb hbox hg; obtain ⟨hcz19_0, hcz19_1, hcz19_2, hcz19_3, hcz19_4, hcz19_5, hfz19_0, hfz19_1, hfz19_2, hfz19_3, hfz19_4, hfz19_5⟩ := bz6 BK281.out) | ((with_reducible refine gate_callee (f := 60) rfl ?_); refine goesL_ (some 5) rfl rfl Try.func60 (by kernel_rfl) rfl #[.int .i64 a0_0, .int .i64 1, .int .i64 999] rfl zq1 ?_; (with_reducible refine (impl_within.calls a0_0 1 999 true _ A2.out).mono ?_); rintro e w' ⟨rfl, ⟨nd, rfl⟩⟩; refine ⟨_, rfl, ?_⟩) | (go_at_call 60; (with_reducible refine (impl_within.calls a0_1 1 5 true _ A4.out).mono ?_); rintro e w' ⟨rfl, ⟨nd, rfl⟩⟩) | (go_at_call 60; (with_reducible refine (impl_within.calls a0_2 1 3 true _ A6.out).mono ?_); rintro e w' ⟨rfl, ⟨nd, rfl⟩⟩) | (go_at_call 60; (with_reducible refine (impl_within.calls a0_3 1 9 false _ A8.out).mono ?_); rintro e w' ⟨rfl, ⟨nd, rfl⟩⟩))
  go_ret
  exact ⟨zqE, zq28⟩
 subst c9
 have H1 : (if a0_4 ≥ 0 then (if a0_4 < a0_5 then (some (decide (a0_5 ≤ 240))) else (some false)) else (some false)) = some r := by rw [if_pos rfl] at H; exact H
 clear H
 have H := H1
 clear H1
 by_cases c10 : a0_4 ≥ 0
 case neg =>
  rw [if_neg c10] at H
  have c10b0 : decide (0 ≤ a0_4) = false := decide_eq_false c10
  clear c10
  obtain rfl := Option.some.inj H
  go_enter Try.func39, Try.ntmps39
  go_wp2_with (first | ((with_reducible refine gate_dst (N := 1) rfl ?_); refine box_event ?hg (N := 1) ?hd (cs := #[.int .i64 a0_0, .int .i64 a0_1, .int .i64 a0_2, .int .i64 a0_3, .int .i64 a0_4, .int .i64 a0_5]) (t := 31) ?hr ?_; (case hd => rfl); (case hg => rfl); (case hr => exact zqS); intro gb281 hg w16 hbox hb; have n0_ := Aside0.mk (below_step zq0 hb); have n1_ := Aside0.mk (hbox); have n2_ := Aside0.mk ((by rw [hg]; exact (below_size zq0) : w.heap.size ≤ gb281)); have n3_ := n2_; clear HB; have HB := n0_; have BK281 := n1_; have GW281 := n2_; have GE281 := n3_; clear n0_ n1_ n2_ n3_; clear hb hbox hg; obtain ⟨hcz17_0, hcz17_1, hcz17_2, hcz17_3, hcz17_4, hcz17_5, hfz17_0, hfz17_1, hfz17_2, hfz17_3, hfz17_4, hfz17_5⟩ := bz6 BK281.out) | ((with_reducible refine gate_callee (f := 60) rfl ?_); refine goesL_ (some 5) rfl rfl Try.func60 (by kernel_rfl) rfl #[.int .i64 a0_0, .int .i64 1, .int .i64 999] rfl zq1 ?_; (with_reducible refine (impl_within.calls a0_0 1 999 true _ A2.out).mono ?_); rintro e w' ⟨rfl, ⟨nd, rfl⟩⟩; refine ⟨_, rfl, ?_⟩) | (go_at_call 60; (with_reducible refine (impl_within.calls a0_1 1 5 true _ A4.out).mono ?_); rintro e w' ⟨rfl, ⟨nd, rfl⟩⟩) | (go_at_call 60; (with_reducible refine (impl_within.calls a0_2 1 3 true _ A6.out).mono ?_); rintro e w' ⟨rfl, ⟨nd, rfl⟩⟩) | (go_at_call 60; (with_reducible refine (impl_within.calls a0_3 1 9 true _ A8.out).mono ?_); rintro e w' ⟨rfl, ⟨nd, rfl⟩⟩))
  go_ret
  exact ⟨zqE, zq28⟩
 rw [if_pos c10] at H
 have c10b0 : decide (0 ≤ a0_4) = true := decide_eq_true c10
 clear c10
 by_cases c11 : a0_4 < a0_5
 case neg =>
  rw [if_neg c11] at H
  have c11b0 : decide (a0_4 < a0_5) = false := decide_eq_false c11
  clear c11
  obtain rfl := Option.some.inj H
  go_enter Try.func39, Try.ntmps39
  go_wp2_with (first | ((with_reducible refine gate_dst (N := 1) rfl ?_); refine box_event ?hg (N := 1) ?hd (cs := #[.int .i64 a0_0, .int .i64 a0_1, .int .i64 a0_2, .int .i64 a0_3, .int .i64 a0_4, .int .i64 a0_5]) (t := 31) ?hr ?_; (case hd => rfl); (case hg => rfl); (case hr => exact zqS); intro gb281 hg w14 hbox hb; have n0_ := Aside0.mk (below_step zq0 hb); have n1_ := Aside0.mk (hbox); have n2_ := Aside0.mk ((by rw [hg]; exact (below_size zq0) : w.heap.size ≤ gb281)); have n3_ := n2_; clear HB; have HB := n0_; have BK281 := n1_; have GW281 := n2_; have GE281 := n3_; clear n0_ n1_ n2_ n3_; clear hb hbox hg; obtain ⟨hcz15_0, hcz15_1, hcz15_2, hcz15_3, hcz15_4, hcz15_5, hfz15_0, hfz15_1, hfz15_2, hfz15_3, hfz15_4, hfz15_5⟩ := bz6 BK281.out) | ((with_reducible refine gate_callee (f := 60) rfl ?_); refine goesL_ (some 5) rfl rfl Try.func60 (by kernel_rfl) rfl #[.int .i64 a0_0, .int .i64 1, .int .i64 999] rfl zq1 ?_; (with_reducible refine (impl_within.calls a0_0 1 999 true _ A2.out).mono ?_); rintro e w' ⟨rfl, ⟨nd, rfl⟩⟩; refine ⟨_, rfl, ?_⟩) | (go_at_call 60; (with_reducible refine (impl_within.calls a0_1 1 5 true _ A4.out).mono ?_); rintro e w' ⟨rfl, ⟨nd, rfl⟩⟩) | (go_at_call 60; (with_reducible refine (impl_within.calls a0_2 1 3 true _ A6.out).mono ?_); rintro e w' ⟨rfl, ⟨nd, rfl⟩⟩) | (go_at_call 60; (with_reducible refine (impl_within.calls a0_3 1 9 true _ A8.out).mono ?_); rintro e w' ⟨rfl, ⟨nd, rfl⟩⟩))
  go_ret
  exact ⟨zqE, zq28⟩
 rw [if_pos c11] at H
 have c11b0 : decide (a0_4 < a0_5) = true := decide_eq_true c11
 clear c11
 obtain rfl := Option.some.inj H
 go_enter Try.func39, Try.ntmps39
 go_wp2_with (first | ((with_reducible refine gate_dst (N := 1) rfl ?_); refine box_event ?hg (N := 1) ?hd (cs := #[.int .i64 a0_0, .int .i64 a0_1, .int .i64 a0_2, .int .i64 a0_3, .int .i64 a0_4, .int .i64 a0_5]) (t := 31) ?hr ?_; (case hd => rfl); (case hg => rfl); (case hr => exact zqS); intro gb281 hg w12 hbox hb; have n0_ := Aside0.mk (below_step zq0 hb); have n1_ := Aside0.mk (hbox); have n2_ := Aside0.mk ((by rw [hg]; exact (below_size zq0) : w.heap.size ≤ gb281)); have n3_ := n2_; clear HB; have HB := n0_; have BK281 := n1_; have GW281 := n2_; have GE281 := n3_; clear n0_ n1_ n2_ n3_; clear hb hbox hg; obtain ⟨hcz13_0, hcz13_1, hcz13_2, hcz13_3, hcz13_4, hcz13_5, hfz13_0, hfz13_1, hfz13_2, hfz13_3, hfz13_4, hfz13_5⟩ := bz6 BK281.out) | ((with_reducible refine gate_callee (f := 60) rfl ?_); refine goesL_ (some 5) rfl rfl Try.func60 (by kernel_rfl) rfl #[.int .i64 a0_0, .int .i64 1, .int .i64 999] rfl zq1 ?_; (with_reducible refine (impl_within.calls a0_0 1 999 true _ A2.out).mono ?_); rintro e w' ⟨rfl, ⟨nd, rfl⟩⟩; refine ⟨_, rfl, ?_⟩) | (go_at_call 60; (with_reducible refine (impl_within.calls a0_1 1 5 true _ A4.out).mono ?_); rintro e w' ⟨rfl, ⟨nd, rfl⟩⟩) | (go_at_call 60; (with_reducible refine (impl_within.calls a0_2 1 3 true _ A6.out).mono ?_); rintro e w' ⟨rfl, ⟨nd, rfl⟩⟩) | (go_at_call 60; (with_reducible refine (impl_within.calls a0_3 1 9 true _ A8.out).mono ?_); rintro e w' ⟨rfl, ⟨nd, rfl⟩⟩))
 go_ret
 exact ⟨zqE, zq28⟩

/-! ### impl_areWarnings: function 66 -/
def impl_areWarnings.l0 : Nat → List (S31) → List (S31) → Int → Int → Option (Bool)
 | 0, _, _, _, _ => none
 | k + 1, x0, x5, x6, x7 => if x7 < x6 then (if 0 ≤ x7 then (if x7 < (x5.length : Int) then ((impl_IsValidWarning.f ((rd_T31 x5 x7).f0) ((rd_T31 x5 x7).f1) ((rd_T31 x5 x7).f2) ((rd_T31 x5 x7).f3) ((rd_T31 x5 x7).f4) ((rd_T31 x5 x7).f5)).bind fun t288 => (if t288 = true then (if x7 > 0 then (if 0 ≤ (wrap64 (x7 - 1)) then (if (wrap64 (x7 - 1)) < (x0.length : Int) then (if ((rd_T31 x0 (wrap64 (x7 - 1))).f0) ≥ ((rd_T31 x5 x7).f0) then (some false) else (impl_areWarnings.l0 k x0 x5 x6 (wrap64 (x7 + 1)))) else (none)) else (none)) else (impl_areWarnings.l0 k x0 x5 x6 (wrap64 (x7 + 1)))) else (some false))) else (none)) else (none)) else (some (decide ((x0.length : Int) ≤ 12)))
def impl_areWarnings.f (k : Nat) (l0 : List (S31)) : Option (Bool) := impl_areWarnings.l0 k l0 l0 (l0.length : Int) 0
theorem impl_areWarnings.mono_l : ∀ k, (∀ y0 y1 y2 y3, LeO (impl_areWarnings.l0 k y0 y1 y2 y3) (impl_areWarnings.l0 (k + 1) y0 y1 y2 y3))
 | 0 => fun _ _ _ _ r h => by simp [impl_areWarnings.l0] at h
 | k + 1 => by
  have ih0 := impl_areWarnings.mono_l k
  ·
   intro y0 y1 y2 y3
   unfold impl_areWarnings.l0
   repeat' first
   | (with_reducible exact ih0 _ _ _ _)
   | (with_reducible exact LeO.refl _)
   | (with_reducible exact LeO.none _)
   | (with_reducible refine LeO.ite ?_ ?_)
   | (with_reducible refine LeO.bind ?_ (fun _ => ?_))
   | exact ih0 _ _ _ _
   | exact LeO.none _
   | refine LeO.ite ?_ ?_
   | refine LeO.bind ?_ (fun _ => ?_)
theorem impl_areWarnings.mono : ∀ a0 k, LeO (impl_areWarnings.f k a0) (impl_areWarnings.f (k + 1) a0) := by
 intro a0 k
 have ih0 := impl_areWarnings.mono_l k
 unfold impl_areWarnings.f
 repeat' first
   | (with_reducible exact ih0 _ _ _ _)
   | (with_reducible exact LeO.refl _)
   | (with_reducible exact LeO.none _)
   | (with_reducible refine LeO.ite ?_ ?_)
   | (with_reducible refine LeO.bind ?_ (fun _ => ?_))
   | exact ih0 _ _ _ _
   | exact LeO.none _
   | refine LeO.ite ?_ ?_
   | refine LeO.bind ?_ (fun _ => ?_)
def impl_areWarnings.T4 : Bool × List (List Nat × List Nat) := (true, [([], []), ([0], [0]), ([1], [1]), ([2, 1], [2]), ([3], [3]), ([4, 3], [3, 4]), ([5, 3, 3], [3, 5]), ([6], [6]), ([6], [6]), ([8, 6], [6, 8]), ([7, 9, 6], [6, 7, 9]), ([10, 6], [6, 10]), ([11, 6], [6, 11]), ([6], [6]), ([13, 6], [6, 13]), ([12, 14, 6], [6, 12, 14]), ([6, 15, 3], [3, 6, 15]), ([3, 16], [3, 16])])
def impl_areWarnings.B4 : List Nat := [0, 1, 3, 7, 15, 31, 63, 127, 127, 383, 1023, 2047, 4095, 127, 8319, 32767, 65535, 131071]
theorem impl_areWarnings.tab4 : rtab .any (opsOf Try.f66 4) = impl_areWarnings.T4 := by kernel_rfl
theorem impl_areWarnings.bits4 : waitsOk impl_areWarnings.T4.2 impl_areWarnings.B4 = true := by kernel_rfl
set_option maxHeartbeats 8000000 in
set_option maxRecDepth 100000 in
theorem impl_areWarnings.calls (k : Nat) (A0 : Option Addr) (c0 : Nat) (l0 : List (S31)) (r : Bool) (w : World) (hr0 : Kd.C k31 w A0 l0.length l0) (hc0 : l0.length ≤ c0) (h : impl_areWarnings.f k l0 = some r) :
  Calls Try.prog 66 #[.slice A0 l0.length c0] w fun e w' => e = .returned (.bool r) ∧ Below w.heap.size w w' := by
 have hu31 := Try.underlying31
 have HR0 := Aside0.mk hr0
 have HC0 := Aside0.mk hc0
 clear hr0 hc0
 have HB := Aside0.mk (Below.refl w.heap.size w)
 have H : (impl_areWarnings.l0 k l0 l0 (l0.length : Int) 0) = some r := h
 clear h
 have H' := Aside0.mk H
 clear H
 go_enter Try.func66, Try.ntmps66
 go_wp2
 go_loopg [7] k (fun kq v7 w' => ∃ (x7_1 : Int), v7 = .int .i64 x7_1 ∧ Aside0 (impl_areWarnings.l0 kq l0 l0 (l0.length : Int) x7_1 = some r) ∧ Aside0 (kq ≤ k) ∧ Aside0 (Below w.heap.size w w'))
 case atStart => exact ⟨(0), (by first | rfl | (simp; done) | (simp [*]; done)), H', ⟨Nat.le_refl _⟩, ⟨zq0⟩⟩
 clear H'
 obtain ⟨x7_1, rfl, HA, HK1, HB⟩ := hrel
 cases gk with
 | zero => exact absurd HA.out (by simp [impl_areWarnings.l0])
 | succ k1 =>
  have H := HA.out
  clear HA
  simp only [impl_areWarnings.l0] at H
  by_cases c2 : x7_1 < (l0.length : Int)
  case neg =>
   rw [if_neg c2] at H
   have c2b0 : decide (x7_1 < (l0.length : Int)) = false := decide_eq_false c2
   clear c2
   obtain rfl := Option.some.inj H
   go_wp2
   go_ret
   exact ⟨zqE, zq0⟩
  rw [if_pos c2] at H
  have c2b0 : decide (x7_1 < (l0.length : Int)) = true := decide_eq_true c2
  clear c2
  by_cases c3 : 0 ≤ x7_1
  case neg =>
   rw [if_neg c3] at H
   exact absurd H (by simp)
  rw [if_pos c3] at H
  have c3b0 : decide (0 ≤ x7_1) = true := decide_eq_true c3
  clear c3
  by_cases c4 : x7_1 < (l0.length : Int)
  case neg =>
   rw [if_neg c4] at H
   exact absurd H (by simp)
  rw [if_pos c4] at H
  have c4b0 : decide (x7_1 < (l0.length : Int)) = true := decide_eq_true c4
  clear c4
  replace H := Option.bind_eq_some_iff.mp H
  obtain ⟨t288, A50, H⟩ := H
  replace H : (if t288 = true then (if x7_1 > 0 then (if 0 ≤ (wrap64 (x7_1 - 1)) then (if (wrap64 (x7_1 - 1)) < (l0.length : Int) then (if ((rd_T31 l0 (wrap64 (x7_1 - 1))).f0) ≥ ((rd_T31 l0 x7_1).f0) then (some false) else (impl_areWarnings.l0 k1 l0 l0 (l0.length : Int) (wrap64 (x7_1 + 1)))) else (none)) else (none)) else (impl_areWarnings.l0 k1 l0 l0 (l0.length : Int) (wrap64 (x7_1 + 1)))) else (some false)) = some r := H
  have A5 := Aside0.mk A50
  clear A50
  by_cases c6 : t288 = true
  case neg =>
   replace c6 := Bool.eq_false_iff.mpr c6
   subst c6
   have H1 : (some false) = some r := by rw [if_neg (show ¬ (false = true) by decide)] at H; exact H
   clear H
   have H := H1
   clear H1
   obtain rfl := Option.some.inj H
   have p286 : 0 ≤ (x7_1 : Int) := of_decide_eq_true zq5
   have q286 : x7_1 < (l0.length : Int) := of_decide_eq_true zq5
   obtain ⟨ad286, e286, hx286_0, hx286_1, hx286_2, hx286_3, hx286_4, hx286_5⟩ := at_T31 HR0.out x7_1 p286 q286
   cases e286
   replace hx286_0 := bx HB.out hx286_0
   replace hx286_1 := bx HB.out hx286_1
   replace hx286_2 := bx HB.out hx286_2
   replace hx286_3 := bx HB.out hx286_3
   replace hx286_4 := bx HB.out hx286_4
   replace hx286_5 := bx HB.out hx286_5
   replace p286 := eq_true p286
   replace q286 := eq_true q286
   try go_wp2_with (first | ((with_reducible refine gate_dst (N := 4) rfl ?_); refine box_event ?hg (N := 4) ?hd (cs := #[.int .i64 0, .int .i64 0, .int .i64 0, .int .i64 0, .int .i64 0, .int .i64 0]) (t := 31) ?hr ?_; (case hd => rfl); (case hg => rfl); (case hr => exact zqS); intro gb287 hg w27 hbox hb; have n0_ := Aside0.mk (below_step zq0 hb); have n1_ := Aside0.mk (hbox); have n2_ := Aside0.mk ((by rw [hg]; exact (below_size zq0) : w.heap.size ≤ gb287)); have n3_ := n2_; clear HB; have HB := n0_; have BK287 := n1_; have GW287 := n2_; have GE287 := n3_; clear n0_ n1_ n2_ n3_; clear hb hbox hg; obtain ⟨hcz28_0, hcz28_1, hcz28_2, hcz28_3, hcz28_4, hcz28_5, hfz28_0, hfz28_1, hfz28_2, hfz28_3, hfz28_4, hfz28_5⟩ := bz6 BK287.out))
   have n0_ : Aside0 (((((((w27.setCell ⟨gb287, 0, none⟩ (.int .i64 ((rd_T31 l0 x7_1).f0))).setCell ⟨gb287, 1, none⟩ (.int .i64 ((rd_T31 l0 x7_1).f1))).setCell ⟨gb287, 2, none⟩ (.int .i64 ((rd_T31 l0 x7_1).f2))).setCell ⟨gb287, 3, none⟩ (.int .i64 ((rd_T31 l0 x7_1).f3))).setCell ⟨gb287, 4, none⟩ (.int .i64 ((rd_T31 l0 x7_1).f4))).setCell ⟨gb287, 5, none⟩ (.int .i64 ((rd_T31 l0 x7_1).f5))).heap[gb287]? = some (.cells #[.int .i64 ((rd_T31 l0 x7_1).f0), .int .i64 ((rd_T31 l0 x7_1).f1), .int .i64 ((rd_T31 l0 x7_1).f2), .int .i64 ((rd_T31 l0 x7_1).f3), .int .i64 ((rd_T31 l0 x7_1).f4), .int .i64 ((rd_T31 l0 x7_1).f5)] 31 (0, 0))) := ⟨by (with_reducible repeat (first | refine blk_drewN ?_ _ | refine blk_drew ?_ | refine blk_alloc ?_ _)); refine blk_put (cs := #[.int .i64 ((rd_T31 l0 x7_1).f0), .int .i64 ((rd_T31 l0 x7_1).f1), .int .i64 ((rd_T31 l0 x7_1).f2), .int .i64 ((rd_T31 l0 x7_1).f3), .int .i64 ((rd_T31 l0 x7_1).f4), .int .i64 0]) ?_ 5 _ rfl; (with_reducible repeat (first | refine blk_drewN ?_ _ | refine blk_drew ?_ | refine blk_alloc ?_ _)); refine blk_put (cs := #[.int .i64 ((rd_T31 l0 x7_1).f0), .int .i64 ((rd_T31 l0 x7_1).f1), .int .i64 ((rd_T31 l0 x7_1).f2), .int .i64 ((rd_T31 l0 x7_1).f3), .int .i64 0, .int .i64 0]) ?_ 4 _ rfl; (with_reducible repeat (first | refine blk_drewN ?_ _ | refine blk_drew ?_ | refine blk_alloc ?_ _)); refine blk_put (cs := #[.int .i64 ((rd_T31 l0 x7_1).f0), .int .i64 ((rd_T31 l0 x7_1).f1), .int .i64 ((rd_T31 l0 x7_1).f2), .int .i64 0, .int .i64 0, .int .i64 0]) ?_ 3 _ rfl; (with_reducible repeat (first | refine blk_drewN ?_ _ | refine blk_drew ?_ | refine blk_alloc ?_ _)); refine blk_put (cs := #[.int .i64 ((rd_T31 l0 x7_1).f0), .int .i64 ((rd_T31 l0 x7_1).f1), .int .i64 0, .int .i64 0, .int .i64 0, .int .i64 0]) ?_ 2 _ rfl; (with_reducible repeat (first | refine blk_drewN ?_ _ | refine blk_drew ?_ | refine blk_alloc ?_ _)); refine blk_put (cs := #[.int .i64 ((rd_T31 l0 x7_1).f0), .int .i64 0, .int .i64 0, .int .i64 0, .int .i64 0, .int .i64 0]) ?_ 1 _ rfl; (with_reducible repeat (first | refine blk_drewN ?_ _ | refine blk_drew ?_ | refine blk_alloc ?_ _)); refine blk_put (cs := #[.int .i64 0, .int .i64 0, .int .i64 0, .int .i64 0, .int .i64 0, .int .i64 0]) ?_ 0 _ rfl; (with_reducible repeat (first | refine blk_drewN ?_ _ | refine blk_drew ?_ | refine blk_alloc ?_ _)); exact BK287.out⟩
   have n1_ : Aside0 (Below w.heap.size w ((((((w27.setCell ⟨gb287, 0, none⟩ (.int .i64 ((rd_T31 l0 x7_1).f0))).setCell ⟨gb287, 1, none⟩ (.int .i64 ((rd_T31 l0 x7_1).f1))).setCell ⟨gb287, 2, none⟩ (.int .i64 ((rd_T31 l0 x7_1).f2))).setCell ⟨gb287, 3, none⟩ (.int .i64 ((rd_T31 l0 x7_1).f3))).setCell ⟨gb287, 4, none⟩ (.int .i64 ((rd_T31 l0 x7_1).f4))).setCell ⟨gb287, 5, none⟩ (.int .i64 ((rd_T31 l0 x7_1).f5)))) := ⟨zq20⟩
   (try clear BK287)
   (try clear HB)
   generalize ((((((w27.setCell ⟨gb287, 0, none⟩ (.int .i64 ((rd_T31 l0 x7_1).f0))).setCell ⟨gb287, 1, none⟩ (.int .i64 ((rd_T31 l0 x7_1).f1))).setCell ⟨gb287, 2, none⟩ (.int .i64 ((rd_T31 l0 x7_1).f2))).setCell ⟨gb287, 3, none⟩ (.int .i64 ((rd_T31 l0 x7_1).f3))).setCell ⟨gb287, 4, none⟩ (.int .i64 ((rd_T31 l0 x7_1).f4))).setCell ⟨gb287, 5, none⟩ (.int .i64 ((rd_T31 l0 x7_1).f5))) = w29 at n0_ n1_ ⊢
   have BK287 := n0_
   have HB := n1_
   clear n0_ n1_
   have n0_ := Aside0.mk (blk_drew BK287.out)
   have n1_ := Aside0.mk (below_drew1 HB.out)
   clear BK287
   clear HB
   have BK287 := n0_
   have HB := n1_
   clear n0_ n1_
   refine start_ (n := 18) (S := fun w' => w'.cell? ⟨gb287, 0, none⟩ = some (.int .i64 ((rd_T31 l0 x7_1).f0)) ∧ w'.cell? ⟨gb287, 1, none⟩ = some (.int .i64 ((rd_T31 l0 x7_1).f1)) ∧ w'.cell? ⟨gb287, 2, none⟩ = some (.int .i64 ((rd_T31 l0 x7_1).f2)) ∧ w'.cell? ⟨gb287, 3, none⟩ = some (.int .i64 ((rd_T31 l0 x7_1).f3)) ∧ w'.cell? ⟨gb287, 4, none⟩ = some (.int .i64 ((rd_T31 l0 x7_1).f4)) ∧ w'.cell? ⟨gb287, 5, none⟩ = some (.int .i64 ((rd_T31 l0 x7_1).f5))) (ds := []) #[false, false, false, false, false, false, false, false, false, false, false, false, false, false, false, false, false, false] (by kernel_rfl) rfl rfl (bc6 BK287.out) (fun hHeld => ?_); refine with_tabW impl_areWarnings.tab4 impl_areWarnings.bits4 (fun HT_ HW_ => ?_)
   generalize w29.drew = w30 at BK287 HB hHeld ⊢
   refine take_ (i := 0) (N := some 12) (v := ?_) (a' := ?_) #[true, false, false, false, false, false, false, false, false, false, false, false, false, false, false, false, false, false] rfl rfl (take_ofW HT_.out HW_.out (by kernel_rfl)) (fun _ _ _ h => h) (Or.inl ⟨by rfl, ?_⟩) hHeld ?_ ?_
   rotate_left
   ·
    rintro w' ⟨s0, s1, s2, s3, s4, s5⟩
    go_simp
    with_reducible rfl
   rotate_left; · exact zqA
   refine one_ (i := 1) (N := some 13) #[true, true, false, false, false, false, false, false, false, false, false, false, false, false, false, false, false, false] rfl rfl (one_of HT_.out (by kernel_rfl)) (by decide) (fun K hK => ?_)
   refine goes_ Try.func39 (by kernel_rfl) rfl #[.agg #[.int .i64 ((rd_T31 l0 x7_1).f0), .int .i64 ((rd_T31 l0 x7_1).f1), .int .i64 ((rd_T31 l0 x7_1).f2), .int .i64 ((rd_T31 l0 x7_1).f3), .int .i64 ((rd_T31 l0 x7_1).f4), .int .i64 ((rd_T31 l0 x7_1).f5)]] (by rfl) rfl rfl zq1 ?_
   with_reducible refine (impl_IsValidWarning.calls ((rd_T31 l0 x7_1).f0) ((rd_T31 l0 x7_1).f1) ((rd_T31 l0 x7_1).f2) ((rd_T31 l0 x7_1).f3) ((rd_T31 l0 x7_1).f4) ((rd_T31 l0 x7_1).f5) false _ A5.out).mono ?_
   rintro e w31 ⟨rfl, hb⟩
   refine ⟨_, rfl, ?_⟩
   have n0_ := Aside0.mk (blk_below (g := gb287) (o := .cells #[.int .i64 ((rd_T31 l0 x7_1).f0), .int .i64 ((rd_T31 l0 x7_1).f1), .int .i64 ((rd_T31 l0 x7_1).f2), .int .i64 ((rd_T31 l0 x7_1).f3), .int .i64 ((rd_T31 l0 x7_1).f4), .int .i64 ((rd_T31 l0 x7_1).f5)] 31 (0, 0)) (zqK BK287.out) hb)
   have n1_ := Aside0.mk (below_step zq20 hb)
   clear BK287
   clear HB
   have BK287 := n0_
   have HB := n1_
   clear n0_ n1_
   (try clear hb)
   (try clear hb2)
   (try clear hk)
   (try clear hi)
   refine hK.out _ _ (bc6 BK287.out) (fun hHeld => ?_)
   clear hK K
   refine norm_ (a' := ?_) ?_ ?_
   rotate_left
   ·
    show Act.put _ (some 13) _ = _
    simp only [Act.put, List.setIfInBounds_toArray, List.set_cons_zero, List.set_cons_succ, i64_w, i32_w]
    rfl
   refine pure_ (i := 2) (N := some 14) (v := ?_) (a' := ?_) #[true, true, true, false, false, false, false, false, false, false, false, false, false, false, false, false, false, false] rfl rfl (any_of HT_.out (by kernel_rfl)) (fun _ _ _ h => h) (Or.inl ⟨by rfl, ?_⟩) ?_ ?_
   rotate_left; · exact zqB
   rotate_left; · exact zqA
   refine pure_ (i := 3) (N := some 15) (v := ?_) (a' := ?_) #[true, true, true, true, false, false, false, false, false, false, false, false, false, false, false, false, false, false] rfl rfl (any_of HT_.out (by kernel_rfl)) (fun _ _ _ h => h) (Or.inl ⟨by rfl, ?_⟩) ?_ ?_
   rotate_left; · exact zqB
   rotate_left; · exact zqA
   refine pure_ (i := 4) (N := some 16) (v := undef) (a' := ?_) #[true, true, true, true, true, false, false, false, false, false, false, false, false, false, false, false, false, false] rfl rfl (any_of HT_.out (by kernel_rfl)) (fun _ _ _ h => h) (Or.inr ⟨by rfl, rfl⟩) ?_ ?_
   rotate_left; · exact zqA
   refine pure_ (i := 5) (N := some 17) (v := undef) (a' := ?_) #[true, true, true, true, true, true, false, false, false, false, false, false, false, false, false, false, false, false] rfl rfl (any_of HT_.out (by kernel_rfl)) (fun _ _ _ h => h) (Or.inr ⟨by rfl, rfl⟩) ?_ ?_
   rotate_left; · exact zqA
   refine pure_ (i := 6) (N := some 18) (v := undef) (a' := ?_) #[true, true, true, true, true, true, true, false, false, false, false, false, false, false, false, false, false, false] rfl rfl (any_of HT_.out (by kernel_rfl)) (fun _ _ _ h => h) (Or.inr ⟨by rfl, rfl⟩) ?_ ?_
   rotate_left; · exact zqA
   refine pure_ (i := 7) (N := some 19) (v := undef) (a' := ?_) #[true, true, true, true, true, true, true, true, false, false, false, false, false, false, false, false, false, false] rfl rfl (any_of HT_.out (by kernel_rfl)) (fun _ _ _ h => h) (Or.inr ⟨by rfl, rfl⟩) ?_ ?_
   rotate_left; · exact zqA
   refine pure_ (i := 8) (N := some 20) (v := undef) (a' := ?_) #[true, true, true, true, true, true, true, true, true, false, false, false, false, false, false, false, false, false] rfl rfl (any_of HT_.out (by kernel_rfl)) (fun _ _ _ h => h) (Or.inr ⟨by rfl, rfl⟩) ?_ ?_
   rotate_left; · exact zqA
   refine pure_ (i := 9) (N := some 21) (v := undef) (a' := ?_) #[true, true, true, true, true, true, true, true, true, true, false, false, false, false, false, false, false, false] rfl rfl (any_of HT_.out (by kernel_rfl)) (fun _ _ _ h => h) (Or.inr ⟨by rfl, rfl⟩) ?_ ?_
   rotate_left; · exact zqA
   refine pure_ (i := 10) (N := some 22) (v := undef) (a' := ?_) #[true, true, true, true, true, true, true, true, true, true, true, false, false, false, false, false, false, false] rfl rfl (any_of HT_.out (by kernel_rfl)) (fun _ _ _ h => h) (Or.inr ⟨by rfl, rfl⟩) ?_ ?_
   rotate_left; · exact zqA
   refine pure_ (i := 11) (N := some 23) (v := undef) (a' := ?_) #[true, true, true, true, true, true, true, true, true, true, true, true, false, false, false, false, false, false] rfl rfl (any_of HT_.out (by kernel_rfl)) (fun _ _ _ h => h) (Or.inr ⟨by rfl, rfl⟩) ?_ ?_
   rotate_left; · exact zqA
   refine pure_ (i := 12) (N := some 24) (v := undef) (a' := ?_) #[true, true, true, true, true, true, true, true, true, true, true, true, true, false, false, false, false, false] rfl rfl (any_of HT_.out (by kernel_rfl)) (fun _ _ _ h => h) (Or.inr ⟨by rfl, rfl⟩) ?_ ?_
   rotate_left; · exact zqA
   refine pure_ (i := 13) (N := some 25) (v := undef) (a' := ?_) #[true, true, true, true, true, true, true, true, true, true, true, true, true, true, false, false, false, false] rfl rfl (any_of HT_.out (by kernel_rfl)) (fun _ _ _ h => h) (Or.inr ⟨by rfl, rfl⟩) ?_ ?_
   rotate_left; · exact zqA
   refine pure_ (i := 14) (N := some 26) (v := undef) (a' := ?_) #[true, true, true, true, true, true, true, true, true, true, true, true, true, true, true, false, false, false] rfl rfl (any_of HT_.out (by kernel_rfl)) (fun _ _ _ h => h) (Or.inr ⟨by rfl, rfl⟩) ?_ ?_
   rotate_left; · exact zqA
   refine pure_ (i := 15) (N := some 27) (v := undef) (a' := ?_) #[true, true, true, true, true, true, true, true, true, true, true, true, true, true, true, true, false, false] rfl rfl (any_of HT_.out (by kernel_rfl)) (fun _ _ _ h => h) (Or.inr ⟨by rfl, rfl⟩) ?_ ?_
   rotate_left; · exact zqA
   refine pure_ (i := 16) (N := some 28) (v := undef) (a' := ?_) #[true, true, true, true, true, true, true, true, true, true, true, true, true, true, true, true, true, false] rfl rfl (any_of HT_.out (by kernel_rfl)) (fun _ _ _ h => h) (Or.inr ⟨by rfl, rfl⟩) ?_ ?_
   rotate_left; · exact zqA
   refine pure_ (i := 17) (N := some 29) (v := ?_) (a' := ?_) #[true, true, true, true, true, true, true, true, true, true, true, true, true, true, true, true, true, true] rfl rfl (any_of HT_.out (by kernel_rfl)) (fun _ _ _ h => h) (Or.inl ⟨by rfl, ?_⟩) ?_ ?_
   rotate_left; · exact zqB
   rotate_left; · exact zqA
   refine done_ (done_of HT_.out (by kernel_rfl)) ?_
   try go_wp2
   go_ret
   exact ⟨zqE, zq20⟩
  subst c6
  have H1 : (if x7_1 > 0 then (if 0 ≤ (wrap64 (x7_1 - 1)) then (if (wrap64 (x7_1 - 1)) < (l0.length : Int) then (if ((rd_T31 l0 (wrap64 (x7_1 - 1))).f0) ≥ ((rd_T31 l0 x7_1).f0) then (some false) else (impl_areWarnings.l0 k1 l0 l0 (l0.length : Int) (wrap64 (x7_1 + 1)))) else (none)) else (none)) else (impl_areWarnings.l0 k1 l0 l0 (l0.length : Int) (wrap64 (x7_1 + 1)))) = some r := by rw [if_pos rfl] at H; exact H
  clear H
  have H := H1
  clear H1
  by_cases c7 : x7_1 > 0
  case neg =>
   rw [if_neg c7] at H
   have c7b0 : decide (0 < x7_1) = false := decide_eq_false c7
   clear c7
   have H' := Aside0.mk H
   clear H
   have p286 : 0 ≤ (x7_1 : Int) := of_decide_eq_true zq5
   have q286 : x7_1 < (l0.length : Int) := of_decide_eq_true zq5
   obtain ⟨ad286, e286, hx286_0, hx286_1, hx286_2, hx286_3, hx286_4, hx286_5⟩ := at_T31 HR0.out x7_1 p286 q286
   cases e286
   replace hx286_0 := bx HB.out hx286_0
   replace hx286_1 := bx HB.out hx286_1
   replace hx286_2 := bx HB.out hx286_2
   replace hx286_3 := bx HB.out hx286_3
   replace hx286_4 := bx HB.out hx286_4
   replace hx286_5 := bx HB.out hx286_5
   replace p286 := eq_true p286
   replace q286 := eq_true q286
   try go_wp2_with (first | ((with_reducible refine gate_dst (N := 4) rfl ?_); refine box_event ?hg (N := 4) ?hd (cs := #[.int .i64 0, .int .i64 0, .int .i64 0, .int .i64 0, .int .i64 0, .int .i64 0]) (t := 31) ?hr ?_; (case hd => rfl); (case hg => rfl); (case hr => exact zqS); intro gb287 hg w22 hbox hb; have n0_ := Aside0.mk (below_step zq0 hb); have n1_ := Aside0.mk (hbox); have n2_ := Aside0.mk ((by rw [hg]; exact (below_size zq0) : w.heap.size ≤ gb287)); have n3_ := n2_; clear HB; have HB := n0_; have BK287 := n1_; have GW287 := n2_; have GE287 := n3_; clear n0_ n1_ n2_ n3_; clear hb hbox hg; obtain ⟨hcz23_0, hcz23_1, hcz23_2, hcz23_3, hcz23_4, hcz23_5, hfz23_0, hfz23_1, hfz23_2, hfz23_3, hfz23_4, hfz23_5⟩ := bz6 BK287.out))
   have n0_ : Aside0 (((((((w22.setCell ⟨gb287, 0, none⟩ (.int .i64 ((rd_T31 l0 x7_1).f0))).setCell ⟨gb287, 1, none⟩ (.int .i64 ((rd_T31 l0 x7_1).f1))).setCell ⟨gb287, 2, none⟩ (.int .i64 ((rd_T31 l0 x7_1).f2))).setCell ⟨gb287, 3, none⟩ (.int .i64 ((rd_T31 l0 x7_1).f3))).setCell ⟨gb287, 4, none⟩ (.int .i64 ((rd_T31 l0 x7_1).f4))).setCell ⟨gb287, 5, none⟩ (.int .i64 ((rd_T31 l0 x7_1).f5))).heap[gb287]? = some (.cells #[.int .i64 ((rd_T31 l0 x7_1).f0), .int .i64 ((rd_T31 l0 x7_1).f1), .int .i64 ((rd_T31 l0 x7_1).f2), .int .i64 ((rd_T31 l0 x7_1).f3), .int .i64 ((rd_T31 l0 x7_1).f4), .int .i64 ((rd_T31 l0 x7_1).f5)] 31 (0, 0))) := ⟨by (with_reducible repeat (first | refine blk_drewN ?_ _ | refine blk_drew ?_ | refine blk_alloc ?_ _)); refine blk_put (cs := #[.int .i64 ((rd_T31 l0 x7_1).f0), .int .i64 ((rd_T31 l0 x7_1).f1), .int .i64 ((rd_T31 l0 x7_1).f2), .int .i64 ((rd_T31 l0 x7_1).f3), .int .i64 ((rd_T31 l0 x7_1).f4), .int .i64 0]) ?_ 5 _ rfl; (with_reducible repeat (first | refine blk_drewN ?_ _ | refine blk_drew ?_ | refine blk_alloc ?_ _)); refine blk_put (cs := #[.int .i64 ((rd_T31 l0 x7_1).f0), .int .i64 ((rd_T31 l0 x7_1).f1), .int .i64 ((rd_T31 l0 x7_1).f2), .int .i64 ((rd_T31 l0 x7_1).f3), .int .i64 0, .int .i64 0]) ?_ 4 _ rfl; (with_reducible repeat (first | refine blk_drewN ?_ _ | refine blk_drew ?_ | refine blk_alloc ?_ _)); refine blk_put (cs := #[.int .i64 ((rd_T31 l0 x7_1).f0), .int .i64 ((rd_T31 l0 x7_1).f1), .int .i64 ((rd_T31 l0 x7_1).f2), .int .i64 0, .int .i64 0, .int .i64 0]) ?_ 3 _ rfl; (with_reducible repeat (first | refine blk_drewN ?_ _ | refine blk_drew ?_ | refine blk_alloc ?_ _)); refine blk_put (cs := #[.int .i64 ((rd_T31 l0 x7_1).f0), .int .i64 ((rd_T31 l0 x7_1).f1), .int .i64 0, .int .i64 0, .int .i64 0, .int .i64 0]) ?_ 2 _ rfl; (with_reducible repeat (first | refine blk_drewN ?_ _ | refine blk_drew ?_ | refine blk_alloc ?_ _)); refine blk_put (cs := #[.int .i64 ((rd_T31 l0 x7_1).f0), .int .i64 0, .int .i64 0, .int .i64 0, .int .i64 0, .int .i64 0]) ?_ 1 _ rfl; (with_reducible repeat (first | refine blk_drewN ?_ _ | refine blk_drew ?_ | refine blk_alloc ?_ _)); refine blk_put (cs := #[.int .i64 0, .int .i64 0, .int .i64 0, .int .i64 0, .int .i64 0, .int .i64 0]) ?_ 0 _ rfl; (with_reducible repeat (first | refine blk_drewN ?_ _ | refine blk_drew ?_ | refine blk_alloc ?_ _)); exact BK287.out⟩
   have n1_ : Aside0 (Below w.heap.size w ((((((w22.setCell ⟨gb287, 0, none⟩ (.int .i64 ((rd_T31 l0 x7_1).f0))).setCell ⟨gb287, 1, none⟩ (.int .i64 ((rd_T31 l0 x7_1).f1))).setCell ⟨gb287, 2, none⟩ (.int .i64 ((rd_T31 l0 x7_1).f2))).setCell ⟨gb287, 3, none⟩ (.int .i64 ((rd_T31 l0 x7_1).f3))).setCell ⟨gb287, 4, none⟩ (.int .i64 ((rd_T31 l0 x7_1).f4))).setCell ⟨gb287, 5, none⟩ (.int .i64 ((rd_T31 l0 x7_1).f5)))) := ⟨zq20⟩
   (try clear BK287)
   (try clear HB)
   generalize ((((((w22.setCell ⟨gb287, 0, none⟩ (.int .i64 ((rd_T31 l0 x7_1).f0))).setCell ⟨gb287, 1, none⟩ (.int .i64 ((rd_T31 l0 x7_1).f1))).setCell ⟨gb287, 2, none⟩ (.int .i64 ((rd_T31 l0 x7_1).f2))).setCell ⟨gb287, 3, none⟩ (.int .i64 ((rd_T31 l0 x7_1).f3))).setCell ⟨gb287, 4, none⟩ (.int .i64 ((rd_T31 l0 x7_1).f4))).setCell ⟨gb287, 5, none⟩ (.int .i64 ((rd_T31 l0 x7_1).f5))) = w24 at n0_ n1_ ⊢
   have BK287 := n0_
   have HB := n1_
   clear n0_ n1_
   have n0_ := Aside0.mk (blk_drew BK287.out)
   have n1_ := Aside0.mk (below_drew1 HB.out)
   clear BK287
   clear HB
   have BK287 := n0_
   have HB := n1_
   clear n0_ n1_
   refine start_ (n := 18) (S := fun w' => w'.cell? ⟨gb287, 0, none⟩ = some (.int .i64 ((rd_T31 l0 x7_1).f0)) ∧ w'.cell? ⟨gb287, 1, none⟩ = some (.int .i64 ((rd_T31 l0 x7_1).f1)) ∧ w'.cell? ⟨gb287, 2, none⟩ = some (.int .i64 ((rd_T31 l0 x7_1).f2)) ∧ w'.cell? ⟨gb287, 3, none⟩ = some (.int .i64 ((rd_T31 l0 x7_1).f3)) ∧ w'.cell? ⟨gb287, 4, none⟩ = some (.int .i64 ((rd_T31 l0 x7_1).f4)) ∧ w'.cell? ⟨gb287, 5, none⟩ = some (.int .i64 ((rd_T31 l0 x7_1).f5))) (ds := []) #[false, false, false, false, false, false, false, false, false, false, false, false, false, false, false, false, false, false] (by kernel_rfl) rfl rfl (bc6 BK287.out) (fun hHeld => ?_); refine with_tabW impl_areWarnings.tab4 impl_areWarnings.bits4 (fun HT_ HW_ => ?_)
   generalize w24.drew = w25 at BK287 HB hHeld ⊢
   refine take_ (i := 0) (N := some 12) (v := ?_) (a' := ?_) #[true, false, false, false, false, false, false, false, false, false, false, false, false, false, false, false, false, false] rfl rfl (take_ofW HT_.out HW_.out (by kernel_rfl)) (fun _ _ _ h => h) (Or.inl ⟨by rfl, ?_⟩) hHeld ?_ ?_
   rotate_left
   ·
    rintro w' ⟨s0, s1, s2, s3, s4, s5⟩
    go_simp
    with_reducible rfl
   rotate_left; · exact zqA
   refine one_ (i := 1) (N := some 13) #[true, true, false, false, false, false, false, false, false, false, false, false, false, false, false, false, false, false] rfl rfl (one_of HT_.out (by kernel_rfl)) (by decide) (fun K hK => ?_)
   refine goes_ Try.func39 (by kernel_rfl) rfl #[.agg #[.int .i64 ((rd_T31 l0 x7_1).f0), .int .i64 ((rd_T31 l0 x7_1).f1), .int .i64 ((rd_T31 l0 x7_1).f2), .int .i64 ((rd_T31 l0 x7_1).f3), .int .i64 ((rd_T31 l0 x7_1).f4), .int .i64 ((rd_T31 l0 x7_1).f5)]] (by rfl) rfl rfl zq1 ?_
   with_reducible refine (impl_IsValidWarning.calls ((rd_T31 l0 x7_1).f0) ((rd_T31 l0 x7_1).f1) ((rd_T31 l0 x7_1).f2) ((rd_T31 l0 x7_1).f3) ((rd_T31 l0 x7_1).f4) ((rd_T31 l0 x7_1).f5) true _ A5.out).mono ?_
   rintro e w26 ⟨rfl, hb⟩
   refine ⟨_, rfl, ?_⟩
   have n0_ := Aside0.mk (blk_below (g := gb287) (o := .cells #[.int .i64 ((rd_T31 l0 x7_1).f0), .int .i64 ((rd_T31 l0 x7_1).f1), .int .i64 ((rd_T31 l0 x7_1).f2), .int .i64 ((rd_T31 l0 x7_1).f3), .int .i64 ((rd_T31 l0 x7_1).f4), .int .i64 ((rd_T31 l0 x7_1).f5)] 31 (0, 0)) (zqK BK287.out) hb)
   have n1_ := Aside0.mk (below_step zq20 hb)
   clear BK287
   clear HB
   have BK287 := n0_
   have HB := n1_
   clear n0_ n1_
   (try clear hb)
   (try clear hb2)
   (try clear hk)
   (try clear hi)
   refine hK.out _ _ (bc6 BK287.out) (fun hHeld => ?_)
   clear hK K
   refine norm_ (a' := ?_) ?_ ?_
   rotate_left
   ·
    show Act.put _ (some 13) _ = _
    simp only [Act.put, List.setIfInBounds_toArray, List.set_cons_zero, List.set_cons_succ, i64_w, i32_w]
    rfl
   refine pure_ (i := 2) (N := some 14) (v := ?_) (a' := ?_) #[true, true, true, false, false, false, false, false, false, false, false, false, false, false, false, false, false, false] rfl rfl (any_of HT_.out (by kernel_rfl)) (fun _ _ _ h => h) (Or.inl ⟨by rfl, ?_⟩) ?_ ?_
   rotate_left; · exact zqB
   rotate_left; · exact zqA
   refine pure_ (i := 3) (N := some 15) (v := ?_) (a' := ?_) #[true, true, true, true, false, false, false, false, false, false, false, false, false, false, false, false, false, false] rfl rfl (any_of HT_.out (by kernel_rfl)) (fun _ _ _ h => h) (Or.inl ⟨by rfl, ?_⟩) ?_ ?_
   rotate_left; · exact zqB
   rotate_left; · exact zqA
   refine pure_ (i := 4) (N := some 16) (v := ?_) (a' := ?_) #[true, true, true, true, true, false, false, false, false, false, false, false, false, false, false, false, false, false] rfl rfl (any_of HT_.out (by kernel_rfl)) (fun _ _ _ h => h) (Or.inl ⟨by rfl, ?_⟩) ?_ ?_
   rotate_left; · exact zqB
   rotate_left; · exact zqA
   refine pure_ (i := 5) (N := some 17) (v := ?_) (a' := ?_) #[true, true, true, true, true, true, false, false, false, false, false, false, false, false, false, false, false, false] rfl rfl (any_of HT_.out (by kernel_rfl)) (fun _ _ _ h => h) (Or.inl ⟨by rfl, ?_⟩) ?_ ?_
   rotate_left; · exact zqB
   rotate_left; · exact zqA
   refine pure_ (i := 6) (N := some 18) (v := ?_) (a' := ?_) #[true, true, true, true, true, true, true, false, false, false, false, false, false, false, false, false, false, false] rfl rfl (any_of HT_.out (by kernel_rfl)) (fun _ _ _ h => h) (Or.inl ⟨by rfl, ?_⟩) ?_ ?_
   rotate_left; · exact zqB
   rotate_left; · exact zqA
   refine pure_ (i := 7) (N := some 19) (v := undef) (a' := ?_) #[true, true, true, true, true, true, true, true, false, false, false, false, false, false, false, false, false, false] rfl rfl (any_of HT_.out (by kernel_rfl)) (fun _ _ _ h => h) (Or.inr ⟨by rfl, rfl⟩) ?_ ?_
   rotate_left; · exact zqA
   refine pure_ (i := 8) (N := some 20) (v := undef) (a' := ?_) #[true, true, true, true, true, true, true, true, true, false, false, false, false, false, false, false, false, false] rfl rfl (any_of HT_.out (by kernel_rfl)) (fun _ _ _ h => h) (Or.inr ⟨by rfl, rfl⟩) ?_ ?_
   rotate_left; · exact zqA
   refine pure_ (i := 9) (N := some 21) (v := undef) (a' := ?_) #[true, true, true, true, true, true, true, true, true, true, false, false, false, false, false, false, false, false] rfl rfl (any_of HT_.out (by kernel_rfl)) (fun _ _ _ h => h) (Or.inr ⟨by rfl, rfl⟩) ?_ ?_
   rotate_left; · exact zqA
   refine pure_ (i := 10) (N := some 22) (v := undef) (a' := ?_) #[true, true, true, true, true, true, true, true, true, true, true, false, false, false, false, false, false, false] rfl rfl (any_of HT_.out (by kernel_rfl)) (fun _ _ _ h => h) (Or.inr ⟨by rfl, rfl⟩) ?_ ?_
   rotate_left; · exact zqA
   refine pure_ (i := 11) (N := some 23) (v := undef) (a' := ?_) #[true, true, true, true, true, true, true, true, true, true, true, true, false, false, false, false, false, false] rfl rfl (any_of HT_.out (by kernel_rfl)) (fun _ _ _ h => h) (Or.inr ⟨by rfl, rfl⟩) ?_ ?_
   rotate_left; · exact zqA
   refine pure_ (i := 12) (N := some 24) (v := undef) (a' := ?_) #[true, true, true, true, true, true, true, true, true, true, true, true, true, false, false, false, false, false] rfl rfl (any_of HT_.out (by kernel_rfl)) (fun _ _ _ h => h) (Or.inr ⟨by rfl, rfl⟩) ?_ ?_
   rotate_left; · exact zqA
   refine pure_ (i := 13) (N := some 25) (v := undef) (a' := ?_) #[true, true, true, true, true, true, true, true, true, true, true, true, true, true, false, false, false, false] rfl rfl (any_of HT_.out (by kernel_rfl)) (fun _ _ _ h => h) (Or.inr ⟨by rfl, rfl⟩) ?_ ?_
   rotate_left; · exact zqA
   refine pure_ (i := 14) (N := some 26) (v := undef) (a' := ?_) #[true, true, true, true, true, true, true, true, true, true, true, true, true, true, true, false, false, false] rfl rfl (any_of HT_.out (by kernel_rfl)) (fun _ _ _ h => h) (Or.inr ⟨by rfl, rfl⟩) ?_ ?_
   rotate_left; · exact zqA
   refine pure_ (i := 15) (N := some 27) (v := undef) (a' := ?_) #[true, true, true, true, true, true, true, true, true, true, true, true, true, true, true, true, false, false] rfl rfl (any_of HT_.out (by kernel_rfl)) (fun _ _ _ h => h) (Or.inr ⟨by rfl, rfl⟩) ?_ ?_
   rotate_left; · exact zqA
   refine pure_ (i := 16) (N := some 28) (v := ?_) (a' := ?_) #[true, true, true, true, true, true, true, true, true, true, true, true, true, true, true, true, true, false] rfl rfl (any_of HT_.out (by kernel_rfl)) (fun _ _ _ h => h) (Or.inl ⟨by rfl, ?_⟩) ?_ ?_
   rotate_left; · exact zqB
   rotate_left; · exact zqA
   refine pure_ (i := 17) (N := some 29) (v := ?_) (a' := ?_) #[true, true, true, true, true, true, true, true, true, true, true, true, true, true, true, true, true, true] rfl rfl (any_of HT_.out (by kernel_rfl)) (fun _ _ _ h => h) (Or.inl ⟨by rfl, ?_⟩) ?_ ?_
   rotate_left; · exact zqB
   rotate_left; · exact zqA
   refine done_ (done_of HT_.out (by kernel_rfl)) ?_
   try go_wp2
   go_roundg k1
   case measure => have := HK1.out; omega
   case rel => exact ⟨(wrap64 (x7_1 + 1)), (by first | rfl | (simp; done) | (simp [*]; done)), H', ⟨by have := HK1.out; omega⟩, ⟨zq20⟩⟩
  rw [if_pos c7] at H
  have c7b0 : decide (0 < x7_1) = true := decide_eq_true c7
  clear c7
  obtain ⟨ji8, hji8⟩ : ∃ j_ : Int, (wrap64 (x7_1 - 1)) = j_ := ⟨_, rfl⟩
  replace H : (if 0 ≤ (ji8) then (if (ji8) < (l0.length : Int) then (if ((rd_T31 l0 (ji8)).f0) ≥ ((rd_T31 l0 x7_1).f0) then (some false) else (impl_areWarnings.l0 k1 l0 l0 (l0.length : Int) (wrap64 (x7_1 + 1)))) else (none)) else (none)) = some r := by first | (rw [hji8] at H; exact H) | (simp only [hji8] at H ⊢; exact H)
  (try rw [hji8] at A5)
  have hji8w : (IntKind.i64.wrap (x7_1 - 1)) = ji8 := (i64_w _).trans hji8
  by_cases c9 : 0 ≤ (ji8)
  case neg =>
   rw [if_neg c9] at H
   exact absurd H (by simp)
  rw [if_pos c9] at H
  have c9b0 : decide (0 ≤ (ji8)) = true := decide_eq_true c9
  clear c9
  by_cases c10 : (ji8) < (l0.length : Int)
  case neg =>
   rw [if_neg c10] at H
   exact absurd H (by simp)
  rw [if_pos c10] at H
  have c10b0 : decide ((ji8) < (l0.length : Int)) = true := decide_eq_true c10
  clear c10
  by_cases c11 : ((rd_T31 l0 (ji8)).f0) ≥ ((rd_T31 l0 x7_1).f0)
  case pos =>
   rw [if_pos c11] at H
   have c11b0 : decide (((rd_T31 l0 x7_1).f0) ≤ ((rd_T31 l0 (ji8)).f0)) = true := decide_eq_true c11
   clear c11
   obtain rfl := Option.some.inj H
   have p286 : 0 ≤ (x7_1 : Int) := of_decide_eq_true zq5
   have q286 : x7_1 < (l0.length : Int) := of_decide_eq_true zq5
   obtain ⟨ad286, e286, hx286_0, hx286_1, hx286_2, hx286_3, hx286_4, hx286_5⟩ := at_T31 HR0.out x7_1 p286 q286
   cases e286
   replace hx286_0 := bx HB.out hx286_0
   replace hx286_1 := bx HB.out hx286_1
   replace hx286_2 := bx HB.out hx286_2
   replace hx286_3 := bx HB.out hx286_3
   replace hx286_4 := bx HB.out hx286_4
   replace hx286_5 := bx HB.out hx286_5
   replace p286 := eq_true p286
   replace q286 := eq_true q286
   try go_wp2_with (first | ((with_reducible refine gate_dst (N := 4) rfl ?_); refine box_event ?hg (N := 4) ?hd (cs := #[.int .i64 0, .int .i64 0, .int .i64 0, .int .i64 0, .int .i64 0, .int .i64 0]) (t := 31) ?hr ?_; (case hd => rfl); (case hg => rfl); (case hr => exact zqS); intro gb287 hg w12 hbox hb; have n0_ := Aside0.mk (below_step zq0 hb); have n1_ := Aside0.mk (hbox); have n2_ := Aside0.mk ((by rw [hg]; exact (below_size zq0) : w.heap.size ≤ gb287)); have n3_ := n2_; clear HB; have HB := n0_; have BK287 := n1_; have GW287 := n2_; have GE287 := n3_; clear n0_ n1_ n2_ n3_; clear hb hbox hg; obtain ⟨hcz13_0, hcz13_1, hcz13_2, hcz13_3, hcz13_4, hcz13_5, hfz13_0, hfz13_1, hfz13_2, hfz13_3, hfz13_4, hfz13_5⟩ := bz6 BK287.out))
   have n0_ : Aside0 (((((((w12.setCell ⟨gb287, 0, none⟩ (.int .i64 ((rd_T31 l0 x7_1).f0))).setCell ⟨gb287, 1, none⟩ (.int .i64 ((rd_T31 l0 x7_1).f1))).setCell ⟨gb287, 2, none⟩ (.int .i64 ((rd_T31 l0 x7_1).f2))).setCell ⟨gb287, 3, none⟩ (.int .i64 ((rd_T31 l0 x7_1).f3))).setCell ⟨gb287, 4, none⟩ (.int .i64 ((rd_T31 l0 x7_1).f4))).setCell ⟨gb287, 5, none⟩ (.int .i64 ((rd_T31 l0 x7_1).f5))).heap[gb287]? = some (.cells #[.int .i64 ((rd_T31 l0 x7_1).f0), .int .i64 ((rd_T31 l0 x7_1).f1), .int .i64 ((rd_T31 l0 x7_1).f2), .int .i64 ((rd_T31 l0 x7_1).f3), .int .i64 ((rd_T31 l0 x7_1).f4), .int .i64 ((rd_T31 l0 x7_1).f5)] 31 (0, 0))) := ⟨by (with_reducible repeat (first | refine blk_drewN ?_ _ | refine blk_drew ?_ | refine blk_alloc ?_ _)); refine blk_put (cs := #[.int .i64 ((rd_T31 l0 x7_1).f0), .int .i64 ((rd_T31 l0 x7_1).f1), .int .i64 ((rd_T31 l0 x7_1).f2), .int .i64 ((rd_T31 l0 x7_1).f3), .int .i64 ((rd_T31 l0 x7_1).f4), .int .i64 0]) ?_ 5 _ rfl; (with_reducible repeat (first | refine blk_drewN ?_ _ | refine blk_drew ?_ | refine blk_alloc ?_ _)); refine blk_put (cs := #[.int .i64 ((rd_T31 l0 x7_1).f0), .int .i64 ((rd_T31 l0 x7_1).f1), .int .i64 ((rd_T31 l0 x7_1).f2), .int .i64 ((rd_T31 l0 x7_1).f3), .int .i64 0, .int .i64 0]) ?_ 4 _ rfl; (with_reducible repeat (first | refine blk_drewN ?_ _ | refine blk_drew ?_ | refine blk_alloc ?_ _)); refine blk_put (cs := #[.int .i64 ((rd_T31 l0 x7_1).f0), .int .i64 ((rd_T31 l0 x7_1).f1), .int .i64 ((rd_T31 l0 x7_1).f2), .int .i64 0, .int .i64 0, .int .i64 0]) ?_ 3 _ rfl; (with_reducible repeat (first | refine blk_drewN ?_ _ | refine blk_drew ?_ | refine blk_alloc ?_ _)); refine blk_put (cs := #[.int .i64 ((rd_T31 l0 x7_1).f0), .int .i64 ((rd_T31 l0 x7_1).f1), .int .i64 0, .int .i64 0, .int .i64 0, .int .i64 0]) ?_ 2 _ rfl; (with_reducible repeat (first | refine blk_drewN ?_ _ | refine blk_drew ?_ | refine blk_alloc ?_ _)); refine blk_put (cs := #[.int .i64 ((rd_T31 l0 x7_1).f0), .int .i64 0, .int .i64 0, .int .i64 0, .int .i64 0, .int .i64 0]) ?_ 1 _ rfl; (with_reducible repeat (first | refine blk_drewN ?_ _ | refine blk_drew ?_ | refine blk_alloc ?_ _)); refine blk_put (cs := #[.int .i64 0, .int .i64 0, .int .i64 0, .int .i64 0, .int .i64 0, .int .i64 0]) ?_ 0 _ rfl; (with_reducible repeat (first | refine blk_drewN ?_ _ | refine blk_drew ?_ | refine blk_alloc ?_ _)); exact BK287.out⟩
   have n1_ : Aside0 (Below w.heap.size w ((((((w12.setCell ⟨gb287, 0, none⟩ (.int .i64 ((rd_T31 l0 x7_1).f0))).setCell ⟨gb287, 1, none⟩ (.int .i64 ((rd_T31 l0 x7_1).f1))).setCell ⟨gb287, 2, none⟩ (.int .i64 ((rd_T31 l0 x7_1).f2))).setCell ⟨gb287, 3, none⟩ (.int .i64 ((rd_T31 l0 x7_1).f3))).setCell ⟨gb287, 4, none⟩ (.int .i64 ((rd_T31 l0 x7_1).f4))).setCell ⟨gb287, 5, none⟩ (.int .i64 ((rd_T31 l0 x7_1).f5)))) := ⟨zq20⟩
   (try clear BK287)
   (try clear HB)
   generalize ((((((w12.setCell ⟨gb287, 0, none⟩ (.int .i64 ((rd_T31 l0 x7_1).f0))).setCell ⟨gb287, 1, none⟩ (.int .i64 ((rd_T31 l0 x7_1).f1))).setCell ⟨gb287, 2, none⟩ (.int .i64 ((rd_T31 l0 x7_1).f2))).setCell ⟨gb287, 3, none⟩ (.int .i64 ((rd_T31 l0 x7_1).f3))).setCell ⟨gb287, 4, none⟩ (.int .i64 ((rd_T31 l0 x7_1).f4))).setCell ⟨gb287, 5, none⟩ (.int .i64 ((rd_T31 l0 x7_1).f5))) = w14 at n0_ n1_ ⊢
   have BK287 := n0_
   have HB := n1_
   clear n0_ n1_
   have n0_ := Aside0.mk (blk_drew BK287.out)
   have n1_ := Aside0.mk (below_drew1 HB.out)
   clear BK287
   clear HB
   have BK287 := n0_
   have HB := n1_
   clear n0_ n1_
   have p289 : 0 ≤ ((ji8) : Int) := of_decide_eq_true zq5
   have q289 : (ji8) < (l0.length : Int) := of_decide_eq_true zq5
   obtain ⟨ad289, e289, hx289_0, hx289_1, hx289_2, hx289_3, hx289_4, hx289_5⟩ := at_T31 HR0.out (ji8) p289 q289
   have hw289_5 := hx289_5
   have hw289_4 := hx289_4
   have hw289_3 := hx289_3
   have hw289_2 := hx289_2
   have hw289_1 := hx289_1
   have hw289_0 := hx289_0
   obtain rfl : ad286 = ad289 := (by injection e289)
   replace hx289_0 := bx HB.out hx289_0
   replace hx289_1 := bx HB.out hx289_1
   replace hx289_2 := bx HB.out hx289_2
   replace hx289_3 := bx HB.out hx289_3
   replace hx289_4 := bx HB.out hx289_4
   replace hx289_5 := bx HB.out hx289_5
   replace p289 := eq_true p289
   replace q289 := eq_true q289
   refine start_ (n := 18) (S := fun w' => w'.cell? ⟨gb287, 0, none⟩ = some (.int .i64 ((rd_T31 l0 x7_1).f0)) ∧ w'.cell? ⟨gb287, 1, none⟩ = some (.int .i64 ((rd_T31 l0 x7_1).f1)) ∧ w'.cell? ⟨gb287, 2, none⟩ = some (.int .i64 ((rd_T31 l0 x7_1).f2)) ∧ w'.cell? ⟨gb287, 3, none⟩ = some (.int .i64 ((rd_T31 l0 x7_1).f3)) ∧ w'.cell? ⟨gb287, 4, none⟩ = some (.int .i64 ((rd_T31 l0 x7_1).f4)) ∧ w'.cell? ⟨gb287, 5, none⟩ = some (.int .i64 ((rd_T31 l0 x7_1).f5)) ∧ w'.cell? (ad286.add (((ji8)).toNat * 6)) = some (.int .i64 ((rd_T31 l0 (ji8)).f0)) ∧ w'.cell? ⟨(ad286.add (((ji8)).toNat * 6)).block, (ad286.add (((ji8)).toNat * 6)).off + 1, none⟩ = some (.int .i64 ((rd_T31 l0 (ji8)).f1)) ∧ w'.cell? ⟨(ad286.add (((ji8)).toNat * 6)).block, (ad286.add (((ji8)).toNat * 6)).off + 2, none⟩ = some (.int .i64 ((rd_T31 l0 (ji8)).f2)) ∧ w'.cell? ⟨(ad286.add (((ji8)).toNat * 6)).block, (ad286.add (((ji8)).toNat * 6)).off + 3, none⟩ = some (.int .i64 ((rd_T31 l0 (ji8)).f3)) ∧ w'.cell? ⟨(ad286.add (((ji8)).toNat * 6)).block, (ad286.add (((ji8)).toNat * 6)).off + 4, none⟩ = some (.int .i64 ((rd_T31 l0 (ji8)).f4)) ∧ w'.cell? ⟨(ad286.add (((ji8)).toNat * 6)).block, (ad286.add (((ji8)).toNat * 6)).off + 5, none⟩ = some (.int .i64 ((rd_T31 l0 (ji8)).f5))) (ds := []) #[false, false, false, false, false, false, false, false, false, false, false, false, false, false, false, false, false, false] (by kernel_rfl) rfl rfl ⟨(blk_cell BK287.out 0).trans rfl, (blk_cell BK287.out 1).trans rfl, (blk_cell BK287.out 2).trans rfl, (blk_cell BK287.out 3).trans rfl, (blk_cell BK287.out 4).trans rfl, (blk_cell BK287.out 5).trans rfl, ((HB.out.cell (World.block_lt_of_cell? w _ hw289_0)).trans hw289_0), ((HB.out.cell (World.block_lt_of_cell? w _ hw289_1)).trans hw289_1), ((HB.out.cell (World.block_lt_of_cell? w _ hw289_2)).trans hw289_2), ((HB.out.cell (World.block_lt_of_cell? w _ hw289_3)).trans hw289_3), ((HB.out.cell (World.block_lt_of_cell? w _ hw289_4)).trans hw289_4), ((HB.out.cell (World.block_lt_of_cell? w _ hw289_5)).trans hw289_5)⟩ (fun hHeld => ?_); refine with_tabW impl_areWarnings.tab4 impl_areWarnings.bits4 (fun HT_ HW_ => ?_)
   generalize w14.drew = w15 at BK287 HB hx289_0 hx289_1 hx289_2 hx289_3 hx289_4 hx289_5 hHeld ⊢
   refine take_ (i := 0) (N := some 12) (v := ?_) (a' := ?_) #[true, false, false, false, false, false, false, false, false, false, false, false, false, false, false, false, false, false] rfl rfl (take_ofW HT_.out HW_.out (by kernel_rfl)) (fun _ _ _ h => h) (Or.inl ⟨by rfl, ?_⟩) hHeld ?_ ?_
   rotate_left
   ·
    rintro w' ⟨s0, s1, s2, s3, s4, s5, s6, s7, s8, s9, s10, s11⟩
    go_simp
    with_reducible rfl
   rotate_left; · exact zqA
   refine one_ (i := 1) (N := some 13) #[true, true, false, false, false, false, false, false, false, false, false, false, false, false, false, false, false, false] rfl rfl (one_of HT_.out (by kernel_rfl)) (by decide) (fun K hK => ?_)
   refine goes_ Try.func39 (by kernel_rfl) rfl #[.agg #[.int .i64 ((rd_T31 l0 x7_1).f0), .int .i64 ((rd_T31 l0 x7_1).f1), .int .i64 ((rd_T31 l0 x7_1).f2), .int .i64 ((rd_T31 l0 x7_1).f3), .int .i64 ((rd_T31 l0 x7_1).f4), .int .i64 ((rd_T31 l0 x7_1).f5)]] (by rfl) rfl rfl zq1 ?_
   with_reducible refine (impl_IsValidWarning.calls ((rd_T31 l0 x7_1).f0) ((rd_T31 l0 x7_1).f1) ((rd_T31 l0 x7_1).f2) ((rd_T31 l0 x7_1).f3) ((rd_T31 l0 x7_1).f4) ((rd_T31 l0 x7_1).f5) true _ A5.out).mono ?_
   rintro e w16 ⟨rfl, hb⟩
   refine ⟨_, rfl, ?_⟩
   have n0_ := Aside0.mk (blk_below (g := gb287) (o := .cells #[.int .i64 ((rd_T31 l0 x7_1).f0), .int .i64 ((rd_T31 l0 x7_1).f1), .int .i64 ((rd_T31 l0 x7_1).f2), .int .i64 ((rd_T31 l0 x7_1).f3), .int .i64 ((rd_T31 l0 x7_1).f4), .int .i64 ((rd_T31 l0 x7_1).f5)] 31 (0, 0)) (zqK BK287.out) hb)
   have n1_ := Aside0.mk (below_step zq20 hb)
   clear BK287
   clear HB
   have BK287 := n0_
   have HB := n1_
   clear n0_ n1_
   (try clear hb)
   (try clear hb2)
   (try clear hk)
   (try clear hi)
   refine hK.out _ _ ⟨(blk_cell BK287.out 0).trans rfl, (blk_cell BK287.out 1).trans rfl, (blk_cell BK287.out 2).trans rfl, (blk_cell BK287.out 3).trans rfl, (blk_cell BK287.out 4).trans rfl, (blk_cell BK287.out 5).trans rfl, ((HB.out.cell (World.block_lt_of_cell? w _ hw289_0)).trans hw289_0), ((HB.out.cell (World.block_lt_of_cell? w _ hw289_1)).trans hw289_1), ((HB.out.cell (World.block_lt_of_cell? w _ hw289_2)).trans hw289_2), ((HB.out.cell (World.block_lt_of_cell? w _ hw289_3)).trans hw289_3), ((HB.out.cell (World.block_lt_of_cell? w _ hw289_4)).trans hw289_4), ((HB.out.cell (World.block_lt_of_cell? w _ hw289_5)).trans hw289_5)⟩ (fun hHeld => ?_)
   clear hK K
   refine norm_ (a' := ?_) ?_ ?_
   rotate_left
   ·
    show Act.put _ (some 13) _ = _
    simp only [Act.put, List.setIfInBounds_toArray, List.set_cons_zero, List.set_cons_succ, i64_w, i32_w]
    rfl
   refine pure_ (i := 2) (N := some 14) (v := ?_) (a' := ?_) #[true, true, true, false, false, false, false, false, false, false, false, false, false, false, false, false, false, false] rfl rfl (any_of HT_.out (by kernel_rfl)) (fun _ _ _ h => h) (Or.inl ⟨by rfl, ?_⟩) ?_ ?_
   rotate_left; · exact zqB
   rotate_left; · exact zqA
   refine pure_ (i := 3) (N := some 15) (v := ?_) (a' := ?_) #[true, true, true, true, false, false, false, false, false, false, false, false, false, false, false, false, false, false] rfl rfl (any_of HT_.out (by kernel_rfl)) (fun _ _ _ h => h) (Or.inl ⟨by rfl, ?_⟩) ?_ ?_
   rotate_left; · exact zqB
   rotate_left; · exact zqA
   refine pure_ (i := 4) (N := some 16) (v := ?_) (a' := ?_) #[true, true, true, true, true, false, false, false, false, false, false, false, false, false, false, false, false, false] rfl rfl (any_of HT_.out (by kernel_rfl)) (fun _ _ _ h => h) (Or.inl ⟨by rfl, ?_⟩) ?_ ?_
   rotate_left; · exact zqB
   rotate_left; · exact zqA
   refine pure_ (i := 5) (N := some 17) (v := ?_) (a' := ?_) #[true, true, true, true, true, true, false, false, false, false, false, false, false, false, false, false, false, false] rfl rfl (any_of HT_.out (by kernel_rfl)) (fun _ _ _ h => h) (Or.inl ⟨by rfl, ?_⟩) ?_ ?_
   rotate_left; · exact zqB
   rotate_left; · exact zqA
   refine pure_ (i := 6) (N := some 18) (v := ?_) (a' := ?_) #[true, true, true, true, true, true, true, false, false, false, false, false, false, false, false, false, false, false] rfl rfl (any_of HT_.out (by kernel_rfl)) (fun _ _ _ h => h) (Or.inl ⟨by rfl, ?_⟩) ?_ ?_
   rotate_left; · exact zqB
   rotate_left; · exact zqA
   refine pure_ (i := 7) (N := some 19) (v := ?_) (a' := ?_) #[true, true, true, true, true, true, true, true, false, false, false, false, false, false, false, false, false, false] rfl rfl (any_of HT_.out (by kernel_rfl)) (fun _ _ _ h => h) (Or.inl ⟨by rfl, ?_⟩) ?_ ?_
   rotate_left; · exact zqB
   rotate_left; · exact zqA
   refine pure_ (i := 8) (N := some 20) (v := ?_) (a' := ?_) #[true, true, true, true, true, true, true, true, true, false, false, false, false, false, false, false, false, false] rfl rfl (any_of HT_.out (by kernel_rfl)) (fun _ _ _ h => h) (Or.inl ⟨by rfl, ?_⟩) ?_ ?_
   rotate_left; · exact zqB
   rotate_left; · exact zqA
   refine pure_ (i := 9) (N := some 21) (v := ?_) (a' := ?_) #[true, true, true, true, true, true, true, true, true, true, false, false, false, false, false, false, false, false] rfl rfl (any_of HT_.out (by kernel_rfl)) (fun _ _ _ h => h) (Or.inl ⟨by rfl, ?_⟩) ?_ ?_
   rotate_left; · exact zqB
   rotate_left; · exact zqA
   refine pure_ (i := 10) (N := some 22) (v := ?_) (a' := ?_) #[true, true, true, true, true, true, true, true, true, true, true, false, false, false, false, false, false, false] rfl rfl (any_of HT_.out (by kernel_rfl)) (fun _ _ _ h => h) (Or.inl ⟨by rfl, ?_⟩) ?_ ?_
   rotate_left; · exact zqB
   rotate_left; · exact zqA
   refine pure_ (i := 11) (N := some 23) (v := ?_) (a' := ?_) #[true, true, true, true, true, true, true, true, true, true, true, true, false, false, false, false, false, false] rfl rfl (any_of HT_.out (by kernel_rfl)) (fun _ _ _ h => h) (Or.inl ⟨by rfl, ?_⟩) ?_ ?_
   rotate_left; · exact zqB
   rotate_left; · exact zqA
   refine pure_ (i := 13) (N := some 25) (v := ?_) (a' := ?_) #[true, true, true, true, true, true, true, true, true, true, true, true, false, true, false, false, false, false] rfl rfl (any_of HT_.out (by kernel_rfl)) (fun _ _ _ h => h) (Or.inl ⟨by rfl, ?_⟩) ?_ ?_
   rotate_left; · exact zqB
   rotate_left; · exact zqA
   refine take_ (i := 12) (N := some 24) (v := ?_) (a' := ?_) #[true, true, true, true, true, true, true, true, true, true, true, true, true, true, false, false, false, false] rfl rfl (take_ofW HT_.out HW_.out (by kernel_rfl)) (fun _ _ _ h => h) (Or.inl ⟨by rfl, ?_⟩) hHeld ?_ ?_
   rotate_left
   ·
    rintro w' ⟨s0, s1, s2, s3, s4, s5, s6, s7, s8, s9, s10, s11⟩
    go_simp
    with_reducible rfl
   rotate_left; · exact zqA
   refine take_ (i := 14) (N := some 26) (v := ?_) (a' := ?_) #[true, true, true, true, true, true, true, true, true, true, true, true, true, true, true, false, false, false] rfl rfl (take_ofW HT_.out HW_.out (by kernel_rfl)) (fun _ _ _ h => h) (Or.inl ⟨by rfl, ?_⟩) hHeld ?_ ?_
   rotate_left
   ·
    rintro w' ⟨s0, s1, s2, s3, s4, s5, s6, s7, s8, s9, s10, s11⟩
    go_simp
    with_reducible rfl
   rotate_left; · exact zqA
   refine pure_ (i := 15) (N := some 27) (v := ?_) (a' := ?_) #[true, true, true, true, true, true, true, true, true, true, true, true, true, true, true, true, false, false] rfl rfl (any_of HT_.out (by kernel_rfl)) (fun _ _ _ h => h) (Or.inl ⟨by rfl, ?_⟩) ?_ ?_
   rotate_left; · exact zqB
   rotate_left; · exact zqA
   refine pure_ (i := 16) (N := some 28) (v := ?_) (a' := ?_) #[true, true, true, true, true, true, true, true, true, true, true, true, true, true, true, true, true, false] rfl rfl (any_of HT_.out (by kernel_rfl)) (fun _ _ _ h => h) (Or.inl ⟨by rfl, ?_⟩) ?_ ?_
   rotate_left; · exact zqB
   rotate_left; · exact zqA
   refine pure_ (i := 17) (N := some 29) (v := ?_) (a' := ?_) #[true, true, true, true, true, true, true, true, true, true, true, true, true, true, true, true, true, true] rfl rfl (any_of HT_.out (by kernel_rfl)) (fun _ _ _ h => h) (Or.inl ⟨by rfl, ?_⟩) ?_ ?_
   rotate_left; · exact zqB
   rotate_left; · exact zqA
   refine done_ (done_of HT_.out (by kernel_rfl)) ?_
   try go_wp2
   go_ret
   exact ⟨by first | rfl | (simp [errW_none, errW_some] <;> rfl) | (simp only [← hji8]; first | rfl | (simp [errW_none, errW_some] <;> rfl)) | (simp [*, errW_none, errW_some] <;> rfl), zq20⟩
  rw [if_neg c11] at H
  have c11b0 : decide (((rd_T31 l0 x7_1).f0) ≤ ((rd_T31 l0 (ji8)).f0)) = false := decide_eq_false c11
  clear c11
  have H' := Aside0.mk H
  clear H
  have p286 : 0 ≤ (x7_1 : Int) := of_decide_eq_true zq5
  have q286 : x7_1 < (l0.length : Int) := of_decide_eq_true zq5
  obtain ⟨ad286, e286, hx286_0, hx286_1, hx286_2, hx286_3, hx286_4, hx286_5⟩ := at_T31 HR0.out x7_1 p286 q286
  cases e286
  replace hx286_0 := bx HB.out hx286_0
  replace hx286_1 := bx HB.out hx286_1
  replace hx286_2 := bx HB.out hx286_2
  replace hx286_3 := bx HB.out hx286_3
  replace hx286_4 := bx HB.out hx286_4
  replace hx286_5 := bx HB.out hx286_5
  replace p286 := eq_true p286
  replace q286 := eq_true q286
  try go_wp2_with (first | ((with_reducible refine gate_dst (N := 4) rfl ?_); refine box_event ?hg (N := 4) ?hd (cs := #[.int .i64 0, .int .i64 0, .int .i64 0, .int .i64 0, .int .i64 0, .int .i64 0]) (t := 31) ?hr ?_; (case hd => rfl); (case hg => rfl); (case hr => exact zqS); intro gb287 hg w17 hbox hb; have n0_ := Aside0.mk (below_step zq0 hb); have n1_ := Aside0.mk (hbox); have n2_ := Aside0.mk ((by rw [hg]; exact (below_size zq0) : w.heap.size ≤ gb287)); have n3_ := n2_; clear HB; have HB := n0_; have BK287 := n1_; have GW287 := n2_; have GE287 := n3_; clear n0_ n1_ n2_ n3_; clear hb hbox hg; obtain ⟨hcz18_0, hcz18_1, hcz18_2, hcz18_3, hcz18_4, hcz18_5, hfz18_0, hfz18_1, hfz18_2, hfz18_3, hfz18_4, hfz18_5⟩ := bz6 BK287.out))
  have n0_ : Aside0 (((((((w17.setCell ⟨gb287, 0, none⟩ (.int .i64 ((rd_T31 l0 x7_1).f0))).setCell ⟨gb287, 1, none⟩ (.int .i64 ((rd_T31 l0 x7_1).f1))).setCell ⟨gb287, 2, none⟩ (.int .i64 ((rd_T31 l0 x7_1).f2))).setCell ⟨gb287, 3, none⟩ (.int .i64 ((rd_T31 l0 x7_1).f3))).setCell ⟨gb287, 4, none⟩ (.int .i64 ((rd_T31 l0 x7_1).f4))).setCell ⟨gb287, 5, none⟩ (.int .i64 ((rd_T31 l0 x7_1).f5))).heap[gb287]? = some (.cells #[.int .i64 ((rd_T31 l0 x7_1).f0), .int .i64 ((rd_T31 l0 x7_1).f1), .int .i64 ((rd_T31 l0 x7_1).f2), .int .i64 ((rd_T31 l0 x7_1).f3), .int .i64 ((rd_T31 l0 x7_1).f4), .int .i64 ((rd_T31 l0 x7_1).f5)] 31 (0, 0))) := ⟨by (with_reducible repeat (first | refine blk_drewN ?_ _ | refine blk_drew ?_ | refine blk_alloc ?_ _)); refine blk_put (cs := #[.int .i64 ((rd_T31 l0 x7_1).f0), .int .i64 ((rd_T31 l0 x7_1).f1), .int .i64 ((rd_T31 l0 x7_1).f2), .int .i64 ((rd_T31 l0 x7_1).f3), .int .i64 ((rd_T31 l0 x7_1).f4), .int .i64 0]) ?_ 5 _ rfl; (with_reducible repeat (first | refine blk_drewN ?_ _ | refine blk_drew ?_ | refine blk_alloc ?_ _)); refine blk_put (cs := #[.int .i64 ((rd_T31 l0 x7_1).f0), .int .i64 ((rd_T31 l0 x7_1).f1), .int .i64 ((rd_T31 l0 x7_1).f2), .int .i64 ((rd_T31 l0 x7_1).f3), .int .i64 0, .int .i64 0]) ?_ 4 _ rfl; (with_reducible repeat (first | refine blk_drewN ?_ _ | refine blk_drew ?_ | refine blk_alloc ?_ _)); refine blk_put (cs := #[.int .i64 ((rd_T31 l0 x7_1).f0), .int .i64 ((rd_T31 l0 x7_1).f1), .int .i64 ((rd_T31 l0 x7_1).f2), .int .i64 0, .int .i64 0, .int .i64 0]) ?_ 3 _ rfl; (with_reducible repeat (first | refine blk_drewN ?_ _ | refine blk_drew ?_ | refine blk_alloc ?_ _)); refine blk_put (cs := #[.int .i64 ((rd_T31 l0 x7_1).f0), .int .i64 ((rd_T31 l0 x7_1).f1), .int .i64 0, .int .i64 0, .int .i64 0, .int .i64 0]) ?_ 2 _ rfl; (with_reducible repeat (first | refine blk_drewN ?_ _ | refine blk_drew ?_ | refine blk_alloc ?_ _)); refine blk_put (cs := #[.int .i64 ((rd_T31 l0 x7_1).f0), .int .i64 0, .int .i64 0, .int .i64 0, .int .i64 0, .int .i64 0]) ?_ 1 _ rfl; (with_reducible repeat (first | refine blk_drewN ?_ _ | refine blk_drew ?_ | refine blk_alloc ?_ _)); refine blk_put (cs := #[.int .i64 0, .int .i64 0, .int .i64 0, .int .i64 0, .int .i64 0, .int .i64 0]) ?_ 0 _ rfl; (with_reducible repeat (first | refine blk_drewN ?_ _ | refine blk_drew ?_ | refine blk_alloc ?_ _)); exact BK287.out⟩
  have n1_ : Aside0 (Below w.heap.size w ((((((w17.setCell ⟨gb287, 0, none⟩ (.int .i64 ((rd_T31 l0 x7_1).f0))).setCell ⟨gb287, 1, none⟩ (.int .i64 ((rd_T31 l0 x7_1).f1))).setCell ⟨gb287, 2, none⟩ (.int .i64 ((rd_T31 l0 x7_1).f2))).setCell ⟨gb287, 3, none⟩ (.int .i64 ((rd_T31 l0 x7_1).f3))).setCell ⟨gb287, 4, none⟩ (.int .i64 ((rd_T31 l0 x7_1).f4))).setCell ⟨gb287, 5, none⟩ (.int .i64 ((rd_T31 l0 x7_1).f5)))) := ⟨zq20⟩
  (try clear BK287)
  (try clear HB)
  generalize ((((((w17.setCell ⟨gb287, 0, none⟩ (.int .i64 ((rd_T31 l0 x7_1).f0))).setCell ⟨gb287, 1, none⟩ (.int .i64 ((rd_T31 l0 x7_1).f1))).setCell ⟨gb287, 2, none⟩ (.int .i64 ((rd_T31 l0 x7_1).f2))).setCell ⟨gb287, 3, none⟩ (.int .i64 ((rd_T31 l0 x7_1).f3))).setCell ⟨gb287, 4, none⟩ (.int .i64 ((rd_T31 l0 x7_1).f4))).setCell ⟨gb287, 5, none⟩ (.int .i64 ((rd_T31 l0 x7_1).f5))) = w19 at n0_ n1_ ⊢
  have BK287 := n0_
  have HB := n1_
  clear n0_ n1_
  have n0_ := Aside0.mk (blk_drew BK287.out)
  have n1_ := Aside0.mk (below_drew1 HB.out)
  clear BK287
  clear HB
  have BK287 := n0_
  have HB := n1_
  clear n0_ n1_
  have p289 : 0 ≤ ((ji8) : Int) := of_decide_eq_true zq5
  have q289 : (ji8) < (l0.length : Int) := of_decide_eq_true zq5
  obtain ⟨ad289, e289, hx289_0, hx289_1, hx289_2, hx289_3, hx289_4, hx289_5⟩ := at_T31 HR0.out (ji8) p289 q289
  have hw289_5 := hx289_5
  have hw289_4 := hx289_4
  have hw289_3 := hx289_3
  have hw289_2 := hx289_2
  have hw289_1 := hx289_1
  have hw289_0 := hx289_0
  obtain rfl : ad286 = ad289 := (by injection e289)
  replace hx289_0 := bx HB.out hx289_0
  replace hx289_1 := bx HB.out hx289_1
  replace hx289_2 := bx HB.out hx289_2
  replace hx289_3 := bx HB.out hx289_3
  replace hx289_4 := bx HB.out hx289_4
  replace hx289_5 := bx HB.out hx289_5
  replace p289 := eq_true p289
  replace q289 := eq_true q289
  refine start_ (n := 18) (S := fun w' => w'.cell? ⟨gb287, 0, none⟩ = some (.int .i64 ((rd_T31 l0 x7_1).f0)) ∧ w'.cell? ⟨gb287, 1, none⟩ = some (.int .i64 ((rd_T31 l0 x7_1).f1)) ∧ w'.cell? ⟨gb287, 2, none⟩ = some (.int .i64 ((rd_T31 l0 x7_1).f2)) ∧ w'.cell? ⟨gb287, 3, none⟩ = some (.int .i64 ((rd_T31 l0 x7_1).f3)) ∧ w'.cell? ⟨gb287, 4, none⟩ = some (.int .i64 ((rd_T31 l0 x7_1).f4)) ∧ w'.cell? ⟨gb287, 5, none⟩ = some (.int .i64 ((rd_T31 l0 x7_1).f5)) ∧ w'.cell? (ad286.add (((ji8)).toNat * 6)) = some (.int .i64 ((rd_T31 l0 (ji8)).f0)) ∧ w'.cell? ⟨(ad286.add (((ji8)).toNat * 6)).block, (ad286.add (((ji8)).toNat * 6)).off + 1, none⟩ = some (.int .i64 ((rd_T31 l0 (ji8)).f1)) ∧ w'.cell? ⟨(ad286.add (((ji8)).toNat * 6)).block, (ad286.add (((ji8)).toNat * 6)).off + 2, none⟩ = some (.int .i64 ((rd_T31 l0 (ji8)).f2)) ∧ w'.cell? ⟨(ad286.add (((ji8)).toNat * 6)).block, (ad286.add (((ji8)).toNat * 6)).off + 3, none⟩ = some (.int .i64 ((rd_T31 l0 (ji8)).f3)) ∧ w'.cell? ⟨(ad286.add (((ji8)).toNat * 6)).block, (ad286.add (((ji8)).toNat * 6)).off + 4, none⟩ = some (.int .i64 ((rd_T31 l0 (ji8)).f4)) ∧ w'.cell? ⟨(ad286.add (((ji8)).toNat * 6)).block, (ad286.add (((ji8)).toNat * 6)).off + 5, none⟩ = some (.int .i64 ((rd_T31 l0 (ji8)).f5))) (ds := []) #[false, false, false, false, false, false, false, false, false, false, false, false, false, false, false, false, false, false] (by kernel_rfl) rfl rfl ⟨(blk_cell BK287.out 0).trans rfl, (blk_cell BK287.out 1).trans rfl, (blk_cell BK287.out 2).trans rfl, (blk_cell BK287.out 3).trans rfl, (blk_cell BK287.out 4).trans rfl, (blk_cell BK287.out 5).trans rfl, ((HB.out.cell (World.block_lt_of_cell? w _ hw289_0)).trans hw289_0), ((HB.out.cell (World.block_lt_of_cell? w _ hw289_1)).trans hw289_1), ((HB.out.cell (World.block_lt_of_cell? w _ hw289_2)).trans hw289_2), ((HB.out.cell (World.block_lt_of_cell? w _ hw289_3)).trans hw289_3), ((HB.out.cell (World.block_lt_of_cell? w _ hw289_4)).trans hw289_4), ((HB.out.cell (World.block_lt_of_cell? w _ hw289_5)).trans hw289_5)⟩ (fun hHeld => ?_); refine with_tabW impl_areWarnings.tab4 impl_areWarnings.bits4 (fun HT_ HW_ => ?_)
  generalize w19.drew = w20 at BK287 HB hx289_0 hx289_1 hx289_2 hx289_3 hx289_4 hx289_5 hHeld ⊢
  refine take_ (i := 0) (N := some 12) (v := ?_) (a' := ?_) #[true, false, false, false, false, false, false, false, false, false, false, false, false, false, false, false, false, false] rfl rfl (take_ofW HT_.out HW_.out (by kernel_rfl)) (fun _ _ _ h => h) (Or.inl ⟨by rfl, ?_⟩) hHeld ?_ ?_
  rotate_left
  ·
   rintro w' ⟨s0, s1, s2, s3, s4, s5, s6, s7, s8, s9, s10, s11⟩
   go_simp
   with_reducible rfl
  rotate_left; · exact zqA
  refine one_ (i := 1) (N := some 13) #[true, true, false, false, false, false, false, false, false, false, false, false, false, false, false, false, false, false] rfl rfl (one_of HT_.out (by kernel_rfl)) (by decide) (fun K hK => ?_)
  refine goes_ Try.func39 (by kernel_rfl) rfl #[.agg #[.int .i64 ((rd_T31 l0 x7_1).f0), .int .i64 ((rd_T31 l0 x7_1).f1), .int .i64 ((rd_T31 l0 x7_1).f2), .int .i64 ((rd_T31 l0 x7_1).f3), .int .i64 ((rd_T31 l0 x7_1).f4), .int .i64 ((rd_T31 l0 x7_1).f5)]] (by rfl) rfl rfl zq1 ?_
  with_reducible refine (impl_IsValidWarning.calls ((rd_T31 l0 x7_1).f0) ((rd_T31 l0 x7_1).f1) ((rd_T31 l0 x7_1).f2) ((rd_T31 l0 x7_1).f3) ((rd_T31 l0 x7_1).f4) ((rd_T31 l0 x7_1).f5) true _ A5.out).mono ?_
  rintro e w21 ⟨rfl, hb⟩
  refine ⟨_, rfl, ?_⟩
  have n0_ := Aside0.mk (blk_below (g := gb287) (o := .cells #[.int .i64 ((rd_T31 l0 x7_1).f0), .int .i64 ((rd_T31 l0 x7_1).f1), .int .i64 ((rd_T31 l0 x7_1).f2), .int .i64 ((rd_T31 l0 x7_1).f3), .int .i64 ((rd_T31 l0 x7_1).f4), .int .i64 ((rd_T31 l0 x7_1).f5)] 31 (0, 0)) (zqK BK287.out) hb)
  have n1_ := Aside0.mk (below_step zq20 hb)
  clear BK287
  clear HB
  have BK287 := n0_
  have HB := n1_
  clear n0_ n1_
  (try clear hb)
  (try clear hb2)
  (try clear hk)
  (try clear hi)
  refine hK.out _ _ ⟨(blk_cell BK287.out 0).trans rfl, (blk_cell BK287.out 1).trans rfl, (blk_cell BK287.out 2).trans rfl, (blk_cell BK287.out 3).trans rfl, (blk_cell BK287.out 4).trans rfl, (blk_cell BK287.out 5).trans rfl, ((HB.out.cell (World.block_lt_of_cell? w _ hw289_0)).trans hw289_0), ((HB.out.cell (World.block_lt_of_cell? w _ hw289_1)).trans hw289_1), ((HB.out.cell (World.block_lt_of_cell? w _ hw289_2)).trans hw289_2), ((HB.out.cell (World.block_lt_of_cell? w _ hw289_3)).trans hw289_3), ((HB.out.cell (World.block_lt_of_cell? w _ hw289_4)).trans hw289_4), ((HB.out.cell (World.block_lt_of_cell? w _ hw289_5)).trans hw289_5)⟩ (fun hHeld => ?_)
  clear hK K
  refine norm_ (a' := ?_) ?_ ?_
  rotate_left
  ·
   show Act.put _ (some 13) _ = _
   simp only [Act.put, List.setIfInBounds_toArray, List.set_cons_zero, List.set_cons_succ, i64_w, i32_w]
   rfl
  refine pure_ (i := 2) (N := some 14) (v := ?_) (a' := ?_) #[true, true, true, false, false, false, false, false, false, false, false, false, false, false, false, false, false, false] rfl rfl (any_of HT_.out (by kernel_rfl)) (fun _ _ _ h => h) (Or.inl ⟨by rfl, ?_⟩) ?_ ?_
  rotate_left; · exact zqB
  rotate_left; · exact zqA
  refine pure_ (i := 3) (N := some 15) (v := ?_) (a' := ?_) #[true, true, true, true, false, false, false, false, false, false, false, false, false, false, false, false, false, false] rfl rfl (any_of HT_.out (by kernel_rfl)) (fun _ _ _ h => h) (Or.inl ⟨by rfl, ?_⟩) ?_ ?_
  rotate_left; · exact zqB
  rotate_left; · exact zqA
  refine pure_ (i := 4) (N := some 16) (v := ?_) (a' := ?_) #[true, true, true, true, true, false, false, false, false, false, false, false, false, false, false, false, false, false] rfl rfl (any_of HT_.out (by kernel_rfl)) (fun _ _ _ h => h) (Or.inl ⟨by rfl, ?_⟩) ?_ ?_
  rotate_left; · exact zqB
  rotate_left; · exact zqA
  refine pure_ (i := 5) (N := some 17) (v := ?_) (a' := ?_) #[true, true, true, true, true, true, false, false, false, false, false, false, false, false, false, false, false, false] rfl rfl (any_of HT_.out (by kernel_rfl)) (fun _ _ _ h => h) (Or.inl ⟨by rfl, ?_⟩) ?_ ?_
  rotate_left; · exact zqB
  rotate_left; · exact zqA
  refine pure_ (i := 6) (N := some 18) (v := ?_) (a' := ?_) #[true, true, true, true, true, true, true, false, false, false, false, false, false, false, false, false, false, false] rfl rfl (any_of HT_.out (by kernel_rfl)) (fun _ _ _ h => h) (Or.inl ⟨by rfl, ?_⟩) ?_ ?_
  rotate_left; · exact zqB
  rotate_left; · exact zqA
  refine pure_ (i := 7) (N := some 19) (v := ?_) (a' := ?_) #[true, true, true, true, true, true, true, true, false, false, false, false, false, false, false, false, false, false] rfl rfl (any_of HT_.out (by kernel_rfl)) (fun _ _ _ h => h) (Or.inl ⟨by rfl, ?_⟩) ?_ ?_
  rotate_left; · exact zqB
  rotate_left; · exact zqA
  refine pure_ (i := 8) (N := some 20) (v := ?_) (a' := ?_) #[true, true, true, true, true, true, true, true, true, false, false, false, false, false, false, false, false, false] rfl rfl (any_of HT_.out (by kernel_rfl)) (fun _ _ _ h => h) (Or.inl ⟨by rfl, ?_⟩) ?_ ?_
  rotate_left; · exact zqB
  rotate_left; · exact zqA
  refine pure_ (i := 9) (N := some 21) (v := ?_) (a' := ?_) #[true, true, true, true, true, true, true, true, true, true, false, false, false, false, false, false, false, false] rfl rfl (any_of HT_.out (by kernel_rfl)) (fun _ _ _ h => h) (Or.inl ⟨by rfl, ?_⟩) ?_ ?_
  rotate_left; · exact zqB
  rotate_left; · exact zqA
  refine pure_ (i := 10) (N := some 22) (v := ?_) (a' := ?_) #[true, true, true, true, true, true, true, true, true, true, true, false, false, false, false, false, false, false] rfl rfl (any_of HT_.out (by kernel_rfl)) (fun _ _ _ h => h) (Or.inl ⟨by rfl, ?_⟩) ?_ ?_
  rotate_left; · exact zqB
  rotate_left; · exact zqA
  refine pure_ (i := 11) (N := some 23) (v := ?_) (a' := ?_) #[true, true, true, true, true, true, true, true, true, true, true, true, false, false, false, false, false, false] rfl rfl (any_of HT_.out (by kernel_rfl)) (fun _ _ _ h => h) (Or.inl ⟨by rfl, ?_⟩) ?_ ?_
  rotate_left; · exact zqB
  rotate_left; · exact zqA
  refine pure_ (i := 13) (N := some 25) (v := ?_) (a' := ?_) #[true, true, true, true, true, true, true, true, true, true, true, true, false, true, false, false, false, false] rfl rfl (any_of HT_.out (by kernel_rfl)) (fun _ _ _ h => h) (Or.inl ⟨by rfl, ?_⟩) ?_ ?_
  rotate_left; · exact zqB
  rotate_left; · exact zqA
  refine take_ (i := 12) (N := some 24) (v := ?_) (a' := ?_) #[true, true, true, true, true, true, true, true, true, true, true, true, true, true, false, false, false, false] rfl rfl (take_ofW HT_.out HW_.out (by kernel_rfl)) (fun _ _ _ h => h) (Or.inl ⟨by rfl, ?_⟩) hHeld ?_ ?_
  rotate_left
  ·
   rintro w' ⟨s0, s1, s2, s3, s4, s5, s6, s7, s8, s9, s10, s11⟩
   go_simp
   with_reducible rfl
  rotate_left; · exact zqA
  refine take_ (i := 14) (N := some 26) (v := ?_) (a' := ?_) #[true, true, true, true, true, true, true, true, true, true, true, true, true, true, true, false, false, false] rfl rfl (take_ofW HT_.out HW_.out (by kernel_rfl)) (fun _ _ _ h => h) (Or.inl ⟨by rfl, ?_⟩) hHeld ?_ ?_
  rotate_left
  ·
   rintro w' ⟨s0, s1, s2, s3, s4, s5, s6, s7, s8, s9, s10, s11⟩
   go_simp
   with_reducible rfl
  rotate_left; · exact zqA
  refine pure_ (i := 15) (N := some 27) (v := ?_) (a' := ?_) #[true, true, true, true, true, true, true, true, true, true, true, true, true, true, true, true, false, false] rfl rfl (any_of HT_.out (by kernel_rfl)) (fun _ _ _ h => h) (Or.inl ⟨by rfl, ?_⟩) ?_ ?_
  rotate_left; · exact zqB
  rotate_left; · exact zqA
  refine pure_ (i := 16) (N := some 28) (v := ?_) (a' := ?_) #[true, true, true, true, true, true, true, true, true, true, true, true, true, true, true, true, true, false] rfl rfl (any_of HT_.out (by kernel_rfl)) (fun _ _ _ h => h) (Or.inl ⟨by rfl, ?_⟩) ?_ ?_
  rotate_left; · exact zqB
  rotate_left; · exact zqA
  refine pure_ (i := 17) (N := some 29) (v := ?_) (a' := ?_) #[true, true, true, true, true, true, true, true, true, true, true, true, true, true, true, true, true, true] rfl rfl (any_of HT_.out (by kernel_rfl)) (fun _ _ _ h => h) (Or.inl ⟨by rfl, ?_⟩) ?_ ?_
  rotate_left; · exact zqB
  rotate_left; · exact zqA
  refine done_ (done_of HT_.out (by kernel_rfl)) ?_
  try go_wp2
  go_roundg k1
  case measure => have := HK1.out; omega
  case rel => exact ⟨(wrap64 (x7_1 + 1)), (by first | rfl | (simp; done) | (simp [*]; done)), H', ⟨by have := HK1.out; omega⟩, ⟨zq20⟩⟩

/-! ### impl_Warning_103: function 103 -/
/-- slices.IndexFunc at warnings, whatever the predicate that leaves the old memory alone. -/
theorem IndexFuncW.calls (g : Nat) (lb : Array Value) (p : S31 → Bool) (eg : ∀ args w, (callFunc g args).run Try.prog w = .ok (.enter g args) w)
  (A0 : Option Addr) (n0 c0 : Nat) (l0 : List S31) (w : World) (hn : n0 = l0.length) (hr0 : Kd.C k31 w A0 l0.length l0) (hc0 : l0.length ≤ c0)
  (hp : ∀ (W : World) (x : S31), Below w.heap.size w W → Calls Try.prog g (#[.agg #[.int .i64 x.f0, .int .i64 x.f1, .int .i64 x.f2, .int .i64 x.f3, .int .i64 x.f4, .int .i64 x.f5]] ++ lb) W fun e w' => e = .returned (.bool (p x)) ∧ Below W.heap.size W w') :
  Calls Try.prog 103 #[.slice A0 n0 c0, .func (.func g) #[] lb] w fun e w' => e = .returned (.int .i64 (Gen.fIdx p l0)) ∧ Below w.heap.size w w' := by
 subst hn
 have hu := Try.underlying31
 have HR0 := Aside0.mk hr0
 have HP := Aside0.mk hp
 have hbig : l0.length ≤ 9223372036854775807 := hr0.2.1
 clear hr0 hp hc0
 go_enter Try.func103, Try.ntmps103
 go_wp2
 go_loopg [5, 8] l0.length (fun gg _ s8 wr => ∃ kk : Nat, kk ≤ l0.length ∧ l0.length - kk ≤ gg ∧ s8 = .int .i64 kk ∧ Aside0 (Below w.heap.size w wr) ∧ Aside0 (∀ j, j < kk → p (l0.getD j z31) = false))
 case atStart => exact ⟨0, Nat.zero_le _, by omega, rfl, ⟨Below.refl _ w⟩, ⟨fun j hj => absurd hj (Nat.not_lt_zero _)⟩⟩
 case round =>
  obtain ⟨kk, hkk, hg, rfl, BW, AN⟩ := hrel
  by_cases hlt : kk < l0.length
  ·
   have hltz : (kk : Int) < (l0.length : Int) := by omega
   obtain ⟨ad, e0, hx0, hx1, hx2, hx3, hx4, hx5⟩ := at_T31 HR0.out (kk : Int) (by omega) hltz
   cases e0
   rw [show rd_T31 l0 (kk : Int) = l0.getD kk z31 from rfl, Int.toNat_natCast] at hx0 hx1 hx2 hx3 hx4 hx5
   generalize hy : l0.getD kk z31 = y at hx0 hx1 hx2 hx3 hx4 hx5
   have B := Aside0.mk hy
   clear hy
   replace hx0 := (BW.out.cell (World.block_lt_of_cell? w _ hx0)).trans hx0
   replace hx1 := (BW.out.cell (World.block_lt_of_cell? w _ hx1)).trans hx1
   replace hx2 := (BW.out.cell (World.block_lt_of_cell? w _ hx2)).trans hx2
   replace hx3 := (BW.out.cell (World.block_lt_of_cell? w _ hx3)).trans hx3
   replace hx4 := (BW.out.cell (World.block_lt_of_cell? w _ hx4)).trans hx4
   replace hx5 := (BW.out.cell (World.block_lt_of_cell? w _ hx5)).trans hx5
   have hcall := HP.out wr y BW.out
   cases hq : p y with
   | true =>
    rw [hq] at hcall
    go_wp2_with (go_at_fn g; refine hcall.mono ?_; rintro e w' ⟨rfl, hb'⟩)
    go_ret
    refine ⟨?_, BW.out.trans (hb'.mono BW.out.size)⟩
    rw [Gen.fIdx_hit p l0 z31 kk hlt (by rw [B.out]; exact hq) AN.out]
    rfl
   | false =>
    rw [hq] at hcall
    go_wp2_with (go_at_fn g; refine hcall.mono ?_; rintro e w' ⟨rfl, hb'⟩)
    go_roundg (l0.length - (kk + 1))
    case measure => omega
    case rel =>
     refine ⟨kk + 1, by omega, by omega, by go_num, ⟨BW.out.trans (hb'.mono BW.out.size)⟩, ⟨fun j hj => ?_⟩⟩
     by_cases e : j = kk
     ·
      subst e
      rw [B.out]; exact hq
     ·
      exact AN.out j (by omega)
  ·
   have hltz : ¬ (kk : Int) < (l0.length : Int) := by omega
   have : kk = l0.length := by omega
   subst this
   go_wp2
   go_ret
   refine ⟨?_, BW.out⟩
   rw [Gen.fIdx_miss p l0 z31 AN.out]
   rfl


/-! ### impl_Warning_67: function 67 -/
/-- slices.ContainsFunc at warnings. -/
theorem ContainsFuncW.calls (g : Nat) (lb : Array Value) (p : S31 → Bool) (eg : ∀ args w, (callFunc g args).run Try.prog w = .ok (.enter g args) w)
  (A0 : Option Addr) (n0 c0 : Nat) (l0 : List S31) (w : World) (hn : n0 = l0.length) (hr0 : Kd.C k31 w A0 l0.length l0) (hc0 : l0.length ≤ c0)
  (hp : ∀ (W : World) (x : S31), Below w.heap.size w W → Calls Try.prog g (#[.agg #[.int .i64 x.f0, .int .i64 x.f1, .int .i64 x.f2, .int .i64 x.f3, .int .i64 x.f4, .int .i64 x.f5]] ++ lb) W fun e w' => e = .returned (.bool (p x)) ∧ Below W.heap.size W w') :
  Calls Try.prog 67 #[.slice A0 n0 c0, .func (.func g) #[] lb] w fun e w' => e = .returned (.bool (l0.any p)) ∧ Below w.heap.size w w' := by
 subst hn
 rw [← Gen.fIdx_nonneg p l0]
 have HC := Aside0.mk (IndexFuncW.calls g lb p eg A0 _ c0 l0 w rfl hr0 hc0 hp)
 clear hr0 hp hc0
 go_enter Try.func67, Try.ntmps67
 go_wp2_with (go_at_call 103; refine HC.out.mono ?_; rintro e w' ⟨rfl, hb'⟩)
 go_ret
 exact ⟨rfl, hb'⟩

end Go.Proofs.Ytklepiechbnenaa.Q
