/- Texts of this seat, put together: Mend, Qf43, Qf23, Qf7, Qf25. -/
import Derived.Test.YtjgkinpjjbgcpaaDoorZFnShortTexts
import Derived.Test.YtjgkinpjjbgcpaaDoorWLast
import Derived.Test.YtjgkinpjjbgcpaaDoorBFnShortTexts0
/- A region that draws its order: what is held may grow on the way (a cell that a call of the region has made). -/
namespace Go.Proofs.YtjgkinpjjbgcpaaDoor.Q
open Go.Proofs.YtjgkinpjjbgcpaaDoorW.PrintLast
set_option linter.unusedVariables false
theorem wpAnyLast_more {P : Program} {md : Region.Mode} {ops : Array Oper} {Q : Exit → Act → World → Prop} {S S0 : World → Prop} (hS : ∀ w, S w → S0 w) :
    ∀ (n : Nat) (l : Array Bool) (a : Act) (w : World), S w → wpAnyLast P md ops Q S [] n l a w → wpAnyLast P md ops Q S0 [] n l a w
  | 0, _, _, _, _, h => h
  | n + 1, l, a, w, hw, h => ⟨h.1, fun i hi => wpOp_mono (fun a' w' h' => ⟨fun _ _ => hS _ (h'.1 List.not_mem_nil hw), wpAnyLast_more hS n _ a' w' (h'.1 List.not_mem_nil hw) h'.2⟩) (h.2 i hi)⟩
theorem more_ {P : Program} {md : Region.Mode} {ops : Array Oper} {Q : Exit → Act → World → Prop} {S0 : World → Prop} (S : World → Prop) {n : Nat} {l : Array Bool} {a : Act} {w : World} (hS : ∀ w, S w → S0 w) (hw : S w)
    (h : S w → wpAnyLast P md ops Q S [] n l a w) : wpAnyLast P md ops Q S0 [] n l a w := wpAnyLast_more hS n l a w hw (h hw)
end Go.Proofs.YtjgkinpjjbgcpaaDoor.Q
namespace Go.Proofs.YtjgkinpjjbgcpaaDoor.Q
open Go.RowKit Go.Proofs.YtjgkinpjjbgcpaaDoorW.PrintWords Go.Proofs.YtjgkinpjjbgcpaaDoorW.PrintLast Go.Proofs.YtjgkinpjjbgcpaaDoorW.PrintMore
attribute [local go_sem] max2_int min2_int max_two min_two max_three min_three max_four min_four   -- for this text's walks alone
set_option linter.unusedVariables false
set_option linter.unusedSimpArgs false

/-! ### spec_l1In: function 43 -/
def spec_l1In.f (a0 : Int) (a1 : Int) (a2 : Int) : Option (Bool) := if a0 ≥ a1 then (some (decide (a0 ≤ a2))) else (some false)
set_option maxHeartbeats 8000000 in
set_option maxRecDepth 100000 in
theorem spec_l1In.calls (a0 : Int) (a1 : Int) (a2 : Int) (r : Bool) (w : World) (h : spec_l1In.f a0 a1 a2 = some r) :
  Calls Tryd.prog 43 #[.int .i64 a0, .int .i64 a1, .int .i64 a2] w fun e w' => e = .returned (.bool r) ∧ Drawn0 w w' := by
 have H : (if a0 ≥ a1 then (some (decide (a0 ≤ a2))) else (some false)) = some r := h
 clear h
 by_cases c4 : a0 ≥ a1
 case neg =>
  rw [if_neg c4] at H
  have c4b0 : decide (a1 ≤ a0) = false := decide_eq_false c4
  clear c4
  obtain rfl := Option.some.inj H
  go_enter Tryd.func43, Tryd.ntmps43
  go_wp2
  go_ret
  exact ⟨by first | rfl | (simp; done) | (simp [*]; done), (by repeat (first | exact Drawn0.refl _ | apply Drawn0.step))⟩
 rw [if_pos c4] at H
 have c4b0 : decide (a1 ≤ a0) = true := decide_eq_true c4
 clear c4
 obtain rfl := Option.some.inj H
 go_enter Tryd.func43, Tryd.ntmps43
 go_wp2
 go_ret
 exact ⟨by first | rfl | (simp; done) | (simp [*]; done), (by repeat (first | exact Drawn0.refl _ | apply Drawn0.step))⟩
/-! ### spec_l14Good: function 21 -/
def spec_l14Good.f (a0_0 : Int) (a0_1 : Int) (a0_2 : Int) (a0_3 : Int) (a0_4 : Int) (a0_5 : Int) : Option (Bool) := (spec_l1In.f a0_0 1 999).bind fun t195 => (if t195 = true then ((spec_l1In.f a0_1 1 5).bind fun t196 => (if t196 = true then ((spec_l1In.f a0_2 1 3).bind fun t197 => (if t197 = true then ((spec_l1In.f a0_3 1 9).bind fun t198 => (if t198 = true then ((spec_l1In.f a0_5 1 240).bind fun t199 => (if t199 = true then ((spec_l1In.f a0_4 0 (wrap64 (a0_5 - 1))).bind fun t200 => (some t200)) else (some false))) else (some false))) else (some false))) else (some false))) else (some false))
set_option maxHeartbeats 8000000 in
set_option maxRecDepth 100000 in
theorem spec_l14Good.calls (a0_0 : Int) (a0_1 : Int) (a0_2 : Int) (a0_3 : Int) (a0_4 : Int) (a0_5 : Int) (r : Bool) (w : World) (h : spec_l14Good.f a0_0 a0_1 a0_2 a0_3 a0_4 a0_5 = some r) :
  Calls Tryd.prog 21 #[.agg #[.int .i64 a0_0, .int .i64 a0_1, .int .i64 a0_2, .int .i64 a0_3, .int .i64 a0_4, .int .i64 a0_5]] w fun e w' => e = .returned (.bool r) ∧ Below w.heap.size w w' := by
 have hu25 := Tryd.underlying25
 have HB := Aside0.mk (Below.refl w.heap.size w)
 have H : ((spec_l1In.f a0_0 1 999).bind fun t195 => (if t195 = true then ((spec_l1In.f a0_1 1 5).bind fun t196 => (if t196 = true then ((spec_l1In.f a0_2 1 3).bind fun t197 => (if t197 = true then ((spec_l1In.f a0_3 1 9).bind fun t198 => (if t198 = true then ((spec_l1In.f a0_5 1 240).bind fun t199 => (if t199 = true then ((spec_l1In.f a0_4 0 (wrap64 (a0_5 - 1))).bind fun t200 => (some t200)) else (some false))) else (some false))) else (some false))) else (some false))) else (some false))) = some r := h
 clear h
 replace H := Option.bind_eq_some_iff.mp H
 obtain ⟨t195, A20, H⟩ := H
 replace H : (if t195 = true then ((spec_l1In.f a0_1 1 5).bind fun t196 => (if t196 = true then ((spec_l1In.f a0_2 1 3).bind fun t197 => (if t197 = true then ((spec_l1In.f a0_3 1 9).bind fun t198 => (if t198 = true then ((spec_l1In.f a0_5 1 240).bind fun t199 => (if t199 = true then ((spec_l1In.f a0_4 0 (wrap64 (a0_5 - 1))).bind fun t200 => (some t200)) else (some false))) else (some false))) else (some false))) else (some false))) else (some false)) = some r := H
 have A2 := Aside0.mk A20
 clear A20
 by_cases c3 : t195 = true
 case neg =>
  replace c3 := Bool.eq_false_iff.mpr c3
  subst c3
  have H1 : (some false) = some r := by rw [if_neg (show ¬ (false = true) by decide)] at H; exact H
  clear H
  have H := H1
  clear H1
  obtain rfl := Option.some.inj H
  go_enter Tryd.func21, Tryd.ntmps21
  go_wp2_with (first | ((with_reducible refine gate_dst (N := 1) rfl ?_); refine box_event ?hg (N := 1) ?hd (cs := #[.int .i64 a0_0, .int .i64 a0_1, .int .i64 a0_2, .int .i64 a0_3, .int .i64 a0_4, .int .i64 a0_5]) (t := 25) ?hr ?_; (case hd => rfl); (case hg => rfl); (case hr => exact zqS); intro gb194 hg w23 hbox hb; have n0_ := Aside0.mk (below_step zq0 hb); have n1_ := Aside0.mk (hbox); have n2_ := Aside0.mk ((by rw [hg]; exact (below_size zq0) : w.heap.size ≤ gb194)); have n3_ := n2_; clear HB; have HB := n0_; have BK194 := n1_; have GW194 := n2_; have GE194 := n3_; clear n0_ n1_ n2_ n3_; clear hb hbox hg; obtain ⟨hcz24_0, hcz24_1, hcz24_2, hcz24_3, hcz24_4, hcz24_5, hfz24_0, hfz24_1, hfz24_2, hfz24_3, hfz24_4, hfz24_5⟩ := bz6 BK194.out) | ((with_reducible refine gate_callee (f := 43) rfl ?_); refine goesL_ (some 5) rfl rfl Tryd.func43 (by kernel_rfl) rfl #[.int .i64 a0_0, .int .i64 1, .int .i64 999] rfl zq1 ?_; (with_reducible refine (spec_l1In.calls a0_0 1 999 false _ A2.out).mono ?_); rintro e w' ⟨rfl, ⟨nd, rfl⟩⟩; refine ⟨_, rfl, ?_⟩))
  go_ret
  exact ⟨zqE, zq28⟩
 subst c3
 have H1 : ((spec_l1In.f a0_1 1 5).bind fun t196 => (if t196 = true then ((spec_l1In.f a0_2 1 3).bind fun t197 => (if t197 = true then ((spec_l1In.f a0_3 1 9).bind fun t198 => (if t198 = true then ((spec_l1In.f a0_5 1 240).bind fun t199 => (if t199 = true then ((spec_l1In.f a0_4 0 (wrap64 (a0_5 - 1))).bind fun t200 => (some t200)) else (some false))) else (some false))) else (some false))) else (some false))) = some r := by rw [if_pos rfl] at H; exact H
 clear H
 have H := H1
 clear H1
 replace H := Option.bind_eq_some_iff.mp H
 obtain ⟨t196, A40, H⟩ := H
 replace H : (if t196 = true then ((spec_l1In.f a0_2 1 3).bind fun t197 => (if t197 = true then ((spec_l1In.f a0_3 1 9).bind fun t198 => (if t198 = true then ((spec_l1In.f a0_5 1 240).bind fun t199 => (if t199 = true then ((spec_l1In.f a0_4 0 (wrap64 (a0_5 - 1))).bind fun t200 => (some t200)) else (some false))) else (some false))) else (some false))) else (some false)) = some r := H
 have A4 := Aside0.mk A40
 clear A40
 by_cases c5 : t196 = true
 case neg =>
  replace c5 := Bool.eq_false_iff.mpr c5
  subst c5
  have H1 : (some false) = some r := by rw [if_neg (show ¬ (false = true) by decide)] at H; exact H
  clear H
  have H := H1
  clear H1
  obtain rfl := Option.some.inj H
  go_enter Tryd.func21, Tryd.ntmps21
  go_wp2_with (first | ((with_reducible refine gate_dst (N := 1) rfl ?_); refine box_event ?hg (N := 1) ?hd (cs := #[.int .i64 a0_0, .int .i64 a0_1, .int .i64 a0_2, .int .i64 a0_3, .int .i64 a0_4, .int .i64 a0_5]) (t := 25) ?hr ?_; (case hd => rfl); (case hg => rfl); (case hr => exact zqS); intro gb194 hg w21 hbox hb; have n0_ := Aside0.mk (below_step zq0 hb); have n1_ := Aside0.mk (hbox); have n2_ := Aside0.mk ((by rw [hg]; exact (below_size zq0) : w.heap.size ≤ gb194)); have n3_ := n2_; clear HB; have HB := n0_; have BK194 := n1_; have GW194 := n2_; have GE194 := n3_; clear n0_ n1_ n2_ n3_; clear hb hbox hg; obtain ⟨hcz22_0, hcz22_1, hcz22_2, hcz22_3, hcz22_4, hcz22_5, hfz22_0, hfz22_1, hfz22_2, hfz22_3, hfz22_4, hfz22_5⟩ := bz6 BK194.out) | ((with_reducible refine gate_callee (f := 43) rfl ?_); refine goesL_ (some 5) rfl rfl Tryd.func43 (by kernel_rfl) rfl #[.int .i64 a0_0, .int .i64 1, .int .i64 999] rfl zq1 ?_; (with_reducible refine (spec_l1In.calls a0_0 1 999 true _ A2.out).mono ?_); rintro e w' ⟨rfl, ⟨nd, rfl⟩⟩; refine ⟨_, rfl, ?_⟩) | (go_at_call 43; (with_reducible refine (spec_l1In.calls a0_1 1 5 false _ A4.out).mono ?_); rintro e w' ⟨rfl, ⟨nd, rfl⟩⟩))
  go_ret
  exact ⟨zqE, zq28⟩
 subst c5
 have H1 : ((spec_l1In.f a0_2 1 3).bind fun t197 => (if t197 = true then ((spec_l1In.f a0_3 1 9).bind fun t198 => (if t198 = true then ((spec_l1In.f a0_5 1 240).bind fun t199 => (if t199 = true then ((spec_l1In.f a0_4 0 (wrap64 (a0_5 - 1))).bind fun t200 => (some t200)) else (some false))) else (some false))) else (some false))) = some r := by rw [if_pos rfl] at H; exact H
 clear H
 have H := H1
 clear H1
 replace H := Option.bind_eq_some_iff.mp H
 obtain ⟨t197, A60, H⟩ := H
 replace H : (if t197 = true then ((spec_l1In.f a0_3 1 9).bind fun t198 => (if t198 = true then ((spec_l1In.f a0_5 1 240).bind fun t199 => (if t199 = true then ((spec_l1In.f a0_4 0 (wrap64 (a0_5 - 1))).bind fun t200 => (some t200)) else (some false))) else (some false))) else (some false)) = some r := H
 have A6 := Aside0.mk A60
 clear A60
 by_cases c7 : t197 = true
 case neg =>
  replace c7 := Bool.eq_false_iff.mpr c7
  subst c7
  have H1 : (some false) = some r := by rw [if_neg (show ¬ (false = true) by decide)] at H; exact H
  clear H
  have H := H1
  clear H1
  obtain rfl := Option.some.inj H
  go_enter Tryd.func21, Tryd.ntmps21
  go_wp2_with (first | ((with_reducible refine gate_dst (N := 1) rfl ?_); refine box_event ?hg (N := 1) ?hd (cs := #[.int .i64 a0_0, .int .i64 a0_1, .int .i64 a0_2, .int .i64 a0_3, .int .i64 a0_4, .int .i64 a0_5]) (t := 25) ?hr ?_; (case hd => rfl); (case hg => rfl); (case hr => exact zqS); intro gb194 hg w19 hbox hb; have n0_ := Aside0.mk (below_step zq0 hb); have n1_ := Aside0.mk (hbox); have n2_ := Aside0.mk ((by rw [hg]; exact (below_size zq0) : w.heap.size ≤ gb194)); have n3_ := n2_; clear HB; have HB := n0_; have BK194 := n1_; have GW194 := n2_; have GE194 := n3_; clear n0_ n1_ n2_ n3_; clear hb hbox hg; obtain ⟨hcz20_0, hcz20_1, hcz20_2, hcz20_3, hcz20_4, hcz20_5, hfz20_0, hfz20_1, hfz20_2, hfz20_3, hfz20_4, hfz20_5⟩ := bz6 BK194.out) | ((with_reducible refine gate_callee (f := 43) rfl ?_); refine goesL_ (some 5) rfl rfl Tryd.func43 (by kernel_rfl) rfl #[.int .i64 a0_0, .int .i64 1, .int .i64 999] rfl zq1 ?_; (with_reducible refine (spec_l1In.calls a0_0 1 999 true _ A2.out).mono ?_); rintro e w' ⟨rfl, ⟨nd, rfl⟩⟩; refine ⟨_, rfl, ?_⟩) | (go_at_call 43; (with_reducible refine (spec_l1In.calls a0_1 1 5 true _ A4.out).mono ?_); rintro e w' ⟨rfl, ⟨nd, rfl⟩⟩) | (go_at_call 43; (with_reducible refine (spec_l1In.calls a0_2 1 3 false _ A6.out).mono ?_); rintro e w' ⟨rfl, ⟨nd, rfl⟩⟩))
  go_ret
  exact ⟨zqE, zq28⟩
 subst c7
 have H1 : ((spec_l1In.f a0_3 1 9).bind fun t198 => (if t198 = true then ((spec_l1In.f a0_5 1 240).bind fun t199 => (if t199 = true then ((spec_l1In.f a0_4 0 (wrap64 (a0_5 - 1))).bind fun t200 => (some t200)) else (some false))) else (some false))) = some r := by rw [if_pos rfl] at H; exact H
 clear H
 have H := H1
 clear H1
 replace H := Option.bind_eq_some_iff.mp H
 obtain ⟨t198, A80, H⟩ := H
 replace H : (if t198 = true then ((spec_l1In.f a0_5 1 240).bind fun t199 => (if t199 = true then ((spec_l1In.f a0_4 0 (wrap64 (a0_5 - 1))).bind fun t200 => (some t200)) else (some false))) else (some false)) = some r := H
 have A8 := Aside0.mk A80
 clear A80
 by_cases c9 : t198 = true
 case neg =>
  replace c9 := Bool.eq_false_iff.mpr c9
  subst c9
  have H1 : (some false) = some r := by rw [if_neg (show ¬ (false = true) by decide)] at H; exact H
  clear H
  have H := H1
  clear H1
  obtain rfl := Option.some.inj H
  go_enter Tryd.func21, Tryd.ntmps21
  go_wp2_with (first | ((with_reducible refine gate_dst (N := 1) rfl ?_); refine box_event ?hg (N := 1) ?hd (cs := #[.int .i64 a0_0, .int .i64 a0_1, .int .i64 a0_2, .int .i64 a0_3, .int .i64 a0_4, .int .i64 a0_5]) (t := 25) ?hr ?_; (case hd => rfl); (case hg => rfl); (case hr => exact zqS); intro gb194 hg w17 hbox hb; have n0_ := Aside0.mk (below_step zq0 hb); have n1_ := Aside0.mk (hbox); have n2_ := Aside0.mk ((by rw [hg]; exact (below_size zq0) : w.heap.size ≤ gb194)); have n3_ := n2_; clear HB; have HB := n0_; have BK194 := n1_; have GW194 := n2_; have GE194 := n3_; clear n0_ n1_ n2_ n3_; clear hb hbox hg; obtain ⟨hcz18_0, hcz18_1, hcz18_2, hcz18_3, hcz18_4, hcz18_5, hfz18_0, hfz18_1, hfz18_2, hfz18_3, hfz18_4, hfz18_5⟩ := bz6 BK194.out) | ((with_reducible refine gate_callee (f := 43) rfl ?_); refine goesL_ (some 5) rfl rfl Tryd.func43 (by kernel_rfl) rfl #[.int .i64 a0_0, .int .i64 1, .int .i64 999] rfl zq1 ?_; (with_reducible refine (spec_l1In.calls a0_0 1 999 true _ A2.out).mono ?_); rintro e w' ⟨rfl, ⟨nd, rfl⟩⟩; refine ⟨_, rfl, ?_⟩) | (go_at_call 43; (with_reducible refine (spec_l1In.calls a0_1 1 5 true _ A4.out).mono ?_); rintro e w' ⟨rfl, ⟨nd, rfl⟩⟩) | (go_at_call 43; (with_reducible refine (spec_l1In.calls a0_2 1 3 true _ A6.out).mono ?_); rintro e w' ⟨rfl, ⟨nd, rfl⟩⟩) | (go_at_call 43; (with_reducible refine (spec_l1In.calls a0_3 1 9 false _ A8.out).mono ?_); rintro e w' ⟨rfl, ⟨nd, rfl⟩⟩))
  go_ret
  exact ⟨zqE, zq28⟩
 subst c9
 have H1 : ((spec_l1In.f a0_5 1 240).bind fun t199 => (if t199 = true then ((spec_l1In.f a0_4 0 (wrap64 (a0_5 - 1))).bind fun t200 => (some t200)) else (some false))) = some r := by rw [if_pos rfl] at H; exact H
 clear H
 have H := H1
 clear H1
 replace H := Option.bind_eq_some_iff.mp H
 obtain ⟨t199, A100, H⟩ := H
 replace H : (if t199 = true then ((spec_l1In.f a0_4 0 (wrap64 (a0_5 - 1))).bind fun t200 => (some t200)) else (some false)) = some r := H
 have A10 := Aside0.mk A100
 clear A100
 by_cases c11 : t199 = true
 case neg =>
  replace c11 := Bool.eq_false_iff.mpr c11
  subst c11
  have H1 : (some false) = some r := by rw [if_neg (show ¬ (false = true) by decide)] at H; exact H
  clear H
  have H := H1
  clear H1
  obtain rfl := Option.some.inj H
  go_enter Tryd.func21, Tryd.ntmps21
  go_wp2_with (first | ((with_reducible refine gate_dst (N := 1) rfl ?_); refine box_event ?hg (N := 1) ?hd (cs := #[.int .i64 a0_0, .int .i64 a0_1, .int .i64 a0_2, .int .i64 a0_3, .int .i64 a0_4, .int .i64 a0_5]) (t := 25) ?hr ?_; (case hd => rfl); (case hg => rfl); (case hr => exact zqS); intro gb194 hg w15 hbox hb; have n0_ := Aside0.mk (below_step zq0 hb); have n1_ := Aside0.mk (hbox); have n2_ := Aside0.mk ((by rw [hg]; exact (below_size zq0) : w.heap.size ≤ gb194)); have n3_ := n2_; clear HB; have HB := n0_; have BK194 := n1_; have GW194 := n2_; have GE194 := n3_; clear n0_ n1_ n2_ n3_; clear hb hbox hg; obtain ⟨hcz16_0, hcz16_1, hcz16_2, hcz16_3, hcz16_4, hcz16_5, hfz16_0, hfz16_1, hfz16_2, hfz16_3, hfz16_4, hfz16_5⟩ := bz6 BK194.out) | ((with_reducible refine gate_callee (f := 43) rfl ?_); refine goesL_ (some 5) rfl rfl Tryd.func43 (by kernel_rfl) rfl #[.int .i64 a0_0, .int .i64 1, .int .i64 999] rfl zq1 ?_; (with_reducible refine (spec_l1In.calls a0_0 1 999 true _ A2.out).mono ?_); rintro e w' ⟨rfl, ⟨nd, rfl⟩⟩; refine ⟨_, rfl, ?_⟩) | (go_at_call 43; (with_reducible refine (spec_l1In.calls a0_1 1 5 true _ A4.out).mono ?_); rintro e w' ⟨rfl, ⟨nd, rfl⟩⟩) | (go_at_call 43; (with_reducible refine (spec_l1In.calls a0_2 1 3 true _ A6.out).mono ?_); rintro e w' ⟨rfl, ⟨nd, rfl⟩⟩) | (go_at_call 43; (with_reducible refine (spec_l1In.calls a0_3 1 9 true _ A8.out).mono ?_); rintro e w' ⟨rfl, ⟨nd, rfl⟩⟩) | (go_at_call 43; (with_reducible refine (spec_l1In.calls a0_5 1 240 false _ A10.out).mono ?_); rintro e w' ⟨rfl, ⟨nd, rfl⟩⟩))
  go_ret
  exact ⟨zqE, zq28⟩
 subst c11
 have H1 : ((spec_l1In.f a0_4 0 (wrap64 (a0_5 - 1))).bind fun t200 => (some t200)) = some r := by rw [if_pos rfl] at H; exact H
 clear H
 have H := H1
 clear H1
 replace H := Option.bind_eq_some_iff.mp H
 obtain ⟨t200, A120, H⟩ := H
 replace H : (some t200) = some r := H
 have A12 := Aside0.mk A120
 clear A120
 obtain rfl := Option.some.inj H
 go_enter Tryd.func21, Tryd.ntmps21
 go_wp2_with (first | ((with_reducible refine gate_dst (N := 1) rfl ?_); refine box_event ?hg (N := 1) ?hd (cs := #[.int .i64 a0_0, .int .i64 a0_1, .int .i64 a0_2, .int .i64 a0_3, .int .i64 a0_4, .int .i64 a0_5]) (t := 25) ?hr ?_; (case hd => rfl); (case hg => rfl); (case hr => exact zqS); intro gb194 hg w13 hbox hb; have n0_ := Aside0.mk (below_step zq0 hb); have n1_ := Aside0.mk (hbox); have n2_ := Aside0.mk ((by rw [hg]; exact (below_size zq0) : w.heap.size ≤ gb194)); have n3_ := n2_; clear HB; have HB := n0_; have BK194 := n1_; have GW194 := n2_; have GE194 := n3_; clear n0_ n1_ n2_ n3_; clear hb hbox hg; obtain ⟨hcz14_0, hcz14_1, hcz14_2, hcz14_3, hcz14_4, hcz14_5, hfz14_0, hfz14_1, hfz14_2, hfz14_3, hfz14_4, hfz14_5⟩ := bz6 BK194.out) | ((with_reducible refine gate_callee (f := 43) rfl ?_); refine goesL_ (some 5) rfl rfl Tryd.func43 (by kernel_rfl) rfl #[.int .i64 a0_0, .int .i64 1, .int .i64 999] rfl zq1 ?_; (with_reducible refine (spec_l1In.calls a0_0 1 999 true _ A2.out).mono ?_); rintro e w' ⟨rfl, ⟨nd, rfl⟩⟩; refine ⟨_, rfl, ?_⟩) | (go_at_call 43; (with_reducible refine (spec_l1In.calls a0_1 1 5 true _ A4.out).mono ?_); rintro e w' ⟨rfl, ⟨nd, rfl⟩⟩) | (go_at_call 43; (with_reducible refine (spec_l1In.calls a0_2 1 3 true _ A6.out).mono ?_); rintro e w' ⟨rfl, ⟨nd, rfl⟩⟩) | (go_at_call 43; (with_reducible refine (spec_l1In.calls a0_3 1 9 true _ A8.out).mono ?_); rintro e w' ⟨rfl, ⟨nd, rfl⟩⟩) | (go_at_call 43; (with_reducible refine (spec_l1In.calls a0_5 1 240 true _ A10.out).mono ?_); rintro e w' ⟨rfl, ⟨nd, rfl⟩⟩) | (go_at_call 43; (with_reducible refine (spec_l1In.calls a0_4 0 (wrap64 (a0_5 - 1)) t200 _ A12.out).mono ?_); rintro e w' ⟨rfl, ⟨nd, rfl⟩⟩))
 go_ret
 exact ⟨zqE, zq28⟩
/-! ### spec_l16Levels: function 22 -/
def spec_l16Levels.f  : Option (List ByteArray) := some (([(⟨#[]⟩ : ByteArray), (⟨#[89, 101, 108, 108, 111, 119]⟩ : ByteArray), (⟨#[79, 114, 97, 110, 103, 101]⟩ : ByteArray), (⟨#[82, 101, 100]⟩ : ByteArray)] : List ByteArray))
set_option maxHeartbeats 8000000 in
set_option maxRecDepth 100000 in
theorem spec_l16Levels.calls  (r : List ByteArray) (w : World) (h : spec_l16Levels.f  = some r) :
  Calls Tryd.prog 22 #[] w fun e w' => ∃ v0_ : Value, e = .returned (v0_) ∧ Kd.R Kd.string 9 w' w.heap.size (fun _ => True) v0_ r ∧ Below w.heap.size w w' := by
 have HB := Aside0.mk (Below.refl w.heap.size w)
 have H : (some (([(⟨#[]⟩ : ByteArray), (⟨#[89, 101, 108, 108, 111, 119]⟩ : ByteArray), (⟨#[79, 114, 97, 110, 103, 101]⟩ : ByteArray), (⟨#[82, 101, 100]⟩ : ByteArray)] : List ByteArray))) = some r := h
 clear h
 obtain ⟨y201, hy201⟩ : ∃ y_ : List ByteArray, y_ = (([(⟨#[]⟩ : ByteArray), (⟨#[89, 101, 108, 108, 111, 119]⟩ : ByteArray), (⟨#[79, 114, 97, 110, 103, 101]⟩ : ByteArray), (⟨#[82, 101, 100]⟩ : ByteArray)] : List ByteArray)) := ⟨_, rfl⟩
 replace H : (some y201) = some r := zqH hy201 H
 have Ny201 := Aside0.mk hy201
 clear hy201
 obtain rfl := Option.some.inj H
 go_enter Tryd.func22, Tryd.ntmps22
 go_wp2_with (first | ((with_reducible refine gate_dst (N := 1) rfl ?_); refine Kd.R_lit Kd.string _ 9 ?hg (N := 1) ?hd (xs := ([(⟨#[]⟩ : ByteArray), (⟨#[89, 101, 108, 108, 111, 119]⟩ : ByteArray), (⟨#[79, 114, 97, 110, 103, 101]⟩ : ByteArray), (⟨#[82, 101, 100]⟩ : ByteArray)] : List ByteArray)) (inner := [.string (⟨#[]⟩ : ByteArray), .string (⟨#[89, 101, 108, 108, 111, 119]⟩ : ByteArray), .string (⟨#[79, 114, 97, 110, 103, 101]⟩ : ByteArray), .string (⟨#[82, 101, 100]⟩ : ByteArray)]) (ok := fun _ => True) (okp := fun _ => True) ?hr ?hp (fun _ hk => hk) trivial (Below.refl _ _) (Nat.le_refl _) (by simp) ?_; (case hd => rfl); (case hg => rfl); (case hr => exact zqS); (case hp => exact (Reps.one (show Kd.M Kd.string _ _ _ (⟨#[]⟩ : ByteArray) [.string (⟨#[]⟩ : ByteArray)] from rfl) (Reps.one (show Kd.M Kd.string _ _ _ (⟨#[89, 101, 108, 108, 111, 119]⟩ : ByteArray) [.string (⟨#[89, 101, 108, 108, 111, 119]⟩ : ByteArray)] from rfl) (Reps.one (show Kd.M Kd.string _ _ _ (⟨#[79, 114, 97, 110, 103, 101]⟩ : ByteArray) [.string (⟨#[79, 114, 97, 110, 103, 101]⟩ : ByteArray)] from rfl) (Reps.one (show Kd.M Kd.string _ _ _ (⟨#[82, 101, 100]⟩ : ByteArray) [.string (⟨#[82, 101, 100]⟩ : ByteArray)] from rfl) (Reps.none _ _)))))); intro v202 w1 ho2 hb hg_ hnew_; clear hg_ hnew_; (first | rw [← Ny201.out] at ho2 | (simp only [Int.reduceToNat] at ho2; rw [← Ny201.out] at ho2)); have n0_ := Aside0.mk (Kd.R_lower ho2 (below_size zq0)); have n1_ := Aside0.mk (below_step zq0 hb); clear HB; have HO203 := n0_; have HB := n1_; clear n0_ n1_; clear hb ho2))
 go_ret
 exact ⟨_, by first | rfl | (simp [errW_none, errW_some] <;> rfl) | (simp [*, errW_none, errW_some] <;> rfl), zqR HO203.out, zq0⟩

/-! ### spec_l1Num: function 23 -/
def spec_l1Num.f : Nat → Int → Option (ByteArray)
 | 0, _ => none
 | k + 1, a0 => if a0 < 0 then ((spec_l1Num.f k (wrap64 (-a0))).bind fun t204 => (if 1 + t204.size ≤ 9223372036854775807 then (some ((⟨#[45]⟩ : ByteArray) ++ t204)) else (none))) else (if a0 < 10 then (if 0 ≤ a0 then (if a0 ≤ (wrap64 (a0 + 1)) then (if (wrap64 (a0 + 1)) ≤ 10 then (some ((⟨#[48, 49, 50, 51, 52, 53, 54, 55, 56, 57]⟩ : ByteArray).extract (a0 : Int).toNat ((wrap64 (a0 + 1)) : Int).toNat)) else (none)) else (none)) else (none)) else ((spec_l1Num.f k (wrap64 (Int.tdiv a0 10))).bind fun t205 => (if 0 ≤ (Int.tmod a0 10) then (if (Int.tmod a0 10) ≤ (wrap64 ((Int.tmod a0 10) + 1)) then (if (wrap64 ((Int.tmod a0 10) + 1)) ≤ 10 then (if t205.size + ((⟨#[48, 49, 50, 51, 52, 53, 54, 55, 56, 57]⟩ : ByteArray).extract ((Int.tmod a0 10) : Int).toNat ((wrap64 ((Int.tmod a0 10) + 1)) : Int).toNat).size ≤ 9223372036854775807 then (some (t205 ++ ((⟨#[48, 49, 50, 51, 52, 53, 54, 55, 56, 57]⟩ : ByteArray).extract ((Int.tmod a0 10) : Int).toNat ((wrap64 ((Int.tmod a0 10) + 1)) : Int).toNat))) else (none)) else (none)) else (none)) else (none))))
theorem spec_l1Num.mono_l : ∀ k, (∀ y0, LeO (spec_l1Num.f k y0) (spec_l1Num.f (k + 1) y0))
 | 0 => fun _ r h => by simp [spec_l1Num.f] at h
 | k + 1 => by
  have ih0 := spec_l1Num.mono_l k
  ·
   intro y0
   unfold spec_l1Num.f
   repeat' first
   | (with_reducible exact ih0 _)
   | (with_reducible exact LeO.refl _)
   | (with_reducible exact LeO.none _)
   | (with_reducible refine LeO.ite ?_ ?_)
   | (with_reducible refine LeO.bind ?_ (fun _ => ?_))
   | exact ih0 _
   | exact LeO.none _
   | refine LeO.ite ?_ ?_
   | refine LeO.bind ?_ (fun _ => ?_)
theorem spec_l1Num.mono : ∀ a0 k, LeO (spec_l1Num.f k a0) (spec_l1Num.f (k + 1) a0) := by
 intro a0 k
 have ih0 := spec_l1Num.mono_l k
 exact ih0 a0
def spec_l1Num.T5 : Bool × List (List Nat × List Nat) := (true, [([], []), ([0], [0]), ([1], [1]), ([], []), ([3], [3]), ([], []), ([5], [5]), ([6], [6]), ([4, 7], [4, 7]), ([2, 8], [2, 8]), ([9, 2, 0, 1, 2, 3, 4, 5, 6, 7, 8, 9], [9])])
def spec_l1Num.B5 : List Nat := [0, 1, 3, 0, 8, 0, 32, 96, 248, 511, 1023]
theorem spec_l1Num.tab5 : rtab .any (opsOf Tryd.f23 5) = spec_l1Num.T5 := by kernel_rfl
theorem spec_l1Num.bits5 : waitsOk spec_l1Num.T5.2 spec_l1Num.B5 = true := by kernel_rfl
set_option maxHeartbeats 8000000 in
set_option maxRecDepth 100000 in
theorem spec_l1Num.calls (k : Nat) : ∀ (a0 : Int) (r : ByteArray) (w : World) (h : spec_l1Num.f k a0 = some r),
  Calls Tryd.prog 23 #[.int .i64 a0] w fun e w' => e = .returned (.string r) ∧ Below w.heap.size w w' := by
 induction k using Nat.strongRecOn with
 | _ k ih =>
 intro a0 r w h
 cases k with
 | zero => exact absurd h (by simp [spec_l1Num.f])
 | succ k =>
 simp only [spec_l1Num.f] at h
 have HB := Aside0.mk (Below.refl w.heap.size w)
 have H : (if a0 < 0 then ((spec_l1Num.f k (wrap64 (-a0))).bind fun t204 => (if 1 + t204.size ≤ 9223372036854775807 then (some ((⟨#[45]⟩ : ByteArray) ++ t204)) else (none))) else (if a0 < 10 then (if 0 ≤ a0 then (if a0 ≤ (wrap64 (a0 + 1)) then (if (wrap64 (a0 + 1)) ≤ 10 then (some ((⟨#[48, 49, 50, 51, 52, 53, 54, 55, 56, 57]⟩ : ByteArray).extract (a0 : Int).toNat ((wrap64 (a0 + 1)) : Int).toNat)) else (none)) else (none)) else (none)) else ((spec_l1Num.f k (wrap64 (Int.tdiv a0 10))).bind fun t205 => (if 0 ≤ (Int.tmod a0 10) then (if (Int.tmod a0 10) ≤ (wrap64 ((Int.tmod a0 10) + 1)) then (if (wrap64 ((Int.tmod a0 10) + 1)) ≤ 10 then (if t205.size + ((⟨#[48, 49, 50, 51, 52, 53, 54, 55, 56, 57]⟩ : ByteArray).extract ((Int.tmod a0 10) : Int).toNat ((wrap64 ((Int.tmod a0 10) + 1)) : Int).toNat).size ≤ 9223372036854775807 then (some (t205 ++ ((⟨#[48, 49, 50, 51, 52, 53, 54, 55, 56, 57]⟩ : ByteArray).extract ((Int.tmod a0 10) : Int).toNat ((wrap64 ((Int.tmod a0 10) + 1)) : Int).toNat))) else (none)) else (none)) else (none)) else (none))))) = some r := h
 clear h
 by_cases c2 : a0 < 0
 case pos =>
  rw [if_pos c2] at H
  have c2b0 : decide (a0 < 0) = true := decide_eq_true c2
  clear c2
  replace H := Option.bind_eq_some_iff.mp H
  obtain ⟨t204, A30, H⟩ := H
  replace H : (if 1 + t204.size ≤ 9223372036854775807 then (some ((⟨#[45]⟩ : ByteArray) ++ t204)) else (none)) = some r := H
  have A3 := Aside0.mk A30
  clear A30
  by_cases c4 : 1 + t204.size ≤ 9223372036854775807
  case neg =>
   rw [if_neg c4] at H
   exact absurd H (by simp)
  rw [if_pos c4] at H
  have c4b0 := eq_true c4
  have c4b1 : decide (1 + t204.size ≤ 9223372036854775807) = true := decide_eq_true c4
  try have c4b2 : (9223372036854775807 < 1 + t204.size) = False := eq_false (Nat.not_lt.2 c4)
  obtain rfl := Option.some.inj H
  go_enter Tryd.func23, Tryd.ntmps23
  go_wp2_with (first | ((with_reducible refine gate_callee (f := 23) rfl ?_); refine goesL_ (some 7) rfl rfl Tryd.func23 (by kernel_rfl) rfl #[.int .i64 (wrap64 (-a0))] rfl zq1 ?_; (with_reducible refine (ih k (by omega) (wrap64 (-a0)) t204 _ A3.out).mono ?_); rintro e w5 ⟨rfl, hb⟩; refine ⟨_, rfl, ?_⟩; have n0_ := Aside0.mk (below_step zq0 hb); clear HB; have HB := n0_; clear n0_; (try clear hb); (try clear hb2); (try clear hk); (try clear hi)))
  go_ret
  exact ⟨zqE, zq0⟩
 rw [if_neg c2] at H
 have c2b0 : decide (a0 < 0) = false := decide_eq_false c2
 clear c2
 by_cases c6 : a0 < 10
 case pos =>
  rw [if_pos c6] at H
  have c6b0 : decide (a0 < 10) = true := decide_eq_true c6
  clear c6
  by_cases c7 : 0 ≤ a0
  case neg =>
   rw [if_neg c7] at H
   exact absurd H (by simp)
  rw [if_pos c7] at H
  have c7b0 := eq_true c7
  have c7b1 : decide (0 ≤ a0) = true := decide_eq_true c7
  clear c7
  by_cases c8 : a0 ≤ (wrap64 (a0 + 1))
  case neg =>
   rw [if_neg c8] at H
   exact absurd H (by simp)
  rw [if_pos c8] at H
  have c8b0 := eq_true c8
  have c8b1 : decide (a0 ≤ (wrap64 (a0 + 1))) = true := decide_eq_true c8
  by_cases c9 : (wrap64 (a0 + 1)) ≤ 10
  case neg =>
   rw [if_neg c9] at H
   exact absurd H (by simp)
  rw [if_pos c9] at H
  have c9b0 := eq_true c9
  have c9b1 : decide ((wrap64 (a0 + 1)) ≤ 10) = true := decide_eq_true c9
  obtain rfl := Option.some.inj H
  go_enter Tryd.func23, Tryd.ntmps23
  go_wp2
  go_ret
  exact ⟨zqE, zq0⟩
 rw [if_neg c6] at H
 have c6b0 : decide (a0 < 10) = false := decide_eq_false c6
 clear c6
 replace H := Option.bind_eq_some_iff.mp H
 obtain ⟨t205, A100, H⟩ := H
 replace H : (if 0 ≤ (Int.tmod a0 10) then (if (Int.tmod a0 10) ≤ (wrap64 ((Int.tmod a0 10) + 1)) then (if (wrap64 ((Int.tmod a0 10) + 1)) ≤ 10 then (if t205.size + ((⟨#[48, 49, 50, 51, 52, 53, 54, 55, 56, 57]⟩ : ByteArray).extract ((Int.tmod a0 10) : Int).toNat ((wrap64 ((Int.tmod a0 10) + 1)) : Int).toNat).size ≤ 9223372036854775807 then (some (t205 ++ ((⟨#[48, 49, 50, 51, 52, 53, 54, 55, 56, 57]⟩ : ByteArray).extract ((Int.tmod a0 10) : Int).toNat ((wrap64 ((Int.tmod a0 10) + 1)) : Int).toNat))) else (none)) else (none)) else (none)) else (none)) = some r := H
 have A10 := Aside0.mk A100
 clear A100
 obtain ⟨ji11, hji11⟩ : ∃ j_ : Int, (Int.tmod a0 10) = j_ := ⟨_, rfl⟩
 replace H : (if 0 ≤ (ji11) then (if (ji11) ≤ (wrap64 ((ji11) + 1)) then (if (wrap64 ((ji11) + 1)) ≤ 10 then (if t205.size + ((⟨#[48, 49, 50, 51, 52, 53, 54, 55, 56, 57]⟩ : ByteArray).extract ((ji11) : Int).toNat ((wrap64 ((ji11) + 1)) : Int).toNat).size ≤ 9223372036854775807 then (some (t205 ++ ((⟨#[48, 49, 50, 51, 52, 53, 54, 55, 56, 57]⟩ : ByteArray).extract ((ji11) : Int).toNat ((wrap64 ((ji11) + 1)) : Int).toNat))) else (none)) else (none)) else (none)) else (none)) = some r := by first | (rw [hji11] at H; exact H) | (simp only [hji11] at H ⊢; exact H)
 (try rw [hji11] at A10)
 by_cases c12 : 0 ≤ (ji11)
 case neg =>
  rw [if_neg c12] at H
  exact absurd H (by simp)
 rw [if_pos c12] at H
 have c12b0 := eq_true c12
 have c12b1 : decide (0 ≤ (ji11)) = true := decide_eq_true c12
 clear c12
 by_cases c13 : (ji11) ≤ (wrap64 ((ji11) + 1))
 case neg =>
  rw [if_neg c13] at H
  exact absurd H (by simp)
 rw [if_pos c13] at H
 have c13b0 := eq_true c13
 have c13b1 : decide ((ji11) ≤ (wrap64 ((ji11) + 1))) = true := decide_eq_true c13
 by_cases c14 : (wrap64 ((ji11) + 1)) ≤ 10
 case neg =>
  rw [if_neg c14] at H
  exact absurd H (by simp)
 rw [if_pos c14] at H
 have c14b0 := eq_true c14
 have c14b1 : decide ((wrap64 ((ji11) + 1)) ≤ 10) = true := decide_eq_true c14
 by_cases c15 : t205.size + ((⟨#[48, 49, 50, 51, 52, 53, 54, 55, 56, 57]⟩ : ByteArray).extract ((ji11) : Int).toNat ((wrap64 ((ji11) + 1)) : Int).toNat).size ≤ 9223372036854775807
 case neg =>
  rw [if_neg c15] at H
  exact absurd H (by simp)
 rw [if_pos c15] at H
 have c15b0 := eq_true c15
 have c15b1 : decide (t205.size + ((⟨#[48, 49, 50, 51, 52, 53, 54, 55, 56, 57]⟩ : ByteArray).extract ((ji11) : Int).toNat ((wrap64 ((ji11) + 1)) : Int).toNat).size ≤ 9223372036854775807) = true := decide_eq_true c15
 try have c15b2 : (9223372036854775807 < t205.size + ((⟨#[48, 49, 50, 51, 52, 53, 54, 55, 56, 57]⟩ : ByteArray).extract ((ji11) : Int).toNat ((wrap64 ((ji11) + 1)) : Int).toNat).size) = False := eq_false (Nat.not_lt.2 c15)
 try have c15b3 : (9223372036854775807 < t205.size + (((⟨#[48, 49, 50, 51, 52, 53, 54, 55, 56, 57]⟩ : ByteArray).extract ((ji11) : Int).toNat ((wrap64 ((ji11) + 1)) : Int).toNat).size)) = False := eq_false (Nat.not_lt.2 (by have q_ := c15; simp only [ByteArray.size_append] at q_; exact q_))
 obtain rfl := Option.some.inj H
 go_enter Tryd.func23, Tryd.ntmps23
 try go_wp2
 have n0_ := Aside0.mk (below_drew1 HB.out)
 clear HB
 have HB := n0_
 clear n0_
 refine start_ (n := 11) (S := fun w' => True) (ds := []) #[false, false, false, false, false, false, false, false, false, false, false] (by kernel_rfl) rfl rfl trivial (fun hHeld => ?_); refine with_tabW spec_l1Num.tab5 spec_l1Num.bits5 (fun HT_ HW_ => ?_)
 generalize w.drew = w16 at HB hHeld ⊢
 refine pure_ (i := 0) (N := some 15) (v := ?_) (a' := ?_) #[true, false, false, false, false, false, false, false, false, false, false] rfl rfl (any_of HT_.out (by kernel_rfl)) (fun _ _ _ h => h) (Or.inl ⟨by rfl, ?_⟩) ?_ ?_
 rotate_left
 ·
  intro w'
  go_simp
  first | with_reducible rfl | (rw [if_neg (by have q_ := (‹(_ : Nat) + ByteArray.size _ ≤ 9223372036854775807›); simp only [ByteArray.size_extract, show (⟨#[48, 49, 50, 51, 52, 53, 54, 55, 56, 57]⟩ : ByteArray).size = 10 from rfl] at q_; omega)])
 rotate_left; · exact zqA
 refine pure_ (i := 1) (N := some 16) (v := ?_) (a' := ?_) #[true, true, false, false, false, false, false, false, false, false, false] rfl rfl (any_of HT_.out (by kernel_rfl)) (fun _ _ _ h => h) (Or.inl ⟨by rfl, ?_⟩) ?_ ?_
 rotate_left
 ·
  intro w'
  go_simp
  first | with_reducible rfl | (rw [if_neg (by have q_ := (‹(_ : Nat) + ByteArray.size _ ≤ 9223372036854775807›); simp only [ByteArray.size_extract, show (⟨#[48, 49, 50, 51, 52, 53, 54, 55, 56, 57]⟩ : ByteArray).size = 10 from rfl] at q_; omega)])
 rotate_left; · exact zqA
 refine pure_ (i := 3) (N := some 18) (v := ?_) (a' := ?_) #[true, true, false, true, false, false, false, false, false, false, false] rfl rfl (any_of HT_.out (by kernel_rfl)) (fun _ _ _ h => h) (Or.inl ⟨by rfl, ?_⟩) ?_ ?_
 rotate_left
 ·
  intro w'
  go_simp
  first | with_reducible rfl | (rw [if_neg (by have q_ := (‹(_ : Nat) + ByteArray.size _ ≤ 9223372036854775807›); simp only [ByteArray.size_extract, show (⟨#[48, 49, 50, 51, 52, 53, 54, 55, 56, 57]⟩ : ByteArray).size = 10 from rfl] at q_; omega)])
 rotate_left; · exact zqA
 refine pure_ (i := 4) (N := some 19) (v := ?_) (a' := ?_) #[true, true, false, true, true, false, false, false, false, false, false] rfl rfl (any_of HT_.out (by kernel_rfl)) (fun _ _ _ h => h) (Or.inl ⟨by rfl, ?_⟩) ?_ ?_
 rotate_left
 ·
  intro w'
  go_simp
  first | with_reducible rfl | (rw [if_neg (by have q_ := (‹(_ : Nat) + ByteArray.size _ ≤ 9223372036854775807›); simp only [ByteArray.size_extract, show (⟨#[48, 49, 50, 51, 52, 53, 54, 55, 56, 57]⟩ : ByteArray).size = 10 from rfl] at q_; omega)])
 rotate_left; · exact zqA
 refine pure_ (i := 5) (N := some 20) (v := ?_) (a' := ?_) #[true, true, false, true, true, true, false, false, false, false, false] rfl rfl (any_of HT_.out (by kernel_rfl)) (fun _ _ _ h => h) (Or.inl ⟨by rfl, ?_⟩) ?_ ?_
 rotate_left
 ·
  intro w'
  go_simp
  first | with_reducible rfl | (rw [if_neg (by have q_ := (‹(_ : Nat) + ByteArray.size _ ≤ 9223372036854775807›); simp only [ByteArray.size_extract, show (⟨#[48, 49, 50, 51, 52, 53, 54, 55, 56, 57]⟩ : ByteArray).size = 10 from rfl] at q_; omega)])
 rotate_left; · exact zqA
 refine pure_ (i := 6) (N := some 21) (v := ?_) (a' := ?_) #[true, true, false, true, true, true, true, false, false, false, false] rfl rfl (any_of HT_.out (by kernel_rfl)) (fun _ _ _ h => h) (Or.inl ⟨by rfl, ?_⟩) ?_ ?_
 rotate_left
 ·
  intro w'
  go_simp
  first | with_reducible rfl | (rw [if_neg (by have q_ := (‹(_ : Nat) + ByteArray.size _ ≤ 9223372036854775807›); simp only [ByteArray.size_extract, show (⟨#[48, 49, 50, 51, 52, 53, 54, 55, 56, 57]⟩ : ByteArray).size = 10 from rfl] at q_; omega)])
 rotate_left; · exact zqA
 refine pure_ (i := 7) (N := some 22) (v := ?_) (a' := ?_) #[true, true, false, true, true, true, true, true, false, false, false] rfl rfl (any_of HT_.out (by kernel_rfl)) (fun _ _ _ h => h) (Or.inl ⟨by rfl, ?_⟩) ?_ ?_
 rotate_left
 ·
  intro w'
  go_simp
  first | with_reducible rfl | (rw [if_neg (by have q_ := (‹(_ : Nat) + ByteArray.size _ ≤ 9223372036854775807›); simp only [ByteArray.size_extract, show (⟨#[48, 49, 50, 51, 52, 53, 54, 55, 56, 57]⟩ : ByteArray).size = 10 from rfl] at q_; omega)])
 rotate_left; · exact zqA
 refine pure_ (i := 8) (N := some 23) (v := ?_) (a' := ?_) #[true, true, false, true, true, true, true, true, true, false, false] rfl rfl (any_of HT_.out (by kernel_rfl)) (fun _ _ _ h => h) (Or.inl ⟨by rfl, ?_⟩) ?_ ?_
 rotate_left
 ·
  intro w'
  go_simp
  first | with_reducible rfl | (rw [if_neg (by have q_ := (‹(_ : Nat) + ByteArray.size _ ≤ 9223372036854775807›); simp only [ByteArray.size_extract, show (⟨#[48, 49, 50, 51, 52, 53, 54, 55, 56, 57]⟩ : ByteArray).size = 10 from rfl] at q_; omega)])
 rotate_left; · exact zqA
 refine one_ (i := 2) (N := some 17) #[true, true, true, true, true, true, true, true, true, false, false] rfl rfl (one_of HT_.out (by kernel_rfl)) (by decide) (fun K hK => ?_)
 refine goes_ Tryd.func23 (by kernel_rfl) rfl #[.int .i64 (wrap64 (Int.tdiv a0 10))] (by rfl) rfl rfl zq1 ?_
 with_reducible refine (ih k (by omega) (wrap64 (Int.tdiv a0 10)) t205 _ A10.out).mono ?_
 rintro e w17 ⟨rfl, hb⟩
 refine ⟨_, rfl, ?_⟩
 have n0_ := Aside0.mk (below_step zq0 hb)
 clear HB
 have HB := n0_
 clear n0_
 (try clear hb)
 (try clear hb2)
 (try clear hk)
 (try clear hi)
 refine hK.out _ _ trivial (fun hHeld => ?_)
 clear hK K
 refine norm_ (a' := ?_) ?_ ?_
 rotate_left
 ·
  show Act.put _ (some 17) _ = _
  simp only [Act.put, List.setIfInBounds_toArray, List.set_cons_zero, List.set_cons_succ, i64_w, i32_w]
  rfl
 refine pure_ (i := 9) (N := some 24) (v := ?_) (a' := ?_) #[true, true, true, true, true, true, true, true, true, true, false] rfl rfl (any_of HT_.out (by kernel_rfl)) (fun _ _ _ h => h) (Or.inl ⟨by rfl, ?_⟩) ?_ ?_
 rotate_left
 ·
  intro w'
  go_simp
  first | with_reducible rfl | (rw [if_neg (by have q_ := (‹(_ : Nat) + ByteArray.size _ ≤ 9223372036854775807›); simp only [ByteArray.size_extract, show (⟨#[48, 49, 50, 51, 52, 53, 54, 55, 56, 57]⟩ : ByteArray).size = 10 from rfl] at q_; omega)])
 rotate_left; · exact zqA
 refine pure_ (i := 10) (N := some 2) (v := ?_) (a' := ?_) #[true, true, true, true, true, true, true, true, true, true, true] rfl rfl (any_of HT_.out (by kernel_rfl)) (fun _ _ _ h => h) (Or.inl ⟨by rfl, ?_⟩) ?_ ?_
 rotate_left
 ·
  intro w'
  go_simp
  first | with_reducible rfl | (rw [if_neg (by have q_ := (‹(_ : Nat) + ByteArray.size _ ≤ 9223372036854775807›); simp only [ByteArray.size_extract, show (⟨#[48, 49, 50, 51, 52, 53, 54, 55, 56, 57]⟩ : ByteArray).size = 10 from rfl] at q_; omega)])
 rotate_left; · exact zqA
 refine done_ (done_of HT_.out (by kernel_rfl)) ?_
 try go_wp2
 go_ret
 exact ⟨by first | rfl | (simp [errW_none, errW_some] <;> rfl) | (simp only [← hji11]; first | rfl | (simp [errW_none, errW_some] <;> rfl)) | (simp [*, errW_none, errW_some] <;> rfl), zq0⟩

/-! ### spec_ShortWarning: function 7 -/
def spec_ShortWarning.f (k : Nat) (a0_0 : Int) (a0_1 : Int) (a0_2 : Int) (a0_3 : Int) (a0_4 : Int) (a0_5 : Int) : Option (ByteArray × Bool) := (spec_l14Good.f a0_0 a0_1 a0_2 a0_3 a0_4 a0_5).bind fun t207 => (if t207 = true then ((some (([(⟨#[]⟩ : ByteArray), (⟨#[87]⟩ : ByteArray), (⟨#[82]⟩ : ByteArray), (⟨#[83, 78]⟩ : ByteArray), (⟨#[72]⟩ : ByteArray), (⟨#[83, 84]⟩ : ByteArray)] : List ByteArray) : List ByteArray)).bind fun y208 => ((spec_l16Levels.f).bind fun t211 => (if 0 ≤ a0_2 then (if a0_2 < (t211.length : Int) then (if 0 ≤ 1 then (if 1 ≤ ((rdOf ByteArray.empty t211 a0_2).size : Int) then (if ((rdOf ByteArray.empty t211 a0_2).extract 0 1).size + 1 ≤ 9223372036854775807 then ((spec_l1Num.f k a0_3).bind fun t215 => (if (((rdOf ByteArray.empty t211 a0_2).extract 0 1) ++ (⟨#[47]⟩ : ByteArray)).size + t215.size ≤ 9223372036854775807 then (if ((((rdOf ByteArray.empty t211 a0_2).extract 0 1) ++ (⟨#[47]⟩ : ByteArray)) ++ t215).size + 1 ≤ 9223372036854775807 then (if 0 ≤ a0_1 then (if a0_1 < (y208.length : Int) then (if (((((rdOf ByteArray.empty t211 a0_2).extract 0 1) ++ (⟨#[47]⟩ : ByteArray)) ++ t215) ++ (⟨#[47]⟩ : ByteArray)).size + (rdOf ByteArray.empty y208 a0_1).size ≤ 9223372036854775807 then (if ((((((rdOf ByteArray.empty t211 a0_2).extract 0 1) ++ (⟨#[47]⟩ : ByteArray)) ++ t215) ++ (⟨#[47]⟩ : ByteArray)) ++ (rdOf ByteArray.empty y208 a0_1)).size + 1 ≤ 9223372036854775807 then ((spec_l1Num.f k a0_4).bind fun t217 => (if (((((((rdOf ByteArray.empty t211 a0_2).extract 0 1) ++ (⟨#[47]⟩ : ByteArray)) ++ t215) ++ (⟨#[47]⟩ : ByteArray)) ++ (rdOf ByteArray.empty y208 a0_1)) ++ (⟨#[47]⟩ : ByteArray)).size + t217.size ≤ 9223372036854775807 then (if ((((((((rdOf ByteArray.empty t211 a0_2).extract 0 1) ++ (⟨#[47]⟩ : ByteArray)) ++ t215) ++ (⟨#[47]⟩ : ByteArray)) ++ (rdOf ByteArray.empty y208 a0_1)) ++ (⟨#[47]⟩ : ByteArray)) ++ t217).size + 1 ≤ 9223372036854775807 then ((spec_l1Num.f k a0_5).bind fun t218 => (if (((((((((rdOf ByteArray.empty t211 a0_2).extract 0 1) ++ (⟨#[47]⟩ : ByteArray)) ++ t215) ++ (⟨#[47]⟩ : ByteArray)) ++ (rdOf ByteArray.empty y208 a0_1)) ++ (⟨#[47]⟩ : ByteArray)) ++ t217) ++ (⟨#[45]⟩ : ByteArray)).size + t218.size ≤ 9223372036854775807 then (some ((((((((((rdOf ByteArray.empty t211 a0_2).extract 0 1) ++ (⟨#[47]⟩ : ByteArray)) ++ t215) ++ (⟨#[47]⟩ : ByteArray)) ++ (rdOf ByteArray.empty y208 a0_1)) ++ (⟨#[47]⟩ : ByteArray)) ++ t217) ++ (⟨#[45]⟩ : ByteArray)) ++ t218, true)) else (none))) else (none)) else (none))) else (none)) else (none)) else (none)) else (none)) else (none)) else (none))) else (none)) else (none)) else (none)) else (none)) else (none)))) else (some ((⟨#[]⟩ : ByteArray), false)))
theorem spec_ShortWarning.mono : ∀ a0 a1 a2 a3 a4 a5 k, LeO (spec_ShortWarning.f k a0 a1 a2 a3 a4 a5) (spec_ShortWarning.f (k + 1) a0 a1 a2 a3 a4 a5) := by
 intro a0 a1 a2 a3 a4 a5 k
 unfold spec_ShortWarning.f
 repeat' first
   | (with_reducible exact spec_l1Num.mono _ _)
   | (with_reducible exact LeO.refl _)
   | (with_reducible exact LeO.none _)
   | (with_reducible refine LeO.ite ?_ ?_)
   | (with_reducible refine LeO.bind ?_ (fun _ => ?_))
   | exact spec_l1Num.mono _ _
   | exact LeO.none _
   | refine LeO.ite ?_ ?_
   | refine LeO.bind ?_ (fun _ => ?_)
def spec_ShortWarning.T4 : Bool × List (List Nat × List Nat) := (true, [([], []), ([], []), ([1], [1]), ([0, 2], [0, 2]), ([3], [3]), ([4], [4]), ([5], [5]), ([], []), ([7], [7]), ([8, 0], [8]), ([6, 9], [6, 9]), ([10], [10]), ([], []), ([], []), ([13], [13]), ([12, 14], [12, 14]), ([15], [15]), ([11, 16], [11, 16]), ([17], [17]), ([], []), ([19], [19]), ([20, 9], [20]), ([18, 21], [18, 21]), ([22], [22]), ([], []), ([24], [24]), ([25, 21], [25]), ([23, 26], [23, 26]), ([27, 26, 0, 1, 2, 3, 4, 5, 6, 7, 8, 9, 10, 11, 12, 13, 14, 15, 16, 17, 18, 19, 20, 21, 22, 23, 24, 25, 26, 27], [27]), ([28, 0, 1, 2, 3, 4, 5, 6, 7, 8, 9, 10, 11, 12, 13, 14, 15, 16, 17, 18, 19, 20, 21, 22, 23, 24, 25, 26, 27, 28], [])])
def spec_ShortWarning.B4 : List Nat := [0, 0, 2, 7, 15, 31, 63, 0, 128, 385, 1023, 2047, 0, 0, 8192, 28672, 61440, 131071, 262143, 0, 524288, 1573761, 4194303, 8388607, 0, 16777216, 54002561, 134217727, 268435455, 536870911]
theorem spec_ShortWarning.tab4 : rtab .any (opsOf Tryd.f7 4) = spec_ShortWarning.T4 := by kernel_rfl
theorem spec_ShortWarning.bits4 : waitsOk spec_ShortWarning.T4.2 spec_ShortWarning.B4 = true := by kernel_rfl
set_option maxHeartbeats 8000000 in
set_option maxRecDepth 100000 in
theorem spec_ShortWarning.calls (k : Nat) (a0_0 : Int) (a0_1 : Int) (a0_2 : Int) (a0_3 : Int) (a0_4 : Int) (a0_5 : Int) (r1 : ByteArray) (r2 : Bool) (w : World) (h : spec_ShortWarning.f k a0_0 a0_1 a0_2 a0_3 a0_4 a0_5 = some (r1, r2)) :
  Calls Tryd.prog 7 #[.agg #[.int .i64 a0_0, .int .i64 a0_1, .int .i64 a0_2, .int .i64 a0_3, .int .i64 a0_4, .int .i64 a0_5]] w fun e w' => e = .returned (.tuple #[.string r1, .bool r2]) ∧ Below w.heap.size w w' := by
 have hu25 := Tryd.underlying25
 have HB := Aside0.mk (Below.refl w.heap.size w)
 have H : ((spec_l14Good.f a0_0 a0_1 a0_2 a0_3 a0_4 a0_5).bind fun t207 => (if t207 = true then ((some (([(⟨#[]⟩ : ByteArray), (⟨#[87]⟩ : ByteArray), (⟨#[82]⟩ : ByteArray), (⟨#[83, 78]⟩ : ByteArray), (⟨#[72]⟩ : ByteArray), (⟨#[83, 84]⟩ : ByteArray)] : List ByteArray) : List ByteArray)).bind fun y208 => ((spec_l16Levels.f).bind fun t211 => (if 0 ≤ a0_2 then (if a0_2 < (t211.length : Int) then (if 0 ≤ 1 then (if 1 ≤ ((rdOf ByteArray.empty t211 a0_2).size : Int) then (if ((rdOf ByteArray.empty t211 a0_2).extract 0 1).size + 1 ≤ 9223372036854775807 then ((spec_l1Num.f k a0_3).bind fun t215 => (if (((rdOf ByteArray.empty t211 a0_2).extract 0 1) ++ (⟨#[47]⟩ : ByteArray)).size + t215.size ≤ 9223372036854775807 then (if ((((rdOf ByteArray.empty t211 a0_2).extract 0 1) ++ (⟨#[47]⟩ : ByteArray)) ++ t215).size + 1 ≤ 9223372036854775807 then (if 0 ≤ a0_1 then (if a0_1 < (y208.length : Int) then (if (((((rdOf ByteArray.empty t211 a0_2).extract 0 1) ++ (⟨#[47]⟩ : ByteArray)) ++ t215) ++ (⟨#[47]⟩ : ByteArray)).size + (rdOf ByteArray.empty y208 a0_1).size ≤ 9223372036854775807 then (if ((((((rdOf ByteArray.empty t211 a0_2).extract 0 1) ++ (⟨#[47]⟩ : ByteArray)) ++ t215) ++ (⟨#[47]⟩ : ByteArray)) ++ (rdOf ByteArray.empty y208 a0_1)).size + 1 ≤ 9223372036854775807 then ((spec_l1Num.f k a0_4).bind fun t217 => (if (((((((rdOf ByteArray.empty t211 a0_2).extract 0 1) ++ (⟨#[47]⟩ : ByteArray)) ++ t215) ++ (⟨#[47]⟩ : ByteArray)) ++ (rdOf ByteArray.empty y208 a0_1)) ++ (⟨#[47]⟩ : ByteArray)).size + t217.size ≤ 9223372036854775807 then (if ((((((((rdOf ByteArray.empty t211 a0_2).extract 0 1) ++ (⟨#[47]⟩ : ByteArray)) ++ t215) ++ (⟨#[47]⟩ : ByteArray)) ++ (rdOf ByteArray.empty y208 a0_1)) ++ (⟨#[47]⟩ : ByteArray)) ++ t217).size + 1 ≤ 9223372036854775807 then ((spec_l1Num.f k a0_5).bind fun t218 => (if (((((((((rdOf ByteArray.empty t211 a0_2).extract 0 1) ++ (⟨#[47]⟩ : ByteArray)) ++ t215) ++ (⟨#[47]⟩ : ByteArray)) ++ (rdOf ByteArray.empty y208 a0_1)) ++ (⟨#[47]⟩ : ByteArray)) ++ t217) ++ (⟨#[45]⟩ : ByteArray)).size + t218.size ≤ 9223372036854775807 then (some ((((((((((rdOf ByteArray.empty t211 a0_2).extract 0 1) ++ (⟨#[47]⟩ : ByteArray)) ++ t215) ++ (⟨#[47]⟩ : ByteArray)) ++ (rdOf ByteArray.empty y208 a0_1)) ++ (⟨#[47]⟩ : ByteArray)) ++ t217) ++ (⟨#[45]⟩ : ByteArray)) ++ t218, true)) else (none))) else (none)) else (none))) else (none)) else (none)) else (none)) else (none)) else (none)) else (none))) else (none)) else (none)) else (none)) else (none)) else (none)))) else (some ((⟨#[]⟩ : ByteArray), false)))) = some (r1, r2) := h
 clear h
 replace H := Option.bind_eq_some_iff.mp H
 obtain ⟨t207, A20, H⟩ := H
 replace H : (if t207 = true then ((some (([(⟨#[]⟩ : ByteArray), (⟨#[87]⟩ : ByteArray), (⟨#[82]⟩ : ByteArray), (⟨#[83, 78]⟩ : ByteArray), (⟨#[72]⟩ : ByteArray), (⟨#[83, 84]⟩ : ByteArray)] : List ByteArray) : List ByteArray)).bind fun y208 => ((spec_l16Levels.f).bind fun t211 => (if 0 ≤ a0_2 then (if a0_2 < (t211.length : Int) then (if 0 ≤ 1 then (if 1 ≤ ((rdOf ByteArray.empty t211 a0_2).size : Int) then (if ((rdOf ByteArray.empty t211 a0_2).extract 0 1).size + 1 ≤ 9223372036854775807 then ((spec_l1Num.f k a0_3).bind fun t215 => (if (((rdOf ByteArray.empty t211 a0_2).extract 0 1) ++ (⟨#[47]⟩ : ByteArray)).size + t215.size ≤ 9223372036854775807 then (if ((((rdOf ByteArray.empty t211 a0_2).extract 0 1) ++ (⟨#[47]⟩ : ByteArray)) ++ t215).size + 1 ≤ 9223372036854775807 then (if 0 ≤ a0_1 then (if a0_1 < (y208.length : Int) then (if (((((rdOf ByteArray.empty t211 a0_2).extract 0 1) ++ (⟨#[47]⟩ : ByteArray)) ++ t215) ++ (⟨#[47]⟩ : ByteArray)).size + (rdOf ByteArray.empty y208 a0_1).size ≤ 9223372036854775807 then (if ((((((rdOf ByteArray.empty t211 a0_2).extract 0 1) ++ (⟨#[47]⟩ : ByteArray)) ++ t215) ++ (⟨#[47]⟩ : ByteArray)) ++ (rdOf ByteArray.empty y208 a0_1)).size + 1 ≤ 9223372036854775807 then ((spec_l1Num.f k a0_4).bind fun t217 => (if (((((((rdOf ByteArray.empty t211 a0_2).extract 0 1) ++ (⟨#[47]⟩ : ByteArray)) ++ t215) ++ (⟨#[47]⟩ : ByteArray)) ++ (rdOf ByteArray.empty y208 a0_1)) ++ (⟨#[47]⟩ : ByteArray)).size + t217.size ≤ 9223372036854775807 then (if ((((((((rdOf ByteArray.empty t211 a0_2).extract 0 1) ++ (⟨#[47]⟩ : ByteArray)) ++ t215) ++ (⟨#[47]⟩ : ByteArray)) ++ (rdOf ByteArray.empty y208 a0_1)) ++ (⟨#[47]⟩ : ByteArray)) ++ t217).size + 1 ≤ 9223372036854775807 then ((spec_l1Num.f k a0_5).bind fun t218 => (if (((((((((rdOf ByteArray.empty t211 a0_2).extract 0 1) ++ (⟨#[47]⟩ : ByteArray)) ++ t215) ++ (⟨#[47]⟩ : ByteArray)) ++ (rdOf ByteArray.empty y208 a0_1)) ++ (⟨#[47]⟩ : ByteArray)) ++ t217) ++ (⟨#[45]⟩ : ByteArray)).size + t218.size ≤ 9223372036854775807 then (some ((((((((((rdOf ByteArray.empty t211 a0_2).extract 0 1) ++ (⟨#[47]⟩ : ByteArray)) ++ t215) ++ (⟨#[47]⟩ : ByteArray)) ++ (rdOf ByteArray.empty y208 a0_1)) ++ (⟨#[47]⟩ : ByteArray)) ++ t217) ++ (⟨#[45]⟩ : ByteArray)) ++ t218, true)) else (none))) else (none)) else (none))) else (none)) else (none)) else (none)) else (none)) else (none)) else (none))) else (none)) else (none)) else (none)) else (none)) else (none)))) else (some ((⟨#[]⟩ : ByteArray), false))) = some (r1, r2) := H
 have A2 := Aside0.mk A20
 clear A20
 by_cases c3 : t207 = true
 case neg =>
  replace c3 := Bool.eq_false_iff.mpr c3
  subst c3
  have H1 : (some ((⟨#[]⟩ : ByteArray), false)) = some (r1, r2) := by rw [if_neg (show ¬ (false = true) by decide)] at H; exact H
  clear H
  have H := H1
  clear H1
  simp only [Option.some.injEq, Prod.mk.injEq] at H
  obtain ⟨rfl, rfl⟩ := H
  go_enter Tryd.func7, Tryd.ntmps7
  go_wp2_with (first | ((with_reducible refine gate_dst (N := 1) rfl ?_); refine box_event ?hg (N := 1) ?hd (cs := #[.int .i64 a0_0, .int .i64 a0_1, .int .i64 a0_2, .int .i64 a0_3, .int .i64 a0_4, .int .i64 a0_5]) (t := 25) ?hr ?_; (case hd => rfl); (case hg => rfl); (case hr => exact zqS); intro gb206 hg w34 hbox hb; have n0_ := Aside0.mk (below_step zq0 hb); have n1_ := Aside0.mk (hbox); have n2_ := Aside0.mk ((by rw [hg]; exact (below_size zq0) : w.heap.size ≤ gb206)); have n3_ := n2_; clear HB; have HB := n0_; have BK206 := n1_; have GW206 := n2_; have GE206 := n3_; clear n0_ n1_ n2_ n3_; clear hb hbox hg; obtain ⟨hcz35_0, hcz35_1, hcz35_2, hcz35_3, hcz35_4, hcz35_5, hfz35_0, hfz35_1, hfz35_2, hfz35_3, hfz35_4, hfz35_5⟩ := bz6 BK206.out) | ((with_reducible refine gate_callee (f := 21) rfl ?_); refine goesL_ (some 6) rfl rfl Tryd.func21 (by kernel_rfl) rfl #[.agg #[.int .i64 a0_0, .int .i64 a0_1, .int .i64 a0_2, .int .i64 a0_3, .int .i64 a0_4, .int .i64 a0_5]] rfl zq1 ?_; (with_reducible refine (spec_l14Good.calls a0_0 a0_1 a0_2 a0_3 a0_4 a0_5 false _ A2.out).mono ?_); rintro e w36 ⟨rfl, hb⟩; refine ⟨_, rfl, ?_⟩; have n0_ := Aside0.mk (blk_below (g := gb206) (o := .cells #[.int .i64 a0_0, .int .i64 a0_1, .int .i64 a0_2, .int .i64 a0_3, .int .i64 a0_4, .int .i64 a0_5] 25 (0, 0)) (zqK BK206.out) hb); have n1_ := Aside0.mk (below_step zq18 hb); clear BK206; clear HB; have BK206 := n0_; have HB := n1_; clear n0_ n1_; (try clear hb); (try clear hb2); (try clear hk); (try clear hi)))
  go_ret2
  exact ⟨zqE, zq18⟩
 subst c3
 have H1 : ((some (([(⟨#[]⟩ : ByteArray), (⟨#[87]⟩ : ByteArray), (⟨#[82]⟩ : ByteArray), (⟨#[83, 78]⟩ : ByteArray), (⟨#[72]⟩ : ByteArray), (⟨#[83, 84]⟩ : ByteArray)] : List ByteArray) : List ByteArray)).bind fun y208 => ((spec_l16Levels.f).bind fun t211 => (if 0 ≤ a0_2 then (if a0_2 < (t211.length : Int) then (if 0 ≤ 1 then (if 1 ≤ ((rdOf ByteArray.empty t211 a0_2).size : Int) then (if ((rdOf ByteArray.empty t211 a0_2).extract 0 1).size + 1 ≤ 9223372036854775807 then ((spec_l1Num.f k a0_3).bind fun t215 => (if (((rdOf ByteArray.empty t211 a0_2).extract 0 1) ++ (⟨#[47]⟩ : ByteArray)).size + t215.size ≤ 9223372036854775807 then (if ((((rdOf ByteArray.empty t211 a0_2).extract 0 1) ++ (⟨#[47]⟩ : ByteArray)) ++ t215).size + 1 ≤ 9223372036854775807 then (if 0 ≤ a0_1 then (if a0_1 < (y208.length : Int) then (if (((((rdOf ByteArray.empty t211 a0_2).extract 0 1) ++ (⟨#[47]⟩ : ByteArray)) ++ t215) ++ (⟨#[47]⟩ : ByteArray)).size + (rdOf ByteArray.empty y208 a0_1).size ≤ 9223372036854775807 then (if ((((((rdOf ByteArray.empty t211 a0_2).extract 0 1) ++ (⟨#[47]⟩ : ByteArray)) ++ t215) ++ (⟨#[47]⟩ : ByteArray)) ++ (rdOf ByteArray.empty y208 a0_1)).size + 1 ≤ 9223372036854775807 then ((spec_l1Num.f k a0_4).bind fun t217 => (if (((((((rdOf ByteArray.empty t211 a0_2).extract 0 1) ++ (⟨#[47]⟩ : ByteArray)) ++ t215) ++ (⟨#[47]⟩ : ByteArray)) ++ (rdOf ByteArray.empty y208 a0_1)) ++ (⟨#[47]⟩ : ByteArray)).size + t217.size ≤ 9223372036854775807 then (if ((((((((rdOf ByteArray.empty t211 a0_2).extract 0 1) ++ (⟨#[47]⟩ : ByteArray)) ++ t215) ++ (⟨#[47]⟩ : ByteArray)) ++ (rdOf ByteArray.empty y208 a0_1)) ++ (⟨#[47]⟩ : ByteArray)) ++ t217).size + 1 ≤ 9223372036854775807 then ((spec_l1Num.f k a0_5).bind fun t218 => (if (((((((((rdOf ByteArray.empty t211 a0_2).extract 0 1) ++ (⟨#[47]⟩ : ByteArray)) ++ t215) ++ (⟨#[47]⟩ : ByteArray)) ++ (rdOf ByteArray.empty y208 a0_1)) ++ (⟨#[47]⟩ : ByteArray)) ++ t217) ++ (⟨#[45]⟩ : ByteArray)).size + t218.size ≤ 9223372036854775807 then (some ((((((((((rdOf ByteArray.empty t211 a0_2).extract 0 1) ++ (⟨#[47]⟩ : ByteArray)) ++ t215) ++ (⟨#[47]⟩ : ByteArray)) ++ (rdOf ByteArray.empty y208 a0_1)) ++ (⟨#[47]⟩ : ByteArray)) ++ t217) ++ (⟨#[45]⟩ : ByteArray)) ++ t218, true)) else (none))) else (none)) else (none))) else (none)) else (none)) else (none)) else (none)) else (none)) else (none))) else (none)) else (none)) else (none)) else (none)) else (none)))) = some (r1, r2) := by rw [if_pos rfl] at H; exact H
 clear H
 have H := H1
 clear H1
 obtain ⟨y208, hy208⟩ : ∃ y_ : List ByteArray, y_ = (([(⟨#[]⟩ : ByteArray), (⟨#[87]⟩ : ByteArray), (⟨#[82]⟩ : ByteArray), (⟨#[83, 78]⟩ : ByteArray), (⟨#[72]⟩ : ByteArray), (⟨#[83, 84]⟩ : ByteArray)] : List ByteArray)) := ⟨_, rfl⟩
 replace H : ((spec_l16Levels.f).bind fun t211 => (if 0 ≤ a0_2 then (if a0_2 < (t211.length : Int) then (if 0 ≤ 1 then (if 1 ≤ ((rdOf ByteArray.empty t211 a0_2).size : Int) then (if ((rdOf ByteArray.empty t211 a0_2).extract 0 1).size + 1 ≤ 9223372036854775807 then ((spec_l1Num.f k a0_3).bind fun t215 => (if (((rdOf ByteArray.empty t211 a0_2).extract 0 1) ++ (⟨#[47]⟩ : ByteArray)).size + t215.size ≤ 9223372036854775807 then (if ((((rdOf ByteArray.empty t211 a0_2).extract 0 1) ++ (⟨#[47]⟩ : ByteArray)) ++ t215).size + 1 ≤ 9223372036854775807 then (if 0 ≤ a0_1 then (if a0_1 < (y208.length : Int) then (if (((((rdOf ByteArray.empty t211 a0_2).extract 0 1) ++ (⟨#[47]⟩ : ByteArray)) ++ t215) ++ (⟨#[47]⟩ : ByteArray)).size + (rdOf ByteArray.empty y208 a0_1).size ≤ 9223372036854775807 then (if ((((((rdOf ByteArray.empty t211 a0_2).extract 0 1) ++ (⟨#[47]⟩ : ByteArray)) ++ t215) ++ (⟨#[47]⟩ : ByteArray)) ++ (rdOf ByteArray.empty y208 a0_1)).size + 1 ≤ 9223372036854775807 then ((spec_l1Num.f k a0_4).bind fun t217 => (if (((((((rdOf ByteArray.empty t211 a0_2).extract 0 1) ++ (⟨#[47]⟩ : ByteArray)) ++ t215) ++ (⟨#[47]⟩ : ByteArray)) ++ (rdOf ByteArray.empty y208 a0_1)) ++ (⟨#[47]⟩ : ByteArray)).size + t217.size ≤ 9223372036854775807 then (if ((((((((rdOf ByteArray.empty t211 a0_2).extract 0 1) ++ (⟨#[47]⟩ : ByteArray)) ++ t215) ++ (⟨#[47]⟩ : ByteArray)) ++ (rdOf ByteArray.empty y208 a0_1)) ++ (⟨#[47]⟩ : ByteArray)) ++ t217).size + 1 ≤ 9223372036854775807 then ((spec_l1Num.f k a0_5).bind fun t218 => (if (((((((((rdOf ByteArray.empty t211 a0_2).extract 0 1) ++ (⟨#[47]⟩ : ByteArray)) ++ t215) ++ (⟨#[47]⟩ : ByteArray)) ++ (rdOf ByteArray.empty y208 a0_1)) ++ (⟨#[47]⟩ : ByteArray)) ++ t217) ++ (⟨#[45]⟩ : ByteArray)).size + t218.size ≤ 9223372036854775807 then (some ((((((((((rdOf ByteArray.empty t211 a0_2).extract 0 1) ++ (⟨#[47]⟩ : ByteArray)) ++ t215) ++ (⟨#[47]⟩ : ByteArray)) ++ (rdOf ByteArray.empty y208 a0_1)) ++ (⟨#[47]⟩ : ByteArray)) ++ t217) ++ (⟨#[45]⟩ : ByteArray)) ++ t218, true)) else (none))) else (none)) else (none))) else (none)) else (none)) else (none)) else (none)) else (none)) else (none))) else (none)) else (none)) else (none)) else (none)) else (none))) = some (r1, r2) := zqH hy208 H
 have Ny208 := Aside0.mk hy208
 clear hy208
 replace H := Option.bind_eq_some_iff.mp H
 obtain ⟨t211, A40, H⟩ := H
 replace H : (if 0 ≤ a0_2 then (if a0_2 < (t211.length : Int) then (if 0 ≤ 1 then (if 1 ≤ ((rdOf ByteArray.empty t211 a0_2).size : Int) then (if ((rdOf ByteArray.empty t211 a0_2).extract 0 1).size + 1 ≤ 9223372036854775807 then ((spec_l1Num.f k a0_3).bind fun t215 => (if (((rdOf ByteArray.empty t211 a0_2).extract 0 1) ++ (⟨#[47]⟩ : ByteArray)).size + t215.size ≤ 9223372036854775807 then (if ((((rdOf ByteArray.empty t211 a0_2).extract 0 1) ++ (⟨#[47]⟩ : ByteArray)) ++ t215).size + 1 ≤ 9223372036854775807 then (if 0 ≤ a0_1 then (if a0_1 < (y208.length : Int) then (if (((((rdOf ByteArray.empty t211 a0_2).extract 0 1) ++ (⟨#[47]⟩ : ByteArray)) ++ t215) ++ (⟨#[47]⟩ : ByteArray)).size + (rdOf ByteArray.empty y208 a0_1).size ≤ 9223372036854775807 then (if ((((((rdOf ByteArray.empty t211 a0_2).extract 0 1) ++ (⟨#[47]⟩ : ByteArray)) ++ t215) ++ (⟨#[47]⟩ : ByteArray)) ++ (rdOf ByteArray.empty y208 a0_1)).size + 1 ≤ 9223372036854775807 then ((spec_l1Num.f k a0_4).bind fun t217 => (if (((((((rdOf ByteArray.empty t211 a0_2).extract 0 1) ++ (⟨#[47]⟩ : ByteArray)) ++ t215) ++ (⟨#[47]⟩ : ByteArray)) ++ (rdOf ByteArray.empty y208 a0_1)) ++ (⟨#[47]⟩ : ByteArray)).size + t217.size ≤ 9223372036854775807 then (if ((((((((rdOf ByteArray.empty t211 a0_2).extract 0 1) ++ (⟨#[47]⟩ : ByteArray)) ++ t215) ++ (⟨#[47]⟩ : ByteArray)) ++ (rdOf ByteArray.empty y208 a0_1)) ++ (⟨#[47]⟩ : ByteArray)) ++ t217).size + 1 ≤ 9223372036854775807 then ((spec_l1Num.f k a0_5).bind fun t218 => (if (((((((((rdOf ByteArray.empty t211 a0_2).extract 0 1) ++ (⟨#[47]⟩ : ByteArray)) ++ t215) ++ (⟨#[47]⟩ : ByteArray)) ++ (rdOf ByteArray.empty y208 a0_1)) ++ (⟨#[47]⟩ : ByteArray)) ++ t217) ++ (⟨#[45]⟩ : ByteArray)).size + t218.size ≤ 9223372036854775807 then (some ((((((((((rdOf ByteArray.empty t211 a0_2).extract 0 1) ++ (⟨#[47]⟩ : ByteArray)) ++ t215) ++ (⟨#[47]⟩ : ByteArray)) ++ (rdOf ByteArray.empty y208 a0_1)) ++ (⟨#[47]⟩ : ByteArray)) ++ t217) ++ (⟨#[45]⟩ : ByteArray)) ++ t218, true)) else (none))) else (none)) else (none))) else (none)) else (none)) else (none)) else (none)) else (none)) else (none))) else (none)) else (none)) else (none)) else (none)) else (none)) = some (r1, r2) := H
 have A4 := Aside0.mk A40
 clear A40
 by_cases c5 : 0 ≤ a0_2
 case neg =>
  rw [if_neg c5] at H
  exact absurd H (by simp)
 rw [if_pos c5] at H
 have c5b0 : decide (0 ≤ a0_2) = true := decide_eq_true c5
 clear c5
 by_cases c6 : a0_2 < (t211.length : Int)
 case neg =>
  rw [if_neg c6] at H
  exact absurd H (by simp)
 rw [if_pos c6] at H
 have c6b0 : decide (a0_2 < (t211.length : Int)) = true := decide_eq_true c6
 clear c6
 by_cases c7 : 0 ≤ 1
 case neg =>
  rw [if_neg c7] at H
  exact absurd H (by simp)
 rw [if_pos c7] at H
 have c7b0 := eq_true c7
 have c7b1 : decide (0 ≤ 1) = true := decide_eq_true c7
 clear c7
 by_cases c8 : 1 ≤ ((rdOf ByteArray.empty t211 a0_2).size : Int)
 case neg =>
  rw [if_neg c8] at H
  exact absurd H (by simp)
 rw [if_pos c8] at H
 have c8b0 := eq_true c8
 have c8b1 : decide (1 ≤ ((rdOf ByteArray.empty t211 a0_2).size : Int)) = true := decide_eq_true c8
 clear c8
 by_cases c9 : ((rdOf ByteArray.empty t211 a0_2).extract 0 1).size + 1 ≤ 9223372036854775807
 case neg =>
  rw [if_neg c9] at H
  exact absurd H (by simp)
 rw [if_pos c9] at H
 have c9b0 := eq_true c9
 have c9b1 : decide (((rdOf ByteArray.empty t211 a0_2).extract 0 1).size + 1 ≤ 9223372036854775807) = true := decide_eq_true c9
 try have c9b2 : (9223372036854775807 < ((rdOf ByteArray.empty t211 a0_2).extract 0 1).size + 1) = False := eq_false (Nat.not_lt.2 c9)
 try have c9b4 : (9223372036854775807 < min 1 (rdOf ByteArray.empty t211 a0_2).size + 1) = False := eq_false (Nat.not_lt.2 (by have q_ := c9; simp only [ByteArray.size_append, ByteArray.size_extract, Nat.sub_zero] at q_; exact q_))
 replace H := Option.bind_eq_some_iff.mp H
 obtain ⟨t215, A100, H⟩ := H
 replace H : (if (((rdOf ByteArray.empty t211 a0_2).extract 0 1) ++ (⟨#[47]⟩ : ByteArray)).size + t215.size ≤ 9223372036854775807 then (if ((((rdOf ByteArray.empty t211 a0_2).extract 0 1) ++ (⟨#[47]⟩ : ByteArray)) ++ t215).size + 1 ≤ 9223372036854775807 then (if 0 ≤ a0_1 then (if a0_1 < (y208.length : Int) then (if (((((rdOf ByteArray.empty t211 a0_2).extract 0 1) ++ (⟨#[47]⟩ : ByteArray)) ++ t215) ++ (⟨#[47]⟩ : ByteArray)).size + (rdOf ByteArray.empty y208 a0_1).size ≤ 9223372036854775807 then (if ((((((rdOf ByteArray.empty t211 a0_2).extract 0 1) ++ (⟨#[47]⟩ : ByteArray)) ++ t215) ++ (⟨#[47]⟩ : ByteArray)) ++ (rdOf ByteArray.empty y208 a0_1)).size + 1 ≤ 9223372036854775807 then ((spec_l1Num.f k a0_4).bind fun t217 => (if (((((((rdOf ByteArray.empty t211 a0_2).extract 0 1) ++ (⟨#[47]⟩ : ByteArray)) ++ t215) ++ (⟨#[47]⟩ : ByteArray)) ++ (rdOf ByteArray.empty y208 a0_1)) ++ (⟨#[47]⟩ : ByteArray)).size + t217.size ≤ 9223372036854775807 then (if ((((((((rdOf ByteArray.empty t211 a0_2).extract 0 1) ++ (⟨#[47]⟩ : ByteArray)) ++ t215) ++ (⟨#[47]⟩ : ByteArray)) ++ (rdOf ByteArray.empty y208 a0_1)) ++ (⟨#[47]⟩ : ByteArray)) ++ t217).size + 1 ≤ 9223372036854775807 then ((spec_l1Num.f k a0_5).bind fun t218 => (if (((((((((rdOf ByteArray.empty t211 a0_2).extract 0 1) ++ (⟨#[47]⟩ : ByteArray)) ++ t215) ++ (⟨#[47]⟩ : ByteArray)) ++ (rdOf ByteArray.empty y208 a0_1)) ++ (⟨#[47]⟩ : ByteArray)) ++ t217) ++ (⟨#[45]⟩ : ByteArray)).size + t218.size ≤ 9223372036854775807 then (some ((((((((((rdOf ByteArray.empty t211 a0_2).extract 0 1) ++ (⟨#[47]⟩ : ByteArray)) ++ t215) ++ (⟨#[47]⟩ : ByteArray)) ++ (rdOf ByteArray.empty y208 a0_1)) ++ (⟨#[47]⟩ : ByteArray)) ++ t217) ++ (⟨#[45]⟩ : ByteArray)) ++ t218, true)) else (none))) else (none)) else (none))) else (none)) else (none)) else (none)) else (none)) else (none)) else (none)) = some (r1, r2) := H
 have A10 := Aside0.mk A100
 clear A100
 by_cases c11 : (((rdOf ByteArray.empty t211 a0_2).extract 0 1) ++ (⟨#[47]⟩ : ByteArray)).size + t215.size ≤ 9223372036854775807
 case neg =>
  rw [if_neg c11] at H
  exact absurd H (by simp)
 rw [if_pos c11] at H
 have c11b0 := eq_true c11
 have c11b1 : decide ((((rdOf ByteArray.empty t211 a0_2).extract 0 1) ++ (⟨#[47]⟩ : ByteArray)).size + t215.size ≤ 9223372036854775807) = true := decide_eq_true c11
 try have c11b2 : (9223372036854775807 < (((rdOf ByteArray.empty t211 a0_2).extract 0 1) ++ (⟨#[47]⟩ : ByteArray)).size + t215.size) = False := eq_false (Nat.not_lt.2 c11)
 try have c11b3 : (9223372036854775807 < ((rdOf ByteArray.empty t211 a0_2).extract 0 1).size + 1 + t215.size) = False := eq_false (Nat.not_lt.2 (by have q_ := c11; simp only [ByteArray.size_append] at q_; exact q_))
 try have c11b4 : (9223372036854775807 < min 1 (rdOf ByteArray.empty t211 a0_2).size + 1 + t215.size) = False := eq_false (Nat.not_lt.2 (by have q_ := c11; simp only [ByteArray.size_append, ByteArray.size_extract, Nat.sub_zero] at q_; exact q_))
 by_cases c12 : ((((rdOf ByteArray.empty t211 a0_2).extract 0 1) ++ (⟨#[47]⟩ : ByteArray)) ++ t215).size + 1 ≤ 9223372036854775807
 case neg =>
  rw [if_neg c12] at H
  exact absurd H (by simp)
 rw [if_pos c12] at H
 have c12b0 := eq_true c12
 have c12b1 : decide (((((rdOf ByteArray.empty t211 a0_2).extract 0 1) ++ (⟨#[47]⟩ : ByteArray)) ++ t215).size + 1 ≤ 9223372036854775807) = true := decide_eq_true c12
 try have c12b2 : (9223372036854775807 < ((((rdOf ByteArray.empty t211 a0_2).extract 0 1) ++ (⟨#[47]⟩ : ByteArray)) ++ t215).size + 1) = False := eq_false (Nat.not_lt.2 c12)
 try have c12b3 : (9223372036854775807 < ((rdOf ByteArray.empty t211 a0_2).extract 0 1).size + 1 + t215.size + 1) = False := eq_false (Nat.not_lt.2 (by have q_ := c12; simp only [ByteArray.size_append] at q_; exact q_))
 try have c12b4 : (9223372036854775807 < min 1 (rdOf ByteArray.empty t211 a0_2).size + 1 + t215.size + 1) = False := eq_false (Nat.not_lt.2 (by have q_ := c12; simp only [ByteArray.size_append, ByteArray.size_extract, Nat.sub_zero] at q_; exact q_))
 by_cases c13 : 0 ≤ a0_1
 case neg =>
  rw [if_neg c13] at H
  exact absurd H (by simp)
 rw [if_pos c13] at H
 have c13b0 : decide (0 ≤ a0_1) = true := decide_eq_true c13
 clear c13
 by_cases c14 : a0_1 < (y208.length : Int)
 case neg =>
  rw [if_neg c14] at H
  exact absurd H (by simp)
 rw [if_pos c14] at H
 have c14b0 : decide (a0_1 < (y208.length : Int)) = true := decide_eq_true c14
 clear c14
 by_cases c15 : (((((rdOf ByteArray.empty t211 a0_2).extract 0 1) ++ (⟨#[47]⟩ : ByteArray)) ++ t215) ++ (⟨#[47]⟩ : ByteArray)).size + (rdOf ByteArray.empty y208 a0_1).size ≤ 9223372036854775807
 case neg =>
  rw [if_neg c15] at H
  exact absurd H (by simp)
 rw [if_pos c15] at H
 have c15b0 := eq_true c15
 have c15b1 : decide ((((((rdOf ByteArray.empty t211 a0_2).extract 0 1) ++ (⟨#[47]⟩ : ByteArray)) ++ t215) ++ (⟨#[47]⟩ : ByteArray)).size + (rdOf ByteArray.empty y208 a0_1).size ≤ 9223372036854775807) = true := decide_eq_true c15
 try have c15b2 : (9223372036854775807 < (((((rdOf ByteArray.empty t211 a0_2).extract 0 1) ++ (⟨#[47]⟩ : ByteArray)) ++ t215) ++ (⟨#[47]⟩ : ByteArray)).size + (rdOf ByteArray.empty y208 a0_1).size) = False := eq_false (Nat.not_lt.2 c15)
 try have c15b3 : (9223372036854775807 < ((rdOf ByteArray.empty t211 a0_2).extract 0 1).size + 1 + t215.size + 1 + (rdOf ByteArray.empty y208 a0_1).size) = False := eq_false (Nat.not_lt.2 (by have q_ := c15; simp only [ByteArray.size_append] at q_; exact q_))
 try have c15b4 : (9223372036854775807 < min 1 (rdOf ByteArray.empty t211 a0_2).size + 1 + t215.size + 1 + (rdOf ByteArray.empty y208 a0_1).size) = False := eq_false (Nat.not_lt.2 (by have q_ := c15; simp only [ByteArray.size_append, ByteArray.size_extract, Nat.sub_zero] at q_; exact q_))
 by_cases c16 : ((((((rdOf ByteArray.empty t211 a0_2).extract 0 1) ++ (⟨#[47]⟩ : ByteArray)) ++ t215) ++ (⟨#[47]⟩ : ByteArray)) ++ (rdOf ByteArray.empty y208 a0_1)).size + 1 ≤ 9223372036854775807
 case neg =>
  rw [if_neg c16] at H
  exact absurd H (by simp)
 rw [if_pos c16] at H
 have c16b0 := eq_true c16
 have c16b1 : decide (((((((rdOf ByteArray.empty t211 a0_2).extract 0 1) ++ (⟨#[47]⟩ : ByteArray)) ++ t215) ++ (⟨#[47]⟩ : ByteArray)) ++ (rdOf ByteArray.empty y208 a0_1)).size + 1 ≤ 9223372036854775807) = true := decide_eq_true c16
 try have c16b2 : (9223372036854775807 < ((((((rdOf ByteArray.empty t211 a0_2).extract 0 1) ++ (⟨#[47]⟩ : ByteArray)) ++ t215) ++ (⟨#[47]⟩ : ByteArray)) ++ (rdOf ByteArray.empty y208 a0_1)).size + 1) = False := eq_false (Nat.not_lt.2 c16)
 try have c16b3 : (9223372036854775807 < ((rdOf ByteArray.empty t211 a0_2).extract 0 1).size + 1 + t215.size + 1 + (rdOf ByteArray.empty y208 a0_1).size + 1) = False := eq_false (Nat.not_lt.2 (by have q_ := c16; simp only [ByteArray.size_append] at q_; exact q_))
 try have c16b4 : (9223372036854775807 < min 1 (rdOf ByteArray.empty t211 a0_2).size + 1 + t215.size + 1 + (rdOf ByteArray.empty y208 a0_1).size + 1) = False := eq_false (Nat.not_lt.2 (by have q_ := c16; simp only [ByteArray.size_append, ByteArray.size_extract, Nat.sub_zero] at q_; exact q_))
 replace H := Option.bind_eq_some_iff.mp H
 obtain ⟨t217, A170, H⟩ := H
 replace H : (if (((((((rdOf ByteArray.empty t211 a0_2).extract 0 1) ++ (⟨#[47]⟩ : ByteArray)) ++ t215) ++ (⟨#[47]⟩ : ByteArray)) ++ (rdOf ByteArray.empty y208 a0_1)) ++ (⟨#[47]⟩ : ByteArray)).size + t217.size ≤ 9223372036854775807 then (if ((((((((rdOf ByteArray.empty t211 a0_2).extract 0 1) ++ (⟨#[47]⟩ : ByteArray)) ++ t215) ++ (⟨#[47]⟩ : ByteArray)) ++ (rdOf ByteArray.empty y208 a0_1)) ++ (⟨#[47]⟩ : ByteArray)) ++ t217).size + 1 ≤ 9223372036854775807 then ((spec_l1Num.f k a0_5).bind fun t218 => (if (((((((((rdOf ByteArray.empty t211 a0_2).extract 0 1) ++ (⟨#[47]⟩ : ByteArray)) ++ t215) ++ (⟨#[47]⟩ : ByteArray)) ++ (rdOf ByteArray.empty y208 a0_1)) ++ (⟨#[47]⟩ : ByteArray)) ++ t217) ++ (⟨#[45]⟩ : ByteArray)).size + t218.size ≤ 9223372036854775807 then (some ((((((((((rdOf ByteArray.empty t211 a0_2).extract 0 1) ++ (⟨#[47]⟩ : ByteArray)) ++ t215) ++ (⟨#[47]⟩ : ByteArray)) ++ (rdOf ByteArray.empty y208 a0_1)) ++ (⟨#[47]⟩ : ByteArray)) ++ t217) ++ (⟨#[45]⟩ : ByteArray)) ++ t218, true)) else (none))) else (none)) else (none)) = some (r1, r2) := H
 have A17 := Aside0.mk A170
 clear A170
 by_cases c18 : (((((((rdOf ByteArray.empty t211 a0_2).extract 0 1) ++ (⟨#[47]⟩ : ByteArray)) ++ t215) ++ (⟨#[47]⟩ : ByteArray)) ++ (rdOf ByteArray.empty y208 a0_1)) ++ (⟨#[47]⟩ : ByteArray)).size + t217.size ≤ 9223372036854775807
 case neg =>
  rw [if_neg c18] at H
  exact absurd H (by simp)
 rw [if_pos c18] at H
 have c18b0 := eq_true c18
 have c18b1 : decide ((((((((rdOf ByteArray.empty t211 a0_2).extract 0 1) ++ (⟨#[47]⟩ : ByteArray)) ++ t215) ++ (⟨#[47]⟩ : ByteArray)) ++ (rdOf ByteArray.empty y208 a0_1)) ++ (⟨#[47]⟩ : ByteArray)).size + t217.size ≤ 9223372036854775807) = true := decide_eq_true c18
 try have c18b2 : (9223372036854775807 < (((((((rdOf ByteArray.empty t211 a0_2).extract 0 1) ++ (⟨#[47]⟩ : ByteArray)) ++ t215) ++ (⟨#[47]⟩ : ByteArray)) ++ (rdOf ByteArray.empty y208 a0_1)) ++ (⟨#[47]⟩ : ByteArray)).size + t217.size) = False := eq_false (Nat.not_lt.2 c18)
 try have c18b3 : (9223372036854775807 < ((rdOf ByteArray.empty t211 a0_2).extract 0 1).size + 1 + t215.size + 1 + (rdOf ByteArray.empty y208 a0_1).size + 1 + t217.size) = False := eq_false (Nat.not_lt.2 (by have q_ := c18; simp only [ByteArray.size_append] at q_; exact q_))
 try have c18b4 : (9223372036854775807 < min 1 (rdOf ByteArray.empty t211 a0_2).size + 1 + t215.size + 1 + (rdOf ByteArray.empty y208 a0_1).size + 1 + t217.size) = False := eq_false (Nat.not_lt.2 (by have q_ := c18; simp only [ByteArray.size_append, ByteArray.size_extract, Nat.sub_zero] at q_; exact q_))
 by_cases c19 : ((((((((rdOf ByteArray.empty t211 a0_2).extract 0 1) ++ (⟨#[47]⟩ : ByteArray)) ++ t215) ++ (⟨#[47]⟩ : ByteArray)) ++ (rdOf ByteArray.empty y208 a0_1)) ++ (⟨#[47]⟩ : ByteArray)) ++ t217).size + 1 ≤ 9223372036854775807
 case neg =>
  rw [if_neg c19] at H
  exact absurd H (by simp)
 rw [if_pos c19] at H
 have c19b0 := eq_true c19
 have c19b1 : decide (((((((((rdOf ByteArray.empty t211 a0_2).extract 0 1) ++ (⟨#[47]⟩ : ByteArray)) ++ t215) ++ (⟨#[47]⟩ : ByteArray)) ++ (rdOf ByteArray.empty y208 a0_1)) ++ (⟨#[47]⟩ : ByteArray)) ++ t217).size + 1 ≤ 9223372036854775807) = true := decide_eq_true c19
 try have c19b2 : (9223372036854775807 < ((((((((rdOf ByteArray.empty t211 a0_2).extract 0 1) ++ (⟨#[47]⟩ : ByteArray)) ++ t215) ++ (⟨#[47]⟩ : ByteArray)) ++ (rdOf ByteArray.empty y208 a0_1)) ++ (⟨#[47]⟩ : ByteArray)) ++ t217).size + 1) = False := eq_false (Nat.not_lt.2 c19)
 try have c19b3 : (9223372036854775807 < ((rdOf ByteArray.empty t211 a0_2).extract 0 1).size + 1 + t215.size + 1 + (rdOf ByteArray.empty y208 a0_1).size + 1 + t217.size + 1) = False := eq_false (Nat.not_lt.2 (by have q_ := c19; simp only [ByteArray.size_append] at q_; exact q_))
 try have c19b4 : (9223372036854775807 < min 1 (rdOf ByteArray.empty t211 a0_2).size + 1 + t215.size + 1 + (rdOf ByteArray.empty y208 a0_1).size + 1 + t217.size + 1) = False := eq_false (Nat.not_lt.2 (by have q_ := c19; simp only [ByteArray.size_append, ByteArray.size_extract, Nat.sub_zero] at q_; exact q_))
 replace H := Option.bind_eq_some_iff.mp H
 obtain ⟨t218, A200, H⟩ := H
 replace H : (if (((((((((rdOf ByteArray.empty t211 a0_2).extract 0 1) ++ (⟨#[47]⟩ : ByteArray)) ++ t215) ++ (⟨#[47]⟩ : ByteArray)) ++ (rdOf ByteArray.empty y208 a0_1)) ++ (⟨#[47]⟩ : ByteArray)) ++ t217) ++ (⟨#[45]⟩ : ByteArray)).size + t218.size ≤ 9223372036854775807 then (some ((((((((((rdOf ByteArray.empty t211 a0_2).extract 0 1) ++ (⟨#[47]⟩ : ByteArray)) ++ t215) ++ (⟨#[47]⟩ : ByteArray)) ++ (rdOf ByteArray.empty y208 a0_1)) ++ (⟨#[47]⟩ : ByteArray)) ++ t217) ++ (⟨#[45]⟩ : ByteArray)) ++ t218, true)) else (none)) = some (r1, r2) := H
 have A20 := Aside0.mk A200
 clear A200
 by_cases c21 : (((((((((rdOf ByteArray.empty t211 a0_2).extract 0 1) ++ (⟨#[47]⟩ : ByteArray)) ++ t215) ++ (⟨#[47]⟩ : ByteArray)) ++ (rdOf ByteArray.empty y208 a0_1)) ++ (⟨#[47]⟩ : ByteArray)) ++ t217) ++ (⟨#[45]⟩ : ByteArray)).size + t218.size ≤ 9223372036854775807
 case neg =>
  rw [if_neg c21] at H
  exact absurd H (by simp)
 rw [if_pos c21] at H
 have c21b0 := eq_true c21
 have c21b1 : decide ((((((((((rdOf ByteArray.empty t211 a0_2).extract 0 1) ++ (⟨#[47]⟩ : ByteArray)) ++ t215) ++ (⟨#[47]⟩ : ByteArray)) ++ (rdOf ByteArray.empty y208 a0_1)) ++ (⟨#[47]⟩ : ByteArray)) ++ t217) ++ (⟨#[45]⟩ : ByteArray)).size + t218.size ≤ 9223372036854775807) = true := decide_eq_true c21
 try have c21b2 : (9223372036854775807 < (((((((((rdOf ByteArray.empty t211 a0_2).extract 0 1) ++ (⟨#[47]⟩ : ByteArray)) ++ t215) ++ (⟨#[47]⟩ : ByteArray)) ++ (rdOf ByteArray.empty y208 a0_1)) ++ (⟨#[47]⟩ : ByteArray)) ++ t217) ++ (⟨#[45]⟩ : ByteArray)).size + t218.size) = False := eq_false (Nat.not_lt.2 c21)
 try have c21b3 : (9223372036854775807 < ((rdOf ByteArray.empty t211 a0_2).extract 0 1).size + 1 + t215.size + 1 + (rdOf ByteArray.empty y208 a0_1).size + 1 + t217.size + 1 + t218.size) = False := eq_false (Nat.not_lt.2 (by have q_ := c21; simp only [ByteArray.size_append] at q_; exact q_))
 try have c21b4 : (9223372036854775807 < min 1 (rdOf ByteArray.empty t211 a0_2).size + 1 + t215.size + 1 + (rdOf ByteArray.empty y208 a0_1).size + 1 + t217.size + 1 + t218.size) = False := eq_false (Nat.not_lt.2 (by have q_ := c21; simp only [ByteArray.size_append, ByteArray.size_extract, Nat.sub_zero] at q_; exact q_))
 simp only [Option.some.injEq, Prod.mk.injEq] at H
 obtain ⟨rfl, rfl⟩ := H
 go_enter Tryd.func7, Tryd.ntmps7
 try go_wp2_with (first | ((with_reducible refine gate_dst (N := 1) rfl ?_); refine box_event ?hg (N := 1) ?hd (cs := #[.int .i64 a0_0, .int .i64 a0_1, .int .i64 a0_2, .int .i64 a0_3, .int .i64 a0_4, .int .i64 a0_5]) (t := 25) ?hr ?_; (case hd => rfl); (case hg => rfl); (case hr => exact zqS); intro gb206 hg w22 hbox hb; have n0_ := Aside0.mk (below_step zq0 hb); have n1_ := Aside0.mk (hbox); have n2_ := Aside0.mk ((by rw [hg]; exact (below_size zq0) : w.heap.size ≤ gb206)); have n3_ := n2_; clear HB; have HB := n0_; have BK206 := n1_; have GW206 := n2_; have GE206 := n3_; clear n0_ n1_ n2_ n3_; clear hb hbox hg; obtain ⟨hcz23_0, hcz23_1, hcz23_2, hcz23_3, hcz23_4, hcz23_5, hfz23_0, hfz23_1, hfz23_2, hfz23_3, hfz23_4, hfz23_5⟩ := bz6 BK206.out) | ((with_reducible refine gate_callee (f := 21) rfl ?_); refine goesL_ (some 6) rfl rfl Tryd.func21 (by kernel_rfl) rfl #[.agg #[.int .i64 a0_0, .int .i64 a0_1, .int .i64 a0_2, .int .i64 a0_3, .int .i64 a0_4, .int .i64 a0_5]] rfl zq1 ?_; (with_reducible refine (spec_l14Good.calls a0_0 a0_1 a0_2 a0_3 a0_4 a0_5 true _ A2.out).mono ?_); rintro e w24 ⟨rfl, hb⟩; refine ⟨_, rfl, ?_⟩; have n0_ := Aside0.mk (blk_below (g := gb206) (o := .cells #[.int .i64 a0_0, .int .i64 a0_1, .int .i64 a0_2, .int .i64 a0_3, .int .i64 a0_4, .int .i64 a0_5] 25 (0, 0)) (zqK BK206.out) hb); have n1_ := Aside0.mk (below_step zq18 hb); clear BK206; clear HB; have BK206 := n0_; have HB := n1_; clear n0_ n1_; (try clear hb); (try clear hb2); (try clear hk); (try clear hi)) | ((with_reducible refine gate_dst (N := 8) rfl ?_); refine Kd.R_lit Kd.string _ 9 ?hg (N := 8) ?hd (xs := ([(⟨#[]⟩ : ByteArray), (⟨#[87]⟩ : ByteArray), (⟨#[82]⟩ : ByteArray), (⟨#[83, 78]⟩ : ByteArray), (⟨#[72]⟩ : ByteArray), (⟨#[83, 84]⟩ : ByteArray)] : List ByteArray)) (inner := [.string (⟨#[]⟩ : ByteArray), .string (⟨#[87]⟩ : ByteArray), .string (⟨#[82]⟩ : ByteArray), .string (⟨#[83, 78]⟩ : ByteArray), .string (⟨#[72]⟩ : ByteArray), .string (⟨#[83, 84]⟩ : ByteArray)]) (ok := fun _ => True) (okp := fun _ => True) ?hr ?hp (fun _ hk => hk) trivial (Below.refl _ _) (Nat.le_refl _) (by simp) ?_; (case hd => rfl); (case hg => rfl); (case hr => exact zqS); (case hp => exact (Reps.one (show Kd.M Kd.string _ _ _ (⟨#[]⟩ : ByteArray) [.string (⟨#[]⟩ : ByteArray)] from rfl) (Reps.one (show Kd.M Kd.string _ _ _ (⟨#[87]⟩ : ByteArray) [.string (⟨#[87]⟩ : ByteArray)] from rfl) (Reps.one (show Kd.M Kd.string _ _ _ (⟨#[82]⟩ : ByteArray) [.string (⟨#[82]⟩ : ByteArray)] from rfl) (Reps.one (show Kd.M Kd.string _ _ _ (⟨#[83, 78]⟩ : ByteArray) [.string (⟨#[83, 78]⟩ : ByteArray)] from rfl) (Reps.one (show Kd.M Kd.string _ _ _ (⟨#[72]⟩ : ByteArray) [.string (⟨#[72]⟩ : ByteArray)] from rfl) (Reps.one (show Kd.M Kd.string _ _ _ (⟨#[83, 84]⟩ : ByteArray) [.string (⟨#[83, 84]⟩ : ByteArray)] from rfl) (Reps.none _ _)))))))); intro v209 w25 ho26 hb hg_ hnew_; clear hg_ hnew_; (first | rw [← Ny208.out] at ho26 | (simp only [Int.reduceToNat] at ho26; rw [← Ny208.out] at ho26)); have n0_ := Aside0.mk (Kd.R_lower ho26 (below_size zq18)); have n1_ := Aside0.mk (blk_below (g := gb206) (o := .cells #[.int .i64 a0_0, .int .i64 a0_1, .int .i64 a0_2, .int .i64 a0_3, .int .i64 a0_4, .int .i64 a0_5] 25 (0, 0)) (zqK BK206.out) hb); have n2_ := Aside0.mk (below_step zq18 hb); clear BK206; clear HB; have HO210 := n0_; have BK206 := n1_; have HB := n2_; clear n0_ n1_ n2_; clear hb ho26))
 have n0_ := Aside0.mk (Kd.R_drew HO210.out)
 have n1_ := Aside0.mk (blk_drew BK206.out)
 have n2_ := Aside0.mk (below_drew1 HB.out)
 clear HO210
 clear BK206
 clear HB
 have HO210 := n0_
 have BK206 := n1_
 have HB := n2_
 clear n0_ n1_ n2_
 obtain ⟨Ao28, co28, eo28⟩ := Kd.R_slice HO210.out
 (first | subst eo28 | (injection eo28 with f1_ f2_ f3_; have f4_ := f1_.symm; have f5_ := f3_.symm; clear f1_ f2_ f3_; subst f4_; subst f5_))
 have p216 : 0 ≤ (a0_1 : Int) := of_decide_eq_true zq9
 have q216 : a0_1 < (y208.length : Int) := of_decide_eq_true zq9
 obtain ⟨ad216, e216, hx216_0⟩ := Kd.at_string (Kd.R_reads' HO210.out).2.2 a0_1 p216 q216
 cases e216
 replace p216 := eq_true p216
 replace q216 := eq_true q216
 refine start_ (n := 30) (S := fun w' => w'.cell? ⟨gb206, 0, none⟩ = some (.int .i64 a0_0) ∧ w'.cell? ⟨gb206, 1, none⟩ = some (.int .i64 a0_1) ∧ w'.cell? ⟨gb206, 2, none⟩ = some (.int .i64 a0_2) ∧ w'.cell? ⟨gb206, 3, none⟩ = some (.int .i64 a0_3) ∧ w'.cell? ⟨gb206, 4, none⟩ = some (.int .i64 a0_4) ∧ w'.cell? ⟨gb206, 5, none⟩ = some (.int .i64 a0_5) ∧ w'.cell? (ad216.add (a0_1).toNat) = some (.string (rdOf ByteArray.empty y208 a0_1))) (ds := []) #[false, false, false, false, false, false, false, false, false, false, false, false, false, false, false, false, false, false, false, false, false, false, false, false, false, false, false, false, false, false] (by kernel_rfl) rfl rfl ⟨(blk_cell BK206.out 0).trans rfl, (blk_cell BK206.out 1).trans rfl, (blk_cell BK206.out 2).trans rfl, (blk_cell BK206.out 3).trans rfl, (blk_cell BK206.out 4).trans rfl, (blk_cell BK206.out 5).trans rfl, hx216_0⟩ (fun hHeld => ?_); refine with_tabW spec_ShortWarning.tab4 spec_ShortWarning.bits4 (fun HT_ HW_ => ?_)
 generalize w25.drew = w27 at HO210 BK206 HB hx216_0 hHeld ⊢
 refine pure_ (i := 1) (N := some 10) (v := ?_) (a' := ?_) #[false, true, false, false, false, false, false, false, false, false, false, false, false, false, false, false, false, false, false, false, false, false, false, false, false, false, false, false, false, false] rfl rfl (any_of HT_.out (by kernel_rfl)) (fun _ _ _ h => h) (Or.inl ⟨by rfl, ?_⟩) ?_ ?_
 rotate_left; · exact zqB
 rotate_left; · exact zqA
 refine pure_ (i := 7) (N := some 16) (v := ?_) (a' := ?_) #[false, true, false, false, false, false, false, true, false, false, false, false, false, false, false, false, false, false, false, false, false, false, false, false, false, false, false, false, false, false] rfl rfl (any_of HT_.out (by kernel_rfl)) (fun _ _ _ h => h) (Or.inl ⟨by rfl, ?_⟩) ?_ ?_
 rotate_left; · exact zqB
 rotate_left; · exact zqA
 refine pure_ (i := 12) (N := some 21) (v := ?_) (a' := ?_) #[false, true, false, false, false, false, false, true, false, false, false, false, true, false, false, false, false, false, false, false, false, false, false, false, false, false, false, false, false, false] rfl rfl (any_of HT_.out (by kernel_rfl)) (fun _ _ _ h => h) (Or.inl ⟨by rfl, ?_⟩) ?_ ?_
 rotate_left; · exact zqB
 rotate_left; · exact zqA
 refine pure_ (i := 13) (N := some 22) (v := ?_) (a' := ?_) #[false, true, false, false, false, false, false, true, false, false, false, false, true, true, false, false, false, false, false, false, false, false, false, false, false, false, false, false, false, false] rfl rfl (any_of HT_.out (by kernel_rfl)) (fun _ _ _ h => h) (Or.inl ⟨by rfl, ?_⟩) ?_ ?_
 rotate_left; · exact zqB
 rotate_left; · exact zqA
 refine pure_ (i := 19) (N := some 28) (v := ?_) (a' := ?_) #[false, true, false, false, false, false, false, true, false, false, false, false, true, true, false, false, false, false, false, true, false, false, false, false, false, false, false, false, false, false] rfl rfl (any_of HT_.out (by kernel_rfl)) (fun _ _ _ h => h) (Or.inl ⟨by rfl, ?_⟩) ?_ ?_
 rotate_left; · exact zqB
 rotate_left; · exact zqA
 refine pure_ (i := 24) (N := some 33) (v := ?_) (a' := ?_) #[false, true, false, false, false, false, false, true, false, false, false, false, true, true, false, false, false, false, false, true, false, false, false, false, true, false, false, false, false, false] rfl rfl (any_of HT_.out (by kernel_rfl)) (fun _ _ _ h => h) (Or.inl ⟨by rfl, ?_⟩) ?_ ?_
 rotate_left; · exact zqB
 rotate_left; · exact zqA
 refine take_ (i := 2) (N := some 11) (v := ?_) (a' := ?_) #[false, true, true, false, false, false, false, true, false, false, false, false, true, true, false, false, false, false, false, true, false, false, false, false, true, false, false, false, false, false] rfl rfl (take_ofW HT_.out HW_.out (by kernel_rfl)) (fun _ _ _ h => h) (Or.inl ⟨by rfl, ?_⟩) hHeld ?_ ?_
 rotate_left
 ·
  rintro w' ⟨s0, s1, s2, s3, s4, s5, s6⟩
  go_simp
  with_reducible rfl
 rotate_left; · exact zqA
 refine take_ (i := 8) (N := some 17) (v := ?_) (a' := ?_) #[false, true, true, false, false, false, false, true, true, false, false, false, true, true, false, false, false, false, false, true, false, false, false, false, true, false, false, false, false, false] rfl rfl (take_ofW HT_.out HW_.out (by kernel_rfl)) (fun _ _ _ h => h) (Or.inl ⟨by rfl, ?_⟩) hHeld ?_ ?_
 rotate_left
 ·
  rintro w' ⟨s0, s1, s2, s3, s4, s5, s6⟩
  go_simp
  with_reducible rfl
 rotate_left; · exact zqA
 refine take_ (i := 14) (N := some 23) (v := ?_) (a' := ?_) #[false, true, true, false, false, false, false, true, true, false, false, false, true, true, true, false, false, false, false, true, false, false, false, false, true, false, false, false, false, false] rfl rfl (take_ofW HT_.out HW_.out (by kernel_rfl)) (fun _ _ _ h => h) (Or.inl ⟨by rfl, ?_⟩) hHeld ?_ ?_
 rotate_left
 ·
  rintro w' ⟨s0, s1, s2, s3, s4, s5, s6⟩
  go_simp
  with_reducible rfl
 rotate_left; · exact zqA
 refine pure_ (i := 15) (N := some 24) (v := ?_) (a' := ?_) #[false, true, true, false, false, false, false, true, true, false, false, false, true, true, true, true, false, false, false, true, false, false, false, false, true, false, false, false, false, false] rfl rfl (any_of HT_.out (by kernel_rfl)) (fun _ _ _ h => h) (Or.inl ⟨by rfl, ?_⟩) ?_ ?_
 rotate_left; · exact zqB
 rotate_left; · exact zqA
 refine take_ (i := 16) (N := some 25) (v := ?_) (a' := ?_) #[false, true, true, false, false, false, false, true, true, false, false, false, true, true, true, true, true, false, false, true, false, false, false, false, true, false, false, false, false, false] rfl rfl (take_ofW HT_.out HW_.out (by kernel_rfl)) (fun _ _ _ h => h) (Or.inl ⟨by rfl, ?_⟩) hHeld ?_ ?_
 rotate_left
 ·
  rintro w' ⟨s0, s1, s2, s3, s4, s5, s6⟩
  go_simp
  with_reducible rfl
 rotate_left; · exact zqA
 refine take_ (i := 20) (N := some 29) (v := ?_) (a' := ?_) #[false, true, true, false, false, false, false, true, true, false, false, false, true, true, true, true, true, false, false, true, true, false, false, false, true, false, false, false, false, false] rfl rfl (take_ofW HT_.out HW_.out (by kernel_rfl)) (fun _ _ _ h => h) (Or.inl ⟨by rfl, ?_⟩) hHeld ?_ ?_
 rotate_left
 ·
  rintro w' ⟨s0, s1, s2, s3, s4, s5, s6⟩
  go_simp
  with_reducible rfl
 rotate_left; · exact zqA
 refine take_ (i := 25) (N := some 34) (v := ?_) (a' := ?_) #[false, true, true, false, false, false, false, true, true, false, false, false, true, true, true, true, true, false, false, true, true, false, false, false, true, true, false, false, false, false] rfl rfl (take_ofW HT_.out HW_.out (by kernel_rfl)) (fun _ _ _ h => h) (Or.inl ⟨by rfl, ?_⟩) hHeld ?_ ?_
 rotate_left
 ·
  rintro w' ⟨s0, s1, s2, s3, s4, s5, s6⟩
  go_simp
  with_reducible rfl
 rotate_left; · exact zqA
 refine one_ (i := 0) (N := some 9) #[true, true, true, false, false, false, false, true, true, false, false, false, true, true, true, true, true, false, false, true, true, false, false, false, true, true, false, false, false, false] rfl rfl (one_of HT_.out (by kernel_rfl)) (by decide) (fun K hK => ?_)
 refine goes_ Tryd.func22 (by kernel_rfl) rfl #[] (by rfl) rfl rfl zq1 ?_
 with_reducible refine (spec_l16Levels.calls  t211 _ A4.out).mono ?_
 rintro e w29 ⟨v212, rfl, ho0, hb⟩
 have HS6_ := (hb.cell (World.block_lt_of_cell? _ _ (hHeld.2.2.2.2.2.2))).trans (hHeld.2.2.2.2.2.2)
 refine ⟨_, rfl, ?_⟩
 have n0_ := Aside0.mk (Kd.R_elder' (zqR HO210.out) (Kd.R_base ho0) hb)
 have n1_ := Aside0.mk (Kd.R_lower (Kd.R_new' ho0 (Kd.R_lt (zqR HO210.out))) (below_size zq18))
 have n2_ := Aside0.mk (blk_below (g := gb206) (o := .cells #[.int .i64 a0_0, .int .i64 a0_1, .int .i64 a0_2, .int .i64 a0_3, .int .i64 a0_4, .int .i64 a0_5] 25 (0, 0)) (zqK BK206.out) hb)
 have n3_ := Aside0.mk (below_step zq18 hb)
 clear HO210
 clear BK206
 clear HB
 have HO210 := n0_
 have HO213 := n1_
 have BK206 := n2_
 have HB := n3_
 clear n0_ n1_ n2_ n3_
 (try clear hb)
 (try clear hb2)
 (try clear hk)
 (try clear hi)
 (try clear ho0)
 obtain ⟨Ao30, co30, eo30⟩ := Kd.R_slice HO213.out
 (first | subst eo30 | (injection eo30 with f1_ f2_ f3_; have f4_ := f1_.symm; have f5_ := f3_.symm; clear f1_ f2_ f3_; subst f4_; subst f5_))
 have p214 : 0 ≤ (a0_2 : Int) := of_decide_eq_true zq9
 have q214 : a0_2 < (t211.length : Int) := of_decide_eq_true zq9
 obtain ⟨ad214, e214, hx214_0⟩ := Kd.at_string (Kd.R_reads' HO213.out).2.2 a0_2 p214 q214
 cases e214
 replace p214 := eq_true p214
 replace q214 := eq_true q214
 refine hK.out _ _ ⟨(blk_cell BK206.out 0).trans rfl, (blk_cell BK206.out 1).trans rfl, (blk_cell BK206.out 2).trans rfl, (blk_cell BK206.out 3).trans rfl, (blk_cell BK206.out 4).trans rfl, (blk_cell BK206.out 5).trans rfl, HS6_⟩ (fun hHeld => ?_)
 refine more_ (fun w' => w'.cell? ⟨gb206, 0, none⟩ = some (.int .i64 a0_0) ∧ w'.cell? ⟨gb206, 1, none⟩ = some (.int .i64 a0_1) ∧ w'.cell? ⟨gb206, 2, none⟩ = some (.int .i64 a0_2) ∧ w'.cell? ⟨gb206, 3, none⟩ = some (.int .i64 a0_3) ∧ w'.cell? ⟨gb206, 4, none⟩ = some (.int .i64 a0_4) ∧ w'.cell? ⟨gb206, 5, none⟩ = some (.int .i64 a0_5) ∧ w'.cell? (ad216.add (a0_1).toNat) = some (.string (rdOf ByteArray.empty y208 a0_1)) ∧ w'.cell? (ad214.add (a0_2).toNat) = some (.string (rdOf ByteArray.empty t211 a0_2))) (fun _ h => ⟨h.1, h.2.1, h.2.2.1, h.2.2.2.1, h.2.2.2.2.1, h.2.2.2.2.2.1, h.2.2.2.2.2.2.1⟩) ⟨(blk_cell BK206.out 0).trans rfl, (blk_cell BK206.out 1).trans rfl, (blk_cell BK206.out 2).trans rfl, (blk_cell BK206.out 3).trans rfl, (blk_cell BK206.out 4).trans rfl, (blk_cell BK206.out 5).trans rfl, HS6_, hx214_0⟩ (fun hHeld => ?_)
 clear hK K
 refine norm_ (a' := ?_) ?_ ?_
 rotate_left
 ·
  show Act.put _ (some 9) _ = _
  simp only [Act.put, List.setIfInBounds_toArray, List.set_cons_zero, List.set_cons_succ, i64_w, i32_w]
  rfl
 refine pure_ (i := 3) (N := some 12) (v := ?_) (a' := ?_) #[true, true, true, true, false, false, false, true, true, false, false, false, true, true, true, true, true, false, false, true, true, false, false, false, true, true, false, false, false, false] rfl rfl (any_of HT_.out (by kernel_rfl)) (fun _ _ _ h => h) (Or.inl ⟨by rfl, ?_⟩) ?_ ?_
 rotate_left; · exact zqB
 rotate_left; · exact zqA
 refine take_ (i := 4) (N := some 13) (v := ?_) (a' := ?_) #[true, true, true, true, true, false, false, true, true, false, false, false, true, true, true, true, true, false, false, true, true, false, false, false, true, true, false, false, false, false] rfl rfl (take_ofW HT_.out HW_.out (by kernel_rfl)) (fun _ _ _ h => h) (Or.inl ⟨by rfl, ?_⟩) hHeld ?_ ?_
 rotate_left
 ·
  rintro w' ⟨s0, s1, s2, s3, s4, s5, s6, s7⟩
  go_simp
  with_reducible rfl
 rotate_left; · exact zqA
 refine pure_ (i := 5) (N := some 14) (v := ?_) (a' := ?_) #[true, true, true, true, true, true, false, true, true, false, false, false, true, true, true, true, true, false, false, true, true, false, false, false, true, true, false, false, false, false] rfl rfl (any_of HT_.out (by kernel_rfl)) (fun _ _ _ h => h) (Or.inl ⟨by rfl, ?_⟩) ?_ ?_
 rotate_left; · exact zqB
 rotate_left; · exact zqA
 refine pure_ (i := 6) (N := some 15) (v := ?_) (a' := ?_) #[true, true, true, true, true, true, true, true, true, false, false, false, true, true, true, true, true, false, false, true, true, false, false, false, true, true, false, false, false, false] rfl rfl (any_of HT_.out (by kernel_rfl)) (fun _ _ _ h => h) (Or.inl ⟨by rfl, ?_⟩) ?_ ?_
 rotate_left; · exact zqB
 rotate_left; · exact zqA
 refine one_ (i := 9) (N := some 18) #[true, true, true, true, true, true, true, true, true, true, false, false, true, true, true, true, true, false, false, true, true, false, false, false, true, true, false, false, false, false] rfl rfl (one_of HT_.out (by kernel_rfl)) (by decide) (fun K hK => ?_)
 refine goes_ Tryd.func23 (by kernel_rfl) rfl #[.int .i64 a0_3] (by rfl) rfl rfl zq1 ?_
 with_reducible refine (spec_l1Num.calls k a0_3 t215 _ A10.out).mono ?_
 rintro e w31 ⟨rfl, hb⟩
 have HS6_ := (hb.cell (World.block_lt_of_cell? _ _ (hHeld.2.2.2.2.2.2.1))).trans (hHeld.2.2.2.2.2.2.1)
 have HS7_ := (hb.cell (World.block_lt_of_cell? _ _ (hHeld.2.2.2.2.2.2.2))).trans (hHeld.2.2.2.2.2.2.2)
 refine ⟨_, rfl, ?_⟩
 have n0_ := Aside0.mk (Kd.R_below (zqR HO210.out) hb)
 have n1_ := Aside0.mk (Kd.R_below (zqR HO213.out) hb)
 have n2_ := Aside0.mk (blk_below (g := gb206) (o := .cells #[.int .i64 a0_0, .int .i64 a0_1, .int .i64 a0_2, .int .i64 a0_3, .int .i64 a0_4, .int .i64 a0_5] 25 (0, 0)) (zqK BK206.out) hb)
 have n3_ := Aside0.mk (below_step zq18 hb)
 clear HO210
 clear HO213
 clear BK206
 clear HB
 have HO210 := n0_
 have HO213 := n1_
 have BK206 := n2_
 have HB := n3_
 clear n0_ n1_ n2_ n3_
 (try clear hb)
 (try clear hb2)
 (try clear hk)
 (try clear hi)
 refine hK.out _ _ ⟨(blk_cell BK206.out 0).trans rfl, (blk_cell BK206.out 1).trans rfl, (blk_cell BK206.out 2).trans rfl, (blk_cell BK206.out 3).trans rfl, (blk_cell BK206.out 4).trans rfl, (blk_cell BK206.out 5).trans rfl, HS6_, HS7_⟩ (fun hHeld => ?_)
 clear hK K
 refine norm_ (a' := ?_) ?_ ?_
 rotate_left
 ·
  show Act.put _ (some 18) _ = _
  simp only [Act.put, List.setIfInBounds_toArray, List.set_cons_zero, List.set_cons_succ, i64_w, i32_w]
  rfl
 refine pure_ (i := 10) (N := some 19) (v := ?_) (a' := ?_) #[true, true, true, true, true, true, true, true, true, true, true, false, true, true, true, true, true, false, false, true, true, false, false, false, true, true, false, false, false, false] rfl rfl (any_of HT_.out (by kernel_rfl)) (fun _ _ _ h => h) (Or.inl ⟨by rfl, ?_⟩) ?_ ?_
 rotate_left; · exact zqB
 rotate_left; · exact zqA
 refine pure_ (i := 11) (N := some 20) (v := ?_) (a' := ?_) #[true, true, true, true, true, true, true, true, true, true, true, true, true, true, true, true, true, false, false, true, true, false, false, false, true, true, false, false, false, false] rfl rfl (any_of HT_.out (by kernel_rfl)) (fun _ _ _ h => h) (Or.inl ⟨by rfl, ?_⟩) ?_ ?_
 rotate_left; · exact zqB
 rotate_left; · exact zqA
 refine pure_ (i := 17) (N := some 26) (v := ?_) (a' := ?_) #[true, true, true, true, true, true, true, true, true, true, true, true, true, true, true, true, true, true, false, true, true, false, false, false, true, true, false, false, false, false] rfl rfl (any_of HT_.out (by kernel_rfl)) (fun _ _ _ h => h) (Or.inl ⟨by rfl, ?_⟩) ?_ ?_
 rotate_left; · exact zqB
 rotate_left; · exact zqA
 refine pure_ (i := 18) (N := some 27) (v := ?_) (a' := ?_) #[true, true, true, true, true, true, true, true, true, true, true, true, true, true, true, true, true, true, true, true, true, false, false, false, true, true, false, false, false, false] rfl rfl (any_of HT_.out (by kernel_rfl)) (fun _ _ _ h => h) (Or.inl ⟨by rfl, ?_⟩) ?_ ?_
 rotate_left; · exact zqB
 rotate_left; · exact zqA
 refine one_ (i := 21) (N := some 30) #[true, true, true, true, true, true, true, true, true, true, true, true, true, true, true, true, true, true, true, true, true, true, false, false, true, true, false, false, false, false] rfl rfl (one_of HT_.out (by kernel_rfl)) (by decide) (fun K hK => ?_)
 refine goes_ Tryd.func23 (by kernel_rfl) rfl #[.int .i64 a0_4] (by rfl) rfl rfl zq1 ?_
 with_reducible refine (spec_l1Num.calls k a0_4 t217 _ A17.out).mono ?_
 rintro e w32 ⟨rfl, hb⟩
 have HS6_ := (hb.cell (World.block_lt_of_cell? _ _ (hHeld.2.2.2.2.2.2.1))).trans (hHeld.2.2.2.2.2.2.1)
 have HS7_ := (hb.cell (World.block_lt_of_cell? _ _ (hHeld.2.2.2.2.2.2.2))).trans (hHeld.2.2.2.2.2.2.2)
 refine ⟨_, rfl, ?_⟩
 have n0_ := Aside0.mk (Kd.R_below (zqR HO210.out) hb)
 have n1_ := Aside0.mk (Kd.R_below (zqR HO213.out) hb)
 have n2_ := Aside0.mk (blk_below (g := gb206) (o := .cells #[.int .i64 a0_0, .int .i64 a0_1, .int .i64 a0_2, .int .i64 a0_3, .int .i64 a0_4, .int .i64 a0_5] 25 (0, 0)) (zqK BK206.out) hb)
 have n3_ := Aside0.mk (below_step zq18 hb)
 clear HO210
 clear HO213
 clear BK206
 clear HB
 have HO210 := n0_
 have HO213 := n1_
 have BK206 := n2_
 have HB := n3_
 clear n0_ n1_ n2_ n3_
 (try clear hb)
 (try clear hb2)
 (try clear hk)
 (try clear hi)
 refine hK.out _ _ ⟨(blk_cell BK206.out 0).trans rfl, (blk_cell BK206.out 1).trans rfl, (blk_cell BK206.out 2).trans rfl, (blk_cell BK206.out 3).trans rfl, (blk_cell BK206.out 4).trans rfl, (blk_cell BK206.out 5).trans rfl, HS6_, HS7_⟩ (fun hHeld => ?_)
 clear hK K
 refine norm_ (a' := ?_) ?_ ?_
 rotate_left
 ·
  show Act.put _ (some 30) _ = _
  simp only [Act.put, List.setIfInBounds_toArray, List.set_cons_zero, List.set_cons_succ, i64_w, i32_w]
  rfl
 refine pure_ (i := 22) (N := some 31) (v := ?_) (a' := ?_) #[true, true, true, true, true, true, true, true, true, true, true, true, true, true, true, true, true, true, true, true, true, true, true, false, true, true, false, false, false, false] rfl rfl (any_of HT_.out (by kernel_rfl)) (fun _ _ _ h => h) (Or.inl ⟨by rfl, ?_⟩) ?_ ?_
 rotate_left; · exact zqB
 rotate_left; · exact zqA
 refine pure_ (i := 23) (N := some 32) (v := ?_) (a' := ?_) #[true, true, true, true, true, true, true, true, true, true, true, true, true, true, true, true, true, true, true, true, true, true, true, true, true, true, false, false, false, false] rfl rfl (any_of HT_.out (by kernel_rfl)) (fun _ _ _ h => h) (Or.inl ⟨by rfl, ?_⟩) ?_ ?_
 rotate_left; · exact zqB
 rotate_left; · exact zqA
 refine one_ (i := 26) (N := some 35) #[true, true, true, true, true, true, true, true, true, true, true, true, true, true, true, true, true, true, true, true, true, true, true, true, true, true, true, false, false, false] rfl rfl (one_of HT_.out (by kernel_rfl)) (by decide) (fun K hK => ?_)
 refine goes_ Tryd.func23 (by kernel_rfl) rfl #[.int .i64 a0_5] (by rfl) rfl rfl zq1 ?_
 with_reducible refine (spec_l1Num.calls k a0_5 t218 _ A20.out).mono ?_
 rintro e w33 ⟨rfl, hb⟩
 have HS6_ := (hb.cell (World.block_lt_of_cell? _ _ (hHeld.2.2.2.2.2.2.1))).trans (hHeld.2.2.2.2.2.2.1)
 have HS7_ := (hb.cell (World.block_lt_of_cell? _ _ (hHeld.2.2.2.2.2.2.2))).trans (hHeld.2.2.2.2.2.2.2)
 refine ⟨_, rfl, ?_⟩
 have n0_ := Aside0.mk (Kd.R_below (zqR HO210.out) hb)
 have n1_ := Aside0.mk (Kd.R_below (zqR HO213.out) hb)
 have n2_ := Aside0.mk (blk_below (g := gb206) (o := .cells #[.int .i64 a0_0, .int .i64 a0_1, .int .i64 a0_2, .int .i64 a0_3, .int .i64 a0_4, .int .i64 a0_5] 25 (0, 0)) (zqK BK206.out) hb)
 have n3_ := Aside0.mk (below_step zq18 hb)
 clear HO210
 clear HO213
 clear BK206
 clear HB
 have HO210 := n0_
 have HO213 := n1_
 have BK206 := n2_
 have HB := n3_
 clear n0_ n1_ n2_ n3_
 (try clear hb)
 (try clear hb2)
 (try clear hk)
 (try clear hi)
 refine hK.out _ _ ⟨(blk_cell BK206.out 0).trans rfl, (blk_cell BK206.out 1).trans rfl, (blk_cell BK206.out 2).trans rfl, (blk_cell BK206.out 3).trans rfl, (blk_cell BK206.out 4).trans rfl, (blk_cell BK206.out 5).trans rfl, HS6_, HS7_⟩ (fun hHeld => ?_)
 clear hK K
 refine norm_ (a' := ?_) ?_ ?_
 rotate_left
 ·
  show Act.put _ (some 35) _ = _
  simp only [Act.put, List.setIfInBounds_toArray, List.set_cons_zero, List.set_cons_succ, i64_w, i32_w]
  rfl
 refine pure_ (i := 27) (N := some 36) (v := ?_) (a' := ?_) #[true, true, true, true, true, true, true, true, true, true, true, true, true, true, true, true, true, true, true, true, true, true, true, true, true, true, true, true, false, false] rfl rfl (any_of HT_.out (by kernel_rfl)) (fun _ _ _ h => h) (Or.inl ⟨by rfl, ?_⟩) ?_ ?_
 rotate_left; · exact zqB
 rotate_left; · exact zqA
 refine pure_ (i := 28) (N := some 2) (v := ?_) (a' := ?_) #[true, true, true, true, true, true, true, true, true, true, true, true, true, true, true, true, true, true, true, true, true, true, true, true, true, true, true, true, true, false] rfl rfl (any_of HT_.out (by kernel_rfl)) (fun _ _ _ h => h) (Or.inl ⟨by rfl, ?_⟩) ?_ ?_
 rotate_left; · exact zqB
 rotate_left; · exact zqA
 refine pure_ (i := 29) (N := some 3) (v := ?_) (a' := ?_) #[true, true, true, true, true, true, true, true, true, true, true, true, true, true, true, true, true, true, true, true, true, true, true, true, true, true, true, true, true, true] rfl rfl (any_of HT_.out (by kernel_rfl)) (fun _ _ _ h => h) (Or.inl ⟨by rfl, ?_⟩) ?_ ?_
 rotate_left; · exact zqB
 rotate_left; · exact zqA
 refine done_ (done_of HT_.out (by kernel_rfl)) ?_
 try go_wp2
 go_ret2
 exact ⟨zqE, zq18⟩

/-! ### spec_l1Cur_one: function 25 -/
def spec_l1Cur_one.f (s0_0 : List Int) (s0_1 : Int) (s0_2 : Int) (a1 : Int) : Option (Bool × Int × Int) := (spec_l1Cur_pick.f s0_0 s0_1 s0_2 a1).bind fun bt219 => (some ((bt219.1 == 0), bt219.2.1, bt219.2.2))
set_option maxHeartbeats 8000000 in
set_option maxRecDepth 100000 in
theorem spec_l1Cur_one.calls (g : Nat) (s0_0 : List Int) (s0_1 : Int) (s0_2 : Int) (a1 : Int) (r1 : Bool) (r2 : Int) (r3 : Int) (w0 w : World) (hI : IsS46 w0 w g s0_0 s0_1 s0_2) (hB : Below w0.heap.size w0 w) (h : spec_l1Cur_one.f s0_0 s0_1 s0_2 a1 = some (r1, r2, r3)) :
  Calls Tryd.prog 25 #[.pointer (some ⟨g, 0, none⟩), .int .i64 a1] w fun e w' => e = .returned (.bool r1) ∧ IsS46 w0 w' g s0_0 r2 r3 ∧ Below w0.heap.size w0 w' ∧ KeepBut w w' g none := by
 have HI0 := Aside0.mk hI
 have HK := Aside0.mk (KeepBut.refl w g none)
 have HL := Aside0.mk hB.size
 clear hI
 have HW0 := Aside0.mk hB.size
 have HB := Aside0.mk hB
 clear hB
 have H : ((spec_l1Cur_pick.f s0_0 s0_1 s0_2 a1).bind fun bt219 => (some ((bt219.1 == 0), bt219.2.1, bt219.2.2))) = some (r1, r2, r3) := h
 clear h
 replace H := Option.bind_eq_some_iff.mp H
 obtain ⟨⟨t219, t220, t221⟩, A30, H⟩ := H
 replace H : (some ((t219 == 0), t220, t221)) = some (r1, r2, r3) := H
 have A3 := Aside0.mk A30
 clear A30
 simp only [Option.some.injEq, Prod.mk.injEq] at H
 obtain ⟨rfl, rfl, rfl⟩ := H
 go_enter Tryd.func25, Tryd.ntmps25
 go_wp2_with (first | ((with_reducible refine gate_callee (f := 38) rfl ?_); refine goesL_ (some 7) rfl rfl Tryd.func38 (by kernel_rfl) rfl #[.pointer (some ⟨g, 0, none⟩), .int .i64 a1] rfl zq1 ?_; (with_reducible refine (spec_l1Cur_pick.calls g s0_0 s0_1 s0_2 a1 t219 t220 t221 w0 _ ?side1 ?side2 A3.out).mono ?_); (case side1 => exact zq4); (case side2 => exact zq3); rintro e w4 ⟨rfl, hi, hb, hk⟩; refine ⟨_, rfl, ?_⟩; have n0_ := Aside0.mk (KeepBut.trans zq2 hk (.inl rfl)); have n1_ := Aside0.mk (hb); have n2_ := Aside0.mk (hi); clear HK; clear HB; clear HI0; have HK := n0_; have HB := n1_; have HI0 := n2_; clear n0_ n1_ n2_; (try clear hb); (try clear hb2); (try clear hk); (try clear hi)))
 go_ret
 exact ⟨zqE, zq4, zq3, zq2⟩
end Go.Proofs.YtjgkinpjjbgcpaaDoor.Q
