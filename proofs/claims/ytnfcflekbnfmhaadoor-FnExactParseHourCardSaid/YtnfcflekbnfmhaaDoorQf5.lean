-- Printed by a program of this session (wip/tools/seatprint.py) that runs over the kit's print.
import Derived.Test.YtnfcflekbnfmhaaDoorQ0
import Derived.Test.YtnfcflekbnfmhaaDoorQf17
namespace Go.Proofs.YtnfcflekbnfmhaaDoor.Q
open Go.RowKit Go.Proofs.YtnfcflekbnfmhaaDoorW.PrintWords Go.Proofs.YtnfcflekbnfmhaaDoorW.PrintLast Go.Proofs.YtnfcflekbnfmhaaDoorW.PrintMore
attribute [local go_sem] max2_int min2_int max_two min_two max_three min_three max_four min_four   -- for this text's walks alone
set_option linter.unusedVariables false
set_option linter.unusedSimpArgs false

/-! ### laws_FnExactParseHour: function 5 -/
def laws_FnExactParseHour.f (k : Nat) (a0 : ByteArray) : Option (Bool) := if (a0.size : Int) > 1048576 then (some true) else ((spec_ParseHour.f k a0).bind fun bt192 => ((impl_ParseHour.f k a0).bind fun bt194 => (if bt194.1 = bt192.1 then (if (bt194.2 != bt192.2) = true then (none) else (some true)) else (none))))
theorem laws_FnExactParseHour.mono : ∀ a0 k, LeO (laws_FnExactParseHour.f k a0) (laws_FnExactParseHour.f (k + 1) a0) := by
 intro a0 k
 unfold laws_FnExactParseHour.f
 repeat' first
   | (with_reducible exact impl_ParseHour.mono _ _)
   | (with_reducible exact spec_ParseHour.mono _ _)
   | (with_reducible exact LeO.refl _)
   | (with_reducible exact LeO.none _)
   | (with_reducible refine LeO.ite ?_ ?_)
   | (with_reducible refine LeO.bind ?_ (fun _ => ?_))
   | exact impl_ParseHour.mono _ _
   | exact spec_ParseHour.mono _ _
   | exact LeO.none _
   | refine LeO.ite ?_ ?_
   | refine LeO.bind ?_ (fun _ => ?_)
set_option maxHeartbeats 8000000 in
set_option maxRecDepth 100000 in
theorem laws_FnExactParseHour.calls (k : Nat) (a0 : ByteArray) (r : Bool) (w : World) (htN : TabN w) (h : laws_FnExactParseHour.f k a0 = some r) :
  Calls Tryd.prog 5 #[.string a0] w fun e w' => e = .returned (.bool r) ∧ Below w.heap.size w w' := by
 have HTN := Aside0.mk htN
 clear htN
 have HB := Aside0.mk (Below.refl w.heap.size w)
 have H : (if (a0.size : Int) > 1048576 then (some true) else ((spec_ParseHour.f k a0).bind fun bt192 => ((impl_ParseHour.f k a0).bind fun bt194 => (if bt194.1 = bt192.1 then (if (bt194.2 != bt192.2) = true then (none) else (some true)) else (none))))) = some r := h
 clear h
 by_cases c2 : (a0.size : Int) > 1048576
 ·
  rw [if_pos c2] at H
  have c2b0 : decide (1048576 < (a0.size : Int)) = true := decide_eq_true c2
  have c2b1 : decide (1048576 < a0.size) = true := decide_eq_true (by omega)
  clear c2
  obtain rfl := Option.some.inj H
  go_enter Tryd.func5, Tryd.ntmps5
  go_wp2
  go_ret
  exact ⟨by first | rfl | (simp [errW_none, errW_some] <;> rfl) | (simp [*, errW_none, errW_some] <;> rfl), by repeat (first | (with_reducible first | exact HB.out | apply below_alloc | apply pw_below_drewN | apply below_drew1) | exact HB.out)⟩
 ·
  rw [if_neg c2] at H
  have c2b0 : decide (1048576 < (a0.size : Int)) = false := decide_eq_false c2
  have c2b1 : decide (1048576 < a0.size) = false := decide_eq_false (by omega)
  clear c2
  replace H := Option.bind_eq_some_iff.mp H
  obtain ⟨⟨t192, t193⟩, A30, H⟩ := H
  replace H : ((impl_ParseHour.f k a0).bind fun bt194 => (if bt194.1 = t192 then (if (bt194.2 != t193) = true then (none) else (some true)) else (none))) = some r := H
  have A3 := Aside0.mk A30
  clear A30
  replace H := Option.bind_eq_some_iff.mp H
  obtain ⟨⟨t194, t195⟩, A40, H⟩ := H
  replace H : (if t194 = t192 then (if (t195 != t193) = true then (none) else (some true)) else (none)) = some r := H
  have A4 := Aside0.mk A40
  clear A40
  by_cases c5 : t194 = t192
  ·
   rw [if_pos c5] at H
   have c5b0 : (t194 == t192) = true := beq_iff_eq.mpr c5
   have c5b1 : (t194 != t192) = false := bne_eq_false_iff_eq.mpr c5
   clear c5
   by_cases c6 : (t195 != t193) = true
   ·
    rw [if_pos c6] at H
    exact absurd H (by simp)
   ·
    rw [if_neg c6] at H
    have c6b0 : (t195 != t193) = false := by simpa using c6
    (try (have c6b1 : decide (t195 = t193) = true := by simpa using c6))
    (try (have c6b2 : (t195 == t193) = true := by simpa using c6))
    clear c6
    obtain rfl := Option.some.inj H
    go_enter Tryd.func5, Tryd.ntmps5
    go_wp2_with (first | ((with_reducible refine gate_callee (f := 17) rfl ?_); refine goesL_ (some 12) rfl rfl Tryd.func17 (by kernel_rfl) rfl #[.string a0] rfl (by (try simp only [List.map_toArray, List.map_cons, List.map_nil]); first | done | rfl | (simp only [List.length_drop, List.length_take]; rfl)) ?_; (with_reducible refine (spec_ParseHour.calls k a0 t192 t193 _ A3.out).mono ?_); rintro e w7 ⟨rfl, hb⟩; refine ⟨_, rfl, ?_⟩; have n0_ := Aside0.mk (below_step (by repeat (first | (with_reducible first | exact HB.out | apply below_alloc | apply pw_below_drewN | apply below_drew1) | exact HB.out)) hb); clear HB; have HB := n0_; clear n0_; (try clear hb); (try clear hb2); (try clear hk); (try clear hi)) | ((with_reducible refine gate_callee (f := 18) rfl ?_); refine goesL_ (some 17) rfl rfl Tryd.func18 (by kernel_rfl) rfl #[.string a0] rfl (by (try simp only [List.map_toArray, List.map_cons, List.map_nil]); first | done | rfl | (simp only [List.length_drop, List.length_take]; rfl)) ?_; (with_reducible refine (impl_ParseHour.calls k a0 t194 t195 _ (HTN.out.below (by repeat (first | (with_reducible first | exact HB.out | apply below_alloc | apply pw_below_drewN | apply below_drew1) | exact HB.out))) A4.out).mono ?_); rintro e w8 ⟨rfl, hb⟩; refine ⟨_, rfl, ?_⟩; have n0_ := Aside0.mk (below_step (by repeat (first | (with_reducible first | exact HB.out | apply below_alloc | apply pw_below_drewN | apply below_drew1) | exact HB.out)) hb); clear HB; have HB := n0_; clear n0_; (try clear hb); (try clear hb2); (try clear hk); (try clear hi)))
    go_ret
    exact ⟨by first | rfl | (simp [errW_none, errW_some] <;> rfl) | (simp [*, errW_none, errW_some] <;> rfl), by repeat (first | (with_reducible first | exact HB.out | apply below_alloc | apply pw_below_drewN | apply below_drew1) | exact HB.out)⟩
  ·
   rw [if_neg c5] at H
   exact absurd H (by simp)

end Go.Proofs.YtnfcflekbnfmhaaDoor.Q
