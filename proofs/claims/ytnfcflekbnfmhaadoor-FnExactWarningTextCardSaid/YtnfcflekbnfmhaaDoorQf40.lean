-- Printed by a program of this session (wip/tools/seatprint.py) that runs over the kit's print.
import Derived.Test.YtnfcflekbnfmhaaDoorQ0
import Derived.Test.YtnfcflekbnfmhaaDoorQf20
import Derived.Test.YtnfcflekbnfmhaaDoorQf38
namespace Go.Proofs.YtnfcflekbnfmhaaDoor.Q
open Go.RowKit Go.Proofs.YtnfcflekbnfmhaaDoorW.PrintWords Go.Proofs.YtnfcflekbnfmhaaDoorW.PrintLast Go.Proofs.YtnfcflekbnfmhaaDoorW.PrintMore
attribute [local go_sem] max2_int min2_int max_two min_two max_three min_three max_four min_four   -- for this text's walks alone
set_option linter.unusedVariables false
set_option linter.unusedSimpArgs false

/-! ### impl_hourText: function 40 -/
def impl_hourText.f (a0 : Int) : Option (ByteArray) := (strconv_Itoa.f (wrap64 ((wrap64 (Int.tdiv a0 24)) + 1))).bind fun t181 => (if 4 + t181.size ≤ 9223372036854775807 then (if ((⟨#[100, 97, 121, 32]⟩ : ByteArray) ++ t181).size + 2 ≤ 9223372036854775807 then ((strconv_Itoa.f (wrap64 (Int.tdiv (Int.tmod a0 24) 10))).bind fun t182 => (if (((⟨#[100, 97, 121, 32]⟩ : ByteArray) ++ t181) ++ (⟨#[44, 32]⟩ : ByteArray)).size + t182.size ≤ 9223372036854775807 then ((strconv_Itoa.f (Int.tmod (Int.tmod a0 24) 10)).bind fun t183 => (if ((((⟨#[100, 97, 121, 32]⟩ : ByteArray) ++ t181) ++ (⟨#[44, 32]⟩ : ByteArray)) ++ t182).size + t183.size ≤ 9223372036854775807 then (if (((((⟨#[100, 97, 121, 32]⟩ : ByteArray) ++ t181) ++ (⟨#[44, 32]⟩ : ByteArray)) ++ t182) ++ t183).size + 3 ≤ 9223372036854775807 then (some ((((((⟨#[100, 97, 121, 32]⟩ : ByteArray) ++ t181) ++ (⟨#[44, 32]⟩ : ByteArray)) ++ t182) ++ t183) ++ (⟨#[58, 48, 48]⟩ : ByteArray))) else (none)) else (none))) else (none))) else (none)) else (none))
set_option maxHeartbeats 8000000 in
set_option maxRecDepth 100000 in
theorem impl_hourText.calls (a0 : Int) (r : ByteArray) (w : World) (htN : TabN w) (h : impl_hourText.f a0 = some r) :
  Calls Tryd.prog 40 #[.int .i64 a0] w fun e w' => e = .returned (.string r) ∧ Below w.heap.size w w' := by
 have HTN := Aside0.mk htN
 clear htN
 have HB := Aside0.mk (Below.refl w.heap.size w)
 have H : ((strconv_Itoa.f (wrap64 ((wrap64 (Int.tdiv a0 24)) + 1))).bind fun t181 => (if 4 + t181.size ≤ 9223372036854775807 then (if ((⟨#[100, 97, 121, 32]⟩ : ByteArray) ++ t181).size + 2 ≤ 9223372036854775807 then ((strconv_Itoa.f (wrap64 (Int.tdiv (Int.tmod a0 24) 10))).bind fun t182 => (if (((⟨#[100, 97, 121, 32]⟩ : ByteArray) ++ t181) ++ (⟨#[44, 32]⟩ : ByteArray)).size + t182.size ≤ 9223372036854775807 then ((strconv_Itoa.f (Int.tmod (Int.tmod a0 24) 10)).bind fun t183 => (if ((((⟨#[100, 97, 121, 32]⟩ : ByteArray) ++ t181) ++ (⟨#[44, 32]⟩ : ByteArray)) ++ t182).size + t183.size ≤ 9223372036854775807 then (if (((((⟨#[100, 97, 121, 32]⟩ : ByteArray) ++ t181) ++ (⟨#[44, 32]⟩ : ByteArray)) ++ t182) ++ t183).size + 3 ≤ 9223372036854775807 then (some ((((((⟨#[100, 97, 121, 32]⟩ : ByteArray) ++ t181) ++ (⟨#[44, 32]⟩ : ByteArray)) ++ t182) ++ t183) ++ (⟨#[58, 48, 48]⟩ : ByteArray))) else (none)) else (none))) else (none))) else (none)) else (none))) = some r := h
 clear h
 replace H := Option.bind_eq_some_iff.mp H
 obtain ⟨t181, A20, H⟩ := H
 replace H : (if 4 + t181.size ≤ 9223372036854775807 then (if ((⟨#[100, 97, 121, 32]⟩ : ByteArray) ++ t181).size + 2 ≤ 9223372036854775807 then ((strconv_Itoa.f (wrap64 (Int.tdiv (Int.tmod a0 24) 10))).bind fun t182 => (if (((⟨#[100, 97, 121, 32]⟩ : ByteArray) ++ t181) ++ (⟨#[44, 32]⟩ : ByteArray)).size + t182.size ≤ 9223372036854775807 then ((strconv_Itoa.f (Int.tmod (Int.tmod a0 24) 10)).bind fun t183 => (if ((((⟨#[100, 97, 121, 32]⟩ : ByteArray) ++ t181) ++ (⟨#[44, 32]⟩ : ByteArray)) ++ t182).size + t183.size ≤ 9223372036854775807 then (if (((((⟨#[100, 97, 121, 32]⟩ : ByteArray) ++ t181) ++ (⟨#[44, 32]⟩ : ByteArray)) ++ t182) ++ t183).size + 3 ≤ 9223372036854775807 then (some ((((((⟨#[100, 97, 121, 32]⟩ : ByteArray) ++ t181) ++ (⟨#[44, 32]⟩ : ByteArray)) ++ t182) ++ t183) ++ (⟨#[58, 48, 48]⟩ : ByteArray))) else (none)) else (none))) else (none))) else (none)) else (none)) = some r := H
 have A2 := Aside0.mk A20
 clear A20
 by_cases c3 : 4 + t181.size ≤ 9223372036854775807
 ·
  rw [if_pos c3] at H
  have c3b0 := eq_true c3
  have c3b1 : decide (4 + t181.size ≤ 9223372036854775807) = true := decide_eq_true c3
  try have c3b2 : (9223372036854775807 < 4 + t181.size) = False := eq_false (Nat.not_lt.2 c3)
  by_cases c4 : ((⟨#[100, 97, 121, 32]⟩ : ByteArray) ++ t181).size + 2 ≤ 9223372036854775807
  ·
   rw [if_pos c4] at H
   have c4b0 := eq_true c4
   have c4b1 : decide (((⟨#[100, 97, 121, 32]⟩ : ByteArray) ++ t181).size + 2 ≤ 9223372036854775807) = true := decide_eq_true c4
   try have c4b2 : (9223372036854775807 < ((⟨#[100, 97, 121, 32]⟩ : ByteArray) ++ t181).size + 2) = False := eq_false (Nat.not_lt.2 c4)
   try have c4b3 : (9223372036854775807 < 4 + t181.size + 2) = False := eq_false (Nat.not_lt.2 (by have q_ := c4; simp only [ByteArray.size_append] at q_; exact q_))
   replace H := Option.bind_eq_some_iff.mp H
   obtain ⟨t182, A50, H⟩ := H
   replace H : (if (((⟨#[100, 97, 121, 32]⟩ : ByteArray) ++ t181) ++ (⟨#[44, 32]⟩ : ByteArray)).size + t182.size ≤ 9223372036854775807 then ((strconv_Itoa.f (Int.tmod (Int.tmod a0 24) 10)).bind fun t183 => (if ((((⟨#[100, 97, 121, 32]⟩ : ByteArray) ++ t181) ++ (⟨#[44, 32]⟩ : ByteArray)) ++ t182).size + t183.size ≤ 9223372036854775807 then (if (((((⟨#[100, 97, 121, 32]⟩ : ByteArray) ++ t181) ++ (⟨#[44, 32]⟩ : ByteArray)) ++ t182) ++ t183).size + 3 ≤ 9223372036854775807 then (some ((((((⟨#[100, 97, 121, 32]⟩ : ByteArray) ++ t181) ++ (⟨#[44, 32]⟩ : ByteArray)) ++ t182) ++ t183) ++ (⟨#[58, 48, 48]⟩ : ByteArray))) else (none)) else (none))) else (none)) = some r := H
   have A5 := Aside0.mk A50
   clear A50
   by_cases c6 : (((⟨#[100, 97, 121, 32]⟩ : ByteArray) ++ t181) ++ (⟨#[44, 32]⟩ : ByteArray)).size + t182.size ≤ 9223372036854775807
   ·
    rw [if_pos c6] at H
    have c6b0 := eq_true c6
    have c6b1 : decide ((((⟨#[100, 97, 121, 32]⟩ : ByteArray) ++ t181) ++ (⟨#[44, 32]⟩ : ByteArray)).size + t182.size ≤ 9223372036854775807) = true := decide_eq_true c6
    try have c6b2 : (9223372036854775807 < (((⟨#[100, 97, 121, 32]⟩ : ByteArray) ++ t181) ++ (⟨#[44, 32]⟩ : ByteArray)).size + t182.size) = False := eq_false (Nat.not_lt.2 c6)
    try have c6b3 : (9223372036854775807 < 4 + t181.size + 2 + t182.size) = False := eq_false (Nat.not_lt.2 (by have q_ := c6; simp only [ByteArray.size_append] at q_; exact q_))
    replace H := Option.bind_eq_some_iff.mp H
    obtain ⟨t183, A70, H⟩ := H
    replace H : (if ((((⟨#[100, 97, 121, 32]⟩ : ByteArray) ++ t181) ++ (⟨#[44, 32]⟩ : ByteArray)) ++ t182).size + t183.size ≤ 9223372036854775807 then (if (((((⟨#[100, 97, 121, 32]⟩ : ByteArray) ++ t181) ++ (⟨#[44, 32]⟩ : ByteArray)) ++ t182) ++ t183).size + 3 ≤ 9223372036854775807 then (some ((((((⟨#[100, 97, 121, 32]⟩ : ByteArray) ++ t181) ++ (⟨#[44, 32]⟩ : ByteArray)) ++ t182) ++ t183) ++ (⟨#[58, 48, 48]⟩ : ByteArray))) else (none)) else (none)) = some r := H
    have A7 := Aside0.mk A70
    clear A70
    by_cases c8 : ((((⟨#[100, 97, 121, 32]⟩ : ByteArray) ++ t181) ++ (⟨#[44, 32]⟩ : ByteArray)) ++ t182).size + t183.size ≤ 9223372036854775807
    ·
     rw [if_pos c8] at H
     have c8b0 := eq_true c8
     have c8b1 : decide (((((⟨#[100, 97, 121, 32]⟩ : ByteArray) ++ t181) ++ (⟨#[44, 32]⟩ : ByteArray)) ++ t182).size + t183.size ≤ 9223372036854775807) = true := decide_eq_true c8
     try have c8b2 : (9223372036854775807 < ((((⟨#[100, 97, 121, 32]⟩ : ByteArray) ++ t181) ++ (⟨#[44, 32]⟩ : ByteArray)) ++ t182).size + t183.size) = False := eq_false (Nat.not_lt.2 c8)
     try have c8b3 : (9223372036854775807 < 4 + t181.size + 2 + t182.size + t183.size) = False := eq_false (Nat.not_lt.2 (by have q_ := c8; simp only [ByteArray.size_append] at q_; exact q_))
     by_cases c9 : (((((⟨#[100, 97, 121, 32]⟩ : ByteArray) ++ t181) ++ (⟨#[44, 32]⟩ : ByteArray)) ++ t182) ++ t183).size + 3 ≤ 9223372036854775807
     ·
      rw [if_pos c9] at H
      have c9b0 := eq_true c9
      have c9b1 : decide ((((((⟨#[100, 97, 121, 32]⟩ : ByteArray) ++ t181) ++ (⟨#[44, 32]⟩ : ByteArray)) ++ t182) ++ t183).size + 3 ≤ 9223372036854775807) = true := decide_eq_true c9
      try have c9b2 : (9223372036854775807 < (((((⟨#[100, 97, 121, 32]⟩ : ByteArray) ++ t181) ++ (⟨#[44, 32]⟩ : ByteArray)) ++ t182) ++ t183).size + 3) = False := eq_false (Nat.not_lt.2 c9)
      try have c9b3 : (9223372036854775807 < 4 + t181.size + 2 + t182.size + t183.size + 3) = False := eq_false (Nat.not_lt.2 (by have q_ := c9; simp only [ByteArray.size_append] at q_; exact q_))
      obtain rfl := Option.some.inj H
      go_enter Tryd.func40, Tryd.ntmps40
      go_wp2_with (first | ((with_reducible refine gate_callee (f := 46) rfl ?_); refine goesL_ (some 6) rfl rfl Tryd.func46 (by kernel_rfl) rfl #[.int .i64 (wrap64 ((wrap64 (Int.tdiv a0 24)) + 1))] rfl (by (try simp only [List.map_toArray, List.map_cons, List.map_nil]); first | done | rfl | (simp only [List.length_drop, List.length_take]; rfl)) ?_; (with_reducible refine (strconv_Itoa.calls (wrap64 ((wrap64 (Int.tdiv a0 24)) + 1)) t181 _ (HTN.out.below (by repeat (first | (with_reducible first | exact HB.out | apply below_alloc | apply pw_below_drewN | apply below_drew1) | exact HB.out))) A2.out).mono ?_); rintro e w10 ⟨rfl, hb⟩; refine ⟨_, rfl, ?_⟩; have n0_ := Aside0.mk (below_step (by repeat (first | (with_reducible first | exact HB.out | apply below_alloc | apply pw_below_drewN | apply below_drew1) | exact HB.out)) hb); clear HB; have HB := n0_; clear n0_; (try clear hb); (try clear hb2); (try clear hk); (try clear hi)) | ((with_reducible refine gate_callee (f := 46) rfl ?_); refine goesL_ (some 12) rfl rfl Tryd.func46 (by kernel_rfl) rfl #[.int .i64 (wrap64 (Int.tdiv (Int.tmod a0 24) 10))] rfl (by (try simp only [List.map_toArray, List.map_cons, List.map_nil]); first | done | rfl | (simp only [List.length_drop, List.length_take]; rfl)) ?_; (with_reducible refine (strconv_Itoa.calls (wrap64 (Int.tdiv (Int.tmod a0 24) 10)) t182 _ (HTN.out.below (by repeat (first | (with_reducible first | exact HB.out | apply below_alloc | apply pw_below_drewN | apply below_drew1) | exact HB.out))) A5.out).mono ?_); rintro e w11 ⟨rfl, hb⟩; refine ⟨_, rfl, ?_⟩; have n0_ := Aside0.mk (below_step (by repeat (first | (with_reducible first | exact HB.out | apply below_alloc | apply pw_below_drewN | apply below_drew1) | exact HB.out)) hb); clear HB; have HB := n0_; clear n0_; (try clear hb); (try clear hb2); (try clear hk); (try clear hi)) | ((with_reducible refine gate_callee (f := 46) rfl ?_); refine goesL_ (some 17) rfl rfl Tryd.func46 (by kernel_rfl) rfl #[.int .i64 (Int.tmod (Int.tmod a0 24) 10)] rfl (by (try simp only [List.map_toArray, List.map_cons, List.map_nil]); first | done | rfl | (simp only [List.length_drop, List.length_take]; rfl)) ?_; (with_reducible refine (strconv_Itoa.calls (Int.tmod (Int.tmod a0 24) 10) t183 _ (HTN.out.below (by repeat (first | (with_reducible first | exact HB.out | apply below_alloc | apply pw_below_drewN | apply below_drew1) | exact HB.out))) A7.out).mono ?_); rintro e w12 ⟨rfl, hb⟩; refine ⟨_, rfl, ?_⟩; have n0_ := Aside0.mk (below_step (by repeat (first | (with_reducible first | exact HB.out | apply below_alloc | apply pw_below_drewN | apply below_drew1) | exact HB.out)) hb); clear HB; have HB := n0_; clear n0_; (try clear hb); (try clear hb2); (try clear hk); (try clear hi)))
      go_ret
      exact ⟨by first | rfl | (simp [errW_none, errW_some] <;> rfl) | (simp [*, errW_none, errW_some] <;> rfl), by repeat (first | (with_reducible first | exact HB.out | apply below_alloc | apply pw_below_drewN | apply below_drew1) | exact HB.out)⟩
     ·
      rw [if_neg c9] at H
      exact absurd H (by simp)
    ·
     rw [if_neg c8] at H
     exact absurd H (by simp)
   ·
    rw [if_neg c6] at H
    exact absurd H (by simp)
  ·
   rw [if_neg c4] at H
   exact absurd H (by simp)
 ·
  rw [if_neg c3] at H
  exact absurd H (by simp)

/-! ### impl_HourText: function 16 -/
def impl_HourText.f (a0 : Int) : Option (ByteArray × Bool) := (impl_within.f a0 0 240).bind fun t184 => (if t184 = true then ((impl_hourText.f a0).bind fun t185 => (some (t185, true))) else (some ((⟨#[]⟩ : ByteArray), false)))
set_option maxHeartbeats 8000000 in
set_option maxRecDepth 100000 in
theorem impl_HourText.calls (a0 : Int) (r1 : ByteArray) (r2 : Bool) (w : World) (htN : TabN w) (h : impl_HourText.f a0 = some (r1, r2)) :
  Calls Tryd.prog 16 #[.int .i64 a0] w fun e w' => e = .returned (.tuple #[.string r1, .bool r2]) ∧ Below w.heap.size w w' := by
 have HTN := Aside0.mk htN
 clear htN
 have HB := Aside0.mk (Below.refl w.heap.size w)
 have H : ((impl_within.f a0 0 240).bind fun t184 => (if t184 = true then ((impl_hourText.f a0).bind fun t185 => (some (t185, true))) else (some ((⟨#[]⟩ : ByteArray), false)))) = some (r1, r2) := h
 clear h
 replace H := Option.bind_eq_some_iff.mp H
 obtain ⟨t184, A20, H⟩ := H
 replace H : (if t184 = true then ((impl_hourText.f a0).bind fun t185 => (some (t185, true))) else (some ((⟨#[]⟩ : ByteArray), false))) = some (r1, r2) := H
 have A2 := Aside0.mk A20
 clear A20
 by_cases c3 : t184 = true
 ·
  subst c3
  have H1 : ((impl_hourText.f a0).bind fun t185 => (some (t185, true))) = some (r1, r2) := by rw [if_pos rfl] at H; exact H
  clear H
  have H := H1
  clear H1
  replace H := Option.bind_eq_some_iff.mp H
  obtain ⟨t185, A40, H⟩ := H
  replace H : (some (t185, true)) = some (r1, r2) := H
  have A4 := Aside0.mk A40
  clear A40
  simp only [Option.some.injEq, Prod.mk.injEq] at H
  obtain ⟨rfl, rfl⟩ := H
  go_enter Tryd.func16, Tryd.ntmps16
  go_wp2_with (first | ((with_reducible refine gate_callee (f := 39) rfl ?_); refine goesL_ (some 5) rfl rfl Tryd.func39 (by kernel_rfl) rfl #[.int .i64 a0, .int .i64 0, .int .i64 240] rfl (by (try simp only [List.map_toArray, List.map_cons, List.map_nil]); first | done | rfl | (simp only [List.length_drop, List.length_take]; rfl)) ?_; (with_reducible refine (impl_within.calls a0 0 240 true _ A2.out).mono ?_); rintro e w' ⟨rfl, ⟨nd, rfl⟩⟩; refine ⟨_, rfl, ?_⟩) | ((with_reducible refine gate_callee (f := 40) rfl ?_); refine goesL_ (some 8) rfl rfl Tryd.func40 (by kernel_rfl) rfl #[.int .i64 a0] rfl (by (try simp only [List.map_toArray, List.map_cons, List.map_nil]); first | done | rfl | (simp only [List.length_drop, List.length_take]; rfl)) ?_; (with_reducible refine (impl_hourText.calls a0 t185 _ (HTN.out.below (by repeat (first | (with_reducible first | exact HB.out | apply below_alloc | apply pw_below_drewN | apply below_drew1) | exact HB.out))) A4.out).mono ?_); rintro e w5 ⟨rfl, hb⟩; refine ⟨_, rfl, ?_⟩; have n0_ := Aside0.mk (below_step (by repeat (first | (with_reducible first | exact HB.out | apply below_alloc | apply pw_below_drewN | apply below_drew1) | exact HB.out)) hb); clear HB; have HB := n0_; clear n0_; (try clear hb); (try clear hb2); (try clear hk); (try clear hi)))
  go_ret2
  exact ⟨by first | rfl | (simp [errW_none, errW_some] <;> rfl) | (simp [*, errW_none, errW_some] <;> rfl), by repeat (first | (with_reducible first | exact HB.out | apply below_alloc | apply pw_below_drewN | apply below_drew1) | exact HB.out)⟩
 ·
  replace c3 := Bool.eq_false_iff.mpr c3
  subst c3
  have H1 : (some ((⟨#[]⟩ : ByteArray), false)) = some (r1, r2) := by rw [if_neg (show ¬ (false = true) by decide)] at H; exact H
  clear H
  have H := H1
  clear H1
  simp only [Option.some.injEq, Prod.mk.injEq] at H
  obtain ⟨rfl, rfl⟩ := H
  go_enter Tryd.func16, Tryd.ntmps16
  go_wp2_with (first | ((with_reducible refine gate_callee (f := 39) rfl ?_); refine goesL_ (some 5) rfl rfl Tryd.func39 (by kernel_rfl) rfl #[.int .i64 a0, .int .i64 0, .int .i64 240] rfl (by (try simp only [List.map_toArray, List.map_cons, List.map_nil]); first | done | rfl | (simp only [List.length_drop, List.length_take]; rfl)) ?_; (with_reducible refine (impl_within.calls a0 0 240 false _ A2.out).mono ?_); rintro e w' ⟨rfl, ⟨nd, rfl⟩⟩; refine ⟨_, rfl, ?_⟩))
  go_ret2
  exact ⟨by first | rfl | (simp [errW_none, errW_some] <;> rfl) | (simp [*, errW_none, errW_some] <;> rfl), by repeat (first | (with_reducible first | exact HB.out | apply below_alloc | apply pw_below_drewN | apply below_drew1) | exact HB.out)⟩

/-! ### laws_FnExactHourText: function 4 -/
def laws_FnExactHourText.f (k : Nat) (a0 : Int) : Option (Bool) := (spec_HourText.f k a0).bind fun bt186 => ((impl_HourText.f a0).bind fun bt188 => (if bt188.1.toList = bt186.1.toList then (if (bt188.2 != bt186.2) = true then (none) else (some true)) else (none)))
theorem laws_FnExactHourText.mono : ∀ a0 k, LeO (laws_FnExactHourText.f k a0) (laws_FnExactHourText.f (k + 1) a0) := by
 intro a0 k
 unfold laws_FnExactHourText.f
 repeat' first
   | (with_reducible exact spec_HourText.mono _ _)
   | (with_reducible exact LeO.refl _)
   | (with_reducible exact LeO.none _)
   | (with_reducible refine LeO.ite ?_ ?_)
   | (with_reducible refine LeO.bind ?_ (fun _ => ?_))
   | exact spec_HourText.mono _ _
   | exact LeO.none _
   | refine LeO.ite ?_ ?_
   | refine LeO.bind ?_ (fun _ => ?_)
set_option maxHeartbeats 8000000 in
set_option maxRecDepth 100000 in
theorem laws_FnExactHourText.calls (k : Nat) (a0 : Int) (r : Bool) (w : World) (htN : TabN w) (h : laws_FnExactHourText.f k a0 = some r) :
  Calls Tryd.prog 4 #[.int .i64 a0] w fun e w' => e = .returned (.bool r) ∧ Below w.heap.size w w' := by
 have HTN := Aside0.mk htN
 clear htN
 have HB := Aside0.mk (Below.refl w.heap.size w)
 have H : ((spec_HourText.f k a0).bind fun bt186 => ((impl_HourText.f a0).bind fun bt188 => (if bt188.1.toList = bt186.1.toList then (if (bt188.2 != bt186.2) = true then (none) else (some true)) else (none)))) = some r := h
 clear h
 replace H := Option.bind_eq_some_iff.mp H
 obtain ⟨⟨t186, t187⟩, A20, H⟩ := H
 replace H : ((impl_HourText.f a0).bind fun bt188 => (if bt188.1.toList = t186.toList then (if (bt188.2 != t187) = true then (none) else (some true)) else (none))) = some r := H
 have A2 := Aside0.mk A20
 clear A20
 replace H := Option.bind_eq_some_iff.mp H
 obtain ⟨⟨t188, t189⟩, A30, H⟩ := H
 replace H : (if t188.toList = t186.toList then (if (t189 != t187) = true then (none) else (some true)) else (none)) = some r := H
 have A3 := Aside0.mk A30
 clear A30
 by_cases c4 : t188.toList = t186.toList
 ·
  rw [if_pos c4] at H
  have c4b0 : (t188.toList == t186.toList) = true := beq_iff_eq.mpr c4
  have c4b1 : (t188.toList != t186.toList) = false := bne_eq_false_iff_eq.mpr c4
  clear c4
  by_cases c5 : (t189 != t187) = true
  ·
   rw [if_pos c5] at H
   exact absurd H (by simp)
  ·
   rw [if_neg c5] at H
   have c5b0 : (t189 != t187) = false := by simpa using c5
   (try (have c5b1 : decide (t189 = t187) = true := by simpa using c5))
   (try (have c5b2 : (t189 == t187) = true := by simpa using c5))
   clear c5
   obtain rfl := Option.some.inj H
   go_enter Tryd.func4, Tryd.ntmps4
   go_wp2_with (first | ((with_reducible refine gate_callee (f := 15) rfl ?_); refine goesL_ (some 9) rfl rfl Tryd.func15 (by kernel_rfl) rfl #[.int .i64 a0] rfl (by (try simp only [List.map_toArray, List.map_cons, List.map_nil]); first | done | rfl | (simp only [List.length_drop, List.length_take]; rfl)) ?_; (with_reducible refine (spec_HourText.calls k a0 t186 t187 _ A2.out).mono ?_); rintro e w6 ⟨rfl, hb⟩; refine ⟨_, rfl, ?_⟩; have n0_ := Aside0.mk (below_step (by repeat (first | (with_reducible first | exact HB.out | apply below_alloc | apply pw_below_drewN | apply below_drew1) | exact HB.out)) hb); clear HB; have HB := n0_; clear n0_; (try clear hb); (try clear hb2); (try clear hk); (try clear hi)) | ((with_reducible refine gate_callee (f := 16) rfl ?_); refine goesL_ (some 14) rfl rfl Tryd.func16 (by kernel_rfl) rfl #[.int .i64 a0] rfl (by (try simp only [List.map_toArray, List.map_cons, List.map_nil]); first | done | rfl | (simp only [List.length_drop, List.length_take]; rfl)) ?_; (with_reducible refine (impl_HourText.calls a0 t188 t189 _ (HTN.out.below (by repeat (first | (with_reducible first | exact HB.out | apply below_alloc | apply pw_below_drewN | apply below_drew1) | exact HB.out))) A3.out).mono ?_); rintro e w7 ⟨rfl, hb⟩; refine ⟨_, rfl, ?_⟩; have n0_ := Aside0.mk (below_step (by repeat (first | (with_reducible first | exact HB.out | apply below_alloc | apply pw_below_drewN | apply below_drew1) | exact HB.out)) hb); clear HB; have HB := n0_; clear n0_; (try clear hb); (try clear hb2); (try clear hk); (try clear hi)))
   go_ret
   exact ⟨by first | rfl | (simp [errW_none, errW_some] <;> rfl) | (simp [*, errW_none, errW_some] <;> rfl), by repeat (first | (with_reducible first | exact HB.out | apply below_alloc | apply pw_below_drewN | apply below_drew1) | exact HB.out)⟩
 ·
  rw [if_neg c4] at H
  exact absurd H (by simp)

end Go.Proofs.YtnfcflekbnfmhaaDoor.Q
