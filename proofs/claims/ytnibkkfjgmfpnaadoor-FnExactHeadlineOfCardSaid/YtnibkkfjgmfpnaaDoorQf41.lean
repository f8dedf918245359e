-- Printed by a program of this session (wip/tools/seatprint.py) that runs over the kit's print.
import Derived.Test.YtnibkkfjgmfpnaaDoorQ0
import Derived.Test.YtnibkkfjgmfpnaaDoorQf40
namespace Go.Proofs.YtnibkkfjgmfpnaaDoor.Q
open Go.RowKit Go.Proofs.YtnibkkfjgmfpnaaDoorW.PrintWords Go.Proofs.YtnibkkfjgmfpnaaDoorW.PrintLast Go.Proofs.YtnibkkfjgmfpnaaDoorW.PrintMore
attribute [local go_sem] max2_int min2_int max_two min_two max_three min_three max_four min_four   -- for this text's walks alone
set_option linter.unusedVariables false
set_option linter.unusedSimpArgs false

/-! ### spec_l16Hour: function 41 -/
def spec_l16Hour.f (k : Nat) (a0 : Int) : Option (ByteArray) := (spec_l1Num.f k (Int.tmod a0 24)).bind fun t181 => (if (t181.size : Int) = 1 then (if 1 + t181.size ≤ 9223372036854775807 then ((spec_l1Num.f k (wrap64 ((wrap64 (Int.tdiv a0 24)) + 1))).bind fun t182 => (if 4 + t182.size ≤ 9223372036854775807 then (if ((⟨#[100, 97, 121, 32]⟩ : ByteArray) ++ t182).size + 2 ≤ 9223372036854775807 then (if (((⟨#[100, 97, 121, 32]⟩ : ByteArray) ++ t182) ++ (⟨#[44, 32]⟩ : ByteArray)).size + ((⟨#[48]⟩ : ByteArray) ++ t181).size ≤ 9223372036854775807 then (if ((((⟨#[100, 97, 121, 32]⟩ : ByteArray) ++ t182) ++ (⟨#[44, 32]⟩ : ByteArray)) ++ ((⟨#[48]⟩ : ByteArray) ++ t181)).size + 3 ≤ 9223372036854775807 then (some (((((⟨#[100, 97, 121, 32]⟩ : ByteArray) ++ t182) ++ (⟨#[44, 32]⟩ : ByteArray)) ++ ((⟨#[48]⟩ : ByteArray) ++ t181)) ++ (⟨#[58, 48, 48]⟩ : ByteArray))) else (none)) else (none)) else (none)) else (none))) else (none)) else ((spec_l1Num.f k (wrap64 ((wrap64 (Int.tdiv a0 24)) + 1))).bind fun t183 => (if 4 + t183.size ≤ 9223372036854775807 then (if ((⟨#[100, 97, 121, 32]⟩ : ByteArray) ++ t183).size + 2 ≤ 9223372036854775807 then (if (((⟨#[100, 97, 121, 32]⟩ : ByteArray) ++ t183) ++ (⟨#[44, 32]⟩ : ByteArray)).size + t181.size ≤ 9223372036854775807 then (if ((((⟨#[100, 97, 121, 32]⟩ : ByteArray) ++ t183) ++ (⟨#[44, 32]⟩ : ByteArray)) ++ t181).size + 3 ≤ 9223372036854775807 then (some (((((⟨#[100, 97, 121, 32]⟩ : ByteArray) ++ t183) ++ (⟨#[44, 32]⟩ : ByteArray)) ++ t181) ++ (⟨#[58, 48, 48]⟩ : ByteArray))) else (none)) else (none)) else (none)) else (none))))
theorem spec_l16Hour.mono : ∀ a0 k, LeO (spec_l16Hour.f k a0) (spec_l16Hour.f (k + 1) a0) := by
 intro a0 k
 unfold spec_l16Hour.f
 repeat' first
   | (with_reducible exact spec_l1Num.mono _ _)
   | (with_reducible exact LeO.refl _)
   | (with_reducible exact LeO.none _)
   | (with_reducible refine LeO.ite ?_ ?_)
   | (with_reducible refine LeO.bind ?_ (fun _ => ?_))
   | exact spec_l1Num.mono _ _
   | exact LeO.none _
   | refine LeO.ite ?_ ?_
   | refine LeO.bind ?_ (fun _ => ?_)
set_option maxHeartbeats 8000000 in
set_option maxRecDepth 100000 in
theorem spec_l16Hour.calls (k : Nat) (a0 : Int) (r : ByteArray) (w : World) (h : spec_l16Hour.f k a0 = some r) :
  Calls Tryd.prog 41 #[.int .i64 a0] w fun e w' => e = .returned (.string r) ∧ Below w.heap.size w w' := by
 have HB := Aside0.mk (Below.refl w.heap.size w)
 have H : ((spec_l1Num.f k (Int.tmod a0 24)).bind fun t181 => (if (t181.size : Int) = 1 then (if 1 + t181.size ≤ 9223372036854775807 then ((spec_l1Num.f k (wrap64 ((wrap64 (Int.tdiv a0 24)) + 1))).bind fun t182 => (if 4 + t182.size ≤ 9223372036854775807 then (if ((⟨#[100, 97, 121, 32]⟩ : ByteArray) ++ t182).size + 2 ≤ 9223372036854775807 then (if (((⟨#[100, 97, 121, 32]⟩ : ByteArray) ++ t182) ++ (⟨#[44, 32]⟩ : ByteArray)).size + ((⟨#[48]⟩ : ByteArray) ++ t181).size ≤ 9223372036854775807 then (if ((((⟨#[100, 97, 121, 32]⟩ : ByteArray) ++ t182) ++ (⟨#[44, 32]⟩ : ByteArray)) ++ ((⟨#[48]⟩ : ByteArray) ++ t181)).size + 3 ≤ 9223372036854775807 then (some (((((⟨#[100, 97, 121, 32]⟩ : ByteArray) ++ t182) ++ (⟨#[44, 32]⟩ : ByteArray)) ++ ((⟨#[48]⟩ : ByteArray) ++ t181)) ++ (⟨#[58, 48, 48]⟩ : ByteArray))) else (none)) else (none)) else (none)) else (none))) else (none)) else ((spec_l1Num.f k (wrap64 ((wrap64 (Int.tdiv a0 24)) + 1))).bind fun t183 => (if 4 + t183.size ≤ 9223372036854775807 then (if ((⟨#[100, 97, 121, 32]⟩ : ByteArray) ++ t183).size + 2 ≤ 9223372036854775807 then (if (((⟨#[100, 97, 121, 32]⟩ : ByteArray) ++ t183) ++ (⟨#[44, 32]⟩ : ByteArray)).size + t181.size ≤ 9223372036854775807 then (if ((((⟨#[100, 97, 121, 32]⟩ : ByteArray) ++ t183) ++ (⟨#[44, 32]⟩ : ByteArray)) ++ t181).size + 3 ≤ 9223372036854775807 then (some (((((⟨#[100, 97, 121, 32]⟩ : ByteArray) ++ t183) ++ (⟨#[44, 32]⟩ : ByteArray)) ++ t181) ++ (⟨#[58, 48, 48]⟩ : ByteArray))) else (none)) else (none)) else (none)) else (none))))) = some r := h
 clear h
 replace H := Option.bind_eq_some_iff.mp H
 obtain ⟨t181, A20, H⟩ := H
 replace H : (if (t181.size : Int) = 1 then (if 1 + t181.size ≤ 9223372036854775807 then ((spec_l1Num.f k (wrap64 ((wrap64 (Int.tdiv a0 24)) + 1))).bind fun t182 => (if 4 + t182.size ≤ 9223372036854775807 then (if ((⟨#[100, 97, 121, 32]⟩ : ByteArray) ++ t182).size + 2 ≤ 9223372036854775807 then (if (((⟨#[100, 97, 121, 32]⟩ : ByteArray) ++ t182) ++ (⟨#[44, 32]⟩ : ByteArray)).size + ((⟨#[48]⟩ : ByteArray) ++ t181).size ≤ 9223372036854775807 then (if ((((⟨#[100, 97, 121, 32]⟩ : ByteArray) ++ t182) ++ (⟨#[44, 32]⟩ : ByteArray)) ++ ((⟨#[48]⟩ : ByteArray) ++ t181)).size + 3 ≤ 9223372036854775807 then (some (((((⟨#[100, 97, 121, 32]⟩ : ByteArray) ++ t182) ++ (⟨#[44, 32]⟩ : ByteArray)) ++ ((⟨#[48]⟩ : ByteArray) ++ t181)) ++ (⟨#[58, 48, 48]⟩ : ByteArray))) else (none)) else (none)) else (none)) else (none))) else (none)) else ((spec_l1Num.f k (wrap64 ((wrap64 (Int.tdiv a0 24)) + 1))).bind fun t183 => (if 4 + t183.size ≤ 9223372036854775807 then (if ((⟨#[100, 97, 121, 32]⟩ : ByteArray) ++ t183).size + 2 ≤ 9223372036854775807 then (if (((⟨#[100, 97, 121, 32]⟩ : ByteArray) ++ t183) ++ (⟨#[44, 32]⟩ : ByteArray)).size + t181.size ≤ 9223372036854775807 then (if ((((⟨#[100, 97, 121, 32]⟩ : ByteArray) ++ t183) ++ (⟨#[44, 32]⟩ : ByteArray)) ++ t181).size + 3 ≤ 9223372036854775807 then (some (((((⟨#[100, 97, 121, 32]⟩ : ByteArray) ++ t183) ++ (⟨#[44, 32]⟩ : ByteArray)) ++ t181) ++ (⟨#[58, 48, 48]⟩ : ByteArray))) else (none)) else (none)) else (none)) else (none)))) = some r := H
 have A2 := Aside0.mk A20
 clear A20
 by_cases c3 : (t181.size : Int) = 1
 ·
  rw [if_pos c3] at H
  have c3b0 : ((t181.size : Int) == 1) = true := beq_iff_eq.mpr c3
  have c3b1 : ((t181.size : Int) != 1) = false := bne_eq_false_iff_eq.mpr c3
  clear c3
  by_cases c4 : 1 + t181.size ≤ 9223372036854775807
  ·
   rw [if_pos c4] at H
   have c4b0 := eq_true c4
   have c4b1 : decide (1 + t181.size ≤ 9223372036854775807) = true := decide_eq_true c4
   try have c4b2 : (9223372036854775807 < 1 + t181.size) = False := eq_false (Nat.not_lt.2 c4)
   replace H := Option.bind_eq_some_iff.mp H
   obtain ⟨t182, A50, H⟩ := H
   replace H : (if 4 + t182.size ≤ 9223372036854775807 then (if ((⟨#[100, 97, 121, 32]⟩ : ByteArray) ++ t182).size + 2 ≤ 9223372036854775807 then (if (((⟨#[100, 97, 121, 32]⟩ : ByteArray) ++ t182) ++ (⟨#[44, 32]⟩ : ByteArray)).size + ((⟨#[48]⟩ : ByteArray) ++ t181).size ≤ 9223372036854775807 then (if ((((⟨#[100, 97, 121, 32]⟩ : ByteArray) ++ t182) ++ (⟨#[44, 32]⟩ : ByteArray)) ++ ((⟨#[48]⟩ : ByteArray) ++ t181)).size + 3 ≤ 9223372036854775807 then (some (((((⟨#[100, 97, 121, 32]⟩ : ByteArray) ++ t182) ++ (⟨#[44, 32]⟩ : ByteArray)) ++ ((⟨#[48]⟩ : ByteArray) ++ t181)) ++ (⟨#[58, 48, 48]⟩ : ByteArray))) else (none)) else (none)) else (none)) else (none)) = some r := H
   have A5 := Aside0.mk A50
   clear A50
   by_cases c6 : 4 + t182.size ≤ 9223372036854775807
   ·
    rw [if_pos c6] at H
    have c6b0 := eq_true c6
    have c6b1 : decide (4 + t182.size ≤ 9223372036854775807) = true := decide_eq_true c6
    try have c6b2 : (9223372036854775807 < 4 + t182.size) = False := eq_false (Nat.not_lt.2 c6)
    by_cases c7 : ((⟨#[100, 97, 121, 32]⟩ : ByteArray) ++ t182).size + 2 ≤ 9223372036854775807
    ·
     rw [if_pos c7] at H
     have c7b0 := eq_true c7
     have c7b1 : decide (((⟨#[100, 97, 121, 32]⟩ : ByteArray) ++ t182).size + 2 ≤ 9223372036854775807) = true := decide_eq_true c7
     try have c7b2 : (9223372036854775807 < ((⟨#[100, 97, 121, 32]⟩ : ByteArray) ++ t182).size + 2) = False := eq_false (Nat.not_lt.2 c7)
     try have c7b3 : (9223372036854775807 < 4 + t182.size + 2) = False := eq_false (Nat.not_lt.2 (by have q_ := c7; simp only [ByteArray.size_append] at q_; exact q_))
     by_cases c8 : (((⟨#[100, 97, 121, 32]⟩ : ByteArray) ++ t182) ++ (⟨#[44, 32]⟩ : ByteArray)).size + ((⟨#[48]⟩ : ByteArray) ++ t181).size ≤ 9223372036854775807
     ·
      rw [if_pos c8] at H
      have c8b0 := eq_true c8
      have c8b1 : decide ((((⟨#[100, 97, 121, 32]⟩ : ByteArray) ++ t182) ++ (⟨#[44, 32]⟩ : ByteArray)).size + ((⟨#[48]⟩ : ByteArray) ++ t181).size ≤ 9223372036854775807) = true := decide_eq_true c8
      try have c8b2 : (9223372036854775807 < (((⟨#[100, 97, 121, 32]⟩ : ByteArray) ++ t182) ++ (⟨#[44, 32]⟩ : ByteArray)).size + ((⟨#[48]⟩ : ByteArray) ++ t181).size) = False := eq_false (Nat.not_lt.2 c8)
      try have c8b3 : (9223372036854775807 < 4 + t182.size + 2 + (1 + t181.size)) = False := eq_false (Nat.not_lt.2 (by have q_ := c8; simp only [ByteArray.size_append] at q_; exact q_))
      by_cases c9 : ((((⟨#[100, 97, 121, 32]⟩ : ByteArray) ++ t182) ++ (⟨#[44, 32]⟩ : ByteArray)) ++ ((⟨#[48]⟩ : ByteArray) ++ t181)).size + 3 ≤ 9223372036854775807
      ·
       rw [if_pos c9] at H
       have c9b0 := eq_true c9
       have c9b1 : decide (((((⟨#[100, 97, 121, 32]⟩ : ByteArray) ++ t182) ++ (⟨#[44, 32]⟩ : ByteArray)) ++ ((⟨#[48]⟩ : ByteArray) ++ t181)).size + 3 ≤ 9223372036854775807) = true := decide_eq_true c9
       try have c9b2 : (9223372036854775807 < ((((⟨#[100, 97, 121, 32]⟩ : ByteArray) ++ t182) ++ (⟨#[44, 32]⟩ : ByteArray)) ++ ((⟨#[48]⟩ : ByteArray) ++ t181)).size + 3) = False := eq_false (Nat.not_lt.2 c9)
       try have c9b3 : (9223372036854775807 < 4 + t182.size + 2 + (1 + t181.size) + 3) = False := eq_false (Nat.not_lt.2 (by have q_ := c9; simp only [ByteArray.size_append] at q_; exact q_))
       obtain rfl := Option.some.inj H
       go_enter Tryd.func41, Tryd.ntmps41
       go_wp2_with (first | ((with_reducible refine gate_callee (f := 40) rfl ?_); refine goesL_ (some 6) rfl rfl Tryd.func40 (by kernel_rfl) rfl #[.int .i64 (Int.tmod a0 24)] rfl (by (try simp only [List.map_toArray, List.map_cons, List.map_nil]); first | done | rfl | (simp only [List.length_drop, List.length_take]; rfl)) ?_; (with_reducible refine (spec_l1Num.calls k (Int.tmod a0 24) t181 _ A2.out).mono ?_); rintro e w10 ⟨rfl, hb⟩; refine ⟨_, rfl, ?_⟩; have n0_ := Aside0.mk (below_step (by repeat (first | (with_reducible first | exact HB.out | apply below_alloc | apply pw_below_drewN | apply below_drew1) | exact HB.out)) hb); clear HB; have HB := n0_; clear n0_; (try clear hb); (try clear hb2); (try clear hk); (try clear hi)) | ((with_reducible refine gate_callee (f := 40) rfl ?_); refine goesL_ (some 15) rfl rfl Tryd.func40 (by kernel_rfl) rfl #[.int .i64 (wrap64 ((wrap64 (Int.tdiv a0 24)) + 1))] rfl (by (try simp only [List.map_toArray, List.map_cons, List.map_nil]); first | done | rfl | (simp only [List.length_drop, List.length_take]; rfl)) ?_; (with_reducible refine (spec_l1Num.calls k (wrap64 ((wrap64 (Int.tdiv a0 24)) + 1)) t182 _ A5.out).mono ?_); rintro e w11 ⟨rfl, hb⟩; refine ⟨_, rfl, ?_⟩; have n0_ := Aside0.mk (below_step (by repeat (first | (with_reducible first | exact HB.out | apply below_alloc | apply pw_below_drewN | apply below_drew1) | exact HB.out)) hb); clear HB; have HB := n0_; clear n0_; (try clear hb); (try clear hb2); (try clear hk); (try clear hi)))
       go_ret
       exact ⟨by first | rfl | (simp [errW_none, errW_some] <;> rfl) | (simp [*, errW_none, errW_some] <;> rfl), by repeat (first | (with_reducible first | exact HB.out | apply below_alloc | apply pw_below_drewN | apply below_drew1) | exact HB.out)⟩
      ·
       rw [if_neg c9] at H
       exact absurd H (by simp)
     ·
      rw [if_neg c8] at H
      exact absurd H (by simp)
    ·
     rw [if_neg c7] at H
     exact absurd H (by simp)
   ·
    rw [if_neg c6] at H
    exact absurd H (by simp)
  ·
   rw [if_neg c4] at H
   exact absurd H (by simp)
 ·
  rw [if_neg c3] at H
  have c3b0 : ((t181.size : Int) == 1) = false := beq_eq_false_iff_ne.mpr c3
  have c3b1 : ((t181.size : Int) != 1) = true := bne_iff_ne.mpr c3
  replace H := Option.bind_eq_some_iff.mp H
  obtain ⟨t183, A120, H⟩ := H
  replace H : (if 4 + t183.size ≤ 9223372036854775807 then (if ((⟨#[100, 97, 121, 32]⟩ : ByteArray) ++ t183).size + 2 ≤ 9223372036854775807 then (if (((⟨#[100, 97, 121, 32]⟩ : ByteArray) ++ t183) ++ (⟨#[44, 32]⟩ : ByteArray)).size + t181.size ≤ 9223372036854775807 then (if ((((⟨#[100, 97, 121, 32]⟩ : ByteArray) ++ t183) ++ (⟨#[44, 32]⟩ : ByteArray)) ++ t181).size + 3 ≤ 9223372036854775807 then (some (((((⟨#[100, 97, 121, 32]⟩ : ByteArray) ++ t183) ++ (⟨#[44, 32]⟩ : ByteArray)) ++ t181) ++ (⟨#[58, 48, 48]⟩ : ByteArray))) else (none)) else (none)) else (none)) else (none)) = some r := H
  have A12 := Aside0.mk A120
  clear A120
  by_cases c13 : 4 + t183.size ≤ 9223372036854775807
  ·
   rw [if_pos c13] at H
   have c13b0 := eq_true c13
   have c13b1 : decide (4 + t183.size ≤ 9223372036854775807) = true := decide_eq_true c13
   try have c13b2 : (9223372036854775807 < 4 + t183.size) = False := eq_false (Nat.not_lt.2 c13)
   by_cases c14 : ((⟨#[100, 97, 121, 32]⟩ : ByteArray) ++ t183).size + 2 ≤ 9223372036854775807
   ·
    rw [if_pos c14] at H
    have c14b0 := eq_true c14
    have c14b1 : decide (((⟨#[100, 97, 121, 32]⟩ : ByteArray) ++ t183).size + 2 ≤ 9223372036854775807) = true := decide_eq_true c14
    try have c14b2 : (9223372036854775807 < ((⟨#[100, 97, 121, 32]⟩ : ByteArray) ++ t183).size + 2) = False := eq_false (Nat.not_lt.2 c14)
    try have c14b3 : (9223372036854775807 < 4 + t183.size + 2) = False := eq_false (Nat.not_lt.2 (by have q_ := c14; simp only [ByteArray.size_append] at q_; exact q_))
    by_cases c15 : (((⟨#[100, 97, 121, 32]⟩ : ByteArray) ++ t183) ++ (⟨#[44, 32]⟩ : ByteArray)).size + t181.size ≤ 9223372036854775807
    ·
     rw [if_pos c15] at H
     have c15b0 := eq_true c15
     have c15b1 : decide ((((⟨#[100, 97, 121, 32]⟩ : ByteArray) ++ t183) ++ (⟨#[44, 32]⟩ : ByteArray)).size + t181.size ≤ 9223372036854775807) = true := decide_eq_true c15
     try have c15b2 : (9223372036854775807 < (((⟨#[100, 97, 121, 32]⟩ : ByteArray) ++ t183) ++ (⟨#[44, 32]⟩ : ByteArray)).size + t181.size) = False := eq_false (Nat.not_lt.2 c15)
     try have c15b3 : (9223372036854775807 < 4 + t183.size + 2 + t181.size) = False := eq_false (Nat.not_lt.2 (by have q_ := c15; simp only [ByteArray.size_append] at q_; exact q_))
     by_cases c16 : ((((⟨#[100, 97, 121, 32]⟩ : ByteArray) ++ t183) ++ (⟨#[44, 32]⟩ : ByteArray)) ++ t181).size + 3 ≤ 9223372036854775807
     ·
      rw [if_pos c16] at H
      have c16b0 := eq_true c16
      have c16b1 : decide (((((⟨#[100, 97, 121, 32]⟩ : ByteArray) ++ t183) ++ (⟨#[44, 32]⟩ : ByteArray)) ++ t181).size + 3 ≤ 9223372036854775807) = true := decide_eq_true c16
      try have c16b2 : (9223372036854775807 < ((((⟨#[100, 97, 121, 32]⟩ : ByteArray) ++ t183) ++ (⟨#[44, 32]⟩ : ByteArray)) ++ t181).size + 3) = False := eq_false (Nat.not_lt.2 c16)
      try have c16b3 : (9223372036854775807 < 4 + t183.size + 2 + t181.size + 3) = False := eq_false (Nat.not_lt.2 (by have q_ := c16; simp only [ByteArray.size_append] at q_; exact q_))
      obtain rfl := Option.some.inj H
      go_enter Tryd.func41, Tryd.ntmps41
      go_wp2_with (first | ((with_reducible refine gate_callee (f := 40) rfl ?_); refine goesL_ (some 6) rfl rfl Tryd.func40 (by kernel_rfl) rfl #[.int .i64 (Int.tmod a0 24)] rfl (by (try simp only [List.map_toArray, List.map_cons, List.map_nil]); first | done | rfl | (simp only [List.length_drop, List.length_take]; rfl)) ?_; (with_reducible refine (spec_l1Num.calls k (Int.tmod a0 24) t181 _ A2.out).mono ?_); rintro e w17 ⟨rfl, hb⟩; refine ⟨_, rfl, ?_⟩; have n0_ := Aside0.mk (below_step (by repeat (first | (with_reducible first | exact HB.out | apply below_alloc | apply pw_below_drewN | apply below_drew1) | exact HB.out)) hb); clear HB; have HB := n0_; clear n0_; (try clear hb); (try clear hb2); (try clear hk); (try clear hi)) | ((with_reducible refine gate_callee (f := 40) rfl ?_); refine goesL_ (some 15) rfl rfl Tryd.func40 (by kernel_rfl) rfl #[.int .i64 (wrap64 ((wrap64 (Int.tdiv a0 24)) + 1))] rfl (by (try simp only [List.map_toArray, List.map_cons, List.map_nil]); first | done | rfl | (simp only [List.length_drop, List.length_take]; rfl)) ?_; (with_reducible refine (spec_l1Num.calls k (wrap64 ((wrap64 (Int.tdiv a0 24)) + 1)) t183 _ A12.out).mono ?_); rintro e w18 ⟨rfl, hb⟩; refine ⟨_, rfl, ?_⟩; have n0_ := Aside0.mk (below_step (by repeat (first | (with_reducible first | exact HB.out | apply below_alloc | apply pw_below_drewN | apply below_drew1) | exact HB.out)) hb); clear HB; have HB := n0_; clear n0_; (try clear hb); (try clear hb2); (try clear hk); (try clear hi)))
      go_ret
      exact ⟨by first | rfl | (simp [errW_none, errW_some] <;> rfl) | (simp [*, errW_none, errW_some] <;> rfl), by repeat (first | (with_reducible first | exact HB.out | apply below_alloc | apply pw_below_drewN | apply below_drew1) | exact HB.out)⟩
     ·
      rw [if_neg c16] at H
      exact absurd H (by simp)
    ·
     rw [if_neg c15] at H
     exact absurd H (by simp)
   ·
    rw [if_neg c14] at H
    exact absurd H (by simp)
  ·
   rw [if_neg c13] at H
   exact absurd H (by simp)

end Go.Proofs.YtnibkkfjgmfpnaaDoor.Q
