-- Printed by a program of this session (wip/tools/seatprint.py) that runs over the kit's print.
import Derived.Test.YtnfcflekbnfmhaaDoorQ0
import Derived.Test.YtnfcflekbnfmhaaDoorQf10
import Derived.Test.YtnfcflekbnfmhaaDoorQf45
namespace Go.Proofs.YtnfcflekbnfmhaaDoor.Q
open Go.RowKit Go.Proofs.YtnfcflekbnfmhaaDoorW.PrintWords Go.Proofs.YtnfcflekbnfmhaaDoorW.PrintLast Go.Proofs.YtnfcflekbnfmhaaDoorW.PrintMore
attribute [local go_sem] max2_int min2_int max_two min_two max_three min_three max_four min_four   -- for this text's walks alone
set_option linter.unusedVariables false
set_option linter.unusedSimpArgs false

/-! ### spec_l16Hour: function 38 -/
def spec_l16Hour.f (k : Nat) (a0 : Int) : Option (ByteArray) := (spec_l1Num.f k (Int.tmod a0 24)).bind fun t176 => (if (t176.size : Int) = 1 then (if 1 + t176.size ≤ 9223372036854775807 then ((spec_l1Num.f k (wrap64 ((wrap64 (Int.tdiv a0 24)) + 1))).bind fun t177 => (if 4 + t177.size ≤ 9223372036854775807 then (if ((⟨#[100, 97, 121, 32]⟩ : ByteArray) ++ t177).size + 2 ≤ 9223372036854775807 then (if (((⟨#[100, 97, 121, 32]⟩ : ByteArray) ++ t177) ++ (⟨#[44, 32]⟩ : ByteArray)).size + ((⟨#[48]⟩ : ByteArray) ++ t176).size ≤ 9223372036854775807 then (if ((((⟨#[100, 97, 121, 32]⟩ : ByteArray) ++ t177) ++ (⟨#[44, 32]⟩ : ByteArray)) ++ ((⟨#[48]⟩ : ByteArray) ++ t176)).size + 3 ≤ 9223372036854775807 then (some (((((⟨#[100, 97, 121, 32]⟩ : ByteArray) ++ t177) ++ (⟨#[44, 32]⟩ : ByteArray)) ++ ((⟨#[48]⟩ : ByteArray) ++ t176)) ++ (⟨#[58, 48, 48]⟩ : ByteArray))) else (none)) else (none)) else (none)) else (none))) else (none)) else ((spec_l1Num.f k (wrap64 ((wrap64 (Int.tdiv a0 24)) + 1))).bind fun t178 => (if 4 + t178.size ≤ 9223372036854775807 then (if ((⟨#[100, 97, 121, 32]⟩ : ByteArray) ++ t178).size + 2 ≤ 9223372036854775807 then (if (((⟨#[100, 97, 121, 32]⟩ : ByteArray) ++ t178) ++ (⟨#[44, 32]⟩ : ByteArray)).size + t176.size ≤ 9223372036854775807 then (if ((((⟨#[100, 97, 121, 32]⟩ : ByteArray) ++ t178) ++ (⟨#[44, 32]⟩ : ByteArray)) ++ t176).size + 3 ≤ 9223372036854775807 then (some (((((⟨#[100, 97, 121, 32]⟩ : ByteArray) ++ t178) ++ (⟨#[44, 32]⟩ : ByteArray)) ++ t176) ++ (⟨#[58, 48, 48]⟩ : ByteArray))) else (none)) else (none)) else (none)) else (none))))
theorem spec_l16Hour.mono : ∀ a0 k, LeO (spec_l16Hour.f k a0) (spec_l16Hour.f (k + 1) a0) := by
 intro a0 k
 unfold spec_l16Hour.f
 repeat' first
   | (with_reducible exact spec_l1Num.mono _ _)
   | (with_reducible exact LeO.refl _)
   | (with_reducible exact LeO.none _)
   | (with_reducible refine LeO.ite ?_ ?_)
   | (with_reducible refine LeO.bind ?_ (fun _ => ?_))
   | exact spec_l1Num.mono _ _
   | exact LeO.none _
   | refine LeO.ite ?_ ?_
   | refine LeO.bind ?_ (fun _ => ?_)
set_option maxHeartbeats 8000000 in
set_option maxRecDepth 100000 in
theorem spec_l16Hour.calls (k : Nat) (a0 : Int) (r : ByteArray) (w : World) (h : spec_l16Hour.f k a0 = some r) :
  Calls Tryd.prog 38 #[.int .i64 a0] w fun e w' => e = .returned (.string r) ∧ Below w.heap.size w w' := by
 have HB := Aside0.mk (Below.refl w.heap.size w)
 have H : ((spec_l1Num.f k (Int.tmod a0 24)).bind fun t176 => (if (t176.size : Int) = 1 then (if 1 + t176.size ≤ 9223372036854775807 then ((spec_l1Num.f k (wrap64 ((wrap64 (Int.tdiv a0 24)) + 1))).bind fun t177 => (if 4 + t177.size ≤ 9223372036854775807 then (if ((⟨#[100, 97, 121, 32]⟩ : ByteArray) ++ t177).size + 2 ≤ 9223372036854775807 then (if (((⟨#[100, 97, 121, 32]⟩ : ByteArray) ++ t177) ++ (⟨#[44, 32]⟩ : ByteArray)).size + ((⟨#[48]⟩ : ByteArray) ++ t176).size ≤ 9223372036854775807 then (if ((((⟨#[100, 97, 121, 32]⟩ : ByteArray) ++ t177) ++ (⟨#[44, 32]⟩ : ByteArray)) ++ ((⟨#[48]⟩ : ByteArray) ++ t176)).size + 3 ≤ 9223372036854775807 then (some (((((⟨#[100, 97, 121, 32]⟩ : ByteArray) ++ t177) ++ (⟨#[44, 32]⟩ : ByteArray)) ++ ((⟨#[48]⟩ : ByteArray) ++ t176)) ++ (⟨#[58, 48, 48]⟩ : ByteArray))) else (none)) else (none)) else (none)) else (none))) else (none)) else ((spec_l1Num.f k (wrap64 ((wrap64 (Int.tdiv a0 24)) + 1))).bind fun t178 => (if 4 + t178.size ≤ 9223372036854775807 then (if ((⟨#[100, 97, 121, 32]⟩ : ByteArray) ++ t178).size + 2 ≤ 9223372036854775807 then (if (((⟨#[100, 97, 121, 32]⟩ : ByteArray) ++ t178) ++ (⟨#[44, 32]⟩ : ByteArray)).size + t176.size ≤ 9223372036854775807 then (if ((((⟨#[100, 97, 121, 32]⟩ : ByteArray) ++ t178) ++ (⟨#[44, 32]⟩ : ByteArray)) ++ t176).size + 3 ≤ 9223372036854775807 then (some (((((⟨#[100, 97, 121, 32]⟩ : ByteArray) ++ t178) ++ (⟨#[44, 32]⟩ : ByteArray)) ++ t176) ++ (⟨#[58, 48, 48]⟩ : ByteArray))) else (none)) else (none)) else (none)) else (none))))) = some r := h
 clear h
 replace H := Option.bind_eq_some_iff.mp H
 obtain ⟨t176, A20, H⟩ := H
 replace H : (if (t176.size : Int) = 1 then (if 1 + t176.size ≤ 9223372036854775807 then ((spec_l1Num.f k (wrap64 ((wrap64 (Int.tdiv a0 24)) + 1))).bind fun t177 => (if 4 + t177.size ≤ 9223372036854775807 then (if ((⟨#[100, 97, 121, 32]⟩ : ByteArray) ++ t177).size + 2 ≤ 9223372036854775807 then (if (((⟨#[100, 97, 121, 32]⟩ : ByteArray) ++ t177) ++ (⟨#[44, 32]⟩ : ByteArray)).size + ((⟨#[48]⟩ : ByteArray) ++ t176).size ≤ 9223372036854775807 then (if ((((⟨#[100, 97, 121, 32]⟩ : ByteArray) ++ t177) ++ (⟨#[44, 32]⟩ : ByteArray)) ++ ((⟨#[48]⟩ : ByteArray) ++ t176)).size + 3 ≤ 9223372036854775807 then (some (((((⟨#[100, 97, 121, 32]⟩ : ByteArray) ++ t177) ++ (⟨#[44, 32]⟩ : ByteArray)) ++ ((⟨#[48]⟩ : ByteArray) ++ t176)) ++ (⟨#[58, 48, 48]⟩ : ByteArray))) else (none)) else (none)) else (none)) else (none))) else (none)) else ((spec_l1Num.f k (wrap64 ((wrap64 (Int.tdiv a0 24)) + 1))).bind fun t178 => (if 4 + t178.size ≤ 9223372036854775807 then (if ((⟨#[100, 97, 121, 32]⟩ : ByteArray) ++ t178).size + 2 ≤ 9223372036854775807 then (if (((⟨#[100, 97, 121, 32]⟩ : ByteArray) ++ t178) ++ (⟨#[44, 32]⟩ : ByteArray)).size + t176.size ≤ 9223372036854775807 then (if ((((⟨#[100, 97, 121, 32]⟩ : ByteArray) ++ t178) ++ (⟨#[44, 32]⟩ : ByteArray)) ++ t176).size + 3 ≤ 9223372036854775807 then (some (((((⟨#[100, 97, 121, 32]⟩ : ByteArray) ++ t178) ++ (⟨#[44, 32]⟩ : ByteArray)) ++ t176) ++ (⟨#[58, 48, 48]⟩ : ByteArray))) else (none)) else (none)) else (none)) else (none)))) = some r := H
 have A2 := Aside0.mk A20
 clear A20
 by_cases c3 : (t176.size : Int) = 1
 ·
  rw [if_pos c3] at H
  have c3b0 : ((t176.size : Int) == 1) = true := beq_iff_eq.mpr c3
  have c3b1 : ((t176.size : Int) != 1) = false := bne_eq_false_iff_eq.mpr c3
  clear c3
  by_cases c4 : 1 + t176.size ≤ 9223372036854775807
  ·
   rw [if_pos c4] at H
   have c4b0 := eq_true c4
   have c4b1 : decide (1 + t176.size ≤ 9223372036854775807) = true := decide_eq_true c4
   try have c4b2 : (9223372036854775807 < 1 + t176.size) = False := eq_false (Nat.not_lt.2 c4)
   replace H := Option.bind_eq_some_iff.mp H
   obtain ⟨t177, A50, H⟩ := H
   replace H : (if 4 + t177.size ≤ 9223372036854775807 then (if ((⟨#[100, 97, 121, 32]⟩ : ByteArray) ++ t177).size + 2 ≤ 9223372036854775807 then (if (((⟨#[100, 97, 121, 32]⟩ : ByteArray) ++ t177) ++ (⟨#[44, 32]⟩ : ByteArray)).size + ((⟨#[48]⟩ : ByteArray) ++ t176).size ≤ 9223372036854775807 then (if ((((⟨#[100, 97, 121, 32]⟩ : ByteArray) ++ t177) ++ (⟨#[44, 32]⟩ : ByteArray)) ++ ((⟨#[48]⟩ : ByteArray) ++ t176)).size + 3 ≤ 9223372036854775807 then (some (((((⟨#[100, 97, 121, 32]⟩ : ByteArray) ++ t177) ++ (⟨#[44, 32]⟩ : ByteArray)) ++ ((⟨#[48]⟩ : ByteArray) ++ t176)) ++ (⟨#[58, 48, 48]⟩ : ByteArray))) else (none)) else (none)) else (none)) else (none)) = some r := H
   have A5 := Aside0.mk A50
   clear A50
   by_cases c6 : 4 + t177.size ≤ 9223372036854775807
   ·
    rw [if_pos c6] at H
    have c6b0 := eq_true c6
    have c6b1 : decide (4 + t177.size ≤ 9223372036854775807) = true := decide_eq_true c6
    try have c6b2 : (9223372036854775807 < 4 + t177.size) = False := eq_false (Nat.not_lt.2 c6)
    by_cases c7 : ((⟨#[100, 97, 121, 32]⟩ : ByteArray) ++ t177).size + 2 ≤ 9223372036854775807
    ·
     rw [if_pos c7] at H
     have c7b0 := eq_true c7
     have c7b1 : decide (((⟨#[100, 97, 121, 32]⟩ : ByteArray) ++ t177).size + 2 ≤ 9223372036854775807) = true := decide_eq_true c7
     try have c7b2 : (9223372036854775807 < ((⟨#[100, 97, 121, 32]⟩ : ByteArray) ++ t177).size + 2) = False := eq_false (Nat.not_lt.2 c7)
     try have c7b3 : (9223372036854775807 < 4 + t177.size + 2) = False := eq_false (Nat.not_lt.2 (by have q_ := c7; simp only [ByteArray.size_append] at q_; exact q_))
     by_cases c8 : (((⟨#[100, 97, 121, 32]⟩ : ByteArray) ++ t177) ++ (⟨#[44, 32]⟩ : ByteArray)).size + ((⟨#[48]⟩ : ByteArray) ++ t176).size ≤ 9223372036854775807
     ·
      rw [if_pos c8] at H
      have c8b0 := eq_true c8
      have c8b1 : decide ((((⟨#[100, 97, 121, 32]⟩ : ByteArray) ++ t177) ++ (⟨#[44, 32]⟩ : ByteArray)).size + ((⟨#[48]⟩ : ByteArray) ++ t176).size ≤ 9223372036854775807) = true := decide_eq_true c8
      try have c8b2 : (9223372036854775807 < (((⟨#[100, 97, 121, 32]⟩ : ByteArray) ++ t177) ++ (⟨#[44, 32]⟩ : ByteArray)).size + ((⟨#[48]⟩ : ByteArray) ++ t176).size) = False := eq_false (Nat.not_lt.2 c8)
      try have c8b3 : (9223372036854775807 < 4 + t177.size + 2 + (1 + t176.size)) = False := eq_false (Nat.not_lt.2 (by have q_ := c8; simp only [ByteArray.size_append] at q_; exact q_))
      by_cases c9 : ((((⟨#[100, 97, 121, 32]⟩ : ByteArray) ++ t177) ++ (⟨#[44, 32]⟩ : ByteArray)) ++ ((⟨#[48]⟩ : ByteArray) ++ t176)).size + 3 ≤ 9223372036854775807
      ·
       rw [if_pos c9] at H
       have c9b0 := eq_true c9
       have c9b1 : decide (((((⟨#[100, 97, 121, 32]⟩ : ByteArray) ++ t177) ++ (⟨#[44, 32]⟩ : ByteArray)) ++ ((⟨#[48]⟩ : ByteArray) ++ t176)).size + 3 ≤ 9223372036854775807) = true := decide_eq_true c9
       try have c9b2 : (9223372036854775807 < ((((⟨#[100, 97, 121, 32]⟩ : ByteArray) ++ t177) ++ (⟨#[44, 32]⟩ : ByteArray)) ++ ((⟨#[48]⟩ : ByteArray) ++ t176)).size + 3) = False := eq_false (Nat.not_lt.2 c9)
       try have c9b3 : (9223372036854775807 < 4 + t177.size + 2 + (1 + t176.size) + 3) = False := eq_false (Nat.not_lt.2 (by have q_ := c9; simp only [ByteArray.size_append] at q_; exact q_))
       obtain rfl := Option.some.inj H
       go_enter Tryd.func38, Tryd.ntmps38
       go_wp2_with (first | ((with_reducible refine gate_callee (f := 45) rfl ?_); refine goesL_ (some 6) rfl rfl Tryd.func45 (by kernel_rfl) rfl #[.int .i64 (Int.tmod a0 24)] rfl (by (try simp only [List.map_toArray, List.map_cons, List.map_nil]); first | done | rfl | (simp only [List.length_drop, List.length_take]; rfl)) ?_; (with_reducible refine (spec_l1Num.calls k (Int.tmod a0 24) t176 _ A2.out).mono ?_); rintro e w10 ⟨rfl, hb⟩; refine ⟨_, rfl, ?_⟩; have n0_ := Aside0.mk (below_step (by repeat (first | (with_reducible first | exact HB.out | apply below_alloc | apply pw_below_drewN | apply below_drew1) | exact HB.out)) hb); clear HB; have HB := n0_; clear n0_; (try clear hb); (try clear hb2); (try clear hk); (try clear hi)) | ((with_reducible refine gate_callee (f := 45) rfl ?_); refine goesL_ (some 15) rfl rfl Tryd.func45 (by kernel_rfl) rfl #[.int .i64 (wrap64 ((wrap64 (Int.tdiv a0 24)) + 1))] rfl (by (try simp only [List.map_toArray, List.map_cons, List.map_nil]); first | done | rfl | (simp only [List.length_drop, List.length_take]; rfl)) ?_; (with_reducible refine (spec_l1Num.calls k (wrap64 ((wrap64 (Int.tdiv a0 24)) + 1)) t177 _ A5.out).mono ?_); rintro e w11 ⟨rfl, hb⟩; refine ⟨_, rfl, ?_⟩; have n0_ := Aside0.mk (below_step (by repeat (first | (with_reducible first | exact HB.out | apply below_alloc | apply pw_below_drewN | apply below_drew1) | exact HB.out)) hb); clear HB; have HB := n0_; clear n0_; (try clear hb); (try clear hb2); (try clear hk); (try clear hi)))
       go_ret
       exact ⟨by first | rfl | (simp [errW_none, errW_some] <;> rfl) | (simp [*, errW_none, errW_some] <;> rfl), by repeat (first | (with_reducible first | exact HB.out | apply below_alloc | apply pw_below_drewN | apply below_drew1) | exact HB.out)⟩
      ·
       rw [if_neg c9] at H
       exact absurd H (by simp)
     ·
      rw [if_neg c8] at H
      exact absurd H (by simp)
    ·
     rw [if_neg c7] at H
     exact absurd H (by simp)
   ·
    rw [if_neg c6] at H
    exact absurd H (by simp)
  ·
   rw [if_neg c4] at H
   exact absurd H (by simp)
 ·
  rw [if_neg c3] at H
  have c3b0 : ((t176.size : Int) == 1) = false := beq_eq_false_iff_ne.mpr c3
  have c3b1 : ((t176.size : Int) != 1) = true := bne_iff_ne.mpr c3
  replace H := Option.bind_eq_some_iff.mp H
  obtain ⟨t178, A120, H⟩ := H
  replace H : (if 4 + t178.size ≤ 9223372036854775807 then (if ((⟨#[100, 97, 121, 32]⟩ : ByteArray) ++ t178).size + 2 ≤ 9223372036854775807 then (if (((⟨#[100, 97, 121, 32]⟩ : ByteArray) ++ t178) ++ (⟨#[44, 32]⟩ : ByteArray)).size + t176.size ≤ 9223372036854775807 then (if ((((⟨#[100, 97, 121, 32]⟩ : ByteArray) ++ t178) ++ (⟨#[44, 32]⟩ : ByteArray)) ++ t176).size + 3 ≤ 9223372036854775807 then (some (((((⟨#[100, 97, 121, 32]⟩ : ByteArray) ++ t178) ++ (⟨#[44, 32]⟩ : ByteArray)) ++ t176) ++ (⟨#[58, 48, 48]⟩ : ByteArray))) else (none)) else (none)) else (none)) else (none)) = some r := H
  have A12 := Aside0.mk A120
  clear A120
  by_cases c13 : 4 + t178.size ≤ 9223372036854775807
  ·
   rw [if_pos c13] at H
   have c13b0 := eq_true c13
   have c13b1 : decide (4 + t178.size ≤ 9223372036854775807) = true := decide_eq_true c13
   try have c13b2 : (9223372036854775807 < 4 + t178.size) = False := eq_false (Nat.not_lt.2 c13)
   by_cases c14 : ((⟨#[100, 97, 121, 32]⟩ : ByteArray) ++ t178).size + 2 ≤ 9223372036854775807
   ·
    rw [if_pos c14] at H
    have c14b0 := eq_true c14
    have c14b1 : decide (((⟨#[100, 97, 121, 32]⟩ : ByteArray) ++ t178).size + 2 ≤ 9223372036854775807) = true := decide_eq_true c14
    try have c14b2 : (9223372036854775807 < ((⟨#[100, 97, 121, 32]⟩ : ByteArray) ++ t178).size + 2) = False := eq_false (Nat.not_lt.2 c14)
    try have c14b3 : (9223372036854775807 < 4 + t178.size + 2) = False := eq_false (Nat.not_lt.2 (by have q_ := c14; simp only [ByteArray.size_append] at q_; exact q_))
    by_cases c15 : (((⟨#[100, 97, 121, 32]⟩ : ByteArray) ++ t178) ++ (⟨#[44, 32]⟩ : ByteArray)).size + t176.size ≤ 9223372036854775807
    ·
     rw [if_pos c15] at H
     have c15b0 := eq_true c15
     have c15b1 : decide ((((⟨#[100, 97, 121, 32]⟩ : ByteArray) ++ t178) ++ (⟨#[44, 32]⟩ : ByteArray)).size + t176.size ≤ 9223372036854775807) = true := decide_eq_true c15
     try have c15b2 : (9223372036854775807 < (((⟨#[100, 97, 121, 32]⟩ : ByteArray) ++ t178) ++ (⟨#[44, 32]⟩ : ByteArray)).size + t176.size) = False := eq_false (Nat.not_lt.2 c15)
     try have c15b3 : (9223372036854775807 < 4 + t178.size + 2 + t176.size) = False := eq_false (Nat.not_lt.2 (by have q_ := c15; simp only [ByteArray.size_append] at q_; exact q_))
     by_cases c16 : ((((⟨#[100, 97, 121, 32]⟩ : ByteArray) ++ t178) ++ (⟨#[44, 32]⟩ : ByteArray)) ++ t176).size + 3 ≤ 9223372036854775807
     ·
      rw [if_pos c16] at H
      have c16b0 := eq_true c16
      have c16b1 : decide (((((⟨#[100, 97, 121, 32]⟩ : ByteArray) ++ t178) ++ (⟨#[44, 32]⟩ : ByteArray)) ++ t176).size + 3 ≤ 9223372036854775807) = true := decide_eq_true c16
      try have c16b2 : (9223372036854775807 < ((((⟨#[100, 97, 121, 32]⟩ : ByteArray) ++ t178) ++ (⟨#[44, 32]⟩ : ByteArray)) ++ t176).size + 3) = False := eq_false (Nat.not_lt.2 c16)
      try have c16b3 : (9223372036854775807 < 4 + t178.size + 2 + t176.size + 3) = False := eq_false (Nat.not_lt.2 (by have q_ := c16; simp only [ByteArray.size_append] at q_; exact q_))
      obtain rfl := Option.some.inj H
      go_enter Tryd.func38, Tryd.ntmps38
      go_wp2_with (first | ((with_reducible refine gate_callee (f := 45) rfl ?_); refine goesL_ (some 6) rfl rfl Tryd.func45 (by kernel_rfl) rfl #[.int .i64 (Int.tmod a0 24)] rfl (by (try simp only [List.map_toArray, List.map_cons, List.map_nil]); first | done | rfl | (simp only [List.length_drop, List.length_take]; rfl)) ?_; (with_reducible refine (spec_l1Num.calls k (Int.tmod a0 24) t176 _ A2.out).mono ?_); rintro e w17 ⟨rfl, hb⟩; refine ⟨_, rfl, ?_⟩; have n0_ := Aside0.mk (below_step (by repeat (first | (with_reducible first | exact HB.out | apply below_alloc | apply pw_below_drewN | apply below_drew1) | exact HB.out)) hb); clear HB; have HB := n0_; clear n0_; (try clear hb); (try clear hb2); (try clear hk); (try clear hi)) | ((with_reducible refine gate_callee (f := 45) rfl ?_); refine goesL_ (some 15) rfl rfl Tryd.func45 (by kernel_rfl) rfl #[.int .i64 (wrap64 ((wrap64 (Int.tdiv a0 24)) + 1))] rfl (by (try simp only [List.map_toArray, List.map_cons, List.map_nil]); first | done | rfl | (simp only [List.length_drop, List.length_take]; rfl)) ?_; (with_reducible refine (spec_l1Num.calls k (wrap64 ((wrap64 (Int.tdiv a0 24)) + 1)) t178 _ A12.out).mono ?_); rintro e w18 ⟨rfl, hb⟩; refine ⟨_, rfl, ?_⟩; have n0_ := Aside0.mk (below_step (by repeat (first | (with_reducible first | exact HB.out | apply below_alloc | apply pw_below_drewN | apply below_drew1) | exact HB.out)) hb); clear HB; have HB := n0_; clear n0_; (try clear hb); (try clear hb2); (try clear hk); (try clear hi)))
      go_ret
      exact ⟨by first | rfl | (simp [errW_none, errW_some] <;> rfl) | (simp [*, errW_none, errW_some] <;> rfl), by repeat (first | (with_reducible first | exact HB.out | apply below_alloc | apply pw_below_drewN | apply below_drew1) | exact HB.out)⟩
     ·
      rw [if_neg c16] at H
      exact absurd H (by simp)
    ·
     rw [if_neg c15] at H
     exact absurd H (by simp)
   ·
    rw [if_neg c14] at H
    exact absurd H (by simp)
  ·
   rw [if_neg c13] at H
   exact absurd H (by simp)

/-! ### spec_HourText: function 15 -/
def spec_HourText.f (k : Nat) (a0 : Int) : Option (ByteArray × Bool) := (spec_l1In.f a0 0 240).bind fun t179 => (if t179 = true then ((spec_l16Hour.f k a0).bind fun t180 => (some (t180, true))) else (some ((⟨#[]⟩ : ByteArray), false)))
theorem spec_HourText.mono : ∀ a0 k, LeO (spec_HourText.f k a0) (spec_HourText.f (k + 1) a0) := by
 intro a0 k
 unfold spec_HourText.f
 repeat' first
   | (with_reducible exact spec_l16Hour.mono _ _)
   | (with_reducible exact LeO.refl _)
   | (with_reducible exact LeO.none _)
   | (with_reducible refine LeO.ite ?_ ?_)
   | (with_reducible refine LeO.bind ?_ (fun _ => ?_))
   | exact spec_l16Hour.mono _ _
   | exact LeO.none _
   | refine LeO.ite ?_ ?_
   | refine LeO.bind ?_ (fun _ => ?_)
set_option maxHeartbeats 8000000 in
set_option maxRecDepth 100000 in
theorem spec_HourText.calls (k : Nat) (a0 : Int) (r1 : ByteArray) (r2 : Bool) (w : World) (h : spec_HourText.f k a0 = some (r1, r2)) :
  Calls Tryd.prog 15 #[.int .i64 a0] w fun e w' => e = .returned (.tuple #[.string r1, .bool r2]) ∧ Below w.heap.size w w' := by
 have HB := Aside0.mk (Below.refl w.heap.size w)
 have H : ((spec_l1In.f a0 0 240).bind fun t179 => (if t179 = true then ((spec_l16Hour.f k a0).bind fun t180 => (some (t180, true))) else (some ((⟨#[]⟩ : ByteArray), false)))) = some (r1, r2) := h
 clear h
 replace H := Option.bind_eq_some_iff.mp H
 obtain ⟨t179, A20, H⟩ := H
 replace H : (if t179 = true then ((spec_l16Hour.f k a0).bind fun t180 => (some (t180, true))) else (some ((⟨#[]⟩ : ByteArray), false))) = some (r1, r2) := H
 have A2 := Aside0.mk A20
 clear A20
 by_cases c3 : t179 = true
 ·
  subst c3
  have H1 : ((spec_l16Hour.f k a0).bind fun t180 => (some (t180, true))) = some (r1, r2) := by rw [if_pos rfl] at H; exact H
  clear H
  have H := H1
  clear H1
  replace H := Option.bind_eq_some_iff.mp H
  obtain ⟨t180, A40, H⟩ := H
  replace H : (some (t180, true)) = some (r1, r2) := H
  have A4 := Aside0.mk A40
  clear A40
  simp only [Option.some.injEq, Prod.mk.injEq] at H
  obtain ⟨rfl, rfl⟩ := H
  go_enter Tryd.func15, Tryd.ntmps15
  go_wp2_with (first | ((with_reducible refine gate_callee (f := 37) rfl ?_); refine goesL_ (some 5) rfl rfl Tryd.func37 (by kernel_rfl) rfl #[.int .i64 a0, .int .i64 0, .int .i64 240] rfl (by (try simp only [List.map_toArray, List.map_cons, List.map_nil]); first | done | rfl | (simp only [List.length_drop, List.length_take]; rfl)) ?_; (with_reducible refine (spec_l1In.calls a0 0 240 true _ A2.out).mono ?_); rintro e w' ⟨rfl, ⟨nd, rfl⟩⟩; refine ⟨_, rfl, ?_⟩) | ((with_reducible refine gate_callee (f := 38) rfl ?_); refine goesL_ (some 8) rfl rfl Tryd.func38 (by kernel_rfl) rfl #[.int .i64 a0] rfl (by (try simp only [List.map_toArray, List.map_cons, List.map_nil]); first | done | rfl | (simp only [List.length_drop, List.length_take]; rfl)) ?_; (with_reducible refine (spec_l16Hour.calls k a0 t180 _ A4.out).mono ?_); rintro e w5 ⟨rfl, hb⟩; refine ⟨_, rfl, ?_⟩; have n0_ := Aside0.mk (below_step (by repeat (first | (with_reducible first | exact HB.out | apply below_alloc | apply pw_below_drewN | apply below_drew1) | exact HB.out)) hb); clear HB; have HB := n0_; clear n0_; (try clear hb); (try clear hb2); (try clear hk); (try clear hi)))
  go_ret2
  exact ⟨by first | rfl | (simp [errW_none, errW_some] <;> rfl) | (simp [*, errW_none, errW_some] <;> rfl), by repeat (first | (with_reducible first | exact HB.out | apply below_alloc | apply pw_below_drewN | apply below_drew1) | exact HB.out)⟩
 ·
  replace c3 := Bool.eq_false_iff.mpr c3
  subst c3
  have H1 : (some ((⟨#[]⟩ : ByteArray), false)) = some (r1, r2) := by rw [if_neg (show ¬ (false = true) by decide)] at H; exact H
  clear H
  have H := H1
  clear H1
  simp only [Option.some.injEq, Prod.mk.injEq] at H
  obtain ⟨rfl, rfl⟩ := H
  go_enter Tryd.func15, Tryd.ntmps15
  go_wp2_with (first | ((with_reducible refine gate_callee (f := 37) rfl ?_); refine goesL_ (some 5) rfl rfl Tryd.func37 (by kernel_rfl) rfl #[.int .i64 a0, .int .i64 0, .int .i64 240] rfl (by (try simp only [List.map_toArray, List.map_cons, List.map_nil]); first | done | rfl | (simp only [List.length_drop, List.length_take]; rfl)) ?_; (with_reducible refine (spec_l1In.calls a0 0 240 false _ A2.out).mono ?_); rintro e w' ⟨rfl, ⟨nd, rfl⟩⟩; refine ⟨_, rfl, ?_⟩))
  go_ret2
  exact ⟨by first | rfl | (simp [errW_none, errW_some] <;> rfl) | (simp [*, errW_none, errW_some] <;> rfl), by repeat (first | (with_reducible first | exact HB.out | apply below_alloc | apply pw_below_drewN | apply below_drew1) | exact HB.out)⟩

/-! ### strconv_Itoa: function 46 -/
/-- strconv.Itoa: a number in decimal (the table of the powers of ten lies in the world). -/
def strconv_Itoa.f (a0 : Int) : Option ByteArray := if -9223372036854775808 ≤ a0 ∧ a0 ≤ 9223372036854775807 then some (decS a0) else none
theorem strconv_Itoa.calls (a0 : Int) (r : ByteArray) (w : World) (htN : TabN w) (h : strconv_Itoa.f a0 = some r) :
  Calls Tryd.prog 46 #[.int .i64 a0] w fun e w' => e = .returned (.string r) ∧ Below w.heap.size w w' := by
 unfold strconv_Itoa.f at h
 by_cases c : -9223372036854775808 ≤ a0 ∧ a0 ≤ 9223372036854775807
 ·
  rw [if_pos c] at h
  obtain rfl := Option.some.inj h
  refine (Tryd.strconv_Itoa a0 c.1 c.2 w htN).mono fun e w' ⟨he, k, os, hw⟩ => ?_
  subst he hw
  exact ⟨rfl, Lib.below_grow _ _ (Nat.le_refl _) _ _⟩
 ·
  rw [if_neg c] at h
  cases h
theorem itoa_f (n : Int) (h0 : -9223372036854775808 ≤ n) (h1 : n ≤ 9223372036854775807) : strconv_Itoa.f n = some (decS n) := by
 unfold strconv_Itoa.f
 rw [if_pos ⟨h0, h1⟩]

end Go.Proofs.YtnfcflekbnfmhaaDoor.Q
