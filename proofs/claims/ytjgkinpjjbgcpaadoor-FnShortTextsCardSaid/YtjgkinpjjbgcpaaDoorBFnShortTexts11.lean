/- Texts of this seat, put together: Qf37, Qf39, Qf14, Qf16. -/
import Derived.Test.YtjgkinpjjbgcpaaDoorZFnShortTexts
import Derived.Test.YtjgkinpjjbgcpaaDoorBFnShortTexts0
import Derived.Test.YtjgkinpjjbgcpaaDoorBFnShortTexts2
import Derived.Test.YtjgkinpjjbgcpaaDoorBFnShortTexts4
namespace Go.Proofs.YtjgkinpjjbgcpaaDoor.Q
open Go.RowKit Go.Proofs.YtjgkinpjjbgcpaaDoorW.PrintWords Go.Proofs.YtjgkinpjjbgcpaaDoorW.PrintLast Go.Proofs.YtjgkinpjjbgcpaaDoorW.PrintMore
attribute [local go_sem] max2_int min2_int max_two min_two max_three min_three max_four min_four   -- for this text's walks alone
set_option linter.unusedVariables false
set_option linter.unusedSimpArgs false

/-! ### spec_l16Hour: function 37 -/
def spec_l16Hour.f (k : Nat) (a0 : Int) : Option (ByteArray) := (spec_l1Num.f k (Int.tmod a0 24)).bind fun t366 => (if (t366.size : Int) = 1 then (if 1 + t366.size ≤ 9223372036854775807 then ((spec_l1Num.f k (wrap64 ((wrap64 (Int.tdiv a0 24)) + 1))).bind fun t367 => (if 4 + t367.size ≤ 9223372036854775807 then (if ((⟨#[100, 97, 121, 32]⟩ : ByteArray) ++ t367).size + 2 ≤ 9223372036854775807 then (if (((⟨#[100, 97, 121, 32]⟩ : ByteArray) ++ t367) ++ (⟨#[44, 32]⟩ : ByteArray)).size + ((⟨#[48]⟩ : ByteArray) ++ t366).size ≤ 9223372036854775807 then (if ((((⟨#[100, 97, 121, 32]⟩ : ByteArray) ++ t367) ++ (⟨#[44, 32]⟩ : ByteArray)) ++ ((⟨#[48]⟩ : ByteArray) ++ t366)).size + 3 ≤ 9223372036854775807 then (some (((((⟨#[100, 97, 121, 32]⟩ : ByteArray) ++ t367) ++ (⟨#[44, 32]⟩ : ByteArray)) ++ ((⟨#[48]⟩ : ByteArray) ++ t366)) ++ (⟨#[58, 48, 48]⟩ : ByteArray))) else (none)) else (none)) else (none)) else (none))) else (none)) else ((spec_l1Num.f k (wrap64 ((wrap64 (Int.tdiv a0 24)) + 1))).bind fun t368 => (if 4 + t368.size ≤ 9223372036854775807 then (if ((⟨#[100, 97, 121, 32]⟩ : ByteArray) ++ t368).size + 2 ≤ 9223372036854775807 then (if (((⟨#[100, 97, 121, 32]⟩ : ByteArray) ++ t368) ++ (⟨#[44, 32]⟩ : ByteArray)).size + t366.size ≤ 9223372036854775807 then (if ((((⟨#[100, 97, 121, 32]⟩ : ByteArray) ++ t368) ++ (⟨#[44, 32]⟩ : ByteArray)) ++ t366).size + 3 ≤ 9223372036854775807 then (some (((((⟨#[100, 97, 121, 32]⟩ : ByteArray) ++ t368) ++ (⟨#[44, 32]⟩ : ByteArray)) ++ t366) ++ (⟨#[58, 48, 48]⟩ : ByteArray))) else (none)) else (none)) else (none)) else (none))))
theorem spec_l16Hour.mono : ∀ a0 k, LeO (spec_l16Hour.f k a0) (spec_l16Hour.f (k + 1) a0) := by
 intro a0 k
 unfold spec_l16Hour.f
 repeat' first
   | (with_reducible exact spec_l1Num.mono _ _)
   | (with_reducible exact LeO.refl _)
   | (with_reducible exact LeO.none _)
   | (with_reducible refine LeO.ite ?_ ?_)
   | (with_reducible refine LeO.bind ?_ (fun _ => ?_))
   | exact spec_l1Num.mono _ _
   | exact LeO.none _
   | refine LeO.ite ?_ ?_
   | refine LeO.bind ?_ (fun _ => ?_)
set_option maxHeartbeats 8000000 in
set_option maxRecDepth 100000 in
theorem spec_l16Hour.calls (k : Nat) (a0 : Int) (r : ByteArray) (w : World) (h : spec_l16Hour.f k a0 = some r) :
  Calls Tryd.prog 37 #[.int .i64 a0] w fun e w' => e = .returned (.string r) ∧ Below w.heap.size w w' := by
 have HB := Aside0.mk (Below.refl w.heap.size w)
 have H : ((spec_l1Num.f k (Int.tmod a0 24)).bind fun t366 => (if (t366.size : Int) = 1 then (if 1 + t366.size ≤ 9223372036854775807 then ((spec_l1Num.f k (wrap64 ((wrap64 (Int.tdiv a0 24)) + 1))).bind fun t367 => (if 4 + t367.size ≤ 9223372036854775807 then (if ((⟨#[100, 97, 121, 32]⟩ : ByteArray) ++ t367).size + 2 ≤ 9223372036854775807 then (if (((⟨#[100, 97, 121, 32]⟩ : ByteArray) ++ t367) ++ (⟨#[44, 32]⟩ : ByteArray)).size + ((⟨#[48]⟩ : ByteArray) ++ t366).size ≤ 9223372036854775807 then (if ((((⟨#[100, 97, 121, 32]⟩ : ByteArray) ++ t367) ++ (⟨#[44, 32]⟩ : ByteArray)) ++ ((⟨#[48]⟩ : ByteArray) ++ t366)).size + 3 ≤ 9223372036854775807 then (some (((((⟨#[100, 97, 121, 32]⟩ : ByteArray) ++ t367) ++ (⟨#[44, 32]⟩ : ByteArray)) ++ ((⟨#[48]⟩ : ByteArray) ++ t366)) ++ (⟨#[58, 48, 48]⟩ : ByteArray))) else (none)) else (none)) else (none)) else (none))) else (none)) else ((spec_l1Num.f k (wrap64 ((wrap64 (Int.tdiv a0 24)) + 1))).bind fun t368 => (if 4 + t368.size ≤ 9223372036854775807 then (if ((⟨#[100, 97, 121, 32]⟩ : ByteArray) ++ t368).size + 2 ≤ 9223372036854775807 then (if (((⟨#[100, 97, 121, 32]⟩ : ByteArray) ++ t368) ++ (⟨#[44, 32]⟩ : ByteArray)).size + t366.size ≤ 9223372036854775807 then (if ((((⟨#[100, 97, 121, 32]⟩ : ByteArray) ++ t368) ++ (⟨#[44, 32]⟩ : ByteArray)) ++ t366).size + 3 ≤ 9223372036854775807 then (some (((((⟨#[100, 97, 121, 32]⟩ : ByteArray) ++ t368) ++ (⟨#[44, 32]⟩ : ByteArray)) ++ t366) ++ (⟨#[58, 48, 48]⟩ : ByteArray))) else (none)) else (none)) else (none)) else (none))))) = some r := h
 clear h
 replace H := Option.bind_eq_some_iff.mp H
 obtain ⟨t366, A20, H⟩ := H
 replace H : (if (t366.size : Int) = 1 then (if 1 + t366.size ≤ 9223372036854775807 then ((spec_l1Num.f k (wrap64 ((wrap64 (Int.tdiv a0 24)) + 1))).bind fun t367 => (if 4 + t367.size ≤ 9223372036854775807 then (if ((⟨#[100, 97, 121, 32]⟩ : ByteArray) ++ t367).size + 2 ≤ 9223372036854775807 then (if (((⟨#[100, 97, 121, 32]⟩ : ByteArray) ++ t367) ++ (⟨#[44, 32]⟩ : ByteArray)).size + ((⟨#[48]⟩ : ByteArray) ++ t366).size ≤ 9223372036854775807 then (if ((((⟨#[100, 97, 121, 32]⟩ : ByteArray) ++ t367) ++ (⟨#[44, 32]⟩ : ByteArray)) ++ ((⟨#[48]⟩ : ByteArray) ++ t366)).size + 3 ≤ 9223372036854775807 then (some (((((⟨#[100, 97, 121, 32]⟩ : ByteArray) ++ t367) ++ (⟨#[44, 32]⟩ : ByteArray)) ++ ((⟨#[48]⟩ : ByteArray) ++ t366)) ++ (⟨#[58, 48, 48]⟩ : ByteArray))) else (none)) else (none)) else (none)) else (none))) else (none)) else ((spec_l1Num.f k (wrap64 ((wrap64 (Int.tdiv a0 24)) + 1))).bind fun t368 => (if 4 + t368.size ≤ 9223372036854775807 then (if ((⟨#[100, 97, 121, 32]⟩ : ByteArray) ++ t368).size + 2 ≤ 9223372036854775807 then (if (((⟨#[100, 97, 121, 32]⟩ : ByteArray) ++ t368) ++ (⟨#[44, 32]⟩ : ByteArray)).size + t366.size ≤ 9223372036854775807 then (if ((((⟨#[100, 97, 121, 32]⟩ : ByteArray) ++ t368) ++ (⟨#[44, 32]⟩ : ByteArray)) ++ t366).size + 3 ≤ 9223372036854775807 then (some (((((⟨#[100, 97, 121, 32]⟩ : ByteArray) ++ t368) ++ (⟨#[44, 32]⟩ : ByteArray)) ++ t366) ++ (⟨#[58, 48, 48]⟩ : ByteArray))) else (none)) else (none)) else (none)) else (none)))) = some r := H
 have A2 := Aside0.mk A20
 clear A20
 by_cases c3 : (t366.size : Int) = 1
 case neg =>
  rw [if_neg c3] at H
  have c3b0 : ((t366.size : Int) == 1) = false := beq_eq_false_iff_ne.mpr c3
  have c3b1 : ((t366.size : Int) != 1) = true := bne_iff_ne.mpr c3
  replace H := Option.bind_eq_some_iff.mp H
  obtain ⟨t368, A120, H⟩ := H
  replace H : (if 4 + t368.size ≤ 9223372036854775807 then (if ((⟨#[100, 97, 121, 32]⟩ : ByteArray) ++ t368).size + 2 ≤ 9223372036854775807 then (if (((⟨#[100, 97, 121, 32]⟩ : ByteArray) ++ t368) ++ (⟨#[44, 32]⟩ : ByteArray)).size + t366.size ≤ 9223372036854775807 then (if ((((⟨#[100, 97, 121, 32]⟩ : ByteArray) ++ t368) ++ (⟨#[44, 32]⟩ : ByteArray)) ++ t366).size + 3 ≤ 9223372036854775807 then (some (((((⟨#[100, 97, 121, 32]⟩ : ByteArray) ++ t368) ++ (⟨#[44, 32]⟩ : ByteArray)) ++ t366) ++ (⟨#[58, 48, 48]⟩ : ByteArray))) else (none)) else (none)) else (none)) else (none)) = some r := H
  have A12 := Aside0.mk A120
  clear A120
  by_cases c13 : 4 + t368.size ≤ 9223372036854775807
  case neg =>
   rw [if_neg c13] at H
   exact absurd H (by simp)
  rw [if_pos c13] at H
  have c13b0 := eq_true c13
  have c13b1 : decide (4 + t368.size ≤ 9223372036854775807) = true := decide_eq_true c13
  try have c13b2 : (9223372036854775807 < 4 + t368.size) = False := eq_false (Nat.not_lt.2 c13)
  by_cases c14 : ((⟨#[100, 97, 121, 32]⟩ : ByteArray) ++ t368).size + 2 ≤ 9223372036854775807
  case neg =>
   rw [if_neg c14] at H
   exact absurd H (by simp)
  rw [if_pos c14] at H
  have c14b0 := eq_true c14
  have c14b1 : decide (((⟨#[100, 97, 121, 32]⟩ : ByteArray) ++ t368).size + 2 ≤ 9223372036854775807) = true := decide_eq_true c14
  try have c14b2 : (9223372036854775807 < ((⟨#[100, 97, 121, 32]⟩ : ByteArray) ++ t368).size + 2) = False := eq_false (Nat.not_lt.2 c14)
  try have c14b3 : (9223372036854775807 < 4 + t368.size + 2) = False := eq_false (Nat.not_lt.2 (by have q_ := c14; simp only [ByteArray.size_append] at q_; exact q_))
  by_cases c15 : (((⟨#[100, 97, 121, 32]⟩ : ByteArray) ++ t368) ++ (⟨#[44, 32]⟩ : ByteArray)).size + t366.size ≤ 9223372036854775807
  case neg =>
   rw [if_neg c15] at H
   exact absurd H (by simp)
  rw [if_pos c15] at H
  have c15b0 := eq_true c15
  have c15b1 : decide ((((⟨#[100, 97, 121, 32]⟩ : ByteArray) ++ t368) ++ (⟨#[44, 32]⟩ : ByteArray)).size + t366.size ≤ 9223372036854775807) = true := decide_eq_true c15
  try have c15b2 : (9223372036854775807 < (((⟨#[100, 97, 121, 32]⟩ : ByteArray) ++ t368) ++ (⟨#[44, 32]⟩ : ByteArray)).size + t366.size) = False := eq_false (Nat.not_lt.2 c15)
  try have c15b3 : (9223372036854775807 < 4 + t368.size + 2 + t366.size) = False := eq_false (Nat.not_lt.2 (by have q_ := c15; simp only [ByteArray.size_append] at q_; exact q_))
  by_cases c16 : ((((⟨#[100, 97, 121, 32]⟩ : ByteArray) ++ t368) ++ (⟨#[44, 32]⟩ : ByteArray)) ++ t366).size + 3 ≤ 9223372036854775807
  case neg =>
   rw [if_neg c16] at H
   exact absurd H (by simp)
  rw [if_pos c16] at H
  have c16b0 := eq_true c16
  have c16b1 : decide (((((⟨#[100, 97, 121, 32]⟩ : ByteArray) ++ t368) ++ (⟨#[44, 32]⟩ : ByteArray)) ++ t366).size + 3 ≤ 9223372036854775807) = true := decide_eq_true c16
  try have c16b2 : (9223372036854775807 < ((((⟨#[100, 97, 121, 32]⟩ : ByteArray) ++ t368) ++ (⟨#[44, 32]⟩ : ByteArray)) ++ t366).size + 3) = False := eq_false (Nat.not_lt.2 c16)
  try have c16b3 : (9223372036854775807 < 4 + t368.size + 2 + t366.size + 3) = False := eq_false (Nat.not_lt.2 (by have q_ := c16; simp only [ByteArray.size_append] at q_; exact q_))
  obtain rfl := Option.some.inj H
  go_enter Tryd.func37, Tryd.ntmps37
  go_wp2_with (first | ((with_reducible refine gate_callee (f := 23) rfl ?_); refine goesL_ (some 6) rfl rfl Tryd.func23 (by kernel_rfl) rfl #[.int .i64 (Int.tmod a0 24)] rfl zq1 ?_; (with_reducible refine (spec_l1Num.calls k (Int.tmod a0 24) t366 _ A2.out).mono ?_); rintro e w17 ⟨rfl, hb⟩; refine ⟨_, rfl, ?_⟩; have n0_ := Aside0.mk (below_step zq0 hb); clear HB; have HB := n0_; clear n0_; (try clear hb); (try clear hb2); (try clear hk); (try clear hi)) | ((with_reducible refine gate_callee (f := 23) rfl ?_); refine goesL_ (some 15) rfl rfl Tryd.func23 (by kernel_rfl) rfl #[.int .i64 (wrap64 ((wrap64 (Int.tdiv a0 24)) + 1))] rfl zq1 ?_; (with_reducible refine (spec_l1Num.calls k (wrap64 ((wrap64 (Int.tdiv a0 24)) + 1)) t368 _ A12.out).mono ?_); rintro e w18 ⟨rfl, hb⟩; refine ⟨_, rfl, ?_⟩; have n0_ := Aside0.mk (below_step zq0 hb); clear HB; have HB := n0_; clear n0_; (try clear hb); (try clear hb2); (try clear hk); (try clear hi)))
  go_ret
  exact ⟨zqE, zq0⟩
 rw [if_pos c3] at H
 have c3b0 : ((t366.size : Int) == 1) = true := beq_iff_eq.mpr c3
 have c3b1 : ((t366.size : Int) != 1) = false := bne_eq_false_iff_eq.mpr c3
 clear c3
 by_cases c4 : 1 + t366.size ≤ 9223372036854775807
 case neg =>
  rw [if_neg c4] at H
  exact absurd H (by simp)
 rw [if_pos c4] at H
 have c4b0 := eq_true c4
 have c4b1 : decide (1 + t366.size ≤ 9223372036854775807) = true := decide_eq_true c4
 try have c4b2 : (9223372036854775807 < 1 + t366.size) = False := eq_false (Nat.not_lt.2 c4)
 replace H := Option.bind_eq_some_iff.mp H
 obtain ⟨t367, A50, H⟩ := H
 replace H : (if 4 + t367.size ≤ 9223372036854775807 then (if ((⟨#[100, 97, 121, 32]⟩ : ByteArray) ++ t367).size + 2 ≤ 9223372036854775807 then (if (((⟨#[100, 97, 121, 32]⟩ : ByteArray) ++ t367) ++ (⟨#[44, 32]⟩ : ByteArray)).size + ((⟨#[48]⟩ : ByteArray) ++ t366).size ≤ 9223372036854775807 then (if ((((⟨#[100, 97, 121, 32]⟩ : ByteArray) ++ t367) ++ (⟨#[44, 32]⟩ : ByteArray)) ++ ((⟨#[48]⟩ : ByteArray) ++ t366)).size + 3 ≤ 9223372036854775807 then (some (((((⟨#[100, 97, 121, 32]⟩ : ByteArray) ++ t367) ++ (⟨#[44, 32]⟩ : ByteArray)) ++ ((⟨#[48]⟩ : ByteArray) ++ t366)) ++ (⟨#[58, 48, 48]⟩ : ByteArray))) else (none)) else (none)) else (none)) else (none)) = some r := H
 have A5 := Aside0.mk A50
 clear A50
 by_cases c6 : 4 + t367.size ≤ 9223372036854775807
 case neg =>
  rw [if_neg c6] at H
  exact absurd H (by simp)
 rw [if_pos c6] at H
 have c6b0 := eq_true c6
 have c6b1 : decide (4 + t367.size ≤ 9223372036854775807) = true := decide_eq_true c6
 try have c6b2 : (9223372036854775807 < 4 + t367.size) = False := eq_false (Nat.not_lt.2 c6)
 by_cases c7 : ((⟨#[100, 97, 121, 32]⟩ : ByteArray) ++ t367).size + 2 ≤ 9223372036854775807
 case neg =>
  rw [if_neg c7] at H
  exact absurd H (by simp)
 rw [if_pos c7] at H
 have c7b0 := eq_true c7
 have c7b1 : decide (((⟨#[100, 97, 121, 32]⟩ : ByteArray) ++ t367).size + 2 ≤ 9223372036854775807) = true := decide_eq_true c7
 try have c7b2 : (9223372036854775807 < ((⟨#[100, 97, 121, 32]⟩ : ByteArray) ++ t367).size + 2) = False := eq_false (Nat.not_lt.2 c7)
 try have c7b3 : (9223372036854775807 < 4 + t367.size + 2) = False := eq_false (Nat.not_lt.2 (by have q_ := c7; simp only [ByteArray.size_append] at q_; exact q_))
 by_cases c8 : (((⟨#[100, 97, 121, 32]⟩ : ByteArray) ++ t367) ++ (⟨#[44, 32]⟩ : ByteArray)).size + ((⟨#[48]⟩ : ByteArray) ++ t366).size ≤ 9223372036854775807
 case neg =>
  rw [if_neg c8] at H
  exact absurd H (by simp)
 rw [if_pos c8] at H
 have c8b0 := eq_true c8
 have c8b1 : decide ((((⟨#[100, 97, 121, 32]⟩ : ByteArray) ++ t367) ++ (⟨#[44, 32]⟩ : ByteArray)).size + ((⟨#[48]⟩ : ByteArray) ++ t366).size ≤ 9223372036854775807) = true := decide_eq_true c8
 try have c8b2 : (9223372036854775807 < (((⟨#[100, 97, 121, 32]⟩ : ByteArray) ++ t367) ++ (⟨#[44, 32]⟩ : ByteArray)).size + ((⟨#[48]⟩ : ByteArray) ++ t366).size) = False := eq_false (Nat.not_lt.2 c8)
 try have c8b3 : (9223372036854775807 < 4 + t367.size + 2 + (1 + t366.size)) = False := eq_false (Nat.not_lt.2 (by have q_ := c8; simp only [ByteArray.size_append] at q_; exact q_))
 by_cases c9 : ((((⟨#[100, 97, 121, 32]⟩ : ByteArray) ++ t367) ++ (⟨#[44, 32]⟩ : ByteArray)) ++ ((⟨#[48]⟩ : ByteArray) ++ t366)).size + 3 ≤ 9223372036854775807
 case neg =>
  rw [if_neg c9] at H
  exact absurd H (by simp)
 rw [if_pos c9] at H
 have c9b0 := eq_true c9
 have c9b1 : decide (((((⟨#[100, 97, 121, 32]⟩ : ByteArray) ++ t367) ++ (⟨#[44, 32]⟩ : ByteArray)) ++ ((⟨#[48]⟩ : ByteArray) ++ t366)).size + 3 ≤ 9223372036854775807) = true := decide_eq_true c9
 try have c9b2 : (9223372036854775807 < ((((⟨#[100, 97, 121, 32]⟩ : ByteArray) ++ t367) ++ (⟨#[44, 32]⟩ : ByteArray)) ++ ((⟨#[48]⟩ : ByteArray) ++ t366)).size + 3) = False := eq_false (Nat.not_lt.2 c9)
 try have c9b3 : (9223372036854775807 < 4 + t367.size + 2 + (1 + t366.size) + 3) = False := eq_false (Nat.not_lt.2 (by have q_ := c9; simp only [ByteArray.size_append] at q_; exact q_))
 obtain rfl := Option.some.inj H
 go_enter Tryd.func37, Tryd.ntmps37
 go_wp2_with (first | ((with_reducible refine gate_callee (f := 23) rfl ?_); refine goesL_ (some 6) rfl rfl Tryd.func23 (by kernel_rfl) rfl #[.int .i64 (Int.tmod a0 24)] rfl zq1 ?_; (with_reducible refine (spec_l1Num.calls k (Int.tmod a0 24) t366 _ A2.out).mono ?_); rintro e w10 ⟨rfl, hb⟩; refine ⟨_, rfl, ?_⟩; have n0_ := Aside0.mk (below_step zq0 hb); clear HB; have HB := n0_; clear n0_; (try clear hb); (try clear hb2); (try clear hk); (try clear hi)) | ((with_reducible refine gate_callee (f := 23) rfl ?_); refine goesL_ (some 15) rfl rfl Tryd.func23 (by kernel_rfl) rfl #[.int .i64 (wrap64 ((wrap64 (Int.tdiv a0 24)) + 1))] rfl zq1 ?_; (with_reducible refine (spec_l1Num.calls k (wrap64 ((wrap64 (Int.tdiv a0 24)) + 1)) t367 _ A5.out).mono ?_); rintro e w11 ⟨rfl, hb⟩; refine ⟨_, rfl, ?_⟩; have n0_ := Aside0.mk (below_step zq0 hb); clear HB; have HB := n0_; clear n0_; (try clear hb); (try clear hb2); (try clear hk); (try clear hi)))
 go_ret
 exact ⟨zqE, zq0⟩

/-! ### spec_l1Cur_spoilt: function 39 -/
-- called: 38
def spec_l1Cur_spoilt.c.T7 : Bool × List (List Nat × List Nat) := (true, [([], []), ([], []), ([0, 1], [0, 1]), ([], []), ([2, 3], [2, 3]), ([], []), ([], []), ([5, 6], [5, 6]), ([4, 7], [4, 7]), ([8, 0, 1, 2, 3, 4, 5, 6, 7, 8], [8])])
def spec_l1Cur_spoilt.c.B7 : List Nat := [0, 0, 3, 0, 15, 0, 0, 96, 255, 511]
theorem spec_l1Cur_spoilt.c.tab7 : rtab .any (opsOf Tryd.f39 7) = spec_l1Cur_spoilt.c.T7 := by kernel_rfl
theorem spec_l1Cur_spoilt.c.bits7 : waitsOk spec_l1Cur_spoilt.c.T7.2 spec_l1Cur_spoilt.c.B7 = true := by kernel_rfl
def spec_l1Cur_spoilt.c.T9 : Bool × List (List Nat × List Nat) := (true, [([], []), ([], []), ([0, 1], [0, 1]), ([], []), ([2, 3], [2, 3]), ([], []), ([], []), ([6], [6]), ([5, 7], [5, 7]), ([4, 8], [4, 8]), ([9, 0, 1, 2, 3, 4, 5, 6, 7, 8, 9], [9])])
def spec_l1Cur_spoilt.c.B9 : List Nat := [0, 0, 3, 0, 15, 0, 0, 64, 224, 511, 1023]
theorem spec_l1Cur_spoilt.c.tab9 : rtab .any (opsOf Tryd.f39 9) = spec_l1Cur_spoilt.c.T9 := by kernel_rfl
theorem spec_l1Cur_spoilt.c.bits9 : waitsOk spec_l1Cur_spoilt.c.T9.2 spec_l1Cur_spoilt.c.B9 = true := by kernel_rfl
def spec_l1Cur_spoilt.c.T10 : Bool × List (List Nat × List Nat) := (true, [([], []), ([], []), ([0, 1], [0, 1]), ([], []), ([], []), ([4], [4]), ([3, 5], [3, 5]), ([2, 6], [2, 6]), ([7, 0, 1, 2, 3, 4, 5, 6, 7], [7])])
def spec_l1Cur_spoilt.c.B10 : List Nat := [0, 0, 3, 0, 0, 16, 56, 127, 255]
theorem spec_l1Cur_spoilt.c.tab10 : rtab .any (opsOf Tryd.f39 10) = spec_l1Cur_spoilt.c.T10 := by kernel_rfl
theorem spec_l1Cur_spoilt.c.bits10 : waitsOk spec_l1Cur_spoilt.c.T10.2 spec_l1Cur_spoilt.c.B10 = true := by kernel_rfl
def spec_l1Cur_spoilt.f (s0_0 : List Int) (s0_1 : Int) (s0_2 : Int) (a1 : ByteArray) (a2 : ByteArray) : Option (ByteArray × Int × Int) :=
 if a1.toList = ([] : List UInt8) then (if 1 ≤ a2.size then some (a2.extract 0 1, s0_1, s0_2) else none) else
 (spec_l1Cur_pick.f s0_0 s0_1 s0_2 (a1.size : Int)).bind fun p => (spec_l1Cur_pick.f s0_0 p.2.1 p.2.2 (a2.size : Int)).bind fun q => (spec_l1Cur_pick.f s0_0 q.2.1 q.2.2 3).bind fun r =>
 if 0 ≤ p.1 ∧ p.1 < a1.size ∧ 0 ≤ q.1 ∧ q.1 < a2.size ∧ a1.size ≤ 1000000 ∧ a2.size ≤ 1000000 then
  some ((if r.1 = 0 then ((a1.extract 0 p.1.toNat) ++ ((a2.extract q.1.toNat a2.size).extract 0 1)) ++ (a1.extract p.1.toNat a1.size) else if r.1 = 1 then ((a1.extract 0 p.1.toNat) ++ ((a2.extract q.1.toNat a2.size).extract 0 1)) ++ (a1.extract (p.1.toNat + 1) a1.size) else (a1.extract 0 p.1.toNat) ++ (a1.extract (p.1.toNat + 1) a1.size)), r.2.1, r.2.2) else none
set_option maxHeartbeats 4000000 in
set_option maxRecDepth 100000 in
theorem spec_l1Cur_spoilt.calls (g : Nat) (s0_0 : List Int) (s0_1 : Int) (s0_2 : Int) (a1 : ByteArray) (a2 : ByteArray) (r1 : ByteArray) (r2 : Int) (r3 : Int) (w0 w : World) (hI : IsS46 w0 w g s0_0 s0_1 s0_2) (hB : Below w0.heap.size w0 w) (h : spec_l1Cur_spoilt.f s0_0 s0_1 s0_2 a1 a2 = some (r1, r2, r3)) :
  Calls Tryd.prog 39 #[.pointer (some ⟨g, 0, none⟩), .string a1, .string a2] w fun e w' => e = .returned (.string r1) ∧ IsS46 w0 w' g s0_0 r2 r3 ∧ Below w0.heap.size w0 w' ∧ KeepBut w w' g none := by
 have HI0 := Aside0.mk hI
 have HB0 := Aside0.mk hB
 clear hI hB
 unfold spec_l1Cur_spoilt.f at h
 by_cases c4 : a1.toList = ([] : List UInt8)
 case pos =>
  rw [if_pos c4] at h
  split at h
  ·
   rename_i c6
   have c4b0 : (a1.toList == ([] : List UInt8)) = true := beq_iff_eq.mpr c4
   have c6b0 : (1 ≤ (a2.size : Int)) = True := eq_true (by omega)
   clear c4 c6
   simp only [Option.some.injEq, Prod.mk.injEq] at h
   obtain ⟨rfl, rfl, rfl⟩ := h
   go_enter Tryd.func39, Tryd.ntmps39
   go_wp2
   go_ret
   exact ⟨rfl, by first | exact HI0.out | exact HI0.out.drew | exact HI0.out.drewN _, by first | exact HB0.out | exact below_drew1 HB0.out | exact pw_below_drewN HB0.out _, by first | exact KeepBut.refl w g none | exact keep_drew (KeepBut.refl w g none) | exact keep_drewN (KeepBut.refl w g none) _⟩
  ·
   cases h
 rw [if_neg c4] at h
 have c4b0 : (a1.toList == ([] : List UInt8)) = false := beq_eq_false_iff_ne.mpr c4
 clear c4
 obtain ⟨⟨i, s1, q1⟩, e1, h⟩ := Option.bind_eq_some_iff.1 h
 obtain ⟨⟨j, s2, q2⟩, e2, h⟩ := Option.bind_eq_some_iff.1 h
 obtain ⟨⟨x, s3, q3⟩, e3, h⟩ := Option.bind_eq_some_iff.1 h
 dsimp only at e2 e3 h
 split at h
 ·
  rename_i hc
  obtain ⟨i0, i1, j0, j1, z1, z2⟩ := hc
  obtain ⟨i, rfl⟩ : ∃ n : Nat, i = (n : Int) := ⟨i.toNat, by omega⟩
  obtain ⟨j, rfl⟩ : ∃ n : Nat, j = (n : Int) := ⟨j.toNat, by omega⟩
  simp only [Option.some.injEq, Prod.mk.injEq, Int.toNat_natCast] at h
  obtain ⟨hr, rfl, rfl⟩ := h
  have HR := Aside0.mk hr
  have E1 := Aside0.mk e1
  have E2 := Aside0.mk e2
  have E3 := Aside0.mk e3
  clear hr e1 e2 e3
  go_enter Tryd.func39, Tryd.ntmps39
  go_wp2_with fail
  refine (spec_l1Cur_pick.calls g s0_0 s0_1 s0_2 (a1.size : Int) (i : Int) s1 q1 w0 _ HI0.out HB0.out E1.out).mono ?_
  rintro e w1 ⟨rfl, hi1, hb1, hk1⟩
  have HI1 := Aside0.mk hi1
  have HB1 := Aside0.mk hb1
  have HK1 := Aside0.mk hk1
  clear hi1 hb1 hk1
  go_wp2_with fail
  refine (spec_l1Cur_pick.calls g s0_0 s1 q1 (a2.size : Int) (j : Int) s2 q2 w0 _ (by first | exact HI1.out | exact HI1.out.drew) (by first | exact HB1.out | exact below_drew1 HB1.out) E2.out).mono ?_
  rintro e w2 ⟨rfl, hi1, hb1, hk1⟩
  have HI2 := Aside0.mk hi1
  have HB2 := Aside0.mk hb1
  have HK2 := Aside0.mk hk1
  clear hi1 hb1 hk1
  go_wp2_with fail
  refine (spec_l1Cur_pick.calls g s0_0 s2 q2 3 x s3 q3 w0 _ (by first | exact HI2.out | exact HI2.out.drew) (by first | exact HB2.out | exact below_drew1 HB2.out) E3.out).mono ?_
  rintro e w3 ⟨rfl, hi1, hb1, hk1⟩
  have HI3 := Aside0.mk hi1
  have HB3 := Aside0.mk hb1
  have HK3 := Aside0.mk (KeepBut.trans (KeepBut.trans HK1.out HK2.out (.inl rfl)) hk1 (.inl rfl))
  clear hi1 hb1 hk1
  have F1 : (9223372036854775807 < (a1.extract 0 i).size + ((a2.extract j a2.size).extract 0 1).size) = False := eq_false (by simp only [ByteArray.size_extract]; omega)
  have F2 : (9223372036854775807 < (a1.extract 0 i).size + ((a2.extract j a2.size).extract 0 1).size + (a1.extract i a1.size).size) = False := eq_false (by simp only [ByteArray.size_extract]; omega)
  have F3 : (9223372036854775807 < (a1.extract 0 i).size + ((a2.extract j a2.size).extract 0 1).size + (a1.extract (i + 1) a1.size).size) = False := eq_false (by simp only [ByteArray.size_extract]; omega)
  have F4 : (9223372036854775807 < (a1.extract 0 i).size + (a1.extract (i + 1) a1.size).size) = False := eq_false (by simp only [ByteArray.size_extract]; omega)
  have f1 : (9223372036854775807 < i + min 1 (a2.size - j)) = False := eq_false (by omega)
  have f2 : (9223372036854775807 < i + min 1 (a2.size - j) + (a1.size - i)) = False := eq_false (by omega)
  have f3 : (9223372036854775807 < i + min 1 (a2.size - j) + (a1.size - (i + 1))) = False := eq_false (by omega)
  have f4 : (9223372036854775807 < i + (a1.size - (i + 1))) = False := eq_false (by omega)
  have K1 : i ≤ a1.size := by omega
  have K2 : i + 1 ≤ a1.size := by omega
  have K3 : (i : Int) + 1 ≤ (a1.size : Int) := by omega
  have K4 : (0 : Int) ≤ (i : Int) + 1 := by omega
  have K5 : ((i : Int) + 1).toNat = i + 1 := by omega
  have G1 : wrap64 ((i : Int) + 1) = (i : Int) + 1 := by unfold wrap64; omega
  by_cases c1 : x = 0
  case pos =>
   rw [if_pos c1] at HR
   have c1b : (x == 0) = true := beq_iff_eq.mpr c1
   go_wp2_with fail
   refine start_ (n := 10) (S := fun w' => True) (ds := []) #[false, false, false, false, false, false, false, false, false, false] (by kernel_rfl) rfl rfl trivial (fun hHeld => ?_)
   refine with_tabW spec_l1Cur_spoilt.c.tab7 spec_l1Cur_spoilt.c.bits7 (fun HT_ HW_ => ?_)
   refine pure_ (i := 0) (N := some 28) (v := ?_) (a' := ?_) #[true, false, false, false, false, false, false, false, false, false] rfl rfl (any_of HT_.out (by kernel_rfl)) (fun _ _ _ h => h) (Or.inl ⟨by rfl, ?_⟩) ?_ ?_
   rotate_left; · exact zqB
   rotate_left; · exact zqA
   refine pure_ (i := 1) (N := some 29) (v := ?_) (a' := ?_) #[true, true, false, false, false, false, false, false, false, false] rfl rfl (any_of HT_.out (by kernel_rfl)) (fun _ _ _ h => h) (Or.inl ⟨by rfl, ?_⟩) ?_ ?_
   rotate_left; · exact zqB
   rotate_left; · exact zqA
   refine pure_ (i := 2) (N := some 30) (v := ?_) (a' := ?_) #[true, true, true, false, false, false, false, false, false, false] rfl rfl (any_of HT_.out (by kernel_rfl)) (fun _ _ _ h => h) (Or.inl ⟨by rfl, ?_⟩) ?_ ?_
   rotate_left; · exact zqB
   rotate_left; · exact zqA
   refine pure_ (i := 3) (N := some 31) (v := ?_) (a' := ?_) #[true, true, true, true, false, false, false, false, false, false] rfl rfl (any_of HT_.out (by kernel_rfl)) (fun _ _ _ h => h) (Or.inl ⟨by rfl, ?_⟩) ?_ ?_
   rotate_left; · exact zqB
   rotate_left; · exact zqA
   refine pure_ (i := 4) (N := some 32) (v := ?_) (a' := ?_) #[true, true, true, true, true, false, false, false, false, false] rfl rfl (any_of HT_.out (by kernel_rfl)) (fun _ _ _ h => h) (Or.inl ⟨by rfl, ?_⟩) ?_ ?_
   rotate_left; · exact zqB
   rotate_left; · exact zqA
   refine pure_ (i := 5) (N := some 33) (v := ?_) (a' := ?_) #[true, true, true, true, true, true, false, false, false, false] rfl rfl (any_of HT_.out (by kernel_rfl)) (fun _ _ _ h => h) (Or.inl ⟨by rfl, ?_⟩) ?_ ?_
   rotate_left; · exact zqB
   rotate_left; · exact zqA
   refine pure_ (i := 6) (N := some 34) (v := ?_) (a' := ?_) #[true, true, true, true, true, true, true, false, false, false] rfl rfl (any_of HT_.out (by kernel_rfl)) (fun _ _ _ h => h) (Or.inl ⟨by rfl, ?_⟩) ?_ ?_
   rotate_left; · exact zqB
   rotate_left; · exact zqA
   refine pure_ (i := 7) (N := some 35) (v := ?_) (a' := ?_) #[true, true, true, true, true, true, true, true, false, false] rfl rfl (any_of HT_.out (by kernel_rfl)) (fun _ _ _ h => h) (Or.inl ⟨by rfl, ?_⟩) ?_ ?_
   rotate_left; · exact zqB
   rotate_left; · exact zqA
   refine pure_ (i := 8) (N := some 36) (v := ?_) (a' := ?_) #[true, true, true, true, true, true, true, true, true, false] rfl rfl (any_of HT_.out (by kernel_rfl)) (fun _ _ _ h => h) (Or.inl ⟨by rfl, ?_⟩) ?_ ?_
   rotate_left; · exact zqB
   rotate_left; · exact zqA
   refine pure_ (i := 9) (N := some 6) (v := ?_) (a' := ?_) #[true, true, true, true, true, true, true, true, true, true] rfl rfl (any_of HT_.out (by kernel_rfl)) (fun _ _ _ h => h) (Or.inl ⟨by rfl, ?_⟩) ?_ ?_
   rotate_left; · exact zqB
   rotate_left; · exact zqA
   refine done_ (done_of HT_.out (by kernel_rfl)) ?_
   go_wp2
   go_ret
   exact ⟨by first | (rw [← HR.out]; first | rfl | (simp; done)) | (simp [← HR.out]; done), by first | exact HI3.out | exact HI3.out.drew | exact HI3.out.drewN _, by first | exact HB3.out | exact below_drew1 HB3.out | exact pw_below_drewN HB3.out _, by first | exact HK3.out | exact keep_drew HK3.out | exact keep_drewN HK3.out _⟩
  rw [if_neg c1] at HR
  have c1b : (x == 0) = false := beq_eq_false_iff_ne.mpr c1
  by_cases c2 : x = 1
  case neg =>
   rw [if_neg c2] at HR
   have c2b : (x == 1) = false := beq_eq_false_iff_ne.mpr c2
   go_wp2_with fail
   refine start_ (n := 9) (S := fun w' => True) (ds := []) #[false, false, false, false, false, false, false, false, false] (by kernel_rfl) rfl rfl trivial (fun hHeld => ?_)
   refine with_tabW spec_l1Cur_spoilt.c.tab10 spec_l1Cur_spoilt.c.bits10 (fun HT_ HW_ => ?_)
   refine pure_ (i := 0) (N := some 49) (v := ?_) (a' := ?_) #[true, false, false, false, false, false, false, false, false] rfl rfl (any_of HT_.out (by kernel_rfl)) (fun _ _ _ h => h) (Or.inl ⟨by rfl, ?_⟩) ?_ ?_
   rotate_left; · exact zqB
   rotate_left; · exact zqA
   refine pure_ (i := 1) (N := some 50) (v := ?_) (a' := ?_) #[true, true, false, false, false, false, false, false, false] rfl rfl (any_of HT_.out (by kernel_rfl)) (fun _ _ _ h => h) (Or.inl ⟨by rfl, ?_⟩) ?_ ?_
   rotate_left; · exact zqB
   rotate_left; · exact zqA
   refine pure_ (i := 2) (N := some 51) (v := ?_) (a' := ?_) #[true, true, true, false, false, false, false, false, false] rfl rfl (any_of HT_.out (by kernel_rfl)) (fun _ _ _ h => h) (Or.inl ⟨by rfl, ?_⟩) ?_ ?_
   rotate_left; · exact zqB
   rotate_left; · exact zqA
   refine pure_ (i := 3) (N := some 52) (v := ?_) (a' := ?_) #[true, true, true, true, false, false, false, false, false] rfl rfl (any_of HT_.out (by kernel_rfl)) (fun _ _ _ h => h) (Or.inl ⟨by rfl, ?_⟩) ?_ ?_
   rotate_left; · exact zqB
   rotate_left; · exact zqA
   refine pure_ (i := 4) (N := some 53) (v := ?_) (a' := ?_) #[true, true, true, true, true, false, false, false, false] rfl rfl (any_of HT_.out (by kernel_rfl)) (fun _ _ _ h => h) (Or.inl ⟨by rfl, ?_⟩) ?_ ?_
   rotate_left; · exact zqB
   rotate_left; · exact zqA
   refine pure_ (i := 5) (N := some 54) (v := ?_) (a' := ?_) #[true, true, true, true, true, true, false, false, false] rfl rfl (any_of HT_.out (by kernel_rfl)) (fun _ _ _ h => h) (Or.inl ⟨by rfl, ?_⟩) ?_ ?_
   rotate_left; · exact zqB
   rotate_left; · exact zqA
   refine pure_ (i := 6) (N := some 55) (v := ?_) (a' := ?_) #[true, true, true, true, true, true, true, false, false] rfl rfl (any_of HT_.out (by kernel_rfl)) (fun _ _ _ h => h) (Or.inl ⟨by rfl, ?_⟩) ?_ ?_
   rotate_left; · exact zqB
   rotate_left; · exact zqA
   refine pure_ (i := 7) (N := some 56) (v := ?_) (a' := ?_) #[true, true, true, true, true, true, true, true, false] rfl rfl (any_of HT_.out (by kernel_rfl)) (fun _ _ _ h => h) (Or.inl ⟨by rfl, ?_⟩) ?_ ?_
   rotate_left; · exact zqB
   rotate_left; · exact zqA
   refine pure_ (i := 8) (N := some 6) (v := ?_) (a' := ?_) #[true, true, true, true, true, true, true, true, true] rfl rfl (any_of HT_.out (by kernel_rfl)) (fun _ _ _ h => h) (Or.inl ⟨by rfl, ?_⟩) ?_ ?_
   rotate_left; · exact zqB
   rotate_left; · exact zqA
   refine done_ (done_of HT_.out (by kernel_rfl)) ?_
   go_wp2
   go_ret
   exact ⟨by first | (rw [← HR.out]; first | rfl | (simp; done)) | (simp [← HR.out]; done), by first | exact HI3.out | exact HI3.out.drew | exact HI3.out.drewN _, by first | exact HB3.out | exact below_drew1 HB3.out | exact pw_below_drewN HB3.out _, by first | exact HK3.out | exact keep_drew HK3.out | exact keep_drewN HK3.out _⟩
  rw [if_pos c2] at HR
  have c2b : (x == 1) = true := beq_iff_eq.mpr c2
  go_wp2_with fail
  refine start_ (n := 11) (S := fun w' => True) (ds := []) #[false, false, false, false, false, false, false, false, false, false, false] (by kernel_rfl) rfl rfl trivial (fun hHeld => ?_)
  refine with_tabW spec_l1Cur_spoilt.c.tab9 spec_l1Cur_spoilt.c.bits9 (fun HT_ HW_ => ?_)
  refine pure_ (i := 0) (N := some 39) (v := ?_) (a' := ?_) #[true, false, false, false, false, false, false, false, false, false, false] rfl rfl (any_of HT_.out (by kernel_rfl)) (fun _ _ _ h => h) (Or.inl ⟨by rfl, ?_⟩) ?_ ?_
  rotate_left; · exact zqB
  rotate_left; · exact zqA
  refine pure_ (i := 1) (N := some 40) (v := ?_) (a' := ?_) #[true, true, false, false, false, false, false, false, false, false, false] rfl rfl (any_of HT_.out (by kernel_rfl)) (fun _ _ _ h => h) (Or.inl ⟨by rfl, ?_⟩) ?_ ?_
  rotate_left; · exact zqB
  rotate_left; · exact zqA
  refine pure_ (i := 2) (N := some 41) (v := ?_) (a' := ?_) #[true, true, true, false, false, false, false, false, false, false, false] rfl rfl (any_of HT_.out (by kernel_rfl)) (fun _ _ _ h => h) (Or.inl ⟨by rfl, ?_⟩) ?_ ?_
  rotate_left; · exact zqB
  rotate_left; · exact zqA
  refine pure_ (i := 3) (N := some 42) (v := ?_) (a' := ?_) #[true, true, true, true, false, false, false, false, false, false, false] rfl rfl (any_of HT_.out (by kernel_rfl)) (fun _ _ _ h => h) (Or.inl ⟨by rfl, ?_⟩) ?_ ?_
  rotate_left; · exact zqB
  rotate_left; · exact zqA
  refine pure_ (i := 4) (N := some 43) (v := ?_) (a' := ?_) #[true, true, true, true, true, false, false, false, false, false, false] rfl rfl (any_of HT_.out (by kernel_rfl)) (fun _ _ _ h => h) (Or.inl ⟨by rfl, ?_⟩) ?_ ?_
  rotate_left; · exact zqB
  rotate_left; · exact zqA
  refine pure_ (i := 5) (N := some 44) (v := ?_) (a' := ?_) #[true, true, true, true, true, true, false, false, false, false, false] rfl rfl (any_of HT_.out (by kernel_rfl)) (fun _ _ _ h => h) (Or.inl ⟨by rfl, ?_⟩) ?_ ?_
  rotate_left; · exact zqB
  rotate_left; · exact zqA
  refine pure_ (i := 6) (N := some 45) (v := ?_) (a' := ?_) #[true, true, true, true, true, true, true, false, false, false, false] rfl rfl (any_of HT_.out (by kernel_rfl)) (fun _ _ _ h => h) (Or.inl ⟨by rfl, ?_⟩) ?_ ?_
  rotate_left; · exact zqB
  rotate_left; · exact zqA
  refine pure_ (i := 7) (N := some 46) (v := ?_) (a' := ?_) #[true, true, true, true, true, true, true, true, false, false, false] rfl rfl (any_of HT_.out (by kernel_rfl)) (fun _ _ _ h => h) (Or.inl ⟨by rfl, ?_⟩) ?_ ?_
  rotate_left; · exact zqB
  rotate_left; · exact zqA
  refine pure_ (i := 8) (N := some 47) (v := ?_) (a' := ?_) #[true, true, true, true, true, true, true, true, true, false, false] rfl rfl (any_of HT_.out (by kernel_rfl)) (fun _ _ _ h => h) (Or.inl ⟨by rfl, ?_⟩) ?_ ?_
  rotate_left; · exact zqB
  rotate_left; · exact zqA
  refine pure_ (i := 9) (N := some 48) (v := ?_) (a' := ?_) #[true, true, true, true, true, true, true, true, true, true, false] rfl rfl (any_of HT_.out (by kernel_rfl)) (fun _ _ _ h => h) (Or.inl ⟨by rfl, ?_⟩) ?_ ?_
  rotate_left; · exact zqB
  rotate_left; · exact zqA
  refine pure_ (i := 10) (N := some 6) (v := ?_) (a' := ?_) #[true, true, true, true, true, true, true, true, true, true, true] rfl rfl (any_of HT_.out (by kernel_rfl)) (fun _ _ _ h => h) (Or.inl ⟨by rfl, ?_⟩) ?_ ?_
  rotate_left; · exact zqB
  rotate_left; · exact zqA
  refine done_ (done_of HT_.out (by kernel_rfl)) ?_
  go_wp2
  go_ret
  exact ⟨by first | (rw [← HR.out]; first | rfl | (simp; done)) | (simp [← HR.out]; done), by first | exact HI3.out | exact HI3.out.drew | exact HI3.out.drewN _, by first | exact HB3.out | exact below_drew1 HB3.out | exact pw_below_drewN HB3.out _, by first | exact HK3.out | exact keep_drew HK3.out | exact keep_drewN HK3.out _⟩
 ·
  cases h

/-! ### spec_DrawParseHour: function 14 -/
def spec_DrawParseHour.f (k : Nat) (l0 : List Int) : Option (ByteArray) := (spec_l1Cur_pick.f l0 0 0 241).bind fun bt370 => ((spec_l16Hour.f k bt370.1).bind fun t373 => ((spec_l1Cur_one.f l0 bt370.2.1 bt370.2.2 3).bind fun bt374 => (if bt374.1 = true then ((spec_l1Cur_spoilt.f l0 bt374.2.1 bt374.2.2 t373 (⟨#[100, 97, 121, 32, 48, 58, 44]⟩ : ByteArray)).bind fun bt377 => (some bt377.1)) else (some t373))))
theorem spec_DrawParseHour.mono : ∀ a0 k, LeO (spec_DrawParseHour.f k a0) (spec_DrawParseHour.f (k + 1) a0) := by
 intro a0 k
 unfold spec_DrawParseHour.f
 repeat' first
   | (with_reducible exact spec_l16Hour.mono _ _)
   | (with_reducible exact LeO.refl _)
   | (with_reducible exact LeO.none _)
   | (with_reducible refine LeO.ite ?_ ?_)
   | (with_reducible refine LeO.bind ?_ (fun _ => ?_))
   | exact spec_l16Hour.mono _ _
   | exact LeO.none _
   | refine LeO.ite ?_ ?_
   | refine LeO.bind ?_ (fun _ => ?_)
set_option maxHeartbeats 8000000 in
set_option maxRecDepth 100000 in
theorem spec_DrawParseHour.calls (k : Nat) (A0 : Option Addr) (c0 : Nat) (l0 : List Int) (r : ByteArray) (w : World) (hr0 : Kd.C (Kd.int .u8) w A0 l0.length l0) (hc0 : l0.length ≤ c0) (h : spec_DrawParseHour.f k l0 = some r) :
  Calls Tryd.prog 14 #[.slice A0 l0.length c0] w fun e w' => e = .returned (.string r) ∧ Below w.heap.size w w' := by
 have hu46 := Tryd.underlying46
 have HR0 := Aside0.mk hr0
 have HC0 := Aside0.mk hc0
 clear hr0 hc0
 have HB := Aside0.mk (Below.refl w.heap.size w)
 have H : ((spec_l1Cur_pick.f l0 0 0 241).bind fun bt370 => ((spec_l16Hour.f k bt370.1).bind fun t373 => ((spec_l1Cur_one.f l0 bt370.2.1 bt370.2.2 3).bind fun bt374 => (if bt374.1 = true then ((spec_l1Cur_spoilt.f l0 bt374.2.1 bt374.2.2 t373 (⟨#[100, 97, 121, 32, 48, 58, 44]⟩ : ByteArray)).bind fun bt377 => (some bt377.1)) else (some t373))))) = some r := h
 clear h
 replace H := Option.bind_eq_some_iff.mp H
 obtain ⟨⟨t370, t371, t372⟩, A20, H⟩ := H
 replace H : ((spec_l16Hour.f k t370).bind fun t373 => ((spec_l1Cur_one.f l0 t371 t372 3).bind fun bt374 => (if bt374.1 = true then ((spec_l1Cur_spoilt.f l0 bt374.2.1 bt374.2.2 t373 (⟨#[100, 97, 121, 32, 48, 58, 44]⟩ : ByteArray)).bind fun bt377 => (some bt377.1)) else (some t373)))) = some r := H
 have A2 := Aside0.mk A20
 clear A20
 replace H := Option.bind_eq_some_iff.mp H
 obtain ⟨t373, A30, H⟩ := H
 replace H : ((spec_l1Cur_one.f l0 t371 t372 3).bind fun bt374 => (if bt374.1 = true then ((spec_l1Cur_spoilt.f l0 bt374.2.1 bt374.2.2 t373 (⟨#[100, 97, 121, 32, 48, 58, 44]⟩ : ByteArray)).bind fun bt377 => (some bt377.1)) else (some t373))) = some r := H
 have A3 := Aside0.mk A30
 clear A30
 replace H := Option.bind_eq_some_iff.mp H
 obtain ⟨⟨t374, t375, t376⟩, A40, H⟩ := H
 replace H : (if t374 = true then ((spec_l1Cur_spoilt.f l0 t375 t376 t373 (⟨#[100, 97, 121, 32, 48, 58, 44]⟩ : ByteArray)).bind fun bt377 => (some bt377.1)) else (some t373)) = some r := H
 have A4 := Aside0.mk A40
 clear A40
 by_cases c5 : t374 = true
 case neg =>
  replace c5 := Bool.eq_false_iff.mpr c5
  subst c5
  have H1 : (some t373) = some r := by rw [if_neg (show ¬ (false = true) by decide)] at H; exact H
  clear H
  have H := H1
  clear H1
  obtain rfl := Option.some.inj H
  go_enter Tryd.func14, Tryd.ntmps14
  go_wp2_with (first | ((with_reducible refine gate_dst (N := 7) rfl ?_); refine box_event ?hg (N := 7) ?hd (cs := #[.slice A0 l0.length c0, .int .i64 0, .int .u64 0]) (t := 46) ?hr ?_; (case hd => rfl); (case hg => rfl); (case hr => exact zqS); intro gb369 hg w12 hbox hb; have n0_ := Aside0.mk (below_step zq0 hb); have n1_ := Aside0.mk ((show IsS46 w w12 gb369 l0 0 0 from ⟨_, _, hbox, (by rw [hg]; exact (below_size zq0) : w.heap.size ≤ gb369), HR0.out⟩)); have n2_ := Aside0.mk ((by rw [hg]; exact (below_size zq0) : w.heap.size ≤ gb369)); have n3_ := n2_; clear HB; have HB := n0_; have HI369 := n1_; have GW369 := n2_; have GE369 := n3_; clear n0_ n1_ n2_ n3_; clear hb hbox hg) | ((with_reducible refine gate_callee (f := 38) rfl ?_); refine goesL_ (some 9) rfl rfl Tryd.func38 (by kernel_rfl) rfl #[.pointer (some ⟨gb369, 0, none⟩), .int .i64 241] rfl zq1 ?_; (with_reducible refine (spec_l1Cur_pick.calls gb369 l0 0 0 241 t370 t371 t372 w _ ?side1 ?side2 A2.out).mono ?_); (case side1 => exact zq23); (case side2 => exact zq21); rintro e w13 ⟨rfl, hi, hb, hk⟩; refine ⟨_, rfl, ?_⟩; have n0_ := Aside0.mk (hb); have n1_ := Aside0.mk (hi); clear HB; clear HI369; have HB := n0_; have HI369 := n1_; clear n0_ n1_; (try clear hb); (try clear hb2); (try clear hk); (try clear hi)) | ((with_reducible refine gate_callee (f := 37) rfl ?_); refine goesL_ (some 10) rfl rfl Tryd.func37 (by kernel_rfl) rfl #[.int .i64 t370] rfl zq1 ?_; (with_reducible refine (spec_l16Hour.calls k t370 t373 _ A3.out).mono ?_); rintro e w14 ⟨rfl, hb⟩; refine ⟨_, rfl, ?_⟩; have n0_ := Aside0.mk (IsS46.below zq23 hb); have n1_ := Aside0.mk (below_step zq21 hb); clear HI369; clear HB; have HI369 := n0_; have HB := n1_; clear n0_ n1_; (try clear hb); (try clear hb2); (try clear hk); (try clear hi)) | ((with_reducible refine gate_callee (f := 25) rfl ?_); refine goesL_ (some 12) rfl rfl Tryd.func25 (by kernel_rfl) rfl #[.pointer (some ⟨gb369, 0, none⟩), .int .i64 3] rfl zq1 ?_; (with_reducible refine (spec_l1Cur_one.calls gb369 l0 t371 t372 3 false t375 t376 w _ ?side1 ?side2 A4.out).mono ?_); (case side1 => exact zq23); (case side2 => exact zq21); rintro e w15 ⟨rfl, hi, hb, hk⟩; refine ⟨_, rfl, ?_⟩; have n0_ := Aside0.mk (hb); have n1_ := Aside0.mk (hi); clear HB; clear HI369; have HB := n0_; have HI369 := n1_; clear n0_ n1_; (try clear hb); (try clear hb2); (try clear hk); (try clear hi)))
  go_ret
  exact ⟨zqE, zq21⟩
 subst c5
 have H1 : ((spec_l1Cur_spoilt.f l0 t375 t376 t373 (⟨#[100, 97, 121, 32, 48, 58, 44]⟩ : ByteArray)).bind fun bt377 => (some bt377.1)) = some r := by rw [if_pos rfl] at H; exact H
 clear H
 have H := H1
 clear H1
 replace H := Option.bind_eq_some_iff.mp H
 obtain ⟨⟨t377, t378, t379⟩, A60, H⟩ := H
 replace H : (some t377) = some r := H
 have A6 := Aside0.mk A60
 clear A60
 obtain rfl := Option.some.inj H
 go_enter Tryd.func14, Tryd.ntmps14
 go_wp2_with (first | ((with_reducible refine gate_dst (N := 7) rfl ?_); refine box_event ?hg (N := 7) ?hd (cs := #[.slice A0 l0.length c0, .int .i64 0, .int .u64 0]) (t := 46) ?hr ?_; (case hd => rfl); (case hg => rfl); (case hr => exact zqS); intro gb369 hg w7 hbox hb; have n0_ := Aside0.mk (below_step zq0 hb); have n1_ := Aside0.mk ((show IsS46 w w7 gb369 l0 0 0 from ⟨_, _, hbox, (by rw [hg]; exact (below_size zq0) : w.heap.size ≤ gb369), HR0.out⟩)); have n2_ := Aside0.mk ((by rw [hg]; exact (below_size zq0) : w.heap.size ≤ gb369)); have n3_ := n2_; clear HB; have HB := n0_; have HI369 := n1_; have GW369 := n2_; have GE369 := n3_; clear n0_ n1_ n2_ n3_; clear hb hbox hg) | ((with_reducible refine gate_callee (f := 38) rfl ?_); refine goesL_ (some 9) rfl rfl Tryd.func38 (by kernel_rfl) rfl #[.pointer (some ⟨gb369, 0, none⟩), .int .i64 241] rfl zq1 ?_; (with_reducible refine (spec_l1Cur_pick.calls gb369 l0 0 0 241 t370 t371 t372 w _ ?side1 ?side2 A2.out).mono ?_); (case side1 => exact zq23); (case side2 => exact zq21); rintro e w8 ⟨rfl, hi, hb, hk⟩; refine ⟨_, rfl, ?_⟩; have n0_ := Aside0.mk (hb); have n1_ := Aside0.mk (hi); clear HB; clear HI369; have HB := n0_; have HI369 := n1_; clear n0_ n1_; (try clear hb); (try clear hb2); (try clear hk); (try clear hi)) | ((with_reducible refine gate_callee (f := 37) rfl ?_); refine goesL_ (some 10) rfl rfl Tryd.func37 (by kernel_rfl) rfl #[.int .i64 t370] rfl zq1 ?_; (with_reducible refine (spec_l16Hour.calls k t370 t373 _ A3.out).mono ?_); rintro e w9 ⟨rfl, hb⟩; refine ⟨_, rfl, ?_⟩; have n0_ := Aside0.mk (IsS46.below zq23 hb); have n1_ := Aside0.mk (below_step zq21 hb); clear HI369; clear HB; have HI369 := n0_; have HB := n1_; clear n0_ n1_; (try clear hb); (try clear hb2); (try clear hk); (try clear hi)) | ((with_reducible refine gate_callee (f := 25) rfl ?_); refine goesL_ (some 12) rfl rfl Tryd.func25 (by kernel_rfl) rfl #[.pointer (some ⟨gb369, 0, none⟩), .int .i64 3] rfl zq1 ?_; (with_reducible refine (spec_l1Cur_one.calls gb369 l0 t371 t372 3 true t375 t376 w _ ?side1 ?side2 A4.out).mono ?_); (case side1 => exact zq23); (case side2 => exact zq21); rintro e w10 ⟨rfl, hi, hb, hk⟩; refine ⟨_, rfl, ?_⟩; have n0_ := Aside0.mk (hb); have n1_ := Aside0.mk (hi); clear HB; clear HI369; have HB := n0_; have HI369 := n1_; clear n0_ n1_; (try clear hb); (try clear hb2); (try clear hk); (try clear hi)) | ((with_reducible refine gate_callee (f := 39) rfl ?_); refine goesL_ (some 15) rfl rfl Tryd.func39 (by kernel_rfl) rfl #[.pointer (some ⟨gb369, 0, none⟩), .string t373, .string (⟨#[100, 97, 121, 32, 48, 58, 44]⟩ : ByteArray)] rfl zq1 ?_; (with_reducible refine (spec_l1Cur_spoilt.calls gb369 l0 t375 t376 t373 (⟨#[100, 97, 121, 32, 48, 58, 44]⟩ : ByteArray) t377 t378 t379 w _ ?side1 ?side2 A6.out).mono ?_); (case side1 => exact zq23); (case side2 => exact zq21); rintro e w11 ⟨rfl, hi, hb, hk⟩; refine ⟨_, rfl, ?_⟩; have n0_ := Aside0.mk (hb); have n1_ := Aside0.mk (hi); clear HB; clear HI369; have HB := n0_; have HI369 := n1_; clear n0_ n1_; (try clear hb); (try clear hb2); (try clear hk); (try clear hi)))
 go_ret
 exact ⟨zqE, zq21⟩
/-! ### impl_hourText: function 40 -/
def impl_hourText.f (a0 : Int) : Option (ByteArray) := (strconv_Itoa.f (wrap64 ((wrap64 (Int.tdiv a0 24)) + 1))).bind fun t380 => (if 4 + t380.size ≤ 9223372036854775807 then (if ((⟨#[100, 97, 121, 32]⟩ : ByteArray) ++ t380).size + 2 ≤ 9223372036854775807 then ((strconv_Itoa.f (wrap64 (Int.tdiv (Int.tmod a0 24) 10))).bind fun t381 => (if (((⟨#[100, 97, 121, 32]⟩ : ByteArray) ++ t380) ++ (⟨#[44, 32]⟩ : ByteArray)).size + t381.size ≤ 9223372036854775807 then ((strconv_Itoa.f (Int.tmod (Int.tmod a0 24) 10)).bind fun t382 => (if ((((⟨#[100, 97, 121, 32]⟩ : ByteArray) ++ t380) ++ (⟨#[44, 32]⟩ : ByteArray)) ++ t381).size + t382.size ≤ 9223372036854775807 then (if (((((⟨#[100, 97, 121, 32]⟩ : ByteArray) ++ t380) ++ (⟨#[44, 32]⟩ : ByteArray)) ++ t381) ++ t382).size + 3 ≤ 9223372036854775807 then (some ((((((⟨#[100, 97, 121, 32]⟩ : ByteArray) ++ t380) ++ (⟨#[44, 32]⟩ : ByteArray)) ++ t381) ++ t382) ++ (⟨#[58, 48, 48]⟩ : ByteArray))) else (none)) else (none))) else (none))) else (none)) else (none))
set_option maxHeartbeats 8000000 in
set_option maxRecDepth 100000 in
theorem impl_hourText.calls (a0 : Int) (r : ByteArray) (w : World) (htN : TabN w) (h : impl_hourText.f a0 = some r) :
  Calls Tryd.prog 40 #[.int .i64 a0] w fun e w' => e = .returned (.string r) ∧ Below w.heap.size w w' := by
 have HTN := Aside0.mk htN
 clear htN
 have HB := Aside0.mk (Below.refl w.heap.size w)
 have H : ((strconv_Itoa.f (wrap64 ((wrap64 (Int.tdiv a0 24)) + 1))).bind fun t380 => (if 4 + t380.size ≤ 9223372036854775807 then (if ((⟨#[100, 97, 121, 32]⟩ : ByteArray) ++ t380).size + 2 ≤ 9223372036854775807 then ((strconv_Itoa.f (wrap64 (Int.tdiv (Int.tmod a0 24) 10))).bind fun t381 => (if (((⟨#[100, 97, 121, 32]⟩ : ByteArray) ++ t380) ++ (⟨#[44, 32]⟩ : ByteArray)).size + t381.size ≤ 9223372036854775807 then ((strconv_Itoa.f (Int.tmod (Int.tmod a0 24) 10)).bind fun t382 => (if ((((⟨#[100, 97, 121, 32]⟩ : ByteArray) ++ t380) ++ (⟨#[44, 32]⟩ : ByteArray)) ++ t381).size + t382.size ≤ 9223372036854775807 then (if (((((⟨#[100, 97, 121, 32]⟩ : ByteArray) ++ t380) ++ (⟨#[44, 32]⟩ : ByteArray)) ++ t381) ++ t382).size + 3 ≤ 9223372036854775807 then (some ((((((⟨#[100, 97, 121, 32]⟩ : ByteArray) ++ t380) ++ (⟨#[44, 32]⟩ : ByteArray)) ++ t381) ++ t382) ++ (⟨#[58, 48, 48]⟩ : ByteArray))) else (none)) else (none))) else (none))) else (none)) else (none))) = some r := h
 clear h
 replace H := Option.bind_eq_some_iff.mp H
 obtain ⟨t380, A20, H⟩ := H
 replace H : (if 4 + t380.size ≤ 9223372036854775807 then (if ((⟨#[100, 97, 121, 32]⟩ : ByteArray) ++ t380).size + 2 ≤ 9223372036854775807 then ((strconv_Itoa.f (wrap64 (Int.tdiv (Int.tmod a0 24) 10))).bind fun t381 => (if (((⟨#[100, 97, 121, 32]⟩ : ByteArray) ++ t380) ++ (⟨#[44, 32]⟩ : ByteArray)).size + t381.size ≤ 9223372036854775807 then ((strconv_Itoa.f (Int.tmod (Int.tmod a0 24) 10)).bind fun t382 => (if ((((⟨#[100, 97, 121, 32]⟩ : ByteArray) ++ t380) ++ (⟨#[44, 32]⟩ : ByteArray)) ++ t381).size + t382.size ≤ 9223372036854775807 then (if (((((⟨#[100, 97, 121, 32]⟩ : ByteArray) ++ t380) ++ (⟨#[44, 32]⟩ : ByteArray)) ++ t381) ++ t382).size + 3 ≤ 9223372036854775807 then (some ((((((⟨#[100, 97, 121, 32]⟩ : ByteArray) ++ t380) ++ (⟨#[44, 32]⟩ : ByteArray)) ++ t381) ++ t382) ++ (⟨#[58, 48, 48]⟩ : ByteArray))) else (none)) else (none))) else (none))) else (none)) else (none)) = some r := H
 have A2 := Aside0.mk A20
 clear A20
 by_cases c3 : 4 + t380.size ≤ 9223372036854775807
 case neg =>
  rw [if_neg c3] at H
  exact absurd H (by simp)
 rw [if_pos c3] at H
 have c3b0 := eq_true c3
 have c3b1 : decide (4 + t380.size ≤ 9223372036854775807) = true := decide_eq_true c3
 try have c3b2 : (9223372036854775807 < 4 + t380.size) = False := eq_false (Nat.not_lt.2 c3)
 by_cases c4 : ((⟨#[100, 97, 121, 32]⟩ : ByteArray) ++ t380).size + 2 ≤ 9223372036854775807
 case neg =>
  rw [if_neg c4] at H
  exact absurd H (by simp)
 rw [if_pos c4] at H
 have c4b0 := eq_true c4
 have c4b1 : decide (((⟨#[100, 97, 121, 32]⟩ : ByteArray) ++ t380).size + 2 ≤ 9223372036854775807) = true := decide_eq_true c4
 try have c4b2 : (9223372036854775807 < ((⟨#[100, 97, 121, 32]⟩ : ByteArray) ++ t380).size + 2) = False := eq_false (Nat.not_lt.2 c4)
 try have c4b3 : (9223372036854775807 < 4 + t380.size + 2) = False := eq_false (Nat.not_lt.2 (by have q_ := c4; simp only [ByteArray.size_append] at q_; exact q_))
 replace H := Option.bind_eq_some_iff.mp H
 obtain ⟨t381, A50, H⟩ := H
 replace H : (if (((⟨#[100, 97, 121, 32]⟩ : ByteArray) ++ t380) ++ (⟨#[44, 32]⟩ : ByteArray)).size + t381.size ≤ 9223372036854775807 then ((strconv_Itoa.f (Int.tmod (Int.tmod a0 24) 10)).bind fun t382 => (if ((((⟨#[100, 97, 121, 32]⟩ : ByteArray) ++ t380) ++ (⟨#[44, 32]⟩ : ByteArray)) ++ t381).size + t382.size ≤ 9223372036854775807 then (if (((((⟨#[100, 97, 121, 32]⟩ : ByteArray) ++ t380) ++ (⟨#[44, 32]⟩ : ByteArray)) ++ t381) ++ t382).size + 3 ≤ 9223372036854775807 then (some ((((((⟨#[100, 97, 121, 32]⟩ : ByteArray) ++ t380) ++ (⟨#[44, 32]⟩ : ByteArray)) ++ t381) ++ t382) ++ (⟨#[58, 48, 48]⟩ : ByteArray))) else (none)) else (none))) else (none)) = some r := H
 have A5 := Aside0.mk A50
 clear A50
 by_cases c6 : (((⟨#[100, 97, 121, 32]⟩ : ByteArray) ++ t380) ++ (⟨#[44, 32]⟩ : ByteArray)).size + t381.size ≤ 9223372036854775807
 case neg =>
  rw [if_neg c6] at H
  exact absurd H (by simp)
 rw [if_pos c6] at H
 have c6b0 := eq_true c6
 have c6b1 : decide ((((⟨#[100, 97, 121, 32]⟩ : ByteArray) ++ t380) ++ (⟨#[44, 32]⟩ : ByteArray)).size + t381.size ≤ 9223372036854775807) = true := decide_eq_true c6
 try have c6b2 : (9223372036854775807 < (((⟨#[100, 97, 121, 32]⟩ : ByteArray) ++ t380) ++ (⟨#[44, 32]⟩ : ByteArray)).size + t381.size) = False := eq_false (Nat.not_lt.2 c6)
 try have c6b3 : (9223372036854775807 < 4 + t380.size + 2 + t381.size) = False := eq_false (Nat.not_lt.2 (by have q_ := c6; simp only [ByteArray.size_append] at q_; exact q_))
 replace H := Option.bind_eq_some_iff.mp H
 obtain ⟨t382, A70, H⟩ := H
 replace H : (if ((((⟨#[100, 97, 121, 32]⟩ : ByteArray) ++ t380) ++ (⟨#[44, 32]⟩ : ByteArray)) ++ t381).size + t382.size ≤ 9223372036854775807 then (if (((((⟨#[100, 97, 121, 32]⟩ : ByteArray) ++ t380) ++ (⟨#[44, 32]⟩ : ByteArray)) ++ t381) ++ t382).size + 3 ≤ 9223372036854775807 then (some ((((((⟨#[100, 97, 121, 32]⟩ : ByteArray) ++ t380) ++ (⟨#[44, 32]⟩ : ByteArray)) ++ t381) ++ t382) ++ (⟨#[58, 48, 48]⟩ : ByteArray))) else (none)) else (none)) = some r := H
 have A7 := Aside0.mk A70
 clear A70
 by_cases c8 : ((((⟨#[100, 97, 121, 32]⟩ : ByteArray) ++ t380) ++ (⟨#[44, 32]⟩ : ByteArray)) ++ t381).size + t382.size ≤ 9223372036854775807
 case neg =>
  rw [if_neg c8] at H
  exact absurd H (by simp)
 rw [if_pos c8] at H
 have c8b0 := eq_true c8
 have c8b1 : decide (((((⟨#[100, 97, 121, 32]⟩ : ByteArray) ++ t380) ++ (⟨#[44, 32]⟩ : ByteArray)) ++ t381).size + t382.size ≤ 9223372036854775807) = true := decide_eq_true c8
 try have c8b2 : (9223372036854775807 < ((((⟨#[100, 97, 121, 32]⟩ : ByteArray) ++ t380) ++ (⟨#[44, 32]⟩ : ByteArray)) ++ t381).size + t382.size) = False := eq_false (Nat.not_lt.2 c8)
 try have c8b3 : (9223372036854775807 < 4 + t380.size + 2 + t381.size + t382.size) = False := eq_false (Nat.not_lt.2 (by have q_ := c8; simp only [ByteArray.size_append] at q_; exact q_))
 by_cases c9 : (((((⟨#[100, 97, 121, 32]⟩ : ByteArray) ++ t380) ++ (⟨#[44, 32]⟩ : ByteArray)) ++ t381) ++ t382).size + 3 ≤ 9223372036854775807
 case neg =>
  rw [if_neg c9] at H
  exact absurd H (by simp)
 rw [if_pos c9] at H
 have c9b0 := eq_true c9
 have c9b1 : decide ((((((⟨#[100, 97, 121, 32]⟩ : ByteArray) ++ t380) ++ (⟨#[44, 32]⟩ : ByteArray)) ++ t381) ++ t382).size + 3 ≤ 9223372036854775807) = true := decide_eq_true c9
 try have c9b2 : (9223372036854775807 < (((((⟨#[100, 97, 121, 32]⟩ : ByteArray) ++ t380) ++ (⟨#[44, 32]⟩ : ByteArray)) ++ t381) ++ t382).size + 3) = False := eq_false (Nat.not_lt.2 c9)
 try have c9b3 : (9223372036854775807 < 4 + t380.size + 2 + t381.size + t382.size + 3) = False := eq_false (Nat.not_lt.2 (by have q_ := c9; simp only [ByteArray.size_append] at q_; exact q_))
 obtain rfl := Option.some.inj H
 go_enter Tryd.func40, Tryd.ntmps40
 go_wp2_with (first | ((with_reducible refine gate_callee (f := 19) rfl ?_); refine goesL_ (some 6) rfl rfl Tryd.func19 (by kernel_rfl) rfl #[.int .i64 (wrap64 ((wrap64 (Int.tdiv a0 24)) + 1))] rfl zq1 ?_; (with_reducible refine (strconv_Itoa.calls (wrap64 ((wrap64 (Int.tdiv a0 24)) + 1)) t380 _ (HTN.out.below zq0) A2.out).mono ?_); rintro e w10 ⟨rfl, hb⟩; refine ⟨_, rfl, ?_⟩; have n0_ := Aside0.mk (below_step zq0 hb); clear HB; have HB := n0_; clear n0_; (try clear hb); (try clear hb2); (try clear hk); (try clear hi)) | ((with_reducible refine gate_callee (f := 19) rfl ?_); refine goesL_ (some 12) rfl rfl Tryd.func19 (by kernel_rfl) rfl #[.int .i64 (wrap64 (Int.tdiv (Int.tmod a0 24) 10))] rfl zq1 ?_; (with_reducible refine (strconv_Itoa.calls (wrap64 (Int.tdiv (Int.tmod a0 24) 10)) t381 _ (HTN.out.below zq0) A5.out).mono ?_); rintro e w11 ⟨rfl, hb⟩; refine ⟨_, rfl, ?_⟩; have n0_ := Aside0.mk (below_step zq0 hb); clear HB; have HB := n0_; clear n0_; (try clear hb); (try clear hb2); (try clear hk); (try clear hi)) | ((with_reducible refine gate_callee (f := 19) rfl ?_); refine goesL_ (some 17) rfl rfl Tryd.func19 (by kernel_rfl) rfl #[.int .i64 (Int.tmod (Int.tmod a0 24) 10)] rfl zq1 ?_; (with_reducible refine (strconv_Itoa.calls (Int.tmod (Int.tmod a0 24) 10) t382 _ (HTN.out.below zq0) A7.out).mono ?_); rintro e w12 ⟨rfl, hb⟩; refine ⟨_, rfl, ?_⟩; have n0_ := Aside0.mk (below_step zq0 hb); clear HB; have HB := n0_; clear n0_; (try clear hb); (try clear hb2); (try clear hk); (try clear hi)))
 go_ret
 exact ⟨zqE, zq0⟩
/-! ### impl_ParseHour: function 15 -/
def impl_ParseHour.l0 : Nat → ByteArray → Int → Option (Int × Bool)
 | 0, _, _ => none
 | k + 1, x0, x5 => if x5 < 241 then ((impl_hourText.f x5).bind fun t383 => (if t383.toList = x0.toList then (some (x5, true)) else (impl_ParseHour.l0 k x0 (wrap64 (x5 + 1))))) else (some (0, false))
def impl_ParseHour.f (k : Nat) (a0 : ByteArray) : Option (Int × Bool) := impl_ParseHour.l0 k a0 0
theorem impl_ParseHour.mono_l : ∀ k, (∀ y0 y1, LeO (impl_ParseHour.l0 k y0 y1) (impl_ParseHour.l0 (k + 1) y0 y1))
 | 0 => fun _ _ r h => by simp [impl_ParseHour.l0] at h
 | k + 1 => by
  have ih0 := impl_ParseHour.mono_l k
  ·
   intro y0 y1
   unfold impl_ParseHour.l0
   repeat' first
   | (with_reducible exact ih0 _ _)
   | (with_reducible exact LeO.refl _)
   | (with_reducible exact LeO.none _)
   | (with_reducible refine LeO.ite ?_ ?_)
   | (with_reducible refine LeO.bind ?_ (fun _ => ?_))
   | exact ih0 _ _
   | exact LeO.none _
   | refine LeO.ite ?_ ?_
   | refine LeO.bind ?_ (fun _ => ?_)
theorem impl_ParseHour.mono : ∀ a0 k, LeO (impl_ParseHour.f k a0) (impl_ParseHour.f (k + 1) a0) := by
 intro a0 k
 have ih0 := impl_ParseHour.mono_l k
 unfold impl_ParseHour.f
 repeat' first
   | (with_reducible exact ih0 _ _)
   | (with_reducible exact LeO.refl _)
   | (with_reducible exact LeO.none _)
   | (with_reducible refine LeO.ite ?_ ?_)
   | (with_reducible refine LeO.bind ?_ (fun _ => ?_))
   | exact ih0 _ _
   | exact LeO.none _
   | refine LeO.ite ?_ ?_
   | refine LeO.bind ?_ (fun _ => ?_)
set_option maxHeartbeats 8000000 in
set_option maxRecDepth 100000 in
theorem impl_ParseHour.calls (k : Nat) (a0 : ByteArray) (r1 : Int) (r2 : Bool) (w : World) (htN : TabN w) (h : impl_ParseHour.f k a0 = some (r1, r2)) :
  Calls Tryd.prog 15 #[.string a0] w fun e w' => e = .returned (.tuple #[.int .i64 r1, .bool r2]) ∧ Below w.heap.size w w' := by
 have HTN := Aside0.mk htN
 clear htN
 have HB := Aside0.mk (Below.refl w.heap.size w)
 have H : (impl_ParseHour.l0 k a0 0) = some (r1, r2) := h
 clear h
 have H' := Aside0.mk H
 clear H
 go_enter Tryd.func15, Tryd.ntmps15
 go_wp2
 go_loopg [5] k (fun kq v5 w' => ∃ (x5_1 : Int), v5 = .int .i64 x5_1 ∧ Aside0 (impl_ParseHour.l0 kq a0 x5_1 = some (r1, r2)) ∧ Aside0 (kq ≤ k) ∧ Aside0 (Below w.heap.size w w'))
 case atStart => exact ⟨(0), (by first | rfl | (simp; done) | (simp [*]; done)), H', ⟨Nat.le_refl _⟩, ⟨zq0⟩⟩
 clear H'
 try clear c1
 obtain ⟨x5_1, rfl, HA, HK1, HB⟩ := hrel
 cases gk with
 | zero => exact absurd HA.out (by simp [impl_ParseHour.l0])
 | succ k1 =>
  have H := HA.out
  clear HA
  simp only [impl_ParseHour.l0] at H
  by_cases c2 : x5_1 < 241
  case neg =>
   rw [if_neg c2] at H
   have c2b0 : decide (x5_1 < 241) = false := decide_eq_false c2
   clear c2
   simp only [Option.some.injEq, Prod.mk.injEq] at H
   obtain ⟨rfl, rfl⟩ := H
   go_wp2
   go_ret2
   exact ⟨zqE, zq0⟩
  rw [if_pos c2] at H
  have c2b0 : decide (x5_1 < 241) = true := decide_eq_true c2
  clear c2
  replace H := Option.bind_eq_some_iff.mp H
  obtain ⟨t383, A30, H⟩ := H
  replace H : (if t383.toList = a0.toList then (some (x5_1, true)) else (impl_ParseHour.l0 k1 a0 (wrap64 (x5_1 + 1)))) = some (r1, r2) := H
  have A3 := Aside0.mk A30
  clear A30
  by_cases c4 : t383.toList = a0.toList
  case neg =>
   rw [if_neg c4] at H
   have c4b0 : (t383.toList == a0.toList) = false := beq_eq_false_iff_ne.mpr c4
   have c4b1 : (t383.toList != a0.toList) = true := bne_iff_ne.mpr c4
   have H' := Aside0.mk H
   clear H
   go_wp2_with (first | ((with_reducible refine gate_callee (f := 40) rfl ?_); refine goesL_ (some 9) rfl rfl Tryd.func40 (by kernel_rfl) rfl #[.int .i64 x5_1] rfl zq1 ?_; (with_reducible refine (impl_hourText.calls x5_1 t383 _ (HTN.out.below zq0) A3.out).mono ?_); rintro e w6 ⟨rfl, hb⟩; refine ⟨_, rfl, ?_⟩; have n0_ := Aside0.mk (below_step zq0 hb); clear HB; have HB := n0_; clear n0_; (try clear hb); (try clear hb2); (try clear hk); (try clear hi)))
   go_roundg k1
   case measure => have := HK1.out; omega
   case rel => exact ⟨(wrap64 (x5_1 + 1)), (by first | rfl | (simp; done) | (simp [*]; done)), H', ⟨by have := HK1.out; omega⟩, ⟨zq0⟩⟩
  rw [if_pos c4] at H
  have c4b0 : (t383.toList == a0.toList) = true := beq_iff_eq.mpr c4
  have c4b1 : (t383.toList != a0.toList) = false := bne_eq_false_iff_eq.mpr c4
  clear c4
  simp only [Option.some.injEq, Prod.mk.injEq] at H
  obtain ⟨rfl, rfl⟩ := H
  go_wp2_with (first | ((with_reducible refine gate_callee (f := 40) rfl ?_); refine goesL_ (some 9) rfl rfl Tryd.func40 (by kernel_rfl) rfl #[.int .i64 x5_1] rfl zq1 ?_; (with_reducible refine (impl_hourText.calls x5_1 t383 _ (HTN.out.below zq0) A3.out).mono ?_); rintro e w5 ⟨rfl, hb⟩; refine ⟨_, rfl, ?_⟩; have n0_ := Aside0.mk (below_step zq0 hb); clear HB; have HB := n0_; clear n0_; (try clear hb); (try clear hb2); (try clear hk); (try clear hi)))
  go_ret2
  exact ⟨zqE, zq0⟩

/-! ### spec_ParseHour: function 16 -/
def spec_ParseHour.l0 : Nat → ByteArray → Int → Option (Int × Bool)
 | 0, _, _ => none
 | k + 1, x0, x4 => if x4 ≤ 240 then ((spec_l16Hour.f k x4).bind fun t384 => (if t384.toList = x0.toList then (some (x4, true)) else (spec_ParseHour.l0 k x0 (wrap64 (x4 + 1))))) else (some (0, false))
def spec_ParseHour.f (k : Nat) (a0 : ByteArray) : Option (Int × Bool) := spec_ParseHour.l0 k a0 0
theorem spec_ParseHour.mono_l : ∀ k, (∀ y0 y1, LeO (spec_ParseHour.l0 k y0 y1) (spec_ParseHour.l0 (k + 1) y0 y1))
 | 0 => fun _ _ r h => by simp [spec_ParseHour.l0] at h
 | k + 1 => by
  have ih0 := spec_ParseHour.mono_l k
  ·
   intro y0 y1
   unfold spec_ParseHour.l0
   repeat' first
   | (with_reducible exact ih0 _ _)
   | (with_reducible exact spec_l16Hour.mono _ _)
   | (with_reducible exact LeO.refl _)
   | (with_reducible exact LeO.none _)
   | (with_reducible refine LeO.ite ?_ ?_)
   | (with_reducible refine LeO.bind ?_ (fun _ => ?_))
   | exact ih0 _ _
   | exact spec_l16Hour.mono _ _
   | exact LeO.none _
   | refine LeO.ite ?_ ?_
   | refine LeO.bind ?_ (fun _ => ?_)
theorem spec_ParseHour.mono : ∀ a0 k, LeO (spec_ParseHour.f k a0) (spec_ParseHour.f (k + 1) a0) := by
 intro a0 k
 have ih0 := spec_ParseHour.mono_l k
 unfold spec_ParseHour.f
 repeat' first
   | (with_reducible exact ih0 _ _)
   | (with_reducible exact spec_l16Hour.mono _ _)
   | (with_reducible exact LeO.refl _)
   | (with_reducible exact LeO.none _)
   | (with_reducible refine LeO.ite ?_ ?_)
   | (with_reducible refine LeO.bind ?_ (fun _ => ?_))
   | exact ih0 _ _
   | exact spec_l16Hour.mono _ _
   | exact LeO.none _
   | refine LeO.ite ?_ ?_
   | refine LeO.bind ?_ (fun _ => ?_)
set_option maxHeartbeats 8000000 in
set_option maxRecDepth 100000 in
theorem spec_ParseHour.calls (k : Nat) (a0 : ByteArray) (r1 : Int) (r2 : Bool) (w : World) (h : spec_ParseHour.f k a0 = some (r1, r2)) :
  Calls Tryd.prog 16 #[.string a0] w fun e w' => e = .returned (.tuple #[.int .i64 r1, .bool r2]) ∧ Below w.heap.size w w' := by
 have HB := Aside0.mk (Below.refl w.heap.size w)
 have H : (spec_ParseHour.l0 k a0 0) = some (r1, r2) := h
 clear h
 have H' := Aside0.mk H
 clear H
 go_enter Tryd.func16, Tryd.ntmps16
 go_wp2
 go_loopg [4] k (fun kq v4 w' => ∃ (x4_1 : Int), v4 = .int .i64 x4_1 ∧ Aside0 (spec_ParseHour.l0 kq a0 x4_1 = some (r1, r2)) ∧ Aside0 (kq ≤ k) ∧ Aside0 (Below w.heap.size w w'))
 case atStart => exact ⟨(0), (by first | rfl | (simp; done) | (simp [*]; done)), H', ⟨Nat.le_refl _⟩, ⟨zq0⟩⟩
 clear H'
 try clear c1
 obtain ⟨x4_1, rfl, HA, HK1, HB⟩ := hrel
 cases gk with
 | zero => exact absurd HA.out (by simp [spec_ParseHour.l0])
 | succ k1 =>
  have H := HA.out
  clear HA
  simp only [spec_ParseHour.l0] at H
  by_cases c2 : x4_1 ≤ 240
  case neg =>
   rw [if_neg c2] at H
   have c2b0 : decide (x4_1 ≤ 240) = false := decide_eq_false c2
   clear c2
   simp only [Option.some.injEq, Prod.mk.injEq] at H
   obtain ⟨rfl, rfl⟩ := H
   go_wp2
   go_ret2
   exact ⟨zqE, zq0⟩
  rw [if_pos c2] at H
  have c2b0 : decide (x4_1 ≤ 240) = true := decide_eq_true c2
  clear c2
  replace H := Option.bind_eq_some_iff.mp H
  obtain ⟨t384, A30, H⟩ := H
  replace H : (if t384.toList = a0.toList then (some (x4_1, true)) else (spec_ParseHour.l0 k1 a0 (wrap64 (x4_1 + 1)))) = some (r1, r2) := H
  have A3 := Aside0.mk A30
  clear A30
  by_cases c4 : t384.toList = a0.toList
  case neg =>
   rw [if_neg c4] at H
   have c4b0 : (t384.toList == a0.toList) = false := beq_eq_false_iff_ne.mpr c4
   have c4b1 : (t384.toList != a0.toList) = true := bne_iff_ne.mpr c4
   have H' := Aside0.mk H
   clear H
   go_wp2_with (first | ((with_reducible refine gate_callee (f := 37) rfl ?_); refine goesL_ (some 10) rfl rfl Tryd.func37 (by kernel_rfl) rfl #[.int .i64 x4_1] rfl zq1 ?_; (with_reducible refine (spec_l16Hour.calls k1 x4_1 t384 _ A3.out).mono ?_); rintro e w6 ⟨rfl, hb⟩; refine ⟨_, rfl, ?_⟩; have n0_ := Aside0.mk (below_step zq0 hb); clear HB; have HB := n0_; clear n0_; (try clear hb); (try clear hb2); (try clear hk); (try clear hi)))
   go_roundg k1
   case measure => have := HK1.out; omega
   case rel => exact ⟨(wrap64 (x4_1 + 1)), (by first | rfl | (simp; done) | (simp [*]; done)), H', ⟨by have := HK1.out; omega⟩, ⟨zq0⟩⟩
  rw [if_pos c4] at H
  have c4b0 : (t384.toList == a0.toList) = true := beq_iff_eq.mpr c4
  have c4b1 : (t384.toList != a0.toList) = false := bne_eq_false_iff_eq.mpr c4
  clear c4
  simp only [Option.some.injEq, Prod.mk.injEq] at H
  obtain ⟨rfl, rfl⟩ := H
  go_wp2_with (first | ((with_reducible refine gate_callee (f := 37) rfl ?_); refine goesL_ (some 10) rfl rfl Tryd.func37 (by kernel_rfl) rfl #[.int .i64 x4_1] rfl zq1 ?_; (with_reducible refine (spec_l16Hour.calls k1 x4_1 t384 _ A3.out).mono ?_); rintro e w5 ⟨rfl, hb⟩; refine ⟨_, rfl, ?_⟩; have n0_ := Aside0.mk (below_step zq0 hb); clear HB; have HB := n0_; clear n0_; (try clear hb); (try clear hb2); (try clear hk); (try clear hi)))
  go_ret2
  exact ⟨zqE, zq0⟩
end Go.Proofs.YtjgkinpjjbgcpaaDoor.Q
