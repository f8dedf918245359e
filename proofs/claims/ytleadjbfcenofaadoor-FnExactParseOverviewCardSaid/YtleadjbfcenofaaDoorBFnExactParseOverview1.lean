/- Texts of this seat, put together: Qf40, Qf23, Qf24, Mend, Qf25. -/
import Derived.Test.YtleadjbfcenofaaDoorZFnExactParseOverview
import Derived.Test.YtleadjbfcenofaaDoorWLast
import Derived.Test.YtleadjbfcenofaaDoorBFnExactParseOverview0
namespace Go.Proofs.YtleadjbfcenofaaDoor.Q
open Go.RowKit Go.Proofs.YtleadjbfcenofaaDoorW.PrintWords Go.Proofs.YtleadjbfcenofaaDoorW.PrintLast Go.Proofs.YtleadjbfcenofaaDoorW.PrintMore
attribute [local go_sem] max2_int min2_int max_two min_two max_three min_three max_four min_four   -- for this text's walks alone
set_option linter.unusedVariables false
set_option linter.unusedSimpArgs false

/-! ### spec_l16Hour: function 40 -/
def spec_l16Hour.f (k : Nat) (a0 : Int) : Option (ByteArray) := (spec_l1Num.f k (Int.tmod a0 24)).bind fun t122 => (if (t122.size : Int) = 1 then (if 1 + t122.size ≤ 9223372036854775807 then ((spec_l1Num.f k (wrap64 ((wrap64 (Int.tdiv a0 24)) + 1))).bind fun t123 => (if 4 + t123.size ≤ 9223372036854775807 then (if ((⟨#[100, 97, 121, 32]⟩ : ByteArray) ++ t123).size + 2 ≤ 9223372036854775807 then (if (((⟨#[100, 97, 121, 32]⟩ : ByteArray) ++ t123) ++ (⟨#[44, 32]⟩ : ByteArray)).size + ((⟨#[48]⟩ : ByteArray) ++ t122).size ≤ 9223372036854775807 then (if ((((⟨#[100, 97, 121, 32]⟩ : ByteArray) ++ t123) ++ (⟨#[44, 32]⟩ : ByteArray)) ++ ((⟨#[48]⟩ : ByteArray) ++ t122)).size + 3 ≤ 9223372036854775807 then (some (((((⟨#[100, 97, 121, 32]⟩ : ByteArray) ++ t123) ++ (⟨#[44, 32]⟩ : ByteArray)) ++ ((⟨#[48]⟩ : ByteArray) ++ t122)) ++ (⟨#[58, 48, 48]⟩ : ByteArray))) else (none)) else (none)) else (none)) else (none))) else (none)) else ((spec_l1Num.f k (wrap64 ((wrap64 (Int.tdiv a0 24)) + 1))).bind fun t124 => (if 4 + t124.size ≤ 9223372036854775807 then (if ((⟨#[100, 97, 121, 32]⟩ : ByteArray) ++ t124).size + 2 ≤ 9223372036854775807 then (if (((⟨#[100, 97, 121, 32]⟩ : ByteArray) ++ t124) ++ (⟨#[44, 32]⟩ : ByteArray)).size + t122.size ≤ 9223372036854775807 then (if ((((⟨#[100, 97, 121, 32]⟩ : ByteArray) ++ t124) ++ (⟨#[44, 32]⟩ : ByteArray)) ++ t122).size + 3 ≤ 9223372036854775807 then (some (((((⟨#[100, 97, 121, 32]⟩ : ByteArray) ++ t124) ++ (⟨#[44, 32]⟩ : ByteArray)) ++ t122) ++ (⟨#[58, 48, 48]⟩ : ByteArray))) else (none)) else (none)) else (none)) else (none))))
set_option maxHeartbeats 8000000 in
set_option maxRecDepth 100000 in
theorem spec_l16Hour.calls (k : Nat) (a0 : Int) (r : ByteArray) (w : World) (h : spec_l16Hour.f k a0 = some r) :
  Calls Tryd.prog 40 #[.int .i64 a0] w fun e w' => e = .returned (.string r) ∧ Below w.heap.size w w' := by
 have HB := Aside0.mk (Below.refl w.heap.size w)
 have H : ((spec_l1Num.f k (Int.tmod a0 24)).bind fun t122 => (if (t122.size : Int) = 1 then (if 1 + t122.size ≤ 9223372036854775807 then ((spec_l1Num.f k (wrap64 ((wrap64 (Int.tdiv a0 24)) + 1))).bind fun t123 => (if 4 + t123.size ≤ 9223372036854775807 then (if ((⟨#[100, 97, 121, 32]⟩ : ByteArray) ++ t123).size + 2 ≤ 9223372036854775807 then (if (((⟨#[100, 97, 121, 32]⟩ : ByteArray) ++ t123) ++ (⟨#[44, 32]⟩ : ByteArray)).size + ((⟨#[48]⟩ : ByteArray) ++ t122).size ≤ 9223372036854775807 then (if ((((⟨#[100, 97, 121, 32]⟩ : ByteArray) ++ t123) ++ (⟨#[44, 32]⟩ : ByteArray)) ++ ((⟨#[48]⟩ : ByteArray) ++ t122)).size + 3 ≤ 9223372036854775807 then (some (((((⟨#[100, 97, 121, 32]⟩ : ByteArray) ++ t123) ++ (⟨#[44, 32]⟩ : ByteArray)) ++ ((⟨#[48]⟩ : ByteArray) ++ t122)) ++ (⟨#[58, 48, 48]⟩ : ByteArray))) else (none)) else (none)) else (none)) else (none))) else (none)) else ((spec_l1Num.f k (wrap64 ((wrap64 (Int.tdiv a0 24)) + 1))).bind fun t124 => (if 4 + t124.size ≤ 9223372036854775807 then (if ((⟨#[100, 97, 121, 32]⟩ : ByteArray) ++ t124).size + 2 ≤ 9223372036854775807 then (if (((⟨#[100, 97, 121, 32]⟩ : ByteArray) ++ t124) ++ (⟨#[44, 32]⟩ : ByteArray)).size + t122.size ≤ 9223372036854775807 then (if ((((⟨#[100, 97, 121, 32]⟩ : ByteArray) ++ t124) ++ (⟨#[44, 32]⟩ : ByteArray)) ++ t122).size + 3 ≤ 9223372036854775807 then (some (((((⟨#[100, 97, 121, 32]⟩ : ByteArray) ++ t124) ++ (⟨#[44, 32]⟩ : ByteArray)) ++ t122) ++ (⟨#[58, 48, 48]⟩ : ByteArray))) else (none)) else (none)) else (none)) else (none))))) = some r := h
 clear h
 replace H := Option.bind_eq_some_iff.mp H
 obtain ⟨t122, A20, H⟩ := H
 replace H : (if (t122.size : Int) = 1 then (if 1 + t122.size ≤ 9223372036854775807 then ((spec_l1Num.f k (wrap64 ((wrap64 (Int.tdiv a0 24)) + 1))).bind fun t123 => (if 4 + t123.size ≤ 9223372036854775807 then (if ((⟨#[100, 97, 121, 32]⟩ : ByteArray) ++ t123).size + 2 ≤ 9223372036854775807 then (if (((⟨#[100, 97, 121, 32]⟩ : ByteArray) ++ t123) ++ (⟨#[44, 32]⟩ : ByteArray)).size + ((⟨#[48]⟩ : ByteArray) ++ t122).size ≤ 9223372036854775807 then (if ((((⟨#[100, 97, 121, 32]⟩ : ByteArray) ++ t123) ++ (⟨#[44, 32]⟩ : ByteArray)) ++ ((⟨#[48]⟩ : ByteArray) ++ t122)).size + 3 ≤ 9223372036854775807 then (some (((((⟨#[100, 97, 121, 32]⟩ : ByteArray) ++ t123) ++ (⟨#[44, 32]⟩ : ByteArray)) ++ ((⟨#[48]⟩ : ByteArray) ++ t122)) ++ (⟨#[58, 48, 48]⟩ : ByteArray))) else (none)) else (none)) else (none)) else (none))) else (none)) else ((spec_l1Num.f k (wrap64 ((wrap64 (Int.tdiv a0 24)) + 1))).bind fun t124 => (if 4 + t124.size ≤ 9223372036854775807 then (if ((⟨#[100, 97, 121, 32]⟩ : ByteArray) ++ t124).size + 2 ≤ 9223372036854775807 then (if (((⟨#[100, 97, 121, 32]⟩ : ByteArray) ++ t124) ++ (⟨#[44, 32]⟩ : ByteArray)).size + t122.size ≤ 9223372036854775807 then (if ((((⟨#[100, 97, 121, 32]⟩ : ByteArray) ++ t124) ++ (⟨#[44, 32]⟩ : ByteArray)) ++ t122).size + 3 ≤ 9223372036854775807 then (some (((((⟨#[100, 97, 121, 32]⟩ : ByteArray) ++ t124) ++ (⟨#[44, 32]⟩ : ByteArray)) ++ t122) ++ (⟨#[58, 48, 48]⟩ : ByteArray))) else (none)) else (none)) else (none)) else (none)))) = some r := H
 have A2 := Aside0.mk A20
 clear A20
 by_cases c3 : (t122.size : Int) = 1
 case neg =>
  rw [if_neg c3] at H
  have c3b0 : ((t122.size : Int) == 1) = false := beq_eq_false_iff_ne.mpr c3
  have c3b1 : ((t122.size : Int) != 1) = true := bne_iff_ne.mpr c3
  replace H := Option.bind_eq_some_iff.mp H
  obtain ⟨t124, A120, H⟩ := H
  replace H : (if 4 + t124.size ≤ 9223372036854775807 then (if ((⟨#[100, 97, 121, 32]⟩ : ByteArray) ++ t124).size + 2 ≤ 9223372036854775807 then (if (((⟨#[100, 97, 121, 32]⟩ : ByteArray) ++ t124) ++ (⟨#[44, 32]⟩ : ByteArray)).size + t122.size ≤ 9223372036854775807 then (if ((((⟨#[100, 97, 121, 32]⟩ : ByteArray) ++ t124) ++ (⟨#[44, 32]⟩ : ByteArray)) ++ t122).size + 3 ≤ 9223372036854775807 then (some (((((⟨#[100, 97, 121, 32]⟩ : ByteArray) ++ t124) ++ (⟨#[44, 32]⟩ : ByteArray)) ++ t122) ++ (⟨#[58, 48, 48]⟩ : ByteArray))) else (none)) else (none)) else (none)) else (none)) = some r := H
  have A12 := Aside0.mk A120
  clear A120
  by_cases c13 : 4 + t124.size ≤ 9223372036854775807
  case neg =>
   rw [if_neg c13] at H
   exact absurd H (by simp)
  rw [if_pos c13] at H
  have c13b0 := eq_true c13
  have c13b1 : decide (4 + t124.size ≤ 9223372036854775807) = true := decide_eq_true c13
  try have c13b2 : (9223372036854775807 < 4 + t124.size) = False := eq_false (Nat.not_lt.2 c13)
  by_cases c14 : ((⟨#[100, 97, 121, 32]⟩ : ByteArray) ++ t124).size + 2 ≤ 9223372036854775807
  case neg =>
   rw [if_neg c14] at H
   exact absurd H (by simp)
  rw [if_pos c14] at H
  have c14b0 := eq_true c14
  have c14b1 : decide (((⟨#[100, 97, 121, 32]⟩ : ByteArray) ++ t124).size + 2 ≤ 9223372036854775807) = true := decide_eq_true c14
  try have c14b2 : (9223372036854775807 < ((⟨#[100, 97, 121, 32]⟩ : ByteArray) ++ t124).size + 2) = False := eq_false (Nat.not_lt.2 c14)
  try have c14b3 : (9223372036854775807 < 4 + t124.size + 2) = False := eq_false (Nat.not_lt.2 (by have q_ := c14; simp only [ByteArray.size_append] at q_; exact q_))
  by_cases c15 : (((⟨#[100, 97, 121, 32]⟩ : ByteArray) ++ t124) ++ (⟨#[44, 32]⟩ : ByteArray)).size + t122.size ≤ 9223372036854775807
  case neg =>
   rw [if_neg c15] at H
   exact absurd H (by simp)
  rw [if_pos c15] at H
  have c15b0 := eq_true c15
  have c15b1 : decide ((((⟨#[100, 97, 121, 32]⟩ : ByteArray) ++ t124) ++ (⟨#[44, 32]⟩ : ByteArray)).size + t122.size ≤ 9223372036854775807) = true := decide_eq_true c15
  try have c15b2 : (9223372036854775807 < (((⟨#[100, 97, 121, 32]⟩ : ByteArray) ++ t124) ++ (⟨#[44, 32]⟩ : ByteArray)).size + t122.size) = False := eq_false (Nat.not_lt.2 c15)
  try have c15b3 : (9223372036854775807 < 4 + t124.size + 2 + t122.size) = False := eq_false (Nat.not_lt.2 (by have q_ := c15; simp only [ByteArray.size_append] at q_; exact q_))
  by_cases c16 : ((((⟨#[100, 97, 121, 32]⟩ : ByteArray) ++ t124) ++ (⟨#[44, 32]⟩ : ByteArray)) ++ t122).size + 3 ≤ 9223372036854775807
  case neg =>
   rw [if_neg c16] at H
   exact absurd H (by simp)
  rw [if_pos c16] at H
  have c16b0 := eq_true c16
  have c16b1 : decide (((((⟨#[100, 97, 121, 32]⟩ : ByteArray) ++ t124) ++ (⟨#[44, 32]⟩ : ByteArray)) ++ t122).size + 3 ≤ 9223372036854775807) = true := decide_eq_true c16
  try have c16b2 : (9223372036854775807 < ((((⟨#[100, 97, 121, 32]⟩ : ByteArray) ++ t124) ++ (⟨#[44, 32]⟩ : ByteArray)) ++ t122).size + 3) = False := eq_false (Nat.not_lt.2 c16)
  try have c16b3 : (9223372036854775807 < 4 + t124.size + 2 + t122.size + 3) = False := eq_false (Nat.not_lt.2 (by have q_ := c16; simp only [ByteArray.size_append] at q_; exact q_))
  obtain rfl := Option.some.inj H
  go_enter Tryd.func40, Tryd.ntmps40
  go_wp2_with (first | ((with_reducible refine gate_callee (f := 39) rfl ?_); refine goesL_ (some 6) rfl rfl Tryd.func39 (by kernel_rfl) rfl #[.int .i64 (Int.tmod a0 24)] rfl zq1 ?_; (with_reducible refine (spec_l1Num.calls k (Int.tmod a0 24) t122 _ A2.out).mono ?_); rintro e w17 ⟨rfl, hb⟩; refine ⟨_, rfl, ?_⟩; replace HB := Aside0.mk (below_step zq0 hb); (try clear hb); (try clear hb2); (try clear hk); (try clear hi)) | ((with_reducible refine gate_callee (f := 39) rfl ?_); refine goesL_ (some 15) rfl rfl Tryd.func39 (by kernel_rfl) rfl #[.int .i64 (wrap64 ((wrap64 (Int.tdiv a0 24)) + 1))] rfl zq1 ?_; (with_reducible refine (spec_l1Num.calls k (wrap64 ((wrap64 (Int.tdiv a0 24)) + 1)) t124 _ A12.out).mono ?_); rintro e w18 ⟨rfl, hb⟩; refine ⟨_, rfl, ?_⟩; replace HB := Aside0.mk (below_step zq0 hb); (try clear hb); (try clear hb2); (try clear hk); (try clear hi)))
  go_ret
  exact ⟨zqE, zq0⟩
 rw [if_pos c3] at H
 have c3b0 : ((t122.size : Int) == 1) = true := beq_iff_eq.mpr c3
 have c3b1 : ((t122.size : Int) != 1) = false := bne_eq_false_iff_eq.mpr c3
 clear c3
 by_cases c4 : 1 + t122.size ≤ 9223372036854775807
 case neg =>
  rw [if_neg c4] at H
  exact absurd H (by simp)
 rw [if_pos c4] at H
 have c4b0 := eq_true c4
 have c4b1 : decide (1 + t122.size ≤ 9223372036854775807) = true := decide_eq_true c4
 try have c4b2 : (9223372036854775807 < 1 + t122.size) = False := eq_false (Nat.not_lt.2 c4)
 replace H := Option.bind_eq_some_iff.mp H
 obtain ⟨t123, A50, H⟩ := H
 replace H : (if 4 + t123.size ≤ 9223372036854775807 then (if ((⟨#[100, 97, 121, 32]⟩ : ByteArray) ++ t123).size + 2 ≤ 9223372036854775807 then (if (((⟨#[100, 97, 121, 32]⟩ : ByteArray) ++ t123) ++ (⟨#[44, 32]⟩ : ByteArray)).size + ((⟨#[48]⟩ : ByteArray) ++ t122).size ≤ 9223372036854775807 then (if ((((⟨#[100, 97, 121, 32]⟩ : ByteArray) ++ t123) ++ (⟨#[44, 32]⟩ : ByteArray)) ++ ((⟨#[48]⟩ : ByteArray) ++ t122)).size + 3 ≤ 9223372036854775807 then (some (((((⟨#[100, 97, 121, 32]⟩ : ByteArray) ++ t123) ++ (⟨#[44, 32]⟩ : ByteArray)) ++ ((⟨#[48]⟩ : ByteArray) ++ t122)) ++ (⟨#[58, 48, 48]⟩ : ByteArray))) else (none)) else (none)) else (none)) else (none)) = some r := H
 have A5 := Aside0.mk A50
 clear A50
 by_cases c6 : 4 + t123.size ≤ 9223372036854775807
 case neg =>
  rw [if_neg c6] at H
  exact absurd H (by simp)
 rw [if_pos c6] at H
 have c6b0 := eq_true c6
 have c6b1 : decide (4 + t123.size ≤ 9223372036854775807) = true := decide_eq_true c6
 try have c6b2 : (9223372036854775807 < 4 + t123.size) = False := eq_false (Nat.not_lt.2 c6)
 by_cases c7 : ((⟨#[100, 97, 121, 32]⟩ : ByteArray) ++ t123).size + 2 ≤ 9223372036854775807
 case neg =>
  rw [if_neg c7] at H
  exact absurd H (by simp)
 rw [if_pos c7] at H
 have c7b0 := eq_true c7
 have c7b1 : decide (((⟨#[100, 97, 121, 32]⟩ : ByteArray) ++ t123).size + 2 ≤ 9223372036854775807) = true := decide_eq_true c7
 try have c7b2 : (9223372036854775807 < ((⟨#[100, 97, 121, 32]⟩ : ByteArray) ++ t123).size + 2) = False := eq_false (Nat.not_lt.2 c7)
 try have c7b3 : (9223372036854775807 < 4 + t123.size + 2) = False := eq_false (Nat.not_lt.2 (by have q_ := c7; simp only [ByteArray.size_append] at q_; exact q_))
 by_cases c8 : (((⟨#[100, 97, 121, 32]⟩ : ByteArray) ++ t123) ++ (⟨#[44, 32]⟩ : ByteArray)).size + ((⟨#[48]⟩ : ByteArray) ++ t122).size ≤ 9223372036854775807
 case neg =>
  rw [if_neg c8] at H
  exact absurd H (by simp)
 rw [if_pos c8] at H
 have c8b0 := eq_true c8
 have c8b1 : decide ((((⟨#[100, 97, 121, 32]⟩ : ByteArray) ++ t123) ++ (⟨#[44, 32]⟩ : ByteArray)).size + ((⟨#[48]⟩ : ByteArray) ++ t122).size ≤ 9223372036854775807) = true := decide_eq_true c8
 try have c8b2 : (9223372036854775807 < (((⟨#[100, 97, 121, 32]⟩ : ByteArray) ++ t123) ++ (⟨#[44, 32]⟩ : ByteArray)).size + ((⟨#[48]⟩ : ByteArray) ++ t122).size) = False := eq_false (Nat.not_lt.2 c8)
 try have c8b3 : (9223372036854775807 < 4 + t123.size + 2 + (1 + t122.size)) = False := eq_false (Nat.not_lt.2 (by have q_ := c8; simp only [ByteArray.size_append] at q_; exact q_))
 by_cases c9 : ((((⟨#[100, 97, 121, 32]⟩ : ByteArray) ++ t123) ++ (⟨#[44, 32]⟩ : ByteArray)) ++ ((⟨#[48]⟩ : ByteArray) ++ t122)).size + 3 ≤ 9223372036854775807
 case neg =>
  rw [if_neg c9] at H
  exact absurd H (by simp)
 rw [if_pos c9] at H
 have c9b0 := eq_true c9
 have c9b1 : decide (((((⟨#[100, 97, 121, 32]⟩ : ByteArray) ++ t123) ++ (⟨#[44, 32]⟩ : ByteArray)) ++ ((⟨#[48]⟩ : ByteArray) ++ t122)).size + 3 ≤ 9223372036854775807) = true := decide_eq_true c9
 try have c9b2 : (9223372036854775807 < ((((⟨#[100, 97, 121, 32]⟩ : ByteArray) ++ t123) ++ (⟨#[44, 32]⟩ : ByteArray)) ++ ((⟨#[48]⟩ : ByteArray) ++ t122)).size + 3) = False := eq_false (Nat.not_lt.2 c9)
 try have c9b3 : (9223372036854775807 < 4 + t123.size + 2 + (1 + t122.size) + 3) = False := eq_false (Nat.not_lt.2 (by have q_ := c9; simp only [ByteArray.size_append] at q_; exact q_))
 obtain rfl := Option.some.inj H
 go_enter Tryd.func40, Tryd.ntmps40
 go_wp2_with (first | ((with_reducible refine gate_callee (f := 39) rfl ?_); refine goesL_ (some 6) rfl rfl Tryd.func39 (by kernel_rfl) rfl #[.int .i64 (Int.tmod a0 24)] rfl zq1 ?_; (with_reducible refine (spec_l1Num.calls k (Int.tmod a0 24) t122 _ A2.out).mono ?_); rintro e w10 ⟨rfl, hb⟩; refine ⟨_, rfl, ?_⟩; replace HB := Aside0.mk (below_step zq0 hb); (try clear hb); (try clear hb2); (try clear hk); (try clear hi)) | ((with_reducible refine gate_callee (f := 39) rfl ?_); refine goesL_ (some 15) rfl rfl Tryd.func39 (by kernel_rfl) rfl #[.int .i64 (wrap64 ((wrap64 (Int.tdiv a0 24)) + 1))] rfl zq1 ?_; (with_reducible refine (spec_l1Num.calls k (wrap64 ((wrap64 (Int.tdiv a0 24)) + 1)) t123 _ A5.out).mono ?_); rintro e w11 ⟨rfl, hb⟩; refine ⟨_, rfl, ?_⟩; replace HB := Aside0.mk (below_step zq0 hb); (try clear hb); (try clear hb2); (try clear hk); (try clear hi)))
 go_ret
 exact ⟨zqE, zq0⟩

/-! ### spec_ParseHour: function 23 -/
def spec_ParseHour.l0 : Nat → ByteArray → Int → Option (Int × Bool)
 | 0, _, _ => none
 | k + 1, x0, x4 => if x4 ≤ 240 then ((spec_l16Hour.f k x4).bind fun t125 => (if t125.toList = x0.toList then (some (x4, true)) else (spec_ParseHour.l0 k x0 (wrap64 (x4 + 1))))) else (some (0, false))
def spec_ParseHour.f (k : Nat) (a0 : ByteArray) : Option (Int × Bool) := spec_ParseHour.l0 k a0 0
set_option maxHeartbeats 8000000 in
set_option maxRecDepth 100000 in
theorem spec_ParseHour.calls (k : Nat) (a0 : ByteArray) (r1 : Int) (r2 : Bool) (w : World) (h : spec_ParseHour.f k a0 = some (r1, r2)) :
  Calls Tryd.prog 23 #[.string a0] w fun e w' => e = .returned (.tuple #[.int .i64 r1, .bool r2]) ∧ Below w.heap.size w w' := by
 have HB := Aside0.mk (Below.refl w.heap.size w)
 have H : (spec_ParseHour.l0 k a0 0) = some (r1, r2) := h
 clear h
 have H' := Aside0.mk H
 clear H
 go_enter Tryd.func23, Tryd.ntmps23
 go_wp2
 go_loopg [4] k (fun kq v4 w' => ∃ (x4_1 : Int), v4 = .int .i64 x4_1 ∧ Aside0 (spec_ParseHour.l0 kq a0 x4_1 = some (r1, r2)) ∧ Aside0 (kq ≤ k) ∧ Aside0 (Below w.heap.size w w'))
 case atStart => exact ⟨(0), (by first | rfl | (simp; done) | (simp [*]; done)), H', ⟨Nat.le_refl _⟩, ⟨zq0⟩⟩
 clear H'
 obtain ⟨x4_1, rfl, HA, HK1, HB⟩ := hrel
 cases gk with
 | zero => exact absurd HA.out (by simp [spec_ParseHour.l0])
 | succ k1 =>
  have H := HA.out
  clear HA
  simp only [spec_ParseHour.l0] at H
  by_cases c2 : x4_1 ≤ 240
  case neg =>
   rw [if_neg c2] at H
   have c2b0 : decide (x4_1 ≤ 240) = false := decide_eq_false c2
   clear c2
   simp only [Option.some.injEq, Prod.mk.injEq] at H
   obtain ⟨rfl, rfl⟩ := H
   go_wp2
   go_ret2
   exact ⟨zqE, zq0⟩
  rw [if_pos c2] at H
  have c2b0 : decide (x4_1 ≤ 240) = true := decide_eq_true c2
  clear c2
  replace H := Option.bind_eq_some_iff.mp H
  obtain ⟨t125, A30, H⟩ := H
  replace H : (if t125.toList = a0.toList then (some (x4_1, true)) else (spec_ParseHour.l0 k1 a0 (wrap64 (x4_1 + 1)))) = some (r1, r2) := H
  have A3 := Aside0.mk A30
  clear A30
  by_cases c4 : t125.toList = a0.toList
  case neg =>
   rw [if_neg c4] at H
   have c4b0 : (t125.toList == a0.toList) = false := beq_eq_false_iff_ne.mpr c4
   have c4b1 : (t125.toList != a0.toList) = true := bne_iff_ne.mpr c4
   have H' := Aside0.mk H
   clear H
   go_wp2_with (first | ((with_reducible refine gate_callee (f := 40) rfl ?_); refine goesL_ (some 10) rfl rfl Tryd.func40 (by kernel_rfl) rfl #[.int .i64 x4_1] rfl zq1 ?_; (with_reducible refine (spec_l16Hour.calls k1 x4_1 t125 _ A3.out).mono ?_); rintro e w6 ⟨rfl, hb⟩; refine ⟨_, rfl, ?_⟩; replace HB := Aside0.mk (below_step zq0 hb); (try clear hb); (try clear hb2); (try clear hk); (try clear hi)))
   go_roundg k1
   case measure => have := HK1.out; omega
   case rel => exact ⟨(wrap64 (x4_1 + 1)), (by first | rfl | (simp; done) | (simp [*]; done)), H', ⟨by have := HK1.out; omega⟩, ⟨zq0⟩⟩
  rw [if_pos c4] at H
  have c4b0 : (t125.toList == a0.toList) = true := beq_iff_eq.mpr c4
  have c4b1 : (t125.toList != a0.toList) = false := bne_eq_false_iff_eq.mpr c4
  clear c4
  simp only [Option.some.injEq, Prod.mk.injEq] at H
  obtain ⟨rfl, rfl⟩ := H
  go_wp2_with (first | ((with_reducible refine gate_callee (f := 40) rfl ?_); refine goesL_ (some 10) rfl rfl Tryd.func40 (by kernel_rfl) rfl #[.int .i64 x4_1] rfl zq1 ?_; (with_reducible refine (spec_l16Hour.calls k1 x4_1 t125 _ A3.out).mono ?_); rintro e w5 ⟨rfl, hb⟩; refine ⟨_, rfl, ?_⟩; replace HB := Aside0.mk (below_step zq0 hb); (try clear hb); (try clear hb2); (try clear hk); (try clear hi)))
  go_ret2
  exact ⟨zqE, zq0⟩

/-! ### spec_l14Good: function 24 -/
def spec_l14Good.f (a0_0 : Int) (a0_1 : Int) (a0_2 : Int) (a0_3 : Int) (a0_4 : Int) (a0_5 : Int) : Option (Bool) := (spec_l1In.f a0_0 1 999).bind fun t127 => (if t127 = true then ((spec_l1In.f a0_1 1 5).bind fun t128 => (if t128 = true then ((spec_l1In.f a0_2 1 3).bind fun t129 => (if t129 = true then ((spec_l1In.f a0_3 1 9).bind fun t130 => (if t130 = true then ((spec_l1In.f a0_5 1 240).bind fun t131 => (if t131 = true then ((spec_l1In.f a0_4 0 (wrap64 (a0_5 - 1))).bind fun t132 => (some t132)) else (some false))) else (some false))) else (some false))) else (some false))) else (some false))
set_option maxHeartbeats 8000000 in
set_option maxRecDepth 100000 in
theorem spec_l14Good.calls (a0_0 : Int) (a0_1 : Int) (a0_2 : Int) (a0_3 : Int) (a0_4 : Int) (a0_5 : Int) (r : Bool) (w : World) (h : spec_l14Good.f a0_0 a0_1 a0_2 a0_3 a0_4 a0_5 = some r) :
  Calls Tryd.prog 24 #[.agg #[.int .i64 a0_0, .int .i64 a0_1, .int .i64 a0_2, .int .i64 a0_3, .int .i64 a0_4, .int .i64 a0_5]] w fun e w' => e = .returned (.bool r) ∧ Below w.heap.size w w' := by
 have hu31 := Tryd.underlying31
 have HB := Aside0.mk (Below.refl w.heap.size w)
 have H : ((spec_l1In.f a0_0 1 999).bind fun t127 => (if t127 = true then ((spec_l1In.f a0_1 1 5).bind fun t128 => (if t128 = true then ((spec_l1In.f a0_2 1 3).bind fun t129 => (if t129 = true then ((spec_l1In.f a0_3 1 9).bind fun t130 => (if t130 = true then ((spec_l1In.f a0_5 1 240).bind fun t131 => (if t131 = true then ((spec_l1In.f a0_4 0 (wrap64 (a0_5 - 1))).bind fun t132 => (some t132)) else (some false))) else (some false))) else (some false))) else (some false))) else (some false))) = some r := h
 clear h
 replace H := Option.bind_eq_some_iff.mp H
 obtain ⟨t127, A20, H⟩ := H
 replace H : (if t127 = true then ((spec_l1In.f a0_1 1 5).bind fun t128 => (if t128 = true then ((spec_l1In.f a0_2 1 3).bind fun t129 => (if t129 = true then ((spec_l1In.f a0_3 1 9).bind fun t130 => (if t130 = true then ((spec_l1In.f a0_5 1 240).bind fun t131 => (if t131 = true then ((spec_l1In.f a0_4 0 (wrap64 (a0_5 - 1))).bind fun t132 => (some t132)) else (some false))) else (some false))) else (some false))) else (some false))) else (some false)) = some r := H
 have A2 := Aside0.mk A20
 clear A20
 by_cases c3 : t127 = true
 case neg =>
  replace c3 := Bool.eq_false_iff.mpr c3
  subst c3
  have H1 : (some false) = some r := by rw [if_neg (show ¬ (false = true) by decide)] at H; exact H
  clear H
  have H := H1
  clear H1
  obtain rfl := Option.some.inj H
  go_enter Tryd.func24, Tryd.ntmps24
  go_wp2_with (first | ((with_reducible refine gate_dst (N := 1) rfl ?_); refine box_event ?hg (N := 1) ?hd (cs := #[.int .i64 a0_0, .int .i64 a0_1, .int .i64 a0_2, .int .i64 a0_3, .int .i64 a0_4, .int .i64 a0_5]) (t := 31) ?hr ?_; (case hd => rfl); (case hg => rfl); (case hr => exact zqS); intro gb126 hg w23 hbox hb; have BK126 := Aside0.mk (hbox); have GW126 := Aside0.mk ((by rw [hg]; exact (below_size zq0) : w.heap.size ≤ gb126)); replace HB := Aside0.mk (below_step zq0 hb); have GE126 := GW126; clear hb hbox hg; obtain ⟨hcz24_0, hcz24_1, hcz24_2, hcz24_3, hcz24_4, hcz24_5, hfz24_0, hfz24_1, hfz24_2, hfz24_3, hfz24_4, hfz24_5⟩ := bz6 BK126.out) | ((with_reducible refine gate_callee (f := 38) rfl ?_); refine goesL_ (some 5) rfl rfl Tryd.func38 (by kernel_rfl) rfl #[.int .i64 a0_0, .int .i64 1, .int .i64 999] rfl zq1 ?_; (with_reducible refine (spec_l1In.calls a0_0 1 999 false _ A2.out).mono ?_); rintro e w' ⟨rfl, ⟨nd, rfl⟩⟩; refine ⟨_, rfl, ?_⟩))
  go_ret
  exact ⟨zqE, zq31⟩
 subst c3
 have H1 : ((spec_l1In.f a0_1 1 5).bind fun t128 => (if t128 = true then ((spec_l1In.f a0_2 1 3).bind fun t129 => (if t129 = true then ((spec_l1In.f a0_3 1 9).bind fun t130 => (if t130 = true then ((spec_l1In.f a0_5 1 240).bind fun t131 => (if t131 = true then ((spec_l1In.f a0_4 0 (wrap64 (a0_5 - 1))).bind fun t132 => (some t132)) else (some false))) else (some false))) else (some false))) else (some false))) = some r := by rw [if_pos rfl] at H; exact H
 clear H
 have H := H1
 clear H1
 replace H := Option.bind_eq_some_iff.mp H
 obtain ⟨t128, A40, H⟩ := H
 replace H : (if t128 = true then ((spec_l1In.f a0_2 1 3).bind fun t129 => (if t129 = true then ((spec_l1In.f a0_3 1 9).bind fun t130 => (if t130 = true then ((spec_l1In.f a0_5 1 240).bind fun t131 => (if t131 = true then ((spec_l1In.f a0_4 0 (wrap64 (a0_5 - 1))).bind fun t132 => (some t132)) else (some false))) else (some false))) else (some false))) else (some false)) = some r := H
 have A4 := Aside0.mk A40
 clear A40
 by_cases c5 : t128 = true
 case neg =>
  replace c5 := Bool.eq_false_iff.mpr c5
  subst c5
  have H1 : (some false) = some r := by rw [if_neg (show ¬ (false = true) by decide)] at H; exact H
  clear H
  have H := H1
  clear H1
  obtain rfl := Option.some.inj H
  go_enter Tryd.func24, Tryd.ntmps24
  go_wp2_with (first | ((with_reducible refine gate_dst (N := 1) rfl ?_); refine box_event ?hg (N := 1) ?hd (cs := #[.int .i64 a0_0, .int .i64 a0_1, .int .i64 a0_2, .int .i64 a0_3, .int .i64 a0_4, .int .i64 a0_5]) (t := 31) ?hr ?_; (case hd => rfl); (case hg => rfl); (case hr => exact zqS); intro gb126 hg w21 hbox hb; have BK126 := Aside0.mk (hbox); have GW126 := Aside0.mk ((by rw [hg]; exact (below_size zq0) : w.heap.size ≤ gb126)); replace HB := Aside0.mk (below_step zq0 hb); have GE126 := GW126; clear hb hbox hg; obtain ⟨hcz22_0, hcz22_1, hcz22_2, hcz22_3, hcz22_4, hcz22_5, hfz22_0, hfz22_1, hfz22_2, hfz22_3, hfz22_4, hfz22_5⟩ := bz6 BK126.out) | ((with_reducible refine gate_callee (f := 38) rfl ?_); refine goesL_ (some 5) rfl rfl Tryd.func38 (by kernel_rfl) rfl #[.int .i64 a0_0, .int .i64 1, .int .i64 999] rfl zq1 ?_; (with_reducible refine (spec_l1In.calls a0_0 1 999 true _ A2.out).mono ?_); rintro e w' ⟨rfl, ⟨nd, rfl⟩⟩; refine ⟨_, rfl, ?_⟩) | (go_at_call 38; (with_reducible refine (spec_l1In.calls a0_1 1 5 false _ A4.out).mono ?_); rintro e w' ⟨rfl, ⟨nd, rfl⟩⟩))
  go_ret
  exact ⟨zqE, zq31⟩
 subst c5
 have H1 : ((spec_l1In.f a0_2 1 3).bind fun t129 => (if t129 = true then ((spec_l1In.f a0_3 1 9).bind fun t130 => (if t130 = true then ((spec_l1In.f a0_5 1 240).bind fun t131 => (if t131 = true then ((spec_l1In.f a0_4 0 (wrap64 (a0_5 - 1))).bind fun t132 => (some t132)) else (some false))) else (some false))) else (some false))) = some r := by rw [if_pos rfl] at H; exact H
 clear H
 have H := H1
 clear H1
 replace H := Option.bind_eq_some_iff.mp H
 obtain ⟨t129, A60, H⟩ := H
 replace H : (if t129 = true then ((spec_l1In.f a0_3 1 9).bind fun t130 => (if t130 = true then ((spec_l1In.f a0_5 1 240).bind fun t131 => (if t131 = true then ((spec_l1In.f a0_4 0 (wrap64 (a0_5 - 1))).bind fun t132 => (some t132)) else (some false))) else (some false))) else (some false)) = some r := H
 have A6 := Aside0.mk A60
 clear A60
 by_cases c7 : t129 = true
 case neg =>
  replace c7 := Bool.eq_false_iff.mpr c7
  subst c7
  have H1 : (some false) = some r := by rw [if_neg (show ¬ (false = true) by decide)] at H; exact H
  clear H
  have H := H1
  clear H1
  obtain rfl := Option.some.inj H
  go_enter Tryd.func24, Tryd.ntmps24
  go_wp2_with (first | ((with_reducible refine gate_dst (N := 1) rfl ?_); refine box_event ?hg (N := 1) ?hd (cs := #[.int .i64 a0_0, .int .i64 a0_1, .int .i64 a0_2, .int .i64 a0_3, .int .i64 a0_4, .int .i64 a0_5]) (t := 31) ?hr ?_; (case hd => rfl); (case hg => rfl); (case hr => exact zqS); intro gb126 hg w19 hbox hb; have BK126 := Aside0.mk (hbox); have GW126 := Aside0.mk ((by rw [hg]; exact (below_size zq0) : w.heap.size ≤ gb126)); replace HB := Aside0.mk (below_step zq0 hb); have GE126 := GW126; clear hb hbox hg; obtain ⟨hcz20_0, hcz20_1, hcz20_2, hcz20_3, hcz20_4, hcz20_5, hfz20_0, hfz20_1, hfz20_2, hfz20_3, hfz20_4, hfz20_5⟩ := bz6 BK126.out) | ((with_reducible refine gate_callee (f := 38) rfl ?_); refine goesL_ (some 5) rfl rfl Tryd.func38 (by kernel_rfl) rfl #[.int .i64 a0_0, .int .i64 1, .int .i64 999] rfl zq1 ?_; (with_reducible refine (spec_l1In.calls a0_0 1 999 true _ A2.out).mono ?_); rintro e w' ⟨rfl, ⟨nd, rfl⟩⟩; refine ⟨_, rfl, ?_⟩) | (go_at_call 38; (with_reducible refine (spec_l1In.calls a0_1 1 5 true _ A4.out).mono ?_); rintro e w' ⟨rfl, ⟨nd, rfl⟩⟩) | (go_at_call 38; (with_reducible refine (spec_l1In.calls a0_2 1 3 false _ A6.out).mono ?_); rintro e w' ⟨rfl, ⟨nd, rfl⟩⟩))
  go_ret
  exact ⟨zqE, zq31⟩
 subst c7
 have H1 : ((spec_l1In.f a0_3 1 9).bind fun t130 => (if t130 = true then ((spec_l1In.f a0_5 1 240).bind fun t131 => (if t131 = true then ((spec_l1In.f a0_4 0 (wrap64 (a0_5 - 1))).bind fun t132 => (some t132)) else (some false))) else (some false))) = some r := by rw [if_pos rfl] at H; exact H
 clear H
 have H := H1
 clear H1
 replace H := Option.bind_eq_some_iff.mp H
 obtain ⟨t130, A80, H⟩ := H
 replace H : (if t130 = true then ((spec_l1In.f a0_5 1 240).bind fun t131 => (if t131 = true then ((spec_l1In.f a0_4 0 (wrap64 (a0_5 - 1))).bind fun t132 => (some t132)) else (some false))) else (some false)) = some r := H
 have A8 := Aside0.mk A80
 clear A80
 by_cases c9 : t130 = true
 case neg =>
  replace c9 := Bool.eq_false_iff.mpr c9
  subst c9
  have H1 : (some false) = some r := by rw [if_neg (show ¬ (false = true) by decide)] at H; exact H
  clear H
  have H := H1
  clear H1
  obtain rfl := Option.some.inj H
  go_enter Tryd.func24, Tryd.ntmps24
  go_wp2_with (first | ((with_reducible refine gate_dst (N := 1) rfl ?_); refine box_event ?hg (N := 1) ?hd (cs := #[.int .i64 a0_0, .int .i64 a0_1, .int .i64 a0_2, .int .i64 a0_3, .int .i64 a0_4, .int .i64 a0_5]) (t := 31) ?hr ?_; (case hd => rfl); (case hg => rfl); (case hr => exact zqS); intro gb126 hg w17 hbox hb; have BK126 := Aside0.mk (hbox); have GW126 := Aside0.mk ((by rw [hg]; exact (below_size zq0) : w.heap.size ≤ gb126)); replace HB := Aside0.mk (below_step zq0 hb); have GE126 := GW126; clear hb hbox hg; obtain ⟨hcz18_0, hcz18_1, hcz18_2, hcz18_3, hcz18_4, hcz18_5, hfz18_0, hfz18_1, hfz18_2, hfz18_3, hfz18_4, hfz18_5⟩ := bz6 BK126.out) | ((with_reducible refine gate_callee (f := 38) rfl ?_); refine goesL_ (some 5) rfl rfl Tryd.func38 (by kernel_rfl) rfl #[.int .i64 a0_0, .int .i64 1, .int .i64 999] rfl zq1 ?_; (with_reducible refine (spec_l1In.calls a0_0 1 999 true _ A2.out).mono ?_); rintro e w' ⟨rfl, ⟨nd, rfl⟩⟩; refine ⟨_, rfl, ?_⟩) | (go_at_call 38; (with_reducible refine (spec_l1In.calls a0_1 1 5 true _ A4.out).mono ?_); rintro e w' ⟨rfl, ⟨nd, rfl⟩⟩) | (go_at_call 38; (with_reducible refine (spec_l1In.calls a0_2 1 3 true _ A6.out).mono ?_); rintro e w' ⟨rfl, ⟨nd, rfl⟩⟩) | (go_at_call 38; (with_reducible refine (spec_l1In.calls a0_3 1 9 false _ A8.out).mono ?_); rintro e w' ⟨rfl, ⟨nd, rfl⟩⟩))
  go_ret
  exact ⟨zqE, zq31⟩
 subst c9
 have H1 : ((spec_l1In.f a0_5 1 240).bind fun t131 => (if t131 = true then ((spec_l1In.f a0_4 0 (wrap64 (a0_5 - 1))).bind fun t132 => (some t132)) else (some false))) = some r := by rw [if_pos rfl] at H; exact H
 clear H
 have H := H1
 clear H1
 replace H := Option.bind_eq_some_iff.mp H
 obtain ⟨t131, A100, H⟩ := H
 replace H : (if t131 = true then ((spec_l1In.f a0_4 0 (wrap64 (a0_5 - 1))).bind fun t132 => (some t132)) else (some false)) = some r := H
 have A10 := Aside0.mk A100
 clear A100
 by_cases c11 : t131 = true
 case neg =>
  replace c11 := Bool.eq_false_iff.mpr c11
  subst c11
  have H1 : (some false) = some r := by rw [if_neg (show ¬ (false = true) by decide)] at H; exact H
  clear H
  have H := H1
  clear H1
  obtain rfl := Option.some.inj H
  go_enter Tryd.func24, Tryd.ntmps24
  go_wp2_with (first | ((with_reducible refine gate_dst (N := 1) rfl ?_); refine box_event ?hg (N := 1) ?hd (cs := #[.int .i64 a0_0, .int .i64 a0_1, .int .i64 a0_2, .int .i64 a0_3, .int .i64 a0_4, .int .i64 a0_5]) (t := 31) ?hr ?_; (case hd => rfl); (case hg => rfl); (case hr => exact zqS); intro gb126 hg w15 hbox hb; have BK126 := Aside0.mk (hbox); have GW126 := Aside0.mk ((by rw [hg]; exact (below_size zq0) : w.heap.size ≤ gb126)); replace HB := Aside0.mk (below_step zq0 hb); have GE126 := GW126; clear hb hbox hg; obtain ⟨hcz16_0, hcz16_1, hcz16_2, hcz16_3, hcz16_4, hcz16_5, hfz16_0, hfz16_1, hfz16_2, hfz16_3, hfz16_4, hfz16_5⟩ := bz6 BK126.out) | ((with_reducible refine gate_callee (f := 38) rfl ?_); refine goesL_ (some 5) rfl rfl Tryd.func38 (by kernel_rfl) rfl #[.int .i64 a0_0, .int .i64 1, .int .i64 999] rfl zq1 ?_; (with_reducible refine (spec_l1In.calls a0_0 1 999 true _ A2.out).mono ?_); rintro e w' ⟨rfl, ⟨nd, rfl⟩⟩; refine ⟨_, rfl, ?_⟩) | (go_at_call 38; (with_reducible refine (spec_l1In.calls a0_1 1 5 true _ A4.out).mono ?_); rintro e w' ⟨rfl, ⟨nd, rfl⟩⟩) | (go_at_call 38; (with_reducible refine (spec_l1In.calls a0_2 1 3 true _ A6.out).mono ?_); rintro e w' ⟨rfl, ⟨nd, rfl⟩⟩) | (go_at_call 38; (with_reducible refine (spec_l1In.calls a0_3 1 9 true _ A8.out).mono ?_); rintro e w' ⟨rfl, ⟨nd, rfl⟩⟩) | (go_at_call 38; (with_reducible refine (spec_l1In.calls a0_5 1 240 false _ A10.out).mono ?_); rintro e w' ⟨rfl, ⟨nd, rfl⟩⟩))
  go_ret
  exact ⟨zqE, zq31⟩
 subst c11
 have H1 : ((spec_l1In.f a0_4 0 (wrap64 (a0_5 - 1))).bind fun t132 => (some t132)) = some r := by rw [if_pos rfl] at H; exact H
 clear H
 have H := H1
 clear H1
 replace H := Option.bind_eq_some_iff.mp H
 obtain ⟨t132, A120, H⟩ := H
 replace H : (some t132) = some r := H
 have A12 := Aside0.mk A120
 clear A120
 obtain rfl := Option.some.inj H
 go_enter Tryd.func24, Tryd.ntmps24
 go_wp2_with (first | ((with_reducible refine gate_dst (N := 1) rfl ?_); refine box_event ?hg (N := 1) ?hd (cs := #[.int .i64 a0_0, .int .i64 a0_1, .int .i64 a0_2, .int .i64 a0_3, .int .i64 a0_4, .int .i64 a0_5]) (t := 31) ?hr ?_; (case hd => rfl); (case hg => rfl); (case hr => exact zqS); intro gb126 hg w13 hbox hb; have BK126 := Aside0.mk (hbox); have GW126 := Aside0.mk ((by rw [hg]; exact (below_size zq0) : w.heap.size ≤ gb126)); replace HB := Aside0.mk (below_step zq0 hb); have GE126 := GW126; clear hb hbox hg; obtain ⟨hcz14_0, hcz14_1, hcz14_2, hcz14_3, hcz14_4, hcz14_5, hfz14_0, hfz14_1, hfz14_2, hfz14_3, hfz14_4, hfz14_5⟩ := bz6 BK126.out) | ((with_reducible refine gate_callee (f := 38) rfl ?_); refine goesL_ (some 5) rfl rfl Tryd.func38 (by kernel_rfl) rfl #[.int .i64 a0_0, .int .i64 1, .int .i64 999] rfl zq1 ?_; (with_reducible refine (spec_l1In.calls a0_0 1 999 true _ A2.out).mono ?_); rintro e w' ⟨rfl, ⟨nd, rfl⟩⟩; refine ⟨_, rfl, ?_⟩) | (go_at_call 38; (with_reducible refine (spec_l1In.calls a0_1 1 5 true _ A4.out).mono ?_); rintro e w' ⟨rfl, ⟨nd, rfl⟩⟩) | (go_at_call 38; (with_reducible refine (spec_l1In.calls a0_2 1 3 true _ A6.out).mono ?_); rintro e w' ⟨rfl, ⟨nd, rfl⟩⟩) | (go_at_call 38; (with_reducible refine (spec_l1In.calls a0_3 1 9 true _ A8.out).mono ?_); rintro e w' ⟨rfl, ⟨nd, rfl⟩⟩) | (go_at_call 38; (with_reducible refine (spec_l1In.calls a0_5 1 240 true _ A10.out).mono ?_); rintro e w' ⟨rfl, ⟨nd, rfl⟩⟩) | (go_at_call 38; (with_reducible refine (spec_l1In.calls a0_4 0 (wrap64 (a0_5 - 1)) t132 _ A12.out).mono ?_); rintro e w' ⟨rfl, ⟨nd, rfl⟩⟩))
 go_ret
 exact ⟨zqE, zq31⟩
end Go.Proofs.YtleadjbfcenofaaDoor.Q
/- A region that draws its order: what is held may grow on the way (a cell that a call of the region has made). -/
namespace Go.Proofs.YtleadjbfcenofaaDoor.Q
open Go.Proofs.YtleadjbfcenofaaDoorW.PrintLast
set_option linter.unusedVariables false
theorem wpAnyLast_more {P : Program} {md : Region.Mode} {ops : Array Oper} {Q : Exit → Act → World → Prop} {S S0 : World → Prop} (hS : ∀ w, S w → S0 w) :
    ∀ (n : Nat) (l : Array Bool) (a : Act) (w : World), S w → wpAnyLast P md ops Q S [] n l a w → wpAnyLast P md ops Q S0 [] n l a w
  | 0, _, _, _, _, h => h
  | n + 1, l, a, w, hw, h => ⟨h.1, fun i hi => wpOp_mono (fun a' w' h' => ⟨fun _ _ => hS _ (h'.1 List.not_mem_nil hw), wpAnyLast_more hS n _ a' w' (h'.1 List.not_mem_nil hw) h'.2⟩) (h.2 i hi)⟩
theorem more_ {P : Program} {md : Region.Mode} {ops : Array Oper} {Q : Exit → Act → World → Prop} {S0 : World → Prop} (S : World → Prop) {n : Nat} {l : Array Bool} {a : Act} {w : World} (hS : ∀ w, S w → S0 w) (hw : S w)
    (h : S w → wpAnyLast P md ops Q S [] n l a w) : wpAnyLast P md ops Q S0 [] n l a w := wpAnyLast_more hS n l a w hw (h hw)
end Go.Proofs.YtleadjbfcenofaaDoor.Q
namespace Go.Proofs.YtleadjbfcenofaaDoor.Q
open Go.RowKit Go.Proofs.YtleadjbfcenofaaDoorW.PrintWords Go.Proofs.YtleadjbfcenofaaDoorW.PrintLast Go.Proofs.YtleadjbfcenofaaDoorW.PrintMore
attribute [local go_sem] max2_int min2_int max_two min_two max_three min_three max_four min_four   -- for this text's walks alone
set_option linter.unusedVariables false
set_option linter.unusedSimpArgs false

/-! ### spec_l16Text: function 25 -/
def spec_l16Text.f (k : Nat) (a0_0 : Int) (a0_1 : Int) (a0_2 : Int) (a0_3 : Int) (a0_4 : Int) (a0_5 : Int) : Option (ByteArray) := (spec_l16Levels.f).bind fun t134 => (if 0 ≤ a0_2 then (if a0_2 < (t134.length : Int) then (if (rdOf ByteArray.empty t134 a0_2).size + 12 ≤ 9223372036854775807 then ((spec_l16Topics.f).bind fun t138 => (if 0 ≤ a0_1 then (if a0_1 < (t138.length : Int) then (if ((rdOf ByteArray.empty t134 a0_2) ++ (⟨#[32, 119, 97, 114, 110, 105, 110, 103, 32, 111, 102, 32]⟩ : ByteArray)).size + (rdOf ByteArray.empty t138 a0_1).size ≤ 9223372036854775807 then (if (((rdOf ByteArray.empty t134 a0_2) ++ (⟨#[32, 119, 97, 114, 110, 105, 110, 103, 32, 111, 102, 32]⟩ : ByteArray)) ++ (rdOf ByteArray.empty t138 a0_1)).size + 10 ≤ 9223372036854775807 then ((spec_l1Num.f k a0_3).bind fun t142 => (if ((((rdOf ByteArray.empty t134 a0_2) ++ (⟨#[32, 119, 97, 114, 110, 105, 110, 103, 32, 111, 102, 32]⟩ : ByteArray)) ++ (rdOf ByteArray.empty t138 a0_1)) ++ (⟨#[32, 102, 111, 114, 32, 97, 114, 101, 97, 32]⟩ : ByteArray)).size + t142.size ≤ 9223372036854775807 then (if (((((rdOf ByteArray.empty t134 a0_2) ++ (⟨#[32, 119, 97, 114, 110, 105, 110, 103, 32, 111, 102, 32]⟩ : ByteArray)) ++ (rdOf ByteArray.empty t138 a0_1)) ++ (⟨#[32, 102, 111, 114, 32, 97, 114, 101, 97, 32]⟩ : ByteArray)) ++ t142).size + 6 ≤ 9223372036854775807 then ((spec_l16Hour.f k a0_4).bind fun t143 => (if ((((((rdOf ByteArray.empty t134 a0_2) ++ (⟨#[32, 119, 97, 114, 110, 105, 110, 103, 32, 111, 102, 32]⟩ : ByteArray)) ++ (rdOf ByteArray.empty t138 a0_1)) ++ (⟨#[32, 102, 111, 114, 32, 97, 114, 101, 97, 32]⟩ : ByteArray)) ++ t142) ++ (⟨#[32, 102, 114, 111, 109, 32]⟩ : ByteArray)).size + t143.size ≤ 9223372036854775807 then (if (((((((rdOf ByteArray.empty t134 a0_2) ++ (⟨#[32, 119, 97, 114, 110, 105, 110, 103, 32, 111, 102, 32]⟩ : ByteArray)) ++ (rdOf ByteArray.empty t138 a0_1)) ++ (⟨#[32, 102, 111, 114, 32, 97, 114, 101, 97, 32]⟩ : ByteArray)) ++ t142) ++ (⟨#[32, 102, 114, 111, 109, 32]⟩ : ByteArray)) ++ t143).size + 7 ≤ 9223372036854775807 then ((spec_l16Hour.f k a0_5).bind fun t144 => (if ((((((((rdOf ByteArray.empty t134 a0_2) ++ (⟨#[32, 119, 97, 114, 110, 105, 110, 103, 32, 111, 102, 32]⟩ : ByteArray)) ++ (rdOf ByteArray.empty t138 a0_1)) ++ (⟨#[32, 102, 111, 114, 32, 97, 114, 101, 97, 32]⟩ : ByteArray)) ++ t142) ++ (⟨#[32, 102, 114, 111, 109, 32]⟩ : ByteArray)) ++ t143) ++ (⟨#[32, 117, 110, 116, 105, 108, 32]⟩ : ByteArray)).size + t144.size ≤ 9223372036854775807 then (if (((((((((rdOf ByteArray.empty t134 a0_2) ++ (⟨#[32, 119, 97, 114, 110, 105, 110, 103, 32, 111, 102, 32]⟩ : ByteArray)) ++ (rdOf ByteArray.empty t138 a0_1)) ++ (⟨#[32, 102, 111, 114, 32, 97, 114, 101, 97, 32]⟩ : ByteArray)) ++ t142) ++ (⟨#[32, 102, 114, 111, 109, 32]⟩ : ByteArray)) ++ t143) ++ (⟨#[32, 117, 110, 116, 105, 108, 32]⟩ : ByteArray)) ++ t144).size + 6 ≤ 9223372036854775807 then ((spec_l1Num.f k a0_0).bind fun t145 => (if ((((((((((rdOf ByteArray.empty t134 a0_2) ++ (⟨#[32, 119, 97, 114, 110, 105, 110, 103, 32, 111, 102, 32]⟩ : ByteArray)) ++ (rdOf ByteArray.empty t138 a0_1)) ++ (⟨#[32, 102, 111, 114, 32, 97, 114, 101, 97, 32]⟩ : ByteArray)) ++ t142) ++ (⟨#[32, 102, 114, 111, 109, 32]⟩ : ByteArray)) ++ t143) ++ (⟨#[32, 117, 110, 116, 105, 108, 32]⟩ : ByteArray)) ++ t144) ++ (⟨#[32, 40, 110, 111, 46, 32]⟩ : ByteArray)).size + t145.size ≤ 9223372036854775807 then (if (((((((((((rdOf ByteArray.empty t134 a0_2) ++ (⟨#[32, 119, 97, 114, 110, 105, 110, 103, 32, 111, 102, 32]⟩ : ByteArray)) ++ (rdOf ByteArray.empty t138 a0_1)) ++ (⟨#[32, 102, 111, 114, 32, 97, 114, 101, 97, 32]⟩ : ByteArray)) ++ t142) ++ (⟨#[32, 102, 114, 111, 109, 32]⟩ : ByteArray)) ++ t143) ++ (⟨#[32, 117, 110, 116, 105, 108, 32]⟩ : ByteArray)) ++ t144) ++ (⟨#[32, 40, 110, 111, 46, 32]⟩ : ByteArray)) ++ t145).size + 2 ≤ 9223372036854775807 then (some ((((((((((((rdOf ByteArray.empty t134 a0_2) ++ (⟨#[32, 119, 97, 114, 110, 105, 110, 103, 32, 111, 102, 32]⟩ : ByteArray)) ++ (rdOf ByteArray.empty t138 a0_1)) ++ (⟨#[32, 102, 111, 114, 32, 97, 114, 101, 97, 32]⟩ : ByteArray)) ++ t142) ++ (⟨#[32, 102, 114, 111, 109, 32]⟩ : ByteArray)) ++ t143) ++ (⟨#[32, 117, 110, 116, 105, 108, 32]⟩ : ByteArray)) ++ t144) ++ (⟨#[32, 40, 110, 111, 46, 32]⟩ : ByteArray)) ++ t145) ++ (⟨#[41, 46]⟩ : ByteArray))) else (none)) else (none))) else (none)) else (none))) else (none)) else (none))) else (none)) else (none))) else (none)) else (none)) else (none)) else (none))) else (none)) else (none)) else (none))
def spec_l16Text.T1 : Bool × List (List Nat × List Nat) := (true, [([], []), ([], []), ([1], [1]), ([0, 2], [0, 2]), ([3], [3]), ([4], [4]), ([0], []), ([], []), ([7], [7]), ([6, 8], [6, 8]), ([9], [9]), ([5, 10], [5, 10]), ([11], [11]), ([], []), ([13], [13]), ([14, 6], [14]), ([12, 15], [12, 15]), ([16], [16]), ([], []), ([18], [18]), ([19, 15], [19]), ([17, 20], [17, 20]), ([21], [21]), ([], []), ([23], [23]), ([24, 20], [24]), ([22, 25], [22, 25]), ([26], [26]), ([], []), ([28], [28]), ([29, 25], [29]), ([27, 30], [27, 30]), ([31], [31]), ([32, 30, 0, 1, 2, 3, 4, 5, 6, 7, 8, 9, 10, 11, 12, 13, 14, 15, 16, 17, 18, 19, 20, 21, 22, 23, 24, 25, 26, 27, 28, 29, 30, 31, 32], [32])])
def spec_l16Text.B1 : List Nat := [0, 0, 2, 7, 15, 31, 1, 0, 128, 449, 961, 2047, 4095, 0, 8192, 24641, 65535, 131071, 0, 262144, 843841, 2097151, 4194303, 0, 8388608, 27058241, 67108863, 134217727, 0, 268435456, 865919041, 2147483647, 4294967295, 8589934591]
theorem spec_l16Text.tab1 : rtab .any (opsOf Tryd.f25 1) = spec_l16Text.T1 := by kernel_rfl
theorem spec_l16Text.bits1 : waitsOk spec_l16Text.T1.2 spec_l16Text.B1 = true := by kernel_rfl
set_option maxHeartbeats 8000000 in
set_option maxRecDepth 100000 in
theorem spec_l16Text.calls (k : Nat) (a0_0 : Int) (a0_1 : Int) (a0_2 : Int) (a0_3 : Int) (a0_4 : Int) (a0_5 : Int) (r : ByteArray) (w : World) (h : spec_l16Text.f k a0_0 a0_1 a0_2 a0_3 a0_4 a0_5 = some r) :
  Calls Tryd.prog 25 #[.agg #[.int .i64 a0_0, .int .i64 a0_1, .int .i64 a0_2, .int .i64 a0_3, .int .i64 a0_4, .int .i64 a0_5]] w fun e w' => e = .returned (.string r) ∧ Below w.heap.size w w' := by
 have hu31 := Tryd.underlying31
 have HB := Aside0.mk (Below.refl w.heap.size w)
 have H : ((spec_l16Levels.f).bind fun t134 => (if 0 ≤ a0_2 then (if a0_2 < (t134.length : Int) then (if (rdOf ByteArray.empty t134 a0_2).size + 12 ≤ 9223372036854775807 then ((spec_l16Topics.f).bind fun t138 => (if 0 ≤ a0_1 then (if a0_1 < (t138.length : Int) then (if ((rdOf ByteArray.empty t134 a0_2) ++ (⟨#[32, 119, 97, 114, 110, 105, 110, 103, 32, 111, 102, 32]⟩ : ByteArray)).size + (rdOf ByteArray.empty t138 a0_1).size ≤ 9223372036854775807 then (if (((rdOf ByteArray.empty t134 a0_2) ++ (⟨#[32, 119, 97, 114, 110, 105, 110, 103, 32, 111, 102, 32]⟩ : ByteArray)) ++ (rdOf ByteArray.empty t138 a0_1)).size + 10 ≤ 9223372036854775807 then ((spec_l1Num.f k a0_3).bind fun t142 => (if ((((rdOf ByteArray.empty t134 a0_2) ++ (⟨#[32, 119, 97, 114, 110, 105, 110, 103, 32, 111, 102, 32]⟩ : ByteArray)) ++ (rdOf ByteArray.empty t138 a0_1)) ++ (⟨#[32, 102, 111, 114, 32, 97, 114, 101, 97, 32]⟩ : ByteArray)).size + t142.size ≤ 9223372036854775807 then (if (((((rdOf ByteArray.empty t134 a0_2) ++ (⟨#[32, 119, 97, 114, 110, 105, 110, 103, 32, 111, 102, 32]⟩ : ByteArray)) ++ (rdOf ByteArray.empty t138 a0_1)) ++ (⟨#[32, 102, 111, 114, 32, 97, 114, 101, 97, 32]⟩ : ByteArray)) ++ t142).size + 6 ≤ 9223372036854775807 then ((spec_l16Hour.f k a0_4).bind fun t143 => (if ((((((rdOf ByteArray.empty t134 a0_2) ++ (⟨#[32, 119, 97, 114, 110, 105, 110, 103, 32, 111, 102, 32]⟩ : ByteArray)) ++ (rdOf ByteArray.empty t138 a0_1)) ++ (⟨#[32, 102, 111, 114, 32, 97, 114, 101, 97, 32]⟩ : ByteArray)) ++ t142) ++ (⟨#[32, 102, 114, 111, 109, 32]⟩ : ByteArray)).size + t143.size ≤ 9223372036854775807 then (if (((((((rdOf ByteArray.empty t134 a0_2) ++ (⟨#[32, 119, 97, 114, 110, 105, 110, 103, 32, 111, 102, 32]⟩ : ByteArray)) ++ (rdOf ByteArray.empty t138 a0_1)) ++ (⟨#[32, 102, 111, 114, 32, 97, 114, 101, 97, 32]⟩ : ByteArray)) ++ t142) ++ (⟨#[32, 102, 114, 111, 109, 32]⟩ : ByteArray)) ++ t143).size + 7 ≤ 9223372036854775807 then ((spec_l16Hour.f k a0_5).bind fun t144 => (if ((((((((rdOf ByteArray.empty t134 a0_2) ++ (⟨#[32, 119, 97, 114, 110, 105, 110, 103, 32, 111, 102, 32]⟩ : ByteArray)) ++ (rdOf ByteArray.empty t138 a0_1)) ++ (⟨#[32, 102, 111, 114, 32, 97, 114, 101, 97, 32]⟩ : ByteArray)) ++ t142) ++ (⟨#[32, 102, 114, 111, 109, 32]⟩ : ByteArray)) ++ t143) ++ (⟨#[32, 117, 110, 116, 105, 108, 32]⟩ : ByteArray)).size + t144.size ≤ 9223372036854775807 then (if (((((((((rdOf ByteArray.empty t134 a0_2) ++ (⟨#[32, 119, 97, 114, 110, 105, 110, 103, 32, 111, 102, 32]⟩ : ByteArray)) ++ (rdOf ByteArray.empty t138 a0_1)) ++ (⟨#[32, 102, 111, 114, 32, 97, 114, 101, 97, 32]⟩ : ByteArray)) ++ t142) ++ (⟨#[32, 102, 114, 111, 109, 32]⟩ : ByteArray)) ++ t143) ++ (⟨#[32, 117, 110, 116, 105, 108, 32]⟩ : ByteArray)) ++ t144).size + 6 ≤ 9223372036854775807 then ((spec_l1Num.f k a0_0).bind fun t145 => (if ((((((((((rdOf ByteArray.empty t134 a0_2) ++ (⟨#[32, 119, 97, 114, 110, 105, 110, 103, 32, 111, 102, 32]⟩ : ByteArray)) ++ (rdOf ByteArray.empty t138 a0_1)) ++ (⟨#[32, 102, 111, 114, 32, 97, 114, 101, 97, 32]⟩ : ByteArray)) ++ t142) ++ (⟨#[32, 102, 114, 111, 109, 32]⟩ : ByteArray)) ++ t143) ++ (⟨#[32, 117, 110, 116, 105, 108, 32]⟩ : ByteArray)) ++ t144) ++ (⟨#[32, 40, 110, 111, 46, 32]⟩ : ByteArray)).size + t145.size ≤ 9223372036854775807 then (if (((((((((((rdOf ByteArray.empty t134 a0_2) ++ (⟨#[32, 119, 97, 114, 110, 105, 110, 103, 32, 111, 102, 32]⟩ : ByteArray)) ++ (rdOf ByteArray.empty t138 a0_1)) ++ (⟨#[32, 102, 111, 114, 32, 97, 114, 101, 97, 32]⟩ : ByteArray)) ++ t142) ++ (⟨#[32, 102, 114, 111, 109, 32]⟩ : ByteArray)) ++ t143) ++ (⟨#[32, 117, 110, 116, 105, 108, 32]⟩ : ByteArray)) ++ t144) ++ (⟨#[32, 40, 110, 111, 46, 32]⟩ : ByteArray)) ++ t145).size + 2 ≤ 9223372036854775807 then (some ((((((((((((rdOf ByteArray.empty t134 a0_2) ++ (⟨#[32, 119, 97, 114, 110, 105, 110, 103, 32, 111, 102, 32]⟩ : ByteArray)) ++ (rdOf ByteArray.empty t138 a0_1)) ++ (⟨#[32, 102, 111, 114, 32, 97, 114, 101, 97, 32]⟩ : ByteArray)) ++ t142) ++ (⟨#[32, 102, 114, 111, 109, 32]⟩ : ByteArray)) ++ t143) ++ (⟨#[32, 117, 110, 116, 105, 108, 32]⟩ : ByteArray)) ++ t144) ++ (⟨#[32, 40, 110, 111, 46, 32]⟩ : ByteArray)) ++ t145) ++ (⟨#[41, 46]⟩ : ByteArray))) else (none)) else (none))) else (none)) else (none))) else (none)) else (none))) else (none)) else (none))) else (none)) else (none)) else (none)) else (none))) else (none)) else (none)) else (none))) = some r := h
 clear h
 replace H := Option.bind_eq_some_iff.mp H
 obtain ⟨t134, A20, H⟩ := H
 replace H : (if 0 ≤ a0_2 then (if a0_2 < (t134.length : Int) then (if (rdOf ByteArray.empty t134 a0_2).size + 12 ≤ 9223372036854775807 then ((spec_l16Topics.f).bind fun t138 => (if 0 ≤ a0_1 then (if a0_1 < (t138.length : Int) then (if ((rdOf ByteArray.empty t134 a0_2) ++ (⟨#[32, 119, 97, 114, 110, 105, 110, 103, 32, 111, 102, 32]⟩ : ByteArray)).size + (rdOf ByteArray.empty t138 a0_1).size ≤ 9223372036854775807 then (if (((rdOf ByteArray.empty t134 a0_2) ++ (⟨#[32, 119, 97, 114, 110, 105, 110, 103, 32, 111, 102, 32]⟩ : ByteArray)) ++ (rdOf ByteArray.empty t138 a0_1)).size + 10 ≤ 9223372036854775807 then ((spec_l1Num.f k a0_3).bind fun t142 => (if ((((rdOf ByteArray.empty t134 a0_2) ++ (⟨#[32, 119, 97, 114, 110, 105, 110, 103, 32, 111, 102, 32]⟩ : ByteArray)) ++ (rdOf ByteArray.empty t138 a0_1)) ++ (⟨#[32, 102, 111, 114, 32, 97, 114, 101, 97, 32]⟩ : ByteArray)).size + t142.size ≤ 9223372036854775807 then (if (((((rdOf ByteArray.empty t134 a0_2) ++ (⟨#[32, 119, 97, 114, 110, 105, 110, 103, 32, 111, 102, 32]⟩ : ByteArray)) ++ (rdOf ByteArray.empty t138 a0_1)) ++ (⟨#[32, 102, 111, 114, 32, 97, 114, 101, 97, 32]⟩ : ByteArray)) ++ t142).size + 6 ≤ 9223372036854775807 then ((spec_l16Hour.f k a0_4).bind fun t143 => (if ((((((rdOf ByteArray.empty t134 a0_2) ++ (⟨#[32, 119, 97, 114, 110, 105, 110, 103, 32, 111, 102, 32]⟩ : ByteArray)) ++ (rdOf ByteArray.empty t138 a0_1)) ++ (⟨#[32, 102, 111, 114, 32, 97, 114, 101, 97, 32]⟩ : ByteArray)) ++ t142) ++ (⟨#[32, 102, 114, 111, 109, 32]⟩ : ByteArray)).size + t143.size ≤ 9223372036854775807 then (if (((((((rdOf ByteArray.empty t134 a0_2) ++ (⟨#[32, 119, 97, 114, 110, 105, 110, 103, 32, 111, 102, 32]⟩ : ByteArray)) ++ (rdOf ByteArray.empty t138 a0_1)) ++ (⟨#[32, 102, 111, 114, 32, 97, 114, 101, 97, 32]⟩ : ByteArray)) ++ t142) ++ (⟨#[32, 102, 114, 111, 109, 32]⟩ : ByteArray)) ++ t143).size + 7 ≤ 9223372036854775807 then ((spec_l16Hour.f k a0_5).bind fun t144 => (if ((((((((rdOf ByteArray.empty t134 a0_2) ++ (⟨#[32, 119, 97, 114, 110, 105, 110, 103, 32, 111, 102, 32]⟩ : ByteArray)) ++ (rdOf ByteArray.empty t138 a0_1)) ++ (⟨#[32, 102, 111, 114, 32, 97, 114, 101, 97, 32]⟩ : ByteArray)) ++ t142) ++ (⟨#[32, 102, 114, 111, 109, 32]⟩ : ByteArray)) ++ t143) ++ (⟨#[32, 117, 110, 116, 105, 108, 32]⟩ : ByteArray)).size + t144.size ≤ 9223372036854775807 then (if (((((((((rdOf ByteArray.empty t134 a0_2) ++ (⟨#[32, 119, 97, 114, 110, 105, 110, 103, 32, 111, 102, 32]⟩ : ByteArray)) ++ (rdOf ByteArray.empty t138 a0_1)) ++ (⟨#[32, 102, 111, 114, 32, 97, 114, 101, 97, 32]⟩ : ByteArray)) ++ t142) ++ (⟨#[32, 102, 114, 111, 109, 32]⟩ : ByteArray)) ++ t143) ++ (⟨#[32, 117, 110, 116, 105, 108, 32]⟩ : ByteArray)) ++ t144).size + 6 ≤ 9223372036854775807 then ((spec_l1Num.f k a0_0).bind fun t145 => (if ((((((((((rdOf ByteArray.empty t134 a0_2) ++ (⟨#[32, 119, 97, 114, 110, 105, 110, 103, 32, 111, 102, 32]⟩ : ByteArray)) ++ (rdOf ByteArray.empty t138 a0_1)) ++ (⟨#[32, 102, 111, 114, 32, 97, 114, 101, 97, 32]⟩ : ByteArray)) ++ t142) ++ (⟨#[32, 102, 114, 111, 109, 32]⟩ : ByteArray)) ++ t143) ++ (⟨#[32, 117, 110, 116, 105, 108, 32]⟩ : ByteArray)) ++ t144) ++ (⟨#[32, 40, 110, 111, 46, 32]⟩ : ByteArray)).size + t145.size ≤ 9223372036854775807 then (if (((((((((((rdOf ByteArray.empty t134 a0_2) ++ (⟨#[32, 119, 97, 114, 110, 105, 110, 103, 32, 111, 102, 32]⟩ : ByteArray)) ++ (rdOf ByteArray.empty t138 a0_1)) ++ (⟨#[32, 102, 111, 114, 32, 97, 114, 101, 97, 32]⟩ : ByteArray)) ++ t142) ++ (⟨#[32, 102, 114, 111, 109, 32]⟩ : ByteArray)) ++ t143) ++ (⟨#[32, 117, 110, 116, 105, 108, 32]⟩ : ByteArray)) ++ t144) ++ (⟨#[32, 40, 110, 111, 46, 32]⟩ : ByteArray)) ++ t145).size + 2 ≤ 9223372036854775807 then (some ((((((((((((rdOf ByteArray.empty t134 a0_2) ++ (⟨#[32, 119, 97, 114, 110, 105, 110, 103, 32, 111, 102, 32]⟩ : ByteArray)) ++ (rdOf ByteArray.empty t138 a0_1)) ++ (⟨#[32, 102, 111, 114, 32, 97, 114, 101, 97, 32]⟩ : ByteArray)) ++ t142) ++ (⟨#[32, 102, 114, 111, 109, 32]⟩ : ByteArray)) ++ t143) ++ (⟨#[32, 117, 110, 116, 105, 108, 32]⟩ : ByteArray)) ++ t144) ++ (⟨#[32, 40, 110, 111, 46, 32]⟩ : ByteArray)) ++ t145) ++ (⟨#[41, 46]⟩ : ByteArray))) else (none)) else (none))) else (none)) else (none))) else (none)) else (none))) else (none)) else (none))) else (none)) else (none)) else (none)) else (none))) else (none)) else (none)) else (none)) = some r := H
 have A2 := Aside0.mk A20
 clear A20
 by_cases c3 : 0 ≤ a0_2
 case neg =>
  rw [if_neg c3] at H
  exact absurd H (by simp)
 rw [if_pos c3] at H
 have c3b0 : decide (0 ≤ a0_2) = true := decide_eq_true c3
 clear c3
 by_cases c4 : a0_2 < (t134.length : Int)
 case neg =>
  rw [if_neg c4] at H
  exact absurd H (by simp)
 rw [if_pos c4] at H
 have c4b0 : decide (a0_2 < (t134.length : Int)) = true := decide_eq_true c4
 clear c4
 by_cases c5 : (rdOf ByteArray.empty t134 a0_2).size + 12 ≤ 9223372036854775807
 case neg =>
  rw [if_neg c5] at H
  exact absurd H (by simp)
 rw [if_pos c5] at H
 have c5b0 := eq_true c5
 have c5b1 : decide ((rdOf ByteArray.empty t134 a0_2).size + 12 ≤ 9223372036854775807) = true := decide_eq_true c5
 try have c5b2 : (9223372036854775807 < (rdOf ByteArray.empty t134 a0_2).size + 12) = False := eq_false (Nat.not_lt.2 c5)
 replace H := Option.bind_eq_some_iff.mp H
 obtain ⟨t138, A60, H⟩ := H
 replace H : (if 0 ≤ a0_1 then (if a0_1 < (t138.length : Int) then (if ((rdOf ByteArray.empty t134 a0_2) ++ (⟨#[32, 119, 97, 114, 110, 105, 110, 103, 32, 111, 102, 32]⟩ : ByteArray)).size + (rdOf ByteArray.empty t138 a0_1).size ≤ 9223372036854775807 then (if (((rdOf ByteArray.empty t134 a0_2) ++ (⟨#[32, 119, 97, 114, 110, 105, 110, 103, 32, 111, 102, 32]⟩ : ByteArray)) ++ (rdOf ByteArray.empty t138 a0_1)).size + 10 ≤ 9223372036854775807 then ((spec_l1Num.f k a0_3).bind fun t142 => (if ((((rdOf ByteArray.empty t134 a0_2) ++ (⟨#[32, 119, 97, 114, 110, 105, 110, 103, 32, 111, 102, 32]⟩ : ByteArray)) ++ (rdOf ByteArray.empty t138 a0_1)) ++ (⟨#[32, 102, 111, 114, 32, 97, 114, 101, 97, 32]⟩ : ByteArray)).size + t142.size ≤ 9223372036854775807 then (if (((((rdOf ByteArray.empty t134 a0_2) ++ (⟨#[32, 119, 97, 114, 110, 105, 110, 103, 32, 111, 102, 32]⟩ : ByteArray)) ++ (rdOf ByteArray.empty t138 a0_1)) ++ (⟨#[32, 102, 111, 114, 32, 97, 114, 101, 97, 32]⟩ : ByteArray)) ++ t142).size + 6 ≤ 9223372036854775807 then ((spec_l16Hour.f k a0_4).bind fun t143 => (if ((((((rdOf ByteArray.empty t134 a0_2) ++ (⟨#[32, 119, 97, 114, 110, 105, 110, 103, 32, 111, 102, 32]⟩ : ByteArray)) ++ (rdOf ByteArray.empty t138 a0_1)) ++ (⟨#[32, 102, 111, 114, 32, 97, 114, 101, 97, 32]⟩ : ByteArray)) ++ t142) ++ (⟨#[32, 102, 114, 111, 109, 32]⟩ : ByteArray)).size + t143.size ≤ 9223372036854775807 then (if (((((((rdOf ByteArray.empty t134 a0_2) ++ (⟨#[32, 119, 97, 114, 110, 105, 110, 103, 32, 111, 102, 32]⟩ : ByteArray)) ++ (rdOf ByteArray.empty t138 a0_1)) ++ (⟨#[32, 102, 111, 114, 32, 97, 114, 101, 97, 32]⟩ : ByteArray)) ++ t142) ++ (⟨#[32, 102, 114, 111, 109, 32]⟩ : ByteArray)) ++ t143).size + 7 ≤ 9223372036854775807 then ((spec_l16Hour.f k a0_5).bind fun t144 => (if ((((((((rdOf ByteArray.empty t134 a0_2) ++ (⟨#[32, 119, 97, 114, 110, 105, 110, 103, 32, 111, 102, 32]⟩ : ByteArray)) ++ (rdOf ByteArray.empty t138 a0_1)) ++ (⟨#[32, 102, 111, 114, 32, 97, 114, 101, 97, 32]⟩ : ByteArray)) ++ t142) ++ (⟨#[32, 102, 114, 111, 109, 32]⟩ : ByteArray)) ++ t143) ++ (⟨#[32, 117, 110, 116, 105, 108, 32]⟩ : ByteArray)).size + t144.size ≤ 9223372036854775807 then (if (((((((((rdOf ByteArray.empty t134 a0_2) ++ (⟨#[32, 119, 97, 114, 110, 105, 110, 103, 32, 111, 102, 32]⟩ : ByteArray)) ++ (rdOf ByteArray.empty t138 a0_1)) ++ (⟨#[32, 102, 111, 114, 32, 97, 114, 101, 97, 32]⟩ : ByteArray)) ++ t142) ++ (⟨#[32, 102, 114, 111, 109, 32]⟩ : ByteArray)) ++ t143) ++ (⟨#[32, 117, 110, 116, 105, 108, 32]⟩ : ByteArray)) ++ t144).size + 6 ≤ 9223372036854775807 then ((spec_l1Num.f k a0_0).bind fun t145 => (if ((((((((((rdOf ByteArray.empty t134 a0_2) ++ (⟨#[32, 119, 97, 114, 110, 105, 110, 103, 32, 111, 102, 32]⟩ : ByteArray)) ++ (rdOf ByteArray.empty t138 a0_1)) ++ (⟨#[32, 102, 111, 114, 32, 97, 114, 101, 97, 32]⟩ : ByteArray)) ++ t142) ++ (⟨#[32, 102, 114, 111, 109, 32]⟩ : ByteArray)) ++ t143) ++ (⟨#[32, 117, 110, 116, 105, 108, 32]⟩ : ByteArray)) ++ t144) ++ (⟨#[32, 40, 110, 111, 46, 32]⟩ : ByteArray)).size + t145.size ≤ 9223372036854775807 then (if (((((((((((rdOf ByteArray.empty t134 a0_2) ++ (⟨#[32, 119, 97, 114, 110, 105, 110, 103, 32, 111, 102, 32]⟩ : ByteArray)) ++ (rdOf ByteArray.empty t138 a0_1)) ++ (⟨#[32, 102, 111, 114, 32, 97, 114, 101, 97, 32]⟩ : ByteArray)) ++ t142) ++ (⟨#[32, 102, 114, 111, 109, 32]⟩ : ByteArray)) ++ t143) ++ (⟨#[32, 117, 110, 116, 105, 108, 32]⟩ : ByteArray)) ++ t144) ++ (⟨#[32, 40, 110, 111, 46, 32]⟩ : ByteArray)) ++ t145).size + 2 ≤ 9223372036854775807 then (some ((((((((((((rdOf ByteArray.empty t134 a0_2) ++ (⟨#[32, 119, 97, 114, 110, 105, 110, 103, 32, 111, 102, 32]⟩ : ByteArray)) ++ (rdOf ByteArray.empty t138 a0_1)) ++ (⟨#[32, 102, 111, 114, 32, 97, 114, 101, 97, 32]⟩ : ByteArray)) ++ t142) ++ (⟨#[32, 102, 114, 111, 109, 32]⟩ : ByteArray)) ++ t143) ++ (⟨#[32, 117, 110, 116, 105, 108, 32]⟩ : ByteArray)) ++ t144) ++ (⟨#[32, 40, 110, 111, 46, 32]⟩ : ByteArray)) ++ t145) ++ (⟨#[41, 46]⟩ : ByteArray))) else (none)) else (none))) else (none)) else (none))) else (none)) else (none))) else (none)) else (none))) else (none)) else (none)) else (none)) else (none)) = some r := H
 have A6 := Aside0.mk A60
 clear A60
 by_cases c7 : 0 ≤ a0_1
 case neg =>
  rw [if_neg c7] at H
  exact absurd H (by simp)
 rw [if_pos c7] at H
 have c7b0 : decide (0 ≤ a0_1) = true := decide_eq_true c7
 clear c7
 by_cases c8 : a0_1 < (t138.length : Int)
 case neg =>
  rw [if_neg c8] at H
  exact absurd H (by simp)
 rw [if_pos c8] at H
 have c8b0 : decide (a0_1 < (t138.length : Int)) = true := decide_eq_true c8
 clear c8
 by_cases c9 : ((rdOf ByteArray.empty t134 a0_2) ++ (⟨#[32, 119, 97, 114, 110, 105, 110, 103, 32, 111, 102, 32]⟩ : ByteArray)).size + (rdOf ByteArray.empty t138 a0_1).size ≤ 9223372036854775807
 case neg =>
  rw [if_neg c9] at H
  exact absurd H (by simp)
 rw [if_pos c9] at H
 have c9b0 := eq_true c9
 have c9b1 : decide (((rdOf ByteArray.empty t134 a0_2) ++ (⟨#[32, 119, 97, 114, 110, 105, 110, 103, 32, 111, 102, 32]⟩ : ByteArray)).size + (rdOf ByteArray.empty t138 a0_1).size ≤ 9223372036854775807) = true := decide_eq_true c9
 try have c9b2 : (9223372036854775807 < ((rdOf ByteArray.empty t134 a0_2) ++ (⟨#[32, 119, 97, 114, 110, 105, 110, 103, 32, 111, 102, 32]⟩ : ByteArray)).size + (rdOf ByteArray.empty t138 a0_1).size) = False := eq_false (Nat.not_lt.2 c9)
 try have c9b3 : (9223372036854775807 < (rdOf ByteArray.empty t134 a0_2).size + 12 + (rdOf ByteArray.empty t138 a0_1).size) = False := eq_false (Nat.not_lt.2 (by have q_ := c9; simp only [ByteArray.size_append] at q_; exact q_))
 by_cases c10 : (((rdOf ByteArray.empty t134 a0_2) ++ (⟨#[32, 119, 97, 114, 110, 105, 110, 103, 32, 111, 102, 32]⟩ : ByteArray)) ++ (rdOf ByteArray.empty t138 a0_1)).size + 10 ≤ 9223372036854775807
 case neg =>
  rw [if_neg c10] at H
  exact absurd H (by simp)
 rw [if_pos c10] at H
 have c10b0 := eq_true c10
 have c10b1 : decide ((((rdOf ByteArray.empty t134 a0_2) ++ (⟨#[32, 119, 97, 114, 110, 105, 110, 103, 32, 111, 102, 32]⟩ : ByteArray)) ++ (rdOf ByteArray.empty t138 a0_1)).size + 10 ≤ 9223372036854775807) = true := decide_eq_true c10
 try have c10b2 : (9223372036854775807 < (((rdOf ByteArray.empty t134 a0_2) ++ (⟨#[32, 119, 97, 114, 110, 105, 110, 103, 32, 111, 102, 32]⟩ : ByteArray)) ++ (rdOf ByteArray.empty t138 a0_1)).size + 10) = False := eq_false (Nat.not_lt.2 c10)
 try have c10b3 : (9223372036854775807 < (rdOf ByteArray.empty t134 a0_2).size + 12 + (rdOf ByteArray.empty t138 a0_1).size + 10) = False := eq_false (Nat.not_lt.2 (by have q_ := c10; simp only [ByteArray.size_append] at q_; exact q_))
 replace H := Option.bind_eq_some_iff.mp H
 obtain ⟨t142, A110, H⟩ := H
 replace H : (if ((((rdOf ByteArray.empty t134 a0_2) ++ (⟨#[32, 119, 97, 114, 110, 105, 110, 103, 32, 111, 102, 32]⟩ : ByteArray)) ++ (rdOf ByteArray.empty t138 a0_1)) ++ (⟨#[32, 102, 111, 114, 32, 97, 114, 101, 97, 32]⟩ : ByteArray)).size + t142.size ≤ 9223372036854775807 then (if (((((rdOf ByteArray.empty t134 a0_2) ++ (⟨#[32, 119, 97, 114, 110, 105, 110, 103, 32, 111, 102, 32]⟩ : ByteArray)) ++ (rdOf ByteArray.empty t138 a0_1)) ++ (⟨#[32, 102, 111, 114, 32, 97, 114, 101, 97, 32]⟩ : ByteArray)) ++ t142).size + 6 ≤ 9223372036854775807 then ((spec_l16Hour.f k a0_4).bind fun t143 => (if ((((((rdOf ByteArray.empty t134 a0_2) ++ (⟨#[32, 119, 97, 114, 110, 105, 110, 103, 32, 111, 102, 32]⟩ : ByteArray)) ++ (rdOf ByteArray.empty t138 a0_1)) ++ (⟨#[32, 102, 111, 114, 32, 97, 114, 101, 97, 32]⟩ : ByteArray)) ++ t142) ++ (⟨#[32, 102, 114, 111, 109, 32]⟩ : ByteArray)).size + t143.size ≤ 9223372036854775807 then (if (((((((rdOf ByteArray.empty t134 a0_2) ++ (⟨#[32, 119, 97, 114, 110, 105, 110, 103, 32, 111, 102, 32]⟩ : ByteArray)) ++ (rdOf ByteArray.empty t138 a0_1)) ++ (⟨#[32, 102, 111, 114, 32, 97, 114, 101, 97, 32]⟩ : ByteArray)) ++ t142) ++ (⟨#[32, 102, 114, 111, 109, 32]⟩ : ByteArray)) ++ t143).size + 7 ≤ 9223372036854775807 then ((spec_l16Hour.f k a0_5).bind fun t144 => (if ((((((((rdOf ByteArray.empty t134 a0_2) ++ (⟨#[32, 119, 97, 114, 110, 105, 110, 103, 32, 111, 102, 32]⟩ : ByteArray)) ++ (rdOf ByteArray.empty t138 a0_1)) ++ (⟨#[32, 102, 111, 114, 32, 97, 114, 101, 97, 32]⟩ : ByteArray)) ++ t142) ++ (⟨#[32, 102, 114, 111, 109, 32]⟩ : ByteArray)) ++ t143) ++ (⟨#[32, 117, 110, 116, 105, 108, 32]⟩ : ByteArray)).size + t144.size ≤ 9223372036854775807 then (if (((((((((rdOf ByteArray.empty t134 a0_2) ++ (⟨#[32, 119, 97, 114, 110, 105, 110, 103, 32, 111, 102, 32]⟩ : ByteArray)) ++ (rdOf ByteArray.empty t138 a0_1)) ++ (⟨#[32, 102, 111, 114, 32, 97, 114, 101, 97, 32]⟩ : ByteArray)) ++ t142) ++ (⟨#[32, 102, 114, 111, 109, 32]⟩ : ByteArray)) ++ t143) ++ (⟨#[32, 117, 110, 116, 105, 108, 32]⟩ : ByteArray)) ++ t144).size + 6 ≤ 9223372036854775807 then ((spec_l1Num.f k a0_0).bind fun t145 => (if ((((((((((rdOf ByteArray.empty t134 a0_2) ++ (⟨#[32, 119, 97, 114, 110, 105, 110, 103, 32, 111, 102, 32]⟩ : ByteArray)) ++ (rdOf ByteArray.empty t138 a0_1)) ++ (⟨#[32, 102, 111, 114, 32, 97, 114, 101, 97, 32]⟩ : ByteArray)) ++ t142) ++ (⟨#[32, 102, 114, 111, 109, 32]⟩ : ByteArray)) ++ t143) ++ (⟨#[32, 117, 110, 116, 105, 108, 32]⟩ : ByteArray)) ++ t144) ++ (⟨#[32, 40, 110, 111, 46, 32]⟩ : ByteArray)).size + t145.size ≤ 9223372036854775807 then (if (((((((((((rdOf ByteArray.empty t134 a0_2) ++ (⟨#[32, 119, 97, 114, 110, 105, 110, 103, 32, 111, 102, 32]⟩ : ByteArray)) ++ (rdOf ByteArray.empty t138 a0_1)) ++ (⟨#[32, 102, 111, 114, 32, 97, 114, 101, 97, 32]⟩ : ByteArray)) ++ t142) ++ (⟨#[32, 102, 114, 111, 109, 32]⟩ : ByteArray)) ++ t143) ++ (⟨#[32, 117, 110, 116, 105, 108, 32]⟩ : ByteArray)) ++ t144) ++ (⟨#[32, 40, 110, 111, 46, 32]⟩ : ByteArray)) ++ t145).size + 2 ≤ 9223372036854775807 then (some ((((((((((((rdOf ByteArray.empty t134 a0_2) ++ (⟨#[32, 119, 97, 114, 110, 105, 110, 103, 32, 111, 102, 32]⟩ : ByteArray)) ++ (rdOf ByteArray.empty t138 a0_1)) ++ (⟨#[32, 102, 111, 114, 32, 97, 114, 101, 97, 32]⟩ : ByteArray)) ++ t142) ++ (⟨#[32, 102, 114, 111, 109, 32]⟩ : ByteArray)) ++ t143) ++ (⟨#[32, 117, 110, 116, 105, 108, 32]⟩ : ByteArray)) ++ t144) ++ (⟨#[32, 40, 110, 111, 46, 32]⟩ : ByteArray)) ++ t145) ++ (⟨#[41, 46]⟩ : ByteArray))) else (none)) else (none))) else (none)) else (none))) else (none)) else (none))) else (none)) else (none)) = some r := H
 have A11 := Aside0.mk A110
 clear A110
 by_cases c12 : ((((rdOf ByteArray.empty t134 a0_2) ++ (⟨#[32, 119, 97, 114, 110, 105, 110, 103, 32, 111, 102, 32]⟩ : ByteArray)) ++ (rdOf ByteArray.empty t138 a0_1)) ++ (⟨#[32, 102, 111, 114, 32, 97, 114, 101, 97, 32]⟩ : ByteArray)).size + t142.size ≤ 9223372036854775807
 case neg =>
  rw [if_neg c12] at H
  exact absurd H (by simp)
 rw [if_pos c12] at H
 have c12b0 := eq_true c12
 have c12b1 : decide (((((rdOf ByteArray.empty t134 a0_2) ++ (⟨#[32, 119, 97, 114, 110, 105, 110, 103, 32, 111, 102, 32]⟩ : ByteArray)) ++ (rdOf ByteArray.empty t138 a0_1)) ++ (⟨#[32, 102, 111, 114, 32, 97, 114, 101, 97, 32]⟩ : ByteArray)).size + t142.size ≤ 9223372036854775807) = true := decide_eq_true c12
 try have c12b2 : (9223372036854775807 < ((((rdOf ByteArray.empty t134 a0_2) ++ (⟨#[32, 119, 97, 114, 110, 105, 110, 103, 32, 111, 102, 32]⟩ : ByteArray)) ++ (rdOf ByteArray.empty t138 a0_1)) ++ (⟨#[32, 102, 111, 114, 32, 97, 114, 101, 97, 32]⟩ : ByteArray)).size + t142.size) = False := eq_false (Nat.not_lt.2 c12)
 try have c12b3 : (9223372036854775807 < (rdOf ByteArray.empty t134 a0_2).size + 12 + (rdOf ByteArray.empty t138 a0_1).size + 10 + t142.size) = False := eq_false (Nat.not_lt.2 (by have q_ := c12; simp only [ByteArray.size_append] at q_; exact q_))
 by_cases c13 : (((((rdOf ByteArray.empty t134 a0_2) ++ (⟨#[32, 119, 97, 114, 110, 105, 110, 103, 32, 111, 102, 32]⟩ : ByteArray)) ++ (rdOf ByteArray.empty t138 a0_1)) ++ (⟨#[32, 102, 111, 114, 32, 97, 114, 101, 97, 32]⟩ : ByteArray)) ++ t142).size + 6 ≤ 9223372036854775807
 case neg =>
  rw [if_neg c13] at H
  exact absurd H (by simp)
 rw [if_pos c13] at H
 have c13b0 := eq_true c13
 have c13b1 : decide ((((((rdOf ByteArray.empty t134 a0_2) ++ (⟨#[32, 119, 97, 114, 110, 105, 110, 103, 32, 111, 102, 32]⟩ : ByteArray)) ++ (rdOf ByteArray.empty t138 a0_1)) ++ (⟨#[32, 102, 111, 114, 32, 97, 114, 101, 97, 32]⟩ : ByteArray)) ++ t142).size + 6 ≤ 9223372036854775807) = true := decide_eq_true c13
 try have c13b2 : (9223372036854775807 < (((((rdOf ByteArray.empty t134 a0_2) ++ (⟨#[32, 119, 97, 114, 110, 105, 110, 103, 32, 111, 102, 32]⟩ : ByteArray)) ++ (rdOf ByteArray.empty t138 a0_1)) ++ (⟨#[32, 102, 111, 114, 32, 97, 114, 101, 97, 32]⟩ : ByteArray)) ++ t142).size + 6) = False := eq_false (Nat.not_lt.2 c13)
 try have c13b3 : (9223372036854775807 < (rdOf ByteArray.empty t134 a0_2).size + 12 + (rdOf ByteArray.empty t138 a0_1).size + 10 + t142.size + 6) = False := eq_false (Nat.not_lt.2 (by have q_ := c13; simp only [ByteArray.size_append] at q_; exact q_))
 replace H := Option.bind_eq_some_iff.mp H
 obtain ⟨t143, A140, H⟩ := H
 replace H : (if ((((((rdOf ByteArray.empty t134 a0_2) ++ (⟨#[32, 119, 97, 114, 110, 105, 110, 103, 32, 111, 102, 32]⟩ : ByteArray)) ++ (rdOf ByteArray.empty t138 a0_1)) ++ (⟨#[32, 102, 111, 114, 32, 97, 114, 101, 97, 32]⟩ : ByteArray)) ++ t142) ++ (⟨#[32, 102, 114, 111, 109, 32]⟩ : ByteArray)).size + t143.size ≤ 9223372036854775807 then (if (((((((rdOf ByteArray.empty t134 a0_2) ++ (⟨#[32, 119, 97, 114, 110, 105, 110, 103, 32, 111, 102, 32]⟩ : ByteArray)) ++ (rdOf ByteArray.empty t138 a0_1)) ++ (⟨#[32, 102, 111, 114, 32, 97, 114, 101, 97, 32]⟩ : ByteArray)) ++ t142) ++ (⟨#[32, 102, 114, 111, 109, 32]⟩ : ByteArray)) ++ t143).size + 7 ≤ 9223372036854775807 then ((spec_l16Hour.f k a0_5).bind fun t144 => (if ((((((((rdOf ByteArray.empty t134 a0_2) ++ (⟨#[32, 119, 97, 114, 110, 105, 110, 103, 32, 111, 102, 32]⟩ : ByteArray)) ++ (rdOf ByteArray.empty t138 a0_1)) ++ (⟨#[32, 102, 111, 114, 32, 97, 114, 101, 97, 32]⟩ : ByteArray)) ++ t142) ++ (⟨#[32, 102, 114, 111, 109, 32]⟩ : ByteArray)) ++ t143) ++ (⟨#[32, 117, 110, 116, 105, 108, 32]⟩ : ByteArray)).size + t144.size ≤ 9223372036854775807 then (if (((((((((rdOf ByteArray.empty t134 a0_2) ++ (⟨#[32, 119, 97, 114, 110, 105, 110, 103, 32, 111, 102, 32]⟩ : ByteArray)) ++ (rdOf ByteArray.empty t138 a0_1)) ++ (⟨#[32, 102, 111, 114, 32, 97, 114, 101, 97, 32]⟩ : ByteArray)) ++ t142) ++ (⟨#[32, 102, 114, 111, 109, 32]⟩ : ByteArray)) ++ t143) ++ (⟨#[32, 117, 110, 116, 105, 108, 32]⟩ : ByteArray)) ++ t144).size + 6 ≤ 9223372036854775807 then ((spec_l1Num.f k a0_0).bind fun t145 => (if ((((((((((rdOf ByteArray.empty t134 a0_2) ++ (⟨#[32, 119, 97, 114, 110, 105, 110, 103, 32, 111, 102, 32]⟩ : ByteArray)) ++ (rdOf ByteArray.empty t138 a0_1)) ++ (⟨#[32, 102, 111, 114, 32, 97, 114, 101, 97, 32]⟩ : ByteArray)) ++ t142) ++ (⟨#[32, 102, 114, 111, 109, 32]⟩ : ByteArray)) ++ t143) ++ (⟨#[32, 117, 110, 116, 105, 108, 32]⟩ : ByteArray)) ++ t144) ++ (⟨#[32, 40, 110, 111, 46, 32]⟩ : ByteArray)).size + t145.size ≤ 9223372036854775807 then (if (((((((((((rdOf ByteArray.empty t134 a0_2) ++ (⟨#[32, 119, 97, 114, 110, 105, 110, 103, 32, 111, 102, 32]⟩ : ByteArray)) ++ (rdOf ByteArray.empty t138 a0_1)) ++ (⟨#[32, 102, 111, 114, 32, 97, 114, 101, 97, 32]⟩ : ByteArray)) ++ t142) ++ (⟨#[32, 102, 114, 111, 109, 32]⟩ : ByteArray)) ++ t143) ++ (⟨#[32, 117, 110, 116, 105, 108, 32]⟩ : ByteArray)) ++ t144) ++ (⟨#[32, 40, 110, 111, 46, 32]⟩ : ByteArray)) ++ t145).size + 2 ≤ 9223372036854775807 then (some ((((((((((((rdOf ByteArray.empty t134 a0_2) ++ (⟨#[32, 119, 97, 114, 110, 105, 110, 103, 32, 111, 102, 32]⟩ : ByteArray)) ++ (rdOf ByteArray.empty t138 a0_1)) ++ (⟨#[32, 102, 111, 114, 32, 97, 114, 101, 97, 32]⟩ : ByteArray)) ++ t142) ++ (⟨#[32, 102, 114, 111, 109, 32]⟩ : ByteArray)) ++ t143) ++ (⟨#[32, 117, 110, 116, 105, 108, 32]⟩ : ByteArray)) ++ t144) ++ (⟨#[32, 40, 110, 111, 46, 32]⟩ : ByteArray)) ++ t145) ++ (⟨#[41, 46]⟩ : ByteArray))) else (none)) else (none))) else (none)) else (none))) else (none)) else (none)) = some r := H
 have A14 := Aside0.mk A140
 clear A140
 by_cases c15 : ((((((rdOf ByteArray.empty t134 a0_2) ++ (⟨#[32, 119, 97, 114, 110, 105, 110, 103, 32, 111, 102, 32]⟩ : ByteArray)) ++ (rdOf ByteArray.empty t138 a0_1)) ++ (⟨#[32, 102, 111, 114, 32, 97, 114, 101, 97, 32]⟩ : ByteArray)) ++ t142) ++ (⟨#[32, 102, 114, 111, 109, 32]⟩ : ByteArray)).size + t143.size ≤ 9223372036854775807
 case neg =>
  rw [if_neg c15] at H
  exact absurd H (by simp)
 rw [if_pos c15] at H
 have c15b0 := eq_true c15
 have c15b1 : decide (((((((rdOf ByteArray.empty t134 a0_2) ++ (⟨#[32, 119, 97, 114, 110, 105, 110, 103, 32, 111, 102, 32]⟩ : ByteArray)) ++ (rdOf ByteArray.empty t138 a0_1)) ++ (⟨#[32, 102, 111, 114, 32, 97, 114, 101, 97, 32]⟩ : ByteArray)) ++ t142) ++ (⟨#[32, 102, 114, 111, 109, 32]⟩ : ByteArray)).size + t143.size ≤ 9223372036854775807) = true := decide_eq_true c15
 try have c15b2 : (9223372036854775807 < ((((((rdOf ByteArray.empty t134 a0_2) ++ (⟨#[32, 119, 97, 114, 110, 105, 110, 103, 32, 111, 102, 32]⟩ : ByteArray)) ++ (rdOf ByteArray.empty t138 a0_1)) ++ (⟨#[32, 102, 111, 114, 32, 97, 114, 101, 97, 32]⟩ : ByteArray)) ++ t142) ++ (⟨#[32, 102, 114, 111, 109, 32]⟩ : ByteArray)).size + t143.size) = False := eq_false (Nat.not_lt.2 c15)
 try have c15b3 : (9223372036854775807 < (rdOf ByteArray.empty t134 a0_2).size + 12 + (rdOf ByteArray.empty t138 a0_1).size + 10 + t142.size + 6 + t143.size) = False := eq_false (Nat.not_lt.2 (by have q_ := c15; simp only [ByteArray.size_append] at q_; exact q_))
 by_cases c16 : (((((((rdOf ByteArray.empty t134 a0_2) ++ (⟨#[32, 119, 97, 114, 110, 105, 110, 103, 32, 111, 102, 32]⟩ : ByteArray)) ++ (rdOf ByteArray.empty t138 a0_1)) ++ (⟨#[32, 102, 111, 114, 32, 97, 114, 101, 97, 32]⟩ : ByteArray)) ++ t142) ++ (⟨#[32, 102, 114, 111, 109, 32]⟩ : ByteArray)) ++ t143).size + 7 ≤ 9223372036854775807
 case neg =>
  rw [if_neg c16] at H
  exact absurd H (by simp)
 rw [if_pos c16] at H
 have c16b0 := eq_true c16
 have c16b1 : decide ((((((((rdOf ByteArray.empty t134 a0_2) ++ (⟨#[32, 119, 97, 114, 110, 105, 110, 103, 32, 111, 102, 32]⟩ : ByteArray)) ++ (rdOf ByteArray.empty t138 a0_1)) ++ (⟨#[32, 102, 111, 114, 32, 97, 114, 101, 97, 32]⟩ : ByteArray)) ++ t142) ++ (⟨#[32, 102, 114, 111, 109, 32]⟩ : ByteArray)) ++ t143).size + 7 ≤ 9223372036854775807) = true := decide_eq_true c16
 try have c16b2 : (9223372036854775807 < (((((((rdOf ByteArray.empty t134 a0_2) ++ (⟨#[32, 119, 97, 114, 110, 105, 110, 103, 32, 111, 102, 32]⟩ : ByteArray)) ++ (rdOf ByteArray.empty t138 a0_1)) ++ (⟨#[32, 102, 111, 114, 32, 97, 114, 101, 97, 32]⟩ : ByteArray)) ++ t142) ++ (⟨#[32, 102, 114, 111, 109, 32]⟩ : ByteArray)) ++ t143).size + 7) = False := eq_false (Nat.not_lt.2 c16)
 try have c16b3 : (9223372036854775807 < (rdOf ByteArray.empty t134 a0_2).size + 12 + (rdOf ByteArray.empty t138 a0_1).size + 10 + t142.size + 6 + t143.size + 7) = False := eq_false (Nat.not_lt.2 (by have q_ := c16; simp only [ByteArray.size_append] at q_; exact q_))
 replace H := Option.bind_eq_some_iff.mp H
 obtain ⟨t144, A170, H⟩ := H
 replace H : (if ((((((((rdOf ByteArray.empty t134 a0_2) ++ (⟨#[32, 119, 97, 114, 110, 105, 110, 103, 32, 111, 102, 32]⟩ : ByteArray)) ++ (rdOf ByteArray.empty t138 a0_1)) ++ (⟨#[32, 102, 111, 114, 32, 97, 114, 101, 97, 32]⟩ : ByteArray)) ++ t142) ++ (⟨#[32, 102, 114, 111, 109, 32]⟩ : ByteArray)) ++ t143) ++ (⟨#[32, 117, 110, 116, 105, 108, 32]⟩ : ByteArray)).size + t144.size ≤ 9223372036854775807 then (if (((((((((rdOf ByteArray.empty t134 a0_2) ++ (⟨#[32, 119, 97, 114, 110, 105, 110, 103, 32, 111, 102, 32]⟩ : ByteArray)) ++ (rdOf ByteArray.empty t138 a0_1)) ++ (⟨#[32, 102, 111, 114, 32, 97, 114, 101, 97, 32]⟩ : ByteArray)) ++ t142) ++ (⟨#[32, 102, 114, 111, 109, 32]⟩ : ByteArray)) ++ t143) ++ (⟨#[32, 117, 110, 116, 105, 108, 32]⟩ : ByteArray)) ++ t144).size + 6 ≤ 9223372036854775807 then ((spec_l1Num.f k a0_0).bind fun t145 => (if ((((((((((rdOf ByteArray.empty t134 a0_2) ++ (⟨#[32, 119, 97, 114, 110, 105, 110, 103, 32, 111, 102, 32]⟩ : ByteArray)) ++ (rdOf ByteArray.empty t138 a0_1)) ++ (⟨#[32, 102, 111, 114, 32, 97, 114, 101, 97, 32]⟩ : ByteArray)) ++ t142) ++ (⟨#[32, 102, 114, 111, 109, 32]⟩ : ByteArray)) ++ t143) ++ (⟨#[32, 117, 110, 116, 105, 108, 32]⟩ : ByteArray)) ++ t144) ++ (⟨#[32, 40, 110, 111, 46, 32]⟩ : ByteArray)).size + t145.size ≤ 9223372036854775807 then (if (((((((((((rdOf ByteArray.empty t134 a0_2) ++ (⟨#[32, 119, 97, 114, 110, 105, 110, 103, 32, 111, 102, 32]⟩ : ByteArray)) ++ (rdOf ByteArray.empty t138 a0_1)) ++ (⟨#[32, 102, 111, 114, 32, 97, 114, 101, 97, 32]⟩ : ByteArray)) ++ t142) ++ (⟨#[32, 102, 114, 111, 109, 32]⟩ : ByteArray)) ++ t143) ++ (⟨#[32, 117, 110, 116, 105, 108, 32]⟩ : ByteArray)) ++ t144) ++ (⟨#[32, 40, 110, 111, 46, 32]⟩ : ByteArray)) ++ t145).size + 2 ≤ 9223372036854775807 then (some ((((((((((((rdOf ByteArray.empty t134 a0_2) ++ (⟨#[32, 119, 97, 114, 110, 105, 110, 103, 32, 111, 102, 32]⟩ : ByteArray)) ++ (rdOf ByteArray.empty t138 a0_1)) ++ (⟨#[32, 102, 111, 114, 32, 97, 114, 101, 97, 32]⟩ : ByteArray)) ++ t142) ++ (⟨#[32, 102, 114, 111, 109, 32]⟩ : ByteArray)) ++ t143) ++ (⟨#[32, 117, 110, 116, 105, 108, 32]⟩ : ByteArray)) ++ t144) ++ (⟨#[32, 40, 110, 111, 46, 32]⟩ : ByteArray)) ++ t145) ++ (⟨#[41, 46]⟩ : ByteArray))) else (none)) else (none))) else (none)) else (none)) = some r := H
 have A17 := Aside0.mk A170
 clear A170
 by_cases c18 : ((((((((rdOf ByteArray.empty t134 a0_2) ++ (⟨#[32, 119, 97, 114, 110, 105, 110, 103, 32, 111, 102, 32]⟩ : ByteArray)) ++ (rdOf ByteArray.empty t138 a0_1)) ++ (⟨#[32, 102, 111, 114, 32, 97, 114, 101, 97, 32]⟩ : ByteArray)) ++ t142) ++ (⟨#[32, 102, 114, 111, 109, 32]⟩ : ByteArray)) ++ t143) ++ (⟨#[32, 117, 110, 116, 105, 108, 32]⟩ : ByteArray)).size + t144.size ≤ 9223372036854775807
 case neg =>
  rw [if_neg c18] at H
  exact absurd H (by simp)
 rw [if_pos c18] at H
 have c18b0 := eq_true c18
 have c18b1 : decide (((((((((rdOf ByteArray.empty t134 a0_2) ++ (⟨#[32, 119, 97, 114, 110, 105, 110, 103, 32, 111, 102, 32]⟩ : ByteArray)) ++ (rdOf ByteArray.empty t138 a0_1)) ++ (⟨#[32, 102, 111, 114, 32, 97, 114, 101, 97, 32]⟩ : ByteArray)) ++ t142) ++ (⟨#[32, 102, 114, 111, 109, 32]⟩ : ByteArray)) ++ t143) ++ (⟨#[32, 117, 110, 116, 105, 108, 32]⟩ : ByteArray)).size + t144.size ≤ 9223372036854775807) = true := decide_eq_true c18
 try have c18b2 : (9223372036854775807 < ((((((((rdOf ByteArray.empty t134 a0_2) ++ (⟨#[32, 119, 97, 114, 110, 105, 110, 103, 32, 111, 102, 32]⟩ : ByteArray)) ++ (rdOf ByteArray.empty t138 a0_1)) ++ (⟨#[32, 102, 111, 114, 32, 97, 114, 101, 97, 32]⟩ : ByteArray)) ++ t142) ++ (⟨#[32, 102, 114, 111, 109, 32]⟩ : ByteArray)) ++ t143) ++ (⟨#[32, 117, 110, 116, 105, 108, 32]⟩ : ByteArray)).size + t144.size) = False := eq_false (Nat.not_lt.2 c18)
 try have c18b3 : (9223372036854775807 < (rdOf ByteArray.empty t134 a0_2).size + 12 + (rdOf ByteArray.empty t138 a0_1).size + 10 + t142.size + 6 + t143.size + 7 + t144.size) = False := eq_false (Nat.not_lt.2 (by have q_ := c18; simp only [ByteArray.size_append] at q_; exact q_))
 by_cases c19 : (((((((((rdOf ByteArray.empty t134 a0_2) ++ (⟨#[32, 119, 97, 114, 110, 105, 110, 103, 32, 111, 102, 32]⟩ : ByteArray)) ++ (rdOf ByteArray.empty t138 a0_1)) ++ (⟨#[32, 102, 111, 114, 32, 97, 114, 101, 97, 32]⟩ : ByteArray)) ++ t142) ++ (⟨#[32, 102, 114, 111, 109, 32]⟩ : ByteArray)) ++ t143) ++ (⟨#[32, 117, 110, 116, 105, 108, 32]⟩ : ByteArray)) ++ t144).size + 6 ≤ 9223372036854775807
 case neg =>
  rw [if_neg c19] at H
  exact absurd H (by simp)
 rw [if_pos c19] at H
 have c19b0 := eq_true c19
 have c19b1 : decide ((((((((((rdOf ByteArray.empty t134 a0_2) ++ (⟨#[32, 119, 97, 114, 110, 105, 110, 103, 32, 111, 102, 32]⟩ : ByteArray)) ++ (rdOf ByteArray.empty t138 a0_1)) ++ (⟨#[32, 102, 111, 114, 32, 97, 114, 101, 97, 32]⟩ : ByteArray)) ++ t142) ++ (⟨#[32, 102, 114, 111, 109, 32]⟩ : ByteArray)) ++ t143) ++ (⟨#[32, 117, 110, 116, 105, 108, 32]⟩ : ByteArray)) ++ t144).size + 6 ≤ 9223372036854775807) = true := decide_eq_true c19
 try have c19b2 : (9223372036854775807 < (((((((((rdOf ByteArray.empty t134 a0_2) ++ (⟨#[32, 119, 97, 114, 110, 105, 110, 103, 32, 111, 102, 32]⟩ : ByteArray)) ++ (rdOf ByteArray.empty t138 a0_1)) ++ (⟨#[32, 102, 111, 114, 32, 97, 114, 101, 97, 32]⟩ : ByteArray)) ++ t142) ++ (⟨#[32, 102, 114, 111, 109, 32]⟩ : ByteArray)) ++ t143) ++ (⟨#[32, 117, 110, 116, 105, 108, 32]⟩ : ByteArray)) ++ t144).size + 6) = False := eq_false (Nat.not_lt.2 c19)
 try have c19b3 : (9223372036854775807 < (rdOf ByteArray.empty t134 a0_2).size + 12 + (rdOf ByteArray.empty t138 a0_1).size + 10 + t142.size + 6 + t143.size + 7 + t144.size + 6) = False := eq_false (Nat.not_lt.2 (by have q_ := c19; simp only [ByteArray.size_append] at q_; exact q_))
 replace H := Option.bind_eq_some_iff.mp H
 obtain ⟨t145, A200, H⟩ := H
 replace H : (if ((((((((((rdOf ByteArray.empty t134 a0_2) ++ (⟨#[32, 119, 97, 114, 110, 105, 110, 103, 32, 111, 102, 32]⟩ : ByteArray)) ++ (rdOf ByteArray.empty t138 a0_1)) ++ (⟨#[32, 102, 111, 114, 32, 97, 114, 101, 97, 32]⟩ : ByteArray)) ++ t142) ++ (⟨#[32, 102, 114, 111, 109, 32]⟩ : ByteArray)) ++ t143) ++ (⟨#[32, 117, 110, 116, 105, 108, 32]⟩ : ByteArray)) ++ t144) ++ (⟨#[32, 40, 110, 111, 46, 32]⟩ : ByteArray)).size + t145.size ≤ 9223372036854775807 then (if (((((((((((rdOf ByteArray.empty t134 a0_2) ++ (⟨#[32, 119, 97, 114, 110, 105, 110, 103, 32, 111, 102, 32]⟩ : ByteArray)) ++ (rdOf ByteArray.empty t138 a0_1)) ++ (⟨#[32, 102, 111, 114, 32, 97, 114, 101, 97, 32]⟩ : ByteArray)) ++ t142) ++ (⟨#[32, 102, 114, 111, 109, 32]⟩ : ByteArray)) ++ t143) ++ (⟨#[32, 117, 110, 116, 105, 108, 32]⟩ : ByteArray)) ++ t144) ++ (⟨#[32, 40, 110, 111, 46, 32]⟩ : ByteArray)) ++ t145).size + 2 ≤ 9223372036854775807 then (some ((((((((((((rdOf ByteArray.empty t134 a0_2) ++ (⟨#[32, 119, 97, 114, 110, 105, 110, 103, 32, 111, 102, 32]⟩ : ByteArray)) ++ (rdOf ByteArray.empty t138 a0_1)) ++ (⟨#[32, 102, 111, 114, 32, 97, 114, 101, 97, 32]⟩ : ByteArray)) ++ t142) ++ (⟨#[32, 102, 114, 111, 109, 32]⟩ : ByteArray)) ++ t143) ++ (⟨#[32, 117, 110, 116, 105, 108, 32]⟩ : ByteArray)) ++ t144) ++ (⟨#[32, 40, 110, 111, 46, 32]⟩ : ByteArray)) ++ t145) ++ (⟨#[41, 46]⟩ : ByteArray))) else (none)) else (none)) = some r := H
 have A20 := Aside0.mk A200
 clear A200
 by_cases c21 : ((((((((((rdOf ByteArray.empty t134 a0_2) ++ (⟨#[32, 119, 97, 114, 110, 105, 110, 103, 32, 111, 102, 32]⟩ : ByteArray)) ++ (rdOf ByteArray.empty t138 a0_1)) ++ (⟨#[32, 102, 111, 114, 32, 97, 114, 101, 97, 32]⟩ : ByteArray)) ++ t142) ++ (⟨#[32, 102, 114, 111, 109, 32]⟩ : ByteArray)) ++ t143) ++ (⟨#[32, 117, 110, 116, 105, 108, 32]⟩ : ByteArray)) ++ t144) ++ (⟨#[32, 40, 110, 111, 46, 32]⟩ : ByteArray)).size + t145.size ≤ 9223372036854775807
 case neg =>
  rw [if_neg c21] at H
  exact absurd H (by simp)
 rw [if_pos c21] at H
 have c21b0 := eq_true c21
 have c21b1 : decide (((((((((((rdOf ByteArray.empty t134 a0_2) ++ (⟨#[32, 119, 97, 114, 110, 105, 110, 103, 32, 111, 102, 32]⟩ : ByteArray)) ++ (rdOf ByteArray.empty t138 a0_1)) ++ (⟨#[32, 102, 111, 114, 32, 97, 114, 101, 97, 32]⟩ : ByteArray)) ++ t142) ++ (⟨#[32, 102, 114, 111, 109, 32]⟩ : ByteArray)) ++ t143) ++ (⟨#[32, 117, 110, 116, 105, 108, 32]⟩ : ByteArray)) ++ t144) ++ (⟨#[32, 40, 110, 111, 46, 32]⟩ : ByteArray)).size + t145.size ≤ 9223372036854775807) = true := decide_eq_true c21
 try have c21b2 : (9223372036854775807 < ((((((((((rdOf ByteArray.empty t134 a0_2) ++ (⟨#[32, 119, 97, 114, 110, 105, 110, 103, 32, 111, 102, 32]⟩ : ByteArray)) ++ (rdOf ByteArray.empty t138 a0_1)) ++ (⟨#[32, 102, 111, 114, 32, 97, 114, 101, 97, 32]⟩ : ByteArray)) ++ t142) ++ (⟨#[32, 102, 114, 111, 109, 32]⟩ : ByteArray)) ++ t143) ++ (⟨#[32, 117, 110, 116, 105, 108, 32]⟩ : ByteArray)) ++ t144) ++ (⟨#[32, 40, 110, 111, 46, 32]⟩ : ByteArray)).size + t145.size) = False := eq_false (Nat.not_lt.2 c21)
 try have c21b3 : (9223372036854775807 < (rdOf ByteArray.empty t134 a0_2).size + 12 + (rdOf ByteArray.empty t138 a0_1).size + 10 + t142.size + 6 + t143.size + 7 + t144.size + 6 + t145.size) = False := eq_false (Nat.not_lt.2 (by have q_ := c21; simp only [ByteArray.size_append] at q_; exact q_))
 by_cases c22 : (((((((((((rdOf ByteArray.empty t134 a0_2) ++ (⟨#[32, 119, 97, 114, 110, 105, 110, 103, 32, 111, 102, 32]⟩ : ByteArray)) ++ (rdOf ByteArray.empty t138 a0_1)) ++ (⟨#[32, 102, 111, 114, 32, 97, 114, 101, 97, 32]⟩ : ByteArray)) ++ t142) ++ (⟨#[32, 102, 114, 111, 109, 32]⟩ : ByteArray)) ++ t143) ++ (⟨#[32, 117, 110, 116, 105, 108, 32]⟩ : ByteArray)) ++ t144) ++ (⟨#[32, 40, 110, 111, 46, 32]⟩ : ByteArray)) ++ t145).size + 2 ≤ 9223372036854775807
 case neg =>
  rw [if_neg c22] at H
  exact absurd H (by simp)
 rw [if_pos c22] at H
 have c22b0 := eq_true c22
 have c22b1 : decide ((((((((((((rdOf ByteArray.empty t134 a0_2) ++ (⟨#[32, 119, 97, 114, 110, 105, 110, 103, 32, 111, 102, 32]⟩ : ByteArray)) ++ (rdOf ByteArray.empty t138 a0_1)) ++ (⟨#[32, 102, 111, 114, 32, 97, 114, 101, 97, 32]⟩ : ByteArray)) ++ t142) ++ (⟨#[32, 102, 114, 111, 109, 32]⟩ : ByteArray)) ++ t143) ++ (⟨#[32, 117, 110, 116, 105, 108, 32]⟩ : ByteArray)) ++ t144) ++ (⟨#[32, 40, 110, 111, 46, 32]⟩ : ByteArray)) ++ t145).size + 2 ≤ 9223372036854775807) = true := decide_eq_true c22
 try have c22b2 : (9223372036854775807 < (((((((((((rdOf ByteArray.empty t134 a0_2) ++ (⟨#[32, 119, 97, 114, 110, 105, 110, 103, 32, 111, 102, 32]⟩ : ByteArray)) ++ (rdOf ByteArray.empty t138 a0_1)) ++ (⟨#[32, 102, 111, 114, 32, 97, 114, 101, 97, 32]⟩ : ByteArray)) ++ t142) ++ (⟨#[32, 102, 114, 111, 109, 32]⟩ : ByteArray)) ++ t143) ++ (⟨#[32, 117, 110, 116, 105, 108, 32]⟩ : ByteArray)) ++ t144) ++ (⟨#[32, 40, 110, 111, 46, 32]⟩ : ByteArray)) ++ t145).size + 2) = False := eq_false (Nat.not_lt.2 c22)
 try have c22b3 : (9223372036854775807 < (rdOf ByteArray.empty t134 a0_2).size + 12 + (rdOf ByteArray.empty t138 a0_1).size + 10 + t142.size + 6 + t143.size + 7 + t144.size + 6 + t145.size + 2) = False := eq_false (Nat.not_lt.2 (by have q_ := c22; simp only [ByteArray.size_append] at q_; exact q_))
 obtain rfl := Option.some.inj H
 go_enter Tryd.func25, Tryd.ntmps25
 try go_wp2_with (first | ((with_reducible refine gate_dst (N := 1) rfl ?_); refine box_event ?hg (N := 1) ?hd (cs := #[.int .i64 a0_0, .int .i64 a0_1, .int .i64 a0_2, .int .i64 a0_3, .int .i64 a0_4, .int .i64 a0_5]) (t := 31) ?hr ?_; (case hd => rfl); (case hg => rfl); (case hr => exact zqS); intro gb133 hg w23 hbox hb; have BK133 := Aside0.mk (hbox); have GW133 := Aside0.mk ((by rw [hg]; exact (below_size zq0) : w.heap.size ≤ gb133)); replace HB := Aside0.mk (below_step zq0 hb); have GE133 := GW133; clear hb hbox hg))
 have n0_ := Aside0.mk (blk_drew BK133.out)
 have n1_ := Aside0.mk (below_drew1 HB.out)
 clear BK133
 clear HB
 have BK133 := n0_
 have HB := n1_
 clear n0_ n1_
 refine start_ (n := 34) (S := fun w' => w'.cell? ⟨gb133, 0, none⟩ = some (.int .i64 a0_0) ∧ w'.cell? ⟨gb133, 1, none⟩ = some (.int .i64 a0_1) ∧ w'.cell? ⟨gb133, 2, none⟩ = some (.int .i64 a0_2) ∧ w'.cell? ⟨gb133, 3, none⟩ = some (.int .i64 a0_3) ∧ w'.cell? ⟨gb133, 4, none⟩ = some (.int .i64 a0_4) ∧ w'.cell? ⟨gb133, 5, none⟩ = some (.int .i64 a0_5)) (ds := []) #[false, false, false, false, false, false, false, false, false, false, false, false, false, false, false, false, false, false, false, false, false, false, false, false, false, false, false, false, false, false, false, false, false, false] (by kernel_rfl) rfl rfl (bc6 BK133.out) (fun hHeld => ?_); refine with_tabW spec_l16Text.tab1 spec_l16Text.bits1 (fun HT_ HW_ => ?_)
 generalize w23.drew = w24 at BK133 HB hHeld ⊢
 refine pure_ (i := 1) (N := some 4) (v := ?_) (a' := ?_) #[false, true, false, false, false, false, false, false, false, false, false, false, false, false, false, false, false, false, false, false, false, false, false, false, false, false, false, false, false, false, false, false, false, false] rfl rfl (any_of HT_.out (by kernel_rfl)) (fun _ _ _ h => h) (Or.inl ⟨by rfl, ?_⟩) ?_ ?_
 rotate_left; · exact zqB
 rotate_left; · exact zqA
 refine pure_ (i := 7) (N := some 10) (v := ?_) (a' := ?_) #[false, true, false, false, false, false, false, true, false, false, false, false, false, false, false, false, false, false, false, false, false, false, false, false, false, false, false, false, false, false, false, false, false, false] rfl rfl (any_of HT_.out (by kernel_rfl)) (fun _ _ _ h => h) (Or.inl ⟨by rfl, ?_⟩) ?_ ?_
 rotate_left; · exact zqB
 rotate_left; · exact zqA
 refine pure_ (i := 13) (N := some 16) (v := ?_) (a' := ?_) #[false, true, false, false, false, false, false, true, false, false, false, false, false, true, false, false, false, false, false, false, false, false, false, false, false, false, false, false, false, false, false, false, false, false] rfl rfl (any_of HT_.out (by kernel_rfl)) (fun _ _ _ h => h) (Or.inl ⟨by rfl, ?_⟩) ?_ ?_
 rotate_left; · exact zqB
 rotate_left; · exact zqA
 refine pure_ (i := 18) (N := some 21) (v := ?_) (a' := ?_) #[false, true, false, false, false, false, false, true, false, false, false, false, false, true, false, false, false, false, true, false, false, false, false, false, false, false, false, false, false, false, false, false, false, false] rfl rfl (any_of HT_.out (by kernel_rfl)) (fun _ _ _ h => h) (Or.inl ⟨by rfl, ?_⟩) ?_ ?_
 rotate_left; · exact zqB
 rotate_left; · exact zqA
 refine pure_ (i := 23) (N := some 26) (v := ?_) (a' := ?_) #[false, true, false, false, false, false, false, true, false, false, false, false, false, true, false, false, false, false, true, false, false, false, false, true, false, false, false, false, false, false, false, false, false, false] rfl rfl (any_of HT_.out (by kernel_rfl)) (fun _ _ _ h => h) (Or.inl ⟨by rfl, ?_⟩) ?_ ?_
 rotate_left; · exact zqB
 rotate_left; · exact zqA
 refine pure_ (i := 28) (N := some 31) (v := ?_) (a' := ?_) #[false, true, false, false, false, false, false, true, false, false, false, false, false, true, false, false, false, false, true, false, false, false, false, true, false, false, false, false, true, false, false, false, false, false] rfl rfl (any_of HT_.out (by kernel_rfl)) (fun _ _ _ h => h) (Or.inl ⟨by rfl, ?_⟩) ?_ ?_
 rotate_left; · exact zqB
 rotate_left; · exact zqA
 refine take_ (i := 2) (N := some 5) (v := ?_) (a' := ?_) #[false, true, true, false, false, false, false, true, false, false, false, false, false, true, false, false, false, false, true, false, false, false, false, true, false, false, false, false, true, false, false, false, false, false] rfl rfl (take_ofW HT_.out HW_.out (by kernel_rfl)) (fun _ _ _ h => h) (Or.inl ⟨by rfl, ?_⟩) hHeld ?_ ?_
 rotate_left
 ·
  rintro w' ⟨s0, s1, s2, s3, s4, s5⟩
  go_simp
  with_reducible rfl
 rotate_left; · exact zqA
 refine take_ (i := 8) (N := some 11) (v := ?_) (a' := ?_) #[false, true, true, false, false, false, false, true, true, false, false, false, false, true, false, false, false, false, true, false, false, false, false, true, false, false, false, false, true, false, false, false, false, false] rfl rfl (take_ofW HT_.out HW_.out (by kernel_rfl)) (fun _ _ _ h => h) (Or.inl ⟨by rfl, ?_⟩) hHeld ?_ ?_
 rotate_left
 ·
  rintro w' ⟨s0, s1, s2, s3, s4, s5⟩
  go_simp
  with_reducible rfl
 rotate_left; · exact zqA
 refine take_ (i := 14) (N := some 17) (v := ?_) (a' := ?_) #[false, true, true, false, false, false, false, true, true, false, false, false, false, true, true, false, false, false, true, false, false, false, false, true, false, false, false, false, true, false, false, false, false, false] rfl rfl (take_ofW HT_.out HW_.out (by kernel_rfl)) (fun _ _ _ h => h) (Or.inl ⟨by rfl, ?_⟩) hHeld ?_ ?_
 rotate_left
 ·
  rintro w' ⟨s0, s1, s2, s3, s4, s5⟩
  go_simp
  with_reducible rfl
 rotate_left; · exact zqA
 refine take_ (i := 19) (N := some 22) (v := ?_) (a' := ?_) #[false, true, true, false, false, false, false, true, true, false, false, false, false, true, true, false, false, false, true, true, false, false, false, true, false, false, false, false, true, false, false, false, false, false] rfl rfl (take_ofW HT_.out HW_.out (by kernel_rfl)) (fun _ _ _ h => h) (Or.inl ⟨by rfl, ?_⟩) hHeld ?_ ?_
 rotate_left
 ·
  rintro w' ⟨s0, s1, s2, s3, s4, s5⟩
  go_simp
  with_reducible rfl
 rotate_left; · exact zqA
 refine take_ (i := 24) (N := some 27) (v := ?_) (a' := ?_) #[false, true, true, false, false, false, false, true, true, false, false, false, false, true, true, false, false, false, true, true, false, false, false, true, true, false, false, false, true, false, false, false, false, false] rfl rfl (take_ofW HT_.out HW_.out (by kernel_rfl)) (fun _ _ _ h => h) (Or.inl ⟨by rfl, ?_⟩) hHeld ?_ ?_
 rotate_left
 ·
  rintro w' ⟨s0, s1, s2, s3, s4, s5⟩
  go_simp
  with_reducible rfl
 rotate_left; · exact zqA
 refine take_ (i := 29) (N := some 32) (v := ?_) (a' := ?_) #[false, true, true, false, false, false, false, true, true, false, false, false, false, true, true, false, false, false, true, true, false, false, false, true, true, false, false, false, true, true, false, false, false, false] rfl rfl (take_ofW HT_.out HW_.out (by kernel_rfl)) (fun _ _ _ h => h) (Or.inl ⟨by rfl, ?_⟩) hHeld ?_ ?_
 rotate_left
 ·
  rintro w' ⟨s0, s1, s2, s3, s4, s5⟩
  go_simp
  with_reducible rfl
 rotate_left; · exact zqA
 refine one_ (i := 0) (N := some 3) #[true, true, true, false, false, false, false, true, true, false, false, false, false, true, true, false, false, false, true, true, false, false, false, true, true, false, false, false, true, true, false, false, false, false] rfl rfl (one_of HT_.out (by kernel_rfl)) (by decide) (fun K hK => ?_)
 refine goes_ Tryd.func20 (by kernel_rfl) rfl #[] (by rfl) rfl rfl zq1 ?_
 with_reducible refine (spec_l16Levels.calls  t134 _ A2.out).mono ?_
 rintro e w25 ⟨v135, rfl, ho0, hb⟩
 refine ⟨_, rfl, ?_⟩
 have n0_ := Aside0.mk (Kd.R_lower ho0 (below_size zq23))
 have n1_ := Aside0.mk (blk_below (g := gb133) (o := .cells #[.int .i64 a0_0, .int .i64 a0_1, .int .i64 a0_2, .int .i64 a0_3, .int .i64 a0_4, .int .i64 a0_5] 31 (0, 0)) (zqK BK133.out) hb)
 have n2_ := Aside0.mk (below_step zq23 hb)
 clear BK133
 clear HB
 have HO136 := n0_
 have BK133 := n1_
 have HB := n2_
 clear n0_ n1_ n2_
 (try clear hb)
 (try clear hb2)
 (try clear hk)
 (try clear hi)
 (try clear ho0)
 obtain ⟨Ao26, co26, eo26⟩ := Kd.R_slice HO136.out
 (first | subst eo26 | (injection eo26 with f1_ f2_ f3_; have f4_ := f1_.symm; have f5_ := f3_.symm; clear f1_ f2_ f3_; subst f4_; subst f5_))
 have p137 : 0 ≤ (a0_2 : Int) := of_decide_eq_true zq3
 have q137 : a0_2 < (t134.length : Int) := of_decide_eq_true zq3
 obtain ⟨ad137, e137, hx137_0⟩ := Kd.at_string (Kd.R_reads' HO136.out).2.2 a0_2 p137 q137
 cases e137
 replace p137 := eq_true p137
 replace q137 := eq_true q137
 refine hK.out _ _ (bc6 BK133.out) (fun hHeld => ?_)
 refine more_ (fun w' => w'.cell? ⟨gb133, 0, none⟩ = some (.int .i64 a0_0) ∧ w'.cell? ⟨gb133, 1, none⟩ = some (.int .i64 a0_1) ∧ w'.cell? ⟨gb133, 2, none⟩ = some (.int .i64 a0_2) ∧ w'.cell? ⟨gb133, 3, none⟩ = some (.int .i64 a0_3) ∧ w'.cell? ⟨gb133, 4, none⟩ = some (.int .i64 a0_4) ∧ w'.cell? ⟨gb133, 5, none⟩ = some (.int .i64 a0_5) ∧ w'.cell? (ad137.add (a0_2).toNat) = some (.string (rdOf ByteArray.empty t134 a0_2))) (fun _ h => ⟨h.1, h.2.1, h.2.2.1, h.2.2.2.1, h.2.2.2.2.1, h.2.2.2.2.2.1⟩) ⟨(blk_cell BK133.out 0).trans rfl, (blk_cell BK133.out 1).trans rfl, (blk_cell BK133.out 2).trans rfl, (blk_cell BK133.out 3).trans rfl, (blk_cell BK133.out 4).trans rfl, (blk_cell BK133.out 5).trans rfl, hx137_0⟩ (fun hHeld => ?_)
 clear hK K
 refine norm_ (a' := ?_) ?_ ?_
 rotate_left
 ·
  show Act.put _ (some 3) _ = _
  simp only [Act.put, List.setIfInBounds_toArray, List.set_cons_zero, List.set_cons_succ, i64_w, i32_w]
  rfl
 refine pure_ (i := 3) (N := some 6) (v := ?_) (a' := ?_) #[true, true, true, true, false, false, false, true, true, false, false, false, false, true, true, false, false, false, true, true, false, false, false, true, true, false, false, false, true, true, false, false, false, false] rfl rfl (any_of HT_.out (by kernel_rfl)) (fun _ _ _ h => h) (Or.inl ⟨by rfl, ?_⟩) ?_ ?_
 rotate_left; · exact zqB
 rotate_left; · exact zqA
 refine take_ (i := 4) (N := some 7) (v := ?_) (a' := ?_) #[true, true, true, true, true, false, false, true, true, false, false, false, false, true, true, false, false, false, true, true, false, false, false, true, true, false, false, false, true, true, false, false, false, false] rfl rfl (take_ofW HT_.out HW_.out (by kernel_rfl)) (fun _ _ _ h => h) (Or.inl ⟨by rfl, ?_⟩) hHeld ?_ ?_
 rotate_left
 ·
  rintro w' ⟨s0, s1, s2, s3, s4, s5, s6⟩
  go_simp
  with_reducible rfl
 rotate_left; · exact zqA
 refine pure_ (i := 5) (N := some 8) (v := ?_) (a' := ?_) #[true, true, true, true, true, true, false, true, true, false, false, false, false, true, true, false, false, false, true, true, false, false, false, true, true, false, false, false, true, true, false, false, false, false] rfl rfl (any_of HT_.out (by kernel_rfl)) (fun _ _ _ h => h) (Or.inl ⟨by rfl, ?_⟩) ?_ ?_
 rotate_left; · exact zqB
 rotate_left; · exact zqA
 refine one_ (i := 6) (N := some 9) #[true, true, true, true, true, true, true, true, true, false, false, false, false, true, true, false, false, false, true, true, false, false, false, true, true, false, false, false, true, true, false, false, false, false] rfl rfl (one_of HT_.out (by kernel_rfl)) (by decide) (fun K hK => ?_)
 refine goes_ Tryd.func21 (by kernel_rfl) rfl #[] (by rfl) rfl rfl zq1 ?_
 with_reducible refine (spec_l16Topics.calls  t138 _ A6.out).mono ?_
 rintro e w27 ⟨v139, rfl, ho0, hb⟩
 have HS6_ := (hb.cell (World.block_lt_of_cell? _ _ (hHeld.2.2.2.2.2.2))).trans (hHeld.2.2.2.2.2.2)
 refine ⟨_, rfl, ?_⟩
 have n0_ := Aside0.mk (Kd.R_elder' (zqR HO136.out) (Kd.R_base ho0) hb)
 have n1_ := Aside0.mk (Kd.R_lower (Kd.R_new' ho0 (Kd.R_lt (zqR HO136.out))) (below_size zq23))
 have n2_ := Aside0.mk (blk_below (g := gb133) (o := .cells #[.int .i64 a0_0, .int .i64 a0_1, .int .i64 a0_2, .int .i64 a0_3, .int .i64 a0_4, .int .i64 a0_5] 31 (0, 0)) (zqK BK133.out) hb)
 have n3_ := Aside0.mk (below_step zq23 hb)
 clear HO136
 clear BK133
 clear HB
 have HO136 := n0_
 have HO140 := n1_
 have BK133 := n2_
 have HB := n3_
 clear n0_ n1_ n2_ n3_
 (try clear hb)
 (try clear hb2)
 (try clear hk)
 (try clear hi)
 (try clear ho0)
 obtain ⟨Ao28, co28, eo28⟩ := Kd.R_slice HO140.out
 (first | subst eo28 | (injection eo28 with f1_ f2_ f3_; have f4_ := f1_.symm; have f5_ := f3_.symm; clear f1_ f2_ f3_; subst f4_; subst f5_))
 have p141 : 0 ≤ (a0_1 : Int) := of_decide_eq_true zq3
 have q141 : a0_1 < (t138.length : Int) := of_decide_eq_true zq3
 obtain ⟨ad141, e141, hx141_0⟩ := Kd.at_string (Kd.R_reads' HO140.out).2.2 a0_1 p141 q141
 cases e141
 replace p141 := eq_true p141
 replace q141 := eq_true q141
 refine hK.out _ _ ⟨(blk_cell BK133.out 0).trans rfl, (blk_cell BK133.out 1).trans rfl, (blk_cell BK133.out 2).trans rfl, (blk_cell BK133.out 3).trans rfl, (blk_cell BK133.out 4).trans rfl, (blk_cell BK133.out 5).trans rfl, HS6_⟩ (fun hHeld => ?_)
 refine more_ (fun w' => w'.cell? ⟨gb133, 0, none⟩ = some (.int .i64 a0_0) ∧ w'.cell? ⟨gb133, 1, none⟩ = some (.int .i64 a0_1) ∧ w'.cell? ⟨gb133, 2, none⟩ = some (.int .i64 a0_2) ∧ w'.cell? ⟨gb133, 3, none⟩ = some (.int .i64 a0_3) ∧ w'.cell? ⟨gb133, 4, none⟩ = some (.int .i64 a0_4) ∧ w'.cell? ⟨gb133, 5, none⟩ = some (.int .i64 a0_5) ∧ w'.cell? (ad137.add (a0_2).toNat) = some (.string (rdOf ByteArray.empty t134 a0_2)) ∧ w'.cell? (ad141.add (a0_1).toNat) = some (.string (rdOf ByteArray.empty t138 a0_1))) (fun _ h => ⟨h.1, h.2.1, h.2.2.1, h.2.2.2.1, h.2.2.2.2.1, h.2.2.2.2.2.1, h.2.2.2.2.2.2.1⟩) ⟨(blk_cell BK133.out 0).trans rfl, (blk_cell BK133.out 1).trans rfl, (blk_cell BK133.out 2).trans rfl, (blk_cell BK133.out 3).trans rfl, (blk_cell BK133.out 4).trans rfl, (blk_cell BK133.out 5).trans rfl, HS6_, hx141_0⟩ (fun hHeld => ?_)
 clear hK K
 refine norm_ (a' := ?_) ?_ ?_
 rotate_left
 ·
  show Act.put _ (some 9) _ = _
  simp only [Act.put, List.setIfInBounds_toArray, List.set_cons_zero, List.set_cons_succ, i64_w, i32_w]
  rfl
 refine pure_ (i := 9) (N := some 12) (v := ?_) (a' := ?_) #[true, true, true, true, true, true, true, true, true, true, false, false, false, true, true, false, false, false, true, true, false, false, false, true, true, false, false, false, true, true, false, false, false, false] rfl rfl (any_of HT_.out (by kernel_rfl)) (fun _ _ _ h => h) (Or.inl ⟨by rfl, ?_⟩) ?_ ?_
 rotate_left; · exact zqB
 rotate_left; · exact zqA
 refine take_ (i := 10) (N := some 13) (v := ?_) (a' := ?_) #[true, true, true, true, true, true, true, true, true, true, true, false, false, true, true, false, false, false, true, true, false, false, false, true, true, false, false, false, true, true, false, false, false, false] rfl rfl (take_ofW HT_.out HW_.out (by kernel_rfl)) (fun _ _ _ h => h) (Or.inl ⟨by rfl, ?_⟩) hHeld ?_ ?_
 rotate_left
 ·
  rintro w' ⟨s0, s1, s2, s3, s4, s5, s6, s7⟩
  go_simp
  with_reducible rfl
 rotate_left; · exact zqA
 refine pure_ (i := 11) (N := some 14) (v := ?_) (a' := ?_) #[true, true, true, true, true, true, true, true, true, true, true, true, false, true, true, false, false, false, true, true, false, false, false, true, true, false, false, false, true, true, false, false, false, false] rfl rfl (any_of HT_.out (by kernel_rfl)) (fun _ _ _ h => h) (Or.inl ⟨by rfl, ?_⟩) ?_ ?_
 rotate_left; · exact zqB
 rotate_left; · exact zqA
 refine pure_ (i := 12) (N := some 15) (v := ?_) (a' := ?_) #[true, true, true, true, true, true, true, true, true, true, true, true, true, true, true, false, false, false, true, true, false, false, false, true, true, false, false, false, true, true, false, false, false, false] rfl rfl (any_of HT_.out (by kernel_rfl)) (fun _ _ _ h => h) (Or.inl ⟨by rfl, ?_⟩) ?_ ?_
 rotate_left; · exact zqB
 rotate_left; · exact zqA
 refine one_ (i := 15) (N := some 18) #[true, true, true, true, true, true, true, true, true, true, true, true, true, true, true, true, false, false, true, true, false, false, false, true, true, false, false, false, true, true, false, false, false, false] rfl rfl (one_of HT_.out (by kernel_rfl)) (by decide) (fun K hK => ?_)
 refine goes_ Tryd.func39 (by kernel_rfl) rfl #[.int .i64 a0_3] (by rfl) rfl rfl zq1 ?_
 with_reducible refine (spec_l1Num.calls k a0_3 t142 _ A11.out).mono ?_
 rintro e w29 ⟨rfl, hb⟩
 have HS6_ := (hb.cell (World.block_lt_of_cell? _ _ (hHeld.2.2.2.2.2.2.1))).trans (hHeld.2.2.2.2.2.2.1)
 have HS7_ := (hb.cell (World.block_lt_of_cell? _ _ (hHeld.2.2.2.2.2.2.2))).trans (hHeld.2.2.2.2.2.2.2)
 refine ⟨_, rfl, ?_⟩
 have n0_ := Aside0.mk (Kd.R_below (zqR HO136.out) hb)
 have n1_ := Aside0.mk (Kd.R_below (zqR HO140.out) hb)
 have n2_ := Aside0.mk (blk_below (g := gb133) (o := .cells #[.int .i64 a0_0, .int .i64 a0_1, .int .i64 a0_2, .int .i64 a0_3, .int .i64 a0_4, .int .i64 a0_5] 31 (0, 0)) (zqK BK133.out) hb)
 have n3_ := Aside0.mk (below_step zq23 hb)
 clear HO136
 clear HO140
 clear BK133
 clear HB
 have HO136 := n0_
 have HO140 := n1_
 have BK133 := n2_
 have HB := n3_
 clear n0_ n1_ n2_ n3_
 (try clear hb)
 (try clear hb2)
 (try clear hk)
 (try clear hi)
 refine hK.out _ _ ⟨(blk_cell BK133.out 0).trans rfl, (blk_cell BK133.out 1).trans rfl, (blk_cell BK133.out 2).trans rfl, (blk_cell BK133.out 3).trans rfl, (blk_cell BK133.out 4).trans rfl, (blk_cell BK133.out 5).trans rfl, HS6_, HS7_⟩ (fun hHeld => ?_)
 clear hK K
 refine norm_ (a' := ?_) ?_ ?_
 rotate_left
 ·
  show Act.put _ (some 18) _ = _
  simp only [Act.put, List.setIfInBounds_toArray, List.set_cons_zero, List.set_cons_succ, i64_w, i32_w]
  rfl
 refine pure_ (i := 16) (N := some 19) (v := ?_) (a' := ?_) #[true, true, true, true, true, true, true, true, true, true, true, true, true, true, true, true, true, false, true, true, false, false, false, true, true, false, false, false, true, true, false, false, false, false] rfl rfl (any_of HT_.out (by kernel_rfl)) (fun _ _ _ h => h) (Or.inl ⟨by rfl, ?_⟩) ?_ ?_
 rotate_left; · exact zqB
 rotate_left; · exact zqA
 refine pure_ (i := 17) (N := some 20) (v := ?_) (a' := ?_) #[true, true, true, true, true, true, true, true, true, true, true, true, true, true, true, true, true, true, true, true, false, false, false, true, true, false, false, false, true, true, false, false, false, false] rfl rfl (any_of HT_.out (by kernel_rfl)) (fun _ _ _ h => h) (Or.inl ⟨by rfl, ?_⟩) ?_ ?_
 rotate_left; · exact zqB
 rotate_left; · exact zqA
 refine one_ (i := 20) (N := some 23) #[true, true, true, true, true, true, true, true, true, true, true, true, true, true, true, true, true, true, true, true, true, false, false, true, true, false, false, false, true, true, false, false, false, false] rfl rfl (one_of HT_.out (by kernel_rfl)) (by decide) (fun K hK => ?_)
 refine goes_ Tryd.func40 (by kernel_rfl) rfl #[.int .i64 a0_4] (by rfl) rfl rfl zq1 ?_
 with_reducible refine (spec_l16Hour.calls k a0_4 t143 _ A14.out).mono ?_
 rintro e w30 ⟨rfl, hb⟩
 have HS6_ := (hb.cell (World.block_lt_of_cell? _ _ (hHeld.2.2.2.2.2.2.1))).trans (hHeld.2.2.2.2.2.2.1)
 have HS7_ := (hb.cell (World.block_lt_of_cell? _ _ (hHeld.2.2.2.2.2.2.2))).trans (hHeld.2.2.2.2.2.2.2)
 refine ⟨_, rfl, ?_⟩
 have n0_ := Aside0.mk (Kd.R_below (zqR HO136.out) hb)
 have n1_ := Aside0.mk (Kd.R_below (zqR HO140.out) hb)
 have n2_ := Aside0.mk (blk_below (g := gb133) (o := .cells #[.int .i64 a0_0, .int .i64 a0_1, .int .i64 a0_2, .int .i64 a0_3, .int .i64 a0_4, .int .i64 a0_5] 31 (0, 0)) (zqK BK133.out) hb)
 have n3_ := Aside0.mk (below_step zq23 hb)
 clear HO136
 clear HO140
 clear BK133
 clear HB
 have HO136 := n0_
 have HO140 := n1_
 have BK133 := n2_
 have HB := n3_
 clear n0_ n1_ n2_ n3_
 (try clear hb)
 (try clear hb2)
 (try clear hk)
 (try clear hi)
 refine hK.out _ _ ⟨(blk_cell BK133.out 0).trans rfl, (blk_cell BK133.out 1).trans rfl, (blk_cell BK133.out 2).trans rfl, (blk_cell BK133.out 3).trans rfl, (blk_cell BK133.out 4).trans rfl, (blk_cell BK133.out 5).trans rfl, HS6_, HS7_⟩ (fun hHeld => ?_)
 clear hK K
 refine norm_ (a' := ?_) ?_ ?_
 rotate_left
 ·
  show Act.put _ (some 23) _ = _
  simp only [Act.put, List.setIfInBounds_toArray, List.set_cons_zero, List.set_cons_succ, i64_w, i32_w]
  rfl
 refine pure_ (i := 21) (N := some 24) (v := ?_) (a' := ?_) #[true, true, true, true, true, true, true, true, true, true, true, true, true, true, true, true, true, true, true, true, true, true, false, true, true, false, false, false, true, true, false, false, false, false] rfl rfl (any_of HT_.out (by kernel_rfl)) (fun _ _ _ h => h) (Or.inl ⟨by rfl, ?_⟩) ?_ ?_
 rotate_left; · exact zqB
 rotate_left; · exact zqA
 refine pure_ (i := 22) (N := some 25) (v := ?_) (a' := ?_) #[true, true, true, true, true, true, true, true, true, true, true, true, true, true, true, true, true, true, true, true, true, true, true, true, true, false, false, false, true, true, false, false, false, false] rfl rfl (any_of HT_.out (by kernel_rfl)) (fun _ _ _ h => h) (Or.inl ⟨by rfl, ?_⟩) ?_ ?_
 rotate_left; · exact zqB
 rotate_left; · exact zqA
 refine one_ (i := 25) (N := some 28) #[true, true, true, true, true, true, true, true, true, true, true, true, true, true, true, true, true, true, true, true, true, true, true, true, true, true, false, false, true, true, false, false, false, false] rfl rfl (one_of HT_.out (by kernel_rfl)) (by decide) (fun K hK => ?_)
 refine goes_ Tryd.func40 (by kernel_rfl) rfl #[.int .i64 a0_5] (by rfl) rfl rfl zq1 ?_
 with_reducible refine (spec_l16Hour.calls k a0_5 t144 _ A17.out).mono ?_
 rintro e w31 ⟨rfl, hb⟩
 have HS6_ := (hb.cell (World.block_lt_of_cell? _ _ (hHeld.2.2.2.2.2.2.1))).trans (hHeld.2.2.2.2.2.2.1)
 have HS7_ := (hb.cell (World.block_lt_of_cell? _ _ (hHeld.2.2.2.2.2.2.2))).trans (hHeld.2.2.2.2.2.2.2)
 refine ⟨_, rfl, ?_⟩
 have n0_ := Aside0.mk (Kd.R_below (zqR HO136.out) hb)
 have n1_ := Aside0.mk (Kd.R_below (zqR HO140.out) hb)
 have n2_ := Aside0.mk (blk_below (g := gb133) (o := .cells #[.int .i64 a0_0, .int .i64 a0_1, .int .i64 a0_2, .int .i64 a0_3, .int .i64 a0_4, .int .i64 a0_5] 31 (0, 0)) (zqK BK133.out) hb)
 have n3_ := Aside0.mk (below_step zq23 hb)
 clear HO136
 clear HO140
 clear BK133
 clear HB
 have HO136 := n0_
 have HO140 := n1_
 have BK133 := n2_
 have HB := n3_
 clear n0_ n1_ n2_ n3_
 (try clear hb)
 (try clear hb2)
 (try clear hk)
 (try clear hi)
 refine hK.out _ _ ⟨(blk_cell BK133.out 0).trans rfl, (blk_cell BK133.out 1).trans rfl, (blk_cell BK133.out 2).trans rfl, (blk_cell BK133.out 3).trans rfl, (blk_cell BK133.out 4).trans rfl, (blk_cell BK133.out 5).trans rfl, HS6_, HS7_⟩ (fun hHeld => ?_)
 clear hK K
 refine norm_ (a' := ?_) ?_ ?_
 rotate_left
 ·
  show Act.put _ (some 28) _ = _
  simp only [Act.put, List.setIfInBounds_toArray, List.set_cons_zero, List.set_cons_succ, i64_w, i32_w]
  rfl
 refine pure_ (i := 26) (N := some 29) (v := ?_) (a' := ?_) #[true, true, true, true, true, true, true, true, true, true, true, true, true, true, true, true, true, true, true, true, true, true, true, true, true, true, true, false, true, true, false, false, false, false] rfl rfl (any_of HT_.out (by kernel_rfl)) (fun _ _ _ h => h) (Or.inl ⟨by rfl, ?_⟩) ?_ ?_
 rotate_left; · exact zqB
 rotate_left; · exact zqA
 refine pure_ (i := 27) (N := some 30) (v := ?_) (a' := ?_) #[true, true, true, true, true, true, true, true, true, true, true, true, true, true, true, true, true, true, true, true, true, true, true, true, true, true, true, true, true, true, false, false, false, false] rfl rfl (any_of HT_.out (by kernel_rfl)) (fun _ _ _ h => h) (Or.inl ⟨by rfl, ?_⟩) ?_ ?_
 rotate_left; · exact zqB
 rotate_left; · exact zqA
 refine one_ (i := 30) (N := some 33) #[true, true, true, true, true, true, true, true, true, true, true, true, true, true, true, true, true, true, true, true, true, true, true, true, true, true, true, true, true, true, true, false, false, false] rfl rfl (one_of HT_.out (by kernel_rfl)) (by decide) (fun K hK => ?_)
 refine goes_ Tryd.func39 (by kernel_rfl) rfl #[.int .i64 a0_0] (by rfl) rfl rfl zq1 ?_
 with_reducible refine (spec_l1Num.calls k a0_0 t145 _ A20.out).mono ?_
 rintro e w32 ⟨rfl, hb⟩
 have HS6_ := (hb.cell (World.block_lt_of_cell? _ _ (hHeld.2.2.2.2.2.2.1))).trans (hHeld.2.2.2.2.2.2.1)
 have HS7_ := (hb.cell (World.block_lt_of_cell? _ _ (hHeld.2.2.2.2.2.2.2))).trans (hHeld.2.2.2.2.2.2.2)
 refine ⟨_, rfl, ?_⟩
 have n0_ := Aside0.mk (Kd.R_below (zqR HO136.out) hb)
 have n1_ := Aside0.mk (Kd.R_below (zqR HO140.out) hb)
 have n2_ := Aside0.mk (blk_below (g := gb133) (o := .cells #[.int .i64 a0_0, .int .i64 a0_1, .int .i64 a0_2, .int .i64 a0_3, .int .i64 a0_4, .int .i64 a0_5] 31 (0, 0)) (zqK BK133.out) hb)
 have n3_ := Aside0.mk (below_step zq23 hb)
 clear HO136
 clear HO140
 clear BK133
 clear HB
 have HO136 := n0_
 have HO140 := n1_
 have BK133 := n2_
 have HB := n3_
 clear n0_ n1_ n2_ n3_
 (try clear hb)
 (try clear hb2)
 (try clear hk)
 (try clear hi)
 refine hK.out _ _ ⟨(blk_cell BK133.out 0).trans rfl, (blk_cell BK133.out 1).trans rfl, (blk_cell BK133.out 2).trans rfl, (blk_cell BK133.out 3).trans rfl, (blk_cell BK133.out 4).trans rfl, (blk_cell BK133.out 5).trans rfl, HS6_, HS7_⟩ (fun hHeld => ?_)
 clear hK K
 refine norm_ (a' := ?_) ?_ ?_
 rotate_left
 ·
  show Act.put _ (some 33) _ = _
  simp only [Act.put, List.setIfInBounds_toArray, List.set_cons_zero, List.set_cons_succ, i64_w, i32_w]
  rfl
 refine pure_ (i := 31) (N := some 34) (v := ?_) (a' := ?_) #[true, true, true, true, true, true, true, true, true, true, true, true, true, true, true, true, true, true, true, true, true, true, true, true, true, true, true, true, true, true, true, true, false, false] rfl rfl (any_of HT_.out (by kernel_rfl)) (fun _ _ _ h => h) (Or.inl ⟨by rfl, ?_⟩) ?_ ?_
 rotate_left; · exact zqB
 rotate_left; · exact zqA
 refine pure_ (i := 32) (N := some 35) (v := ?_) (a' := ?_) #[true, true, true, true, true, true, true, true, true, true, true, true, true, true, true, true, true, true, true, true, true, true, true, true, true, true, true, true, true, true, true, true, true, false] rfl rfl (any_of HT_.out (by kernel_rfl)) (fun _ _ _ h => h) (Or.inl ⟨by rfl, ?_⟩) ?_ ?_
 rotate_left; · exact zqB
 rotate_left; · exact zqA
 refine pure_ (i := 33) (N := some 2) (v := ?_) (a' := ?_) #[true, true, true, true, true, true, true, true, true, true, true, true, true, true, true, true, true, true, true, true, true, true, true, true, true, true, true, true, true, true, true, true, true, true] rfl rfl (any_of HT_.out (by kernel_rfl)) (fun _ _ _ h => h) (Or.inl ⟨by rfl, ?_⟩) ?_ ?_
 rotate_left; · exact zqB
 rotate_left; · exact zqA
 refine done_ (done_of HT_.out (by kernel_rfl)) ?_
 try go_wp2
 go_ret
 exact ⟨zqE, zq23⟩
end Go.Proofs.YtleadjbfcenofaaDoor.Q
