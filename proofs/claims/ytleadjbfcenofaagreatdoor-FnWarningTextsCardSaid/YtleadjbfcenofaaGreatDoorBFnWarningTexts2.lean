/- Texts of this claim, put together: walks of the program's functions, and plain facts. -/
import Derived.Test.YtleadjbfcenofaaGreatDoorZFnWarningTexts
import Derived.Test.YtleadjbfcenofaaGreatDoorWLast
import Derived.Test.YtleadjbfcenofaaGreatDoorBFnWarningTexts0
import Derived.Test.YtleadjbfcenofaaGreatDoorBFnWarningTexts1
namespace Go.Proofs.YtleadjbfcenofaaGreatDoor.Q
open Go.RowKit Go.Proofs.YtleadjbfcenofaaGreatDoorW.PrintWords Go.Proofs.YtleadjbfcenofaaGreatDoorW.PrintLast Go.Proofs.YtleadjbfcenofaaGreatDoorW.PrintMore
attribute [local go_sem] max2_int min2_int max_two min_two max_three min_three max_four min_four
set_option linter.unusedVariables false
set_option linter.unusedSimpArgs false
def impl_hourText.f (a0 : Int) : Option (ByteArray) := (strconv_Itoa.f (wrap64 ((wrap64 (Int.tdiv a0 24)) + 1))).bind fun t180 => (if 4 + t180.size ≤ 9223372036854775807 then (if ((⟨#[100, 97, 121, 32]⟩ : ByteArray) ++ t180).size + 2 ≤ 9223372036854775807 then ((strconv_Itoa.f (wrap64 (Int.tdiv (Int.tmod a0 24) 10))).bind fun t181 => (if (((⟨#[100, 97, 121, 32]⟩ : ByteArray) ++ t180) ++ (⟨#[44, 32]⟩ : ByteArray)).size + t181.size ≤ 9223372036854775807 then ((strconv_Itoa.f (Int.tmod (Int.tmod a0 24) 10)).bind fun t182 => (if ((((⟨#[100, 97, 121, 32]⟩ : ByteArray) ++ t180) ++ (⟨#[44, 32]⟩ : ByteArray)) ++ t181).size + t182.size ≤ 9223372036854775807 then (if (((((⟨#[100, 97, 121, 32]⟩ : ByteArray) ++ t180) ++ (⟨#[44, 32]⟩ : ByteArray)) ++ t181) ++ t182).size + 3 ≤ 9223372036854775807 then (some ((((((⟨#[100, 97, 121, 32]⟩ : ByteArray) ++ t180) ++ (⟨#[44, 32]⟩ : ByteArray)) ++ t181) ++ t182) ++ (⟨#[58, 48, 48]⟩ : ByteArray))) else (none)) else (none))) else (none))) else (none)) else (none))
set_option maxHeartbeats 8000000 in
set_option maxRecDepth 100000 in
theorem impl_hourText.calls (a0 : Int) (r : ByteArray) (w : World) (htN : TabN w) (h : impl_hourText.f a0 = some r) :
  Calls Tryz.prog 50 #[.int .i64 a0] w fun e w' => e = .returned (.string r) ∧ Below w.heap.size w w' := by
 have HTN := zm htN
 clear htN
 have HB := zm (Below.refl w.heap.size w)
 have H : ((strconv_Itoa.f (wrap64 ((wrap64 (Int.tdiv a0 24)) + 1))).bind fun t180 => (if 4 + t180.size ≤ 9223372036854775807 then (if ((⟨#[100, 97, 121, 32]⟩ : ByteArray) ++ t180).size + 2 ≤ 9223372036854775807 then ((strconv_Itoa.f (wrap64 (Int.tdiv (Int.tmod a0 24) 10))).bind fun t181 => (if (((⟨#[100, 97, 121, 32]⟩ : ByteArray) ++ t180) ++ (⟨#[44, 32]⟩ : ByteArray)).size + t181.size ≤ 9223372036854775807 then ((strconv_Itoa.f (Int.tmod (Int.tmod a0 24) 10)).bind fun t182 => (if ((((⟨#[100, 97, 121, 32]⟩ : ByteArray) ++ t180) ++ (⟨#[44, 32]⟩ : ByteArray)) ++ t181).size + t182.size ≤ 9223372036854775807 then (if (((((⟨#[100, 97, 121, 32]⟩ : ByteArray) ++ t180) ++ (⟨#[44, 32]⟩ : ByteArray)) ++ t181) ++ t182).size + 3 ≤ 9223372036854775807 then (some ((((((⟨#[100, 97, 121, 32]⟩ : ByteArray) ++ t180) ++ (⟨#[44, 32]⟩ : ByteArray)) ++ t181) ++ t182) ++ (⟨#[58, 48, 48]⟩ : ByteArray))) else (none)) else (none))) else (none))) else (none)) else (none))) = some r := h
 clear h
 obtain ⟨t180, A20, H⟩ := zob H
 replace H : (if 4 + t180.size ≤ 9223372036854775807 then (if ((⟨#[100, 97, 121, 32]⟩ : ByteArray) ++ t180).size + 2 ≤ 9223372036854775807 then ((strconv_Itoa.f (wrap64 (Int.tdiv (Int.tmod a0 24) 10))).bind fun t181 => (if (((⟨#[100, 97, 121, 32]⟩ : ByteArray) ++ t180) ++ (⟨#[44, 32]⟩ : ByteArray)).size + t181.size ≤ 9223372036854775807 then ((strconv_Itoa.f (Int.tmod (Int.tmod a0 24) 10)).bind fun t182 => (if ((((⟨#[100, 97, 121, 32]⟩ : ByteArray) ++ t180) ++ (⟨#[44, 32]⟩ : ByteArray)) ++ t181).size + t182.size ≤ 9223372036854775807 then (if (((((⟨#[100, 97, 121, 32]⟩ : ByteArray) ++ t180) ++ (⟨#[44, 32]⟩ : ByteArray)) ++ t181) ++ t182).size + 3 ≤ 9223372036854775807 then (some ((((((⟨#[100, 97, 121, 32]⟩ : ByteArray) ++ t180) ++ (⟨#[44, 32]⟩ : ByteArray)) ++ t181) ++ t182) ++ (⟨#[58, 48, 48]⟩ : ByteArray))) else (none)) else (none))) else (none))) else (none)) else (none)) = some r := H
 have A2 := zm A20
 clear A20
 by_cases c3 : 4 + t180.size ≤ 9223372036854775807
 case neg =>
  rw [if_neg c3] at H
  exact absurd H (by simp)
 rw [if_pos c3] at H
 have c3b0 := eq_true c3
 have c3b1 : decide (4 + t180.size ≤ 9223372036854775807) = true := decide_eq_true c3
 try have c3b2 : (9223372036854775807 < 4 + t180.size) = False := eq_false (Nat.not_lt.2 c3)
 by_cases c4 : ((⟨#[100, 97, 121, 32]⟩ : ByteArray) ++ t180).size + 2 ≤ 9223372036854775807
 case neg =>
  rw [if_neg c4] at H
  exact absurd H (by simp)
 rw [if_pos c4] at H
 have c4b0 := eq_true c4
 have c4b1 : decide (((⟨#[100, 97, 121, 32]⟩ : ByteArray) ++ t180).size + 2 ≤ 9223372036854775807) = true := decide_eq_true c4
 try have c4b2 : (9223372036854775807 < ((⟨#[100, 97, 121, 32]⟩ : ByteArray) ++ t180).size + 2) = False := eq_false (Nat.not_lt.2 c4)
 try have c4b3 : (9223372036854775807 < 4 + t180.size + 2) = False := eq_false (Nat.not_lt.2 (by have q_ := c4; simp only [ByteArray.size_append] at q_; exact q_))
 obtain ⟨t181, A50, H⟩ := zob H
 replace H : (if (((⟨#[100, 97, 121, 32]⟩ : ByteArray) ++ t180) ++ (⟨#[44, 32]⟩ : ByteArray)).size + t181.size ≤ 9223372036854775807 then ((strconv_Itoa.f (Int.tmod (Int.tmod a0 24) 10)).bind fun t182 => (if ((((⟨#[100, 97, 121, 32]⟩ : ByteArray) ++ t180) ++ (⟨#[44, 32]⟩ : ByteArray)) ++ t181).size + t182.size ≤ 9223372036854775807 then (if (((((⟨#[100, 97, 121, 32]⟩ : ByteArray) ++ t180) ++ (⟨#[44, 32]⟩ : ByteArray)) ++ t181) ++ t182).size + 3 ≤ 9223372036854775807 then (some ((((((⟨#[100, 97, 121, 32]⟩ : ByteArray) ++ t180) ++ (⟨#[44, 32]⟩ : ByteArray)) ++ t181) ++ t182) ++ (⟨#[58, 48, 48]⟩ : ByteArray))) else (none)) else (none))) else (none)) = some r := H
 have A5 := zm A50
 clear A50
 by_cases c6 : (((⟨#[100, 97, 121, 32]⟩ : ByteArray) ++ t180) ++ (⟨#[44, 32]⟩ : ByteArray)).size + t181.size ≤ 9223372036854775807
 case neg =>
  rw [if_neg c6] at H
  exact absurd H (by simp)
 rw [if_pos c6] at H
 have c6b0 := eq_true c6
 have c6b1 : decide ((((⟨#[100, 97, 121, 32]⟩ : ByteArray) ++ t180) ++ (⟨#[44, 32]⟩ : ByteArray)).size + t181.size ≤ 9223372036854775807) = true := decide_eq_true c6
 try have c6b2 : (9223372036854775807 < (((⟨#[100, 97, 121, 32]⟩ : ByteArray) ++ t180) ++ (⟨#[44, 32]⟩ : ByteArray)).size + t181.size) = False := eq_false (Nat.not_lt.2 c6)
 try have c6b3 : (9223372036854775807 < 4 + t180.size + 2 + t181.size) = False := eq_false (Nat.not_lt.2 (by have q_ := c6; simp only [ByteArray.size_append] at q_; exact q_))
 obtain ⟨t182, A70, H⟩ := zob H
 replace H : (if ((((⟨#[100, 97, 121, 32]⟩ : ByteArray) ++ t180) ++ (⟨#[44, 32]⟩ : ByteArray)) ++ t181).size + t182.size ≤ 9223372036854775807 then (if (((((⟨#[100, 97, 121, 32]⟩ : ByteArray) ++ t180) ++ (⟨#[44, 32]⟩ : ByteArray)) ++ t181) ++ t182).size + 3 ≤ 9223372036854775807 then (some ((((((⟨#[100, 97, 121, 32]⟩ : ByteArray) ++ t180) ++ (⟨#[44, 32]⟩ : ByteArray)) ++ t181) ++ t182) ++ (⟨#[58, 48, 48]⟩ : ByteArray))) else (none)) else (none)) = some r := H
 have A7 := zm A70
 clear A70
 by_cases c8 : ((((⟨#[100, 97, 121, 32]⟩ : ByteArray) ++ t180) ++ (⟨#[44, 32]⟩ : ByteArray)) ++ t181).size + t182.size ≤ 9223372036854775807
 case neg =>
  rw [if_neg c8] at H
  exact absurd H (by simp)
 rw [if_pos c8] at H
 have c8b0 := eq_true c8
 have c8b1 : decide (((((⟨#[100, 97, 121, 32]⟩ : ByteArray) ++ t180) ++ (⟨#[44, 32]⟩ : ByteArray)) ++ t181).size + t182.size ≤ 9223372036854775807) = true := decide_eq_true c8
 try have c8b2 : (9223372036854775807 < ((((⟨#[100, 97, 121, 32]⟩ : ByteArray) ++ t180) ++ (⟨#[44, 32]⟩ : ByteArray)) ++ t181).size + t182.size) = False := eq_false (Nat.not_lt.2 c8)
 try have c8b3 : (9223372036854775807 < 4 + t180.size + 2 + t181.size + t182.size) = False := eq_false (Nat.not_lt.2 (by have q_ := c8; simp only [ByteArray.size_append] at q_; exact q_))
 by_cases c9 : (((((⟨#[100, 97, 121, 32]⟩ : ByteArray) ++ t180) ++ (⟨#[44, 32]⟩ : ByteArray)) ++ t181) ++ t182).size + 3 ≤ 9223372036854775807
 case neg =>
  rw [if_neg c9] at H
  exact absurd H (by simp)
 rw [if_pos c9] at H
 have c9b0 := eq_true c9
 have c9b1 : decide ((((((⟨#[100, 97, 121, 32]⟩ : ByteArray) ++ t180) ++ (⟨#[44, 32]⟩ : ByteArray)) ++ t181) ++ t182).size + 3 ≤ 9223372036854775807) = true := decide_eq_true c9
 try have c9b2 : (9223372036854775807 < (((((⟨#[100, 97, 121, 32]⟩ : ByteArray) ++ t180) ++ (⟨#[44, 32]⟩ : ByteArray)) ++ t181) ++ t182).size + 3) = False := eq_false (Nat.not_lt.2 c9)
 try have c9b3 : (9223372036854775807 < 4 + t180.size + 2 + t181.size + t182.size + 3) = False := eq_false (Nat.not_lt.2 (by have q_ := c9; simp only [ByteArray.size_append] at q_; exact q_))
 obtain rfl := Option.some.inj H
 go_enter Tryz.func50, Tryz.ntmps50
 go_wp2_with (first | ((with_reducible refine gate_callee (f := 53) rfl ?_); refine goesL_ (some 6) rfl rfl Tryz.func53 (by kernel_rfl) rfl #[.int .i64 (wrap64 ((wrap64 (Int.tdiv a0 24)) + 1))] rfl zq1 ?_; (with_reducible refine (strconv_Itoa.calls (wrap64 ((wrap64 (Int.tdiv a0 24)) + 1)) t180 _ (HTN.out.below zq0) A2.out).mono ?_); rintro e w10 ⟨rfl, hb⟩; refine ⟨_, rfl, ?_⟩; replace HB := zm (below_step zq0 hb); (try clear hb); (try clear hb2); (try clear hk); (try clear hi)) | ((with_reducible refine gate_callee (f := 53) rfl ?_); refine goesL_ (some 12) rfl rfl Tryz.func53 (by kernel_rfl) rfl #[.int .i64 (wrap64 (Int.tdiv (Int.tmod a0 24) 10))] rfl zq1 ?_; (with_reducible refine (strconv_Itoa.calls (wrap64 (Int.tdiv (Int.tmod a0 24) 10)) t181 _ (HTN.out.below zq0) A5.out).mono ?_); rintro e w11 ⟨rfl, hb⟩; refine ⟨_, rfl, ?_⟩; replace HB := zm (below_step zq0 hb); (try clear hb); (try clear hb2); (try clear hk); (try clear hi)) | ((with_reducible refine gate_callee (f := 53) rfl ?_); refine goesL_ (some 17) rfl rfl Tryz.func53 (by kernel_rfl) rfl #[.int .i64 (Int.tmod (Int.tmod a0 24) 10)] rfl zq1 ?_; (with_reducible refine (strconv_Itoa.calls (Int.tmod (Int.tmod a0 24) 10) t182 _ (HTN.out.below zq0) A7.out).mono ?_); rintro e w12 ⟨rfl, hb⟩; refine ⟨_, rfl, ?_⟩; replace HB := zm (below_step zq0 hb); (try clear hb); (try clear hb2); (try clear hk); (try clear hi)))
 go_ret
 exact ⟨zqE, zq0⟩
def impl_warningText.c.T1 : Bool × List (List Nat × List Nat) := (true, [([], []), ([0], [0]), ([1], [1]), ([2], [2]), ([3], [3]), ([], []), ([5], [5]), ([6], [6]), ([7], [7]), ([4, 8], [4, 8]), ([9], [9]), ([], []), ([11], [11]), ([12], [12]), ([10, 13], [10, 13]), ([14], [14]), ([], []), ([16], [16]), ([17, 13], [17]), ([15, 18], [15, 18]), ([19], [19]), ([], []), ([21], [21]), ([22, 18], [22]), ([20, 23], [20, 23]), ([24], [24]), ([], []), ([26], [26]), ([27, 23], [27]), ([25, 28], [25, 28]), ([29], [29]), ([30, 28, 0, 1, 2, 3, 4, 5, 6, 7, 8, 9, 10, 11, 12, 13, 14, 15, 16, 17, 18, 19, 20, 21, 22, 23, 24, 25, 26, 27, 28, 29, 30], [30])])
def impl_warningText.c.B1 : List Nat := [0, 1, 3, 7, 15, 0, 32, 96, 224, 511, 1023, 0, 2048, 6144, 16383, 32767, 0, 65536, 210944, 524287, 1048575, 0, 2097152, 6764544, 16777215, 33554431, 0, 67108864, 216479744, 536870911, 1073741823, 2147483647]
theorem impl_warningText.c.tab1 : rtab .any (opsOf Tryz.f24 1) = impl_warningText.c.T1 := by kernel_rfl
theorem impl_warningText.c.bits1 : waitsOk impl_warningText.c.T1.2 impl_warningText.c.B1 = true := by kernel_rfl
def impl_warningText.f (a0_0 : Int) (a0_1 : Int) (a0_2 : Int) (a0_3 : Int) (a0_4 : Int) (a0_5 : Int) : Option ByteArray := if 0 ≤ a0_2 ∧ a0_2 < 4 ∧ 0 ≤ a0_1 ∧ a0_1 < 6 then (strconv_Itoa.f a0_3).bind fun t1 => ((impl_hourText.f a0_4).bind fun t2 => ((impl_hourText.f a0_5).bind fun t3 => ((strconv_Itoa.f a0_0).bind fun t4 => (if t1.size + t2.size + t3.size + t4.size ≤ 1000000 then some ((((((((((((wordS levelT a0_2) ++ (⟨#[32, 119, 97, 114, 110, 105, 110, 103, 32, 111, 102, 32]⟩ : ByteArray)) ++ (wordS topicT a0_1)) ++ (⟨#[32, 102, 111, 114, 32, 97, 114, 101, 97, 32]⟩ : ByteArray)) ++ t1) ++ (⟨#[32, 102, 114, 111, 109, 32]⟩ : ByteArray)) ++ t2) ++ (⟨#[32, 117, 110, 116, 105, 108, 32]⟩ : ByteArray)) ++ t3) ++ (⟨#[32, 40, 110, 111, 46, 32]⟩ : ByteArray)) ++ t4) ++ (⟨#[41, 46]⟩ : ByteArray)) else none)))) else none
set_option maxHeartbeats 4000000 in
set_option maxRecDepth 100000 in
theorem impl_warningText.walk (a0_0 a0_1 a0_2 a0_3 a0_4 a0_5 : Int) (L O t1 t2 t3 t4 : ByteArray) (w : World) (htN : TabN w) (hL : w.cell? ⟨1, (a0_2).toNat, none⟩ = some (.string L)) (hO : w.cell? ⟨0, (a0_1).toNat, none⟩ = some (.string O))
  (b1 : 0 ≤ a0_2) (b2 : a0_2 < 4) (b3 : 0 ≤ a0_1) (b4 : a0_1 < 6) (e1 : strconv_Itoa.f a0_3 = some t1) (e2 : impl_hourText.f a0_4 = some t2) (e3 : impl_hourText.f a0_5 = some t3) (e4 : strconv_Itoa.f a0_0 = some t4)
  (hs : t1.size + t2.size + t3.size + t4.size ≤ 1000000) (hsL : L.size ≤ 10) (hsO : O.size ≤ 10) :
  Calls Tryz.prog 24 #[.agg #[.int .i64 a0_0, .int .i64 a0_1, .int .i64 a0_2, .int .i64 a0_3, .int .i64 a0_4, .int .i64 a0_5]] w fun e w' => e = .returned (.string (((((((((((L ++ (⟨#[32, 119, 97, 114, 110, 105, 110, 103, 32, 111, 102, 32]⟩ : ByteArray)) ++ O) ++ (⟨#[32, 102, 111, 114, 32, 97, 114, 101, 97, 32]⟩ : ByteArray)) ++ t1) ++ (⟨#[32, 102, 114, 111, 109, 32]⟩ : ByteArray)) ++ t2) ++ (⟨#[32, 117, 110, 116, 105, 108, 32]⟩ : ByteArray)) ++ t3) ++ (⟨#[32, 40, 110, 111, 46, 32]⟩ : ByteArray)) ++ t4) ++ (⟨#[41, 46]⟩ : ByteArray))) ∧ Below w.heap.size w w' := by
 have hu := Tryz.underlying25
 have hv1 := Tryz.underlying57
 have hv0 := Tryz.underlying56
 have HTN := zm htN
 have E1 := zm e1
 have E2 := zm e2
 have E3 := zm e3
 have E4 := zm e4
 have z2 : (9223372036854775807 < L.size + 12) = False := eq_false (by omega)
 have z3 : (9223372036854775807 < L.size + 12 + O.size) = False := eq_false (by omega)
 have z4 : (9223372036854775807 < L.size + 12 + O.size + 10) = False := eq_false (by omega)
 have z5 : (9223372036854775807 < L.size + 12 + O.size + 10 + t1.size) = False := eq_false (by omega)
 have z6 : (9223372036854775807 < L.size + 12 + O.size + 10 + t1.size + 6) = False := eq_false (by omega)
 have z7 : (9223372036854775807 < L.size + 12 + O.size + 10 + t1.size + 6 + t2.size) = False := eq_false (by omega)
 have z8 : (9223372036854775807 < L.size + 12 + O.size + 10 + t1.size + 6 + t2.size + 7) = False := eq_false (by omega)
 have z9 : (9223372036854775807 < L.size + 12 + O.size + 10 + t1.size + 6 + t2.size + 7 + t3.size) = False := eq_false (by omega)
 have z10 : (9223372036854775807 < L.size + 12 + O.size + 10 + t1.size + 6 + t2.size + 7 + t3.size + 6) = False := eq_false (by omega)
 have z11 : (9223372036854775807 < L.size + 12 + O.size + 10 + t1.size + 6 + t2.size + 7 + t3.size + 6 + t4.size) = False := eq_false (by omega)
 have z12 : (9223372036854775807 < L.size + 12 + O.size + 10 + t1.size + 6 + t2.size + 7 + t3.size + 6 + t4.size + 2) = False := eq_false (by omega)
 have hB0 : Below w.heap.size w (w.alloc (.cells #[.int .i64 a0_0, .int .i64 a0_1, .int .i64 a0_2, .int .i64 a0_3, .int .i64 a0_4, .int .i64 a0_5] 25)) := (Below.refl w.heap.size w).alloc (Nat.le_refl _) _
 have c0 : (w.alloc (.cells #[.int .i64 a0_0, .int .i64 a0_1, .int .i64 a0_2, .int .i64 a0_3, .int .i64 a0_4, .int .i64 a0_5] 25)).cell? ⟨w.heap.size, 0, none⟩ = some (.int .i64 a0_0) := by simp
 have c1 : (w.alloc (.cells #[.int .i64 a0_0, .int .i64 a0_1, .int .i64 a0_2, .int .i64 a0_3, .int .i64 a0_4, .int .i64 a0_5] 25)).cell? ⟨w.heap.size, 1, none⟩ = some (.int .i64 a0_1) := by simp
 have c2 : (w.alloc (.cells #[.int .i64 a0_0, .int .i64 a0_1, .int .i64 a0_2, .int .i64 a0_3, .int .i64 a0_4, .int .i64 a0_5] 25)).cell? ⟨w.heap.size, 2, none⟩ = some (.int .i64 a0_2) := by simp
 have c3 : (w.alloc (.cells #[.int .i64 a0_0, .int .i64 a0_1, .int .i64 a0_2, .int .i64 a0_3, .int .i64 a0_4, .int .i64 a0_5] 25)).cell? ⟨w.heap.size, 3, none⟩ = some (.int .i64 a0_3) := by simp
 have c4 : (w.alloc (.cells #[.int .i64 a0_0, .int .i64 a0_1, .int .i64 a0_2, .int .i64 a0_3, .int .i64 a0_4, .int .i64 a0_5] 25)).cell? ⟨w.heap.size, 4, none⟩ = some (.int .i64 a0_4) := by simp
 have c5 : (w.alloc (.cells #[.int .i64 a0_0, .int .i64 a0_1, .int .i64 a0_2, .int .i64 a0_3, .int .i64 a0_4, .int .i64 a0_5] 25)).cell? ⟨w.heap.size, 5, none⟩ = some (.int .i64 a0_5) := by simp
 have c6 : (w.alloc (.cells #[.int .i64 a0_0, .int .i64 a0_1, .int .i64 a0_2, .int .i64 a0_3, .int .i64 a0_4, .int .i64 a0_5] 25)).cell? ⟨1, (a0_2).toNat, none⟩ = some (.string L) := (hB0.cell (World.block_lt_of_cell? _ _ hL)).trans hL
 have c7 : (w.alloc (.cells #[.int .i64 a0_0, .int .i64 a0_1, .int .i64 a0_2, .int .i64 a0_3, .int .i64 a0_4, .int .i64 a0_5] 25)).cell? ⟨0, (a0_1).toNat, none⟩ = some (.string O) := (hB0.cell (World.block_lt_of_cell? _ _ hO)).trans hO
 have HB := zm hB0.drew
 have d1 : decide (0 ≤ a0_2) = true := decide_eq_true b1
 have d2 : decide (a0_2 < 4) = true := decide_eq_true b2
 have d3 : decide (0 ≤ a0_1) = true := decide_eq_true b3
 have d4 : decide (a0_1 < 6) = true := decide_eq_true b4
 replace b1 := eq_true b1
 replace b2 := eq_true b2
 replace b3 := eq_true b3
 replace b4 := eq_true b4
 clear hB0 hL hO htN e1 e2 e3 e4 hs hsL hsO
 go_enter Tryz.func24, Tryz.ntmps24
 go_wp2_with fail
 refine start_ (n := 32) (S := fun w' => w'.cell? ⟨w.heap.size, 0, none⟩ = some (.int .i64 a0_0) ∧ w'.cell? ⟨w.heap.size, 1, none⟩ = some (.int .i64 a0_1) ∧ w'.cell? ⟨w.heap.size, 2, none⟩ = some (.int .i64 a0_2) ∧ w'.cell? ⟨w.heap.size, 3, none⟩ = some (.int .i64 a0_3) ∧ w'.cell? ⟨w.heap.size, 4, none⟩ = some (.int .i64 a0_4) ∧ w'.cell? ⟨w.heap.size, 5, none⟩ = some (.int .i64 a0_5) ∧ w'.cell? ⟨1, (a0_2).toNat, none⟩ = some (.string L) ∧ w'.cell? ⟨0, (a0_1).toNat, none⟩ = some (.string O)) (ds := []) #[zf, zf, zf, zf, zf, zf, zf, zf, zf, zf, zf, zf, zf, zf, zf, zf, zf, zf, zf, zf, zf, zf, zf, zf, zf, zf, zf, zf, zf, zf, zf, zf] (by kernel_rfl) rfl rfl ⟨(cell_drew6 c0), (cell_drew6 c1), (cell_drew6 c2), (cell_drew6 c3), (cell_drew6 c4), (cell_drew6 c5), (cell_drew6 c6), (cell_drew6 c7)⟩ (fun hHeld => ?_)
 refine with_tabW impl_warningText.c.tab1 impl_warningText.c.bits1 (fun HT_ HW_ => ?_)
 generalize (w.alloc (.cells #[.int .i64 a0_0, .int .i64 a0_1, .int .i64 a0_2, .int .i64 a0_3, .int .i64 a0_4, .int .i64 a0_5] 25)).drew = w1 at HB hHeld ⊢
 refine zP 0 (some 3) #[zt, zf, zf, zf, zf, zf, zf, zf, zf, zf, zf, zf, zf, zf, zf, zf, zf, zf, zf, zf, zf, zf, zf, zf, zf, zf, zf, zf, zf, zf, zf, zf] ?_ rfl rfl HT_ (Or.inl ⟨by rfl, ?_⟩) ?_ ?_ ?_
 rotate_left; · exact zqB
 rotate_left; · exact zqA
 refine zP 5 (some 8) #[zt, zf, zf, zf, zf, zt, zf, zf, zf, zf, zf, zf, zf, zf, zf, zf, zf, zf, zf, zf, zf, zf, zf, zf, zf, zf, zf, zf, zf, zf, zf, zf] ?_ rfl rfl HT_ (Or.inl ⟨by rfl, ?_⟩) ?_ ?_ ?_
 rotate_left; · exact zqB
 rotate_left; · exact zqA
 refine zP 11 (some 14) #[zt, zf, zf, zf, zf, zt, zf, zf, zf, zf, zf, zt, zf, zf, zf, zf, zf, zf, zf, zf, zf, zf, zf, zf, zf, zf, zf, zf, zf, zf, zf, zf] ?_ rfl rfl HT_ (Or.inl ⟨by rfl, ?_⟩) ?_ ?_ ?_
 rotate_left; · exact zqB
 rotate_left; · exact zqA
 refine zP 16 (some 19) #[zt, zf, zf, zf, zf, zt, zf, zf, zf, zf, zf, zt, zf, zf, zf, zf, zt, zf, zf, zf, zf, zf, zf, zf, zf, zf, zf, zf, zf, zf, zf, zf] ?_ rfl rfl HT_ (Or.inl ⟨by rfl, ?_⟩) ?_ ?_ ?_
 rotate_left; · exact zqB
 rotate_left; · exact zqA
 refine zP 21 (some 24) #[zt, zf, zf, zf, zf, zt, zf, zf, zf, zf, zf, zt, zf, zf, zf, zf, zt, zf, zf, zf, zf, zt, zf, zf, zf, zf, zf, zf, zf, zf, zf, zf] ?_ rfl rfl HT_ (Or.inl ⟨by rfl, ?_⟩) ?_ ?_ ?_
 rotate_left; · exact zqB
 rotate_left; · exact zqA
 refine zP 26 (some 29) #[zt, zf, zf, zf, zf, zt, zf, zf, zf, zf, zf, zt, zf, zf, zf, zf, zt, zf, zf, zf, zf, zt, zf, zf, zf, zf, zt, zf, zf, zf, zf, zf] ?_ rfl rfl HT_ (Or.inl ⟨by rfl, ?_⟩) ?_ ?_ ?_
 rotate_left; · exact zqB
 rotate_left; · exact zqA
 refine zT 1 (some 4) #[zt, zt, zf, zf, zf, zt, zf, zf, zf, zf, zf, zt, zf, zf, zf, zf, zt, zf, zf, zf, zf, zt, zf, zf, zf, zf, zt, zf, zf, zf, zf, zf] ?_ rfl rfl HT_ HW_ (Or.inl ⟨by rfl, ?_⟩) hHeld ?_ ?_ ?_
 rotate_left
 ·
  rintro w' ⟨s0, s1, s2, s3, s4, s5, s6, s7⟩
  go_simp
  with_reducible rfl
 rotate_left; · exact zqA
 refine zP 2 (some 5) #[zt, zt, zt, zf, zf, zt, zf, zf, zf, zf, zf, zt, zf, zf, zf, zf, zt, zf, zf, zf, zf, zt, zf, zf, zf, zf, zt, zf, zf, zf, zf, zf] ?_ rfl rfl HT_ (Or.inl ⟨by rfl, ?_⟩) ?_ ?_ ?_
 rotate_left; · exact zqB
 rotate_left; · exact zqA
 refine zT 3 (some 6) #[zt, zt, zt, zt, zf, zt, zf, zf, zf, zf, zf, zt, zf, zf, zf, zf, zt, zf, zf, zf, zf, zt, zf, zf, zf, zf, zt, zf, zf, zf, zf, zf] ?_ rfl rfl HT_ HW_ (Or.inl ⟨by rfl, ?_⟩) hHeld ?_ ?_ ?_
 rotate_left
 ·
  rintro w' ⟨s0, s1, s2, s3, s4, s5, s6, s7⟩
  go_simp
  with_reducible rfl
 rotate_left; · exact zqA
 refine zP 4 (some 7) #[zt, zt, zt, zt, zt, zt, zf, zf, zf, zf, zf, zt, zf, zf, zf, zf, zt, zf, zf, zf, zf, zt, zf, zf, zf, zf, zt, zf, zf, zf, zf, zf] ?_ rfl rfl HT_ (Or.inl ⟨by rfl, ?_⟩) ?_ ?_ ?_
 rotate_left; · exact zqB
 rotate_left; · exact zqA
 refine zT 6 (some 9) #[zt, zt, zt, zt, zt, zt, zt, zf, zf, zf, zf, zt, zf, zf, zf, zf, zt, zf, zf, zf, zf, zt, zf, zf, zf, zf, zt, zf, zf, zf, zf, zf] ?_ rfl rfl HT_ HW_ (Or.inl ⟨by rfl, ?_⟩) hHeld ?_ ?_ ?_
 rotate_left
 ·
  rintro w' ⟨s0, s1, s2, s3, s4, s5, s6, s7⟩
  go_simp
  with_reducible rfl
 rotate_left; · exact zqA
 refine zP 7 (some 10) #[zt, zt, zt, zt, zt, zt, zt, zt, zf, zf, zf, zt, zf, zf, zf, zf, zt, zf, zf, zf, zf, zt, zf, zf, zf, zf, zt, zf, zf, zf, zf, zf] ?_ rfl rfl HT_ (Or.inl ⟨by rfl, ?_⟩) ?_ ?_ ?_
 rotate_left; · exact zqB
 rotate_left; · exact zqA
 refine zT 8 (some 11) #[zt, zt, zt, zt, zt, zt, zt, zt, zt, zf, zf, zt, zf, zf, zf, zf, zt, zf, zf, zf, zf, zt, zf, zf, zf, zf, zt, zf, zf, zf, zf, zf] ?_ rfl rfl HT_ HW_ (Or.inl ⟨by rfl, ?_⟩) hHeld ?_ ?_ ?_
 rotate_left
 ·
  rintro w' ⟨s0, s1, s2, s3, s4, s5, s6, s7⟩
  go_simp
  with_reducible rfl
 rotate_left; · exact zqA
 refine zP 9 (some 12) #[zt, zt, zt, zt, zt, zt, zt, zt, zt, zt, zf, zt, zf, zf, zf, zf, zt, zf, zf, zf, zf, zt, zf, zf, zf, zf, zt, zf, zf, zf, zf, zf] ?_ rfl rfl HT_ (Or.inl ⟨by rfl, ?_⟩) ?_ ?_ ?_
 rotate_left; · exact zqB
 rotate_left; · exact zqA
 refine zP 10 (some 13) #[zt, zt, zt, zt, zt, zt, zt, zt, zt, zt, zt, zt, zf, zf, zf, zf, zt, zf, zf, zf, zf, zt, zf, zf, zf, zf, zt, zf, zf, zf, zf, zf] ?_ rfl rfl HT_ (Or.inl ⟨by rfl, ?_⟩) ?_ ?_ ?_
 rotate_left; · exact zqB
 rotate_left; · exact zqA
 refine zT 12 (some 15) #[zt, zt, zt, zt, zt, zt, zt, zt, zt, zt, zt, zt, zt, zf, zf, zf, zt, zf, zf, zf, zf, zt, zf, zf, zf, zf, zt, zf, zf, zf, zf, zf] ?_ rfl rfl HT_ HW_ (Or.inl ⟨by rfl, ?_⟩) hHeld ?_ ?_ ?_
 rotate_left
 ·
  rintro w' ⟨s0, s1, s2, s3, s4, s5, s6, s7⟩
  go_simp
  with_reducible rfl
 rotate_left; · exact zqA
 refine zT 17 (some 20) #[zt, zt, zt, zt, zt, zt, zt, zt, zt, zt, zt, zt, zt, zf, zf, zf, zt, zt, zf, zf, zf, zt, zf, zf, zf, zf, zt, zf, zf, zf, zf, zf] ?_ rfl rfl HT_ HW_ (Or.inl ⟨by rfl, ?_⟩) hHeld ?_ ?_ ?_
 rotate_left
 ·
  rintro w' ⟨s0, s1, s2, s3, s4, s5, s6, s7⟩
  go_simp
  with_reducible rfl
 rotate_left; · exact zqA
 refine zT 22 (some 25) #[zt, zt, zt, zt, zt, zt, zt, zt, zt, zt, zt, zt, zt, zf, zf, zf, zt, zt, zf, zf, zf, zt, zt, zf, zf, zf, zt, zf, zf, zf, zf, zf] ?_ rfl rfl HT_ HW_ (Or.inl ⟨by rfl, ?_⟩) hHeld ?_ ?_ ?_
 rotate_left
 ·
  rintro w' ⟨s0, s1, s2, s3, s4, s5, s6, s7⟩
  go_simp
  with_reducible rfl
 rotate_left; · exact zqA
 refine zT 27 (some 30) #[zt, zt, zt, zt, zt, zt, zt, zt, zt, zt, zt, zt, zt, zf, zf, zf, zt, zt, zf, zf, zf, zt, zt, zf, zf, zf, zt, zt, zf, zf, zf, zf] ?_ rfl rfl HT_ HW_ (Or.inl ⟨by rfl, ?_⟩) hHeld ?_ ?_ ?_
 rotate_left
 ·
  rintro w' ⟨s0, s1, s2, s3, s4, s5, s6, s7⟩
  go_simp
  with_reducible rfl
 rotate_left; · exact zqA
 refine one_ (i := 13) (N := some 16) #[zt, zt, zt, zt, zt, zt, zt, zt, zt, zt, zt, zt, zt, zt, zf, zf, zt, zt, zf, zf, zf, zt, zt, zf, zf, zf, zt, zt, zf, zf, zf, zf] rfl rfl (one_of HT_.out (by kernel_rfl)) (by decide) (fun K hK => ?_)
 refine goes_ Tryz.func53 (by kernel_rfl) rfl #[.int .i64 a0_3] (by rfl) rfl rfl (by (try simp only [List.map_toArray, List.map_cons, List.map_nil]); first | done | rfl) ?_
 refine (strconv_Itoa.calls a0_3 t1 _ (HTN.out.below HB.out) E1.out).mono ?_
 rintro e w2 ⟨rfl, hb⟩
 refine ⟨_, rfl, ?_⟩
 obtain ⟨s0, s1, s2, s3, s4, s5, s6, s7⟩ := hHeld
 have HB_ := zm (HB.out.trans (hb.mono HB.out.size))
 clear HB
 have HB := HB_
 clear HB_
 refine hK.out _ _ ⟨(hb.cell (World.block_lt_of_cell? _ _ s0)).trans s0, (hb.cell (World.block_lt_of_cell? _ _ s1)).trans s1, (hb.cell (World.block_lt_of_cell? _ _ s2)).trans s2, (hb.cell (World.block_lt_of_cell? _ _ s3)).trans s3, (hb.cell (World.block_lt_of_cell? _ _ s4)).trans s4, (hb.cell (World.block_lt_of_cell? _ _ s5)).trans s5, (hb.cell (World.block_lt_of_cell? _ _ s6)).trans s6, (hb.cell (World.block_lt_of_cell? _ _ s7)).trans s7⟩ (fun hHeld => ?_)
 clear hK K hb s0 s1 s2 s3 s4 s5 s6 s7
 refine norm_ (a' := ?_) ?_ ?_
 rotate_left
 ·
  show Act.put _ (some 16) _ = _
  simp only [Act.put, List.setIfInBounds_toArray, List.set_cons_zero, List.set_cons_succ, i64_w, i32_w]
  rfl
 refine zP 14 (some 17) #[zt, zt, zt, zt, zt, zt, zt, zt, zt, zt, zt, zt, zt, zt, zt, zf, zt, zt, zf, zf, zf, zt, zt, zf, zf, zf, zt, zt, zf, zf, zf, zf] ?_ rfl rfl HT_ (Or.inl ⟨by rfl, ?_⟩) ?_ ?_ ?_
 rotate_left; · exact zqB
 rotate_left; · exact zqA
 refine zP 15 (some 18) #[zt, zt, zt, zt, zt, zt, zt, zt, zt, zt, zt, zt, zt, zt, zt, zt, zt, zt, zf, zf, zf, zt, zt, zf, zf, zf, zt, zt, zf, zf, zf, zf] ?_ rfl rfl HT_ (Or.inl ⟨by rfl, ?_⟩) ?_ ?_ ?_
 rotate_left; · exact zqB
 rotate_left; · exact zqA
 refine one_ (i := 18) (N := some 21) #[zt, zt, zt, zt, zt, zt, zt, zt, zt, zt, zt, zt, zt, zt, zt, zt, zt, zt, zt, zf, zf, zt, zt, zf, zf, zf, zt, zt, zf, zf, zf, zf] rfl rfl (one_of HT_.out (by kernel_rfl)) (by decide) (fun K hK => ?_)
 refine goes_ Tryz.func50 (by kernel_rfl) rfl #[.int .i64 a0_4] (by rfl) rfl rfl (by (try simp only [List.map_toArray, List.map_cons, List.map_nil]); first | done | rfl) ?_
 refine (impl_hourText.calls a0_4 t2 _ (HTN.out.below HB.out) E2.out).mono ?_
 rintro e w3 ⟨rfl, hb⟩
 refine ⟨_, rfl, ?_⟩
 obtain ⟨s0, s1, s2, s3, s4, s5, s6, s7⟩ := hHeld
 have HB_ := zm (HB.out.trans (hb.mono HB.out.size))
 clear HB
 have HB := HB_
 clear HB_
 refine hK.out _ _ ⟨(hb.cell (World.block_lt_of_cell? _ _ s0)).trans s0, (hb.cell (World.block_lt_of_cell? _ _ s1)).trans s1, (hb.cell (World.block_lt_of_cell? _ _ s2)).trans s2, (hb.cell (World.block_lt_of_cell? _ _ s3)).trans s3, (hb.cell (World.block_lt_of_cell? _ _ s4)).trans s4, (hb.cell (World.block_lt_of_cell? _ _ s5)).trans s5, (hb.cell (World.block_lt_of_cell? _ _ s6)).trans s6, (hb.cell (World.block_lt_of_cell? _ _ s7)).trans s7⟩ (fun hHeld => ?_)
 clear hK K hb s0 s1 s2 s3 s4 s5 s6 s7
 refine norm_ (a' := ?_) ?_ ?_
 rotate_left
 ·
  show Act.put _ (some 21) _ = _
  simp only [Act.put, List.setIfInBounds_toArray, List.set_cons_zero, List.set_cons_succ, i64_w, i32_w]
  rfl
 refine zP 19 (some 22) #[zt, zt, zt, zt, zt, zt, zt, zt, zt, zt, zt, zt, zt, zt, zt, zt, zt, zt, zt, zt, zf, zt, zt, zf, zf, zf, zt, zt, zf, zf, zf, zf] ?_ rfl rfl HT_ (Or.inl ⟨by rfl, ?_⟩) ?_ ?_ ?_
 rotate_left; · exact zqB
 rotate_left; · exact zqA
 refine zP 20 (some 23) #[zt, zt, zt, zt, zt, zt, zt, zt, zt, zt, zt, zt, zt, zt, zt, zt, zt, zt, zt, zt, zt, zt, zt, zf, zf, zf, zt, zt, zf, zf, zf, zf] ?_ rfl rfl HT_ (Or.inl ⟨by rfl, ?_⟩) ?_ ?_ ?_
 rotate_left; · exact zqB
 rotate_left; · exact zqA
 refine one_ (i := 23) (N := some 26) #[zt, zt, zt, zt, zt, zt, zt, zt, zt, zt, zt, zt, zt, zt, zt, zt, zt, zt, zt, zt, zt, zt, zt, zt, zf, zf, zt, zt, zf, zf, zf, zf] rfl rfl (one_of HT_.out (by kernel_rfl)) (by decide) (fun K hK => ?_)
 refine goes_ Tryz.func50 (by kernel_rfl) rfl #[.int .i64 a0_5] (by rfl) rfl rfl (by (try simp only [List.map_toArray, List.map_cons, List.map_nil]); first | done | rfl) ?_
 refine (impl_hourText.calls a0_5 t3 _ (HTN.out.below HB.out) E3.out).mono ?_
 rintro e w4 ⟨rfl, hb⟩
 refine ⟨_, rfl, ?_⟩
 obtain ⟨s0, s1, s2, s3, s4, s5, s6, s7⟩ := hHeld
 have HB_ := zm (HB.out.trans (hb.mono HB.out.size))
 clear HB
 have HB := HB_
 clear HB_
 refine hK.out _ _ ⟨(hb.cell (World.block_lt_of_cell? _ _ s0)).trans s0, (hb.cell (World.block_lt_of_cell? _ _ s1)).trans s1, (hb.cell (World.block_lt_of_cell? _ _ s2)).trans s2, (hb.cell (World.block_lt_of_cell? _ _ s3)).trans s3, (hb.cell (World.block_lt_of_cell? _ _ s4)).trans s4, (hb.cell (World.block_lt_of_cell? _ _ s5)).trans s5, (hb.cell (World.block_lt_of_cell? _ _ s6)).trans s6, (hb.cell (World.block_lt_of_cell? _ _ s7)).trans s7⟩ (fun hHeld => ?_)
 clear hK K hb s0 s1 s2 s3 s4 s5 s6 s7
 refine norm_ (a' := ?_) ?_ ?_
 rotate_left
 ·
  show Act.put _ (some 26) _ = _
  simp only [Act.put, List.setIfInBounds_toArray, List.set_cons_zero, List.set_cons_succ, i64_w, i32_w]
  rfl
 refine zP 24 (some 27) #[zt, zt, zt, zt, zt, zt, zt, zt, zt, zt, zt, zt, zt, zt, zt, zt, zt, zt, zt, zt, zt, zt, zt, zt, zt, zf, zt, zt, zf, zf, zf, zf] ?_ rfl rfl HT_ (Or.inl ⟨by rfl, ?_⟩) ?_ ?_ ?_
 rotate_left; · exact zqB
 rotate_left; · exact zqA
 refine zP 25 (some 28) #[zt, zt, zt, zt, zt, zt, zt, zt, zt, zt, zt, zt, zt, zt, zt, zt, zt, zt, zt, zt, zt, zt, zt, zt, zt, zt, zt, zt, zf, zf, zf, zf] ?_ rfl rfl HT_ (Or.inl ⟨by rfl, ?_⟩) ?_ ?_ ?_
 rotate_left; · exact zqB
 rotate_left; · exact zqA
 refine one_ (i := 28) (N := some 31) #[zt, zt, zt, zt, zt, zt, zt, zt, zt, zt, zt, zt, zt, zt, zt, zt, zt, zt, zt, zt, zt, zt, zt, zt, zt, zt, zt, zt, zt, zf, zf, zf] rfl rfl (one_of HT_.out (by kernel_rfl)) (by decide) (fun K hK => ?_)
 refine goes_ Tryz.func53 (by kernel_rfl) rfl #[.int .i64 a0_0] (by rfl) rfl rfl (by (try simp only [List.map_toArray, List.map_cons, List.map_nil]); first | done | rfl) ?_
 refine (strconv_Itoa.calls a0_0 t4 _ (HTN.out.below HB.out) E4.out).mono ?_
 rintro e w5 ⟨rfl, hb⟩
 refine ⟨_, rfl, ?_⟩
 obtain ⟨s0, s1, s2, s3, s4, s5, s6, s7⟩ := hHeld
 have HB_ := zm (HB.out.trans (hb.mono HB.out.size))
 clear HB
 have HB := HB_
 clear HB_
 refine hK.out _ _ ⟨(hb.cell (World.block_lt_of_cell? _ _ s0)).trans s0, (hb.cell (World.block_lt_of_cell? _ _ s1)).trans s1, (hb.cell (World.block_lt_of_cell? _ _ s2)).trans s2, (hb.cell (World.block_lt_of_cell? _ _ s3)).trans s3, (hb.cell (World.block_lt_of_cell? _ _ s4)).trans s4, (hb.cell (World.block_lt_of_cell? _ _ s5)).trans s5, (hb.cell (World.block_lt_of_cell? _ _ s6)).trans s6, (hb.cell (World.block_lt_of_cell? _ _ s7)).trans s7⟩ (fun hHeld => ?_)
 clear hK K hb s0 s1 s2 s3 s4 s5 s6 s7
 refine norm_ (a' := ?_) ?_ ?_
 rotate_left
 ·
  show Act.put _ (some 31) _ = _
  simp only [Act.put, List.setIfInBounds_toArray, List.set_cons_zero, List.set_cons_succ, i64_w, i32_w]
  rfl
 refine zP 29 (some 32) #[zt, zt, zt, zt, zt, zt, zt, zt, zt, zt, zt, zt, zt, zt, zt, zt, zt, zt, zt, zt, zt, zt, zt, zt, zt, zt, zt, zt, zt, zt, zf, zf] ?_ rfl rfl HT_ (Or.inl ⟨by rfl, ?_⟩) ?_ ?_ ?_
 rotate_left; · exact zqB
 rotate_left; · exact zqA
 refine zP 30 (some 33) #[zt, zt, zt, zt, zt, zt, zt, zt, zt, zt, zt, zt, zt, zt, zt, zt, zt, zt, zt, zt, zt, zt, zt, zt, zt, zt, zt, zt, zt, zt, zt, zf] ?_ rfl rfl HT_ (Or.inl ⟨by rfl, ?_⟩) ?_ ?_ ?_
 rotate_left; · exact zqB
 rotate_left; · exact zqA
 refine zP 31 (some 2) #[zt, zt, zt, zt, zt, zt, zt, zt, zt, zt, zt, zt, zt, zt, zt, zt, zt, zt, zt, zt, zt, zt, zt, zt, zt, zt, zt, zt, zt, zt, zt, zt] ?_ rfl rfl HT_ (Or.inl ⟨by rfl, ?_⟩) ?_ ?_ ?_
 rotate_left; · exact zqB
 rotate_left; · exact zqA
 refine done_ (done_of HT_.out (by kernel_rfl)) ?_
 go_wp2
 go_ret
 exact ⟨rfl, HB.out⟩
theorem impl_warningText.calls (a0_0 : Int) (a0_1 : Int) (a0_2 : Int) (a0_3 : Int) (a0_4 : Int) (a0_5 : Int) (r : ByteArray) (w : World) (htL : TabL w) (htN : TabN w) (htO : TabO w) (h : impl_warningText.f a0_0 a0_1 a0_2 a0_3 a0_4 a0_5 = some r) :
  Calls Tryz.prog 24 #[.agg #[.int .i64 a0_0, .int .i64 a0_1, .int .i64 a0_2, .int .i64 a0_3, .int .i64 a0_4, .int .i64 a0_5]] w fun e w' => e = .returned (.string r) ∧ Below w.heap.size w w' := by
 unfold impl_warningText.f at h
 split at h
 ·
  rename_i b
  obtain ⟨t1, e1, h⟩ := Option.bind_eq_some_iff.mp h
  obtain ⟨t2, e2, h⟩ := Option.bind_eq_some_iff.mp h
  obtain ⟨t3, e3, h⟩ := Option.bind_eq_some_iff.mp h
  obtain ⟨t4, e4, h⟩ := Option.bind_eq_some_iff.mp h
  split at h
  ·
   rename_i hs
   obtain rfl := Option.some.inj h
   exact impl_warningText.walk a0_0 a0_1 a0_2 a0_3 a0_4 a0_5 _ _ t1 t2 t3 t4 w htN (strTab_cell htL (by kernel_rfl) a0_2 (by show a0_2.toNat < 4; omega)) (strTab_cell htO (by kernel_rfl) a0_1 (by show a0_1.toNat < 6; omega)) b.1 b.2.1 b.2.2.1 b.2.2.2 e1 e2 e3 e4 hs (wordL_size _) (wordO_size _)
  ·
   cases h
 ·
  cases h
def impl_WarningText.f (a0_0 : Int) (a0_1 : Int) (a0_2 : Int) (a0_3 : Int) (a0_4 : Int) (a0_5 : Int) : Option (ByteArray × Bool) := (impl_IsValidWarning.f a0_0 a0_1 a0_2 a0_3 a0_4 a0_5).bind fun t184 => (if t184 = true then ((impl_warningText.f a0_0 a0_1 a0_2 a0_3 a0_4 a0_5).bind fun t185 => (some (t185, true))) else (some ((⟨#[]⟩ : ByteArray), false)))
set_option maxHeartbeats 8000000 in
set_option maxRecDepth 100000 in
theorem impl_WarningText.calls (a0_0 : Int) (a0_1 : Int) (a0_2 : Int) (a0_3 : Int) (a0_4 : Int) (a0_5 : Int) (r1 : ByteArray) (r2 : Bool) (w : World) (htL : TabL w) (htN : TabN w) (htO : TabO w) (h : impl_WarningText.f a0_0 a0_1 a0_2 a0_3 a0_4 a0_5 = some (r1, r2)) :
  Calls Tryz.prog 6 #[.agg #[.int .i64 a0_0, .int .i64 a0_1, .int .i64 a0_2, .int .i64 a0_3, .int .i64 a0_4, .int .i64 a0_5]] w fun e w' => e = .returned (.tuple #[.string r1, .bool r2]) ∧ Below w.heap.size w w' := by
 have HTL := zm htL
 clear htL
 have HTN := zm htN
 clear htN
 have HTO := zm htO
 clear htO
 have hu25 := Tryz.underlying25
 have HB := zm (Below.refl w.heap.size w)
 have H : ((impl_IsValidWarning.f a0_0 a0_1 a0_2 a0_3 a0_4 a0_5).bind fun t184 => (if t184 = true then ((impl_warningText.f a0_0 a0_1 a0_2 a0_3 a0_4 a0_5).bind fun t185 => (some (t185, true))) else (some ((⟨#[]⟩ : ByteArray), false)))) = some (r1, r2) := h
 clear h
 obtain ⟨t184, A20, H⟩ := zob H
 replace H : (if t184 = true then ((impl_warningText.f a0_0 a0_1 a0_2 a0_3 a0_4 a0_5).bind fun t185 => (some (t185, true))) else (some ((⟨#[]⟩ : ByteArray), false))) = some (r1, r2) := H
 have A2 := zm A20
 clear A20
 by_cases c3 : t184 = true
 case neg =>
  replace c3 := Bool.eq_false_iff.mpr c3
  subst c3
  have H1 : (some ((⟨#[]⟩ : ByteArray), false)) = some (r1, r2) := by rw [if_neg (show ¬ (false = true) by decide)] at H; exact H
  clear H
  have H := H1
  clear H1
  simp only [Option.some.injEq, Prod.mk.injEq] at H
  obtain ⟨rfl, rfl⟩ := H
  go_enter Tryz.func6, Tryz.ntmps6
  go_wp2_with (first | ((with_reducible refine gate_dst (N := 1) rfl ?_); refine box_event ?hg (N := 1) ?hd (cs := #[.int .i64 a0_0, .int .i64 a0_1, .int .i64 a0_2, .int .i64 a0_3, .int .i64 a0_4, .int .i64 a0_5]) (t := 25) ?hr ?_; (case hd => rfl); (case hg => rfl); (case hr => exact zqS); intro gb183 hg w10 hbox hb; have BK183 := zm (hbox); have GW183 := zm ((by rw [hg]; exact (below_size zq0) : w.heap.size ≤ gb183)); replace HB := zm (below_step zq0 hb); have GE183 := GW183; clear hb hbox hg; obtain ⟨hcz11_0, hcz11_1, hcz11_2, hcz11_3, hcz11_4, hcz11_5, hfz11_0, hfz11_1, hfz11_2, hfz11_3, hfz11_4, hfz11_5⟩ := bz6 BK183.out) | ((with_reducible refine gate_callee (f := 23) rfl ?_); refine goesL_ (some 5) rfl rfl Tryz.func23 (by kernel_rfl) rfl #[.agg #[.int .i64 a0_0, .int .i64 a0_1, .int .i64 a0_2, .int .i64 a0_3, .int .i64 a0_4, .int .i64 a0_5]] rfl zq1 ?_; (with_reducible refine (impl_IsValidWarning.calls a0_0 a0_1 a0_2 a0_3 a0_4 a0_5 false _ A2.out).mono ?_); rintro e w12 ⟨rfl, hb⟩; refine ⟨_, rfl, ?_⟩; replace BK183 := zm (blk_below (g := gb183) (o := .cells #[.int .i64 a0_0, .int .i64 a0_1, .int .i64 a0_2, .int .i64 a0_3, .int .i64 a0_4, .int .i64 a0_5] 25 (0, 0)) (zqK BK183.out) hb); replace HB := zm (below_step zq42 hb); (try clear hb); (try clear hb2); (try clear hk); (try clear hi)))
  go_ret2
  exact ⟨zqE, zq42⟩
 subst c3
 have H1 : ((impl_warningText.f a0_0 a0_1 a0_2 a0_3 a0_4 a0_5).bind fun t185 => (some (t185, true))) = some (r1, r2) := by rw [if_pos rfl] at H; exact H
 clear H
 have H := H1
 clear H1
 obtain ⟨t185, A40, H⟩ := zob H
 replace H : (some (t185, true)) = some (r1, r2) := H
 have A4 := zm A40
 clear A40
 simp only [Option.some.injEq, Prod.mk.injEq] at H
 obtain ⟨rfl, rfl⟩ := H
 go_enter Tryz.func6, Tryz.ntmps6
 go_wp2_with (first | ((with_reducible refine gate_dst (N := 1) rfl ?_); refine box_event ?hg (N := 1) ?hd (cs := #[.int .i64 a0_0, .int .i64 a0_1, .int .i64 a0_2, .int .i64 a0_3, .int .i64 a0_4, .int .i64 a0_5]) (t := 25) ?hr ?_; (case hd => rfl); (case hg => rfl); (case hr => exact zqS); intro gb183 hg w5 hbox hb; have BK183 := zm (hbox); have GW183 := zm ((by rw [hg]; exact (below_size zq0) : w.heap.size ≤ gb183)); replace HB := zm (below_step zq0 hb); have GE183 := GW183; clear hb hbox hg; obtain ⟨hcz6_0, hcz6_1, hcz6_2, hcz6_3, hcz6_4, hcz6_5, hfz6_0, hfz6_1, hfz6_2, hfz6_3, hfz6_4, hfz6_5⟩ := bz6 BK183.out) | ((with_reducible refine gate_callee (f := 23) rfl ?_); refine goesL_ (some 5) rfl rfl Tryz.func23 (by kernel_rfl) rfl #[.agg #[.int .i64 a0_0, .int .i64 a0_1, .int .i64 a0_2, .int .i64 a0_3, .int .i64 a0_4, .int .i64 a0_5]] rfl zq1 ?_; (with_reducible refine (impl_IsValidWarning.calls a0_0 a0_1 a0_2 a0_3 a0_4 a0_5 true _ A2.out).mono ?_); rintro e w7 ⟨rfl, hb⟩; refine ⟨_, rfl, ?_⟩; replace BK183 := zm (blk_below (g := gb183) (o := .cells #[.int .i64 a0_0, .int .i64 a0_1, .int .i64 a0_2, .int .i64 a0_3, .int .i64 a0_4, .int .i64 a0_5] 25 (0, 0)) (zqK BK183.out) hb); replace HB := zm (below_step zq42 hb); (try clear hb); (try clear hb2); (try clear hk); (try clear hi); obtain ⟨hcz8_0, hcz8_1, hcz8_2, hcz8_3, hcz8_4, hcz8_5, hfz8_0, hfz8_1, hfz8_2, hfz8_3, hfz8_4, hfz8_5⟩ := bz6 BK183.out) | ((with_reducible refine gate_callee (f := 24) rfl ?_); refine goesL_ (some 8) rfl rfl Tryz.func24 (by kernel_rfl) rfl #[.agg #[.int .i64 a0_0, .int .i64 a0_1, .int .i64 a0_2, .int .i64 a0_3, .int .i64 a0_4, .int .i64 a0_5]] rfl zq1 ?_; (with_reducible refine (impl_warningText.calls a0_0 a0_1 a0_2 a0_3 a0_4 a0_5 t185 _ (HTL.out.below zq42) (HTN.out.below zq42) (HTO.out.below zq42) A4.out).mono ?_); rintro e w9 ⟨rfl, hb⟩; refine ⟨_, rfl, ?_⟩; replace BK183 := zm (blk_below (g := gb183) (o := .cells #[.int .i64 a0_0, .int .i64 a0_1, .int .i64 a0_2, .int .i64 a0_3, .int .i64 a0_4, .int .i64 a0_5] 25 (0, 0)) (zqK BK183.out) hb); replace HB := zm (below_step zq42 hb); (try clear hb); (try clear hb2); (try clear hk); (try clear hi)))
 go_ret2
 exact ⟨zqE, zq42⟩
def spec_l1In.f (a0 : Int) (a1 : Int) (a2 : Int) : Option (Bool) := if a0 ≥ a1 then (some (decide (a0 ≤ a2))) else (some false)
set_option maxHeartbeats 8000000 in
set_option maxRecDepth 100000 in
theorem spec_l1In.calls (a0 : Int) (a1 : Int) (a2 : Int) (r : Bool) (w : World) (h : spec_l1In.f a0 a1 a2 = some r) :
  Calls Tryz.prog 51 #[.int .i64 a0, .int .i64 a1, .int .i64 a2] w fun e w' => e = .returned (.bool r) ∧ Drawn0 w w' := by
 have H : (if a0 ≥ a1 then (some (decide (a0 ≤ a2))) else (some false)) = some r := h
 clear h
 by_cases c4 : a0 ≥ a1
 case neg =>
  rw [if_neg c4] at H
  have c4b0 : decide (a1 ≤ a0) = false := decide_eq_false c4
  clear c4
  obtain rfl := Option.some.inj H
  go_enter Tryz.func51, Tryz.ntmps51
  go_wp2
  go_ret
  exact ⟨by first | rfl | (simp; done) | (simp [*]; done), zq37⟩
 rw [if_pos c4] at H
 have c4b0 : decide (a1 ≤ a0) = true := decide_eq_true c4
 clear c4
 obtain rfl := Option.some.inj H
 go_enter Tryz.func51, Tryz.ntmps51
 go_wp2
 go_ret
 exact ⟨by first | rfl | (simp; done) | (simp [*]; done), zq37⟩
def spec_l14Good.f (a0_0 : Int) (a0_1 : Int) (a0_2 : Int) (a0_3 : Int) (a0_4 : Int) (a0_5 : Int) : Option (Bool) := (spec_l1In.f a0_0 1 999).bind fun t187 => (if t187 = true then ((spec_l1In.f a0_1 1 5).bind fun t188 => (if t188 = true then ((spec_l1In.f a0_2 1 3).bind fun t189 => (if t189 = true then ((spec_l1In.f a0_3 1 9).bind fun t190 => (if t190 = true then ((spec_l1In.f a0_5 1 240).bind fun t191 => (if t191 = true then ((spec_l1In.f a0_4 0 (wrap64 (a0_5 - 1))).bind fun t192 => (some t192)) else (some false))) else (some false))) else (some false))) else (some false))) else (some false))
set_option maxHeartbeats 8000000 in
set_option maxRecDepth 100000 in
theorem spec_l14Good.calls (a0_0 : Int) (a0_1 : Int) (a0_2 : Int) (a0_3 : Int) (a0_4 : Int) (a0_5 : Int) (r : Bool) (w : World) (h : spec_l14Good.f a0_0 a0_1 a0_2 a0_3 a0_4 a0_5 = some r) :
  Calls Tryz.prog 25 #[.agg #[.int .i64 a0_0, .int .i64 a0_1, .int .i64 a0_2, .int .i64 a0_3, .int .i64 a0_4, .int .i64 a0_5]] w fun e w' => e = .returned (.bool r) ∧ Below w.heap.size w w' := by
 have hu25 := Tryz.underlying25
 have HB := zm (Below.refl w.heap.size w)
 have H : ((spec_l1In.f a0_0 1 999).bind fun t187 => (if t187 = true then ((spec_l1In.f a0_1 1 5).bind fun t188 => (if t188 = true then ((spec_l1In.f a0_2 1 3).bind fun t189 => (if t189 = true then ((spec_l1In.f a0_3 1 9).bind fun t190 => (if t190 = true then ((spec_l1In.f a0_5 1 240).bind fun t191 => (if t191 = true then ((spec_l1In.f a0_4 0 (wrap64 (a0_5 - 1))).bind fun t192 => (some t192)) else (some false))) else (some false))) else (some false))) else (some false))) else (some false))) = some r := h
 clear h
 obtain ⟨t187, A20, H⟩ := zob H
 replace H : (if t187 = true then ((spec_l1In.f a0_1 1 5).bind fun t188 => (if t188 = true then ((spec_l1In.f a0_2 1 3).bind fun t189 => (if t189 = true then ((spec_l1In.f a0_3 1 9).bind fun t190 => (if t190 = true then ((spec_l1In.f a0_5 1 240).bind fun t191 => (if t191 = true then ((spec_l1In.f a0_4 0 (wrap64 (a0_5 - 1))).bind fun t192 => (some t192)) else (some false))) else (some false))) else (some false))) else (some false))) else (some false)) = some r := H
 have A2 := zm A20
 clear A20
 by_cases c3 : t187 = true
 case neg =>
  replace c3 := Bool.eq_false_iff.mpr c3
  subst c3
  have H1 : (some false) = some r := by rw [if_neg (show ¬ (false = true) by decide)] at H; exact H
  clear H
  have H := H1
  clear H1
  obtain rfl := Option.some.inj H
  go_enter Tryz.func25, Tryz.ntmps25
  go_wp2_with (first | ((with_reducible refine gate_dst (N := 1) rfl ?_); refine box_event ?hg (N := 1) ?hd (cs := #[.int .i64 a0_0, .int .i64 a0_1, .int .i64 a0_2, .int .i64 a0_3, .int .i64 a0_4, .int .i64 a0_5]) (t := 25) ?hr ?_; (case hd => rfl); (case hg => rfl); (case hr => exact zqS); intro gb186 hg w23 hbox hb; have BK186 := zm (hbox); have GW186 := zm ((by rw [hg]; exact (below_size zq0) : w.heap.size ≤ gb186)); replace HB := zm (below_step zq0 hb); have GE186 := GW186; clear hb hbox hg; obtain ⟨hcz24_0, hcz24_1, hcz24_2, hcz24_3, hcz24_4, hcz24_5, hfz24_0, hfz24_1, hfz24_2, hfz24_3, hfz24_4, hfz24_5⟩ := bz6 BK186.out) | ((with_reducible refine gate_callee (f := 51) rfl ?_); refine goesL_ (some 5) rfl rfl Tryz.func51 (by kernel_rfl) rfl #[.int .i64 a0_0, .int .i64 1, .int .i64 999] rfl zq1 ?_; (with_reducible refine (spec_l1In.calls a0_0 1 999 false _ A2.out).mono ?_); rintro e w' ⟨rfl, ⟨nd, rfl⟩⟩; refine ⟨_, rfl, ?_⟩))
  go_ret
  exact ⟨zqE, zq48⟩
 subst c3
 have H1 : ((spec_l1In.f a0_1 1 5).bind fun t188 => (if t188 = true then ((spec_l1In.f a0_2 1 3).bind fun t189 => (if t189 = true then ((spec_l1In.f a0_3 1 9).bind fun t190 => (if t190 = true then ((spec_l1In.f a0_5 1 240).bind fun t191 => (if t191 = true then ((spec_l1In.f a0_4 0 (wrap64 (a0_5 - 1))).bind fun t192 => (some t192)) else (some false))) else (some false))) else (some false))) else (some false))) = some r := by rw [if_pos rfl] at H; exact H
 clear H
 have H := H1
 clear H1
 obtain ⟨t188, A40, H⟩ := zob H
 replace H : (if t188 = true then ((spec_l1In.f a0_2 1 3).bind fun t189 => (if t189 = true then ((spec_l1In.f a0_3 1 9).bind fun t190 => (if t190 = true then ((spec_l1In.f a0_5 1 240).bind fun t191 => (if t191 = true then ((spec_l1In.f a0_4 0 (wrap64 (a0_5 - 1))).bind fun t192 => (some t192)) else (some false))) else (some false))) else (some false))) else (some false)) = some r := H
 have A4 := zm A40
 clear A40
 by_cases c5 : t188 = true
 case neg =>
  replace c5 := Bool.eq_false_iff.mpr c5
  subst c5
  have H1 : (some false) = some r := by rw [if_neg (show ¬ (false = true) by decide)] at H; exact H
  clear H
  have H := H1
  clear H1
  obtain rfl := Option.some.inj H
  go_enter Tryz.func25, Tryz.ntmps25
  go_wp2_with (first | ((with_reducible refine gate_dst (N := 1) rfl ?_); refine box_event ?hg (N := 1) ?hd (cs := #[.int .i64 a0_0, .int .i64 a0_1, .int .i64 a0_2, .int .i64 a0_3, .int .i64 a0_4, .int .i64 a0_5]) (t := 25) ?hr ?_; (case hd => rfl); (case hg => rfl); (case hr => exact zqS); intro gb186 hg w21 hbox hb; have BK186 := zm (hbox); have GW186 := zm ((by rw [hg]; exact (below_size zq0) : w.heap.size ≤ gb186)); replace HB := zm (below_step zq0 hb); have GE186 := GW186; clear hb hbox hg; obtain ⟨hcz22_0, hcz22_1, hcz22_2, hcz22_3, hcz22_4, hcz22_5, hfz22_0, hfz22_1, hfz22_2, hfz22_3, hfz22_4, hfz22_5⟩ := bz6 BK186.out) | ((with_reducible refine gate_callee (f := 51) rfl ?_); refine goesL_ (some 5) rfl rfl Tryz.func51 (by kernel_rfl) rfl #[.int .i64 a0_0, .int .i64 1, .int .i64 999] rfl zq1 ?_; (with_reducible refine (spec_l1In.calls a0_0 1 999 true _ A2.out).mono ?_); rintro e w' ⟨rfl, ⟨nd, rfl⟩⟩; refine ⟨_, rfl, ?_⟩) | (go_at_call 51; (with_reducible refine (spec_l1In.calls a0_1 1 5 false _ A4.out).mono ?_); rintro e w' ⟨rfl, ⟨nd, rfl⟩⟩))
  go_ret
  exact ⟨zqE, zq48⟩
 subst c5
 have H1 : ((spec_l1In.f a0_2 1 3).bind fun t189 => (if t189 = true then ((spec_l1In.f a0_3 1 9).bind fun t190 => (if t190 = true then ((spec_l1In.f a0_5 1 240).bind fun t191 => (if t191 = true then ((spec_l1In.f a0_4 0 (wrap64 (a0_5 - 1))).bind fun t192 => (some t192)) else (some false))) else (some false))) else (some false))) = some r := by rw [if_pos rfl] at H; exact H
 clear H
 have H := H1
 clear H1
 obtain ⟨t189, A60, H⟩ := zob H
 replace H : (if t189 = true then ((spec_l1In.f a0_3 1 9).bind fun t190 => (if t190 = true then ((spec_l1In.f a0_5 1 240).bind fun t191 => (if t191 = true then ((spec_l1In.f a0_4 0 (wrap64 (a0_5 - 1))).bind fun t192 => (some t192)) else (some false))) else (some false))) else (some false)) = some r := H
 have A6 := zm A60
 clear A60
 by_cases c7 : t189 = true
 case neg =>
  replace c7 := Bool.eq_false_iff.mpr c7
  subst c7
  have H1 : (some false) = some r := by rw [if_neg (show ¬ (false = true) by decide)] at H; exact H
  clear H
  have H := H1
  clear H1
  obtain rfl := Option.some.inj H
  go_enter Tryz.func25, Tryz.ntmps25
  go_wp2_with (first | ((with_reducible refine gate_dst (N := 1) rfl ?_); refine box_event ?hg (N := 1) ?hd (cs := #[.int .i64 a0_0, .int .i64 a0_1, .int .i64 a0_2, .int .i64 a0_3, .int .i64 a0_4, .int .i64 a0_5]) (t := 25) ?hr ?_; (case hd => rfl); (case hg => rfl); (case hr => exact zqS); intro gb186 hg w19 hbox hb; have BK186 := zm (hbox); have GW186 := zm ((by rw [hg]; exact (below_size zq0) : w.heap.size ≤ gb186)); replace HB := zm (below_step zq0 hb); have GE186 := GW186; clear hb hbox hg; obtain ⟨hcz20_0, hcz20_1, hcz20_2, hcz20_3, hcz20_4, hcz20_5, hfz20_0, hfz20_1, hfz20_2, hfz20_3, hfz20_4, hfz20_5⟩ := bz6 BK186.out) | ((with_reducible refine gate_callee (f := 51) rfl ?_); refine goesL_ (some 5) rfl rfl Tryz.func51 (by kernel_rfl) rfl #[.int .i64 a0_0, .int .i64 1, .int .i64 999] rfl zq1 ?_; (with_reducible refine (spec_l1In.calls a0_0 1 999 true _ A2.out).mono ?_); rintro e w' ⟨rfl, ⟨nd, rfl⟩⟩; refine ⟨_, rfl, ?_⟩) | (go_at_call 51; (with_reducible refine (spec_l1In.calls a0_1 1 5 true _ A4.out).mono ?_); rintro e w' ⟨rfl, ⟨nd, rfl⟩⟩) | (go_at_call 51; (with_reducible refine (spec_l1In.calls a0_2 1 3 false _ A6.out).mono ?_); rintro e w' ⟨rfl, ⟨nd, rfl⟩⟩))
  go_ret
  exact ⟨zqE, zq48⟩
 subst c7
 have H1 : ((spec_l1In.f a0_3 1 9).bind fun t190 => (if t190 = true then ((spec_l1In.f a0_5 1 240).bind fun t191 => (if t191 = true then ((spec_l1In.f a0_4 0 (wrap64 (a0_5 - 1))).bind fun t192 => (some t192)) else (some false))) else (some false))) = some r := by rw [if_pos rfl] at H; exact H
 clear H
 have H := H1
 clear H1
 obtain ⟨t190, A80, H⟩ := zob H
 replace H : (if t190 = true then ((spec_l1In.f a0_5 1 240).bind fun t191 => (if t191 = true then ((spec_l1In.f a0_4 0 (wrap64 (a0_5 - 1))).bind fun t192 => (some t192)) else (some false))) else (some false)) = some r := H
 have A8 := zm A80
 clear A80
 by_cases c9 : t190 = true
 case neg =>
  replace c9 := Bool.eq_false_iff.mpr c9
  subst c9
  have H1 : (some false) = some r := by rw [if_neg (show ¬ (false = true) by decide)] at H; exact H
  clear H
  have H := H1
  clear H1
  obtain rfl := Option.some.inj H
  go_enter Tryz.func25, Tryz.ntmps25
  go_wp2_with (first | ((with_reducible refine gate_dst (N := 1) rfl ?_); refine box_event ?hg (N := 1) ?hd (cs := #[.int .i64 a0_0, .int .i64 a0_1, .int .i64 a0_2, .int .i64 a0_3, .int .i64 a0_4, .int .i64 a0_5]) (t := 25) ?hr ?_; (case hd => rfl); (case hg => rfl); (case hr => exact zqS); intro gb186 hg w17 hbox hb; have BK186 := zm (hbox); have GW186 := zm ((by rw [hg]; exact (below_size zq0) : w.heap.size ≤ gb186)); replace HB := zm (below_step zq0 hb); have GE186 := GW186; clear hb hbox hg; obtain ⟨hcz18_0, hcz18_1, hcz18_2, hcz18_3, hcz18_4, hcz18_5, hfz18_0, hfz18_1, hfz18_2, hfz18_3, hfz18_4, hfz18_5⟩ := bz6 BK186.out) | ((with_reducible refine gate_callee (f := 51) rfl ?_); refine goesL_ (some 5) rfl rfl Tryz.func51 (by kernel_rfl) rfl #[.int .i64 a0_0, .int .i64 1, .int .i64 999] rfl zq1 ?_; (with_reducible refine (spec_l1In.calls a0_0 1 999 true _ A2.out).mono ?_); rintro e w' ⟨rfl, ⟨nd, rfl⟩⟩; refine ⟨_, rfl, ?_⟩) | (go_at_call 51; (with_reducible refine (spec_l1In.calls a0_1 1 5 true _ A4.out).mono ?_); rintro e w' ⟨rfl, ⟨nd, rfl⟩⟩) | (go_at_call 51; (with_reducible refine (spec_l1In.calls a0_2 1 3 true _ A6.out).mono ?_); rintro e w' ⟨rfl, ⟨nd, rfl⟩⟩) | (go_at_call 51; (with_reducible refine (spec_l1In.calls a0_3 1 9 false _ A8.out).mono ?_); rintro e w' ⟨rfl, ⟨nd, rfl⟩⟩))
  go_ret
  exact ⟨zqE, zq48⟩
 subst c9
 have H1 : ((spec_l1In.f a0_5 1 240).bind fun t191 => (if t191 = true then ((spec_l1In.f a0_4 0 (wrap64 (a0_5 - 1))).bind fun t192 => (some t192)) else (some false))) = some r := by rw [if_pos rfl] at H; exact H
 clear H
 have H := H1
 clear H1
 obtain ⟨t191, A100, H⟩ := zob H
 replace H : (if t191 = true then ((spec_l1In.f a0_4 0 (wrap64 (a0_5 - 1))).bind fun t192 => (some t192)) else (some false)) = some r := H
 have A10 := zm A100
 clear A100
 by_cases c11 : t191 = true
 case neg =>
  replace c11 := Bool.eq_false_iff.mpr c11
  subst c11
  have H1 : (some false) = some r := by rw [if_neg (show ¬ (false = true) by decide)] at H; exact H
  clear H
  have H := H1
  clear H1
  obtain rfl := Option.some.inj H
  go_enter Tryz.func25, Tryz.ntmps25
  go_wp2_with (first | ((with_reducible refine gate_dst (N := 1) rfl ?_); refine box_event ?hg (N := 1) ?hd (cs := #[.int .i64 a0_0, .int .i64 a0_1, .int .i64 a0_2, .int .i64 a0_3, .int .i64 a0_4, .int .i64 a0_5]) (t := 25) ?hr ?_; (case hd => rfl); (case hg => rfl); (case hr => exact zqS); intro gb186 hg w15 hbox hb; have BK186 := zm (hbox); have GW186 := zm ((by rw [hg]; exact (below_size zq0) : w.heap.size ≤ gb186)); replace HB := zm (below_step zq0 hb); have GE186 := GW186; clear hb hbox hg; obtain ⟨hcz16_0, hcz16_1, hcz16_2, hcz16_3, hcz16_4, hcz16_5, hfz16_0, hfz16_1, hfz16_2, hfz16_3, hfz16_4, hfz16_5⟩ := bz6 BK186.out) | ((with_reducible refine gate_callee (f := 51) rfl ?_); refine goesL_ (some 5) rfl rfl Tryz.func51 (by kernel_rfl) rfl #[.int .i64 a0_0, .int .i64 1, .int .i64 999] rfl zq1 ?_; (with_reducible refine (spec_l1In.calls a0_0 1 999 true _ A2.out).mono ?_); rintro e w' ⟨rfl, ⟨nd, rfl⟩⟩; refine ⟨_, rfl, ?_⟩) | (go_at_call 51; (with_reducible refine (spec_l1In.calls a0_1 1 5 true _ A4.out).mono ?_); rintro e w' ⟨rfl, ⟨nd, rfl⟩⟩) | (go_at_call 51; (with_reducible refine (spec_l1In.calls a0_2 1 3 true _ A6.out).mono ?_); rintro e w' ⟨rfl, ⟨nd, rfl⟩⟩) | (go_at_call 51; (with_reducible refine (spec_l1In.calls a0_3 1 9 true _ A8.out).mono ?_); rintro e w' ⟨rfl, ⟨nd, rfl⟩⟩) | (go_at_call 51; (with_reducible refine (spec_l1In.calls a0_5 1 240 false _ A10.out).mono ?_); rintro e w' ⟨rfl, ⟨nd, rfl⟩⟩))
  go_ret
  exact ⟨zqE, zq48⟩
 subst c11
 have H1 : ((spec_l1In.f a0_4 0 (wrap64 (a0_5 - 1))).bind fun t192 => (some t192)) = some r := by rw [if_pos rfl] at H; exact H
 clear H
 have H := H1
 clear H1
 obtain ⟨t192, A120, H⟩ := zob H
 replace H : (some t192) = some r := H
 have A12 := zm A120
 clear A120
 obtain rfl := Option.some.inj H
 go_enter Tryz.func25, Tryz.ntmps25
 go_wp2_with (first | ((with_reducible refine gate_dst (N := 1) rfl ?_); refine box_event ?hg (N := 1) ?hd (cs := #[.int .i64 a0_0, .int .i64 a0_1, .int .i64 a0_2, .int .i64 a0_3, .int .i64 a0_4, .int .i64 a0_5]) (t := 25) ?hr ?_; (case hd => rfl); (case hg => rfl); (case hr => exact zqS); intro gb186 hg w13 hbox hb; have BK186 := zm (hbox); have GW186 := zm ((by rw [hg]; exact (below_size zq0) : w.heap.size ≤ gb186)); replace HB := zm (below_step zq0 hb); have GE186 := GW186; clear hb hbox hg; obtain ⟨hcz14_0, hcz14_1, hcz14_2, hcz14_3, hcz14_4, hcz14_5, hfz14_0, hfz14_1, hfz14_2, hfz14_3, hfz14_4, hfz14_5⟩ := bz6 BK186.out) | ((with_reducible refine gate_callee (f := 51) rfl ?_); refine goesL_ (some 5) rfl rfl Tryz.func51 (by kernel_rfl) rfl #[.int .i64 a0_0, .int .i64 1, .int .i64 999] rfl zq1 ?_; (with_reducible refine (spec_l1In.calls a0_0 1 999 true _ A2.out).mono ?_); rintro e w' ⟨rfl, ⟨nd, rfl⟩⟩; refine ⟨_, rfl, ?_⟩) | (go_at_call 51; (with_reducible refine (spec_l1In.calls a0_1 1 5 true _ A4.out).mono ?_); rintro e w' ⟨rfl, ⟨nd, rfl⟩⟩) | (go_at_call 51; (with_reducible refine (spec_l1In.calls a0_2 1 3 true _ A6.out).mono ?_); rintro e w' ⟨rfl, ⟨nd, rfl⟩⟩) | (go_at_call 51; (with_reducible refine (spec_l1In.calls a0_3 1 9 true _ A8.out).mono ?_); rintro e w' ⟨rfl, ⟨nd, rfl⟩⟩) | (go_at_call 51; (with_reducible refine (spec_l1In.calls a0_5 1 240 true _ A10.out).mono ?_); rintro e w' ⟨rfl, ⟨nd, rfl⟩⟩) | (go_at_call 51; (with_reducible refine (spec_l1In.calls a0_4 0 (wrap64 (a0_5 - 1)) t192 _ A12.out).mono ?_); rintro e w' ⟨rfl, ⟨nd, rfl⟩⟩))
 go_ret
 exact ⟨zqE, zq48⟩
end Go.Proofs.YtleadjbfcenofaaGreatDoor.Q
namespace Go.Proofs.YtleadjbfcenofaaGreatDoor.Q
open Go.Proofs.YtleadjbfcenofaaGreatDoorW.PrintLast
set_option linter.unusedVariables false
theorem wpAnyLast_more {P : Program} {md : Region.Mode} {ops : Array Oper} {Q : Exit → Act → World → Prop} {S S0 : World → Prop} (hS : ∀ w, S w → S0 w) :
    ∀ (n : Nat) (l : Array Bool) (a : Act) (w : World), S w → wpAnyLast P md ops Q S [] n l a w → wpAnyLast P md ops Q S0 [] n l a w
  | 0, _, _, _, _, h => h
  | n + 1, l, a, w, hw, h => ⟨h.1, fun i hi => wpOp_mono (fun a' w' h' => ⟨fun _ _ => hS _ (h'.1 List.not_mem_nil hw), wpAnyLast_more hS n _ a' w' (h'.1 List.not_mem_nil hw) h'.2⟩) (h.2 i hi)⟩
theorem more_ {P : Program} {md : Region.Mode} {ops : Array Oper} {Q : Exit → Act → World → Prop} {S0 : World → Prop} (S : World → Prop) {n : Nat} {l : Array Bool} {a : Act} {w : World} (hS : ∀ w, S w → S0 w) (hw : S w)
    (h : S w → wpAnyLast P md ops Q S [] n l a w) : wpAnyLast P md ops Q S0 [] n l a w := wpAnyLast_more hS n l a w hw (h hw)
end Go.Proofs.YtleadjbfcenofaaGreatDoor.Q
namespace Go.Proofs.YtleadjbfcenofaaGreatDoor.Q
open Go.RowKit Go.Proofs.YtleadjbfcenofaaGreatDoorW.PrintWords Go.Proofs.YtleadjbfcenofaaGreatDoorW.PrintLast Go.Proofs.YtleadjbfcenofaaGreatDoorW.PrintMore
attribute [local go_sem] max2_int min2_int max_two min_two max_three min_three max_four min_four
set_option linter.unusedVariables false
set_option linter.unusedSimpArgs false
def spec_l16Levels.f  : Option (List ByteArray) := some (([(⟨#[]⟩ : ByteArray), (⟨#[89, 101, 108, 108, 111, 119]⟩ : ByteArray), (⟨#[79, 114, 97, 110, 103, 101]⟩ : ByteArray), (⟨#[82, 101, 100]⟩ : ByteArray)] : List ByteArray))
set_option maxHeartbeats 8000000 in
set_option maxRecDepth 100000 in
theorem spec_l16Levels.calls  (r : List ByteArray) (w : World) (h : spec_l16Levels.f  = some r) :
  Calls Tryz.prog 34 #[] w fun e w' => ∃ v0_ : Value, e = .returned (v0_) ∧ Kd.R Kd.string 9 w' w.heap.size (fun _ => True) v0_ r ∧ Below w.heap.size w w' := by
 have HB := zm (Below.refl w.heap.size w)
 have H : (some (([(⟨#[]⟩ : ByteArray), (⟨#[89, 101, 108, 108, 111, 119]⟩ : ByteArray), (⟨#[79, 114, 97, 110, 103, 101]⟩ : ByteArray), (⟨#[82, 101, 100]⟩ : ByteArray)] : List ByteArray))) = some r := h
 clear h
 obtain ⟨y193, hy193⟩ : ∃ y_ : List ByteArray, y_ = (([(⟨#[]⟩ : ByteArray), (⟨#[89, 101, 108, 108, 111, 119]⟩ : ByteArray), (⟨#[79, 114, 97, 110, 103, 101]⟩ : ByteArray), (⟨#[82, 101, 100]⟩ : ByteArray)] : List ByteArray)) := ⟨_, rfl⟩
 replace H : (some y193) = some r := zqH hy193 H
 have Ny193 := zm hy193
 clear hy193
 obtain rfl := Option.some.inj H
 go_enter Tryz.func34, Tryz.ntmps34
 go_wp2_with (first | ((with_reducible refine gate_dst (N := 1) rfl ?_); refine Kd.R_lit Kd.string _ 9 ?hg (N := 1) ?hd (xs := ([(⟨#[]⟩ : ByteArray), (⟨#[89, 101, 108, 108, 111, 119]⟩ : ByteArray), (⟨#[79, 114, 97, 110, 103, 101]⟩ : ByteArray), (⟨#[82, 101, 100]⟩ : ByteArray)] : List ByteArray)) (inner := [.string (⟨#[]⟩ : ByteArray), .string (⟨#[89, 101, 108, 108, 111, 119]⟩ : ByteArray), .string (⟨#[79, 114, 97, 110, 103, 101]⟩ : ByteArray), .string (⟨#[82, 101, 100]⟩ : ByteArray)]) (ok := fun _ => True) (okp := fun _ => True) ?hr ?hp (fun _ hk => hk) trivial (Below.refl _ _) (Nat.le_refl _) (by simp) ?_; (case hd => rfl); (case hg => rfl); (case hr => exact zqS); (case hp => exact (Reps.one (show Kd.M Kd.string _ _ _ (⟨#[]⟩ : ByteArray) [.string (⟨#[]⟩ : ByteArray)] from rfl) (Reps.one (show Kd.M Kd.string _ _ _ (⟨#[89, 101, 108, 108, 111, 119]⟩ : ByteArray) [.string (⟨#[89, 101, 108, 108, 111, 119]⟩ : ByteArray)] from rfl) (Reps.one (show Kd.M Kd.string _ _ _ (⟨#[79, 114, 97, 110, 103, 101]⟩ : ByteArray) [.string (⟨#[79, 114, 97, 110, 103, 101]⟩ : ByteArray)] from rfl) (Reps.one (show Kd.M Kd.string _ _ _ (⟨#[82, 101, 100]⟩ : ByteArray) [.string (⟨#[82, 101, 100]⟩ : ByteArray)] from rfl) (Reps.none _ _)))))); intro v194 w1 ho2 hb hg_ hnew_; clear hg_ hnew_; (first | rw [← Ny193.out] at ho2 | (simp only [Int.reduceToNat] at ho2; rw [← Ny193.out] at ho2)); have HO195 := zm (Kd.R_lower ho2 (below_size zq0)); replace HB := zm (below_step zq0 hb); clear hb ho2))
 go_ret
 exact ⟨_, by first | rfl | (simp [errW_none, errW_some] <;> rfl) | (simp [*, errW_none, errW_some] <;> rfl), zqR HO195.out, zq0⟩
def spec_l16Topics.f  : Option (List ByteArray) := some (([(⟨#[]⟩ : ByteArray), (⟨#[119, 105, 110, 100]⟩ : ByteArray), (⟨#[114, 97, 105, 110]⟩ : ByteArray), (⟨#[115, 110, 111, 119]⟩ : ByteArray), (⟨#[104, 101, 97, 116]⟩ : ByteArray), (⟨#[115, 116, 111, 114, 109]⟩ : ByteArray)] : List ByteArray))
set_option maxHeartbeats 8000000 in
set_option maxRecDepth 100000 in
theorem spec_l16Topics.calls  (r : List ByteArray) (w : World) (h : spec_l16Topics.f  = some r) :
  Calls Tryz.prog 35 #[] w fun e w' => ∃ v0_ : Value, e = .returned (v0_) ∧ Kd.R Kd.string 9 w' w.heap.size (fun _ => True) v0_ r ∧ Below w.heap.size w w' := by
 have HB := zm (Below.refl w.heap.size w)
 have H : (some (([(⟨#[]⟩ : ByteArray), (⟨#[119, 105, 110, 100]⟩ : ByteArray), (⟨#[114, 97, 105, 110]⟩ : ByteArray), (⟨#[115, 110, 111, 119]⟩ : ByteArray), (⟨#[104, 101, 97, 116]⟩ : ByteArray), (⟨#[115, 116, 111, 114, 109]⟩ : ByteArray)] : List ByteArray))) = some r := h
 clear h
 obtain ⟨y196, hy196⟩ : ∃ y_ : List ByteArray, y_ = (([(⟨#[]⟩ : ByteArray), (⟨#[119, 105, 110, 100]⟩ : ByteArray), (⟨#[114, 97, 105, 110]⟩ : ByteArray), (⟨#[115, 110, 111, 119]⟩ : ByteArray), (⟨#[104, 101, 97, 116]⟩ : ByteArray), (⟨#[115, 116, 111, 114, 109]⟩ : ByteArray)] : List ByteArray)) := ⟨_, rfl⟩
 replace H : (some y196) = some r := zqH hy196 H
 have Ny196 := zm hy196
 clear hy196
 obtain rfl := Option.some.inj H
 go_enter Tryz.func35, Tryz.ntmps35
 go_wp2_with (first | ((with_reducible refine gate_dst (N := 1) rfl ?_); refine Kd.R_lit Kd.string _ 9 ?hg (N := 1) ?hd (xs := ([(⟨#[]⟩ : ByteArray), (⟨#[119, 105, 110, 100]⟩ : ByteArray), (⟨#[114, 97, 105, 110]⟩ : ByteArray), (⟨#[115, 110, 111, 119]⟩ : ByteArray), (⟨#[104, 101, 97, 116]⟩ : ByteArray), (⟨#[115, 116, 111, 114, 109]⟩ : ByteArray)] : List ByteArray)) (inner := [.string (⟨#[]⟩ : ByteArray), .string (⟨#[119, 105, 110, 100]⟩ : ByteArray), .string (⟨#[114, 97, 105, 110]⟩ : ByteArray), .string (⟨#[115, 110, 111, 119]⟩ : ByteArray), .string (⟨#[104, 101, 97, 116]⟩ : ByteArray), .string (⟨#[115, 116, 111, 114, 109]⟩ : ByteArray)]) (ok := fun _ => True) (okp := fun _ => True) ?hr ?hp (fun _ hk => hk) trivial (Below.refl _ _) (Nat.le_refl _) (by simp) ?_; (case hd => rfl); (case hg => rfl); (case hr => exact zqS); (case hp => exact (Reps.one (show Kd.M Kd.string _ _ _ (⟨#[]⟩ : ByteArray) [.string (⟨#[]⟩ : ByteArray)] from rfl) (Reps.one (show Kd.M Kd.string _ _ _ (⟨#[119, 105, 110, 100]⟩ : ByteArray) [.string (⟨#[119, 105, 110, 100]⟩ : ByteArray)] from rfl) (Reps.one (show Kd.M Kd.string _ _ _ (⟨#[114, 97, 105, 110]⟩ : ByteArray) [.string (⟨#[114, 97, 105, 110]⟩ : ByteArray)] from rfl) (Reps.one (show Kd.M Kd.string _ _ _ (⟨#[115, 110, 111, 119]⟩ : ByteArray) [.string (⟨#[115, 110, 111, 119]⟩ : ByteArray)] from rfl) (Reps.one (show Kd.M Kd.string _ _ _ (⟨#[104, 101, 97, 116]⟩ : ByteArray) [.string (⟨#[104, 101, 97, 116]⟩ : ByteArray)] from rfl) (Reps.one (show Kd.M Kd.string _ _ _ (⟨#[115, 116, 111, 114, 109]⟩ : ByteArray) [.string (⟨#[115, 116, 111, 114, 109]⟩ : ByteArray)] from rfl) (Reps.none _ _)))))))); intro v197 w1 ho2 hb hg_ hnew_; clear hg_ hnew_; (first | rw [← Ny196.out] at ho2 | (simp only [Int.reduceToNat] at ho2; rw [← Ny196.out] at ho2)); have HO198 := zm (Kd.R_lower ho2 (below_size zq0)); replace HB := zm (below_step zq0 hb); clear hb ho2))
 go_ret
 exact ⟨_, by first | rfl | (simp [errW_none, errW_some] <;> rfl) | (simp [*, errW_none, errW_some] <;> rfl), zqR HO198.out, zq0⟩
def spec_l1Num.f : Nat → Int → Option (ByteArray)
 | 0, _ => none
 | k + 1, a0 => if a0 < 0 then ((spec_l1Num.f k (wrap64 (-a0))).bind fun t199 => (if 1 + t199.size ≤ 9223372036854775807 then (some ((⟨#[45]⟩ : ByteArray) ++ t199)) else (none))) else (if a0 < 10 then (if 0 ≤ a0 then (if a0 ≤ (wrap64 (a0 + 1)) then (if (wrap64 (a0 + 1)) ≤ 10 then (some ((⟨#[48, 49, 50, 51, 52, 53, 54, 55, 56, 57]⟩ : ByteArray).extract (a0 : Int).toNat ((wrap64 (a0 + 1)) : Int).toNat)) else (none)) else (none)) else (none)) else ((spec_l1Num.f k (wrap64 (Int.tdiv a0 10))).bind fun t200 => (if 0 ≤ (Int.tmod a0 10) then (if (Int.tmod a0 10) ≤ (wrap64 ((Int.tmod a0 10) + 1)) then (if (wrap64 ((Int.tmod a0 10) + 1)) ≤ 10 then (if t200.size + ((⟨#[48, 49, 50, 51, 52, 53, 54, 55, 56, 57]⟩ : ByteArray).extract ((Int.tmod a0 10) : Int).toNat ((wrap64 ((Int.tmod a0 10) + 1)) : Int).toNat).size ≤ 9223372036854775807 then (some (t200 ++ ((⟨#[48, 49, 50, 51, 52, 53, 54, 55, 56, 57]⟩ : ByteArray).extract ((Int.tmod a0 10) : Int).toNat ((wrap64 ((Int.tmod a0 10) + 1)) : Int).toNat))) else (none)) else (none)) else (none)) else (none))))
def spec_l1Num.T5 : Bool × List (List Nat × List Nat) := (true, [([], []), ([0], [0]), ([1], [1]), ([], []), ([3], [3]), ([], []), ([5], [5]), ([6], [6]), ([4, 7], [4, 7]), ([2, 8], [2, 8]), ([9, 2, 0, 1, 2, 3, 4, 5, 6, 7, 8, 9], [9])])
def spec_l1Num.B5 : List Nat := [0, 1, 3, 0, 8, 0, 32, 96, 248, 511, 1023]
theorem spec_l1Num.tab5 : rtab .any (opsOf Tryz.f54 5) = spec_l1Num.T5 := by kernel_rfl
theorem spec_l1Num.bits5 : waitsOk spec_l1Num.T5.2 spec_l1Num.B5 = true := by kernel_rfl
set_option maxHeartbeats 8000000 in
set_option maxRecDepth 100000 in
theorem spec_l1Num.calls (k : Nat) : ∀ (a0 : Int) (r : ByteArray) (w : World) (h : spec_l1Num.f k a0 = some r),
  Calls Tryz.prog 54 #[.int .i64 a0] w fun e w' => e = .returned (.string r) ∧ Below w.heap.size w w' := by
 induction k using Nat.strongRecOn with
 | _ k ih =>
 intro a0 r w h
 cases k with
 | zero => exact absurd h (by simp [spec_l1Num.f])
 | succ k =>
 simp only [spec_l1Num.f] at h
 have HB := zm (Below.refl w.heap.size w)
 have H : (if a0 < 0 then ((spec_l1Num.f k (wrap64 (-a0))).bind fun t199 => (if 1 + t199.size ≤ 9223372036854775807 then (some ((⟨#[45]⟩ : ByteArray) ++ t199)) else (none))) else (if a0 < 10 then (if 0 ≤ a0 then (if a0 ≤ (wrap64 (a0 + 1)) then (if (wrap64 (a0 + 1)) ≤ 10 then (some ((⟨#[48, 49, 50, 51, 52, 53, 54, 55, 56, 57]⟩ : ByteArray).extract (a0 : Int).toNat ((wrap64 (a0 + 1)) : Int).toNat)) else (none)) else (none)) else (none)) else ((spec_l1Num.f k (wrap64 (Int.tdiv a0 10))).bind fun t200 => (if 0 ≤ (Int.tmod a0 10) then (if (Int.tmod a0 10) ≤ (wrap64 ((Int.tmod a0 10) + 1)) then (if (wrap64 ((Int.tmod a0 10) + 1)) ≤ 10 then (if t200.size + ((⟨#[48, 49, 50, 51, 52, 53, 54, 55, 56, 57]⟩ : ByteArray).extract ((Int.tmod a0 10) : Int).toNat ((wrap64 ((Int.tmod a0 10) + 1)) : Int).toNat).size ≤ 9223372036854775807 then (some (t200 ++ ((⟨#[48, 49, 50, 51, 52, 53, 54, 55, 56, 57]⟩ : ByteArray).extract ((Int.tmod a0 10) : Int).toNat ((wrap64 ((Int.tmod a0 10) + 1)) : Int).toNat))) else (none)) else (none)) else (none)) else (none))))) = some r := h
 clear h
 by_cases c2 : a0 < 0
 case pos =>
  rw [if_pos c2] at H
  have c2b0 : decide (a0 < 0) = true := decide_eq_true c2
  clear c2
  obtain ⟨t199, A30, H⟩ := zob H
  replace H : (if 1 + t199.size ≤ 9223372036854775807 then (some ((⟨#[45]⟩ : ByteArray) ++ t199)) else (none)) = some r := H
  have A3 := zm A30
  clear A30
  by_cases c4 : 1 + t199.size ≤ 9223372036854775807
  case neg =>
   rw [if_neg c4] at H
   exact absurd H (by simp)
  rw [if_pos c4] at H
  have c4b0 := eq_true c4
  have c4b1 : decide (1 + t199.size ≤ 9223372036854775807) = true := decide_eq_true c4
  try have c4b2 : (9223372036854775807 < 1 + t199.size) = False := eq_false (Nat.not_lt.2 c4)
  obtain rfl := Option.some.inj H
  go_enter Tryz.func54, Tryz.ntmps54
  go_wp2_with (first | ((with_reducible refine gate_callee (f := 54) rfl ?_); refine goesL_ (some 7) rfl rfl Tryz.func54 (by kernel_rfl) rfl #[.int .i64 (wrap64 (-a0))] rfl zq1 ?_; (with_reducible refine (ih k (by omega) (wrap64 (-a0)) t199 _ A3.out).mono ?_); rintro e w5 ⟨rfl, hb⟩; refine ⟨_, rfl, ?_⟩; replace HB := zm (below_step zq0 hb); (try clear hb); (try clear hb2); (try clear hk); (try clear hi)))
  go_ret
  exact ⟨zqE, zq0⟩
 rw [if_neg c2] at H
 have c2b0 : decide (a0 < 0) = false := decide_eq_false c2
 clear c2
 by_cases c6 : a0 < 10
 case pos =>
  rw [if_pos c6] at H
  have c6b0 : decide (a0 < 10) = true := decide_eq_true c6
  clear c6
  by_cases c7 : 0 ≤ a0
  case neg =>
   rw [if_neg c7] at H
   exact absurd H (by simp)
  rw [if_pos c7] at H
  have c7b0 := eq_true c7
  have c7b1 : decide (0 ≤ a0) = true := decide_eq_true c7
  clear c7
  by_cases c8 : a0 ≤ (wrap64 (a0 + 1))
  case neg =>
   rw [if_neg c8] at H
   exact absurd H (by simp)
  rw [if_pos c8] at H
  have c8b0 := eq_true c8
  have c8b1 : decide (a0 ≤ (wrap64 (a0 + 1))) = true := decide_eq_true c8
  by_cases c9 : (wrap64 (a0 + 1)) ≤ 10
  case neg =>
   rw [if_neg c9] at H
   exact absurd H (by simp)
  rw [if_pos c9] at H
  have c9b0 := eq_true c9
  have c9b1 : decide ((wrap64 (a0 + 1)) ≤ 10) = true := decide_eq_true c9
  obtain rfl := Option.some.inj H
  go_enter Tryz.func54, Tryz.ntmps54
  go_wp2
  go_ret
  exact ⟨zqE, zq0⟩
 rw [if_neg c6] at H
 have c6b0 : decide (a0 < 10) = false := decide_eq_false c6
 clear c6
 obtain ⟨t200, A100, H⟩ := zob H
 replace H : (if 0 ≤ (Int.tmod a0 10) then (if (Int.tmod a0 10) ≤ (wrap64 ((Int.tmod a0 10) + 1)) then (if (wrap64 ((Int.tmod a0 10) + 1)) ≤ 10 then (if t200.size + ((⟨#[48, 49, 50, 51, 52, 53, 54, 55, 56, 57]⟩ : ByteArray).extract ((Int.tmod a0 10) : Int).toNat ((wrap64 ((Int.tmod a0 10) + 1)) : Int).toNat).size ≤ 9223372036854775807 then (some (t200 ++ ((⟨#[48, 49, 50, 51, 52, 53, 54, 55, 56, 57]⟩ : ByteArray).extract ((Int.tmod a0 10) : Int).toNat ((wrap64 ((Int.tmod a0 10) + 1)) : Int).toNat))) else (none)) else (none)) else (none)) else (none)) = some r := H
 have A10 := zm A100
 clear A100
 obtain ⟨ji11, hji11⟩ : ∃ j_ : Int, (Int.tmod a0 10) = j_ := ⟨_, rfl⟩
 replace H : (if 0 ≤ (ji11) then (if (ji11) ≤ (wrap64 ((ji11) + 1)) then (if (wrap64 ((ji11) + 1)) ≤ 10 then (if t200.size + ((⟨#[48, 49, 50, 51, 52, 53, 54, 55, 56, 57]⟩ : ByteArray).extract ((ji11) : Int).toNat ((wrap64 ((ji11) + 1)) : Int).toNat).size ≤ 9223372036854775807 then (some (t200 ++ ((⟨#[48, 49, 50, 51, 52, 53, 54, 55, 56, 57]⟩ : ByteArray).extract ((ji11) : Int).toNat ((wrap64 ((ji11) + 1)) : Int).toNat))) else (none)) else (none)) else (none)) else (none)) = some r := by first | (rw [hji11] at H; exact H) | (simp only [hji11] at H ⊢; exact H)
 (try rw [hji11] at A10)
 by_cases c12 : 0 ≤ (ji11)
 case neg =>
  rw [if_neg c12] at H
  exact absurd H (by simp)
 rw [if_pos c12] at H
 have c12b0 := eq_true c12
 have c12b1 : decide (0 ≤ (ji11)) = true := decide_eq_true c12
 clear c12
 by_cases c13 : (ji11) ≤ (wrap64 ((ji11) + 1))
 case neg =>
  rw [if_neg c13] at H
  exact absurd H (by simp)
 rw [if_pos c13] at H
 have c13b0 := eq_true c13
 have c13b1 : decide ((ji11) ≤ (wrap64 ((ji11) + 1))) = true := decide_eq_true c13
 by_cases c14 : (wrap64 ((ji11) + 1)) ≤ 10
 case neg =>
  rw [if_neg c14] at H
  exact absurd H (by simp)
 rw [if_pos c14] at H
 have c14b0 := eq_true c14
 have c14b1 : decide ((wrap64 ((ji11) + 1)) ≤ 10) = true := decide_eq_true c14
 by_cases c15 : t200.size + ((⟨#[48, 49, 50, 51, 52, 53, 54, 55, 56, 57]⟩ : ByteArray).extract ((ji11) : Int).toNat ((wrap64 ((ji11) + 1)) : Int).toNat).size ≤ 9223372036854775807
 case neg =>
  rw [if_neg c15] at H
  exact absurd H (by simp)
 rw [if_pos c15] at H
 have c15b0 := eq_true c15
 have c15b1 : decide (t200.size + ((⟨#[48, 49, 50, 51, 52, 53, 54, 55, 56, 57]⟩ : ByteArray).extract ((ji11) : Int).toNat ((wrap64 ((ji11) + 1)) : Int).toNat).size ≤ 9223372036854775807) = true := decide_eq_true c15
 try have c15b2 : (9223372036854775807 < t200.size + ((⟨#[48, 49, 50, 51, 52, 53, 54, 55, 56, 57]⟩ : ByteArray).extract ((ji11) : Int).toNat ((wrap64 ((ji11) + 1)) : Int).toNat).size) = False := eq_false (Nat.not_lt.2 c15)
 try have c15b3 : (9223372036854775807 < t200.size + (((⟨#[48, 49, 50, 51, 52, 53, 54, 55, 56, 57]⟩ : ByteArray).extract ((ji11) : Int).toNat ((wrap64 ((ji11) + 1)) : Int).toNat).size)) = False := eq_false (Nat.not_lt.2 (by have q_ := c15; simp only [ByteArray.size_append] at q_; exact q_))
 obtain rfl := Option.some.inj H
 go_enter Tryz.func54, Tryz.ntmps54
 try go_wp2
 have n0_ := zm (below_drew1 HB.out)
 clear HB
 have HB := n0_
 clear n0_
 refine start_ (n := 11) (S := fun w' => True) (ds := []) #[zf, zf, zf, zf, zf, zf, zf, zf, zf, zf, zf] (by kernel_rfl) rfl rfl trivial (fun hHeld => ?_); refine with_tabW spec_l1Num.tab5 spec_l1Num.bits5 (fun HT_ HW_ => ?_)
 generalize w.drew = w16 at HB hHeld ⊢
 refine zP 0 (some 15) #[zt, zf, zf, zf, zf, zf, zf, zf, zf, zf, zf] ?_ rfl rfl HT_ (Or.inl ⟨by rfl, ?_⟩) ?_ ?_ ?_
 rotate_left
 ·
  intro w'
  go_simp
  first | with_reducible rfl | (rw [if_neg (by have q_ := (‹(_ : Nat) + ByteArray.size _ ≤ 9223372036854775807›); simp only [ByteArray.size_extract, show (⟨#[48, 49, 50, 51, 52, 53, 54, 55, 56, 57]⟩ : ByteArray).size = 10 from rfl] at q_; omega)])
 rotate_left; · exact zqA
 refine zP 1 (some 16) #[zt, zt, zf, zf, zf, zf, zf, zf, zf, zf, zf] ?_ rfl rfl HT_ (Or.inl ⟨by rfl, ?_⟩) ?_ ?_ ?_
 rotate_left
 ·
  intro w'
  go_simp
  first | with_reducible rfl | (rw [if_neg (by have q_ := (‹(_ : Nat) + ByteArray.size _ ≤ 9223372036854775807›); simp only [ByteArray.size_extract, show (⟨#[48, 49, 50, 51, 52, 53, 54, 55, 56, 57]⟩ : ByteArray).size = 10 from rfl] at q_; omega)])
 rotate_left; · exact zqA
 refine zP 3 (some 18) #[zt, zt, zf, zt, zf, zf, zf, zf, zf, zf, zf] ?_ rfl rfl HT_ (Or.inl ⟨by rfl, ?_⟩) ?_ ?_ ?_
 rotate_left
 ·
  intro w'
  go_simp
  first | with_reducible rfl | (rw [if_neg (by have q_ := (‹(_ : Nat) + ByteArray.size _ ≤ 9223372036854775807›); simp only [ByteArray.size_extract, show (⟨#[48, 49, 50, 51, 52, 53, 54, 55, 56, 57]⟩ : ByteArray).size = 10 from rfl] at q_; omega)])
 rotate_left; · exact zqA
 refine zP 4 (some 19) #[zt, zt, zf, zt, zt, zf, zf, zf, zf, zf, zf] ?_ rfl rfl HT_ (Or.inl ⟨by rfl, ?_⟩) ?_ ?_ ?_
 rotate_left
 ·
  intro w'
  go_simp
  first | with_reducible rfl | (rw [if_neg (by have q_ := (‹(_ : Nat) + ByteArray.size _ ≤ 9223372036854775807›); simp only [ByteArray.size_extract, show (⟨#[48, 49, 50, 51, 52, 53, 54, 55, 56, 57]⟩ : ByteArray).size = 10 from rfl] at q_; omega)])
 rotate_left; · exact zqA
 refine zP 5 (some 20) #[zt, zt, zf, zt, zt, zt, zf, zf, zf, zf, zf] ?_ rfl rfl HT_ (Or.inl ⟨by rfl, ?_⟩) ?_ ?_ ?_
 rotate_left
 ·
  intro w'
  go_simp
  first | with_reducible rfl | (rw [if_neg (by have q_ := (‹(_ : Nat) + ByteArray.size _ ≤ 9223372036854775807›); simp only [ByteArray.size_extract, show (⟨#[48, 49, 50, 51, 52, 53, 54, 55, 56, 57]⟩ : ByteArray).size = 10 from rfl] at q_; omega)])
 rotate_left; · exact zqA
 refine zP 6 (some 21) #[zt, zt, zf, zt, zt, zt, zt, zf, zf, zf, zf] ?_ rfl rfl HT_ (Or.inl ⟨by rfl, ?_⟩) ?_ ?_ ?_
 rotate_left
 ·
  intro w'
  go_simp
  first | with_reducible rfl | (rw [if_neg (by have q_ := (‹(_ : Nat) + ByteArray.size _ ≤ 9223372036854775807›); simp only [ByteArray.size_extract, show (⟨#[48, 49, 50, 51, 52, 53, 54, 55, 56, 57]⟩ : ByteArray).size = 10 from rfl] at q_; omega)])
 rotate_left; · exact zqA
 refine zP 7 (some 22) #[zt, zt, zf, zt, zt, zt, zt, zt, zf, zf, zf] ?_ rfl rfl HT_ (Or.inl ⟨by rfl, ?_⟩) ?_ ?_ ?_
 rotate_left
 ·
  intro w'
  go_simp
  first | with_reducible rfl | (rw [if_neg (by have q_ := (‹(_ : Nat) + ByteArray.size _ ≤ 9223372036854775807›); simp only [ByteArray.size_extract, show (⟨#[48, 49, 50, 51, 52, 53, 54, 55, 56, 57]⟩ : ByteArray).size = 10 from rfl] at q_; omega)])
 rotate_left; · exact zqA
 refine zP 8 (some 23) #[zt, zt, zf, zt, zt, zt, zt, zt, zt, zf, zf] ?_ rfl rfl HT_ (Or.inl ⟨by rfl, ?_⟩) ?_ ?_ ?_
 rotate_left
 ·
  intro w'
  go_simp
  first | with_reducible rfl | (rw [if_neg (by have q_ := (‹(_ : Nat) + ByteArray.size _ ≤ 9223372036854775807›); simp only [ByteArray.size_extract, show (⟨#[48, 49, 50, 51, 52, 53, 54, 55, 56, 57]⟩ : ByteArray).size = 10 from rfl] at q_; omega)])
 rotate_left; · exact zqA
 refine one_ (i := 2) (N := some 17) #[zt, zt, zt, zt, zt, zt, zt, zt, zt, zf, zf] rfl rfl (one_of HT_.out (by kernel_rfl)) (by decide) (fun K hK => ?_)
 refine goes_ Tryz.func54 (by kernel_rfl) rfl #[.int .i64 (wrap64 (Int.tdiv a0 10))] (by rfl) rfl rfl zq1 ?_
 with_reducible refine (ih k (by omega) (wrap64 (Int.tdiv a0 10)) t200 _ A10.out).mono ?_
 rintro e w17 ⟨rfl, hb⟩
 refine ⟨_, rfl, ?_⟩
 have n0_ := zm (below_step zq0 hb)
 clear HB
 have HB := n0_
 clear n0_
 (try clear hb)
 (try clear hb2)
 (try clear hk)
 (try clear hi)
 refine hK.out _ _ trivial (fun hHeld => ?_)
 clear hK K
 refine norm_ (a' := ?_) ?_ ?_
 rotate_left
 ·
  show Act.put _ (some 17) _ = _
  simp only [Act.put, List.setIfInBounds_toArray, List.set_cons_zero, List.set_cons_succ, i64_w, i32_w]
  rfl
 refine zP 9 (some 24) #[zt, zt, zt, zt, zt, zt, zt, zt, zt, zt, zf] ?_ rfl rfl HT_ (Or.inl ⟨by rfl, ?_⟩) ?_ ?_ ?_
 rotate_left
 ·
  intro w'
  go_simp
  first | with_reducible rfl | (rw [if_neg (by have q_ := (‹(_ : Nat) + ByteArray.size _ ≤ 9223372036854775807›); simp only [ByteArray.size_extract, show (⟨#[48, 49, 50, 51, 52, 53, 54, 55, 56, 57]⟩ : ByteArray).size = 10 from rfl] at q_; omega)])
 rotate_left; · exact zqA
 refine zP 10 (some 2) #[zt, zt, zt, zt, zt, zt, zt, zt, zt, zt, zt] ?_ rfl rfl HT_ (Or.inl ⟨by rfl, ?_⟩) ?_ ?_ ?_
 rotate_left
 ·
  intro w'
  go_simp
  first | with_reducible rfl | (rw [if_neg (by have q_ := (‹(_ : Nat) + ByteArray.size _ ≤ 9223372036854775807›); simp only [ByteArray.size_extract, show (⟨#[48, 49, 50, 51, 52, 53, 54, 55, 56, 57]⟩ : ByteArray).size = 10 from rfl] at q_; omega)])
 rotate_left; · exact zqA
 refine done_ (done_of HT_.out (by kernel_rfl)) ?_
 try go_wp2
 go_ret
 exact ⟨by first | rfl | (simp [errW_none, errW_some] <;> rfl) | (simp only [← hji11]; first | rfl | (simp [errW_none, errW_some] <;> rfl)) | (simp [*, errW_none, errW_some] <;> rfl), zq0⟩
def spec_l16Hour.f (k : Nat) (a0 : Int) : Option (ByteArray) := (spec_l1Num.f k (Int.tmod a0 24)).bind fun t201 => (if (t201.size : Int) = 1 then (if 1 + t201.size ≤ 9223372036854775807 then ((spec_l1Num.f k (wrap64 ((wrap64 (Int.tdiv a0 24)) + 1))).bind fun t202 => (if 4 + t202.size ≤ 9223372036854775807 then (if ((⟨#[100, 97, 121, 32]⟩ : ByteArray) ++ t202).size + 2 ≤ 9223372036854775807 then (if (((⟨#[100, 97, 121, 32]⟩ : ByteArray) ++ t202) ++ (⟨#[44, 32]⟩ : ByteArray)).size + ((⟨#[48]⟩ : ByteArray) ++ t201).size ≤ 9223372036854775807 then (if ((((⟨#[100, 97, 121, 32]⟩ : ByteArray) ++ t202) ++ (⟨#[44, 32]⟩ : ByteArray)) ++ ((⟨#[48]⟩ : ByteArray) ++ t201)).size + 3 ≤ 9223372036854775807 then (some (((((⟨#[100, 97, 121, 32]⟩ : ByteArray) ++ t202) ++ (⟨#[44, 32]⟩ : ByteArray)) ++ ((⟨#[48]⟩ : ByteArray) ++ t201)) ++ (⟨#[58, 48, 48]⟩ : ByteArray))) else (none)) else (none)) else (none)) else (none))) else (none)) else ((spec_l1Num.f k (wrap64 ((wrap64 (Int.tdiv a0 24)) + 1))).bind fun t203 => (if 4 + t203.size ≤ 9223372036854775807 then (if ((⟨#[100, 97, 121, 32]⟩ : ByteArray) ++ t203).size + 2 ≤ 9223372036854775807 then (if (((⟨#[100, 97, 121, 32]⟩ : ByteArray) ++ t203) ++ (⟨#[44, 32]⟩ : ByteArray)).size + t201.size ≤ 9223372036854775807 then (if ((((⟨#[100, 97, 121, 32]⟩ : ByteArray) ++ t203) ++ (⟨#[44, 32]⟩ : ByteArray)) ++ t201).size + 3 ≤ 9223372036854775807 then (some (((((⟨#[100, 97, 121, 32]⟩ : ByteArray) ++ t203) ++ (⟨#[44, 32]⟩ : ByteArray)) ++ t201) ++ (⟨#[58, 48, 48]⟩ : ByteArray))) else (none)) else (none)) else (none)) else (none))))
set_option maxHeartbeats 8000000 in
set_option maxRecDepth 100000 in
theorem spec_l16Hour.calls (k : Nat) (a0 : Int) (r : ByteArray) (w : World) (h : spec_l16Hour.f k a0 = some r) :
  Calls Tryz.prog 52 #[.int .i64 a0] w fun e w' => e = .returned (.string r) ∧ Below w.heap.size w w' := by
 have HB := zm (Below.refl w.heap.size w)
 have H : ((spec_l1Num.f k (Int.tmod a0 24)).bind fun t201 => (if (t201.size : Int) = 1 then (if 1 + t201.size ≤ 9223372036854775807 then ((spec_l1Num.f k (wrap64 ((wrap64 (Int.tdiv a0 24)) + 1))).bind fun t202 => (if 4 + t202.size ≤ 9223372036854775807 then (if ((⟨#[100, 97, 121, 32]⟩ : ByteArray) ++ t202).size + 2 ≤ 9223372036854775807 then (if (((⟨#[100, 97, 121, 32]⟩ : ByteArray) ++ t202) ++ (⟨#[44, 32]⟩ : ByteArray)).size + ((⟨#[48]⟩ : ByteArray) ++ t201).size ≤ 9223372036854775807 then (if ((((⟨#[100, 97, 121, 32]⟩ : ByteArray) ++ t202) ++ (⟨#[44, 32]⟩ : ByteArray)) ++ ((⟨#[48]⟩ : ByteArray) ++ t201)).size + 3 ≤ 9223372036854775807 then (some (((((⟨#[100, 97, 121, 32]⟩ : ByteArray) ++ t202) ++ (⟨#[44, 32]⟩ : ByteArray)) ++ ((⟨#[48]⟩ : ByteArray) ++ t201)) ++ (⟨#[58, 48, 48]⟩ : ByteArray))) else (none)) else (none)) else (none)) else (none))) else (none)) else ((spec_l1Num.f k (wrap64 ((wrap64 (Int.tdiv a0 24)) + 1))).bind fun t203 => (if 4 + t203.size ≤ 9223372036854775807 then (if ((⟨#[100, 97, 121, 32]⟩ : ByteArray) ++ t203).size + 2 ≤ 9223372036854775807 then (if (((⟨#[100, 97, 121, 32]⟩ : ByteArray) ++ t203) ++ (⟨#[44, 32]⟩ : ByteArray)).size + t201.size ≤ 9223372036854775807 then (if ((((⟨#[100, 97, 121, 32]⟩ : ByteArray) ++ t203) ++ (⟨#[44, 32]⟩ : ByteArray)) ++ t201).size + 3 ≤ 9223372036854775807 then (some (((((⟨#[100, 97, 121, 32]⟩ : ByteArray) ++ t203) ++ (⟨#[44, 32]⟩ : ByteArray)) ++ t201) ++ (⟨#[58, 48, 48]⟩ : ByteArray))) else (none)) else (none)) else (none)) else (none))))) = some r := h
 clear h
 obtain ⟨t201, A20, H⟩ := zob H
 replace H : (if (t201.size : Int) = 1 then (if 1 + t201.size ≤ 9223372036854775807 then ((spec_l1Num.f k (wrap64 ((wrap64 (Int.tdiv a0 24)) + 1))).bind fun t202 => (if 4 + t202.size ≤ 9223372036854775807 then (if ((⟨#[100, 97, 121, 32]⟩ : ByteArray) ++ t202).size + 2 ≤ 9223372036854775807 then (if (((⟨#[100, 97, 121, 32]⟩ : ByteArray) ++ t202) ++ (⟨#[44, 32]⟩ : ByteArray)).size + ((⟨#[48]⟩ : ByteArray) ++ t201).size ≤ 9223372036854775807 then (if ((((⟨#[100, 97, 121, 32]⟩ : ByteArray) ++ t202) ++ (⟨#[44, 32]⟩ : ByteArray)) ++ ((⟨#[48]⟩ : ByteArray) ++ t201)).size + 3 ≤ 9223372036854775807 then (some (((((⟨#[100, 97, 121, 32]⟩ : ByteArray) ++ t202) ++ (⟨#[44, 32]⟩ : ByteArray)) ++ ((⟨#[48]⟩ : ByteArray) ++ t201)) ++ (⟨#[58, 48, 48]⟩ : ByteArray))) else (none)) else (none)) else (none)) else (none))) else (none)) else ((spec_l1Num.f k (wrap64 ((wrap64 (Int.tdiv a0 24)) + 1))).bind fun t203 => (if 4 + t203.size ≤ 9223372036854775807 then (if ((⟨#[100, 97, 121, 32]⟩ : ByteArray) ++ t203).size + 2 ≤ 9223372036854775807 then (if (((⟨#[100, 97, 121, 32]⟩ : ByteArray) ++ t203) ++ (⟨#[44, 32]⟩ : ByteArray)).size + t201.size ≤ 9223372036854775807 then (if ((((⟨#[100, 97, 121, 32]⟩ : ByteArray) ++ t203) ++ (⟨#[44, 32]⟩ : ByteArray)) ++ t201).size + 3 ≤ 9223372036854775807 then (some (((((⟨#[100, 97, 121, 32]⟩ : ByteArray) ++ t203) ++ (⟨#[44, 32]⟩ : ByteArray)) ++ t201) ++ (⟨#[58, 48, 48]⟩ : ByteArray))) else (none)) else (none)) else (none)) else (none)))) = some r := H
 have A2 := zm A20
 clear A20
 by_cases c3 : (t201.size : Int) = 1
 case neg =>
  rw [if_neg c3] at H
  have c3b0 : ((t201.size : Int) == 1) = false := beq_eq_false_iff_ne.mpr c3
  have c3b1 : ((t201.size : Int) != 1) = true := bne_iff_ne.mpr c3
  obtain ⟨t203, A120, H⟩ := zob H
  replace H : (if 4 + t203.size ≤ 9223372036854775807 then (if ((⟨#[100, 97, 121, 32]⟩ : ByteArray) ++ t203).size + 2 ≤ 9223372036854775807 then (if (((⟨#[100, 97, 121, 32]⟩ : ByteArray) ++ t203) ++ (⟨#[44, 32]⟩ : ByteArray)).size + t201.size ≤ 9223372036854775807 then (if ((((⟨#[100, 97, 121, 32]⟩ : ByteArray) ++ t203) ++ (⟨#[44, 32]⟩ : ByteArray)) ++ t201).size + 3 ≤ 9223372036854775807 then (some (((((⟨#[100, 97, 121, 32]⟩ : ByteArray) ++ t203) ++ (⟨#[44, 32]⟩ : ByteArray)) ++ t201) ++ (⟨#[58, 48, 48]⟩ : ByteArray))) else (none)) else (none)) else (none)) else (none)) = some r := H
  have A12 := zm A120
  clear A120
  by_cases c13 : 4 + t203.size ≤ 9223372036854775807
  case neg =>
   rw [if_neg c13] at H
   exact absurd H (by simp)
  rw [if_pos c13] at H
  have c13b0 := eq_true c13
  have c13b1 : decide (4 + t203.size ≤ 9223372036854775807) = true := decide_eq_true c13
  try have c13b2 : (9223372036854775807 < 4 + t203.size) = False := eq_false (Nat.not_lt.2 c13)
  by_cases c14 : ((⟨#[100, 97, 121, 32]⟩ : ByteArray) ++ t203).size + 2 ≤ 9223372036854775807
  case neg =>
   rw [if_neg c14] at H
   exact absurd H (by simp)
  rw [if_pos c14] at H
  have c14b0 := eq_true c14
  have c14b1 : decide (((⟨#[100, 97, 121, 32]⟩ : ByteArray) ++ t203).size + 2 ≤ 9223372036854775807) = true := decide_eq_true c14
  try have c14b2 : (9223372036854775807 < ((⟨#[100, 97, 121, 32]⟩ : ByteArray) ++ t203).size + 2) = False := eq_false (Nat.not_lt.2 c14)
  try have c14b3 : (9223372036854775807 < 4 + t203.size + 2) = False := eq_false (Nat.not_lt.2 (by have q_ := c14; simp only [ByteArray.size_append] at q_; exact q_))
  by_cases c15 : (((⟨#[100, 97, 121, 32]⟩ : ByteArray) ++ t203) ++ (⟨#[44, 32]⟩ : ByteArray)).size + t201.size ≤ 9223372036854775807
  case neg =>
   rw [if_neg c15] at H
   exact absurd H (by simp)
  rw [if_pos c15] at H
  have c15b0 := eq_true c15
  have c15b1 : decide ((((⟨#[100, 97, 121, 32]⟩ : ByteArray) ++ t203) ++ (⟨#[44, 32]⟩ : ByteArray)).size + t201.size ≤ 9223372036854775807) = true := decide_eq_true c15
  try have c15b2 : (9223372036854775807 < (((⟨#[100, 97, 121, 32]⟩ : ByteArray) ++ t203) ++ (⟨#[44, 32]⟩ : ByteArray)).size + t201.size) = False := eq_false (Nat.not_lt.2 c15)
  try have c15b3 : (9223372036854775807 < 4 + t203.size + 2 + t201.size) = False := eq_false (Nat.not_lt.2 (by have q_ := c15; simp only [ByteArray.size_append] at q_; exact q_))
  by_cases c16 : ((((⟨#[100, 97, 121, 32]⟩ : ByteArray) ++ t203) ++ (⟨#[44, 32]⟩ : ByteArray)) ++ t201).size + 3 ≤ 9223372036854775807
  case neg =>
   rw [if_neg c16] at H
   exact absurd H (by simp)
  rw [if_pos c16] at H
  have c16b0 := eq_true c16
  have c16b1 : decide (((((⟨#[100, 97, 121, 32]⟩ : ByteArray) ++ t203) ++ (⟨#[44, 32]⟩ : ByteArray)) ++ t201).size + 3 ≤ 9223372036854775807) = true := decide_eq_true c16
  try have c16b2 : (9223372036854775807 < ((((⟨#[100, 97, 121, 32]⟩ : ByteArray) ++ t203) ++ (⟨#[44, 32]⟩ : ByteArray)) ++ t201).size + 3) = False := eq_false (Nat.not_lt.2 c16)
  try have c16b3 : (9223372036854775807 < 4 + t203.size + 2 + t201.size + 3) = False := eq_false (Nat.not_lt.2 (by have q_ := c16; simp only [ByteArray.size_append] at q_; exact q_))
  obtain rfl := Option.some.inj H
  go_enter Tryz.func52, Tryz.ntmps52
  go_wp2_with (first | ((with_reducible refine gate_callee (f := 54) rfl ?_); refine goesL_ (some 6) rfl rfl Tryz.func54 (by kernel_rfl) rfl #[.int .i64 (Int.tmod a0 24)] rfl zq1 ?_; (with_reducible refine (spec_l1Num.calls k (Int.tmod a0 24) t201 _ A2.out).mono ?_); rintro e w17 ⟨rfl, hb⟩; refine ⟨_, rfl, ?_⟩; replace HB := zm (below_step zq0 hb); (try clear hb); (try clear hb2); (try clear hk); (try clear hi)) | ((with_reducible refine gate_callee (f := 54) rfl ?_); refine goesL_ (some 15) rfl rfl Tryz.func54 (by kernel_rfl) rfl #[.int .i64 (wrap64 ((wrap64 (Int.tdiv a0 24)) + 1))] rfl zq1 ?_; (with_reducible refine (spec_l1Num.calls k (wrap64 ((wrap64 (Int.tdiv a0 24)) + 1)) t203 _ A12.out).mono ?_); rintro e w18 ⟨rfl, hb⟩; refine ⟨_, rfl, ?_⟩; replace HB := zm (below_step zq0 hb); (try clear hb); (try clear hb2); (try clear hk); (try clear hi)))
  go_ret
  exact ⟨zqE, zq0⟩
 rw [if_pos c3] at H
 have c3b0 : ((t201.size : Int) == 1) = true := beq_iff_eq.mpr c3
 have c3b1 : ((t201.size : Int) != 1) = false := bne_eq_false_iff_eq.mpr c3
 clear c3
 by_cases c4 : 1 + t201.size ≤ 9223372036854775807
 case neg =>
  rw [if_neg c4] at H
  exact absurd H (by simp)
 rw [if_pos c4] at H
 have c4b0 := eq_true c4
 have c4b1 : decide (1 + t201.size ≤ 9223372036854775807) = true := decide_eq_true c4
 try have c4b2 : (9223372036854775807 < 1 + t201.size) = False := eq_false (Nat.not_lt.2 c4)
 obtain ⟨t202, A50, H⟩ := zob H
 replace H : (if 4 + t202.size ≤ 9223372036854775807 then (if ((⟨#[100, 97, 121, 32]⟩ : ByteArray) ++ t202).size + 2 ≤ 9223372036854775807 then (if (((⟨#[100, 97, 121, 32]⟩ : ByteArray) ++ t202) ++ (⟨#[44, 32]⟩ : ByteArray)).size + ((⟨#[48]⟩ : ByteArray) ++ t201).size ≤ 9223372036854775807 then (if ((((⟨#[100, 97, 121, 32]⟩ : ByteArray) ++ t202) ++ (⟨#[44, 32]⟩ : ByteArray)) ++ ((⟨#[48]⟩ : ByteArray) ++ t201)).size + 3 ≤ 9223372036854775807 then (some (((((⟨#[100, 97, 121, 32]⟩ : ByteArray) ++ t202) ++ (⟨#[44, 32]⟩ : ByteArray)) ++ ((⟨#[48]⟩ : ByteArray) ++ t201)) ++ (⟨#[58, 48, 48]⟩ : ByteArray))) else (none)) else (none)) else (none)) else (none)) = some r := H
 have A5 := zm A50
 clear A50
 by_cases c6 : 4 + t202.size ≤ 9223372036854775807
 case neg =>
  rw [if_neg c6] at H
  exact absurd H (by simp)
 rw [if_pos c6] at H
 have c6b0 := eq_true c6
 have c6b1 : decide (4 + t202.size ≤ 9223372036854775807) = true := decide_eq_true c6
 try have c6b2 : (9223372036854775807 < 4 + t202.size) = False := eq_false (Nat.not_lt.2 c6)
 by_cases c7 : ((⟨#[100, 97, 121, 32]⟩ : ByteArray) ++ t202).size + 2 ≤ 9223372036854775807
 case neg =>
  rw [if_neg c7] at H
  exact absurd H (by simp)
 rw [if_pos c7] at H
 have c7b0 := eq_true c7
 have c7b1 : decide (((⟨#[100, 97, 121, 32]⟩ : ByteArray) ++ t202).size + 2 ≤ 9223372036854775807) = true := decide_eq_true c7
 try have c7b2 : (9223372036854775807 < ((⟨#[100, 97, 121, 32]⟩ : ByteArray) ++ t202).size + 2) = False := eq_false (Nat.not_lt.2 c7)
 try have c7b3 : (9223372036854775807 < 4 + t202.size + 2) = False := eq_false (Nat.not_lt.2 (by have q_ := c7; simp only [ByteArray.size_append] at q_; exact q_))
 by_cases c8 : (((⟨#[100, 97, 121, 32]⟩ : ByteArray) ++ t202) ++ (⟨#[44, 32]⟩ : ByteArray)).size + ((⟨#[48]⟩ : ByteArray) ++ t201).size ≤ 9223372036854775807
 case neg =>
  rw [if_neg c8] at H
  exact absurd H (by simp)
 rw [if_pos c8] at H
 have c8b0 := eq_true c8
 have c8b1 : decide ((((⟨#[100, 97, 121, 32]⟩ : ByteArray) ++ t202) ++ (⟨#[44, 32]⟩ : ByteArray)).size + ((⟨#[48]⟩ : ByteArray) ++ t201).size ≤ 9223372036854775807) = true := decide_eq_true c8
 try have c8b2 : (9223372036854775807 < (((⟨#[100, 97, 121, 32]⟩ : ByteArray) ++ t202) ++ (⟨#[44, 32]⟩ : ByteArray)).size + ((⟨#[48]⟩ : ByteArray) ++ t201).size) = False := eq_false (Nat.not_lt.2 c8)
 try have c8b3 : (9223372036854775807 < 4 + t202.size + 2 + (1 + t201.size)) = False := eq_false (Nat.not_lt.2 (by have q_ := c8; simp only [ByteArray.size_append] at q_; exact q_))
 by_cases c9 : ((((⟨#[100, 97, 121, 32]⟩ : ByteArray) ++ t202) ++ (⟨#[44, 32]⟩ : ByteArray)) ++ ((⟨#[48]⟩ : ByteArray) ++ t201)).size + 3 ≤ 9223372036854775807
 case neg =>
  rw [if_neg c9] at H
  exact absurd H (by simp)
 rw [if_pos c9] at H
 have c9b0 := eq_true c9
 have c9b1 : decide (((((⟨#[100, 97, 121, 32]⟩ : ByteArray) ++ t202) ++ (⟨#[44, 32]⟩ : ByteArray)) ++ ((⟨#[48]⟩ : ByteArray) ++ t201)).size + 3 ≤ 9223372036854775807) = true := decide_eq_true c9
 try have c9b2 : (9223372036854775807 < ((((⟨#[100, 97, 121, 32]⟩ : ByteArray) ++ t202) ++ (⟨#[44, 32]⟩ : ByteArray)) ++ ((⟨#[48]⟩ : ByteArray) ++ t201)).size + 3) = False := eq_false (Nat.not_lt.2 c9)
 try have c9b3 : (9223372036854775807 < 4 + t202.size + 2 + (1 + t201.size) + 3) = False := eq_false (Nat.not_lt.2 (by have q_ := c9; simp only [ByteArray.size_append] at q_; exact q_))
 obtain rfl := Option.some.inj H
 go_enter Tryz.func52, Tryz.ntmps52
 go_wp2_with (first | ((with_reducible refine gate_callee (f := 54) rfl ?_); refine goesL_ (some 6) rfl rfl Tryz.func54 (by kernel_rfl) rfl #[.int .i64 (Int.tmod a0 24)] rfl zq1 ?_; (with_reducible refine (spec_l1Num.calls k (Int.tmod a0 24) t201 _ A2.out).mono ?_); rintro e w10 ⟨rfl, hb⟩; refine ⟨_, rfl, ?_⟩; replace HB := zm (below_step zq0 hb); (try clear hb); (try clear hb2); (try clear hk); (try clear hi)) | ((with_reducible refine gate_callee (f := 54) rfl ?_); refine goesL_ (some 15) rfl rfl Tryz.func54 (by kernel_rfl) rfl #[.int .i64 (wrap64 ((wrap64 (Int.tdiv a0 24)) + 1))] rfl zq1 ?_; (with_reducible refine (spec_l1Num.calls k (wrap64 ((wrap64 (Int.tdiv a0 24)) + 1)) t202 _ A5.out).mono ?_); rintro e w11 ⟨rfl, hb⟩; refine ⟨_, rfl, ?_⟩; replace HB := zm (below_step zq0 hb); (try clear hb); (try clear hb2); (try clear hk); (try clear hi)))
 go_ret
 exact ⟨zqE, zq0⟩
end Go.Proofs.YtleadjbfcenofaaGreatDoor.Q
