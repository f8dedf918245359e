/- Texts of this claim, put together: walks of the program's functions, and plain facts. -/
import Derived.Test.YtleadjbfcenofaaGreatDoorZFnWarningTexts
import Derived.Test.YtleadjbfcenofaaGreatDoorBFnWarningTexts0
import Derived.Test.YtleadjbfcenofaaGreatDoorBFnWarningTexts1
import Derived.Test.YtleadjbfcenofaaGreatDoorBFnWarningTexts2
namespace Go.Proofs.YtleadjbfcenofaaGreatDoor.Q
open Go.RowKit Go.Proofs.YtleadjbfcenofaaGreatDoorW.PrintWords Go.Proofs.YtleadjbfcenofaaGreatDoorW.PrintLast Go.Proofs.YtleadjbfcenofaaGreatDoorW.PrintMore
attribute [local go_sem] max2_int min2_int max_two min_two max_three min_three max_four min_four
set_option linter.unusedVariables false
set_option linter.unusedSimpArgs false
def spec_l16Text.f (k : Nat) (a0_0 : Int) (a0_1 : Int) (a0_2 : Int) (a0_3 : Int) (a0_4 : Int) (a0_5 : Int) : Option (ByteArray) := (spec_l16Levels.f).bind fun t205 => (if 0 ≤ a0_2 then (if a0_2 < (t205.length : Int) then (if (rdOf ByteArray.empty t205 a0_2).size + 12 ≤ 9223372036854775807 then ((spec_l16Topics.f).bind fun t209 => (if 0 ≤ a0_1 then (if a0_1 < (t209.length : Int) then (if ((rdOf ByteArray.empty t205 a0_2) ++ (⟨#[32, 119, 97, 114, 110, 105, 110, 103, 32, 111, 102, 32]⟩ : ByteArray)).size + (rdOf ByteArray.empty t209 a0_1).size ≤ 9223372036854775807 then (if (((rdOf ByteArray.empty t205 a0_2) ++ (⟨#[32, 119, 97, 114, 110, 105, 110, 103, 32, 111, 102, 32]⟩ : ByteArray)) ++ (rdOf ByteArray.empty t209 a0_1)).size + 10 ≤ 9223372036854775807 then ((spec_l1Num.f k a0_3).bind fun t213 => (if ((((rdOf ByteArray.empty t205 a0_2) ++ (⟨#[32, 119, 97, 114, 110, 105, 110, 103, 32, 111, 102, 32]⟩ : ByteArray)) ++ (rdOf ByteArray.empty t209 a0_1)) ++ (⟨#[32, 102, 111, 114, 32, 97, 114, 101, 97, 32]⟩ : ByteArray)).size + t213.size ≤ 9223372036854775807 then (if (((((rdOf ByteArray.empty t205 a0_2) ++ (⟨#[32, 119, 97, 114, 110, 105, 110, 103, 32, 111, 102, 32]⟩ : ByteArray)) ++ (rdOf ByteArray.empty t209 a0_1)) ++ (⟨#[32, 102, 111, 114, 32, 97, 114, 101, 97, 32]⟩ : ByteArray)) ++ t213).size + 6 ≤ 9223372036854775807 then ((spec_l16Hour.f k a0_4).bind fun t214 => (if ((((((rdOf ByteArray.empty t205 a0_2) ++ (⟨#[32, 119, 97, 114, 110, 105, 110, 103, 32, 111, 102, 32]⟩ : ByteArray)) ++ (rdOf ByteArray.empty t209 a0_1)) ++ (⟨#[32, 102, 111, 114, 32, 97, 114, 101, 97, 32]⟩ : ByteArray)) ++ t213) ++ (⟨#[32, 102, 114, 111, 109, 32]⟩ : ByteArray)).size + t214.size ≤ 9223372036854775807 then (if (((((((rdOf ByteArray.empty t205 a0_2) ++ (⟨#[32, 119, 97, 114, 110, 105, 110, 103, 32, 111, 102, 32]⟩ : ByteArray)) ++ (rdOf ByteArray.empty t209 a0_1)) ++ (⟨#[32, 102, 111, 114, 32, 97, 114, 101, 97, 32]⟩ : ByteArray)) ++ t213) ++ (⟨#[32, 102, 114, 111, 109, 32]⟩ : ByteArray)) ++ t214).size + 7 ≤ 9223372036854775807 then ((spec_l16Hour.f k a0_5).bind fun t215 => (if ((((((((rdOf ByteArray.empty t205 a0_2) ++ (⟨#[32, 119, 97, 114, 110, 105, 110, 103, 32, 111, 102, 32]⟩ : ByteArray)) ++ (rdOf ByteArray.empty t209 a0_1)) ++ (⟨#[32, 102, 111, 114, 32, 97, 114, 101, 97, 32]⟩ : ByteArray)) ++ t213) ++ (⟨#[32, 102, 114, 111, 109, 32]⟩ : ByteArray)) ++ t214) ++ (⟨#[32, 117, 110, 116, 105, 108, 32]⟩ : ByteArray)).size + t215.size ≤ 9223372036854775807 then (if (((((((((rdOf ByteArray.empty t205 a0_2) ++ (⟨#[32, 119, 97, 114, 110, 105, 110, 103, 32, 111, 102, 32]⟩ : ByteArray)) ++ (rdOf ByteArray.empty t209 a0_1)) ++ (⟨#[32, 102, 111, 114, 32, 97, 114, 101, 97, 32]⟩ : ByteArray)) ++ t213) ++ (⟨#[32, 102, 114, 111, 109, 32]⟩ : ByteArray)) ++ t214) ++ (⟨#[32, 117, 110, 116, 105, 108, 32]⟩ : ByteArray)) ++ t215).size + 6 ≤ 9223372036854775807 then ((spec_l1Num.f k a0_0).bind fun t216 => (if ((((((((((rdOf ByteArray.empty t205 a0_2) ++ (⟨#[32, 119, 97, 114, 110, 105, 110, 103, 32, 111, 102, 32]⟩ : ByteArray)) ++ (rdOf ByteArray.empty t209 a0_1)) ++ (⟨#[32, 102, 111, 114, 32, 97, 114, 101, 97, 32]⟩ : ByteArray)) ++ t213) ++ (⟨#[32, 102, 114, 111, 109, 32]⟩ : ByteArray)) ++ t214) ++ (⟨#[32, 117, 110, 116, 105, 108, 32]⟩ : ByteArray)) ++ t215) ++ (⟨#[32, 40, 110, 111, 46, 32]⟩ : ByteArray)).size + t216.size ≤ 9223372036854775807 then (if (((((((((((rdOf ByteArray.empty t205 a0_2) ++ (⟨#[32, 119, 97, 114, 110, 105, 110, 103, 32, 111, 102, 32]⟩ : ByteArray)) ++ (rdOf ByteArray.empty t209 a0_1)) ++ (⟨#[32, 102, 111, 114, 32, 97, 114, 101, 97, 32]⟩ : ByteArray)) ++ t213) ++ (⟨#[32, 102, 114, 111, 109, 32]⟩ : ByteArray)) ++ t214) ++ (⟨#[32, 117, 110, 116, 105, 108, 32]⟩ : ByteArray)) ++ t215) ++ (⟨#[32, 40, 110, 111, 46, 32]⟩ : ByteArray)) ++ t216).size + 2 ≤ 9223372036854775807 then (some ((((((((((((rdOf ByteArray.empty t205 a0_2) ++ (⟨#[32, 119, 97, 114, 110, 105, 110, 103, 32, 111, 102, 32]⟩ : ByteArray)) ++ (rdOf ByteArray.empty t209 a0_1)) ++ (⟨#[32, 102, 111, 114, 32, 97, 114, 101, 97, 32]⟩ : ByteArray)) ++ t213) ++ (⟨#[32, 102, 114, 111, 109, 32]⟩ : ByteArray)) ++ t214) ++ (⟨#[32, 117, 110, 116, 105, 108, 32]⟩ : ByteArray)) ++ t215) ++ (⟨#[32, 40, 110, 111, 46, 32]⟩ : ByteArray)) ++ t216) ++ (⟨#[41, 46]⟩ : ByteArray))) else (none)) else (none))) else (none)) else (none))) else (none)) else (none))) else (none)) else (none))) else (none)) else (none)) else (none)) else (none))) else (none)) else (none)) else (none))
def spec_l16Text.T1 : Bool × List (List Nat × List Nat) := (true, [([], []), ([], []), ([1], [1]), ([0, 2], [0, 2]), ([3], [3]), ([4], [4]), ([0], []), ([], []), ([7], [7]), ([6, 8], [6, 8]), ([9], [9]), ([5, 10], [5, 10]), ([11], [11]), ([], []), ([13], [13]), ([14, 6], [14]), ([12, 15], [12, 15]), ([16], [16]), ([], []), ([18], [18]), ([19, 15], [19]), ([17, 20], [17, 20]), ([21], [21]), ([], []), ([23], [23]), ([24, 20], [24]), ([22, 25], [22, 25]), ([26], [26]), ([], []), ([28], [28]), ([29, 25], [29]), ([27, 30], [27, 30]), ([31], [31]), ([32, 30, 0, 1, 2, 3, 4, 5, 6, 7, 8, 9, 10, 11, 12, 13, 14, 15, 16, 17, 18, 19, 20, 21, 22, 23, 24, 25, 26, 27, 28, 29, 30, 31, 32], [32])])
def spec_l16Text.B1 : List Nat := [0, 0, 2, 7, 15, 31, 1, 0, 128, 449, 961, 2047, 4095, 0, 8192, 24641, 65535, 131071, 0, 262144, 843841, 2097151, 4194303, 0, 8388608, 27058241, 67108863, 134217727, 0, 268435456, 865919041, 2147483647, 4294967295, 8589934591]
theorem spec_l16Text.tab1 : rtab .any (opsOf Tryz.f26 1) = spec_l16Text.T1 := by kernel_rfl
theorem spec_l16Text.bits1 : waitsOk spec_l16Text.T1.2 spec_l16Text.B1 = true := by kernel_rfl
set_option maxHeartbeats 8000000 in
set_option maxRecDepth 100000 in
theorem spec_l16Text.calls (k : Nat) (a0_0 : Int) (a0_1 : Int) (a0_2 : Int) (a0_3 : Int) (a0_4 : Int) (a0_5 : Int) (r : ByteArray) (w : World) (h : spec_l16Text.f k a0_0 a0_1 a0_2 a0_3 a0_4 a0_5 = some r) :
  Calls Tryz.prog 26 #[.agg #[.int .i64 a0_0, .int .i64 a0_1, .int .i64 a0_2, .int .i64 a0_3, .int .i64 a0_4, .int .i64 a0_5]] w fun e w' => e = .returned (.string r) ∧ Below w.heap.size w w' := by
 have hu25 := Tryz.underlying25
 have HB := zm (Below.refl w.heap.size w)
 have H : ((spec_l16Levels.f).bind fun t205 => (if 0 ≤ a0_2 then (if a0_2 < (t205.length : Int) then (if (rdOf ByteArray.empty t205 a0_2).size + 12 ≤ 9223372036854775807 then ((spec_l16Topics.f).bind fun t209 => (if 0 ≤ a0_1 then (if a0_1 < (t209.length : Int) then (if ((rdOf ByteArray.empty t205 a0_2) ++ (⟨#[32, 119, 97, 114, 110, 105, 110, 103, 32, 111, 102, 32]⟩ : ByteArray)).size + (rdOf ByteArray.empty t209 a0_1).size ≤ 9223372036854775807 then (if (((rdOf ByteArray.empty t205 a0_2) ++ (⟨#[32, 119, 97, 114, 110, 105, 110, 103, 32, 111, 102, 32]⟩ : ByteArray)) ++ (rdOf ByteArray.empty t209 a0_1)).size + 10 ≤ 9223372036854775807 then ((spec_l1Num.f k a0_3).bind fun t213 => (if ((((rdOf ByteArray.empty t205 a0_2) ++ (⟨#[32, 119, 97, 114, 110, 105, 110, 103, 32, 111, 102, 32]⟩ : ByteArray)) ++ (rdOf ByteArray.empty t209 a0_1)) ++ (⟨#[32, 102, 111, 114, 32, 97, 114, 101, 97, 32]⟩ : ByteArray)).size + t213.size ≤ 9223372036854775807 then (if (((((rdOf ByteArray.empty t205 a0_2) ++ (⟨#[32, 119, 97, 114, 110, 105, 110, 103, 32, 111, 102, 32]⟩ : ByteArray)) ++ (rdOf ByteArray.empty t209 a0_1)) ++ (⟨#[32, 102, 111, 114, 32, 97, 114, 101, 97, 32]⟩ : ByteArray)) ++ t213).size + 6 ≤ 9223372036854775807 then ((spec_l16Hour.f k a0_4).bind fun t214 => (if ((((((rdOf ByteArray.empty t205 a0_2) ++ (⟨#[32, 119, 97, 114, 110, 105, 110, 103, 32, 111, 102, 32]⟩ : ByteArray)) ++ (rdOf ByteArray.empty t209 a0_1)) ++ (⟨#[32, 102, 111, 114, 32, 97, 114, 101, 97, 32]⟩ : ByteArray)) ++ t213) ++ (⟨#[32, 102, 114, 111, 109, 32]⟩ : ByteArray)).size + t214.size ≤ 9223372036854775807 then (if (((((((rdOf ByteArray.empty t205 a0_2) ++ (⟨#[32, 119, 97, 114, 110, 105, 110, 103, 32, 111, 102, 32]⟩ : ByteArray)) ++ (rdOf ByteArray.empty t209 a0_1)) ++ (⟨#[32, 102, 111, 114, 32, 97, 114, 101, 97, 32]⟩ : ByteArray)) ++ t213) ++ (⟨#[32, 102, 114, 111, 109, 32]⟩ : ByteArray)) ++ t214).size + 7 ≤ 9223372036854775807 then ((spec_l16Hour.f k a0_5).bind fun t215 => (if ((((((((rdOf ByteArray.empty t205 a0_2) ++ (⟨#[32, 119, 97, 114, 110, 105, 110, 103, 32, 111, 102, 32]⟩ : ByteArray)) ++ (rdOf ByteArray.empty t209 a0_1)) ++ (⟨#[32, 102, 111, 114, 32, 97, 114, 101, 97, 32]⟩ : ByteArray)) ++ t213) ++ (⟨#[32, 102, 114, 111, 109, 32]⟩ : ByteArray)) ++ t214) ++ (⟨#[32, 117, 110, 116, 105, 108, 32]⟩ : ByteArray)).size + t215.size ≤ 9223372036854775807 then (if (((((((((rdOf ByteArray.empty t205 a0_2) ++ (⟨#[32, 119, 97, 114, 110, 105, 110, 103, 32, 111, 102, 32]⟩ : ByteArray)) ++ (rdOf ByteArray.empty t209 a0_1)) ++ (⟨#[32, 102, 111, 114, 32, 97, 114, 101, 97, 32]⟩ : ByteArray)) ++ t213) ++ (⟨#[32, 102, 114, 111, 109, 32]⟩ : ByteArray)) ++ t214) ++ (⟨#[32, 117, 110, 116, 105, 108, 32]⟩ : ByteArray)) ++ t215).size + 6 ≤ 9223372036854775807 then ((spec_l1Num.f k a0_0).bind fun t216 => (if ((((((((((rdOf ByteArray.empty t205 a0_2) ++ (⟨#[32, 119, 97, 114, 110, 105, 110, 103, 32, 111, 102, 32]⟩ : ByteArray)) ++ (rdOf ByteArray.empty t209 a0_1)) ++ (⟨#[32, 102, 111, 114, 32, 97, 114, 101, 97, 32]⟩ : ByteArray)) ++ t213) ++ (⟨#[32, 102, 114, 111, 109, 32]⟩ : ByteArray)) ++ t214) ++ (⟨#[32, 117, 110, 116, 105, 108, 32]⟩ : ByteArray)) ++ t215) ++ (⟨#[32, 40, 110, 111, 46, 32]⟩ : ByteArray)).size + t216.size ≤ 9223372036854775807 then (if (((((((((((rdOf ByteArray.empty t205 a0_2) ++ (⟨#[32, 119, 97, 114, 110, 105, 110, 103, 32, 111, 102, 32]⟩ : ByteArray)) ++ (rdOf ByteArray.empty t209 a0_1)) ++ (⟨#[32, 102, 111, 114, 32, 97, 114, 101, 97, 32]⟩ : ByteArray)) ++ t213) ++ (⟨#[32, 102, 114, 111, 109, 32]⟩ : ByteArray)) ++ t214) ++ (⟨#[32, 117, 110, 116, 105, 108, 32]⟩ : ByteArray)) ++ t215) ++ (⟨#[32, 40, 110, 111, 46, 32]⟩ : ByteArray)) ++ t216).size + 2 ≤ 9223372036854775807 then (some ((((((((((((rdOf ByteArray.empty t205 a0_2) ++ (⟨#[32, 119, 97, 114, 110, 105, 110, 103, 32, 111, 102, 32]⟩ : ByteArray)) ++ (rdOf ByteArray.empty t209 a0_1)) ++ (⟨#[32, 102, 111, 114, 32, 97, 114, 101, 97, 32]⟩ : ByteArray)) ++ t213) ++ (⟨#[32, 102, 114, 111, 109, 32]⟩ : ByteArray)) ++ t214) ++ (⟨#[32, 117, 110, 116, 105, 108, 32]⟩ : ByteArray)) ++ t215) ++ (⟨#[32, 40, 110, 111, 46, 32]⟩ : ByteArray)) ++ t216) ++ (⟨#[41, 46]⟩ : ByteArray))) else (none)) else (none))) else (none)) else (none))) else (none)) else (none))) else (none)) else (none))) else (none)) else (none)) else (none)) else (none))) else (none)) else (none)) else (none))) = some r := h
 clear h
 obtain ⟨t205, A20, H⟩ := zob H
 replace H : (if 0 ≤ a0_2 then (if a0_2 < (t205.length : Int) then (if (rdOf ByteArray.empty t205 a0_2).size + 12 ≤ 9223372036854775807 then ((spec_l16Topics.f).bind fun t209 => (if 0 ≤ a0_1 then (if a0_1 < (t209.length : Int) then (if ((rdOf ByteArray.empty t205 a0_2) ++ (⟨#[32, 119, 97, 114, 110, 105, 110, 103, 32, 111, 102, 32]⟩ : ByteArray)).size + (rdOf ByteArray.empty t209 a0_1).size ≤ 9223372036854775807 then (if (((rdOf ByteArray.empty t205 a0_2) ++ (⟨#[32, 119, 97, 114, 110, 105, 110, 103, 32, 111, 102, 32]⟩ : ByteArray)) ++ (rdOf ByteArray.empty t209 a0_1)).size + 10 ≤ 9223372036854775807 then ((spec_l1Num.f k a0_3).bind fun t213 => (if ((((rdOf ByteArray.empty t205 a0_2) ++ (⟨#[32, 119, 97, 114, 110, 105, 110, 103, 32, 111, 102, 32]⟩ : ByteArray)) ++ (rdOf ByteArray.empty t209 a0_1)) ++ (⟨#[32, 102, 111, 114, 32, 97, 114, 101, 97, 32]⟩ : ByteArray)).size + t213.size ≤ 9223372036854775807 then (if (((((rdOf ByteArray.empty t205 a0_2) ++ (⟨#[32, 119, 97, 114, 110, 105, 110, 103, 32, 111, 102, 32]⟩ : ByteArray)) ++ (rdOf ByteArray.empty t209 a0_1)) ++ (⟨#[32, 102, 111, 114, 32, 97, 114, 101, 97, 32]⟩ : ByteArray)) ++ t213).size + 6 ≤ 9223372036854775807 then ((spec_l16Hour.f k a0_4).bind fun t214 => (if ((((((rdOf ByteArray.empty t205 a0_2) ++ (⟨#[32, 119, 97, 114, 110, 105, 110, 103, 32, 111, 102, 32]⟩ : ByteArray)) ++ (rdOf ByteArray.empty t209 a0_1)) ++ (⟨#[32, 102, 111, 114, 32, 97, 114, 101, 97, 32]⟩ : ByteArray)) ++ t213) ++ (⟨#[32, 102, 114, 111, 109, 32]⟩ : ByteArray)).size + t214.size ≤ 9223372036854775807 then (if (((((((rdOf ByteArray.empty t205 a0_2) ++ (⟨#[32, 119, 97, 114, 110, 105, 110, 103, 32, 111, 102, 32]⟩ : ByteArray)) ++ (rdOf ByteArray.empty t209 a0_1)) ++ (⟨#[32, 102, 111, 114, 32, 97, 114, 101, 97, 32]⟩ : ByteArray)) ++ t213) ++ (⟨#[32, 102, 114, 111, 109, 32]⟩ : ByteArray)) ++ t214).size + 7 ≤ 9223372036854775807 then ((spec_l16Hour.f k a0_5).bind fun t215 => (if ((((((((rdOf ByteArray.empty t205 a0_2) ++ (⟨#[32, 119, 97, 114, 110, 105, 110, 103, 32, 111, 102, 32]⟩ : ByteArray)) ++ (rdOf ByteArray.empty t209 a0_1)) ++ (⟨#[32, 102, 111, 114, 32, 97, 114, 101, 97, 32]⟩ : ByteArray)) ++ t213) ++ (⟨#[32, 102, 114, 111, 109, 32]⟩ : ByteArray)) ++ t214) ++ (⟨#[32, 117, 110, 116, 105, 108, 32]⟩ : ByteArray)).size + t215.size ≤ 9223372036854775807 then (if (((((((((rdOf ByteArray.empty t205 a0_2) ++ (⟨#[32, 119, 97, 114, 110, 105, 110, 103, 32, 111, 102, 32]⟩ : ByteArray)) ++ (rdOf ByteArray.empty t209 a0_1)) ++ (⟨#[32, 102, 111, 114, 32, 97, 114, 101, 97, 32]⟩ : ByteArray)) ++ t213) ++ (⟨#[32, 102, 114, 111, 109, 32]⟩ : ByteArray)) ++ t214) ++ (⟨#[32, 117, 110, 116, 105, 108, 32]⟩ : ByteArray)) ++ t215).size + 6 ≤ 9223372036854775807 then ((spec_l1Num.f k a0_0).bind fun t216 => (if ((((((((((rdOf ByteArray.empty t205 a0_2) ++ (⟨#[32, 119, 97, 114, 110, 105, 110, 103, 32, 111, 102, 32]⟩ : ByteArray)) ++ (rdOf ByteArray.empty t209 a0_1)) ++ (⟨#[32, 102, 111, 114, 32, 97, 114, 101, 97, 32]⟩ : ByteArray)) ++ t213) ++ (⟨#[32, 102, 114, 111, 109, 32]⟩ : ByteArray)) ++ t214) ++ (⟨#[32, 117, 110, 116, 105, 108, 32]⟩ : ByteArray)) ++ t215) ++ (⟨#[32, 40, 110, 111, 46, 32]⟩ : ByteArray)).size + t216.size ≤ 9223372036854775807 then (if (((((((((((rdOf ByteArray.empty t205 a0_2) ++ (⟨#[32, 119, 97, 114, 110, 105, 110, 103, 32, 111, 102, 32]⟩ : ByteArray)) ++ (rdOf ByteArray.empty t209 a0_1)) ++ (⟨#[32, 102, 111, 114, 32, 97, 114, 101, 97, 32]⟩ : ByteArray)) ++ t213) ++ (⟨#[32, 102, 114, 111, 109, 32]⟩ : ByteArray)) ++ t214) ++ (⟨#[32, 117, 110, 116, 105, 108, 32]⟩ : ByteArray)) ++ t215) ++ (⟨#[32, 40, 110, 111, 46, 32]⟩ : ByteArray)) ++ t216).size + 2 ≤ 9223372036854775807 then (some ((((((((((((rdOf ByteArray.empty t205 a0_2) ++ (⟨#[32, 119, 97, 114, 110, 105, 110, 103, 32, 111, 102, 32]⟩ : ByteArray)) ++ (rdOf ByteArray.empty t209 a0_1)) ++ (⟨#[32, 102, 111, 114, 32, 97, 114, 101, 97, 32]⟩ : ByteArray)) ++ t213) ++ (⟨#[32, 102, 114, 111, 109, 32]⟩ : ByteArray)) ++ t214) ++ (⟨#[32, 117, 110, 116, 105, 108, 32]⟩ : ByteArray)) ++ t215) ++ (⟨#[32, 40, 110, 111, 46, 32]⟩ : ByteArray)) ++ t216) ++ (⟨#[41, 46]⟩ : ByteArray))) else (none)) else (none))) else (none)) else (none))) else (none)) else (none))) else (none)) else (none))) else (none)) else (none)) else (none)) else (none))) else (none)) else (none)) else (none)) = some r := H
 have A2 := zm A20
 clear A20
 by_cases c3 : 0 ≤ a0_2
 case neg =>
  rw [if_neg c3] at H
  exact absurd H (by simp)
 rw [if_pos c3] at H
 have c3b0 : decide (0 ≤ a0_2) = true := decide_eq_true c3
 clear c3
 by_cases c4 : a0_2 < (t205.length : Int)
 case neg =>
  rw [if_neg c4] at H
  exact absurd H (by simp)
 rw [if_pos c4] at H
 have c4b0 : decide (a0_2 < (t205.length : Int)) = true := decide_eq_true c4
 clear c4
 by_cases c5 : (rdOf ByteArray.empty t205 a0_2).size + 12 ≤ 9223372036854775807
 case neg =>
  rw [if_neg c5] at H
  exact absurd H (by simp)
 rw [if_pos c5] at H
 have c5b0 := eq_true c5
 have c5b1 : decide ((rdOf ByteArray.empty t205 a0_2).size + 12 ≤ 9223372036854775807) = true := decide_eq_true c5
 try have c5b2 : (9223372036854775807 < (rdOf ByteArray.empty t205 a0_2).size + 12) = False := eq_false (Nat.not_lt.2 c5)
 obtain ⟨t209, A60, H⟩ := zob H
 replace H : (if 0 ≤ a0_1 then (if a0_1 < (t209.length : Int) then (if ((rdOf ByteArray.empty t205 a0_2) ++ (⟨#[32, 119, 97, 114, 110, 105, 110, 103, 32, 111, 102, 32]⟩ : ByteArray)).size + (rdOf ByteArray.empty t209 a0_1).size ≤ 9223372036854775807 then (if (((rdOf ByteArray.empty t205 a0_2) ++ (⟨#[32, 119, 97, 114, 110, 105, 110, 103, 32, 111, 102, 32]⟩ : ByteArray)) ++ (rdOf ByteArray.empty t209 a0_1)).size + 10 ≤ 9223372036854775807 then ((spec_l1Num.f k a0_3).bind fun t213 => (if ((((rdOf ByteArray.empty t205 a0_2) ++ (⟨#[32, 119, 97, 114, 110, 105, 110, 103, 32, 111, 102, 32]⟩ : ByteArray)) ++ (rdOf ByteArray.empty t209 a0_1)) ++ (⟨#[32, 102, 111, 114, 32, 97, 114, 101, 97, 32]⟩ : ByteArray)).size + t213.size ≤ 9223372036854775807 then (if (((((rdOf ByteArray.empty t205 a0_2) ++ (⟨#[32, 119, 97, 114, 110, 105, 110, 103, 32, 111, 102, 32]⟩ : ByteArray)) ++ (rdOf ByteArray.empty t209 a0_1)) ++ (⟨#[32, 102, 111, 114, 32, 97, 114, 101, 97, 32]⟩ : ByteArray)) ++ t213).size + 6 ≤ 9223372036854775807 then ((spec_l16Hour.f k a0_4).bind fun t214 => (if ((((((rdOf ByteArray.empty t205 a0_2) ++ (⟨#[32, 119, 97, 114, 110, 105, 110, 103, 32, 111, 102, 32]⟩ : ByteArray)) ++ (rdOf ByteArray.empty t209 a0_1)) ++ (⟨#[32, 102, 111, 114, 32, 97, 114, 101, 97, 32]⟩ : ByteArray)) ++ t213) ++ (⟨#[32, 102, 114, 111, 109, 32]⟩ : ByteArray)).size + t214.size ≤ 9223372036854775807 then (if (((((((rdOf ByteArray.empty t205 a0_2) ++ (⟨#[32, 119, 97, 114, 110, 105, 110, 103, 32, 111, 102, 32]⟩ : ByteArray)) ++ (rdOf ByteArray.empty t209 a0_1)) ++ (⟨#[32, 102, 111, 114, 32, 97, 114, 101, 97, 32]⟩ : ByteArray)) ++ t213) ++ (⟨#[32, 102, 114, 111, 109, 32]⟩ : ByteArray)) ++ t214).size + 7 ≤ 9223372036854775807 then ((spec_l16Hour.f k a0_5).bind fun t215 => (if ((((((((rdOf ByteArray.empty t205 a0_2) ++ (⟨#[32, 119, 97, 114, 110, 105, 110, 103, 32, 111, 102, 32]⟩ : ByteArray)) ++ (rdOf ByteArray.empty t209 a0_1)) ++ (⟨#[32, 102, 111, 114, 32, 97, 114, 101, 97, 32]⟩ : ByteArray)) ++ t213) ++ (⟨#[32, 102, 114, 111, 109, 32]⟩ : ByteArray)) ++ t214) ++ (⟨#[32, 117, 110, 116, 105, 108, 32]⟩ : ByteArray)).size + t215.size ≤ 9223372036854775807 then (if (((((((((rdOf ByteArray.empty t205 a0_2) ++ (⟨#[32, 119, 97, 114, 110, 105, 110, 103, 32, 111, 102, 32]⟩ : ByteArray)) ++ (rdOf ByteArray.empty t209 a0_1)) ++ (⟨#[32, 102, 111, 114, 32, 97, 114, 101, 97, 32]⟩ : ByteArray)) ++ t213) ++ (⟨#[32, 102, 114, 111, 109, 32]⟩ : ByteArray)) ++ t214) ++ (⟨#[32, 117, 110, 116, 105, 108, 32]⟩ : ByteArray)) ++ t215).size + 6 ≤ 9223372036854775807 then ((spec_l1Num.f k a0_0).bind fun t216 => (if ((((((((((rdOf ByteArray.empty t205 a0_2) ++ (⟨#[32, 119, 97, 114, 110, 105, 110, 103, 32, 111, 102, 32]⟩ : ByteArray)) ++ (rdOf ByteArray.empty t209 a0_1)) ++ (⟨#[32, 102, 111, 114, 32, 97, 114, 101, 97, 32]⟩ : ByteArray)) ++ t213) ++ (⟨#[32, 102, 114, 111, 109, 32]⟩ : ByteArray)) ++ t214) ++ (⟨#[32, 117, 110, 116, 105, 108, 32]⟩ : ByteArray)) ++ t215) ++ (⟨#[32, 40, 110, 111, 46, 32]⟩ : ByteArray)).size + t216.size ≤ 9223372036854775807 then (if (((((((((((rdOf ByteArray.empty t205 a0_2) ++ (⟨#[32, 119, 97, 114, 110, 105, 110, 103, 32, 111, 102, 32]⟩ : ByteArray)) ++ (rdOf ByteArray.empty t209 a0_1)) ++ (⟨#[32, 102, 111, 114, 32, 97, 114, 101, 97, 32]⟩ : ByteArray)) ++ t213) ++ (⟨#[32, 102, 114, 111, 109, 32]⟩ : ByteArray)) ++ t214) ++ (⟨#[32, 117, 110, 116, 105, 108, 32]⟩ : ByteArray)) ++ t215) ++ (⟨#[32, 40, 110, 111, 46, 32]⟩ : ByteArray)) ++ t216).size + 2 ≤ 9223372036854775807 then (some ((((((((((((rdOf ByteArray.empty t205 a0_2) ++ (⟨#[32, 119, 97, 114, 110, 105, 110, 103, 32, 111, 102, 32]⟩ : ByteArray)) ++ (rdOf ByteArray.empty t209 a0_1)) ++ (⟨#[32, 102, 111, 114, 32, 97, 114, 101, 97, 32]⟩ : ByteArray)) ++ t213) ++ (⟨#[32, 102, 114, 111, 109, 32]⟩ : ByteArray)) ++ t214) ++ (⟨#[32, 117, 110, 116, 105, 108, 32]⟩ : ByteArray)) ++ t215) ++ (⟨#[32, 40, 110, 111, 46, 32]⟩ : ByteArray)) ++ t216) ++ (⟨#[41, 46]⟩ : ByteArray))) else (none)) else (none))) else (none)) else (none))) else (none)) else (none))) else (none)) else (none))) else (none)) else (none)) else (none)) else (none)) = some r := H
 have A6 := zm A60
 clear A60
 by_cases c7 : 0 ≤ a0_1
 case neg =>
  rw [if_neg c7] at H
  exact absurd H (by simp)
 rw [if_pos c7] at H
 have c7b0 : decide (0 ≤ a0_1) = true := decide_eq_true c7
 clear c7
 by_cases c8 : a0_1 < (t209.length : Int)
 case neg =>
  rw [if_neg c8] at H
  exact absurd H (by simp)
 rw [if_pos c8] at H
 have c8b0 : decide (a0_1 < (t209.length : Int)) = true := decide_eq_true c8
 clear c8
 by_cases c9 : ((rdOf ByteArray.empty t205 a0_2) ++ (⟨#[32, 119, 97, 114, 110, 105, 110, 103, 32, 111, 102, 32]⟩ : ByteArray)).size + (rdOf ByteArray.empty t209 a0_1).size ≤ 9223372036854775807
 case neg =>
  rw [if_neg c9] at H
  exact absurd H (by simp)
 rw [if_pos c9] at H
 have c9b0 := eq_true c9
 have c9b1 : decide (((rdOf ByteArray.empty t205 a0_2) ++ (⟨#[32, 119, 97, 114, 110, 105, 110, 103, 32, 111, 102, 32]⟩ : ByteArray)).size + (rdOf ByteArray.empty t209 a0_1).size ≤ 9223372036854775807) = true := decide_eq_true c9
 try have c9b2 : (9223372036854775807 < ((rdOf ByteArray.empty t205 a0_2) ++ (⟨#[32, 119, 97, 114, 110, 105, 110, 103, 32, 111, 102, 32]⟩ : ByteArray)).size + (rdOf ByteArray.empty t209 a0_1).size) = False := eq_false (Nat.not_lt.2 c9)
 try have c9b3 : (9223372036854775807 < (rdOf ByteArray.empty t205 a0_2).size + 12 + (rdOf ByteArray.empty t209 a0_1).size) = False := eq_false (Nat.not_lt.2 (by have q_ := c9; simp only [ByteArray.size_append] at q_; exact q_))
 by_cases c10 : (((rdOf ByteArray.empty t205 a0_2) ++ (⟨#[32, 119, 97, 114, 110, 105, 110, 103, 32, 111, 102, 32]⟩ : ByteArray)) ++ (rdOf ByteArray.empty t209 a0_1)).size + 10 ≤ 9223372036854775807
 case neg =>
  rw [if_neg c10] at H
  exact absurd H (by simp)
 rw [if_pos c10] at H
 have c10b0 := eq_true c10
 have c10b1 : decide ((((rdOf ByteArray.empty t205 a0_2) ++ (⟨#[32, 119, 97, 114, 110, 105, 110, 103, 32, 111, 102, 32]⟩ : ByteArray)) ++ (rdOf ByteArray.empty t209 a0_1)).size + 10 ≤ 9223372036854775807) = true := decide_eq_true c10
 try have c10b2 : (9223372036854775807 < (((rdOf ByteArray.empty t205 a0_2) ++ (⟨#[32, 119, 97, 114, 110, 105, 110, 103, 32, 111, 102, 32]⟩ : ByteArray)) ++ (rdOf ByteArray.empty t209 a0_1)).size + 10) = False := eq_false (Nat.not_lt.2 c10)
 try have c10b3 : (9223372036854775807 < (rdOf ByteArray.empty t205 a0_2).size + 12 + (rdOf ByteArray.empty t209 a0_1).size + 10) = False := eq_false (Nat.not_lt.2 (by have q_ := c10; simp only [ByteArray.size_append] at q_; exact q_))
 obtain ⟨t213, A110, H⟩ := zob H
 replace H : (if ((((rdOf ByteArray.empty t205 a0_2) ++ (⟨#[32, 119, 97, 114, 110, 105, 110, 103, 32, 111, 102, 32]⟩ : ByteArray)) ++ (rdOf ByteArray.empty t209 a0_1)) ++ (⟨#[32, 102, 111, 114, 32, 97, 114, 101, 97, 32]⟩ : ByteArray)).size + t213.size ≤ 9223372036854775807 then (if (((((rdOf ByteArray.empty t205 a0_2) ++ (⟨#[32, 119, 97, 114, 110, 105, 110, 103, 32, 111, 102, 32]⟩ : ByteArray)) ++ (rdOf ByteArray.empty t209 a0_1)) ++ (⟨#[32, 102, 111, 114, 32, 97, 114, 101, 97, 32]⟩ : ByteArray)) ++ t213).size + 6 ≤ 9223372036854775807 then ((spec_l16Hour.f k a0_4).bind fun t214 => (if ((((((rdOf ByteArray.empty t205 a0_2) ++ (⟨#[32, 119, 97, 114, 110, 105, 110, 103, 32, 111, 102, 32]⟩ : ByteArray)) ++ (rdOf ByteArray.empty t209 a0_1)) ++ (⟨#[32, 102, 111, 114, 32, 97, 114, 101, 97, 32]⟩ : ByteArray)) ++ t213) ++ (⟨#[32, 102, 114, 111, 109, 32]⟩ : ByteArray)).size + t214.size ≤ 9223372036854775807 then (if (((((((rdOf ByteArray.empty t205 a0_2) ++ (⟨#[32, 119, 97, 114, 110, 105, 110, 103, 32, 111, 102, 32]⟩ : ByteArray)) ++ (rdOf ByteArray.empty t209 a0_1)) ++ (⟨#[32, 102, 111, 114, 32, 97, 114, 101, 97, 32]⟩ : ByteArray)) ++ t213) ++ (⟨#[32, 102, 114, 111, 109, 32]⟩ : ByteArray)) ++ t214).size + 7 ≤ 9223372036854775807 then ((spec_l16Hour.f k a0_5).bind fun t215 => (if ((((((((rdOf ByteArray.empty t205 a0_2) ++ (⟨#[32, 119, 97, 114, 110, 105, 110, 103, 32, 111, 102, 32]⟩ : ByteArray)) ++ (rdOf ByteArray.empty t209 a0_1)) ++ (⟨#[32, 102, 111, 114, 32, 97, 114, 101, 97, 32]⟩ : ByteArray)) ++ t213) ++ (⟨#[32, 102, 114, 111, 109, 32]⟩ : ByteArray)) ++ t214) ++ (⟨#[32, 117, 110, 116, 105, 108, 32]⟩ : ByteArray)).size + t215.size ≤ 9223372036854775807 then (if (((((((((rdOf ByteArray.empty t205 a0_2) ++ (⟨#[32, 119, 97, 114, 110, 105, 110, 103, 32, 111, 102, 32]⟩ : ByteArray)) ++ (rdOf ByteArray.empty t209 a0_1)) ++ (⟨#[32, 102, 111, 114, 32, 97, 114, 101, 97, 32]⟩ : ByteArray)) ++ t213) ++ (⟨#[32, 102, 114, 111, 109, 32]⟩ : ByteArray)) ++ t214) ++ (⟨#[32, 117, 110, 116, 105, 108, 32]⟩ : ByteArray)) ++ t215).size + 6 ≤ 9223372036854775807 then ((spec_l1Num.f k a0_0).bind fun t216 => (if ((((((((((rdOf ByteArray.empty t205 a0_2) ++ (⟨#[32, 119, 97, 114, 110, 105, 110, 103, 32, 111, 102, 32]⟩ : ByteArray)) ++ (rdOf ByteArray.empty t209 a0_1)) ++ (⟨#[32, 102, 111, 114, 32, 97, 114, 101, 97, 32]⟩ : ByteArray)) ++ t213) ++ (⟨#[32, 102, 114, 111, 109, 32]⟩ : ByteArray)) ++ t214) ++ (⟨#[32, 117, 110, 116, 105, 108, 32]⟩ : ByteArray)) ++ t215) ++ (⟨#[32, 40, 110, 111, 46, 32]⟩ : ByteArray)).size + t216.size ≤ 9223372036854775807 then (if (((((((((((rdOf ByteArray.empty t205 a0_2) ++ (⟨#[32, 119, 97, 114, 110, 105, 110, 103, 32, 111, 102, 32]⟩ : ByteArray)) ++ (rdOf ByteArray.empty t209 a0_1)) ++ (⟨#[32, 102, 111, 114, 32, 97, 114, 101, 97, 32]⟩ : ByteArray)) ++ t213) ++ (⟨#[32, 102, 114, 111, 109, 32]⟩ : ByteArray)) ++ t214) ++ (⟨#[32, 117, 110, 116, 105, 108, 32]⟩ : ByteArray)) ++ t215) ++ (⟨#[32, 40, 110, 111, 46, 32]⟩ : ByteArray)) ++ t216).size + 2 ≤ 9223372036854775807 then (some ((((((((((((rdOf ByteArray.empty t205 a0_2) ++ (⟨#[32, 119, 97, 114, 110, 105, 110, 103, 32, 111, 102, 32]⟩ : ByteArray)) ++ (rdOf ByteArray.empty t209 a0_1)) ++ (⟨#[32, 102, 111, 114, 32, 97, 114, 101, 97, 32]⟩ : ByteArray)) ++ t213) ++ (⟨#[32, 102, 114, 111, 109, 32]⟩ : ByteArray)) ++ t214) ++ (⟨#[32, 117, 110, 116, 105, 108, 32]⟩ : ByteArray)) ++ t215) ++ (⟨#[32, 40, 110, 111, 46, 32]⟩ : ByteArray)) ++ t216) ++ (⟨#[41, 46]⟩ : ByteArray))) else (none)) else (none))) else (none)) else (none))) else (none)) else (none))) else (none)) else (none)) = some r := H
 have A11 := zm A110
 clear A110
 by_cases c12 : ((((rdOf ByteArray.empty t205 a0_2) ++ (⟨#[32, 119, 97, 114, 110, 105, 110, 103, 32, 111, 102, 32]⟩ : ByteArray)) ++ (rdOf ByteArray.empty t209 a0_1)) ++ (⟨#[32, 102, 111, 114, 32, 97, 114, 101, 97, 32]⟩ : ByteArray)).size + t213.size ≤ 9223372036854775807
 case neg =>
  rw [if_neg c12] at H
  exact absurd H (by simp)
 rw [if_pos c12] at H
 have c12b0 := eq_true c12
 have c12b1 : decide (((((rdOf ByteArray.empty t205 a0_2) ++ (⟨#[32, 119, 97, 114, 110, 105, 110, 103, 32, 111, 102, 32]⟩ : ByteArray)) ++ (rdOf ByteArray.empty t209 a0_1)) ++ (⟨#[32, 102, 111, 114, 32, 97, 114, 101, 97, 32]⟩ : ByteArray)).size + t213.size ≤ 9223372036854775807) = true := decide_eq_true c12
 try have c12b2 : (9223372036854775807 < ((((rdOf ByteArray.empty t205 a0_2) ++ (⟨#[32, 119, 97, 114, 110, 105, 110, 103, 32, 111, 102, 32]⟩ : ByteArray)) ++ (rdOf ByteArray.empty t209 a0_1)) ++ (⟨#[32, 102, 111, 114, 32, 97, 114, 101, 97, 32]⟩ : ByteArray)).size + t213.size) = False := eq_false (Nat.not_lt.2 c12)
 try have c12b3 : (9223372036854775807 < (rdOf ByteArray.empty t205 a0_2).size + 12 + (rdOf ByteArray.empty t209 a0_1).size + 10 + t213.size) = False := eq_false (Nat.not_lt.2 (by have q_ := c12; simp only [ByteArray.size_append] at q_; exact q_))
 by_cases c13 : (((((rdOf ByteArray.empty t205 a0_2) ++ (⟨#[32, 119, 97, 114, 110, 105, 110, 103, 32, 111, 102, 32]⟩ : ByteArray)) ++ (rdOf ByteArray.empty t209 a0_1)) ++ (⟨#[32, 102, 111, 114, 32, 97, 114, 101, 97, 32]⟩ : ByteArray)) ++ t213).size + 6 ≤ 9223372036854775807
 case neg =>
  rw [if_neg c13] at H
  exact absurd H (by simp)
 rw [if_pos c13] at H
 have c13b0 := eq_true c13
 have c13b1 : decide ((((((rdOf ByteArray.empty t205 a0_2) ++ (⟨#[32, 119, 97, 114, 110, 105, 110, 103, 32, 111, 102, 32]⟩ : ByteArray)) ++ (rdOf ByteArray.empty t209 a0_1)) ++ (⟨#[32, 102, 111, 114, 32, 97, 114, 101, 97, 32]⟩ : ByteArray)) ++ t213).size + 6 ≤ 9223372036854775807) = true := decide_eq_true c13
 try have c13b2 : (9223372036854775807 < (((((rdOf ByteArray.empty t205 a0_2) ++ (⟨#[32, 119, 97, 114, 110, 105, 110, 103, 32, 111, 102, 32]⟩ : ByteArray)) ++ (rdOf ByteArray.empty t209 a0_1)) ++ (⟨#[32, 102, 111, 114, 32, 97, 114, 101, 97, 32]⟩ : ByteArray)) ++ t213).size + 6) = False := eq_false (Nat.not_lt.2 c13)
 try have c13b3 : (9223372036854775807 < (rdOf ByteArray.empty t205 a0_2).size + 12 + (rdOf ByteArray.empty t209 a0_1).size + 10 + t213.size + 6) = False := eq_false (Nat.not_lt.2 (by have q_ := c13; simp only [ByteArray.size_append] at q_; exact q_))
 obtain ⟨t214, A140, H⟩ := zob H
 replace H : (if ((((((rdOf ByteArray.empty t205 a0_2) ++ (⟨#[32, 119, 97, 114, 110, 105, 110, 103, 32, 111, 102, 32]⟩ : ByteArray)) ++ (rdOf ByteArray.empty t209 a0_1)) ++ (⟨#[32, 102, 111, 114, 32, 97, 114, 101, 97, 32]⟩ : ByteArray)) ++ t213) ++ (⟨#[32, 102, 114, 111, 109, 32]⟩ : ByteArray)).size + t214.size ≤ 9223372036854775807 then (if (((((((rdOf ByteArray.empty t205 a0_2) ++ (⟨#[32, 119, 97, 114, 110, 105, 110, 103, 32, 111, 102, 32]⟩ : ByteArray)) ++ (rdOf ByteArray.empty t209 a0_1)) ++ (⟨#[32, 102, 111, 114, 32, 97, 114, 101, 97, 32]⟩ : ByteArray)) ++ t213) ++ (⟨#[32, 102, 114, 111, 109, 32]⟩ : ByteArray)) ++ t214).size + 7 ≤ 9223372036854775807 then ((spec_l16Hour.f k a0_5).bind fun t215 => (if ((((((((rdOf ByteArray.empty t205 a0_2) ++ (⟨#[32, 119, 97, 114, 110, 105, 110, 103, 32, 111, 102, 32]⟩ : ByteArray)) ++ (rdOf ByteArray.empty t209 a0_1)) ++ (⟨#[32, 102, 111, 114, 32, 97, 114, 101, 97, 32]⟩ : ByteArray)) ++ t213) ++ (⟨#[32, 102, 114, 111, 109, 32]⟩ : ByteArray)) ++ t214) ++ (⟨#[32, 117, 110, 116, 105, 108, 32]⟩ : ByteArray)).size + t215.size ≤ 9223372036854775807 then (if (((((((((rdOf ByteArray.empty t205 a0_2) ++ (⟨#[32, 119, 97, 114, 110, 105, 110, 103, 32, 111, 102, 32]⟩ : ByteArray)) ++ (rdOf ByteArray.empty t209 a0_1)) ++ (⟨#[32, 102, 111, 114, 32, 97, 114, 101, 97, 32]⟩ : ByteArray)) ++ t213) ++ (⟨#[32, 102, 114, 111, 109, 32]⟩ : ByteArray)) ++ t214) ++ (⟨#[32, 117, 110, 116, 105, 108, 32]⟩ : ByteArray)) ++ t215).size + 6 ≤ 9223372036854775807 then ((spec_l1Num.f k a0_0).bind fun t216 => (if ((((((((((rdOf ByteArray.empty t205 a0_2) ++ (⟨#[32, 119, 97, 114, 110, 105, 110, 103, 32, 111, 102, 32]⟩ : ByteArray)) ++ (rdOf ByteArray.empty t209 a0_1)) ++ (⟨#[32, 102, 111, 114, 32, 97, 114, 101, 97, 32]⟩ : ByteArray)) ++ t213) ++ (⟨#[32, 102, 114, 111, 109, 32]⟩ : ByteArray)) ++ t214) ++ (⟨#[32, 117, 110, 116, 105, 108, 32]⟩ : ByteArray)) ++ t215) ++ (⟨#[32, 40, 110, 111, 46, 32]⟩ : ByteArray)).size + t216.size ≤ 9223372036854775807 then (if (((((((((((rdOf ByteArray.empty t205 a0_2) ++ (⟨#[32, 119, 97, 114, 110, 105, 110, 103, 32, 111, 102, 32]⟩ : ByteArray)) ++ (rdOf ByteArray.empty t209 a0_1)) ++ (⟨#[32, 102, 111, 114, 32, 97, 114, 101, 97, 32]⟩ : ByteArray)) ++ t213) ++ (⟨#[32, 102, 114, 111, 109, 32]⟩ : ByteArray)) ++ t214) ++ (⟨#[32, 117, 110, 116, 105, 108, 32]⟩ : ByteArray)) ++ t215) ++ (⟨#[32, 40, 110, 111, 46, 32]⟩ : ByteArray)) ++ t216).size + 2 ≤ 9223372036854775807 then (some ((((((((((((rdOf ByteArray.empty t205 a0_2) ++ (⟨#[32, 119, 97, 114, 110, 105, 110, 103, 32, 111, 102, 32]⟩ : ByteArray)) ++ (rdOf ByteArray.empty t209 a0_1)) ++ (⟨#[32, 102, 111, 114, 32, 97, 114, 101, 97, 32]⟩ : ByteArray)) ++ t213) ++ (⟨#[32, 102, 114, 111, 109, 32]⟩ : ByteArray)) ++ t214) ++ (⟨#[32, 117, 110, 116, 105, 108, 32]⟩ : ByteArray)) ++ t215) ++ (⟨#[32, 40, 110, 111, 46, 32]⟩ : ByteArray)) ++ t216) ++ (⟨#[41, 46]⟩ : ByteArray))) else (none)) else (none))) else (none)) else (none))) else (none)) else (none)) = some r := H
 have A14 := zm A140
 clear A140
 by_cases c15 : ((((((rdOf ByteArray.empty t205 a0_2) ++ (⟨#[32, 119, 97, 114, 110, 105, 110, 103, 32, 111, 102, 32]⟩ : ByteArray)) ++ (rdOf ByteArray.empty t209 a0_1)) ++ (⟨#[32, 102, 111, 114, 32, 97, 114, 101, 97, 32]⟩ : ByteArray)) ++ t213) ++ (⟨#[32, 102, 114, 111, 109, 32]⟩ : ByteArray)).size + t214.size ≤ 9223372036854775807
 case neg =>
  rw [if_neg c15] at H
  exact absurd H (by simp)
 rw [if_pos c15] at H
 have c15b0 := eq_true c15
 have c15b1 : decide (((((((rdOf ByteArray.empty t205 a0_2) ++ (⟨#[32, 119, 97, 114, 110, 105, 110, 103, 32, 111, 102, 32]⟩ : ByteArray)) ++ (rdOf ByteArray.empty t209 a0_1)) ++ (⟨#[32, 102, 111, 114, 32, 97, 114, 101, 97, 32]⟩ : ByteArray)) ++ t213) ++ (⟨#[32, 102, 114, 111, 109, 32]⟩ : ByteArray)).size + t214.size ≤ 9223372036854775807) = true := decide_eq_true c15
 try have c15b2 : (9223372036854775807 < ((((((rdOf ByteArray.empty t205 a0_2) ++ (⟨#[32, 119, 97, 114, 110, 105, 110, 103, 32, 111, 102, 32]⟩ : ByteArray)) ++ (rdOf ByteArray.empty t209 a0_1)) ++ (⟨#[32, 102, 111, 114, 32, 97, 114, 101, 97, 32]⟩ : ByteArray)) ++ t213) ++ (⟨#[32, 102, 114, 111, 109, 32]⟩ : ByteArray)).size + t214.size) = False := eq_false (Nat.not_lt.2 c15)
 try have c15b3 : (9223372036854775807 < (rdOf ByteArray.empty t205 a0_2).size + 12 + (rdOf ByteArray.empty t209 a0_1).size + 10 + t213.size + 6 + t214.size) = False := eq_false (Nat.not_lt.2 (by have q_ := c15; simp only [ByteArray.size_append] at q_; exact q_))
 by_cases c16 : (((((((rdOf ByteArray.empty t205 a0_2) ++ (⟨#[32, 119, 97, 114, 110, 105, 110, 103, 32, 111, 102, 32]⟩ : ByteArray)) ++ (rdOf ByteArray.empty t209 a0_1)) ++ (⟨#[32, 102, 111, 114, 32, 97, 114, 101, 97, 32]⟩ : ByteArray)) ++ t213) ++ (⟨#[32, 102, 114, 111, 109, 32]⟩ : ByteArray)) ++ t214).size + 7 ≤ 9223372036854775807
 case neg =>
  rw [if_neg c16] at H
  exact absurd H (by simp)
 rw [if_pos c16] at H
 have c16b0 := eq_true c16
 have c16b1 : decide ((((((((rdOf ByteArray.empty t205 a0_2) ++ (⟨#[32, 119, 97, 114, 110, 105, 110, 103, 32, 111, 102, 32]⟩ : ByteArray)) ++ (rdOf ByteArray.empty t209 a0_1)) ++ (⟨#[32, 102, 111, 114, 32, 97, 114, 101, 97, 32]⟩ : ByteArray)) ++ t213) ++ (⟨#[32, 102, 114, 111, 109, 32]⟩ : ByteArray)) ++ t214).size + 7 ≤ 9223372036854775807) = true := decide_eq_true c16
 try have c16b2 : (9223372036854775807 < (((((((rdOf ByteArray.empty t205 a0_2) ++ (⟨#[32, 119, 97, 114, 110, 105, 110, 103, 32, 111, 102, 32]⟩ : ByteArray)) ++ (rdOf ByteArray.empty t209 a0_1)) ++ (⟨#[32, 102, 111, 114, 32, 97, 114, 101, 97, 32]⟩ : ByteArray)) ++ t213) ++ (⟨#[32, 102, 114, 111, 109, 32]⟩ : ByteArray)) ++ t214).size + 7) = False := eq_false (Nat.not_lt.2 c16)
 try have c16b3 : (9223372036854775807 < (rdOf ByteArray.empty t205 a0_2).size + 12 + (rdOf ByteArray.empty t209 a0_1).size + 10 + t213.size + 6 + t214.size + 7) = False := eq_false (Nat.not_lt.2 (by have q_ := c16; simp only [ByteArray.size_append] at q_; exact q_))
 obtain ⟨t215, A170, H⟩ := zob H
 replace H : (if ((((((((rdOf ByteArray.empty t205 a0_2) ++ (⟨#[32, 119, 97, 114, 110, 105, 110, 103, 32, 111, 102, 32]⟩ : ByteArray)) ++ (rdOf ByteArray.empty t209 a0_1)) ++ (⟨#[32, 102, 111, 114, 32, 97, 114, 101, 97, 32]⟩ : ByteArray)) ++ t213) ++ (⟨#[32, 102, 114, 111, 109, 32]⟩ : ByteArray)) ++ t214) ++ (⟨#[32, 117, 110, 116, 105, 108, 32]⟩ : ByteArray)).size + t215.size ≤ 9223372036854775807 then (if (((((((((rdOf ByteArray.empty t205 a0_2) ++ (⟨#[32, 119, 97, 114, 110, 105, 110, 103, 32, 111, 102, 32]⟩ : ByteArray)) ++ (rdOf ByteArray.empty t209 a0_1)) ++ (⟨#[32, 102, 111, 114, 32, 97, 114, 101, 97, 32]⟩ : ByteArray)) ++ t213) ++ (⟨#[32, 102, 114, 111, 109, 32]⟩ : ByteArray)) ++ t214) ++ (⟨#[32, 117, 110, 116, 105, 108, 32]⟩ : ByteArray)) ++ t215).size + 6 ≤ 9223372036854775807 then ((spec_l1Num.f k a0_0).bind fun t216 => (if ((((((((((rdOf ByteArray.empty t205 a0_2) ++ (⟨#[32, 119, 97, 114, 110, 105, 110, 103, 32, 111, 102, 32]⟩ : ByteArray)) ++ (rdOf ByteArray.empty t209 a0_1)) ++ (⟨#[32, 102, 111, 114, 32, 97, 114, 101, 97, 32]⟩ : ByteArray)) ++ t213) ++ (⟨#[32, 102, 114, 111, 109, 32]⟩ : ByteArray)) ++ t214) ++ (⟨#[32, 117, 110, 116, 105, 108, 32]⟩ : ByteArray)) ++ t215) ++ (⟨#[32, 40, 110, 111, 46, 32]⟩ : ByteArray)).size + t216.size ≤ 9223372036854775807 then (if (((((((((((rdOf ByteArray.empty t205 a0_2) ++ (⟨#[32, 119, 97, 114, 110, 105, 110, 103, 32, 111, 102, 32]⟩ : ByteArray)) ++ (rdOf ByteArray.empty t209 a0_1)) ++ (⟨#[32, 102, 111, 114, 32, 97, 114, 101, 97, 32]⟩ : ByteArray)) ++ t213) ++ (⟨#[32, 102, 114, 111, 109, 32]⟩ : ByteArray)) ++ t214) ++ (⟨#[32, 117, 110, 116, 105, 108, 32]⟩ : ByteArray)) ++ t215) ++ (⟨#[32, 40, 110, 111, 46, 32]⟩ : ByteArray)) ++ t216).size + 2 ≤ 9223372036854775807 then (some ((((((((((((rdOf ByteArray.empty t205 a0_2) ++ (⟨#[32, 119, 97, 114, 110, 105, 110, 103, 32, 111, 102, 32]⟩ : ByteArray)) ++ (rdOf ByteArray.empty t209 a0_1)) ++ (⟨#[32, 102, 111, 114, 32, 97, 114, 101, 97, 32]⟩ : ByteArray)) ++ t213) ++ (⟨#[32, 102, 114, 111, 109, 32]⟩ : ByteArray)) ++ t214) ++ (⟨#[32, 117, 110, 116, 105, 108, 32]⟩ : ByteArray)) ++ t215) ++ (⟨#[32, 40, 110, 111, 46, 32]⟩ : ByteArray)) ++ t216) ++ (⟨#[41, 46]⟩ : ByteArray))) else (none)) else (none))) else (none)) else (none)) = some r := H
 have A17 := zm A170
 clear A170
 by_cases c18 : ((((((((rdOf ByteArray.empty t205 a0_2) ++ (⟨#[32, 119, 97, 114, 110, 105, 110, 103, 32, 111, 102, 32]⟩ : ByteArray)) ++ (rdOf ByteArray.empty t209 a0_1)) ++ (⟨#[32, 102, 111, 114, 32, 97, 114, 101, 97, 32]⟩ : ByteArray)) ++ t213) ++ (⟨#[32, 102, 114, 111, 109, 32]⟩ : ByteArray)) ++ t214) ++ (⟨#[32, 117, 110, 116, 105, 108, 32]⟩ : ByteArray)).size + t215.size ≤ 9223372036854775807
 case neg =>
  rw [if_neg c18] at H
  exact absurd H (by simp)
 rw [if_pos c18] at H
 have c18b0 := eq_true c18
 have c18b1 : decide (((((((((rdOf ByteArray.empty t205 a0_2) ++ (⟨#[32, 119, 97, 114, 110, 105, 110, 103, 32, 111, 102, 32]⟩ : ByteArray)) ++ (rdOf ByteArray.empty t209 a0_1)) ++ (⟨#[32, 102, 111, 114, 32, 97, 114, 101, 97, 32]⟩ : ByteArray)) ++ t213) ++ (⟨#[32, 102, 114, 111, 109, 32]⟩ : ByteArray)) ++ t214) ++ (⟨#[32, 117, 110, 116, 105, 108, 32]⟩ : ByteArray)).size + t215.size ≤ 9223372036854775807) = true := decide_eq_true c18
 try have c18b2 : (9223372036854775807 < ((((((((rdOf ByteArray.empty t205 a0_2) ++ (⟨#[32, 119, 97, 114, 110, 105, 110, 103, 32, 111, 102, 32]⟩ : ByteArray)) ++ (rdOf ByteArray.empty t209 a0_1)) ++ (⟨#[32, 102, 111, 114, 32, 97, 114, 101, 97, 32]⟩ : ByteArray)) ++ t213) ++ (⟨#[32, 102, 114, 111, 109, 32]⟩ : ByteArray)) ++ t214) ++ (⟨#[32, 117, 110, 116, 105, 108, 32]⟩ : ByteArray)).size + t215.size) = False := eq_false (Nat.not_lt.2 c18)
 try have c18b3 : (9223372036854775807 < (rdOf ByteArray.empty t205 a0_2).size + 12 + (rdOf ByteArray.empty t209 a0_1).size + 10 + t213.size + 6 + t214.size + 7 + t215.size) = False := eq_false (Nat.not_lt.2 (by have q_ := c18; simp only [ByteArray.size_append] at q_; exact q_))
 by_cases c19 : (((((((((rdOf ByteArray.empty t205 a0_2) ++ (⟨#[32, 119, 97, 114, 110, 105, 110, 103, 32, 111, 102, 32]⟩ : ByteArray)) ++ (rdOf ByteArray.empty t209 a0_1)) ++ (⟨#[32, 102, 111, 114, 32, 97, 114, 101, 97, 32]⟩ : ByteArray)) ++ t213) ++ (⟨#[32, 102, 114, 111, 109, 32]⟩ : ByteArray)) ++ t214) ++ (⟨#[32, 117, 110, 116, 105, 108, 32]⟩ : ByteArray)) ++ t215).size + 6 ≤ 9223372036854775807
 case neg =>
  rw [if_neg c19] at H
  exact absurd H (by simp)
 rw [if_pos c19] at H
 have c19b0 := eq_true c19
 have c19b1 : decide ((((((((((rdOf ByteArray.empty t205 a0_2) ++ (⟨#[32, 119, 97, 114, 110, 105, 110, 103, 32, 111, 102, 32]⟩ : ByteArray)) ++ (rdOf ByteArray.empty t209 a0_1)) ++ (⟨#[32, 102, 111, 114, 32, 97, 114, 101, 97, 32]⟩ : ByteArray)) ++ t213) ++ (⟨#[32, 102, 114, 111, 109, 32]⟩ : ByteArray)) ++ t214) ++ (⟨#[32, 117, 110, 116, 105, 108, 32]⟩ : ByteArray)) ++ t215).size + 6 ≤ 9223372036854775807) = true := decide_eq_true c19
 try have c19b2 : (9223372036854775807 < (((((((((rdOf ByteArray.empty t205 a0_2) ++ (⟨#[32, 119, 97, 114, 110, 105, 110, 103, 32, 111, 102, 32]⟩ : ByteArray)) ++ (rdOf ByteArray.empty t209 a0_1)) ++ (⟨#[32, 102, 111, 114, 32, 97, 114, 101, 97, 32]⟩ : ByteArray)) ++ t213) ++ (⟨#[32, 102, 114, 111, 109, 32]⟩ : ByteArray)) ++ t214) ++ (⟨#[32, 117, 110, 116, 105, 108, 32]⟩ : ByteArray)) ++ t215).size + 6) = False := eq_false (Nat.not_lt.2 c19)
 try have c19b3 : (9223372036854775807 < (rdOf ByteArray.empty t205 a0_2).size + 12 + (rdOf ByteArray.empty t209 a0_1).size + 10 + t213.size + 6 + t214.size + 7 + t215.size + 6) = False := eq_false (Nat.not_lt.2 (by have q_ := c19; simp only [ByteArray.size_append] at q_; exact q_))
 obtain ⟨t216, A200, H⟩ := zob H
 replace H : (if ((((((((((rdOf ByteArray.empty t205 a0_2) ++ (⟨#[32, 119, 97, 114, 110, 105, 110, 103, 32, 111, 102, 32]⟩ : ByteArray)) ++ (rdOf ByteArray.empty t209 a0_1)) ++ (⟨#[32, 102, 111, 114, 32, 97, 114, 101, 97, 32]⟩ : ByteArray)) ++ t213) ++ (⟨#[32, 102, 114, 111, 109, 32]⟩ : ByteArray)) ++ t214) ++ (⟨#[32, 117, 110, 116, 105, 108, 32]⟩ : ByteArray)) ++ t215) ++ (⟨#[32, 40, 110, 111, 46, 32]⟩ : ByteArray)).size + t216.size ≤ 9223372036854775807 then (if (((((((((((rdOf ByteArray.empty t205 a0_2) ++ (⟨#[32, 119, 97, 114, 110, 105, 110, 103, 32, 111, 102, 32]⟩ : ByteArray)) ++ (rdOf ByteArray.empty t209 a0_1)) ++ (⟨#[32, 102, 111, 114, 32, 97, 114, 101, 97, 32]⟩ : ByteArray)) ++ t213) ++ (⟨#[32, 102, 114, 111, 109, 32]⟩ : ByteArray)) ++ t214) ++ (⟨#[32, 117, 110, 116, 105, 108, 32]⟩ : ByteArray)) ++ t215) ++ (⟨#[32, 40, 110, 111, 46, 32]⟩ : ByteArray)) ++ t216).size + 2 ≤ 9223372036854775807 then (some ((((((((((((rdOf ByteArray.empty t205 a0_2) ++ (⟨#[32, 119, 97, 114, 110, 105, 110, 103, 32, 111, 102, 32]⟩ : ByteArray)) ++ (rdOf ByteArray.empty t209 a0_1)) ++ (⟨#[32, 102, 111, 114, 32, 97, 114, 101, 97, 32]⟩ : ByteArray)) ++ t213) ++ (⟨#[32, 102, 114, 111, 109, 32]⟩ : ByteArray)) ++ t214) ++ (⟨#[32, 117, 110, 116, 105, 108, 32]⟩ : ByteArray)) ++ t215) ++ (⟨#[32, 40, 110, 111, 46, 32]⟩ : ByteArray)) ++ t216) ++ (⟨#[41, 46]⟩ : ByteArray))) else (none)) else (none)) = some r := H
 have A20 := zm A200
 clear A200
 by_cases c21 : ((((((((((rdOf ByteArray.empty t205 a0_2) ++ (⟨#[32, 119, 97, 114, 110, 105, 110, 103, 32, 111, 102, 32]⟩ : ByteArray)) ++ (rdOf ByteArray.empty t209 a0_1)) ++ (⟨#[32, 102, 111, 114, 32, 97, 114, 101, 97, 32]⟩ : ByteArray)) ++ t213) ++ (⟨#[32, 102, 114, 111, 109, 32]⟩ : ByteArray)) ++ t214) ++ (⟨#[32, 117, 110, 116, 105, 108, 32]⟩ : ByteArray)) ++ t215) ++ (⟨#[32, 40, 110, 111, 46, 32]⟩ : ByteArray)).size + t216.size ≤ 9223372036854775807
 case neg =>
  rw [if_neg c21] at H
  exact absurd H (by simp)
 rw [if_pos c21] at H
 have c21b0 := eq_true c21
 have c21b1 : decide (((((((((((rdOf ByteArray.empty t205 a0_2) ++ (⟨#[32, 119, 97, 114, 110, 105, 110, 103, 32, 111, 102, 32]⟩ : ByteArray)) ++ (rdOf ByteArray.empty t209 a0_1)) ++ (⟨#[32, 102, 111, 114, 32, 97, 114, 101, 97, 32]⟩ : ByteArray)) ++ t213) ++ (⟨#[32, 102, 114, 111, 109, 32]⟩ : ByteArray)) ++ t214) ++ (⟨#[32, 117, 110, 116, 105, 108, 32]⟩ : ByteArray)) ++ t215) ++ (⟨#[32, 40, 110, 111, 46, 32]⟩ : ByteArray)).size + t216.size ≤ 9223372036854775807) = true := decide_eq_true c21
 try have c21b2 : (9223372036854775807 < ((((((((((rdOf ByteArray.empty t205 a0_2) ++ (⟨#[32, 119, 97, 114, 110, 105, 110, 103, 32, 111, 102, 32]⟩ : ByteArray)) ++ (rdOf ByteArray.empty t209 a0_1)) ++ (⟨#[32, 102, 111, 114, 32, 97, 114, 101, 97, 32]⟩ : ByteArray)) ++ t213) ++ (⟨#[32, 102, 114, 111, 109, 32]⟩ : ByteArray)) ++ t214) ++ (⟨#[32, 117, 110, 116, 105, 108, 32]⟩ : ByteArray)) ++ t215) ++ (⟨#[32, 40, 110, 111, 46, 32]⟩ : ByteArray)).size + t216.size) = False := eq_false (Nat.not_lt.2 c21)
 try have c21b3 : (9223372036854775807 < (rdOf ByteArray.empty t205 a0_2).size + 12 + (rdOf ByteArray.empty t209 a0_1).size + 10 + t213.size + 6 + t214.size + 7 + t215.size + 6 + t216.size) = False := eq_false (Nat.not_lt.2 (by have q_ := c21; simp only [ByteArray.size_append] at q_; exact q_))
 by_cases c22 : (((((((((((rdOf ByteArray.empty t205 a0_2) ++ (⟨#[32, 119, 97, 114, 110, 105, 110, 103, 32, 111, 102, 32]⟩ : ByteArray)) ++ (rdOf ByteArray.empty t209 a0_1)) ++ (⟨#[32, 102, 111, 114, 32, 97, 114, 101, 97, 32]⟩ : ByteArray)) ++ t213) ++ (⟨#[32, 102, 114, 111, 109, 32]⟩ : ByteArray)) ++ t214) ++ (⟨#[32, 117, 110, 116, 105, 108, 32]⟩ : ByteArray)) ++ t215) ++ (⟨#[32, 40, 110, 111, 46, 32]⟩ : ByteArray)) ++ t216).size + 2 ≤ 9223372036854775807
 case neg =>
  rw [if_neg c22] at H
  exact absurd H (by simp)
 rw [if_pos c22] at H
 have c22b0 := eq_true c22
 have c22b1 : decide ((((((((((((rdOf ByteArray.empty t205 a0_2) ++ (⟨#[32, 119, 97, 114, 110, 105, 110, 103, 32, 111, 102, 32]⟩ : ByteArray)) ++ (rdOf ByteArray.empty t209 a0_1)) ++ (⟨#[32, 102, 111, 114, 32, 97, 114, 101, 97, 32]⟩ : ByteArray)) ++ t213) ++ (⟨#[32, 102, 114, 111, 109, 32]⟩ : ByteArray)) ++ t214) ++ (⟨#[32, 117, 110, 116, 105, 108, 32]⟩ : ByteArray)) ++ t215) ++ (⟨#[32, 40, 110, 111, 46, 32]⟩ : ByteArray)) ++ t216).size + 2 ≤ 9223372036854775807) = true := decide_eq_true c22
 try have c22b2 : (9223372036854775807 < (((((((((((rdOf ByteArray.empty t205 a0_2) ++ (⟨#[32, 119, 97, 114, 110, 105, 110, 103, 32, 111, 102, 32]⟩ : ByteArray)) ++ (rdOf ByteArray.empty t209 a0_1)) ++ (⟨#[32, 102, 111, 114, 32, 97, 114, 101, 97, 32]⟩ : ByteArray)) ++ t213) ++ (⟨#[32, 102, 114, 111, 109, 32]⟩ : ByteArray)) ++ t214) ++ (⟨#[32, 117, 110, 116, 105, 108, 32]⟩ : ByteArray)) ++ t215) ++ (⟨#[32, 40, 110, 111, 46, 32]⟩ : ByteArray)) ++ t216).size + 2) = False := eq_false (Nat.not_lt.2 c22)
 try have c22b3 : (9223372036854775807 < (rdOf ByteArray.empty t205 a0_2).size + 12 + (rdOf ByteArray.empty t209 a0_1).size + 10 + t213.size + 6 + t214.size + 7 + t215.size + 6 + t216.size + 2) = False := eq_false (Nat.not_lt.2 (by have q_ := c22; simp only [ByteArray.size_append] at q_; exact q_))
 obtain rfl := Option.some.inj H
 go_enter Tryz.func26, Tryz.ntmps26
 try go_wp2_with (first | ((with_reducible refine gate_dst (N := 1) rfl ?_); refine box_event ?hg (N := 1) ?hd (cs := #[.int .i64 a0_0, .int .i64 a0_1, .int .i64 a0_2, .int .i64 a0_3, .int .i64 a0_4, .int .i64 a0_5]) (t := 25) ?hr ?_; (case hd => rfl); (case hg => rfl); (case hr => exact zqS); intro gb204 hg w23 hbox hb; have BK204 := zm (hbox); have GW204 := zm ((by rw [hg]; exact (below_size zq0) : w.heap.size ≤ gb204)); replace HB := zm (below_step zq0 hb); have GE204 := GW204; clear hb hbox hg))
 have n0_ := zm (zD BK204.out)
 have n1_ := zm (below_drew1 HB.out)
 clear BK204
 clear HB
 have BK204 := n0_
 have HB := n1_
 clear n0_ n1_
 refine start_ (n := 34) (S := fun w' => w'.cell? ⟨gb204, 0, none⟩ = some (.int .i64 a0_0) ∧ w'.cell? ⟨gb204, 1, none⟩ = some (.int .i64 a0_1) ∧ w'.cell? ⟨gb204, 2, none⟩ = some (.int .i64 a0_2) ∧ w'.cell? ⟨gb204, 3, none⟩ = some (.int .i64 a0_3) ∧ w'.cell? ⟨gb204, 4, none⟩ = some (.int .i64 a0_4) ∧ w'.cell? ⟨gb204, 5, none⟩ = some (.int .i64 a0_5)) (ds := []) #[zf, zf, zf, zf, zf, zf, zf, zf, zf, zf, zf, zf, zf, zf, zf, zf, zf, zf, zf, zf, zf, zf, zf, zf, zf, zf, zf, zf, zf, zf, zf, zf, zf, zf] (by kernel_rfl) rfl rfl (bc6 BK204.out) (fun hHeld => ?_); refine with_tabW spec_l16Text.tab1 spec_l16Text.bits1 (fun HT_ HW_ => ?_)
 generalize w23.drew = w24 at BK204 HB hHeld ⊢
 refine zP 1 (some 4) #[zf, zt, zf, zf, zf, zf, zf, zf, zf, zf, zf, zf, zf, zf, zf, zf, zf, zf, zf, zf, zf, zf, zf, zf, zf, zf, zf, zf, zf, zf, zf, zf, zf, zf] ?_ rfl rfl HT_ (Or.inl ⟨by rfl, ?_⟩) ?_ ?_ ?_
 rotate_left; · exact zqB
 rotate_left; · exact zqA
 refine zP 7 (some 10) #[zf, zt, zf, zf, zf, zf, zf, zt, zf, zf, zf, zf, zf, zf, zf, zf, zf, zf, zf, zf, zf, zf, zf, zf, zf, zf, zf, zf, zf, zf, zf, zf, zf, zf] ?_ rfl rfl HT_ (Or.inl ⟨by rfl, ?_⟩) ?_ ?_ ?_
 rotate_left; · exact zqB
 rotate_left; · exact zqA
 refine zP 13 (some 16) #[zf, zt, zf, zf, zf, zf, zf, zt, zf, zf, zf, zf, zf, zt, zf, zf, zf, zf, zf, zf, zf, zf, zf, zf, zf, zf, zf, zf, zf, zf, zf, zf, zf, zf] ?_ rfl rfl HT_ (Or.inl ⟨by rfl, ?_⟩) ?_ ?_ ?_
 rotate_left; · exact zqB
 rotate_left; · exact zqA
 refine zP 18 (some 21) #[zf, zt, zf, zf, zf, zf, zf, zt, zf, zf, zf, zf, zf, zt, zf, zf, zf, zf, zt, zf, zf, zf, zf, zf, zf, zf, zf, zf, zf, zf, zf, zf, zf, zf] ?_ rfl rfl HT_ (Or.inl ⟨by rfl, ?_⟩) ?_ ?_ ?_
 rotate_left; · exact zqB
 rotate_left; · exact zqA
 refine zP 23 (some 26) #[zf, zt, zf, zf, zf, zf, zf, zt, zf, zf, zf, zf, zf, zt, zf, zf, zf, zf, zt, zf, zf, zf, zf, zt, zf, zf, zf, zf, zf, zf, zf, zf, zf, zf] ?_ rfl rfl HT_ (Or.inl ⟨by rfl, ?_⟩) ?_ ?_ ?_
 rotate_left; · exact zqB
 rotate_left; · exact zqA
 refine zP 28 (some 31) #[zf, zt, zf, zf, zf, zf, zf, zt, zf, zf, zf, zf, zf, zt, zf, zf, zf, zf, zt, zf, zf, zf, zf, zt, zf, zf, zf, zf, zt, zf, zf, zf, zf, zf] ?_ rfl rfl HT_ (Or.inl ⟨by rfl, ?_⟩) ?_ ?_ ?_
 rotate_left; · exact zqB
 rotate_left; · exact zqA
 refine zT 2 (some 5) #[zf, zt, zt, zf, zf, zf, zf, zt, zf, zf, zf, zf, zf, zt, zf, zf, zf, zf, zt, zf, zf, zf, zf, zt, zf, zf, zf, zf, zt, zf, zf, zf, zf, zf] ?_ rfl rfl HT_ HW_ (Or.inl ⟨by rfl, ?_⟩) hHeld ?_ ?_ ?_
 rotate_left
 ·
  rintro w' ⟨s0, s1, s2, s3, s4, s5⟩
  go_simp
  with_reducible rfl
 rotate_left; · exact zqA
 refine zT 8 (some 11) #[zf, zt, zt, zf, zf, zf, zf, zt, zt, zf, zf, zf, zf, zt, zf, zf, zf, zf, zt, zf, zf, zf, zf, zt, zf, zf, zf, zf, zt, zf, zf, zf, zf, zf] ?_ rfl rfl HT_ HW_ (Or.inl ⟨by rfl, ?_⟩) hHeld ?_ ?_ ?_
 rotate_left
 ·
  rintro w' ⟨s0, s1, s2, s3, s4, s5⟩
  go_simp
  with_reducible rfl
 rotate_left; · exact zqA
 refine zT 14 (some 17) #[zf, zt, zt, zf, zf, zf, zf, zt, zt, zf, zf, zf, zf, zt, zt, zf, zf, zf, zt, zf, zf, zf, zf, zt, zf, zf, zf, zf, zt, zf, zf, zf, zf, zf] ?_ rfl rfl HT_ HW_ (Or.inl ⟨by rfl, ?_⟩) hHeld ?_ ?_ ?_
 rotate_left
 ·
  rintro w' ⟨s0, s1, s2, s3, s4, s5⟩
  go_simp
  with_reducible rfl
 rotate_left; · exact zqA
 refine zT 19 (some 22) #[zf, zt, zt, zf, zf, zf, zf, zt, zt, zf, zf, zf, zf, zt, zt, zf, zf, zf, zt, zt, zf, zf, zf, zt, zf, zf, zf, zf, zt, zf, zf, zf, zf, zf] ?_ rfl rfl HT_ HW_ (Or.inl ⟨by rfl, ?_⟩) hHeld ?_ ?_ ?_
 rotate_left
 ·
  rintro w' ⟨s0, s1, s2, s3, s4, s5⟩
  go_simp
  with_reducible rfl
 rotate_left; · exact zqA
 refine zT 24 (some 27) #[zf, zt, zt, zf, zf, zf, zf, zt, zt, zf, zf, zf, zf, zt, zt, zf, zf, zf, zt, zt, zf, zf, zf, zt, zt, zf, zf, zf, zt, zf, zf, zf, zf, zf] ?_ rfl rfl HT_ HW_ (Or.inl ⟨by rfl, ?_⟩) hHeld ?_ ?_ ?_
 rotate_left
 ·
  rintro w' ⟨s0, s1, s2, s3, s4, s5⟩
  go_simp
  with_reducible rfl
 rotate_left; · exact zqA
 refine zT 29 (some 32) #[zf, zt, zt, zf, zf, zf, zf, zt, zt, zf, zf, zf, zf, zt, zt, zf, zf, zf, zt, zt, zf, zf, zf, zt, zt, zf, zf, zf, zt, zt, zf, zf, zf, zf] ?_ rfl rfl HT_ HW_ (Or.inl ⟨by rfl, ?_⟩) hHeld ?_ ?_ ?_
 rotate_left
 ·
  rintro w' ⟨s0, s1, s2, s3, s4, s5⟩
  go_simp
  with_reducible rfl
 rotate_left; · exact zqA
 refine one_ (i := 0) (N := some 3) #[zt, zt, zt, zf, zf, zf, zf, zt, zt, zf, zf, zf, zf, zt, zt, zf, zf, zf, zt, zt, zf, zf, zf, zt, zt, zf, zf, zf, zt, zt, zf, zf, zf, zf] rfl rfl (one_of HT_.out (by kernel_rfl)) (by decide) (fun K hK => ?_)
 refine goes_ Tryz.func34 (by kernel_rfl) rfl #[] (by rfl) rfl rfl zq1 ?_
 with_reducible refine (spec_l16Levels.calls  t205 _ A2.out).mono ?_
 rintro e w25 ⟨v206, rfl, ho0, hb⟩
 refine ⟨_, rfl, ?_⟩
 have n0_ := zm (Kd.R_lower ho0 (below_size zq35))
 have n1_ := zm (blk_below (g := gb204) (o := .cells #[.int .i64 a0_0, .int .i64 a0_1, .int .i64 a0_2, .int .i64 a0_3, .int .i64 a0_4, .int .i64 a0_5] 25 (0, 0)) (zqK BK204.out) hb)
 have n2_ := zm (below_step zq35 hb)
 clear BK204
 clear HB
 have HO207 := n0_
 have BK204 := n1_
 have HB := n2_
 clear n0_ n1_ n2_
 (try clear hb)
 (try clear hb2)
 (try clear hk)
 (try clear hi)
 (try clear ho0)
 obtain ⟨Ao26, co26, eo26⟩ := Kd.R_slice HO207.out
 (first | subst eo26 | (injection eo26 with f1_ f2_ f3_; have f4_ := f1_.symm; have f5_ := f3_.symm; clear f1_ f2_ f3_; subst f4_; subst f5_))
 have p208 : 0 ≤ (a0_2 : Int) := of_decide_eq_true zq8
 have q208 : a0_2 < (t205.length : Int) := of_decide_eq_true zq8
 obtain ⟨ad208, e208, hx208_0⟩ := Kd.at_string (Kd.R_reads' HO207.out).2.2 a0_2 p208 q208
 cases e208
 replace p208 := eq_true p208
 replace q208 := eq_true q208
 refine hK.out _ _ (bc6 BK204.out) (fun hHeld => ?_)
 refine more_ (fun w' => w'.cell? ⟨gb204, 0, none⟩ = some (.int .i64 a0_0) ∧ w'.cell? ⟨gb204, 1, none⟩ = some (.int .i64 a0_1) ∧ w'.cell? ⟨gb204, 2, none⟩ = some (.int .i64 a0_2) ∧ w'.cell? ⟨gb204, 3, none⟩ = some (.int .i64 a0_3) ∧ w'.cell? ⟨gb204, 4, none⟩ = some (.int .i64 a0_4) ∧ w'.cell? ⟨gb204, 5, none⟩ = some (.int .i64 a0_5) ∧ w'.cell? (ad208.add (a0_2).toNat) = some (.string (rdOf ByteArray.empty t205 a0_2))) (fun _ h => ⟨h.1, h.2.1, h.2.2.1, h.2.2.2.1, h.2.2.2.2.1, h.2.2.2.2.2.1⟩) ⟨(blk_cell BK204.out 0).trans rfl, (blk_cell BK204.out 1).trans rfl, (blk_cell BK204.out 2).trans rfl, (blk_cell BK204.out 3).trans rfl, (blk_cell BK204.out 4).trans rfl, (blk_cell BK204.out 5).trans rfl, hx208_0⟩ (fun hHeld => ?_)
 clear hK K
 refine norm_ (a' := ?_) ?_ ?_
 rotate_left
 ·
  show Act.put _ (some 3) _ = _
  simp only [Act.put, List.setIfInBounds_toArray, List.set_cons_zero, List.set_cons_succ, i64_w, i32_w]
  rfl
 refine zP 3 (some 6) #[zt, zt, zt, zt, zf, zf, zf, zt, zt, zf, zf, zf, zf, zt, zt, zf, zf, zf, zt, zt, zf, zf, zf, zt, zt, zf, zf, zf, zt, zt, zf, zf, zf, zf] ?_ rfl rfl HT_ (Or.inl ⟨by rfl, ?_⟩) ?_ ?_ ?_
 rotate_left; · exact zqB
 rotate_left; · exact zqA
 refine zT 4 (some 7) #[zt, zt, zt, zt, zt, zf, zf, zt, zt, zf, zf, zf, zf, zt, zt, zf, zf, zf, zt, zt, zf, zf, zf, zt, zt, zf, zf, zf, zt, zt, zf, zf, zf, zf] ?_ rfl rfl HT_ HW_ (Or.inl ⟨by rfl, ?_⟩) hHeld ?_ ?_ ?_
 rotate_left
 ·
  rintro w' ⟨s0, s1, s2, s3, s4, s5, s6⟩
  go_simp
  with_reducible rfl
 rotate_left; · exact zqA
 refine zP 5 (some 8) #[zt, zt, zt, zt, zt, zt, zf, zt, zt, zf, zf, zf, zf, zt, zt, zf, zf, zf, zt, zt, zf, zf, zf, zt, zt, zf, zf, zf, zt, zt, zf, zf, zf, zf] ?_ rfl rfl HT_ (Or.inl ⟨by rfl, ?_⟩) ?_ ?_ ?_
 rotate_left; · exact zqB
 rotate_left; · exact zqA
 refine one_ (i := 6) (N := some 9) #[zt, zt, zt, zt, zt, zt, zt, zt, zt, zf, zf, zf, zf, zt, zt, zf, zf, zf, zt, zt, zf, zf, zf, zt, zt, zf, zf, zf, zt, zt, zf, zf, zf, zf] rfl rfl (one_of HT_.out (by kernel_rfl)) (by decide) (fun K hK => ?_)
 refine goes_ Tryz.func35 (by kernel_rfl) rfl #[] (by rfl) rfl rfl zq1 ?_
 with_reducible refine (spec_l16Topics.calls  t209 _ A6.out).mono ?_
 rintro e w27 ⟨v210, rfl, ho0, hb⟩
 have HS6_ := (hb.cell (World.block_lt_of_cell? _ _ (hHeld.2.2.2.2.2.2))).trans (hHeld.2.2.2.2.2.2)
 refine ⟨_, rfl, ?_⟩
 have n0_ := zm (Kd.R_elder' (zqR HO207.out) (Kd.R_base ho0) hb)
 have n1_ := zm (Kd.R_lower (Kd.R_new' ho0 (Kd.R_lt (zqR HO207.out))) (below_size zq35))
 have n2_ := zm (blk_below (g := gb204) (o := .cells #[.int .i64 a0_0, .int .i64 a0_1, .int .i64 a0_2, .int .i64 a0_3, .int .i64 a0_4, .int .i64 a0_5] 25 (0, 0)) (zqK BK204.out) hb)
 have n3_ := zm (below_step zq35 hb)
 clear HO207
 clear BK204
 clear HB
 have HO207 := n0_
 have HO211 := n1_
 have BK204 := n2_
 have HB := n3_
 clear n0_ n1_ n2_ n3_
 (try clear hb)
 (try clear hb2)
 (try clear hk)
 (try clear hi)
 (try clear ho0)
 obtain ⟨Ao28, co28, eo28⟩ := Kd.R_slice HO211.out
 (first | subst eo28 | (injection eo28 with f1_ f2_ f3_; have f4_ := f1_.symm; have f5_ := f3_.symm; clear f1_ f2_ f3_; subst f4_; subst f5_))
 have p212 : 0 ≤ (a0_1 : Int) := of_decide_eq_true zq8
 have q212 : a0_1 < (t209.length : Int) := of_decide_eq_true zq8
 obtain ⟨ad212, e212, hx212_0⟩ := Kd.at_string (Kd.R_reads' HO211.out).2.2 a0_1 p212 q212
 cases e212
 replace p212 := eq_true p212
 replace q212 := eq_true q212
 refine hK.out _ _ ⟨(blk_cell BK204.out 0).trans rfl, (blk_cell BK204.out 1).trans rfl, (blk_cell BK204.out 2).trans rfl, (blk_cell BK204.out 3).trans rfl, (blk_cell BK204.out 4).trans rfl, (blk_cell BK204.out 5).trans rfl, HS6_⟩ (fun hHeld => ?_)
 refine more_ (fun w' => w'.cell? ⟨gb204, 0, none⟩ = some (.int .i64 a0_0) ∧ w'.cell? ⟨gb204, 1, none⟩ = some (.int .i64 a0_1) ∧ w'.cell? ⟨gb204, 2, none⟩ = some (.int .i64 a0_2) ∧ w'.cell? ⟨gb204, 3, none⟩ = some (.int .i64 a0_3) ∧ w'.cell? ⟨gb204, 4, none⟩ = some (.int .i64 a0_4) ∧ w'.cell? ⟨gb204, 5, none⟩ = some (.int .i64 a0_5) ∧ w'.cell? (ad208.add (a0_2).toNat) = some (.string (rdOf ByteArray.empty t205 a0_2)) ∧ w'.cell? (ad212.add (a0_1).toNat) = some (.string (rdOf ByteArray.empty t209 a0_1))) (fun _ h => ⟨h.1, h.2.1, h.2.2.1, h.2.2.2.1, h.2.2.2.2.1, h.2.2.2.2.2.1, h.2.2.2.2.2.2.1⟩) ⟨(blk_cell BK204.out 0).trans rfl, (blk_cell BK204.out 1).trans rfl, (blk_cell BK204.out 2).trans rfl, (blk_cell BK204.out 3).trans rfl, (blk_cell BK204.out 4).trans rfl, (blk_cell BK204.out 5).trans rfl, HS6_, hx212_0⟩ (fun hHeld => ?_)
 clear hK K
 refine norm_ (a' := ?_) ?_ ?_
 rotate_left
 ·
  show Act.put _ (some 9) _ = _
  simp only [Act.put, List.setIfInBounds_toArray, List.set_cons_zero, List.set_cons_succ, i64_w, i32_w]
  rfl
 refine zP 9 (some 12) #[zt, zt, zt, zt, zt, zt, zt, zt, zt, zt, zf, zf, zf, zt, zt, zf, zf, zf, zt, zt, zf, zf, zf, zt, zt, zf, zf, zf, zt, zt, zf, zf, zf, zf] ?_ rfl rfl HT_ (Or.inl ⟨by rfl, ?_⟩) ?_ ?_ ?_
 rotate_left; · exact zqB
 rotate_left; · exact zqA
 refine zT 10 (some 13) #[zt, zt, zt, zt, zt, zt, zt, zt, zt, zt, zt, zf, zf, zt, zt, zf, zf, zf, zt, zt, zf, zf, zf, zt, zt, zf, zf, zf, zt, zt, zf, zf, zf, zf] ?_ rfl rfl HT_ HW_ (Or.inl ⟨by rfl, ?_⟩) hHeld ?_ ?_ ?_
 rotate_left
 ·
  rintro w' ⟨s0, s1, s2, s3, s4, s5, s6, s7⟩
  go_simp
  with_reducible rfl
 rotate_left; · exact zqA
 refine zP 11 (some 14) #[zt, zt, zt, zt, zt, zt, zt, zt, zt, zt, zt, zt, zf, zt, zt, zf, zf, zf, zt, zt, zf, zf, zf, zt, zt, zf, zf, zf, zt, zt, zf, zf, zf, zf] ?_ rfl rfl HT_ (Or.inl ⟨by rfl, ?_⟩) ?_ ?_ ?_
 rotate_left; · exact zqB
 rotate_left; · exact zqA
 refine zP 12 (some 15) #[zt, zt, zt, zt, zt, zt, zt, zt, zt, zt, zt, zt, zt, zt, zt, zf, zf, zf, zt, zt, zf, zf, zf, zt, zt, zf, zf, zf, zt, zt, zf, zf, zf, zf] ?_ rfl rfl HT_ (Or.inl ⟨by rfl, ?_⟩) ?_ ?_ ?_
 rotate_left; · exact zqB
 rotate_left; · exact zqA
 refine one_ (i := 15) (N := some 18) #[zt, zt, zt, zt, zt, zt, zt, zt, zt, zt, zt, zt, zt, zt, zt, zt, zf, zf, zt, zt, zf, zf, zf, zt, zt, zf, zf, zf, zt, zt, zf, zf, zf, zf] rfl rfl (one_of HT_.out (by kernel_rfl)) (by decide) (fun K hK => ?_)
 refine goes_ Tryz.func54 (by kernel_rfl) rfl #[.int .i64 a0_3] (by rfl) rfl rfl zq1 ?_
 with_reducible refine (spec_l1Num.calls k a0_3 t213 _ A11.out).mono ?_
 rintro e w29 ⟨rfl, hb⟩
 have HS6_ := (hb.cell (World.block_lt_of_cell? _ _ (hHeld.2.2.2.2.2.2.1))).trans (hHeld.2.2.2.2.2.2.1)
 have HS7_ := (hb.cell (World.block_lt_of_cell? _ _ (hHeld.2.2.2.2.2.2.2))).trans (hHeld.2.2.2.2.2.2.2)
 refine ⟨_, rfl, ?_⟩
 have n0_ := zm (Kd.R_below (zqR HO207.out) hb)
 have n1_ := zm (Kd.R_below (zqR HO211.out) hb)
 have n2_ := zm (blk_below (g := gb204) (o := .cells #[.int .i64 a0_0, .int .i64 a0_1, .int .i64 a0_2, .int .i64 a0_3, .int .i64 a0_4, .int .i64 a0_5] 25 (0, 0)) (zqK BK204.out) hb)
 have n3_ := zm (below_step zq35 hb)
 clear HO207
 clear HO211
 clear BK204
 clear HB
 have HO207 := n0_
 have HO211 := n1_
 have BK204 := n2_
 have HB := n3_
 clear n0_ n1_ n2_ n3_
 (try clear hb)
 (try clear hb2)
 (try clear hk)
 (try clear hi)
 refine hK.out _ _ ⟨(blk_cell BK204.out 0).trans rfl, (blk_cell BK204.out 1).trans rfl, (blk_cell BK204.out 2).trans rfl, (blk_cell BK204.out 3).trans rfl, (blk_cell BK204.out 4).trans rfl, (blk_cell BK204.out 5).trans rfl, HS6_, HS7_⟩ (fun hHeld => ?_)
 clear hK K
 refine norm_ (a' := ?_) ?_ ?_
 rotate_left
 ·
  show Act.put _ (some 18) _ = _
  simp only [Act.put, List.setIfInBounds_toArray, List.set_cons_zero, List.set_cons_succ, i64_w, i32_w]
  rfl
 refine zP 16 (some 19) #[zt, zt, zt, zt, zt, zt, zt, zt, zt, zt, zt, zt, zt, zt, zt, zt, zt, zf, zt, zt, zf, zf, zf, zt, zt, zf, zf, zf, zt, zt, zf, zf, zf, zf] ?_ rfl rfl HT_ (Or.inl ⟨by rfl, ?_⟩) ?_ ?_ ?_
 rotate_left; · exact zqB
 rotate_left; · exact zqA
 refine zP 17 (some 20) #[zt, zt, zt, zt, zt, zt, zt, zt, zt, zt, zt, zt, zt, zt, zt, zt, zt, zt, zt, zt, zf, zf, zf, zt, zt, zf, zf, zf, zt, zt, zf, zf, zf, zf] ?_ rfl rfl HT_ (Or.inl ⟨by rfl, ?_⟩) ?_ ?_ ?_
 rotate_left; · exact zqB
 rotate_left; · exact zqA
 refine one_ (i := 20) (N := some 23) #[zt, zt, zt, zt, zt, zt, zt, zt, zt, zt, zt, zt, zt, zt, zt, zt, zt, zt, zt, zt, zt, zf, zf, zt, zt, zf, zf, zf, zt, zt, zf, zf, zf, zf] rfl rfl (one_of HT_.out (by kernel_rfl)) (by decide) (fun K hK => ?_)
 refine goes_ Tryz.func52 (by kernel_rfl) rfl #[.int .i64 a0_4] (by rfl) rfl rfl zq1 ?_
 with_reducible refine (spec_l16Hour.calls k a0_4 t214 _ A14.out).mono ?_
 rintro e w30 ⟨rfl, hb⟩
 have HS6_ := (hb.cell (World.block_lt_of_cell? _ _ (hHeld.2.2.2.2.2.2.1))).trans (hHeld.2.2.2.2.2.2.1)
 have HS7_ := (hb.cell (World.block_lt_of_cell? _ _ (hHeld.2.2.2.2.2.2.2))).trans (hHeld.2.2.2.2.2.2.2)
 refine ⟨_, rfl, ?_⟩
 have n0_ := zm (Kd.R_below (zqR HO207.out) hb)
 have n1_ := zm (Kd.R_below (zqR HO211.out) hb)
 have n2_ := zm (blk_below (g := gb204) (o := .cells #[.int .i64 a0_0, .int .i64 a0_1, .int .i64 a0_2, .int .i64 a0_3, .int .i64 a0_4, .int .i64 a0_5] 25 (0, 0)) (zqK BK204.out) hb)
 have n3_ := zm (below_step zq35 hb)
 clear HO207
 clear HO211
 clear BK204
 clear HB
 have HO207 := n0_
 have HO211 := n1_
 have BK204 := n2_
 have HB := n3_
 clear n0_ n1_ n2_ n3_
 (try clear hb)
 (try clear hb2)
 (try clear hk)
 (try clear hi)
 refine hK.out _ _ ⟨(blk_cell BK204.out 0).trans rfl, (blk_cell BK204.out 1).trans rfl, (blk_cell BK204.out 2).trans rfl, (blk_cell BK204.out 3).trans rfl, (blk_cell BK204.out 4).trans rfl, (blk_cell BK204.out 5).trans rfl, HS6_, HS7_⟩ (fun hHeld => ?_)
 clear hK K
 refine norm_ (a' := ?_) ?_ ?_
 rotate_left
 ·
  show Act.put _ (some 23) _ = _
  simp only [Act.put, List.setIfInBounds_toArray, List.set_cons_zero, List.set_cons_succ, i64_w, i32_w]
  rfl
 refine zP 21 (some 24) #[zt, zt, zt, zt, zt, zt, zt, zt, zt, zt, zt, zt, zt, zt, zt, zt, zt, zt, zt, zt, zt, zt, zf, zt, zt, zf, zf, zf, zt, zt, zf, zf, zf, zf] ?_ rfl rfl HT_ (Or.inl ⟨by rfl, ?_⟩) ?_ ?_ ?_
 rotate_left; · exact zqB
 rotate_left; · exact zqA
 refine zP 22 (some 25) #[zt, zt, zt, zt, zt, zt, zt, zt, zt, zt, zt, zt, zt, zt, zt, zt, zt, zt, zt, zt, zt, zt, zt, zt, zt, zf, zf, zf, zt, zt, zf, zf, zf, zf] ?_ rfl rfl HT_ (Or.inl ⟨by rfl, ?_⟩) ?_ ?_ ?_
 rotate_left; · exact zqB
 rotate_left; · exact zqA
 refine one_ (i := 25) (N := some 28) #[zt, zt, zt, zt, zt, zt, zt, zt, zt, zt, zt, zt, zt, zt, zt, zt, zt, zt, zt, zt, zt, zt, zt, zt, zt, zt, zf, zf, zt, zt, zf, zf, zf, zf] rfl rfl (one_of HT_.out (by kernel_rfl)) (by decide) (fun K hK => ?_)
 refine goes_ Tryz.func52 (by kernel_rfl) rfl #[.int .i64 a0_5] (by rfl) rfl rfl zq1 ?_
 with_reducible refine (spec_l16Hour.calls k a0_5 t215 _ A17.out).mono ?_
 rintro e w31 ⟨rfl, hb⟩
 have HS6_ := (hb.cell (World.block_lt_of_cell? _ _ (hHeld.2.2.2.2.2.2.1))).trans (hHeld.2.2.2.2.2.2.1)
 have HS7_ := (hb.cell (World.block_lt_of_cell? _ _ (hHeld.2.2.2.2.2.2.2))).trans (hHeld.2.2.2.2.2.2.2)
 refine ⟨_, rfl, ?_⟩
 have n0_ := zm (Kd.R_below (zqR HO207.out) hb)
 have n1_ := zm (Kd.R_below (zqR HO211.out) hb)
 have n2_ := zm (blk_below (g := gb204) (o := .cells #[.int .i64 a0_0, .int .i64 a0_1, .int .i64 a0_2, .int .i64 a0_3, .int .i64 a0_4, .int .i64 a0_5] 25 (0, 0)) (zqK BK204.out) hb)
 have n3_ := zm (below_step zq35 hb)
 clear HO207
 clear HO211
 clear BK204
 clear HB
 have HO207 := n0_
 have HO211 := n1_
 have BK204 := n2_
 have HB := n3_
 clear n0_ n1_ n2_ n3_
 (try clear hb)
 (try clear hb2)
 (try clear hk)
 (try clear hi)
 refine hK.out _ _ ⟨(blk_cell BK204.out 0).trans rfl, (blk_cell BK204.out 1).trans rfl, (blk_cell BK204.out 2).trans rfl, (blk_cell BK204.out 3).trans rfl, (blk_cell BK204.out 4).trans rfl, (blk_cell BK204.out 5).trans rfl, HS6_, HS7_⟩ (fun hHeld => ?_)
 clear hK K
 refine norm_ (a' := ?_) ?_ ?_
 rotate_left
 ·
  show Act.put _ (some 28) _ = _
  simp only [Act.put, List.setIfInBounds_toArray, List.set_cons_zero, List.set_cons_succ, i64_w, i32_w]
  rfl
 refine zP 26 (some 29) #[zt, zt, zt, zt, zt, zt, zt, zt, zt, zt, zt, zt, zt, zt, zt, zt, zt, zt, zt, zt, zt, zt, zt, zt, zt, zt, zt, zf, zt, zt, zf, zf, zf, zf] ?_ rfl rfl HT_ (Or.inl ⟨by rfl, ?_⟩) ?_ ?_ ?_
 rotate_left; · exact zqB
 rotate_left; · exact zqA
 refine zP 27 (some 30) #[zt, zt, zt, zt, zt, zt, zt, zt, zt, zt, zt, zt, zt, zt, zt, zt, zt, zt, zt, zt, zt, zt, zt, zt, zt, zt, zt, zt, zt, zt, zf, zf, zf, zf] ?_ rfl rfl HT_ (Or.inl ⟨by rfl, ?_⟩) ?_ ?_ ?_
 rotate_left; · exact zqB
 rotate_left; · exact zqA
 refine one_ (i := 30) (N := some 33) #[zt, zt, zt, zt, zt, zt, zt, zt, zt, zt, zt, zt, zt, zt, zt, zt, zt, zt, zt, zt, zt, zt, zt, zt, zt, zt, zt, zt, zt, zt, zt, zf, zf, zf] rfl rfl (one_of HT_.out (by kernel_rfl)) (by decide) (fun K hK => ?_)
 refine goes_ Tryz.func54 (by kernel_rfl) rfl #[.int .i64 a0_0] (by rfl) rfl rfl zq1 ?_
 with_reducible refine (spec_l1Num.calls k a0_0 t216 _ A20.out).mono ?_
 rintro e w32 ⟨rfl, hb⟩
 have HS6_ := (hb.cell (World.block_lt_of_cell? _ _ (hHeld.2.2.2.2.2.2.1))).trans (hHeld.2.2.2.2.2.2.1)
 have HS7_ := (hb.cell (World.block_lt_of_cell? _ _ (hHeld.2.2.2.2.2.2.2))).trans (hHeld.2.2.2.2.2.2.2)
 refine ⟨_, rfl, ?_⟩
 have n0_ := zm (Kd.R_below (zqR HO207.out) hb)
 have n1_ := zm (Kd.R_below (zqR HO211.out) hb)
 have n2_ := zm (blk_below (g := gb204) (o := .cells #[.int .i64 a0_0, .int .i64 a0_1, .int .i64 a0_2, .int .i64 a0_3, .int .i64 a0_4, .int .i64 a0_5] 25 (0, 0)) (zqK BK204.out) hb)
 have n3_ := zm (below_step zq35 hb)
 clear HO207
 clear HO211
 clear BK204
 clear HB
 have HO207 := n0_
 have HO211 := n1_
 have BK204 := n2_
 have HB := n3_
 clear n0_ n1_ n2_ n3_
 (try clear hb)
 (try clear hb2)
 (try clear hk)
 (try clear hi)
 refine hK.out _ _ ⟨(blk_cell BK204.out 0).trans rfl, (blk_cell BK204.out 1).trans rfl, (blk_cell BK204.out 2).trans rfl, (blk_cell BK204.out 3).trans rfl, (blk_cell BK204.out 4).trans rfl, (blk_cell BK204.out 5).trans rfl, HS6_, HS7_⟩ (fun hHeld => ?_)
 clear hK K
 refine norm_ (a' := ?_) ?_ ?_
 rotate_left
 ·
  show Act.put _ (some 33) _ = _
  simp only [Act.put, List.setIfInBounds_toArray, List.set_cons_zero, List.set_cons_succ, i64_w, i32_w]
  rfl
 refine zP 31 (some 34) #[zt, zt, zt, zt, zt, zt, zt, zt, zt, zt, zt, zt, zt, zt, zt, zt, zt, zt, zt, zt, zt, zt, zt, zt, zt, zt, zt, zt, zt, zt, zt, zt, zf, zf] ?_ rfl rfl HT_ (Or.inl ⟨by rfl, ?_⟩) ?_ ?_ ?_
 rotate_left; · exact zqB
 rotate_left; · exact zqA
 refine zP 32 (some 35) #[zt, zt, zt, zt, zt, zt, zt, zt, zt, zt, zt, zt, zt, zt, zt, zt, zt, zt, zt, zt, zt, zt, zt, zt, zt, zt, zt, zt, zt, zt, zt, zt, zt, zf] ?_ rfl rfl HT_ (Or.inl ⟨by rfl, ?_⟩) ?_ ?_ ?_
 rotate_left; · exact zqB
 rotate_left; · exact zqA
 refine zP 33 (some 2) #[zt, zt, zt, zt, zt, zt, zt, zt, zt, zt, zt, zt, zt, zt, zt, zt, zt, zt, zt, zt, zt, zt, zt, zt, zt, zt, zt, zt, zt, zt, zt, zt, zt, zt] ?_ rfl rfl HT_ (Or.inl ⟨by rfl, ?_⟩) ?_ ?_ ?_
 rotate_left; · exact zqB
 rotate_left; · exact zqA
 refine done_ (done_of HT_.out (by kernel_rfl)) ?_
 try go_wp2
 go_ret
 exact ⟨zqE, zq35⟩
def spec_WarningText.f (k : Nat) (a0_0 : Int) (a0_1 : Int) (a0_2 : Int) (a0_3 : Int) (a0_4 : Int) (a0_5 : Int) : Option (ByteArray × Bool) := (spec_l14Good.f a0_0 a0_1 a0_2 a0_3 a0_4 a0_5).bind fun t218 => (if t218 = true then ((spec_l16Text.f k a0_0 a0_1 a0_2 a0_3 a0_4 a0_5).bind fun t219 => (some (t219, true))) else (some ((⟨#[]⟩ : ByteArray), false)))
set_option maxHeartbeats 8000000 in
set_option maxRecDepth 100000 in
theorem spec_WarningText.calls (k : Nat) (a0_0 : Int) (a0_1 : Int) (a0_2 : Int) (a0_3 : Int) (a0_4 : Int) (a0_5 : Int) (r1 : ByteArray) (r2 : Bool) (w : World) (h : spec_WarningText.f k a0_0 a0_1 a0_2 a0_3 a0_4 a0_5 = some (r1, r2)) :
  Calls Tryz.prog 7 #[.agg #[.int .i64 a0_0, .int .i64 a0_1, .int .i64 a0_2, .int .i64 a0_3, .int .i64 a0_4, .int .i64 a0_5]] w fun e w' => e = .returned (.tuple #[.string r1, .bool r2]) ∧ Below w.heap.size w w' := by
 have hu25 := Tryz.underlying25
 have HB := zm (Below.refl w.heap.size w)
 have H : ((spec_l14Good.f a0_0 a0_1 a0_2 a0_3 a0_4 a0_5).bind fun t218 => (if t218 = true then ((spec_l16Text.f k a0_0 a0_1 a0_2 a0_3 a0_4 a0_5).bind fun t219 => (some (t219, true))) else (some ((⟨#[]⟩ : ByteArray), false)))) = some (r1, r2) := h
 clear h
 obtain ⟨t218, A20, H⟩ := zob H
 replace H : (if t218 = true then ((spec_l16Text.f k a0_0 a0_1 a0_2 a0_3 a0_4 a0_5).bind fun t219 => (some (t219, true))) else (some ((⟨#[]⟩ : ByteArray), false))) = some (r1, r2) := H
 have A2 := zm A20
 clear A20
 by_cases c3 : t218 = true
 case neg =>
  replace c3 := Bool.eq_false_iff.mpr c3
  subst c3
  have H1 : (some ((⟨#[]⟩ : ByteArray), false)) = some (r1, r2) := by rw [if_neg (show ¬ (false = true) by decide)] at H; exact H
  clear H
  have H := H1
  clear H1
  simp only [Option.some.injEq, Prod.mk.injEq] at H
  obtain ⟨rfl, rfl⟩ := H
  go_enter Tryz.func7, Tryz.ntmps7
  go_wp2_with (first | ((with_reducible refine gate_dst (N := 1) rfl ?_); refine box_event ?hg (N := 1) ?hd (cs := #[.int .i64 a0_0, .int .i64 a0_1, .int .i64 a0_2, .int .i64 a0_3, .int .i64 a0_4, .int .i64 a0_5]) (t := 25) ?hr ?_; (case hd => rfl); (case hg => rfl); (case hr => exact zqS); intro gb217 hg w10 hbox hb; have BK217 := zm (hbox); have GW217 := zm ((by rw [hg]; exact (below_size zq0) : w.heap.size ≤ gb217)); replace HB := zm (below_step zq0 hb); have GE217 := GW217; clear hb hbox hg; obtain ⟨hcz11_0, hcz11_1, hcz11_2, hcz11_3, hcz11_4, hcz11_5, hfz11_0, hfz11_1, hfz11_2, hfz11_3, hfz11_4, hfz11_5⟩ := bz6 BK217.out) | ((with_reducible refine gate_callee (f := 25) rfl ?_); refine goesL_ (some 5) rfl rfl Tryz.func25 (by kernel_rfl) rfl #[.agg #[.int .i64 a0_0, .int .i64 a0_1, .int .i64 a0_2, .int .i64 a0_3, .int .i64 a0_4, .int .i64 a0_5]] rfl zq1 ?_; (with_reducible refine (spec_l14Good.calls a0_0 a0_1 a0_2 a0_3 a0_4 a0_5 false _ A2.out).mono ?_); rintro e w12 ⟨rfl, hb⟩; refine ⟨_, rfl, ?_⟩; replace BK217 := zm (blk_below (g := gb217) (o := .cells #[.int .i64 a0_0, .int .i64 a0_1, .int .i64 a0_2, .int .i64 a0_3, .int .i64 a0_4, .int .i64 a0_5] 25 (0, 0)) (zqK BK217.out) hb); replace HB := zm (below_step zq56 hb); (try clear hb); (try clear hb2); (try clear hk); (try clear hi)))
  go_ret2
  exact ⟨zqE, zq56⟩
 subst c3
 have H1 : ((spec_l16Text.f k a0_0 a0_1 a0_2 a0_3 a0_4 a0_5).bind fun t219 => (some (t219, true))) = some (r1, r2) := by rw [if_pos rfl] at H; exact H
 clear H
 have H := H1
 clear H1
 obtain ⟨t219, A40, H⟩ := zob H
 replace H : (some (t219, true)) = some (r1, r2) := H
 have A4 := zm A40
 clear A40
 simp only [Option.some.injEq, Prod.mk.injEq] at H
 obtain ⟨rfl, rfl⟩ := H
 go_enter Tryz.func7, Tryz.ntmps7
 go_wp2_with (first | ((with_reducible refine gate_dst (N := 1) rfl ?_); refine box_event ?hg (N := 1) ?hd (cs := #[.int .i64 a0_0, .int .i64 a0_1, .int .i64 a0_2, .int .i64 a0_3, .int .i64 a0_4, .int .i64 a0_5]) (t := 25) ?hr ?_; (case hd => rfl); (case hg => rfl); (case hr => exact zqS); intro gb217 hg w5 hbox hb; have BK217 := zm (hbox); have GW217 := zm ((by rw [hg]; exact (below_size zq0) : w.heap.size ≤ gb217)); replace HB := zm (below_step zq0 hb); have GE217 := GW217; clear hb hbox hg; obtain ⟨hcz6_0, hcz6_1, hcz6_2, hcz6_3, hcz6_4, hcz6_5, hfz6_0, hfz6_1, hfz6_2, hfz6_3, hfz6_4, hfz6_5⟩ := bz6 BK217.out) | ((with_reducible refine gate_callee (f := 25) rfl ?_); refine goesL_ (some 5) rfl rfl Tryz.func25 (by kernel_rfl) rfl #[.agg #[.int .i64 a0_0, .int .i64 a0_1, .int .i64 a0_2, .int .i64 a0_3, .int .i64 a0_4, .int .i64 a0_5]] rfl zq1 ?_; (with_reducible refine (spec_l14Good.calls a0_0 a0_1 a0_2 a0_3 a0_4 a0_5 true _ A2.out).mono ?_); rintro e w7 ⟨rfl, hb⟩; refine ⟨_, rfl, ?_⟩; replace BK217 := zm (blk_below (g := gb217) (o := .cells #[.int .i64 a0_0, .int .i64 a0_1, .int .i64 a0_2, .int .i64 a0_3, .int .i64 a0_4, .int .i64 a0_5] 25 (0, 0)) (zqK BK217.out) hb); replace HB := zm (below_step zq56 hb); (try clear hb); (try clear hb2); (try clear hk); (try clear hi); obtain ⟨hcz8_0, hcz8_1, hcz8_2, hcz8_3, hcz8_4, hcz8_5, hfz8_0, hfz8_1, hfz8_2, hfz8_3, hfz8_4, hfz8_5⟩ := bz6 BK217.out) | ((with_reducible refine gate_callee (f := 26) rfl ?_); refine goesL_ (some 8) rfl rfl Tryz.func26 (by kernel_rfl) rfl #[.agg #[.int .i64 a0_0, .int .i64 a0_1, .int .i64 a0_2, .int .i64 a0_3, .int .i64 a0_4, .int .i64 a0_5]] rfl zq1 ?_; (with_reducible refine (spec_l16Text.calls k a0_0 a0_1 a0_2 a0_3 a0_4 a0_5 t219 _ A4.out).mono ?_); rintro e w9 ⟨rfl, hb⟩; refine ⟨_, rfl, ?_⟩; replace BK217 := zm (blk_below (g := gb217) (o := .cells #[.int .i64 a0_0, .int .i64 a0_1, .int .i64 a0_2, .int .i64 a0_3, .int .i64 a0_4, .int .i64 a0_5] 25 (0, 0)) (zqK BK217.out) hb); replace HB := zm (below_step zq56 hb); (try clear hb); (try clear hb2); (try clear hk); (try clear hi)))
 go_ret2
 exact ⟨zqE, zq56⟩
def impl_ParseHour.l0 : Nat → ByteArray → Int → Option (Int × Bool)
 | 0, _, _ => none
 | k + 1, x0, x5 => if x5 < 241 then ((impl_hourText.f x5).bind fun t220 => (if t220.toList = x0.toList then (some (x5, true)) else (impl_ParseHour.l0 k x0 (wrap64 (x5 + 1))))) else (some (0, false))
def impl_ParseHour.f (k : Nat) (a0 : ByteArray) : Option (Int × Bool) := impl_ParseHour.l0 k a0 0
theorem impl_ParseHour.mono_l : ∀ k, (∀ y0 y1, LeO (impl_ParseHour.l0 k y0 y1) (impl_ParseHour.l0 (k + 1) y0 y1))
 | 0 => fun _ _ r h => by simp [impl_ParseHour.l0] at h
 | k + 1 => by
  have ih0 := impl_ParseHour.mono_l k
  ·
   intro y0 y1
   unfold impl_ParseHour.l0
   repeat' first
   | (with_reducible exact ih0 _ _)
   | (with_reducible exact LeO.refl _)
   | (with_reducible exact LeO.none _)
   | (with_reducible refine LeO.ite ?_ ?_)
   | (with_reducible refine LeO.bind ?_ (fun _ => ?_))
   | exact ih0 _ _
   | exact LeO.none _
   | refine LeO.ite ?_ ?_
   | refine LeO.bind ?_ (fun _ => ?_)
theorem impl_ParseHour.mono : ∀ a0 k, LeO (impl_ParseHour.f k a0) (impl_ParseHour.f (k + 1) a0) := by
 intro a0 k
 have ih0 := impl_ParseHour.mono_l k
 unfold impl_ParseHour.f
 repeat' first
   | (with_reducible exact ih0 _ _)
   | (with_reducible exact LeO.refl _)
   | (with_reducible exact LeO.none _)
   | (with_reducible refine LeO.ite ?_ ?_)
   | (with_reducible refine LeO.bind ?_ (fun _ => ?_))
   | exact ih0 _ _
   | exact LeO.none _
   | refine LeO.ite ?_ ?_
   | refine LeO.bind ?_ (fun _ => ?_)
set_option maxHeartbeats 8000000 in
set_option maxRecDepth 100000 in
theorem impl_ParseHour.calls (k : Nat) (a0 : ByteArray) (r1 : Int) (r2 : Bool) (w : World) (htN : TabN w) (h : impl_ParseHour.f k a0 = some (r1, r2)) :
  Calls Tryz.prog 20 #[.string a0] w fun e w' => e = .returned (.tuple #[.int .i64 r1, .bool r2]) ∧ Below w.heap.size w w' := by
 have HTN := zm htN
 clear htN
 have HB := zm (Below.refl w.heap.size w)
 have H : (impl_ParseHour.l0 k a0 0) = some (r1, r2) := h
 clear h
 have H' := zm H
 clear H
 go_enter Tryz.func20, Tryz.ntmps20
 go_wp2
 go_loopg [5] k (fun kq v5 w' => ∃ (x5_1 : Int), v5 = .int .i64 x5_1 ∧ Aside0 (impl_ParseHour.l0 kq a0 x5_1 = some (r1, r2)) ∧ Aside0 (kq ≤ k) ∧ Aside0 (Below w.heap.size w w'))
 case atStart => exact ⟨(0), (by first | rfl | (simp; done) | (simp [*]; done)), H', ⟨Nat.le_refl _⟩, ⟨zq0⟩⟩
 clear H'
 obtain ⟨x5_1, rfl, HA, HK1, HB⟩ := hrel
 cases gk with
 | zero => exact absurd HA.out (by simp [impl_ParseHour.l0])
 | succ k1 =>
  have H := HA.out
  clear HA
  simp only [impl_ParseHour.l0] at H
  by_cases c2 : x5_1 < 241
  case neg =>
   rw [if_neg c2] at H
   have c2b0 : decide (x5_1 < 241) = false := decide_eq_false c2
   clear c2
   simp only [Option.some.injEq, Prod.mk.injEq] at H
   obtain ⟨rfl, rfl⟩ := H
   go_wp2
   go_ret2
   exact ⟨zqE, zq0⟩
  rw [if_pos c2] at H
  have c2b0 : decide (x5_1 < 241) = true := decide_eq_true c2
  clear c2
  obtain ⟨t220, A30, H⟩ := zob H
  replace H : (if t220.toList = a0.toList then (some (x5_1, true)) else (impl_ParseHour.l0 k1 a0 (wrap64 (x5_1 + 1)))) = some (r1, r2) := H
  have A3 := zm A30
  clear A30
  by_cases c4 : t220.toList = a0.toList
  case neg =>
   rw [if_neg c4] at H
   have c4b0 : (t220.toList == a0.toList) = false := beq_eq_false_iff_ne.mpr c4
   have c4b1 : (t220.toList != a0.toList) = true := bne_iff_ne.mpr c4
   have H' := zm H
   clear H
   go_wp2_with (first | ((with_reducible refine gate_callee (f := 50) rfl ?_); refine goesL_ (some 9) rfl rfl Tryz.func50 (by kernel_rfl) rfl #[.int .i64 x5_1] rfl zq1 ?_; (with_reducible refine (impl_hourText.calls x5_1 t220 _ (HTN.out.below zq0) A3.out).mono ?_); rintro e w6 ⟨rfl, hb⟩; refine ⟨_, rfl, ?_⟩; replace HB := zm (below_step zq0 hb); (try clear hb); (try clear hb2); (try clear hk); (try clear hi)))
   go_roundg k1
   case measure => have := HK1.out; omega
   case rel => exact ⟨(wrap64 (x5_1 + 1)), (by first | rfl | (simp; done) | (simp [*]; done)), H', ⟨by have := HK1.out; omega⟩, ⟨zq0⟩⟩
  rw [if_pos c4] at H
  have c4b0 : (t220.toList == a0.toList) = true := beq_iff_eq.mpr c4
  have c4b1 : (t220.toList != a0.toList) = false := bne_eq_false_iff_eq.mpr c4
  clear c4
  simp only [Option.some.injEq, Prod.mk.injEq] at H
  obtain ⟨rfl, rfl⟩ := H
  go_wp2_with (first | ((with_reducible refine gate_callee (f := 50) rfl ?_); refine goesL_ (some 9) rfl rfl Tryz.func50 (by kernel_rfl) rfl #[.int .i64 x5_1] rfl zq1 ?_; (with_reducible refine (impl_hourText.calls x5_1 t220 _ (HTN.out.below zq0) A3.out).mono ?_); rintro e w5 ⟨rfl, hb⟩; refine ⟨_, rfl, ?_⟩; replace HB := zm (below_step zq0 hb); (try clear hb); (try clear hb2); (try clear hk); (try clear hi)))
  go_ret2
  exact ⟨zqE, zq0⟩
def strings_Cut.f (a0 a1 : ByteArray) : Option (ByteArray × ByteArray × Bool) := if a0.size < 4294967281 then some (⟨(Lib.cut a0.data.toList a1.data.toList).1.toArray⟩, ⟨(Lib.cut a0.data.toList a1.data.toList).2.1.toArray⟩, (Lib.cut a0.data.toList a1.data.toList).2.2) else none
theorem strings_Cut.calls (a0 : ByteArray) (a1 : ByteArray) (r1 : ByteArray) (r2 : ByteArray) (r3 : Bool) (w : World) (htM : TabM w) (h : strings_Cut.f a0 a1 = some (r1, r2, r3)) :
  Calls Tryz.prog 27 #[.string a0, .string a1] w fun e w' => e = .returned (.tuple #[.string r1, .string r2, .bool r3]) ∧ Below w.heap.size w w' := by
 unfold strings_Cut.f at h
 split at h
 ·
  rename_i c
  simp only [Option.some.injEq, Prod.mk.injEq] at h
  obtain ⟨rfl, rfl, rfl⟩ := h
  obtain ⟨m, hm⟩ := htM
  refine (Tryz.strings_Cut a0 a1 m w c hm).mono fun e w' ⟨he, n, hw⟩ => ?_
  subst he hw
  exact ⟨rfl, pw_below_drewN (Below.refl _ _) _⟩
 ·
  cases h
def intV (a0 : ByteArray) : Int × Bool := match Lib.atoiAll a0.data.toList with
 | .ok v => if -999999 ≤ v ∧ v ≤ 999999 then (if (decS v).toList = a0.toList then (v, true) else (0, false)) else (0, false)
 | _ => (0, false)
def impl_ParseInt.f (a0 : ByteArray) : Option (Int × Bool) := if a0.size ≤ 281474976710656 then some (intV a0) else none
theorem atoi_some (a0 : ByteArray) (w : World) (htE : TabE w) (hs : a0.size ≤ 281474976710656) (hn : ∀ v, Lib.atoiAll a0.data.toList ≠ .ok v) :
  Calls Tryz.prog 67 #[.string a0] w fun e w' => (∃ x N, e = .returned (.tuple #[.int .i64 x, .iface 102 (.pointer (some ⟨N, 0, none⟩))])) ∧ Below w.heap.size w w' := by
 obtain ⟨⟨t1, p1, h1⟩, t2, p2, h2⟩ := htE
 by_cases hr : Lib.atoiAll a0.data.toList = .range
 case neg => exact (Tryz.strconv_Atoi_syntax_var a0 hs ⟨hn, hr⟩ t1 p1 w h1).mono fun e w' ⟨N, he, _, _, hb⟩ => ⟨⟨_, N, he⟩, hb⟩
 exact (Tryz.strconv_Atoi_range_var a0 hs hr t2 p2 w h2).mono fun e w' ⟨N, he, _, _, hb⟩ => ⟨⟨_, N, he⟩, hb⟩
set_option maxHeartbeats 4000000 in
set_option maxRecDepth 100000 in
theorem impl_ParseInt.bad (a0 : ByteArray) (w : World) (htE : TabE w) (hs : a0.size ≤ 281474976710656) (hn : ∀ v, Lib.atoiAll a0.data.toList ≠ .ok v) :
  Calls Tryz.prog 56 #[.string a0] w fun e w' => e = .returned (.tuple #[.int .i64 0, .bool false]) ∧ Below w.heap.size w w' := by
 have hc := atoi_some a0 w htE hs hn
 clear htE hs hn
 have e_Atoi : ∀ args w, (callFunc 67 args).run Tryz.prog w = .ok (.enter 67 args) w := enters_of Tryz.func67 (by kernel_rfl) rfl
 go_enter Tryz.func56, Tryz.ntmps56
 go_wp2_with (go_at_fn 67; refine hc.mono ?_; rintro e w1 ⟨⟨x, N, rfl⟩, hb⟩)
 go_ret2
 exact ⟨rfl, hb⟩
set_option maxHeartbeats 4000000 in
set_option maxRecDepth 100000 in
theorem impl_ParseInt.good (a0 : ByteArray) (w : World) (htN : TabN w) (hs : a0.size ≤ 281474976710656) (v : Int) (hv : Lib.atoiAll a0.data.toList = .ok v) (h64 : -9223372036854775808 ≤ v ∧ v ≤ 9223372036854775807) :
  Calls Tryz.prog 56 #[.string a0] w fun e w' => e = .returned (.tuple (if -999999 ≤ v ∧ v ≤ 999999 then (if (decS v).toList = a0.toList then #[.int .i64 v, .bool true] else #[.int .i64 0, .bool false]) else #[.int .i64 0, .bool false])) ∧ Below w.heap.size w w' := by
 have hc : Calls Tryz.prog 67 #[.string a0] w fun e w' => e = .returned (.tuple #[.int .i64 v, .nilIface]) ∧ Below w.heap.size w w' := by
  refine (Tryz.strconv_Atoi_ok a0 (by omega) v hv w).mono fun e w' ⟨he, hw⟩ => ⟨he, ?_⟩
  rcases hw with hw | ⟨t, hw⟩
  ·
   subst hw; exact Below.refl _ _
  ·
   subst hw; exact bytes_below (Below.refl _ _) (Nat.le_refl _) _ _
 have HTN := zm htN
 have e_Atoi : ∀ args w, (callFunc 67 args).run Tryz.prog w = .ok (.enter 67 args) w := enters_of Tryz.func67 (by kernel_rfl) rfl
 have e_within : ∀ args w, (callFunc 49 args).run Tryz.prog w = .ok (.enter 49 args) w := enters_of Tryz.func49 (by kernel_rfl) rfl
 have e_Itoa : ∀ args w, (callFunc 53 args).run Tryz.prog w = .ok (.enter 53 args) w := enters_of Tryz.func53 (by kernel_rfl) rfl
 by_cases c : -999999 ≤ v ∧ v ≤ 999999
 case neg =>
  rw [if_neg c]
  have hw : impl_within.f v (-999999) 999999 = some false := by
   unfold impl_within.f
   by_cases e1 : -999999 ≤ v
   case neg => simp [e1]
   have e2 : ¬ v ≤ 999999 := fun e2 => c ⟨e1, e2⟩
   simp [e1, e2]
  clear hv hs htN
  go_enter Tryz.func56, Tryz.ntmps56
  go_wp2_with (first | (go_at_fn 67; refine hc.mono ?_; rintro e w1 ⟨rfl, hb⟩) | (go_at_fn 49; refine (impl_within.calls v (-999999) 999999 false _ hw).mono ?_; rintro e w2 ⟨rfl, m1, rfl⟩))
  go_ret2
  exact ⟨rfl, pw_below_drewN hb _⟩
 rw [if_pos c]
 have hw : impl_within.f v (-999999) 999999 = some true := by
  unfold impl_within.f
  simp [c.1, c.2]
 have hi : strconv_Itoa.f v = some (decS v) := itoa_f v h64.1 h64.2
 by_cases d : (decS v).toList = a0.toList
 case pos =>
  rw [if_pos d]
  have d1 : ((decS v).toList != a0.toList) = false := bne_eq_false_iff_eq.mpr d
  clear hv hs htN
  go_enter Tryz.func56, Tryz.ntmps56
  go_wp2_with (first | (go_at_fn 67; refine hc.mono ?_; rintro e w1 ⟨rfl, hb⟩) | (go_at_fn 49; refine (impl_within.calls v (-999999) 999999 true _ hw).mono ?_; rintro e w2 ⟨rfl, m1, rfl⟩) | (go_at_fn 53; refine (strconv_Itoa.calls v (decS v) _ (HTN.out.below (pw_below_drewN hb _)) hi).mono ?_; rintro e w3 ⟨rfl, hb3⟩))
  go_ret2
  exact ⟨rfl, (pw_below_drewN hb _).trans (hb3.mono (pw_below_drewN hb _).size)⟩
 rw [if_neg d]
 have d1 : ((decS v).toList != a0.toList) = true := bne_iff_ne.mpr d
 have d2 : ((decS v).toList == a0.toList) = false := beq_eq_false_iff_ne.mpr d
 clear hv hs htN
 go_enter Tryz.func56, Tryz.ntmps56
 go_wp2_with (first | (go_at_fn 67; refine hc.mono ?_; rintro e w1 ⟨rfl, hb⟩) | (go_at_fn 49; refine (impl_within.calls v (-999999) 999999 true _ hw).mono ?_; rintro e w2 ⟨rfl, m1, rfl⟩) | (go_at_fn 53; refine (strconv_Itoa.calls v (decS v) _ (HTN.out.below (pw_below_drewN hb _)) hi).mono ?_; rintro e w3 ⟨rfl, hb3⟩))
 go_ret2
 exact ⟨rfl, (pw_below_drewN hb _).trans (hb3.mono (pw_below_drewN hb _).size)⟩
theorem atoi_range (l : List UInt8) (v : Int) (h : Lib.atoiAll l = .ok v) : -9223372036854775808 ≤ v ∧ v ≤ 9223372036854775807 := by
 unfold Lib.atoiAll at h
 split at h
 ·
  cases h
 ·
  dsimp only at h
  split at h
  ·
   cases h
  ·
   cases h
  ·
   split at h
   ·
    cases h
   ·
    split at h
    ·
     cases h
    ·
     injection h with h
     subst h
     split <;> omega
theorem impl_ParseInt.calls (a0 : ByteArray) (r1 : Int) (r2 : Bool) (w : World) (htE : TabE w) (htN : TabN w) (h : impl_ParseInt.f a0 = some (r1, r2)) :
  Calls Tryz.prog 56 #[.string a0] w fun e w' => e = .returned (.tuple #[.int .i64 r1, .bool r2]) ∧ Below w.heap.size w w' := by
 unfold impl_ParseInt.f at h
 split at h
 ·
  rename_i hs
  injection h with h
  unfold intV at h
  cases ha : Lib.atoiAll a0.data.toList with
  | ok v =>
   rw [ha] at h
   refine (impl_ParseInt.good a0 w htN hs v ha (atoi_range _ _ ha)).mono fun e w' ⟨he, hb⟩ => ⟨?_, hb⟩
   rw [he]
   dsimp only at h
   split at h <;> rename_i c
   ·
    split at h <;> rename_i d
    ·
     obtain ⟨rfl, rfl⟩ := Prod.mk.inj h
     rw [if_pos c, if_pos d]
    ·
     obtain ⟨rfl, rfl⟩ := Prod.mk.inj h
     rw [if_pos c, if_neg d]
   ·
    obtain ⟨rfl, rfl⟩ := Prod.mk.inj h
    rw [if_neg c]
  | _ =>
   rw [ha] at h
   obtain ⟨rfl, rfl⟩ := Prod.mk.inj h
   exact impl_ParseInt.bad a0 w htE hs (fun v => by rw [ha]; exact fun h => by cases h)
 ·
  cases h
def impl_readInts.l0 : Nat → List Int → List ByteArray → Int → Int → Option (List Int × Bool)
 | 0, _, _, _, _ => none
 | k + 1, x4, x12, x13, x14 => if x14 < x13 then (if 0 ≤ x14 then (if x14 < (x12.length : Int) then ((impl_ParseInt.f (rdOf ByteArray.empty x12 x14)).bind fun bt240 => (if bt240.2 = true then (if x14 < (x4.length : Int) then (impl_readInts.l0 k (x4.set (x14 : Int).toNat bt240.1) x12 x13 (wrap64 (x14 + 1))) else (none)) else (some (([] : List Int), false)))) else (none)) else (none)) else (some (x4, true))
def impl_readInts.f (k : Nat) (l0 : List ByteArray) : Option (List Int × Bool) := if 0 ≤ (l0.length : Int) then (if ((l0.length : Int) : Int).toNat ≤ 35184372088832 then (impl_readInts.l0 k (List.replicate ((l0.length : Int) : Int).toNat 0) l0 (l0.length : Int) 0) else (none)) else (none)
theorem impl_readInts.mono_l : ∀ k, (∀ y0 y1 y2 y3, LeO (impl_readInts.l0 k y0 y1 y2 y3) (impl_readInts.l0 (k + 1) y0 y1 y2 y3))
 | 0 => fun _ _ _ _ r h => by simp [impl_readInts.l0] at h
 | k + 1 => by
  have ih0 := impl_readInts.mono_l k
  ·
   intro y0 y1 y2 y3
   unfold impl_readInts.l0
   repeat' first
   | (with_reducible exact ih0 _ _ _ _)
   | (with_reducible exact LeO.refl _)
   | (with_reducible exact LeO.none _)
   | (with_reducible refine LeO.ite ?_ ?_)
   | (with_reducible refine LeO.bind ?_ (fun _ => ?_))
   | exact ih0 _ _ _ _
   | exact LeO.none _
   | refine LeO.ite ?_ ?_
   | refine LeO.bind ?_ (fun _ => ?_)
theorem impl_readInts.mono : ∀ a0 k, LeO (impl_readInts.f k a0) (impl_readInts.f (k + 1) a0) := by
 intro a0 k
 have ih0 := impl_readInts.mono_l k
 unfold impl_readInts.f
 repeat' first
   | (with_reducible exact ih0 _ _ _ _)
   | (with_reducible exact LeO.refl _)
   | (with_reducible exact LeO.none _)
   | (with_reducible refine LeO.ite ?_ ?_)
   | (with_reducible refine LeO.bind ?_ (fun _ => ?_))
   | exact ih0 _ _ _ _
   | exact LeO.none _
   | refine LeO.ite ?_ ?_
   | refine LeO.bind ?_ (fun _ => ?_)
set_option maxHeartbeats 8000000 in
set_option maxRecDepth 100000 in
theorem impl_readInts.calls (k : Nat) (A0 : Option Addr) (c0 : Nat) (l0 : List ByteArray) (r1 : List Int) (r2 : Bool) (w : World) (htE : TabE w) (htN : TabN w) (hr0 : Kd.C Kd.string w A0 l0.length l0) (hc0 : l0.length ≤ c0) (h : impl_readInts.f k l0 = some (r1, r2)) :
  Calls Tryz.prog 28 #[.slice A0 l0.length c0] w fun e w' => ∃ v0_ : Value, e = .returned (.tuple #[v0_, .bool r2]) ∧ Kd.R (Kd.int .i64) 3 w' w.heap.size (fun _ => True) v0_ r1 ∧ Below w.heap.size w w' := by
 have HTE := zm htE
 clear htE
 have HTN := zm htN
 clear htN
 have HR0 := zm hr0
 have HC0 := zm hc0
 clear hr0 hc0
 have HB := zm (Below.refl w.heap.size w)
 have H : (if 0 ≤ (l0.length : Int) then (if ((l0.length : Int) : Int).toNat ≤ 35184372088832 then (impl_readInts.l0 k (List.replicate ((l0.length : Int) : Int).toNat 0) l0 (l0.length : Int) 0) else (none)) else (none)) = some (r1, r2) := h
 clear h
 by_cases c2 : 0 ≤ (l0.length : Int)
 case neg =>
  rw [if_neg c2] at H
  exact absurd H (by simp)
 rw [if_pos c2] at H
 have c2b0 := eq_true c2
 have c2b1 : decide (0 ≤ (l0.length : Int)) = true := decide_eq_true c2
 clear c2
 by_cases c3 : ((l0.length : Int) : Int).toNat ≤ 35184372088832
 case neg =>
  rw [if_neg c3] at H
  exact absurd H (by simp)
 rw [if_pos c3] at H
 have c3b0 := eq_true c3
 have c3b1 : decide (((l0.length : Int) : Int).toNat ≤ 35184372088832) = true := decide_eq_true c3
 clear c3
 obtain ⟨y236, hy236⟩ : ∃ y_ : List Int, y_ = (List.replicate ((l0.length : Int) : Int).toNat 0) := ⟨_, rfl⟩
 replace H : (impl_readInts.l0 k y236 l0 (l0.length : Int) 0) = some (r1, r2) := zqH hy236 H
 have Ny236 := zm hy236
 clear hy236
 have H' := zm H
 clear H
 go_enter Tryz.func28, Tryz.ntmps28
 go_wp2_with (first | ((with_reducible refine gate_dst (N := 11) rfl ?_); refine Kd.R_make (Kd.int .i64) _ 3 rfl (N := 11) rfl 51 _ _ rfl (l0.length : Int) rfl rfl Tryz.underlying51 (.int .i64 0) 8 info3 rfl (by decide) (by omega) 0 (ok := fun _ => True) (okp := fun _ => True) rfl (fun _ hk => hk) trivial (of_decide_eq_true zq8) (Nat.le_trans (Nat.mul_le_mul_right _ (of_decide_eq_true zq8 : (l0.length : Int).toNat ≤ 35184372088832)) (by omega)) (Below.refl _ _) (Nat.le_refl _) ?_; intro v237 w4 ho5 hb hg_ hnew_; clear hg_ hnew_; (first | rw [← Ny236.out] at ho5 | (simp only [Int.reduceToNat] at ho5; rw [← Ny236.out] at ho5)); have HO238 := zm (Kd.R_lower ho5 (below_size zq0)); replace HB := zm (below_step zq0 hb); clear hb ho5))
 go_loopg [14] k (fun kq v14 w' => ∃ (x4_1 : List Int) (x14_1 : Int), v14 = .int .i64 x14_1 ∧ Aside0 (impl_readInts.l0 kq x4_1 l0 (l0.length : Int) x14_1 = some (r1, r2)) ∧ Aside0 (kq ≤ k) ∧ Aside0 (Kd.R (Kd.int .i64) 3 w' w.heap.size (fun _ => True) v237 x4_1) ∧ Aside0 (Below w.heap.size w w'))
 case atStart => exact ⟨(y236), (0), (by first | rfl | (simp; done) | (simp [*]; done)), H', ⟨Nat.le_refl _⟩, ⟨zqR HO238.out⟩, ⟨zq0⟩⟩
 clear H'
 try clear c2
 try clear c2b0
 try clear c2b1
 try clear p2
 try clear c3
 try clear c3b0
 try clear c3b1
 obtain ⟨x4_1, x14_1, rfl, HA, HK1, HO_4, HB⟩ := hrel
 cases gk with
 | zero => exact absurd HA.out (by simp [impl_readInts.l0])
 | succ k1 =>
  have H := HA.out
  clear HA
  simp only [impl_readInts.l0] at H
  by_cases c6 : x14_1 < (l0.length : Int)
  case neg =>
   rw [if_neg c6] at H
   have c6b0 : decide (x14_1 < (l0.length : Int)) = false := decide_eq_false c6
   clear c6
   simp only [Option.some.injEq, Prod.mk.injEq] at H
   obtain ⟨rfl, rfl⟩ := H
   go_wp2
   go_ret2
   exact ⟨_, by first | rfl | (simp [errW_none, errW_some] <;> rfl) | (simp [*, errW_none, errW_some] <;> rfl), zqR HO_4.out, zq0⟩
  rw [if_pos c6] at H
  have c6b0 : decide (x14_1 < (l0.length : Int)) = true := decide_eq_true c6
  clear c6
  by_cases c7 : 0 ≤ x14_1
  case neg =>
   rw [if_neg c7] at H
   exact absurd H (by simp)
  rw [if_pos c7] at H
  have c7b0 : decide (0 ≤ x14_1) = true := decide_eq_true c7
  clear c7
  by_cases c8 : x14_1 < (l0.length : Int)
  case neg =>
   rw [if_neg c8] at H
   exact absurd H (by simp)
  rw [if_pos c8] at H
  have c8b0 : decide (x14_1 < (l0.length : Int)) = true := decide_eq_true c8
  clear c8
  obtain ⟨⟨t240, t241⟩, A90, H⟩ := zob H
  replace H : (if t241 = true then (if x14_1 < (x4_1.length : Int) then (impl_readInts.l0 k1 (x4_1.set (x14_1 : Int).toNat t240) l0 (l0.length : Int) (wrap64 (x14_1 + 1))) else (none)) else (some (([] : List Int), false))) = some (r1, r2) := H
  have A9 := zm A90
  clear A90
  by_cases c10 : t241 = true
  case neg =>
   replace c10 := Bool.eq_false_iff.mpr c10
   subst c10
   have H1 : (some (([] : List Int), false)) = some (r1, r2) := by rw [if_neg (show ¬ (false = true) by decide)] at H; exact H
   clear H
   have H := H1
   clear H1
   simp only [Option.some.injEq, Prod.mk.injEq] at H
   obtain ⟨rfl, rfl⟩ := H
   have p239 : 0 ≤ (x14_1 : Int) := of_decide_eq_true zq8
   have q239 : x14_1 < (l0.length : Int) := of_decide_eq_true zq8
   obtain ⟨ad239, e239, hx239_0⟩ := Kd.at_string HR0.out x14_1 p239 q239
   cases e239
   replace hx239_0 := bx HB.out hx239_0
   replace p239 := eq_true p239
   replace q239 := eq_true q239
   go_wp2_with (first | ((with_reducible refine gate_callee (f := 56) rfl ?_); refine goesL_ (some 21) rfl rfl Tryz.func56 (by kernel_rfl) rfl #[.string (rdOf ByteArray.empty l0 x14_1)] rfl zq1 ?_; (with_reducible refine (impl_ParseInt.calls (rdOf ByteArray.empty l0 x14_1) t240 false _ (HTE.out.below zq0) (HTN.out.below zq0) A9.out).mono ?_); rintro e w16 ⟨rfl, hb⟩; refine ⟨_, rfl, ?_⟩; replace HO_4 := zm (Kd.R_below (zqR HO_4.out) hb); replace HB := zm (below_step zq0 hb); (try clear hb); (try clear hb2); (try clear hk); (try clear hi)))
   go_ret2
   exact ⟨_, by first | rfl | (simp [errW_none, errW_some] <;> rfl) | (simp [*, errW_none, errW_some] <;> rfl), by first | exact Kd.R_nil _ _ _ _ _ | exact Kd.N_nil _ _ _ _ _ | exact Kd.V_nil _ _ _ _ _ | exact Kd.Q_nil _ _ _ _ _ | exact Kd.S_nil _ _ _ _ _, zq0⟩
  subst c10
  have H1 : (if x14_1 < (x4_1.length : Int) then (impl_readInts.l0 k1 (x4_1.set (x14_1 : Int).toNat t240) l0 (l0.length : Int) (wrap64 (x14_1 + 1))) else (none)) = some (r1, r2) := by rw [if_pos rfl] at H; exact H
  clear H
  have H := H1
  clear H1
  by_cases c11 : x14_1 < (x4_1.length : Int)
  case neg =>
   rw [if_neg c11] at H
   exact absurd H (by simp)
  rw [if_pos c11] at H
  have c11b0 : decide (x14_1 < (x4_1.length : Int)) = true := decide_eq_true c11
  clear c11
  obtain ⟨y242, hy242⟩ : ∃ y_ : List Int, y_ = (x4_1.set (x14_1 : Int).toNat t240) := ⟨_, rfl⟩
  replace H : (impl_readInts.l0 k1 y242 l0 (l0.length : Int) (wrap64 (x14_1 + 1))) = some (r1, r2) := zqH hy242 H
  have Ny242 := zm hy242
  clear hy242
  have H' := zm H
  clear H
  have p239 : 0 ≤ (x14_1 : Int) := of_decide_eq_true zq8
  have q239 : x14_1 < (l0.length : Int) := of_decide_eq_true zq8
  obtain ⟨ad239, e239, hx239_0⟩ := Kd.at_string HR0.out x14_1 p239 q239
  cases e239
  replace hx239_0 := bx HB.out hx239_0
  replace p239 := eq_true p239
  replace q239 := eq_true q239
  go_wp2_with (first | ((with_reducible refine gate_callee (f := 56) rfl ?_); refine goesL_ (some 21) rfl rfl Tryz.func56 (by kernel_rfl) rfl #[.string (rdOf ByteArray.empty l0 x14_1)] rfl zq1 ?_; (with_reducible refine (impl_ParseInt.calls (rdOf ByteArray.empty l0 x14_1) t240 true _ (HTE.out.below zq0) (HTN.out.below zq0) A9.out).mono ?_); rintro e w13 ⟨rfl, hb⟩; refine ⟨_, rfl, ?_⟩; replace HO_4 := zm (Kd.R_below (zqR HO_4.out) hb); replace HB := zm (below_step zq0 hb); (try clear hb); (try clear hb2); (try clear hk); (try clear hi); have p12 : 0 ≤ (x14_1 : Int) := of_decide_eq_true zq8; have q12 : (x14_1 : Int) < ((x4_1.length : Int) : Int) := of_decide_eq_true zq8; obtain ⟨go12, co12, eo12, gb12, gl12, cl12, HG12⟩ := Kd.R_form HO_4.out (by omega); (first | cases eo12 | (injection eo12 with ea_ en_ ec_; (first | subst ea_ | (injection ea_ with ea_; subst ea_)); subst ec_; clear en_)); have GB12 := zm gb12; have GG12 := zm HG12; clear gb12 gl12 HG12; obtain ⟨hx12_0, hf12_0⟩ := Kd.R_celln 0 HO_4.out (x14_1 : Int) p12 q12; replace p12 := eq_true p12; replace q12 := eq_true q12; obtain ⟨hy14_, hz14_⟩ := Kd.R_celln 0 HO_4.out (x14_1 : Int) (of_decide_eq_true zq8) (of_decide_eq_true zq8); have HP14 := Kd.R_putg HO_4.out (x14_1 : Int) t240) | ((with_reducible refine gate_store (t := 3) (p := 29) rfl ?_); refine store_event (t := 3) (p := 29) (v := ?vo_w15) (w1 := (w13.setCell ⟨go12, (x14_1 : Int).toNat, none⟩ (.int .i64 t240))) ?hg ?ho ?hn ?hr ?_; (case ho => rfl); (case hg => rfl); (case hn => rfl); (case hr => exact zqS); intro w15 hw; have hg : w13.grownBy w15 (some go12) := (by rw [hw]; exact HP14.2); have hp_ : Kd.R (Kd.int .i64) 3 w15 w.heap.size (fun _ => True) (.slice (some ⟨go12, 0, none⟩) x4_1.length co12) y242 := (by rw [hw, Ny242.out]; exact HP14.1); clear HP14; replace HO_4 := zm (hp_); replace HB := zm ((by rw [hw]; exact below_set (HB.out) GB12.out : Below w.heap.size w w15)); clear hg hw hp_))
  go_roundg k1
  case measure => have := HK1.out; omega
  case rel => exact ⟨(y242), (wrap64 (x14_1 + 1)), (by first | rfl | (simp; done) | (simp [*]; done)), H', ⟨by have := HK1.out; omega⟩, ⟨zqR HO_4.out⟩, ⟨zq0⟩⟩
def wordsAt : Int → Value
 | .ofNat 0 => .slice (some ⟨0, 0, none⟩) 6 6
 | _ => .slice (some ⟨1, 0, none⟩) 4 4
def bytesL (zs : List (List UInt8)) : List ByteArray := zs.map fun z => ⟨z.toArray⟩
def wordsOf : Int → List ByteArray
 | .ofNat 0 => bytesL topicT
 | _ => bytesL levelT
def slices_Index_h.f (a0 : Int) (a1 : ByteArray) : Option Int := some (Lib.idxOfS (wordsOf a0) a1)
theorem bytesL_getD (zs : List (List UInt8)) (j : Nat) : (bytesL zs).getD j ByteArray.empty = wordS zs j := by
 unfold bytesL wordS
 rw [Int.toNat_natCast]
 simp only [List.getD_eq_getElem?_getD, List.getElem?_map]
 cases zs[j]? <;> rfl
theorem slices_Index_h.calls (a0 : Int) (a1 : ByteArray) (r : Int) (w : World) (htL : TabL w) (htO : TabO w) (h : slices_Index_h.f a0 a1 = some r) :
  Calls Tryz.prog 29 #[wordsAt a0, .string a1] w fun e w' => e = .returned (.int .i64 r) ∧ Below w.heap.size w w' := by
 unfold slices_Index_h.f at h
 injection h with h
 subst h
 have hO := Tryz.slices_Index_string 0 0 6 6 (bytesL topicT) a1 w (by decide) (by decide) (fun j hj => by
  rw [bytesL_getD, Nat.zero_add]
  exact strTab_cell htO (by kernel_rfl) (j : Int) (by rw [Int.toNat_natCast]; simpa [bytesL] using hj))
 have hL := Tryz.slices_Index_string 1 0 4 4 (bytesL levelT) a1 w (by decide) (by decide) (fun j hj => by
  rw [bytesL_getD, Nat.zero_add]
  exact strTab_cell htL (by kernel_rfl) (j : Int) (by rw [Int.toNat_natCast]; simpa [bytesL] using hj))
 rw [List.take_of_length_le (by decide)] at hO hL
 have e : wordsAt a0 = .slice (some ⟨0, 0, none⟩) 6 6 ∧ wordsOf a0 = bytesL topicT ∨ wordsAt a0 = .slice (some ⟨1, 0, none⟩) 4 4 ∧ wordsOf a0 = bytesL levelT := by
  match a0 with
  | .ofNat 0 => exact Or.inl ⟨rfl, rfl⟩
  | .ofNat (n + 1) => exact Or.inr ⟨rfl, rfl⟩
  | .negSucc n => exact Or.inr ⟨rfl, rfl⟩
 rcases e with ⟨e1, e2⟩ | ⟨e1, e2⟩
 ·
  rw [e1, e2]
  exact hO.mono fun e w' ⟨he, hw⟩ => by subst hw; exact ⟨he, Below.refl _ _⟩
 ·
  rw [e1, e2]
  exact hL.mono fun e w' ⟨he, hw⟩ => by subst hw; exact ⟨he, Below.refl _ _⟩
theorem slices_Index_h.calls0 (a1 : ByteArray) (r : Int) (w : World) (htL : TabL w) (htO : TabO w) (h : slices_Index_h.f 0 a1 = some r) :
  Calls Tryz.prog 29 #[.slice (some ⟨0, 0, none⟩) 6 6, .string a1] w fun e w' => e = .returned (.int .i64 r) ∧ Below w.heap.size w w' := slices_Index_h.calls 0 a1 r w htL htO h
theorem slices_Index_h.calls1 (a1 : ByteArray) (r : Int) (w : World) (htL : TabL w) (htO : TabO w) (h : slices_Index_h.f 1 a1 = some r) :
  Calls Tryz.prog 29 #[.slice (some ⟨1, 0, none⟩) 4 4, .string a1] w fun e w' => e = .returned (.int .i64 r) ∧ Below w.heap.size w w' := slices_Index_h.calls 1 a1 r w htL htO h
theorem far6 {W : World} {g : Nat} {a : Addr} {v : Value} (h : W.cell? a = some v) (hne : a.block ≠ g) (u0 u1 u2 u3 u4 u5 : Value) : ((((((W.setCell ⟨g, 0, none⟩ u0).setCell ⟨g, 1, none⟩ u1).setCell ⟨g, 2, none⟩ u2).setCell ⟨g, 3, none⟩ u3).setCell ⟨g, 4, none⟩ u4).setCell ⟨g, 5, none⟩ u5).cell? a = some v := by
 rw [cell_far (p := ⟨g, 5, none⟩) hne, cell_far (p := ⟨g, 4, none⟩) hne, cell_far (p := ⟨g, 3, none⟩) hne, cell_far (p := ⟨g, 2, none⟩) hne, cell_far (p := ⟨g, 1, none⟩) hne, cell_far (p := ⟨g, 0, none⟩) hne]
 exact h
end Go.Proofs.YtleadjbfcenofaaGreatDoor.Q
