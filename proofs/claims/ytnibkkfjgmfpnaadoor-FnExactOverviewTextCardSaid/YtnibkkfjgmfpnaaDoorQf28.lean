-- Printed by a program of this session (wip/tools/seatprint.py) that runs over the kit's print.
import Derived.Test.YtnibkkfjgmfpnaaDoorMend
import Derived.Test.YtnibkkfjgmfpnaaDoorQ0
import Derived.Test.YtnibkkfjgmfpnaaDoorQf19
import Derived.Test.YtnibkkfjgmfpnaaDoorQf40
import Derived.Test.YtnibkkfjgmfpnaaDoorQf41
namespace Go.Proofs.YtnibkkfjgmfpnaaDoor.Q
open Go.RowKit Go.Proofs.YtnibkkfjgmfpnaaDoorW.PrintWords Go.Proofs.YtnibkkfjgmfpnaaDoorW.PrintLast Go.Proofs.YtnibkkfjgmfpnaaDoorW.PrintMore
attribute [local go_sem] max2_int min2_int max_two min_two max_three min_three max_four min_four   -- for this text's walks alone
set_option linter.unusedVariables false
set_option linter.unusedSimpArgs false

/-! ### spec_l16Text: function 28 -/
def spec_l16Text.f (k : Nat) (a0_0 : Int) (a0_1 : Int) (a0_2 : Int) (a0_3 : Int) (a0_4 : Int) (a0_5 : Int) : Option (ByteArray) := (spec_l16Levels.f).bind fun t180 => (if 0 ≤ a0_2 then (if a0_2 < (t180.length : Int) then (if (rdOf ByteArray.empty t180 a0_2).size + 12 ≤ 9223372036854775807 then ((spec_l16Topics.f).bind fun t184 => (if 0 ≤ a0_1 then (if a0_1 < (t184.length : Int) then (if ((rdOf ByteArray.empty t180 a0_2) ++ (⟨#[32, 119, 97, 114, 110, 105, 110, 103, 32, 111, 102, 32]⟩ : ByteArray)).size + (rdOf ByteArray.empty t184 a0_1).size ≤ 9223372036854775807 then (if (((rdOf ByteArray.empty t180 a0_2) ++ (⟨#[32, 119, 97, 114, 110, 105, 110, 103, 32, 111, 102, 32]⟩ : ByteArray)) ++ (rdOf ByteArray.empty t184 a0_1)).size + 10 ≤ 9223372036854775807 then ((spec_l1Num.f k a0_3).bind fun t188 => (if ((((rdOf ByteArray.empty t180 a0_2) ++ (⟨#[32, 119, 97, 114, 110, 105, 110, 103, 32, 111, 102, 32]⟩ : ByteArray)) ++ (rdOf ByteArray.empty t184 a0_1)) ++ (⟨#[32, 102, 111, 114, 32, 97, 114, 101, 97, 32]⟩ : ByteArray)).size + t188.size ≤ 9223372036854775807 then (if (((((rdOf ByteArray.empty t180 a0_2) ++ (⟨#[32, 119, 97, 114, 110, 105, 110, 103, 32, 111, 102, 32]⟩ : ByteArray)) ++ (rdOf ByteArray.empty t184 a0_1)) ++ (⟨#[32, 102, 111, 114, 32, 97, 114, 101, 97, 32]⟩ : ByteArray)) ++ t188).size + 6 ≤ 9223372036854775807 then ((spec_l16Hour.f k a0_4).bind fun t189 => (if ((((((rdOf ByteArray.empty t180 a0_2) ++ (⟨#[32, 119, 97, 114, 110, 105, 110, 103, 32, 111, 102, 32]⟩ : ByteArray)) ++ (rdOf ByteArray.empty t184 a0_1)) ++ (⟨#[32, 102, 111, 114, 32, 97, 114, 101, 97, 32]⟩ : ByteArray)) ++ t188) ++ (⟨#[32, 102, 114, 111, 109, 32]⟩ : ByteArray)).size + t189.size ≤ 9223372036854775807 then (if (((((((rdOf ByteArray.empty t180 a0_2) ++ (⟨#[32, 119, 97, 114, 110, 105, 110, 103, 32, 111, 102, 32]⟩ : ByteArray)) ++ (rdOf ByteArray.empty t184 a0_1)) ++ (⟨#[32, 102, 111, 114, 32, 97, 114, 101, 97, 32]⟩ : ByteArray)) ++ t188) ++ (⟨#[32, 102, 114, 111, 109, 32]⟩ : ByteArray)) ++ t189).size + 7 ≤ 9223372036854775807 then ((spec_l16Hour.f k a0_5).bind fun t190 => (if ((((((((rdOf ByteArray.empty t180 a0_2) ++ (⟨#[32, 119, 97, 114, 110, 105, 110, 103, 32, 111, 102, 32]⟩ : ByteArray)) ++ (rdOf ByteArray.empty t184 a0_1)) ++ (⟨#[32, 102, 111, 114, 32, 97, 114, 101, 97, 32]⟩ : ByteArray)) ++ t188) ++ (⟨#[32, 102, 114, 111, 109, 32]⟩ : ByteArray)) ++ t189) ++ (⟨#[32, 117, 110, 116, 105, 108, 32]⟩ : ByteArray)).size + t190.size ≤ 9223372036854775807 then (if (((((((((rdOf ByteArray.empty t180 a0_2) ++ (⟨#[32, 119, 97, 114, 110, 105, 110, 103, 32, 111, 102, 32]⟩ : ByteArray)) ++ (rdOf ByteArray.empty t184 a0_1)) ++ (⟨#[32, 102, 111, 114, 32, 97, 114, 101, 97, 32]⟩ : ByteArray)) ++ t188) ++ (⟨#[32, 102, 114, 111, 109, 32]⟩ : ByteArray)) ++ t189) ++ (⟨#[32, 117, 110, 116, 105, 108, 32]⟩ : ByteArray)) ++ t190).size + 6 ≤ 9223372036854775807 then ((spec_l1Num.f k a0_0).bind fun t191 => (if ((((((((((rdOf ByteArray.empty t180 a0_2) ++ (⟨#[32, 119, 97, 114, 110, 105, 110, 103, 32, 111, 102, 32]⟩ : ByteArray)) ++ (rdOf ByteArray.empty t184 a0_1)) ++ (⟨#[32, 102, 111, 114, 32, 97, 114, 101, 97, 32]⟩ : ByteArray)) ++ t188) ++ (⟨#[32, 102, 114, 111, 109, 32]⟩ : ByteArray)) ++ t189) ++ (⟨#[32, 117, 110, 116, 105, 108, 32]⟩ : ByteArray)) ++ t190) ++ (⟨#[32, 40, 110, 111, 46, 32]⟩ : ByteArray)).size + t191.size ≤ 9223372036854775807 then (if (((((((((((rdOf ByteArray.empty t180 a0_2) ++ (⟨#[32, 119, 97, 114, 110, 105, 110, 103, 32, 111, 102, 32]⟩ : ByteArray)) ++ (rdOf ByteArray.empty t184 a0_1)) ++ (⟨#[32, 102, 111, 114, 32, 97, 114, 101, 97, 32]⟩ : ByteArray)) ++ t188) ++ (⟨#[32, 102, 114, 111, 109, 32]⟩ : ByteArray)) ++ t189) ++ (⟨#[32, 117, 110, 116, 105, 108, 32]⟩ : ByteArray)) ++ t190) ++ (⟨#[32, 40, 110, 111, 46, 32]⟩ : ByteArray)) ++ t191).size + 2 ≤ 9223372036854775807 then (some ((((((((((((rdOf ByteArray.empty t180 a0_2) ++ (⟨#[32, 119, 97, 114, 110, 105, 110, 103, 32, 111, 102, 32]⟩ : ByteArray)) ++ (rdOf ByteArray.empty t184 a0_1)) ++ (⟨#[32, 102, 111, 114, 32, 97, 114, 101, 97, 32]⟩ : ByteArray)) ++ t188) ++ (⟨#[32, 102, 114, 111, 109, 32]⟩ : ByteArray)) ++ t189) ++ (⟨#[32, 117, 110, 116, 105, 108, 32]⟩ : ByteArray)) ++ t190) ++ (⟨#[32, 40, 110, 111, 46, 32]⟩ : ByteArray)) ++ t191) ++ (⟨#[41, 46]⟩ : ByteArray))) else (none)) else (none))) else (none)) else (none))) else (none)) else (none))) else (none)) else (none))) else (none)) else (none)) else (none)) else (none))) else (none)) else (none)) else (none))
theorem spec_l16Text.mono : ∀ a0 a1 a2 a3 a4 a5 k, LeO (spec_l16Text.f k a0 a1 a2 a3 a4 a5) (spec_l16Text.f (k + 1) a0 a1 a2 a3 a4 a5) := by
 intro a0 a1 a2 a3 a4 a5 k
 unfold spec_l16Text.f
 repeat' first
   | (with_reducible exact spec_l16Hour.mono _ _)
   | (with_reducible exact spec_l1Num.mono _ _)
   | (with_reducible exact LeO.refl _)
   | (with_reducible exact LeO.none _)
   | (with_reducible refine LeO.ite ?_ ?_)
   | (with_reducible refine LeO.bind ?_ (fun _ => ?_))
   | exact spec_l16Hour.mono _ _
   | exact spec_l1Num.mono _ _
   | exact LeO.none _
   | refine LeO.ite ?_ ?_
   | refine LeO.bind ?_ (fun _ => ?_)
def spec_l16Text.T1 : Bool × List (List Nat × List Nat) := (true, [([], []), ([], []), ([1], [1]), ([0, 2], [0, 2]), ([3], [3]), ([4], [4]), ([0], []), ([], []), ([7], [7]), ([6, 8], [6, 8]), ([9], [9]), ([5, 10], [5, 10]), ([11], [11]), ([], []), ([13], [13]), ([14, 6], [14]), ([12, 15], [12, 15]), ([16], [16]), ([], []), ([18], [18]), ([19, 15], [19]), ([17, 20], [17, 20]), ([21], [21]), ([], []), ([23], [23]), ([24, 20], [24]), ([22, 25], [22, 25]), ([26], [26]), ([], []), ([28], [28]), ([29, 25], [29]), ([27, 30], [27, 30]), ([31], [31]), ([32, 30, 0, 1, 2, 3, 4, 5, 6, 7, 8, 9, 10, 11, 12, 13, 14, 15, 16, 17, 18, 19, 20, 21, 22, 23, 24, 25, 26, 27, 28, 29, 30, 31, 32], [32])])
def spec_l16Text.B1 : List Nat := [0, 0, 2, 7, 15, 31, 1, 0, 128, 449, 961, 2047, 4095, 0, 8192, 24641, 65535, 131071, 0, 262144, 843841, 2097151, 4194303, 0, 8388608, 27058241, 67108863, 134217727, 0, 268435456, 865919041, 2147483647, 4294967295, 8589934591]
theorem spec_l16Text.tab1 : rtab .any (opsOf Tryd.f28 1) = spec_l16Text.T1 := by kernel_rfl
theorem spec_l16Text.bits1 : waitsOk spec_l16Text.T1.2 spec_l16Text.B1 = true := by kernel_rfl
set_option maxHeartbeats 8000000 in
set_option maxRecDepth 100000 in
theorem spec_l16Text.calls (k : Nat) (a0_0 : Int) (a0_1 : Int) (a0_2 : Int) (a0_3 : Int) (a0_4 : Int) (a0_5 : Int) (r : ByteArray) (w : World) (h : spec_l16Text.f k a0_0 a0_1 a0_2 a0_3 a0_4 a0_5 = some r) :
  Calls Tryd.prog 28 #[.agg #[.int .i64 a0_0, .int .i64 a0_1, .int .i64 a0_2, .int .i64 a0_3, .int .i64 a0_4, .int .i64 a0_5]] w fun e w' => e = .returned (.string r) ∧ Below w.heap.size w w' := by
 have hu42 := Tryd.underlying42
 have HB := Aside0.mk (Below.refl w.heap.size w)
 have H : ((spec_l16Levels.f).bind fun t180 => (if 0 ≤ a0_2 then (if a0_2 < (t180.length : Int) then (if (rdOf ByteArray.empty t180 a0_2).size + 12 ≤ 9223372036854775807 then ((spec_l16Topics.f).bind fun t184 => (if 0 ≤ a0_1 then (if a0_1 < (t184.length : Int) then (if ((rdOf ByteArray.empty t180 a0_2) ++ (⟨#[32, 119, 97, 114, 110, 105, 110, 103, 32, 111, 102, 32]⟩ : ByteArray)).size + (rdOf ByteArray.empty t184 a0_1).size ≤ 9223372036854775807 then (if (((rdOf ByteArray.empty t180 a0_2) ++ (⟨#[32, 119, 97, 114, 110, 105, 110, 103, 32, 111, 102, 32]⟩ : ByteArray)) ++ (rdOf ByteArray.empty t184 a0_1)).size + 10 ≤ 9223372036854775807 then ((spec_l1Num.f k a0_3).bind fun t188 => (if ((((rdOf ByteArray.empty t180 a0_2) ++ (⟨#[32, 119, 97, 114, 110, 105, 110, 103, 32, 111, 102, 32]⟩ : ByteArray)) ++ (rdOf ByteArray.empty t184 a0_1)) ++ (⟨#[32, 102, 111, 114, 32, 97, 114, 101, 97, 32]⟩ : ByteArray)).size + t188.size ≤ 9223372036854775807 then (if (((((rdOf ByteArray.empty t180 a0_2) ++ (⟨#[32, 119, 97, 114, 110, 105, 110, 103, 32, 111, 102, 32]⟩ : ByteArray)) ++ (rdOf ByteArray.empty t184 a0_1)) ++ (⟨#[32, 102, 111, 114, 32, 97, 114, 101, 97, 32]⟩ : ByteArray)) ++ t188).size + 6 ≤ 9223372036854775807 then ((spec_l16Hour.f k a0_4).bind fun t189 => (if ((((((rdOf ByteArray.empty t180 a0_2) ++ (⟨#[32, 119, 97, 114, 110, 105, 110, 103, 32, 111, 102, 32]⟩ : ByteArray)) ++ (rdOf ByteArray.empty t184 a0_1)) ++ (⟨#[32, 102, 111, 114, 32, 97, 114, 101, 97, 32]⟩ : ByteArray)) ++ t188) ++ (⟨#[32, 102, 114, 111, 109, 32]⟩ : ByteArray)).size + t189.size ≤ 9223372036854775807 then (if (((((((rdOf ByteArray.empty t180 a0_2) ++ (⟨#[32, 119, 97, 114, 110, 105, 110, 103, 32, 111, 102, 32]⟩ : ByteArray)) ++ (rdOf ByteArray.empty t184 a0_1)) ++ (⟨#[32, 102, 111, 114, 32, 97, 114, 101, 97, 32]⟩ : ByteArray)) ++ t188) ++ (⟨#[32, 102, 114, 111, 109, 32]⟩ : ByteArray)) ++ t189).size + 7 ≤ 9223372036854775807 then ((spec_l16Hour.f k a0_5).bind fun t190 => (if ((((((((rdOf ByteArray.empty t180 a0_2) ++ (⟨#[32, 119, 97, 114, 110, 105, 110, 103, 32, 111, 102, 32]⟩ : ByteArray)) ++ (rdOf ByteArray.empty t184 a0_1)) ++ (⟨#[32, 102, 111, 114, 32, 97, 114, 101, 97, 32]⟩ : ByteArray)) ++ t188) ++ (⟨#[32, 102, 114, 111, 109, 32]⟩ : ByteArray)) ++ t189) ++ (⟨#[32, 117, 110, 116, 105, 108, 32]⟩ : ByteArray)).size + t190.size ≤ 9223372036854775807 then (if (((((((((rdOf ByteArray.empty t180 a0_2) ++ (⟨#[32, 119, 97, 114, 110, 105, 110, 103, 32, 111, 102, 32]⟩ : ByteArray)) ++ (rdOf ByteArray.empty t184 a0_1)) ++ (⟨#[32, 102, 111, 114, 32, 97, 114, 101, 97, 32]⟩ : ByteArray)) ++ t188) ++ (⟨#[32, 102, 114, 111, 109, 32]⟩ : ByteArray)) ++ t189) ++ (⟨#[32, 117, 110, 116, 105, 108, 32]⟩ : ByteArray)) ++ t190).size + 6 ≤ 9223372036854775807 then ((spec_l1Num.f k a0_0).bind fun t191 => (if ((((((((((rdOf ByteArray.empty t180 a0_2) ++ (⟨#[32, 119, 97, 114, 110, 105, 110, 103, 32, 111, 102, 32]⟩ : ByteArray)) ++ (rdOf ByteArray.empty t184 a0_1)) ++ (⟨#[32, 102, 111, 114, 32, 97, 114, 101, 97, 32]⟩ : ByteArray)) ++ t188) ++ (⟨#[32, 102, 114, 111, 109, 32]⟩ : ByteArray)) ++ t189) ++ (⟨#[32, 117, 110, 116, 105, 108, 32]⟩ : ByteArray)) ++ t190) ++ (⟨#[32, 40, 110, 111, 46, 32]⟩ : ByteArray)).size + t191.size ≤ 9223372036854775807 then (if (((((((((((rdOf ByteArray.empty t180 a0_2) ++ (⟨#[32, 119, 97, 114, 110, 105, 110, 103, 32, 111, 102, 32]⟩ : ByteArray)) ++ (rdOf ByteArray.empty t184 a0_1)) ++ (⟨#[32, 102, 111, 114, 32, 97, 114, 101, 97, 32]⟩ : ByteArray)) ++ t188) ++ (⟨#[32, 102, 114, 111, 109, 32]⟩ : ByteArray)) ++ t189) ++ (⟨#[32, 117, 110, 116, 105, 108, 32]⟩ : ByteArray)) ++ t190) ++ (⟨#[32, 40, 110, 111, 46, 32]⟩ : ByteArray)) ++ t191).size + 2 ≤ 9223372036854775807 then (some ((((((((((((rdOf ByteArray.empty t180 a0_2) ++ (⟨#[32, 119, 97, 114, 110, 105, 110, 103, 32, 111, 102, 32]⟩ : ByteArray)) ++ (rdOf ByteArray.empty t184 a0_1)) ++ (⟨#[32, 102, 111, 114, 32, 97, 114, 101, 97, 32]⟩ : ByteArray)) ++ t188) ++ (⟨#[32, 102, 114, 111, 109, 32]⟩ : ByteArray)) ++ t189) ++ (⟨#[32, 117, 110, 116, 105, 108, 32]⟩ : ByteArray)) ++ t190) ++ (⟨#[32, 40, 110, 111, 46, 32]⟩ : ByteArray)) ++ t191) ++ (⟨#[41, 46]⟩ : ByteArray))) else (none)) else (none))) else (none)) else (none))) else (none)) else (none))) else (none)) else (none))) else (none)) else (none)) else (none)) else (none))) else (none)) else (none)) else (none))) = some r := h
 clear h
 replace H := Option.bind_eq_some_iff.mp H
 obtain ⟨t180, A20, H⟩ := H
 replace H : (if 0 ≤ a0_2 then (if a0_2 < (t180.length : Int) then (if (rdOf ByteArray.empty t180 a0_2).size + 12 ≤ 9223372036854775807 then ((spec_l16Topics.f).bind fun t184 => (if 0 ≤ a0_1 then (if a0_1 < (t184.length : Int) then (if ((rdOf ByteArray.empty t180 a0_2) ++ (⟨#[32, 119, 97, 114, 110, 105, 110, 103, 32, 111, 102, 32]⟩ : ByteArray)).size + (rdOf ByteArray.empty t184 a0_1).size ≤ 9223372036854775807 then (if (((rdOf ByteArray.empty t180 a0_2) ++ (⟨#[32, 119, 97, 114, 110, 105, 110, 103, 32, 111, 102, 32]⟩ : ByteArray)) ++ (rdOf ByteArray.empty t184 a0_1)).size + 10 ≤ 9223372036854775807 then ((spec_l1Num.f k a0_3).bind fun t188 => (if ((((rdOf ByteArray.empty t180 a0_2) ++ (⟨#[32, 119, 97, 114, 110, 105, 110, 103, 32, 111, 102, 32]⟩ : ByteArray)) ++ (rdOf ByteArray.empty t184 a0_1)) ++ (⟨#[32, 102, 111, 114, 32, 97, 114, 101, 97, 32]⟩ : ByteArray)).size + t188.size ≤ 9223372036854775807 then (if (((((rdOf ByteArray.empty t180 a0_2) ++ (⟨#[32, 119, 97, 114, 110, 105, 110, 103, 32, 111, 102, 32]⟩ : ByteArray)) ++ (rdOf ByteArray.empty t184 a0_1)) ++ (⟨#[32, 102, 111, 114, 32, 97, 114, 101, 97, 32]⟩ : ByteArray)) ++ t188).size + 6 ≤ 9223372036854775807 then ((spec_l16Hour.f k a0_4).bind fun t189 => (if ((((((rdOf ByteArray.empty t180 a0_2) ++ (⟨#[32, 119, 97, 114, 110, 105, 110, 103, 32, 111, 102, 32]⟩ : ByteArray)) ++ (rdOf ByteArray.empty t184 a0_1)) ++ (⟨#[32, 102, 111, 114, 32, 97, 114, 101, 97, 32]⟩ : ByteArray)) ++ t188) ++ (⟨#[32, 102, 114, 111, 109, 32]⟩ : ByteArray)).size + t189.size ≤ 9223372036854775807 then (if (((((((rdOf ByteArray.empty t180 a0_2) ++ (⟨#[32, 119, 97, 114, 110, 105, 110, 103, 32, 111, 102, 32]⟩ : ByteArray)) ++ (rdOf ByteArray.empty t184 a0_1)) ++ (⟨#[32, 102, 111, 114, 32, 97, 114, 101, 97, 32]⟩ : ByteArray)) ++ t188) ++ (⟨#[32, 102, 114, 111, 109, 32]⟩ : ByteArray)) ++ t189).size + 7 ≤ 9223372036854775807 then ((spec_l16Hour.f k a0_5).bind fun t190 => (if ((((((((rdOf ByteArray.empty t180 a0_2) ++ (⟨#[32, 119, 97, 114, 110, 105, 110, 103, 32, 111, 102, 32]⟩ : ByteArray)) ++ (rdOf ByteArray.empty t184 a0_1)) ++ (⟨#[32, 102, 111, 114, 32, 97, 114, 101, 97, 32]⟩ : ByteArray)) ++ t188) ++ (⟨#[32, 102, 114, 111, 109, 32]⟩ : ByteArray)) ++ t189) ++ (⟨#[32, 117, 110, 116, 105, 108, 32]⟩ : ByteArray)).size + t190.size ≤ 9223372036854775807 then (if (((((((((rdOf ByteArray.empty t180 a0_2) ++ (⟨#[32, 119, 97, 114, 110, 105, 110, 103, 32, 111, 102, 32]⟩ : ByteArray)) ++ (rdOf ByteArray.empty t184 a0_1)) ++ (⟨#[32, 102, 111, 114, 32, 97, 114, 101, 97, 32]⟩ : ByteArray)) ++ t188) ++ (⟨#[32, 102, 114, 111, 109, 32]⟩ : ByteArray)) ++ t189) ++ (⟨#[32, 117, 110, 116, 105, 108, 32]⟩ : ByteArray)) ++ t190).size + 6 ≤ 9223372036854775807 then ((spec_l1Num.f k a0_0).bind fun t191 => (if ((((((((((rdOf ByteArray.empty t180 a0_2) ++ (⟨#[32, 119, 97, 114, 110, 105, 110, 103, 32, 111, 102, 32]⟩ : ByteArray)) ++ (rdOf ByteArray.empty t184 a0_1)) ++ (⟨#[32, 102, 111, 114, 32, 97, 114, 101, 97, 32]⟩ : ByteArray)) ++ t188) ++ (⟨#[32, 102, 114, 111, 109, 32]⟩ : ByteArray)) ++ t189) ++ (⟨#[32, 117, 110, 116, 105, 108, 32]⟩ : ByteArray)) ++ t190) ++ (⟨#[32, 40, 110, 111, 46, 32]⟩ : ByteArray)).size + t191.size ≤ 9223372036854775807 then (if (((((((((((rdOf ByteArray.empty t180 a0_2) ++ (⟨#[32, 119, 97, 114, 110, 105, 110, 103, 32, 111, 102, 32]⟩ : ByteArray)) ++ (rdOf ByteArray.empty t184 a0_1)) ++ (⟨#[32, 102, 111, 114, 32, 97, 114, 101, 97, 32]⟩ : ByteArray)) ++ t188) ++ (⟨#[32, 102, 114, 111, 109, 32]⟩ : ByteArray)) ++ t189) ++ (⟨#[32, 117, 110, 116, 105, 108, 32]⟩ : ByteArray)) ++ t190) ++ (⟨#[32, 40, 110, 111, 46, 32]⟩ : ByteArray)) ++ t191).size + 2 ≤ 9223372036854775807 then (some ((((((((((((rdOf ByteArray.empty t180 a0_2) ++ (⟨#[32, 119, 97, 114, 110, 105, 110, 103, 32, 111, 102, 32]⟩ : ByteArray)) ++ (rdOf ByteArray.empty t184 a0_1)) ++ (⟨#[32, 102, 111, 114, 32, 97, 114, 101, 97, 32]⟩ : ByteArray)) ++ t188) ++ (⟨#[32, 102, 114, 111, 109, 32]⟩ : ByteArray)) ++ t189) ++ (⟨#[32, 117, 110, 116, 105, 108, 32]⟩ : ByteArray)) ++ t190) ++ (⟨#[32, 40, 110, 111, 46, 32]⟩ : ByteArray)) ++ t191) ++ (⟨#[41, 46]⟩ : ByteArray))) else (none)) else (none))) else (none)) else (none))) else (none)) else (none))) else (none)) else (none))) else (none)) else (none)) else (none)) else (none))) else (none)) else (none)) else (none)) = some r := H
 have A2 := Aside0.mk A20
 clear A20
 by_cases c3 : 0 ≤ a0_2
 ·
  rw [if_pos c3] at H
  have c3b0 : decide (0 ≤ a0_2) = true := decide_eq_true c3
  clear c3
  by_cases c4 : a0_2 < (t180.length : Int)
  ·
   rw [if_pos c4] at H
   have c4b0 : decide (a0_2 < (t180.length : Int)) = true := decide_eq_true c4
   clear c4
   by_cases c5 : (rdOf ByteArray.empty t180 a0_2).size + 12 ≤ 9223372036854775807
   ·
    rw [if_pos c5] at H
    have c5b0 := eq_true c5
    have c5b1 : decide ((rdOf ByteArray.empty t180 a0_2).size + 12 ≤ 9223372036854775807) = true := decide_eq_true c5
    try have c5b2 : (9223372036854775807 < (rdOf ByteArray.empty t180 a0_2).size + 12) = False := eq_false (Nat.not_lt.2 c5)
    replace H := Option.bind_eq_some_iff.mp H
    obtain ⟨t184, A60, H⟩ := H
    replace H : (if 0 ≤ a0_1 then (if a0_1 < (t184.length : Int) then (if ((rdOf ByteArray.empty t180 a0_2) ++ (⟨#[32, 119, 97, 114, 110, 105, 110, 103, 32, 111, 102, 32]⟩ : ByteArray)).size + (rdOf ByteArray.empty t184 a0_1).size ≤ 9223372036854775807 then (if (((rdOf ByteArray.empty t180 a0_2) ++ (⟨#[32, 119, 97, 114, 110, 105, 110, 103, 32, 111, 102, 32]⟩ : ByteArray)) ++ (rdOf ByteArray.empty t184 a0_1)).size + 10 ≤ 9223372036854775807 then ((spec_l1Num.f k a0_3).bind fun t188 => (if ((((rdOf ByteArray.empty t180 a0_2) ++ (⟨#[32, 119, 97, 114, 110, 105, 110, 103, 32, 111, 102, 32]⟩ : ByteArray)) ++ (rdOf ByteArray.empty t184 a0_1)) ++ (⟨#[32, 102, 111, 114, 32, 97, 114, 101, 97, 32]⟩ : ByteArray)).size + t188.size ≤ 9223372036854775807 then (if (((((rdOf ByteArray.empty t180 a0_2) ++ (⟨#[32, 119, 97, 114, 110, 105, 110, 103, 32, 111, 102, 32]⟩ : ByteArray)) ++ (rdOf ByteArray.empty t184 a0_1)) ++ (⟨#[32, 102, 111, 114, 32, 97, 114, 101, 97, 32]⟩ : ByteArray)) ++ t188).size + 6 ≤ 9223372036854775807 then ((spec_l16Hour.f k a0_4).bind fun t189 => (if ((((((rdOf ByteArray.empty t180 a0_2) ++ (⟨#[32, 119, 97, 114, 110, 105, 110, 103, 32, 111, 102, 32]⟩ : ByteArray)) ++ (rdOf ByteArray.empty t184 a0_1)) ++ (⟨#[32, 102, 111, 114, 32, 97, 114, 101, 97, 32]⟩ : ByteArray)) ++ t188) ++ (⟨#[32, 102, 114, 111, 109, 32]⟩ : ByteArray)).size + t189.size ≤ 9223372036854775807 then (if (((((((rdOf ByteArray.empty t180 a0_2) ++ (⟨#[32, 119, 97, 114, 110, 105, 110, 103, 32, 111, 102, 32]⟩ : ByteArray)) ++ (rdOf ByteArray.empty t184 a0_1)) ++ (⟨#[32, 102, 111, 114, 32, 97, 114, 101, 97, 32]⟩ : ByteArray)) ++ t188) ++ (⟨#[32, 102, 114, 111, 109, 32]⟩ : ByteArray)) ++ t189).size + 7 ≤ 9223372036854775807 then ((spec_l16Hour.f k a0_5).bind fun t190 => (if ((((((((rdOf ByteArray.empty t180 a0_2) ++ (⟨#[32, 119, 97, 114, 110, 105, 110, 103, 32, 111, 102, 32]⟩ : ByteArray)) ++ (rdOf ByteArray.empty t184 a0_1)) ++ (⟨#[32, 102, 111, 114, 32, 97, 114, 101, 97, 32]⟩ : ByteArray)) ++ t188) ++ (⟨#[32, 102, 114, 111, 109, 32]⟩ : ByteArray)) ++ t189) ++ (⟨#[32, 117, 110, 116, 105, 108, 32]⟩ : ByteArray)).size + t190.size ≤ 9223372036854775807 then (if (((((((((rdOf ByteArray.empty t180 a0_2) ++ (⟨#[32, 119, 97, 114, 110, 105, 110, 103, 32, 111, 102, 32]⟩ : ByteArray)) ++ (rdOf ByteArray.empty t184 a0_1)) ++ (⟨#[32, 102, 111, 114, 32, 97, 114, 101, 97, 32]⟩ : ByteArray)) ++ t188) ++ (⟨#[32, 102, 114, 111, 109, 32]⟩ : ByteArray)) ++ t189) ++ (⟨#[32, 117, 110, 116, 105, 108, 32]⟩ : ByteArray)) ++ t190).size + 6 ≤ 9223372036854775807 then ((spec_l1Num.f k a0_0).bind fun t191 => (if ((((((((((rdOf ByteArray.empty t180 a0_2) ++ (⟨#[32, 119, 97, 114, 110, 105, 110, 103, 32, 111, 102, 32]⟩ : ByteArray)) ++ (rdOf ByteArray.empty t184 a0_1)) ++ (⟨#[32, 102, 111, 114, 32, 97, 114, 101, 97, 32]⟩ : ByteArray)) ++ t188) ++ (⟨#[32, 102, 114, 111, 109, 32]⟩ : ByteArray)) ++ t189) ++ (⟨#[32, 117, 110, 116, 105, 108, 32]⟩ : ByteArray)) ++ t190) ++ (⟨#[32, 40, 110, 111, 46, 32]⟩ : ByteArray)).size + t191.size ≤ 9223372036854775807 then (if (((((((((((rdOf ByteArray.empty t180 a0_2) ++ (⟨#[32, 119, 97, 114, 110, 105, 110, 103, 32, 111, 102, 32]⟩ : ByteArray)) ++ (rdOf ByteArray.empty t184 a0_1)) ++ (⟨#[32, 102, 111, 114, 32, 97, 114, 101, 97, 32]⟩ : ByteArray)) ++ t188) ++ (⟨#[32, 102, 114, 111, 109, 32]⟩ : ByteArray)) ++ t189) ++ (⟨#[32, 117, 110, 116, 105, 108, 32]⟩ : ByteArray)) ++ t190) ++ (⟨#[32, 40, 110, 111, 46, 32]⟩ : ByteArray)) ++ t191).size + 2 ≤ 9223372036854775807 then (some ((((((((((((rdOf ByteArray.empty t180 a0_2) ++ (⟨#[32, 119, 97, 114, 110, 105, 110, 103, 32, 111, 102, 32]⟩ : ByteArray)) ++ (rdOf ByteArray.empty t184 a0_1)) ++ (⟨#[32, 102, 111, 114, 32, 97, 114, 101, 97, 32]⟩ : ByteArray)) ++ t188) ++ (⟨#[32, 102, 114, 111, 109, 32]⟩ : ByteArray)) ++ t189) ++ (⟨#[32, 117, 110, 116, 105, 108, 32]⟩ : ByteArray)) ++ t190) ++ (⟨#[32, 40, 110, 111, 46, 32]⟩ : ByteArray)) ++ t191) ++ (⟨#[41, 46]⟩ : ByteArray))) else (none)) else (none))) else (none)) else (none))) else (none)) else (none))) else (none)) else (none))) else (none)) else (none)) else (none)) else (none)) = some r := H
    have A6 := Aside0.mk A60
    clear A60
    by_cases c7 : 0 ≤ a0_1
    ·
     rw [if_pos c7] at H
     have c7b0 : decide (0 ≤ a0_1) = true := decide_eq_true c7
     clear c7
     by_cases c8 : a0_1 < (t184.length : Int)
     ·
      rw [if_pos c8] at H
      have c8b0 : decide (a0_1 < (t184.length : Int)) = true := decide_eq_true c8
      clear c8
      by_cases c9 : ((rdOf ByteArray.empty t180 a0_2) ++ (⟨#[32, 119, 97, 114, 110, 105, 110, 103, 32, 111, 102, 32]⟩ : ByteArray)).size + (rdOf ByteArray.empty t184 a0_1).size ≤ 9223372036854775807
      ·
       rw [if_pos c9] at H
       have c9b0 := eq_true c9
       have c9b1 : decide (((rdOf ByteArray.empty t180 a0_2) ++ (⟨#[32, 119, 97, 114, 110, 105, 110, 103, 32, 111, 102, 32]⟩ : ByteArray)).size + (rdOf ByteArray.empty t184 a0_1).size ≤ 9223372036854775807) = true := decide_eq_true c9
       try have c9b2 : (9223372036854775807 < ((rdOf ByteArray.empty t180 a0_2) ++ (⟨#[32, 119, 97, 114, 110, 105, 110, 103, 32, 111, 102, 32]⟩ : ByteArray)).size + (rdOf ByteArray.empty t184 a0_1).size) = False := eq_false (Nat.not_lt.2 c9)
       try have c9b3 : (9223372036854775807 < (rdOf ByteArray.empty t180 a0_2).size + 12 + (rdOf ByteArray.empty t184 a0_1).size) = False := eq_false (Nat.not_lt.2 (by have q_ := c9; simp only [ByteArray.size_append] at q_; exact q_))
       by_cases c10 : (((rdOf ByteArray.empty t180 a0_2) ++ (⟨#[32, 119, 97, 114, 110, 105, 110, 103, 32, 111, 102, 32]⟩ : ByteArray)) ++ (rdOf ByteArray.empty t184 a0_1)).size + 10 ≤ 9223372036854775807
       ·
        rw [if_pos c10] at H
        have c10b0 := eq_true c10
        have c10b1 : decide ((((rdOf ByteArray.empty t180 a0_2) ++ (⟨#[32, 119, 97, 114, 110, 105, 110, 103, 32, 111, 102, 32]⟩ : ByteArray)) ++ (rdOf ByteArray.empty t184 a0_1)).size + 10 ≤ 9223372036854775807) = true := decide_eq_true c10
        try have c10b2 : (9223372036854775807 < (((rdOf ByteArray.empty t180 a0_2) ++ (⟨#[32, 119, 97, 114, 110, 105, 110, 103, 32, 111, 102, 32]⟩ : ByteArray)) ++ (rdOf ByteArray.empty t184 a0_1)).size + 10) = False := eq_false (Nat.not_lt.2 c10)
        try have c10b3 : (9223372036854775807 < (rdOf ByteArray.empty t180 a0_2).size + 12 + (rdOf ByteArray.empty t184 a0_1).size + 10) = False := eq_false (Nat.not_lt.2 (by have q_ := c10; simp only [ByteArray.size_append] at q_; exact q_))
        replace H := Option.bind_eq_some_iff.mp H
        obtain ⟨t188, A110, H⟩ := H
        replace H : (if ((((rdOf ByteArray.empty t180 a0_2) ++ (⟨#[32, 119, 97, 114, 110, 105, 110, 103, 32, 111, 102, 32]⟩ : ByteArray)) ++ (rdOf ByteArray.empty t184 a0_1)) ++ (⟨#[32, 102, 111, 114, 32, 97, 114, 101, 97, 32]⟩ : ByteArray)).size + t188.size ≤ 9223372036854775807 then (if (((((rdOf ByteArray.empty t180 a0_2) ++ (⟨#[32, 119, 97, 114, 110, 105, 110, 103, 32, 111, 102, 32]⟩ : ByteArray)) ++ (rdOf ByteArray.empty t184 a0_1)) ++ (⟨#[32, 102, 111, 114, 32, 97, 114, 101, 97, 32]⟩ : ByteArray)) ++ t188).size + 6 ≤ 9223372036854775807 then ((spec_l16Hour.f k a0_4).bind fun t189 => (if ((((((rdOf ByteArray.empty t180 a0_2) ++ (⟨#[32, 119, 97, 114, 110, 105, 110, 103, 32, 111, 102, 32]⟩ : ByteArray)) ++ (rdOf ByteArray.empty t184 a0_1)) ++ (⟨#[32, 102, 111, 114, 32, 97, 114, 101, 97, 32]⟩ : ByteArray)) ++ t188) ++ (⟨#[32, 102, 114, 111, 109, 32]⟩ : ByteArray)).size + t189.size ≤ 9223372036854775807 then (if (((((((rdOf ByteArray.empty t180 a0_2) ++ (⟨#[32, 119, 97, 114, 110, 105, 110, 103, 32, 111, 102, 32]⟩ : ByteArray)) ++ (rdOf ByteArray.empty t184 a0_1)) ++ (⟨#[32, 102, 111, 114, 32, 97, 114, 101, 97, 32]⟩ : ByteArray)) ++ t188) ++ (⟨#[32, 102, 114, 111, 109, 32]⟩ : ByteArray)) ++ t189).size + 7 ≤ 9223372036854775807 then ((spec_l16Hour.f k a0_5).bind fun t190 => (if ((((((((rdOf ByteArray.empty t180 a0_2) ++ (⟨#[32, 119, 97, 114, 110, 105, 110, 103, 32, 111, 102, 32]⟩ : ByteArray)) ++ (rdOf ByteArray.empty t184 a0_1)) ++ (⟨#[32, 102, 111, 114, 32, 97, 114, 101, 97, 32]⟩ : ByteArray)) ++ t188) ++ (⟨#[32, 102, 114, 111, 109, 32]⟩ : ByteArray)) ++ t189) ++ (⟨#[32, 117, 110, 116, 105, 108, 32]⟩ : ByteArray)).size + t190.size ≤ 9223372036854775807 then (if (((((((((rdOf ByteArray.empty t180 a0_2) ++ (⟨#[32, 119, 97, 114, 110, 105, 110, 103, 32, 111, 102, 32]⟩ : ByteArray)) ++ (rdOf ByteArray.empty t184 a0_1)) ++ (⟨#[32, 102, 111, 114, 32, 97, 114, 101, 97, 32]⟩ : ByteArray)) ++ t188) ++ (⟨#[32, 102, 114, 111, 109, 32]⟩ : ByteArray)) ++ t189) ++ (⟨#[32, 117, 110, 116, 105, 108, 32]⟩ : ByteArray)) ++ t190).size + 6 ≤ 9223372036854775807 then ((spec_l1Num.f k a0_0).bind fun t191 => (if ((((((((((rdOf ByteArray.empty t180 a0_2) ++ (⟨#[32, 119, 97, 114, 110, 105, 110, 103, 32, 111, 102, 32]⟩ : ByteArray)) ++ (rdOf ByteArray.empty t184 a0_1)) ++ (⟨#[32, 102, 111, 114, 32, 97, 114, 101, 97, 32]⟩ : ByteArray)) ++ t188) ++ (⟨#[32, 102, 114, 111, 109, 32]⟩ : ByteArray)) ++ t189) ++ (⟨#[32, 117, 110, 116, 105, 108, 32]⟩ : ByteArray)) ++ t190) ++ (⟨#[32, 40, 110, 111, 46, 32]⟩ : ByteArray)).size + t191.size ≤ 9223372036854775807 then (if (((((((((((rdOf ByteArray.empty t180 a0_2) ++ (⟨#[32, 119, 97, 114, 110, 105, 110, 103, 32, 111, 102, 32]⟩ : ByteArray)) ++ (rdOf ByteArray.empty t184 a0_1)) ++ (⟨#[32, 102, 111, 114, 32, 97, 114, 101, 97, 32]⟩ : ByteArray)) ++ t188) ++ (⟨#[32, 102, 114, 111, 109, 32]⟩ : ByteArray)) ++ t189) ++ (⟨#[32, 117, 110, 116, 105, 108, 32]⟩ : ByteArray)) ++ t190) ++ (⟨#[32, 40, 110, 111, 46, 32]⟩ : ByteArray)) ++ t191).size + 2 ≤ 9223372036854775807 then (some ((((((((((((rdOf ByteArray.empty t180 a0_2) ++ (⟨#[32, 119, 97, 114, 110, 105, 110, 103, 32, 111, 102, 32]⟩ : ByteArray)) ++ (rdOf ByteArray.empty t184 a0_1)) ++ (⟨#[32, 102, 111, 114, 32, 97, 114, 101, 97, 32]⟩ : ByteArray)) ++ t188) ++ (⟨#[32, 102, 114, 111, 109, 32]⟩ : ByteArray)) ++ t189) ++ (⟨#[32, 117, 110, 116, 105, 108, 32]⟩ : ByteArray)) ++ t190) ++ (⟨#[32, 40, 110, 111, 46, 32]⟩ : ByteArray)) ++ t191) ++ (⟨#[41, 46]⟩ : ByteArray))) else (none)) else (none))) else (none)) else (none))) else (none)) else (none))) else (none)) else (none)) = some r := H
        have A11 := Aside0.mk A110
        clear A110
        by_cases c12 : ((((rdOf ByteArray.empty t180 a0_2) ++ (⟨#[32, 119, 97, 114, 110, 105, 110, 103, 32, 111, 102, 32]⟩ : ByteArray)) ++ (rdOf ByteArray.empty t184 a0_1)) ++ (⟨#[32, 102, 111, 114, 32, 97, 114, 101, 97, 32]⟩ : ByteArray)).size + t188.size ≤ 9223372036854775807
        ·
         rw [if_pos c12] at H
         have c12b0 := eq_true c12
         have c12b1 : decide (((((rdOf ByteArray.empty t180 a0_2) ++ (⟨#[32, 119, 97, 114, 110, 105, 110, 103, 32, 111, 102, 32]⟩ : ByteArray)) ++ (rdOf ByteArray.empty t184 a0_1)) ++ (⟨#[32, 102, 111, 114, 32, 97, 114, 101, 97, 32]⟩ : ByteArray)).size + t188.size ≤ 9223372036854775807) = true := decide_eq_true c12
         try have c12b2 : (9223372036854775807 < ((((rdOf ByteArray.empty t180 a0_2) ++ (⟨#[32, 119, 97, 114, 110, 105, 110, 103, 32, 111, 102, 32]⟩ : ByteArray)) ++ (rdOf ByteArray.empty t184 a0_1)) ++ (⟨#[32, 102, 111, 114, 32, 97, 114, 101, 97, 32]⟩ : ByteArray)).size + t188.size) = False := eq_false (Nat.not_lt.2 c12)
         try have c12b3 : (9223372036854775807 < (rdOf ByteArray.empty t180 a0_2).size + 12 + (rdOf ByteArray.empty t184 a0_1).size + 10 + t188.size) = False := eq_false (Nat.not_lt.2 (by have q_ := c12; simp only [ByteArray.size_append] at q_; exact q_))
         by_cases c13 : (((((rdOf ByteArray.empty t180 a0_2) ++ (⟨#[32, 119, 97, 114, 110, 105, 110, 103, 32, 111, 102, 32]⟩ : ByteArray)) ++ (rdOf ByteArray.empty t184 a0_1)) ++ (⟨#[32, 102, 111, 114, 32, 97, 114, 101, 97, 32]⟩ : ByteArray)) ++ t188).size + 6 ≤ 9223372036854775807
         ·
          rw [if_pos c13] at H
          have c13b0 := eq_true c13
          have c13b1 : decide ((((((rdOf ByteArray.empty t180 a0_2) ++ (⟨#[32, 119, 97, 114, 110, 105, 110, 103, 32, 111, 102, 32]⟩ : ByteArray)) ++ (rdOf ByteArray.empty t184 a0_1)) ++ (⟨#[32, 102, 111, 114, 32, 97, 114, 101, 97, 32]⟩ : ByteArray)) ++ t188).size + 6 ≤ 9223372036854775807) = true := decide_eq_true c13
          try have c13b2 : (9223372036854775807 < (((((rdOf ByteArray.empty t180 a0_2) ++ (⟨#[32, 119, 97, 114, 110, 105, 110, 103, 32, 111, 102, 32]⟩ : ByteArray)) ++ (rdOf ByteArray.empty t184 a0_1)) ++ (⟨#[32, 102, 111, 114, 32, 97, 114, 101, 97, 32]⟩ : ByteArray)) ++ t188).size + 6) = False := eq_false (Nat.not_lt.2 c13)
          try have c13b3 : (9223372036854775807 < (rdOf ByteArray.empty t180 a0_2).size + 12 + (rdOf ByteArray.empty t184 a0_1).size + 10 + t188.size + 6) = False := eq_false (Nat.not_lt.2 (by have q_ := c13; simp only [ByteArray.size_append] at q_; exact q_))
          replace H := Option.bind_eq_some_iff.mp H
          obtain ⟨t189, A140, H⟩ := H
          replace H : (if ((((((rdOf ByteArray.empty t180 a0_2) ++ (⟨#[32, 119, 97, 114, 110, 105, 110, 103, 32, 111, 102, 32]⟩ : ByteArray)) ++ (rdOf ByteArray.empty t184 a0_1)) ++ (⟨#[32, 102, 111, 114, 32, 97, 114, 101, 97, 32]⟩ : ByteArray)) ++ t188) ++ (⟨#[32, 102, 114, 111, 109, 32]⟩ : ByteArray)).size + t189.size ≤ 9223372036854775807 then (if (((((((rdOf ByteArray.empty t180 a0_2) ++ (⟨#[32, 119, 97, 114, 110, 105, 110, 103, 32, 111, 102, 32]⟩ : ByteArray)) ++ (rdOf ByteArray.empty t184 a0_1)) ++ (⟨#[32, 102, 111, 114, 32, 97, 114, 101, 97, 32]⟩ : ByteArray)) ++ t188) ++ (⟨#[32, 102, 114, 111, 109, 32]⟩ : ByteArray)) ++ t189).size + 7 ≤ 9223372036854775807 then ((spec_l16Hour.f k a0_5).bind fun t190 => (if ((((((((rdOf ByteArray.empty t180 a0_2) ++ (⟨#[32, 119, 97, 114, 110, 105, 110, 103, 32, 111, 102, 32]⟩ : ByteArray)) ++ (rdOf ByteArray.empty t184 a0_1)) ++ (⟨#[32, 102, 111, 114, 32, 97, 114, 101, 97, 32]⟩ : ByteArray)) ++ t188) ++ (⟨#[32, 102, 114, 111, 109, 32]⟩ : ByteArray)) ++ t189) ++ (⟨#[32, 117, 110, 116, 105, 108, 32]⟩ : ByteArray)).size + t190.size ≤ 9223372036854775807 then (if (((((((((rdOf ByteArray.empty t180 a0_2) ++ (⟨#[32, 119, 97, 114, 110, 105, 110, 103, 32, 111, 102, 32]⟩ : ByteArray)) ++ (rdOf ByteArray.empty t184 a0_1)) ++ (⟨#[32, 102, 111, 114, 32, 97, 114, 101, 97, 32]⟩ : ByteArray)) ++ t188) ++ (⟨#[32, 102, 114, 111, 109, 32]⟩ : ByteArray)) ++ t189) ++ (⟨#[32, 117, 110, 116, 105, 108, 32]⟩ : ByteArray)) ++ t190).size + 6 ≤ 9223372036854775807 then ((spec_l1Num.f k a0_0).bind fun t191 => (if ((((((((((rdOf ByteArray.empty t180 a0_2) ++ (⟨#[32, 119, 97, 114, 110, 105, 110, 103, 32, 111, 102, 32]⟩ : ByteArray)) ++ (rdOf ByteArray.empty t184 a0_1)) ++ (⟨#[32, 102, 111, 114, 32, 97, 114, 101, 97, 32]⟩ : ByteArray)) ++ t188) ++ (⟨#[32, 102, 114, 111, 109, 32]⟩ : ByteArray)) ++ t189) ++ (⟨#[32, 117, 110, 116, 105, 108, 32]⟩ : ByteArray)) ++ t190) ++ (⟨#[32, 40, 110, 111, 46, 32]⟩ : ByteArray)).size + t191.size ≤ 9223372036854775807 then (if (((((((((((rdOf ByteArray.empty t180 a0_2) ++ (⟨#[32, 119, 97, 114, 110, 105, 110, 103, 32, 111, 102, 32]⟩ : ByteArray)) ++ (rdOf ByteArray.empty t184 a0_1)) ++ (⟨#[32, 102, 111, 114, 32, 97, 114, 101, 97, 32]⟩ : ByteArray)) ++ t188) ++ (⟨#[32, 102, 114, 111, 109, 32]⟩ : ByteArray)) ++ t189) ++ (⟨#[32, 117, 110, 116, 105, 108, 32]⟩ : ByteArray)) ++ t190) ++ (⟨#[32, 40, 110, 111, 46, 32]⟩ : ByteArray)) ++ t191).size + 2 ≤ 9223372036854775807 then (some ((((((((((((rdOf ByteArray.empty t180 a0_2) ++ (⟨#[32, 119, 97, 114, 110, 105, 110, 103, 32, 111, 102, 32]⟩ : ByteArray)) ++ (rdOf ByteArray.empty t184 a0_1)) ++ (⟨#[32, 102, 111, 114, 32, 97, 114, 101, 97, 32]⟩ : ByteArray)) ++ t188) ++ (⟨#[32, 102, 114, 111, 109, 32]⟩ : ByteArray)) ++ t189) ++ (⟨#[32, 117, 110, 116, 105, 108, 32]⟩ : ByteArray)) ++ t190) ++ (⟨#[32, 40, 110, 111, 46, 32]⟩ : ByteArray)) ++ t191) ++ (⟨#[41, 46]⟩ : ByteArray))) else (none)) else (none))) else (none)) else (none))) else (none)) else (none)) = some r := H
          have A14 := Aside0.mk A140
          clear A140
          by_cases c15 : ((((((rdOf ByteArray.empty t180 a0_2) ++ (⟨#[32, 119, 97, 114, 110, 105, 110, 103, 32, 111, 102, 32]⟩ : ByteArray)) ++ (rdOf ByteArray.empty t184 a0_1)) ++ (⟨#[32, 102, 111, 114, 32, 97, 114, 101, 97, 32]⟩ : ByteArray)) ++ t188) ++ (⟨#[32, 102, 114, 111, 109, 32]⟩ : ByteArray)).size + t189.size ≤ 9223372036854775807
          ·
           rw [if_pos c15] at H
           have c15b0 := eq_true c15
           have c15b1 : decide (((((((rdOf ByteArray.empty t180 a0_2) ++ (⟨#[32, 119, 97, 114, 110, 105, 110, 103, 32, 111, 102, 32]⟩ : ByteArray)) ++ (rdOf ByteArray.empty t184 a0_1)) ++ (⟨#[32, 102, 111, 114, 32, 97, 114, 101, 97, 32]⟩ : ByteArray)) ++ t188) ++ (⟨#[32, 102, 114, 111, 109, 32]⟩ : ByteArray)).size + t189.size ≤ 9223372036854775807) = true := decide_eq_true c15
           try have c15b2 : (9223372036854775807 < ((((((rdOf ByteArray.empty t180 a0_2) ++ (⟨#[32, 119, 97, 114, 110, 105, 110, 103, 32, 111, 102, 32]⟩ : ByteArray)) ++ (rdOf ByteArray.empty t184 a0_1)) ++ (⟨#[32, 102, 111, 114, 32, 97, 114, 101, 97, 32]⟩ : ByteArray)) ++ t188) ++ (⟨#[32, 102, 114, 111, 109, 32]⟩ : ByteArray)).size + t189.size) = False := eq_false (Nat.not_lt.2 c15)
           try have c15b3 : (9223372036854775807 < (rdOf ByteArray.empty t180 a0_2).size + 12 + (rdOf ByteArray.empty t184 a0_1).size + 10 + t188.size + 6 + t189.size) = False := eq_false (Nat.not_lt.2 (by have q_ := c15; simp only [ByteArray.size_append] at q_; exact q_))
           by_cases c16 : (((((((rdOf ByteArray.empty t180 a0_2) ++ (⟨#[32, 119, 97, 114, 110, 105, 110, 103, 32, 111, 102, 32]⟩ : ByteArray)) ++ (rdOf ByteArray.empty t184 a0_1)) ++ (⟨#[32, 102, 111, 114, 32, 97, 114, 101, 97, 32]⟩ : ByteArray)) ++ t188) ++ (⟨#[32, 102, 114, 111, 109, 32]⟩ : ByteArray)) ++ t189).size + 7 ≤ 9223372036854775807
           ·
            rw [if_pos c16] at H
            have c16b0 := eq_true c16
            have c16b1 : decide ((((((((rdOf ByteArray.empty t180 a0_2) ++ (⟨#[32, 119, 97, 114, 110, 105, 110, 103, 32, 111, 102, 32]⟩ : ByteArray)) ++ (rdOf ByteArray.empty t184 a0_1)) ++ (⟨#[32, 102, 111, 114, 32, 97, 114, 101, 97, 32]⟩ : ByteArray)) ++ t188) ++ (⟨#[32, 102, 114, 111, 109, 32]⟩ : ByteArray)) ++ t189).size + 7 ≤ 9223372036854775807) = true := decide_eq_true c16
            try have c16b2 : (9223372036854775807 < (((((((rdOf ByteArray.empty t180 a0_2) ++ (⟨#[32, 119, 97, 114, 110, 105, 110, 103, 32, 111, 102, 32]⟩ : ByteArray)) ++ (rdOf ByteArray.empty t184 a0_1)) ++ (⟨#[32, 102, 111, 114, 32, 97, 114, 101, 97, 32]⟩ : ByteArray)) ++ t188) ++ (⟨#[32, 102, 114, 111, 109, 32]⟩ : ByteArray)) ++ t189).size + 7) = False := eq_false (Nat.not_lt.2 c16)
            try have c16b3 : (9223372036854775807 < (rdOf ByteArray.empty t180 a0_2).size + 12 + (rdOf ByteArray.empty t184 a0_1).size + 10 + t188.size + 6 + t189.size + 7) = False := eq_false (Nat.not_lt.2 (by have q_ := c16; simp only [ByteArray.size_append] at q_; exact q_))
            replace H := Option.bind_eq_some_iff.mp H
            obtain ⟨t190, A170, H⟩ := H
            replace H : (if ((((((((rdOf ByteArray.empty t180 a0_2) ++ (⟨#[32, 119, 97, 114, 110, 105, 110, 103, 32, 111, 102, 32]⟩ : ByteArray)) ++ (rdOf ByteArray.empty t184 a0_1)) ++ (⟨#[32, 102, 111, 114, 32, 97, 114, 101, 97, 32]⟩ : ByteArray)) ++ t188) ++ (⟨#[32, 102, 114, 111, 109, 32]⟩ : ByteArray)) ++ t189) ++ (⟨#[32, 117, 110, 116, 105, 108, 32]⟩ : ByteArray)).size + t190.size ≤ 9223372036854775807 then (if (((((((((rdOf ByteArray.empty t180 a0_2) ++ (⟨#[32, 119, 97, 114, 110, 105, 110, 103, 32, 111, 102, 32]⟩ : ByteArray)) ++ (rdOf ByteArray.empty t184 a0_1)) ++ (⟨#[32, 102, 111, 114, 32, 97, 114, 101, 97, 32]⟩ : ByteArray)) ++ t188) ++ (⟨#[32, 102, 114, 111, 109, 32]⟩ : ByteArray)) ++ t189) ++ (⟨#[32, 117, 110, 116, 105, 108, 32]⟩ : ByteArray)) ++ t190).size + 6 ≤ 9223372036854775807 then ((spec_l1Num.f k a0_0).bind fun t191 => (if ((((((((((rdOf ByteArray.empty t180 a0_2) ++ (⟨#[32, 119, 97, 114, 110, 105, 110, 103, 32, 111, 102, 32]⟩ : ByteArray)) ++ (rdOf ByteArray.empty t184 a0_1)) ++ (⟨#[32, 102, 111, 114, 32, 97, 114, 101, 97, 32]⟩ : ByteArray)) ++ t188) ++ (⟨#[32, 102, 114, 111, 109, 32]⟩ : ByteArray)) ++ t189) ++ (⟨#[32, 117, 110, 116, 105, 108, 32]⟩ : ByteArray)) ++ t190) ++ (⟨#[32, 40, 110, 111, 46, 32]⟩ : ByteArray)).size + t191.size ≤ 9223372036854775807 then (if (((((((((((rdOf ByteArray.empty t180 a0_2) ++ (⟨#[32, 119, 97, 114, 110, 105, 110, 103, 32, 111, 102, 32]⟩ : ByteArray)) ++ (rdOf ByteArray.empty t184 a0_1)) ++ (⟨#[32, 102, 111, 114, 32, 97, 114, 101, 97, 32]⟩ : ByteArray)) ++ t188) ++ (⟨#[32, 102, 114, 111, 109, 32]⟩ : ByteArray)) ++ t189) ++ (⟨#[32, 117, 110, 116, 105, 108, 32]⟩ : ByteArray)) ++ t190) ++ (⟨#[32, 40, 110, 111, 46, 32]⟩ : ByteArray)) ++ t191).size + 2 ≤ 9223372036854775807 then (some ((((((((((((rdOf ByteArray.empty t180 a0_2) ++ (⟨#[32, 119, 97, 114, 110, 105, 110, 103, 32, 111, 102, 32]⟩ : ByteArray)) ++ (rdOf ByteArray.empty t184 a0_1)) ++ (⟨#[32, 102, 111, 114, 32, 97, 114, 101, 97, 32]⟩ : ByteArray)) ++ t188) ++ (⟨#[32, 102, 114, 111, 109, 32]⟩ : ByteArray)) ++ t189) ++ (⟨#[32, 117, 110, 116, 105, 108, 32]⟩ : ByteArray)) ++ t190) ++ (⟨#[32, 40, 110, 111, 46, 32]⟩ : ByteArray)) ++ t191) ++ (⟨#[41, 46]⟩ : ByteArray))) else (none)) else (none))) else (none)) else (none)) = some r := H
            have A17 := Aside0.mk A170
            clear A170
            by_cases c18 : ((((((((rdOf ByteArray.empty t180 a0_2) ++ (⟨#[32, 119, 97, 114, 110, 105, 110, 103, 32, 111, 102, 32]⟩ : ByteArray)) ++ (rdOf ByteArray.empty t184 a0_1)) ++ (⟨#[32, 102, 111, 114, 32, 97, 114, 101, 97, 32]⟩ : ByteArray)) ++ t188) ++ (⟨#[32, 102, 114, 111, 109, 32]⟩ : ByteArray)) ++ t189) ++ (⟨#[32, 117, 110, 116, 105, 108, 32]⟩ : ByteArray)).size + t190.size ≤ 9223372036854775807
            ·
             rw [if_pos c18] at H
             have c18b0 := eq_true c18
             have c18b1 : decide (((((((((rdOf ByteArray.empty t180 a0_2) ++ (⟨#[32, 119, 97, 114, 110, 105, 110, 103, 32, 111, 102, 32]⟩ : ByteArray)) ++ (rdOf ByteArray.empty t184 a0_1)) ++ (⟨#[32, 102, 111, 114, 32, 97, 114, 101, 97, 32]⟩ : ByteArray)) ++ t188) ++ (⟨#[32, 102, 114, 111, 109, 32]⟩ : ByteArray)) ++ t189) ++ (⟨#[32, 117, 110, 116, 105, 108, 32]⟩ : ByteArray)).size + t190.size ≤ 9223372036854775807) = true := decide_eq_true c18
             try have c18b2 : (9223372036854775807 < ((((((((rdOf ByteArray.empty t180 a0_2) ++ (⟨#[32, 119, 97, 114, 110, 105, 110, 103, 32, 111, 102, 32]⟩ : ByteArray)) ++ (rdOf ByteArray.empty t184 a0_1)) ++ (⟨#[32, 102, 111, 114, 32, 97, 114, 101, 97, 32]⟩ : ByteArray)) ++ t188) ++ (⟨#[32, 102, 114, 111, 109, 32]⟩ : ByteArray)) ++ t189) ++ (⟨#[32, 117, 110, 116, 105, 108, 32]⟩ : ByteArray)).size + t190.size) = False := eq_false (Nat.not_lt.2 c18)
             try have c18b3 : (9223372036854775807 < (rdOf ByteArray.empty t180 a0_2).size + 12 + (rdOf ByteArray.empty t184 a0_1).size + 10 + t188.size + 6 + t189.size + 7 + t190.size) = False := eq_false (Nat.not_lt.2 (by have q_ := c18; simp only [ByteArray.size_append] at q_; exact q_))
             by_cases c19 : (((((((((rdOf ByteArray.empty t180 a0_2) ++ (⟨#[32, 119, 97, 114, 110, 105, 110, 103, 32, 111, 102, 32]⟩ : ByteArray)) ++ (rdOf ByteArray.empty t184 a0_1)) ++ (⟨#[32, 102, 111, 114, 32, 97, 114, 101, 97, 32]⟩ : ByteArray)) ++ t188) ++ (⟨#[32, 102, 114, 111, 109, 32]⟩ : ByteArray)) ++ t189) ++ (⟨#[32, 117, 110, 116, 105, 108, 32]⟩ : ByteArray)) ++ t190).size + 6 ≤ 9223372036854775807
             ·
              rw [if_pos c19] at H
              have c19b0 := eq_true c19
              have c19b1 : decide ((((((((((rdOf ByteArray.empty t180 a0_2) ++ (⟨#[32, 119, 97, 114, 110, 105, 110, 103, 32, 111, 102, 32]⟩ : ByteArray)) ++ (rdOf ByteArray.empty t184 a0_1)) ++ (⟨#[32, 102, 111, 114, 32, 97, 114, 101, 97, 32]⟩ : ByteArray)) ++ t188) ++ (⟨#[32, 102, 114, 111, 109, 32]⟩ : ByteArray)) ++ t189) ++ (⟨#[32, 117, 110, 116, 105, 108, 32]⟩ : ByteArray)) ++ t190).size + 6 ≤ 9223372036854775807) = true := decide_eq_true c19
              try have c19b2 : (9223372036854775807 < (((((((((rdOf ByteArray.empty t180 a0_2) ++ (⟨#[32, 119, 97, 114, 110, 105, 110, 103, 32, 111, 102, 32]⟩ : ByteArray)) ++ (rdOf ByteArray.empty t184 a0_1)) ++ (⟨#[32, 102, 111, 114, 32, 97, 114, 101, 97, 32]⟩ : ByteArray)) ++ t188) ++ (⟨#[32, 102, 114, 111, 109, 32]⟩ : ByteArray)) ++ t189) ++ (⟨#[32, 117, 110, 116, 105, 108, 32]⟩ : ByteArray)) ++ t190).size + 6) = False := eq_false (Nat.not_lt.2 c19)
              try have c19b3 : (9223372036854775807 < (rdOf ByteArray.empty t180 a0_2).size + 12 + (rdOf ByteArray.empty t184 a0_1).size + 10 + t188.size + 6 + t189.size + 7 + t190.size + 6) = False := eq_false (Nat.not_lt.2 (by have q_ := c19; simp only [ByteArray.size_append] at q_; exact q_))
              replace H := Option.bind_eq_some_iff.mp H
              obtain ⟨t191, A200, H⟩ := H
              replace H : (if ((((((((((rdOf ByteArray.empty t180 a0_2) ++ (⟨#[32, 119, 97, 114, 110, 105, 110, 103, 32, 111, 102, 32]⟩ : ByteArray)) ++ (rdOf ByteArray.empty t184 a0_1)) ++ (⟨#[32, 102, 111, 114, 32, 97, 114, 101, 97, 32]⟩ : ByteArray)) ++ t188) ++ (⟨#[32, 102, 114, 111, 109, 32]⟩ : ByteArray)) ++ t189) ++ (⟨#[32, 117, 110, 116, 105, 108, 32]⟩ : ByteArray)) ++ t190) ++ (⟨#[32, 40, 110, 111, 46, 32]⟩ : ByteArray)).size + t191.size ≤ 9223372036854775807 then (if (((((((((((rdOf ByteArray.empty t180 a0_2) ++ (⟨#[32, 119, 97, 114, 110, 105, 110, 103, 32, 111, 102, 32]⟩ : ByteArray)) ++ (rdOf ByteArray.empty t184 a0_1)) ++ (⟨#[32, 102, 111, 114, 32, 97, 114, 101, 97, 32]⟩ : ByteArray)) ++ t188) ++ (⟨#[32, 102, 114, 111, 109, 32]⟩ : ByteArray)) ++ t189) ++ (⟨#[32, 117, 110, 116, 105, 108, 32]⟩ : ByteArray)) ++ t190) ++ (⟨#[32, 40, 110, 111, 46, 32]⟩ : ByteArray)) ++ t191).size + 2 ≤ 9223372036854775807 then (some ((((((((((((rdOf ByteArray.empty t180 a0_2) ++ (⟨#[32, 119, 97, 114, 110, 105, 110, 103, 32, 111, 102, 32]⟩ : ByteArray)) ++ (rdOf ByteArray.empty t184 a0_1)) ++ (⟨#[32, 102, 111, 114, 32, 97, 114, 101, 97, 32]⟩ : ByteArray)) ++ t188) ++ (⟨#[32, 102, 114, 111, 109, 32]⟩ : ByteArray)) ++ t189) ++ (⟨#[32, 117, 110, 116, 105, 108, 32]⟩ : ByteArray)) ++ t190) ++ (⟨#[32, 40, 110, 111, 46, 32]⟩ : ByteArray)) ++ t191) ++ (⟨#[41, 46]⟩ : ByteArray))) else (none)) else (none)) = some r := H
              have A20 := Aside0.mk A200
              clear A200
              by_cases c21 : ((((((((((rdOf ByteArray.empty t180 a0_2) ++ (⟨#[32, 119, 97, 114, 110, 105, 110, 103, 32, 111, 102, 32]⟩ : ByteArray)) ++ (rdOf ByteArray.empty t184 a0_1)) ++ (⟨#[32, 102, 111, 114, 32, 97, 114, 101, 97, 32]⟩ : ByteArray)) ++ t188) ++ (⟨#[32, 102, 114, 111, 109, 32]⟩ : ByteArray)) ++ t189) ++ (⟨#[32, 117, 110, 116, 105, 108, 32]⟩ : ByteArray)) ++ t190) ++ (⟨#[32, 40, 110, 111, 46, 32]⟩ : ByteArray)).size + t191.size ≤ 9223372036854775807
              ·
               rw [if_pos c21] at H
               have c21b0 := eq_true c21
               have c21b1 : decide (((((((((((rdOf ByteArray.empty t180 a0_2) ++ (⟨#[32, 119, 97, 114, 110, 105, 110, 103, 32, 111, 102, 32]⟩ : ByteArray)) ++ (rdOf ByteArray.empty t184 a0_1)) ++ (⟨#[32, 102, 111, 114, 32, 97, 114, 101, 97, 32]⟩ : ByteArray)) ++ t188) ++ (⟨#[32, 102, 114, 111, 109, 32]⟩ : ByteArray)) ++ t189) ++ (⟨#[32, 117, 110, 116, 105, 108, 32]⟩ : ByteArray)) ++ t190) ++ (⟨#[32, 40, 110, 111, 46, 32]⟩ : ByteArray)).size + t191.size ≤ 9223372036854775807) = true := decide_eq_true c21
               try have c21b2 : (9223372036854775807 < ((((((((((rdOf ByteArray.empty t180 a0_2) ++ (⟨#[32, 119, 97, 114, 110, 105, 110, 103, 32, 111, 102, 32]⟩ : ByteArray)) ++ (rdOf ByteArray.empty t184 a0_1)) ++ (⟨#[32, 102, 111, 114, 32, 97, 114, 101, 97, 32]⟩ : ByteArray)) ++ t188) ++ (⟨#[32, 102, 114, 111, 109, 32]⟩ : ByteArray)) ++ t189) ++ (⟨#[32, 117, 110, 116, 105, 108, 32]⟩ : ByteArray)) ++ t190) ++ (⟨#[32, 40, 110, 111, 46, 32]⟩ : ByteArray)).size + t191.size) = False := eq_false (Nat.not_lt.2 c21)
               try have c21b3 : (9223372036854775807 < (rdOf ByteArray.empty t180 a0_2).size + 12 + (rdOf ByteArray.empty t184 a0_1).size + 10 + t188.size + 6 + t189.size + 7 + t190.size + 6 + t191.size) = False := eq_false (Nat.not_lt.2 (by have q_ := c21; simp only [ByteArray.size_append] at q_; exact q_))
               by_cases c22 : (((((((((((rdOf ByteArray.empty t180 a0_2) ++ (⟨#[32, 119, 97, 114, 110, 105, 110, 103, 32, 111, 102, 32]⟩ : ByteArray)) ++ (rdOf ByteArray.empty t184 a0_1)) ++ (⟨#[32, 102, 111, 114, 32, 97, 114, 101, 97, 32]⟩ : ByteArray)) ++ t188) ++ (⟨#[32, 102, 114, 111, 109, 32]⟩ : ByteArray)) ++ t189) ++ (⟨#[32, 117, 110, 116, 105, 108, 32]⟩ : ByteArray)) ++ t190) ++ (⟨#[32, 40, 110, 111, 46, 32]⟩ : ByteArray)) ++ t191).size + 2 ≤ 9223372036854775807
               ·
                rw [if_pos c22] at H
                have c22b0 := eq_true c22
                have c22b1 : decide ((((((((((((rdOf ByteArray.empty t180 a0_2) ++ (⟨#[32, 119, 97, 114, 110, 105, 110, 103, 32, 111, 102, 32]⟩ : ByteArray)) ++ (rdOf ByteArray.empty t184 a0_1)) ++ (⟨#[32, 102, 111, 114, 32, 97, 114, 101, 97, 32]⟩ : ByteArray)) ++ t188) ++ (⟨#[32, 102, 114, 111, 109, 32]⟩ : ByteArray)) ++ t189) ++ (⟨#[32, 117, 110, 116, 105, 108, 32]⟩ : ByteArray)) ++ t190) ++ (⟨#[32, 40, 110, 111, 46, 32]⟩ : ByteArray)) ++ t191).size + 2 ≤ 9223372036854775807) = true := decide_eq_true c22
                try have c22b2 : (9223372036854775807 < (((((((((((rdOf ByteArray.empty t180 a0_2) ++ (⟨#[32, 119, 97, 114, 110, 105, 110, 103, 32, 111, 102, 32]⟩ : ByteArray)) ++ (rdOf ByteArray.empty t184 a0_1)) ++ (⟨#[32, 102, 111, 114, 32, 97, 114, 101, 97, 32]⟩ : ByteArray)) ++ t188) ++ (⟨#[32, 102, 114, 111, 109, 32]⟩ : ByteArray)) ++ t189) ++ (⟨#[32, 117, 110, 116, 105, 108, 32]⟩ : ByteArray)) ++ t190) ++ (⟨#[32, 40, 110, 111, 46, 32]⟩ : ByteArray)) ++ t191).size + 2) = False := eq_false (Nat.not_lt.2 c22)
                try have c22b3 : (9223372036854775807 < (rdOf ByteArray.empty t180 a0_2).size + 12 + (rdOf ByteArray.empty t184 a0_1).size + 10 + t188.size + 6 + t189.size + 7 + t190.size + 6 + t191.size + 2) = False := eq_false (Nat.not_lt.2 (by have q_ := c22; simp only [ByteArray.size_append] at q_; exact q_))
                obtain rfl := Option.some.inj H
                go_enter Tryd.func28, Tryd.ntmps28
                try go_wp2_with (first | ((with_reducible refine gate_dst (N := 1) rfl ?_); refine box_event ?hg (N := 1) ?hd (cs := #[.int .i64 a0_0, .int .i64 a0_1, .int .i64 a0_2, .int .i64 a0_3, .int .i64 a0_4, .int .i64 a0_5]) (t := 42) ?hr ?_; (case hd => rfl); (case hg => rfl); (case hr => first | (go_simp; done) | (go_simp; rfl)); intro gb179 hg w23 hbox hb; have n0_ := Aside0.mk (below_step (by repeat (first | (with_reducible first | exact HB.out | apply below_alloc | apply pw_below_drewN | apply below_drew1) | exact HB.out)) hb); have n1_ := Aside0.mk (hbox); have n2_ := Aside0.mk ((by rw [hg]; exact (below_size (by repeat (first | (with_reducible first | exact HB.out | apply below_alloc | apply pw_below_drewN | apply below_drew1) | exact HB.out))) : w.heap.size ≤ gb179)); have n3_ := Aside0.mk ((by rw [hg]; exact (below_size (by repeat (first | (with_reducible first | exact HB.out | apply below_alloc | apply pw_below_drewN | apply below_drew1) | exact HB.out))) : w.heap.size ≤ gb179)); clear HB; have HB := n0_; have BK179 := n1_; have GW179 := n2_; have GE179 := n3_; clear n0_ n1_ n2_ n3_; clear hb hbox hg))
                have n0_ := Aside0.mk (blk_drew BK179.out)
                have n1_ := Aside0.mk (below_drew1 HB.out)
                clear BK179
                clear HB
                have BK179 := n0_
                have HB := n1_
                clear n0_ n1_
                refine start_ (n := 34) (S := fun w' => w'.cell? ⟨gb179, 0, none⟩ = some (.int .i64 a0_0) ∧ w'.cell? ⟨gb179, 1, none⟩ = some (.int .i64 a0_1) ∧ w'.cell? ⟨gb179, 2, none⟩ = some (.int .i64 a0_2) ∧ w'.cell? ⟨gb179, 3, none⟩ = some (.int .i64 a0_3) ∧ w'.cell? ⟨gb179, 4, none⟩ = some (.int .i64 a0_4) ∧ w'.cell? ⟨gb179, 5, none⟩ = some (.int .i64 a0_5)) (ds := []) #[false, false, false, false, false, false, false, false, false, false, false, false, false, false, false, false, false, false, false, false, false, false, false, false, false, false, false, false, false, false, false, false, false, false] (by kernel_rfl) rfl rfl ⟨(blk_cell BK179.out 0).trans rfl, (blk_cell BK179.out 1).trans rfl, (blk_cell BK179.out 2).trans rfl, (blk_cell BK179.out 3).trans rfl, (blk_cell BK179.out 4).trans rfl, (blk_cell BK179.out 5).trans rfl⟩ (fun hHeld => ?_); refine with_tabW spec_l16Text.tab1 spec_l16Text.bits1 (fun HT_ HW_ => ?_)
                generalize w23.drew = w24 at BK179 HB hHeld ⊢
                refine pure_ (i := 1) (N := some 4) (v := ?_) (a' := ?_) #[false, true, false, false, false, false, false, false, false, false, false, false, false, false, false, false, false, false, false, false, false, false, false, false, false, false, false, false, false, false, false, false, false, false] rfl rfl (any_of HT_.out (by kernel_rfl)) (fun _ _ _ h => h) (Or.inl ⟨by rfl, ?_⟩) ?_ ?_
                rotate_left
                ·
                 intro w'
                 go_simp
                 with_reducible rfl
                rotate_left
                ·
                 simp only [Act.put, List.setIfInBounds_toArray, List.set_cons_zero, List.set_cons_succ, i64_w, i32_w]
                 rfl
                refine pure_ (i := 7) (N := some 10) (v := ?_) (a' := ?_) #[false, true, false, false, false, false, false, true, false, false, false, false, false, false, false, false, false, false, false, false, false, false, false, false, false, false, false, false, false, false, false, false, false, false] rfl rfl (any_of HT_.out (by kernel_rfl)) (fun _ _ _ h => h) (Or.inl ⟨by rfl, ?_⟩) ?_ ?_
                rotate_left
                ·
                 intro w'
                 go_simp
                 with_reducible rfl
                rotate_left
                ·
                 simp only [Act.put, List.setIfInBounds_toArray, List.set_cons_zero, List.set_cons_succ, i64_w, i32_w]
                 rfl
                refine pure_ (i := 13) (N := some 16) (v := ?_) (a' := ?_) #[false, true, false, false, false, false, false, true, false, false, false, false, false, true, false, false, false, false, false, false, false, false, false, false, false, false, false, false, false, false, false, false, false, false] rfl rfl (any_of HT_.out (by kernel_rfl)) (fun _ _ _ h => h) (Or.inl ⟨by rfl, ?_⟩) ?_ ?_
                rotate_left
                ·
                 intro w'
                 go_simp
                 with_reducible rfl
                rotate_left
                ·
                 simp only [Act.put, List.setIfInBounds_toArray, List.set_cons_zero, List.set_cons_succ, i64_w, i32_w]
                 rfl
                refine pure_ (i := 18) (N := some 21) (v := ?_) (a' := ?_) #[false, true, false, false, false, false, false, true, false, false, false, false, false, true, false, false, false, false, true, false, false, false, false, false, false, false, false, false, false, false, false, false, false, false] rfl rfl (any_of HT_.out (by kernel_rfl)) (fun _ _ _ h => h) (Or.inl ⟨by rfl, ?_⟩) ?_ ?_
                rotate_left
                ·
                 intro w'
                 go_simp
                 with_reducible rfl
                rotate_left
                ·
                 simp only [Act.put, List.setIfInBounds_toArray, List.set_cons_zero, List.set_cons_succ, i64_w, i32_w]
                 rfl
                refine pure_ (i := 23) (N := some 26) (v := ?_) (a' := ?_) #[false, true, false, false, false, false, false, true, false, false, false, false, false, true, false, false, false, false, true, false, false, false, false, true, false, false, false, false, false, false, false, false, false, false] rfl rfl (any_of HT_.out (by kernel_rfl)) (fun _ _ _ h => h) (Or.inl ⟨by rfl, ?_⟩) ?_ ?_
                rotate_left
                ·
                 intro w'
                 go_simp
                 with_reducible rfl
                rotate_left
                ·
                 simp only [Act.put, List.setIfInBounds_toArray, List.set_cons_zero, List.set_cons_succ, i64_w, i32_w]
                 rfl
                refine pure_ (i := 28) (N := some 31) (v := ?_) (a' := ?_) #[false, true, false, false, false, false, false, true, false, false, false, false, false, true, false, false, false, false, true, false, false, false, false, true, false, false, false, false, true, false, false, false, false, false] rfl rfl (any_of HT_.out (by kernel_rfl)) (fun _ _ _ h => h) (Or.inl ⟨by rfl, ?_⟩) ?_ ?_
                rotate_left
                ·
                 intro w'
                 go_simp
                 with_reducible rfl
                rotate_left
                ·
                 simp only [Act.put, List.setIfInBounds_toArray, List.set_cons_zero, List.set_cons_succ, i64_w, i32_w]
                 rfl
                refine take_ (i := 2) (N := some 5) (v := ?_) (a' := ?_) #[false, true, true, false, false, false, false, true, false, false, false, false, false, true, false, false, false, false, true, false, false, false, false, true, false, false, false, false, true, false, false, false, false, false] rfl rfl (take_ofW HT_.out HW_.out (by kernel_rfl)) (fun _ _ _ h => h) (Or.inl ⟨by rfl, ?_⟩) hHeld ?_ ?_
                rotate_left
                ·
                 rintro w' ⟨s0, s1, s2, s3, s4, s5⟩
                 go_simp
                 with_reducible rfl
                rotate_left
                ·
                 simp only [Act.put, List.setIfInBounds_toArray, List.set_cons_zero, List.set_cons_succ, i64_w, i32_w]
                 rfl
                refine take_ (i := 8) (N := some 11) (v := ?_) (a' := ?_) #[false, true, true, false, false, false, false, true, true, false, false, false, false, true, false, false, false, false, true, false, false, false, false, true, false, false, false, false, true, false, false, false, false, false] rfl rfl (take_ofW HT_.out HW_.out (by kernel_rfl)) (fun _ _ _ h => h) (Or.inl ⟨by rfl, ?_⟩) hHeld ?_ ?_
                rotate_left
                ·
                 rintro w' ⟨s0, s1, s2, s3, s4, s5⟩
                 go_simp
                 with_reducible rfl
                rotate_left
                ·
                 simp only [Act.put, List.setIfInBounds_toArray, List.set_cons_zero, List.set_cons_succ, i64_w, i32_w]
                 rfl
                refine take_ (i := 14) (N := some 17) (v := ?_) (a' := ?_) #[false, true, true, false, false, false, false, true, true, false, false, false, false, true, true, false, false, false, true, false, false, false, false, true, false, false, false, false, true, false, false, false, false, false] rfl rfl (take_ofW HT_.out HW_.out (by kernel_rfl)) (fun _ _ _ h => h) (Or.inl ⟨by rfl, ?_⟩) hHeld ?_ ?_
                rotate_left
                ·
                 rintro w' ⟨s0, s1, s2, s3, s4, s5⟩
                 go_simp
                 with_reducible rfl
                rotate_left
                ·
                 simp only [Act.put, List.setIfInBounds_toArray, List.set_cons_zero, List.set_cons_succ, i64_w, i32_w]
                 rfl
                refine take_ (i := 19) (N := some 22) (v := ?_) (a' := ?_) #[false, true, true, false, false, false, false, true, true, false, false, false, false, true, true, false, false, false, true, true, false, false, false, true, false, false, false, false, true, false, false, false, false, false] rfl rfl (take_ofW HT_.out HW_.out (by kernel_rfl)) (fun _ _ _ h => h) (Or.inl ⟨by rfl, ?_⟩) hHeld ?_ ?_
                rotate_left
                ·
                 rintro w' ⟨s0, s1, s2, s3, s4, s5⟩
                 go_simp
                 with_reducible rfl
                rotate_left
                ·
                 simp only [Act.put, List.setIfInBounds_toArray, List.set_cons_zero, List.set_cons_succ, i64_w, i32_w]
                 rfl
                refine take_ (i := 24) (N := some 27) (v := ?_) (a' := ?_) #[false, true, true, false, false, false, false, true, true, false, false, false, false, true, true, false, false, false, true, true, false, false, false, true, true, false, false, false, true, false, false, false, false, false] rfl rfl (take_ofW HT_.out HW_.out (by kernel_rfl)) (fun _ _ _ h => h) (Or.inl ⟨by rfl, ?_⟩) hHeld ?_ ?_
                rotate_left
                ·
                 rintro w' ⟨s0, s1, s2, s3, s4, s5⟩
                 go_simp
                 with_reducible rfl
                rotate_left
                ·
                 simp only [Act.put, List.setIfInBounds_toArray, List.set_cons_zero, List.set_cons_succ, i64_w, i32_w]
                 rfl
                refine take_ (i := 29) (N := some 32) (v := ?_) (a' := ?_) #[false, true, true, false, false, false, false, true, true, false, false, false, false, true, true, false, false, false, true, true, false, false, false, true, true, false, false, false, true, true, false, false, false, false] rfl rfl (take_ofW HT_.out HW_.out (by kernel_rfl)) (fun _ _ _ h => h) (Or.inl ⟨by rfl, ?_⟩) hHeld ?_ ?_
                rotate_left
                ·
                 rintro w' ⟨s0, s1, s2, s3, s4, s5⟩
                 go_simp
                 with_reducible rfl
                rotate_left
                ·
                 simp only [Act.put, List.setIfInBounds_toArray, List.set_cons_zero, List.set_cons_succ, i64_w, i32_w]
                 rfl
                refine one_ (i := 0) (N := some 3) #[true, true, true, false, false, false, false, true, true, false, false, false, false, true, true, false, false, false, true, true, false, false, false, true, true, false, false, false, true, true, false, false, false, false] rfl rfl (one_of HT_.out (by kernel_rfl)) (by decide) (fun K hK => ?_)
                refine goes_ Tryd.func21 (by kernel_rfl) rfl #[] (by rfl) rfl rfl (by (try simp only [List.map_toArray, List.map_cons, List.map_nil]); first | done | rfl | (simp only [List.length_drop, List.length_take]; rfl)) ?_
                with_reducible refine (spec_l16Levels.calls  t180 _ A2.out).mono ?_
                rintro e w25 ⟨v181, rfl, ho0, hb⟩
                refine ⟨_, rfl, ?_⟩
                have n0_ := Aside0.mk (Kd.R_lower ho0 (below_size (by repeat (first | (with_reducible first | exact HB.out | apply below_alloc | apply pw_below_drewN | apply below_drew1 | refine below_set ?_ GE179.out) | exact HB.out))))
                have n1_ := Aside0.mk (blk_below (g := gb179) (o := .cells #[.int .i64 a0_0, .int .i64 a0_1, .int .i64 a0_2, .int .i64 a0_3, .int .i64 a0_4, .int .i64 a0_5] 42 (0, 0)) (by (with_reducible repeat (first | refine blk_drewN ?_ _ | refine blk_drew ?_ | refine blk_alloc ?_ _)); exact BK179.out) hb)
                have n2_ := Aside0.mk (below_step (by repeat (first | (with_reducible first | exact HB.out | apply below_alloc | apply pw_below_drewN | apply below_drew1 | refine below_set ?_ GE179.out) | exact HB.out)) hb)
                clear BK179
                clear HB
                have HO182 := n0_
                have BK179 := n1_
                have HB := n2_
                clear n0_ n1_ n2_
                (try clear hb)
                (try clear hb2)
                (try clear hk)
                (try clear hi)
                (try clear ho0)
                obtain ⟨Ao26, co26, eo26⟩ := Kd.R_slice HO182.out
                (first | subst eo26 | (injection eo26 with f1_ f2_ f3_; have f4_ := f1_.symm; have f5_ := f3_.symm; clear f1_ f2_ f3_; subst f4_; subst f5_))
                have p183 : 0 ≤ (a0_2 : Int) := of_decide_eq_true (by first | (with_reducible assumption) | assumption)
                have q183 : a0_2 < (t180.length : Int) := of_decide_eq_true (by first | (with_reducible assumption) | assumption)
                obtain ⟨ad183, e183, hx183_0⟩ := Kd.at_string (Kd.R_reads' HO182.out).2.2 a0_2 p183 q183
                cases e183
                replace p183 := eq_true p183
                replace q183 := eq_true q183
                refine hK.out _ _ ⟨(blk_cell BK179.out 0).trans rfl, (blk_cell BK179.out 1).trans rfl, (blk_cell BK179.out 2).trans rfl, (blk_cell BK179.out 3).trans rfl, (blk_cell BK179.out 4).trans rfl, (blk_cell BK179.out 5).trans rfl⟩ (fun hHeld => ?_)
                refine more_ (fun w' => w'.cell? ⟨gb179, 0, none⟩ = some (.int .i64 a0_0) ∧ w'.cell? ⟨gb179, 1, none⟩ = some (.int .i64 a0_1) ∧ w'.cell? ⟨gb179, 2, none⟩ = some (.int .i64 a0_2) ∧ w'.cell? ⟨gb179, 3, none⟩ = some (.int .i64 a0_3) ∧ w'.cell? ⟨gb179, 4, none⟩ = some (.int .i64 a0_4) ∧ w'.cell? ⟨gb179, 5, none⟩ = some (.int .i64 a0_5) ∧ w'.cell? (ad183.add (a0_2).toNat) = some (.string (rdOf ByteArray.empty t180 a0_2))) (fun _ h => ⟨h.1, h.2.1, h.2.2.1, h.2.2.2.1, h.2.2.2.2.1, h.2.2.2.2.2.1⟩) ⟨(blk_cell BK179.out 0).trans rfl, (blk_cell BK179.out 1).trans rfl, (blk_cell BK179.out 2).trans rfl, (blk_cell BK179.out 3).trans rfl, (blk_cell BK179.out 4).trans rfl, (blk_cell BK179.out 5).trans rfl, hx183_0⟩ (fun hHeld => ?_)
                clear hK K
                refine norm_ (a' := ?_) ?_ ?_
                rotate_left
                ·
                 show Act.put _ (some 3) _ = _
                 simp only [Act.put, List.setIfInBounds_toArray, List.set_cons_zero, List.set_cons_succ, i64_w, i32_w]
                 rfl
                refine pure_ (i := 3) (N := some 6) (v := ?_) (a' := ?_) #[true, true, true, true, false, false, false, true, true, false, false, false, false, true, true, false, false, false, true, true, false, false, false, true, true, false, false, false, true, true, false, false, false, false] rfl rfl (any_of HT_.out (by kernel_rfl)) (fun _ _ _ h => h) (Or.inl ⟨by rfl, ?_⟩) ?_ ?_
                rotate_left
                ·
                 intro w'
                 go_simp
                 with_reducible rfl
                rotate_left
                ·
                 simp only [Act.put, List.setIfInBounds_toArray, List.set_cons_zero, List.set_cons_succ, i64_w, i32_w]
                 rfl
                refine take_ (i := 4) (N := some 7) (v := ?_) (a' := ?_) #[true, true, true, true, true, false, false, true, true, false, false, false, false, true, true, false, false, false, true, true, false, false, false, true, true, false, false, false, true, true, false, false, false, false] rfl rfl (take_ofW HT_.out HW_.out (by kernel_rfl)) (fun _ _ _ h => h) (Or.inl ⟨by rfl, ?_⟩) hHeld ?_ ?_
                rotate_left
                ·
                 rintro w' ⟨s0, s1, s2, s3, s4, s5, s6⟩
                 go_simp
                 with_reducible rfl
                rotate_left
                ·
                 simp only [Act.put, List.setIfInBounds_toArray, List.set_cons_zero, List.set_cons_succ, i64_w, i32_w]
                 rfl
                refine pure_ (i := 5) (N := some 8) (v := ?_) (a' := ?_) #[true, true, true, true, true, true, false, true, true, false, false, false, false, true, true, false, false, false, true, true, false, false, false, true, true, false, false, false, true, true, false, false, false, false] rfl rfl (any_of HT_.out (by kernel_rfl)) (fun _ _ _ h => h) (Or.inl ⟨by rfl, ?_⟩) ?_ ?_
                rotate_left
                ·
                 intro w'
                 go_simp
                 with_reducible rfl
                rotate_left
                ·
                 simp only [Act.put, List.setIfInBounds_toArray, List.set_cons_zero, List.set_cons_succ, i64_w, i32_w]
                 rfl
                refine one_ (i := 6) (N := some 9) #[true, true, true, true, true, true, true, true, true, false, false, false, false, true, true, false, false, false, true, true, false, false, false, true, true, false, false, false, true, true, false, false, false, false] rfl rfl (one_of HT_.out (by kernel_rfl)) (by decide) (fun K hK => ?_)
                refine goes_ Tryd.func20 (by kernel_rfl) rfl #[] (by rfl) rfl rfl (by (try simp only [List.map_toArray, List.map_cons, List.map_nil]); first | done | rfl | (simp only [List.length_drop, List.length_take]; rfl)) ?_
                with_reducible refine (spec_l16Topics.calls  t184 _ A6.out).mono ?_
                rintro e w27 ⟨v185, rfl, ho0, hb⟩
                have HS6_ := (hb.cell (World.block_lt_of_cell? _ _ (hHeld.2.2.2.2.2.2))).trans (hHeld.2.2.2.2.2.2)
                refine ⟨_, rfl, ?_⟩
                have n0_ := Aside0.mk (Kd.R_elder' (by (with_reducible repeat (first | apply Kd.R_alloc | apply Kd.R_drewN | apply Kd.R_drew)); exact HO182.out) (Kd.R_base ho0) hb)
                have n1_ := Aside0.mk (Kd.R_lower (Kd.R_new' ho0 (Kd.R_lt (by (with_reducible repeat (first | apply Kd.R_alloc | apply Kd.R_drewN | apply Kd.R_drew)); exact HO182.out))) (below_size (by repeat (first | (with_reducible first | exact HB.out | apply below_alloc | apply pw_below_drewN | apply below_drew1 | refine below_set ?_ GE179.out) | exact HB.out))))
                have n2_ := Aside0.mk (blk_below (g := gb179) (o := .cells #[.int .i64 a0_0, .int .i64 a0_1, .int .i64 a0_2, .int .i64 a0_3, .int .i64 a0_4, .int .i64 a0_5] 42 (0, 0)) (by (with_reducible repeat (first | refine blk_drewN ?_ _ | refine blk_drew ?_ | refine blk_alloc ?_ _)); exact BK179.out) hb)
                have n3_ := Aside0.mk (below_step (by repeat (first | (with_reducible first | exact HB.out | apply below_alloc | apply pw_below_drewN | apply below_drew1 | refine below_set ?_ GE179.out) | exact HB.out)) hb)
                clear HO182
                clear BK179
                clear HB
                have HO182 := n0_
                have HO186 := n1_
                have BK179 := n2_
                have HB := n3_
                clear n0_ n1_ n2_ n3_
                (try clear hb)
                (try clear hb2)
                (try clear hk)
                (try clear hi)
                (try clear ho0)
                obtain ⟨Ao28, co28, eo28⟩ := Kd.R_slice HO186.out
                (first | subst eo28 | (injection eo28 with f1_ f2_ f3_; have f4_ := f1_.symm; have f5_ := f3_.symm; clear f1_ f2_ f3_; subst f4_; subst f5_))
                have p187 : 0 ≤ (a0_1 : Int) := of_decide_eq_true (by first | (with_reducible assumption) | assumption)
                have q187 : a0_1 < (t184.length : Int) := of_decide_eq_true (by first | (with_reducible assumption) | assumption)
                obtain ⟨ad187, e187, hx187_0⟩ := Kd.at_string (Kd.R_reads' HO186.out).2.2 a0_1 p187 q187
                cases e187
                replace p187 := eq_true p187
                replace q187 := eq_true q187
                refine hK.out _ _ ⟨(blk_cell BK179.out 0).trans rfl, (blk_cell BK179.out 1).trans rfl, (blk_cell BK179.out 2).trans rfl, (blk_cell BK179.out 3).trans rfl, (blk_cell BK179.out 4).trans rfl, (blk_cell BK179.out 5).trans rfl, HS6_⟩ (fun hHeld => ?_)
                refine more_ (fun w' => w'.cell? ⟨gb179, 0, none⟩ = some (.int .i64 a0_0) ∧ w'.cell? ⟨gb179, 1, none⟩ = some (.int .i64 a0_1) ∧ w'.cell? ⟨gb179, 2, none⟩ = some (.int .i64 a0_2) ∧ w'.cell? ⟨gb179, 3, none⟩ = some (.int .i64 a0_3) ∧ w'.cell? ⟨gb179, 4, none⟩ = some (.int .i64 a0_4) ∧ w'.cell? ⟨gb179, 5, none⟩ = some (.int .i64 a0_5) ∧ w'.cell? (ad183.add (a0_2).toNat) = some (.string (rdOf ByteArray.empty t180 a0_2)) ∧ w'.cell? (ad187.add (a0_1).toNat) = some (.string (rdOf ByteArray.empty t184 a0_1))) (fun _ h => ⟨h.1, h.2.1, h.2.2.1, h.2.2.2.1, h.2.2.2.2.1, h.2.2.2.2.2.1, h.2.2.2.2.2.2.1⟩) ⟨(blk_cell BK179.out 0).trans rfl, (blk_cell BK179.out 1).trans rfl, (blk_cell BK179.out 2).trans rfl, (blk_cell BK179.out 3).trans rfl, (blk_cell BK179.out 4).trans rfl, (blk_cell BK179.out 5).trans rfl, HS6_, hx187_0⟩ (fun hHeld => ?_)
                clear hK K
                refine norm_ (a' := ?_) ?_ ?_
                rotate_left
                ·
                 show Act.put _ (some 9) _ = _
                 simp only [Act.put, List.setIfInBounds_toArray, List.set_cons_zero, List.set_cons_succ, i64_w, i32_w]
                 rfl
                refine pure_ (i := 9) (N := some 12) (v := ?_) (a' := ?_) #[true, true, true, true, true, true, true, true, true, true, false, false, false, true, true, false, false, false, true, true, false, false, false, true, true, false, false, false, true, true, false, false, false, false] rfl rfl (any_of HT_.out (by kernel_rfl)) (fun _ _ _ h => h) (Or.inl ⟨by rfl, ?_⟩) ?_ ?_
                rotate_left
                ·
                 intro w'
                 go_simp
                 with_reducible rfl
                rotate_left
                ·
                 simp only [Act.put, List.setIfInBounds_toArray, List.set_cons_zero, List.set_cons_succ, i64_w, i32_w]
                 rfl
                refine take_ (i := 10) (N := some 13) (v := ?_) (a' := ?_) #[true, true, true, true, true, true, true, true, true, true, true, false, false, true, true, false, false, false, true, true, false, false, false, true, true, false, false, false, true, true, false, false, false, false] rfl rfl (take_ofW HT_.out HW_.out (by kernel_rfl)) (fun _ _ _ h => h) (Or.inl ⟨by rfl, ?_⟩) hHeld ?_ ?_
                rotate_left
                ·
                 rintro w' ⟨s0, s1, s2, s3, s4, s5, s6, s7⟩
                 go_simp
                 with_reducible rfl
                rotate_left
                ·
                 simp only [Act.put, List.setIfInBounds_toArray, List.set_cons_zero, List.set_cons_succ, i64_w, i32_w]
                 rfl
                refine pure_ (i := 11) (N := some 14) (v := ?_) (a' := ?_) #[true, true, true, true, true, true, true, true, true, true, true, true, false, true, true, false, false, false, true, true, false, false, false, true, true, false, false, false, true, true, false, false, false, false] rfl rfl (any_of HT_.out (by kernel_rfl)) (fun _ _ _ h => h) (Or.inl ⟨by rfl, ?_⟩) ?_ ?_
                rotate_left
                ·
                 intro w'
                 go_simp
                 with_reducible rfl
                rotate_left
                ·
                 simp only [Act.put, List.setIfInBounds_toArray, List.set_cons_zero, List.set_cons_succ, i64_w, i32_w]
                 rfl
                refine pure_ (i := 12) (N := some 15) (v := ?_) (a' := ?_) #[true, true, true, true, true, true, true, true, true, true, true, true, true, true, true, false, false, false, true, true, false, false, false, true, true, false, false, false, true, true, false, false, false, false] rfl rfl (any_of HT_.out (by kernel_rfl)) (fun _ _ _ h => h) (Or.inl ⟨by rfl, ?_⟩) ?_ ?_
                rotate_left
                ·
                 intro w'
                 go_simp
                 with_reducible rfl
                rotate_left
                ·
                 simp only [Act.put, List.setIfInBounds_toArray, List.set_cons_zero, List.set_cons_succ, i64_w, i32_w]
                 rfl
                refine one_ (i := 15) (N := some 18) #[true, true, true, true, true, true, true, true, true, true, true, true, true, true, true, true, false, false, true, true, false, false, false, true, true, false, false, false, true, true, false, false, false, false] rfl rfl (one_of HT_.out (by kernel_rfl)) (by decide) (fun K hK => ?_)
                refine goes_ Tryd.func40 (by kernel_rfl) rfl #[.int .i64 a0_3] (by rfl) rfl rfl (by (try simp only [List.map_toArray, List.map_cons, List.map_nil]); first | done | rfl | (simp only [List.length_drop, List.length_take]; rfl)) ?_
                with_reducible refine (spec_l1Num.calls k a0_3 t188 _ A11.out).mono ?_
                rintro e w29 ⟨rfl, hb⟩
                have HS6_ := (hb.cell (World.block_lt_of_cell? _ _ (hHeld.2.2.2.2.2.2.1))).trans (hHeld.2.2.2.2.2.2.1)
                have HS7_ := (hb.cell (World.block_lt_of_cell? _ _ (hHeld.2.2.2.2.2.2.2))).trans (hHeld.2.2.2.2.2.2.2)
                refine ⟨_, rfl, ?_⟩
                have n0_ := Aside0.mk (Kd.R_below (by (with_reducible repeat (first | apply Kd.R_alloc | apply Kd.R_drewN | apply Kd.R_drew)); exact HO182.out) hb)
                have n1_ := Aside0.mk (Kd.R_below (by (with_reducible repeat (first | apply Kd.R_alloc | apply Kd.R_drewN | apply Kd.R_drew)); exact HO186.out) hb)
                have n2_ := Aside0.mk (blk_below (g := gb179) (o := .cells #[.int .i64 a0_0, .int .i64 a0_1, .int .i64 a0_2, .int .i64 a0_3, .int .i64 a0_4, .int .i64 a0_5] 42 (0, 0)) (by (with_reducible repeat (first | refine blk_drewN ?_ _ | refine blk_drew ?_ | refine blk_alloc ?_ _)); exact BK179.out) hb)
                have n3_ := Aside0.mk (below_step (by repeat (first | (with_reducible first | exact HB.out | apply below_alloc | apply pw_below_drewN | apply below_drew1 | refine below_set ?_ GE179.out) | exact HB.out)) hb)
                clear HO182
                clear HO186
                clear BK179
                clear HB
                have HO182 := n0_
                have HO186 := n1_
                have BK179 := n2_
                have HB := n3_
                clear n0_ n1_ n2_ n3_
                (try clear hb)
                (try clear hb2)
                (try clear hk)
                (try clear hi)
                refine hK.out _ _ ⟨(blk_cell BK179.out 0).trans rfl, (blk_cell BK179.out 1).trans rfl, (blk_cell BK179.out 2).trans rfl, (blk_cell BK179.out 3).trans rfl, (blk_cell BK179.out 4).trans rfl, (blk_cell BK179.out 5).trans rfl, HS6_, HS7_⟩ (fun hHeld => ?_)
                clear hK K
                refine norm_ (a' := ?_) ?_ ?_
                rotate_left
                ·
                 show Act.put _ (some 18) _ = _
                 simp only [Act.put, List.setIfInBounds_toArray, List.set_cons_zero, List.set_cons_succ, i64_w, i32_w]
                 rfl
                refine pure_ (i := 16) (N := some 19) (v := ?_) (a' := ?_) #[true, true, true, true, true, true, true, true, true, true, true, true, true, true, true, true, true, false, true, true, false, false, false, true, true, false, false, false, true, true, false, false, false, false] rfl rfl (any_of HT_.out (by kernel_rfl)) (fun _ _ _ h => h) (Or.inl ⟨by rfl, ?_⟩) ?_ ?_
                rotate_left
                ·
                 intro w'
                 go_simp
                 with_reducible rfl
                rotate_left
                ·
                 simp only [Act.put, List.setIfInBounds_toArray, List.set_cons_zero, List.set_cons_succ, i64_w, i32_w]
                 rfl
                refine pure_ (i := 17) (N := some 20) (v := ?_) (a' := ?_) #[true, true, true, true, true, true, true, true, true, true, true, true, true, true, true, true, true, true, true, true, false, false, false, true, true, false, false, false, true, true, false, false, false, false] rfl rfl (any_of HT_.out (by kernel_rfl)) (fun _ _ _ h => h) (Or.inl ⟨by rfl, ?_⟩) ?_ ?_
                rotate_left
                ·
                 intro w'
                 go_simp
                 with_reducible rfl
                rotate_left
                ·
                 simp only [Act.put, List.setIfInBounds_toArray, List.set_cons_zero, List.set_cons_succ, i64_w, i32_w]
                 rfl
                refine one_ (i := 20) (N := some 23) #[true, true, true, true, true, true, true, true, true, true, true, true, true, true, true, true, true, true, true, true, true, false, false, true, true, false, false, false, true, true, false, false, false, false] rfl rfl (one_of HT_.out (by kernel_rfl)) (by decide) (fun K hK => ?_)
                refine goes_ Tryd.func41 (by kernel_rfl) rfl #[.int .i64 a0_4] (by rfl) rfl rfl (by (try simp only [List.map_toArray, List.map_cons, List.map_nil]); first | done | rfl | (simp only [List.length_drop, List.length_take]; rfl)) ?_
                with_reducible refine (spec_l16Hour.calls k a0_4 t189 _ A14.out).mono ?_
                rintro e w30 ⟨rfl, hb⟩
                have HS6_ := (hb.cell (World.block_lt_of_cell? _ _ (hHeld.2.2.2.2.2.2.1))).trans (hHeld.2.2.2.2.2.2.1)
                have HS7_ := (hb.cell (World.block_lt_of_cell? _ _ (hHeld.2.2.2.2.2.2.2))).trans (hHeld.2.2.2.2.2.2.2)
                refine ⟨_, rfl, ?_⟩
                have n0_ := Aside0.mk (Kd.R_below (by (with_reducible repeat (first | apply Kd.R_alloc | apply Kd.R_drewN | apply Kd.R_drew)); exact HO182.out) hb)
                have n1_ := Aside0.mk (Kd.R_below (by (with_reducible repeat (first | apply Kd.R_alloc | apply Kd.R_drewN | apply Kd.R_drew)); exact HO186.out) hb)
                have n2_ := Aside0.mk (blk_below (g := gb179) (o := .cells #[.int .i64 a0_0, .int .i64 a0_1, .int .i64 a0_2, .int .i64 a0_3, .int .i64 a0_4, .int .i64 a0_5] 42 (0, 0)) (by (with_reducible repeat (first | refine blk_drewN ?_ _ | refine blk_drew ?_ | refine blk_alloc ?_ _)); exact BK179.out) hb)
                have n3_ := Aside0.mk (below_step (by repeat (first | (with_reducible first | exact HB.out | apply below_alloc | apply pw_below_drewN | apply below_drew1 | refine below_set ?_ GE179.out) | exact HB.out)) hb)
                clear HO182
                clear HO186
                clear BK179
                clear HB
                have HO182 := n0_
                have HO186 := n1_
                have BK179 := n2_
                have HB := n3_
                clear n0_ n1_ n2_ n3_
                (try clear hb)
                (try clear hb2)
                (try clear hk)
                (try clear hi)
                refine hK.out _ _ ⟨(blk_cell BK179.out 0).trans rfl, (blk_cell BK179.out 1).trans rfl, (blk_cell BK179.out 2).trans rfl, (blk_cell BK179.out 3).trans rfl, (blk_cell BK179.out 4).trans rfl, (blk_cell BK179.out 5).trans rfl, HS6_, HS7_⟩ (fun hHeld => ?_)
                clear hK K
                refine norm_ (a' := ?_) ?_ ?_
                rotate_left
                ·
                 show Act.put _ (some 23) _ = _
                 simp only [Act.put, List.setIfInBounds_toArray, List.set_cons_zero, List.set_cons_succ, i64_w, i32_w]
                 rfl
                refine pure_ (i := 21) (N := some 24) (v := ?_) (a' := ?_) #[true, true, true, true, true, true, true, true, true, true, true, true, true, true, true, true, true, true, true, true, true, true, false, true, true, false, false, false, true, true, false, false, false, false] rfl rfl (any_of HT_.out (by kernel_rfl)) (fun _ _ _ h => h) (Or.inl ⟨by rfl, ?_⟩) ?_ ?_
                rotate_left
                ·
                 intro w'
                 go_simp
                 with_reducible rfl
                rotate_left
                ·
                 simp only [Act.put, List.setIfInBounds_toArray, List.set_cons_zero, List.set_cons_succ, i64_w, i32_w]
                 rfl
                refine pure_ (i := 22) (N := some 25) (v := ?_) (a' := ?_) #[true, true, true, true, true, true, true, true, true, true, true, true, true, true, true, true, true, true, true, true, true, true, true, true, true, false, false, false, true, true, false, false, false, false] rfl rfl (any_of HT_.out (by kernel_rfl)) (fun _ _ _ h => h) (Or.inl ⟨by rfl, ?_⟩) ?_ ?_
                rotate_left
                ·
                 intro w'
                 go_simp
                 with_reducible rfl
                rotate_left
                ·
                 simp only [Act.put, List.setIfInBounds_toArray, List.set_cons_zero, List.set_cons_succ, i64_w, i32_w]
                 rfl
                refine one_ (i := 25) (N := some 28) #[true, true, true, true, true, true, true, true, true, true, true, true, true, true, true, true, true, true, true, true, true, true, true, true, true, true, false, false, true, true, false, false, false, false] rfl rfl (one_of HT_.out (by kernel_rfl)) (by decide) (fun K hK => ?_)
                refine goes_ Tryd.func41 (by kernel_rfl) rfl #[.int .i64 a0_5] (by rfl) rfl rfl (by (try simp only [List.map_toArray, List.map_cons, List.map_nil]); first | done | rfl | (simp only [List.length_drop, List.length_take]; rfl)) ?_
                with_reducible refine (spec_l16Hour.calls k a0_5 t190 _ A17.out).mono ?_
                rintro e w31 ⟨rfl, hb⟩
                have HS6_ := (hb.cell (World.block_lt_of_cell? _ _ (hHeld.2.2.2.2.2.2.1))).trans (hHeld.2.2.2.2.2.2.1)
                have HS7_ := (hb.cell (World.block_lt_of_cell? _ _ (hHeld.2.2.2.2.2.2.2))).trans (hHeld.2.2.2.2.2.2.2)
                refine ⟨_, rfl, ?_⟩
                have n0_ := Aside0.mk (Kd.R_below (by (with_reducible repeat (first | apply Kd.R_alloc | apply Kd.R_drewN | apply Kd.R_drew)); exact HO182.out) hb)
                have n1_ := Aside0.mk (Kd.R_below (by (with_reducible repeat (first | apply Kd.R_alloc | apply Kd.R_drewN | apply Kd.R_drew)); exact HO186.out) hb)
                have n2_ := Aside0.mk (blk_below (g := gb179) (o := .cells #[.int .i64 a0_0, .int .i64 a0_1, .int .i64 a0_2, .int .i64 a0_3, .int .i64 a0_4, .int .i64 a0_5] 42 (0, 0)) (by (with_reducible repeat (first | refine blk_drewN ?_ _ | refine blk_drew ?_ | refine blk_alloc ?_ _)); exact BK179.out) hb)
                have n3_ := Aside0.mk (below_step (by repeat (first | (with_reducible first | exact HB.out | apply below_alloc | apply pw_below_drewN | apply below_drew1 | refine below_set ?_ GE179.out) | exact HB.out)) hb)
                clear HO182
                clear HO186
                clear BK179
                clear HB
                have HO182 := n0_
                have HO186 := n1_
                have BK179 := n2_
                have HB := n3_
                clear n0_ n1_ n2_ n3_
                (try clear hb)
                (try clear hb2)
                (try clear hk)
                (try clear hi)
                refine hK.out _ _ ⟨(blk_cell BK179.out 0).trans rfl, (blk_cell BK179.out 1).trans rfl, (blk_cell BK179.out 2).trans rfl, (blk_cell BK179.out 3).trans rfl, (blk_cell BK179.out 4).trans rfl, (blk_cell BK179.out 5).trans rfl, HS6_, HS7_⟩ (fun hHeld => ?_)
                clear hK K
                refine norm_ (a' := ?_) ?_ ?_
                rotate_left
                ·
                 show Act.put _ (some 28) _ = _
                 simp only [Act.put, List.setIfInBounds_toArray, List.set_cons_zero, List.set_cons_succ, i64_w, i32_w]
                 rfl
                refine pure_ (i := 26) (N := some 29) (v := ?_) (a' := ?_) #[true, true, true, true, true, true, true, true, true, true, true, true, true, true, true, true, true, true, true, true, true, true, true, true, true, true, true, false, true, true, false, false, false, false] rfl rfl (any_of HT_.out (by kernel_rfl)) (fun _ _ _ h => h) (Or.inl ⟨by rfl, ?_⟩) ?_ ?_
                rotate_left
                ·
                 intro w'
                 go_simp
                 with_reducible rfl
                rotate_left
                ·
                 simp only [Act.put, List.setIfInBounds_toArray, List.set_cons_zero, List.set_cons_succ, i64_w, i32_w]
                 rfl
                refine pure_ (i := 27) (N := some 30) (v := ?_) (a' := ?_) #[true, true, true, true, true, true, true, true, true, true, true, true, true, true, true, true, true, true, true, true, true, true, true, true, true, true, true, true, true, true, false, false, false, false] rfl rfl (any_of HT_.out (by kernel_rfl)) (fun _ _ _ h => h) (Or.inl ⟨by rfl, ?_⟩) ?_ ?_
                rotate_left
                ·
                 intro w'
                 go_simp
                 with_reducible rfl
                rotate_left
                ·
                 simp only [Act.put, List.setIfInBounds_toArray, List.set_cons_zero, List.set_cons_succ, i64_w, i32_w]
                 rfl
                refine one_ (i := 30) (N := some 33) #[true, true, true, true, true, true, true, true, true, true, true, true, true, true, true, true, true, true, true, true, true, true, true, true, true, true, true, true, true, true, true, false, false, false] rfl rfl (one_of HT_.out (by kernel_rfl)) (by decide) (fun K hK => ?_)
                refine goes_ Tryd.func40 (by kernel_rfl) rfl #[.int .i64 a0_0] (by rfl) rfl rfl (by (try simp only [List.map_toArray, List.map_cons, List.map_nil]); first | done | rfl | (simp only [List.length_drop, List.length_take]; rfl)) ?_
                with_reducible refine (spec_l1Num.calls k a0_0 t191 _ A20.out).mono ?_
                rintro e w32 ⟨rfl, hb⟩
                have HS6_ := (hb.cell (World.block_lt_of_cell? _ _ (hHeld.2.2.2.2.2.2.1))).trans (hHeld.2.2.2.2.2.2.1)
                have HS7_ := (hb.cell (World.block_lt_of_cell? _ _ (hHeld.2.2.2.2.2.2.2))).trans (hHeld.2.2.2.2.2.2.2)
                refine ⟨_, rfl, ?_⟩
                have n0_ := Aside0.mk (Kd.R_below (by (with_reducible repeat (first | apply Kd.R_alloc | apply Kd.R_drewN | apply Kd.R_drew)); exact HO182.out) hb)
                have n1_ := Aside0.mk (Kd.R_below (by (with_reducible repeat (first | apply Kd.R_alloc | apply Kd.R_drewN | apply Kd.R_drew)); exact HO186.out) hb)
                have n2_ := Aside0.mk (blk_below (g := gb179) (o := .cells #[.int .i64 a0_0, .int .i64 a0_1, .int .i64 a0_2, .int .i64 a0_3, .int .i64 a0_4, .int .i64 a0_5] 42 (0, 0)) (by (with_reducible repeat (first | refine blk_drewN ?_ _ | refine blk_drew ?_ | refine blk_alloc ?_ _)); exact BK179.out) hb)
                have n3_ := Aside0.mk (below_step (by repeat (first | (with_reducible first | exact HB.out | apply below_alloc | apply pw_below_drewN | apply below_drew1 | refine below_set ?_ GE179.out) | exact HB.out)) hb)
                clear HO182
                clear HO186
                clear BK179
                clear HB
                have HO182 := n0_
                have HO186 := n1_
                have BK179 := n2_
                have HB := n3_
                clear n0_ n1_ n2_ n3_
                (try clear hb)
                (try clear hb2)
                (try clear hk)
                (try clear hi)
                refine hK.out _ _ ⟨(blk_cell BK179.out 0).trans rfl, (blk_cell BK179.out 1).trans rfl, (blk_cell BK179.out 2).trans rfl, (blk_cell BK179.out 3).trans rfl, (blk_cell BK179.out 4).trans rfl, (blk_cell BK179.out 5).trans rfl, HS6_, HS7_⟩ (fun hHeld => ?_)
                clear hK K
                refine norm_ (a' := ?_) ?_ ?_
                rotate_left
                ·
                 show Act.put _ (some 33) _ = _
                 simp only [Act.put, List.setIfInBounds_toArray, List.set_cons_zero, List.set_cons_succ, i64_w, i32_w]
                 rfl
                refine pure_ (i := 31) (N := some 34) (v := ?_) (a' := ?_) #[true, true, true, true, true, true, true, true, true, true, true, true, true, true, true, true, true, true, true, true, true, true, true, true, true, true, true, true, true, true, true, true, false, false] rfl rfl (any_of HT_.out (by kernel_rfl)) (fun _ _ _ h => h) (Or.inl ⟨by rfl, ?_⟩) ?_ ?_
                rotate_left
                ·
                 intro w'
                 go_simp
                 with_reducible rfl
                rotate_left
                ·
                 simp only [Act.put, List.setIfInBounds_toArray, List.set_cons_zero, List.set_cons_succ, i64_w, i32_w]
                 rfl
                refine pure_ (i := 32) (N := some 35) (v := ?_) (a' := ?_) #[true, true, true, true, true, true, true, true, true, true, true, true, true, true, true, true, true, true, true, true, true, true, true, true, true, true, true, true, true, true, true, true, true, false] rfl rfl (any_of HT_.out (by kernel_rfl)) (fun _ _ _ h => h) (Or.inl ⟨by rfl, ?_⟩) ?_ ?_
                rotate_left
                ·
                 intro w'
                 go_simp
                 with_reducible rfl
                rotate_left
                ·
                 simp only [Act.put, List.setIfInBounds_toArray, List.set_cons_zero, List.set_cons_succ, i64_w, i32_w]
                 rfl
                refine pure_ (i := 33) (N := some 2) (v := ?_) (a' := ?_) #[true, true, true, true, true, true, true, true, true, true, true, true, true, true, true, true, true, true, true, true, true, true, true, true, true, true, true, true, true, true, true, true, true, true] rfl rfl (any_of HT_.out (by kernel_rfl)) (fun _ _ _ h => h) (Or.inl ⟨by rfl, ?_⟩) ?_ ?_
                rotate_left
                ·
                 intro w'
                 go_simp
                 with_reducible rfl
                rotate_left
                ·
                 simp only [Act.put, List.setIfInBounds_toArray, List.set_cons_zero, List.set_cons_succ, i64_w, i32_w]
                 rfl
                refine done_ (done_of HT_.out (by kernel_rfl)) ?_
                try go_wp2
                go_ret
                exact ⟨by first | rfl | (simp [errW_none, errW_some] <;> rfl) | (simp [*, errW_none, errW_some] <;> rfl), by repeat (first | (with_reducible first | exact HB.out | apply below_alloc | apply pw_below_drewN | apply below_drew1 | refine below_set ?_ GE179.out) | exact HB.out)⟩
               ·
                rw [if_neg c22] at H
                exact absurd H (by simp)
              ·
               rw [if_neg c21] at H
               exact absurd H (by simp)
             ·
              rw [if_neg c19] at H
              exact absurd H (by simp)
            ·
             rw [if_neg c18] at H
             exact absurd H (by simp)
           ·
            rw [if_neg c16] at H
            exact absurd H (by simp)
          ·
           rw [if_neg c15] at H
           exact absurd H (by simp)
         ·
          rw [if_neg c13] at H
          exact absurd H (by simp)
        ·
         rw [if_neg c12] at H
         exact absurd H (by simp)
       ·
        rw [if_neg c10] at H
        exact absurd H (by simp)
      ·
       rw [if_neg c9] at H
       exact absurd H (by simp)
     ·
      rw [if_neg c8] at H
      exact absurd H (by simp)
    ·
     rw [if_neg c7] at H
     exact absurd H (by simp)
   ·
    rw [if_neg c5] at H
    exact absurd H (by simp)
  ·
   rw [if_neg c4] at H
   exact absurd H (by simp)
 ·
  rw [if_neg c3] at H
  exact absurd H (by simp)

end Go.Proofs.YtnibkkfjgmfpnaaDoor.Q
