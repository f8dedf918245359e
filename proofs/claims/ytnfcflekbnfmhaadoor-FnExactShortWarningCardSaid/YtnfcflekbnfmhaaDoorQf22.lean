-- Printed by a program of this session (wip/tools/seatprint.py) that runs over the kit's print.
import Derived.Test.YtnfcflekbnfmhaaDoorMend
import Derived.Test.YtnfcflekbnfmhaaDoorQ0
import Derived.Test.YtnfcflekbnfmhaaDoorQf10
import Derived.Test.YtnfcflekbnfmhaaDoorQf29
import Derived.Test.YtnfcflekbnfmhaaDoorQf45
namespace Go.Proofs.YtnfcflekbnfmhaaDoor.Q
open Go.RowKit Go.Proofs.YtnfcflekbnfmhaaDoorW.PrintWords Go.Proofs.YtnfcflekbnfmhaaDoorW.PrintLast Go.Proofs.YtnfcflekbnfmhaaDoorW.PrintMore
attribute [local go_sem] max2_int min2_int max_two min_two max_three min_three max_four min_four   -- for this text's walks alone
set_option linter.unusedVariables false
set_option linter.unusedSimpArgs false

/-! ### spec_ShortWarning: function 22 -/
def spec_ShortWarning.f (k : Nat) (a0_0 : Int) (a0_1 : Int) (a0_2 : Int) (a0_3 : Int) (a0_4 : Int) (a0_5 : Int) : Option (ByteArray × Bool) := (spec_l14Good.f a0_0 a0_1 a0_2 a0_3 a0_4 a0_5).bind fun t233 => (if t233 = true then ((some (([(⟨#[]⟩ : ByteArray), (⟨#[87]⟩ : ByteArray), (⟨#[82]⟩ : ByteArray), (⟨#[83, 78]⟩ : ByteArray), (⟨#[72]⟩ : ByteArray), (⟨#[83, 84]⟩ : ByteArray)] : List ByteArray) : List ByteArray)).bind fun y234 => ((spec_l16Levels.f).bind fun t237 => (if 0 ≤ a0_2 then (if a0_2 < (t237.length : Int) then (if 0 ≤ 1 then (if 1 ≤ ((rdOf ByteArray.empty t237 a0_2).size : Int) then (if ((rdOf ByteArray.empty t237 a0_2).extract 0 1).size + 1 ≤ 9223372036854775807 then ((spec_l1Num.f k a0_3).bind fun t241 => (if (((rdOf ByteArray.empty t237 a0_2).extract 0 1) ++ (⟨#[47]⟩ : ByteArray)).size + t241.size ≤ 9223372036854775807 then (if ((((rdOf ByteArray.empty t237 a0_2).extract 0 1) ++ (⟨#[47]⟩ : ByteArray)) ++ t241).size + 1 ≤ 9223372036854775807 then (if 0 ≤ a0_1 then (if a0_1 < (y234.length : Int) then (if (((((rdOf ByteArray.empty t237 a0_2).extract 0 1) ++ (⟨#[47]⟩ : ByteArray)) ++ t241) ++ (⟨#[47]⟩ : ByteArray)).size + (rdOf ByteArray.empty y234 a0_1).size ≤ 9223372036854775807 then (if ((((((rdOf ByteArray.empty t237 a0_2).extract 0 1) ++ (⟨#[47]⟩ : ByteArray)) ++ t241) ++ (⟨#[47]⟩ : ByteArray)) ++ (rdOf ByteArray.empty y234 a0_1)).size + 1 ≤ 9223372036854775807 then ((spec_l1Num.f k a0_4).bind fun t243 => (if (((((((rdOf ByteArray.empty t237 a0_2).extract 0 1) ++ (⟨#[47]⟩ : ByteArray)) ++ t241) ++ (⟨#[47]⟩ : ByteArray)) ++ (rdOf ByteArray.empty y234 a0_1)) ++ (⟨#[47]⟩ : ByteArray)).size + t243.size ≤ 9223372036854775807 then (if ((((((((rdOf ByteArray.empty t237 a0_2).extract 0 1) ++ (⟨#[47]⟩ : ByteArray)) ++ t241) ++ (⟨#[47]⟩ : ByteArray)) ++ (rdOf ByteArray.empty y234 a0_1)) ++ (⟨#[47]⟩ : ByteArray)) ++ t243).size + 1 ≤ 9223372036854775807 then ((spec_l1Num.f k a0_5).bind fun t244 => (if (((((((((rdOf ByteArray.empty t237 a0_2).extract 0 1) ++ (⟨#[47]⟩ : ByteArray)) ++ t241) ++ (⟨#[47]⟩ : ByteArray)) ++ (rdOf ByteArray.empty y234 a0_1)) ++ (⟨#[47]⟩ : ByteArray)) ++ t243) ++ (⟨#[45]⟩ : ByteArray)).size + t244.size ≤ 9223372036854775807 then (some ((((((((((rdOf ByteArray.empty t237 a0_2).extract 0 1) ++ (⟨#[47]⟩ : ByteArray)) ++ t241) ++ (⟨#[47]⟩ : ByteArray)) ++ (rdOf ByteArray.empty y234 a0_1)) ++ (⟨#[47]⟩ : ByteArray)) ++ t243) ++ (⟨#[45]⟩ : ByteArray)) ++ t244, true)) else (none))) else (none)) else (none))) else (none)) else (none)) else (none)) else (none)) else (none)) else (none))) else (none)) else (none)) else (none)) else (none)) else (none)))) else (some ((⟨#[]⟩ : ByteArray), false)))
theorem spec_ShortWarning.mono : ∀ a0 a1 a2 a3 a4 a5 k, LeO (spec_ShortWarning.f k a0 a1 a2 a3 a4 a5) (spec_ShortWarning.f (k + 1) a0 a1 a2 a3 a4 a5) := by
 intro a0 a1 a2 a3 a4 a5 k
 unfold spec_ShortWarning.f
 repeat' first
   | (with_reducible exact spec_l1Num.mono _ _)
   | (with_reducible exact LeO.refl _)
   | (with_reducible exact LeO.none _)
   | (with_reducible refine LeO.ite ?_ ?_)
   | (with_reducible refine LeO.bind ?_ (fun _ => ?_))
   | exact spec_l1Num.mono _ _
   | exact LeO.none _
   | refine LeO.ite ?_ ?_
   | refine LeO.bind ?_ (fun _ => ?_)
def spec_ShortWarning.T4 : Bool × List (List Nat × List Nat) := (true, [([], []), ([], []), ([1], [1]), ([0, 2], [0, 2]), ([3], [3]), ([4], [4]), ([5], [5]), ([], []), ([7], [7]), ([8, 0], [8]), ([6, 9], [6, 9]), ([10], [10]), ([], []), ([], []), ([13], [13]), ([12, 14], [12, 14]), ([15], [15]), ([11, 16], [11, 16]), ([17], [17]), ([], []), ([19], [19]), ([20, 9], [20]), ([18, 21], [18, 21]), ([22], [22]), ([], []), ([24], [24]), ([25, 21], [25]), ([23, 26], [23, 26]), ([27, 26, 0, 1, 2, 3, 4, 5, 6, 7, 8, 9, 10, 11, 12, 13, 14, 15, 16, 17, 18, 19, 20, 21, 22, 23, 24, 25, 26, 27], [27]), ([28, 0, 1, 2, 3, 4, 5, 6, 7, 8, 9, 10, 11, 12, 13, 14, 15, 16, 17, 18, 19, 20, 21, 22, 23, 24, 25, 26, 27, 28], [])])
def spec_ShortWarning.B4 : List Nat := [0, 0, 2, 7, 15, 31, 63, 0, 128, 385, 1023, 2047, 0, 0, 8192, 28672, 61440, 131071, 262143, 0, 524288, 1573761, 4194303, 8388607, 0, 16777216, 54002561, 134217727, 268435455, 536870911]
theorem spec_ShortWarning.tab4 : rtab .any (opsOf Tryd.f22 4) = spec_ShortWarning.T4 := by kernel_rfl
theorem spec_ShortWarning.bits4 : waitsOk spec_ShortWarning.T4.2 spec_ShortWarning.B4 = true := by kernel_rfl
set_option maxHeartbeats 8000000 in
set_option maxRecDepth 100000 in
theorem spec_ShortWarning.calls (k : Nat) (a0_0 : Int) (a0_1 : Int) (a0_2 : Int) (a0_3 : Int) (a0_4 : Int) (a0_5 : Int) (r1 : ByteArray) (r2 : Bool) (w : World) (h : spec_ShortWarning.f k a0_0 a0_1 a0_2 a0_3 a0_4 a0_5 = some (r1, r2)) :
  Calls Tryd.prog 22 #[.agg #[.int .i64 a0_0, .int .i64 a0_1, .int .i64 a0_2, .int .i64 a0_3, .int .i64 a0_4, .int .i64 a0_5]] w fun e w' => e = .returned (.tuple #[.string r1, .bool r2]) ∧ Below w.heap.size w w' := by
 have hu38 := Tryd.underlying38
 have HB := Aside0.mk (Below.refl w.heap.size w)
 have H : ((spec_l14Good.f a0_0 a0_1 a0_2 a0_3 a0_4 a0_5).bind fun t233 => (if t233 = true then ((some (([(⟨#[]⟩ : ByteArray), (⟨#[87]⟩ : ByteArray), (⟨#[82]⟩ : ByteArray), (⟨#[83, 78]⟩ : ByteArray), (⟨#[72]⟩ : ByteArray), (⟨#[83, 84]⟩ : ByteArray)] : List ByteArray) : List ByteArray)).bind fun y234 => ((spec_l16Levels.f).bind fun t237 => (if 0 ≤ a0_2 then (if a0_2 < (t237.length : Int) then (if 0 ≤ 1 then (if 1 ≤ ((rdOf ByteArray.empty t237 a0_2).size : Int) then (if ((rdOf ByteArray.empty t237 a0_2).extract 0 1).size + 1 ≤ 9223372036854775807 then ((spec_l1Num.f k a0_3).bind fun t241 => (if (((rdOf ByteArray.empty t237 a0_2).extract 0 1) ++ (⟨#[47]⟩ : ByteArray)).size + t241.size ≤ 9223372036854775807 then (if ((((rdOf ByteArray.empty t237 a0_2).extract 0 1) ++ (⟨#[47]⟩ : ByteArray)) ++ t241).size + 1 ≤ 9223372036854775807 then (if 0 ≤ a0_1 then (if a0_1 < (y234.length : Int) then (if (((((rdOf ByteArray.empty t237 a0_2).extract 0 1) ++ (⟨#[47]⟩ : ByteArray)) ++ t241) ++ (⟨#[47]⟩ : ByteArray)).size + (rdOf ByteArray.empty y234 a0_1).size ≤ 9223372036854775807 then (if ((((((rdOf ByteArray.empty t237 a0_2).extract 0 1) ++ (⟨#[47]⟩ : ByteArray)) ++ t241) ++ (⟨#[47]⟩ : ByteArray)) ++ (rdOf ByteArray.empty y234 a0_1)).size + 1 ≤ 9223372036854775807 then ((spec_l1Num.f k a0_4).bind fun t243 => (if (((((((rdOf ByteArray.empty t237 a0_2).extract 0 1) ++ (⟨#[47]⟩ : ByteArray)) ++ t241) ++ (⟨#[47]⟩ : ByteArray)) ++ (rdOf ByteArray.empty y234 a0_1)) ++ (⟨#[47]⟩ : ByteArray)).size + t243.size ≤ 9223372036854775807 then (if ((((((((rdOf ByteArray.empty t237 a0_2).extract 0 1) ++ (⟨#[47]⟩ : ByteArray)) ++ t241) ++ (⟨#[47]⟩ : ByteArray)) ++ (rdOf ByteArray.empty y234 a0_1)) ++ (⟨#[47]⟩ : ByteArray)) ++ t243).size + 1 ≤ 9223372036854775807 then ((spec_l1Num.f k a0_5).bind fun t244 => (if (((((((((rdOf ByteArray.empty t237 a0_2).extract 0 1) ++ (⟨#[47]⟩ : ByteArray)) ++ t241) ++ (⟨#[47]⟩ : ByteArray)) ++ (rdOf ByteArray.empty y234 a0_1)) ++ (⟨#[47]⟩ : ByteArray)) ++ t243) ++ (⟨#[45]⟩ : ByteArray)).size + t244.size ≤ 9223372036854775807 then (some ((((((((((rdOf ByteArray.empty t237 a0_2).extract 0 1) ++ (⟨#[47]⟩ : ByteArray)) ++ t241) ++ (⟨#[47]⟩ : ByteArray)) ++ (rdOf ByteArray.empty y234 a0_1)) ++ (⟨#[47]⟩ : ByteArray)) ++ t243) ++ (⟨#[45]⟩ : ByteArray)) ++ t244, true)) else (none))) else (none)) else (none))) else (none)) else (none)) else (none)) else (none)) else (none)) else (none))) else (none)) else (none)) else (none)) else (none)) else (none)))) else (some ((⟨#[]⟩ : ByteArray), false)))) = some (r1, r2) := h
 clear h
 replace H := Option.bind_eq_some_iff.mp H
 obtain ⟨t233, A20, H⟩ := H
 replace H : (if t233 = true then ((some (([(⟨#[]⟩ : ByteArray), (⟨#[87]⟩ : ByteArray), (⟨#[82]⟩ : ByteArray), (⟨#[83, 78]⟩ : ByteArray), (⟨#[72]⟩ : ByteArray), (⟨#[83, 84]⟩ : ByteArray)] : List ByteArray) : List ByteArray)).bind fun y234 => ((spec_l16Levels.f).bind fun t237 => (if 0 ≤ a0_2 then (if a0_2 < (t237.length : Int) then (if 0 ≤ 1 then (if 1 ≤ ((rdOf ByteArray.empty t237 a0_2).size : Int) then (if ((rdOf ByteArray.empty t237 a0_2).extract 0 1).size + 1 ≤ 9223372036854775807 then ((spec_l1Num.f k a0_3).bind fun t241 => (if (((rdOf ByteArray.empty t237 a0_2).extract 0 1) ++ (⟨#[47]⟩ : ByteArray)).size + t241.size ≤ 9223372036854775807 then (if ((((rdOf ByteArray.empty t237 a0_2).extract 0 1) ++ (⟨#[47]⟩ : ByteArray)) ++ t241).size + 1 ≤ 9223372036854775807 then (if 0 ≤ a0_1 then (if a0_1 < (y234.length : Int) then (if (((((rdOf ByteArray.empty t237 a0_2).extract 0 1) ++ (⟨#[47]⟩ : ByteArray)) ++ t241) ++ (⟨#[47]⟩ : ByteArray)).size + (rdOf ByteArray.empty y234 a0_1).size ≤ 9223372036854775807 then (if ((((((rdOf ByteArray.empty t237 a0_2).extract 0 1) ++ (⟨#[47]⟩ : ByteArray)) ++ t241) ++ (⟨#[47]⟩ : ByteArray)) ++ (rdOf ByteArray.empty y234 a0_1)).size + 1 ≤ 9223372036854775807 then ((spec_l1Num.f k a0_4).bind fun t243 => (if (((((((rdOf ByteArray.empty t237 a0_2).extract 0 1) ++ (⟨#[47]⟩ : ByteArray)) ++ t241) ++ (⟨#[47]⟩ : ByteArray)) ++ (rdOf ByteArray.empty y234 a0_1)) ++ (⟨#[47]⟩ : ByteArray)).size + t243.size ≤ 9223372036854775807 then (if ((((((((rdOf ByteArray.empty t237 a0_2).extract 0 1) ++ (⟨#[47]⟩ : ByteArray)) ++ t241) ++ (⟨#[47]⟩ : ByteArray)) ++ (rdOf ByteArray.empty y234 a0_1)) ++ (⟨#[47]⟩ : ByteArray)) ++ t243).size + 1 ≤ 9223372036854775807 then ((spec_l1Num.f k a0_5).bind fun t244 => (if (((((((((rdOf ByteArray.empty t237 a0_2).extract 0 1) ++ (⟨#[47]⟩ : ByteArray)) ++ t241) ++ (⟨#[47]⟩ : ByteArray)) ++ (rdOf ByteArray.empty y234 a0_1)) ++ (⟨#[47]⟩ : ByteArray)) ++ t243) ++ (⟨#[45]⟩ : ByteArray)).size + t244.size ≤ 9223372036854775807 then (some ((((((((((rdOf ByteArray.empty t237 a0_2).extract 0 1) ++ (⟨#[47]⟩ : ByteArray)) ++ t241) ++ (⟨#[47]⟩ : ByteArray)) ++ (rdOf ByteArray.empty y234 a0_1)) ++ (⟨#[47]⟩ : ByteArray)) ++ t243) ++ (⟨#[45]⟩ : ByteArray)) ++ t244, true)) else (none))) else (none)) else (none))) else (none)) else (none)) else (none)) else (none)) else (none)) else (none))) else (none)) else (none)) else (none)) else (none)) else (none)))) else (some ((⟨#[]⟩ : ByteArray), false))) = some (r1, r2) := H
 have A2 := Aside0.mk A20
 clear A20
 by_cases c3 : t233 = true
 ·
  subst c3
  have H1 : ((some (([(⟨#[]⟩ : ByteArray), (⟨#[87]⟩ : ByteArray), (⟨#[82]⟩ : ByteArray), (⟨#[83, 78]⟩ : ByteArray), (⟨#[72]⟩ : ByteArray), (⟨#[83, 84]⟩ : ByteArray)] : List ByteArray) : List ByteArray)).bind fun y234 => ((spec_l16Levels.f).bind fun t237 => (if 0 ≤ a0_2 then (if a0_2 < (t237.length : Int) then (if 0 ≤ 1 then (if 1 ≤ ((rdOf ByteArray.empty t237 a0_2).size : Int) then (if ((rdOf ByteArray.empty t237 a0_2).extract 0 1).size + 1 ≤ 9223372036854775807 then ((spec_l1Num.f k a0_3).bind fun t241 => (if (((rdOf ByteArray.empty t237 a0_2).extract 0 1) ++ (⟨#[47]⟩ : ByteArray)).size + t241.size ≤ 9223372036854775807 then (if ((((rdOf ByteArray.empty t237 a0_2).extract 0 1) ++ (⟨#[47]⟩ : ByteArray)) ++ t241).size + 1 ≤ 9223372036854775807 then (if 0 ≤ a0_1 then (if a0_1 < (y234.length : Int) then (if (((((rdOf ByteArray.empty t237 a0_2).extract 0 1) ++ (⟨#[47]⟩ : ByteArray)) ++ t241) ++ (⟨#[47]⟩ : ByteArray)).size + (rdOf ByteArray.empty y234 a0_1).size ≤ 9223372036854775807 then (if ((((((rdOf ByteArray.empty t237 a0_2).extract 0 1) ++ (⟨#[47]⟩ : ByteArray)) ++ t241) ++ (⟨#[47]⟩ : ByteArray)) ++ (rdOf ByteArray.empty y234 a0_1)).size + 1 ≤ 9223372036854775807 then ((spec_l1Num.f k a0_4).bind fun t243 => (if (((((((rdOf ByteArray.empty t237 a0_2).extract 0 1) ++ (⟨#[47]⟩ : ByteArray)) ++ t241) ++ (⟨#[47]⟩ : ByteArray)) ++ (rdOf ByteArray.empty y234 a0_1)) ++ (⟨#[47]⟩ : ByteArray)).size + t243.size ≤ 9223372036854775807 then (if ((((((((rdOf ByteArray.empty t237 a0_2).extract 0 1) ++ (⟨#[47]⟩ : ByteArray)) ++ t241) ++ (⟨#[47]⟩ : ByteArray)) ++ (rdOf ByteArray.empty y234 a0_1)) ++ (⟨#[47]⟩ : ByteArray)) ++ t243).size + 1 ≤ 9223372036854775807 then ((spec_l1Num.f k a0_5).bind fun t244 => (if (((((((((rdOf ByteArray.empty t237 a0_2).extract 0 1) ++ (⟨#[47]⟩ : ByteArray)) ++ t241) ++ (⟨#[47]⟩ : ByteArray)) ++ (rdOf ByteArray.empty y234 a0_1)) ++ (⟨#[47]⟩ : ByteArray)) ++ t243) ++ (⟨#[45]⟩ : ByteArray)).size + t244.size ≤ 9223372036854775807 then (some ((((((((((rdOf ByteArray.empty t237 a0_2).extract 0 1) ++ (⟨#[47]⟩ : ByteArray)) ++ t241) ++ (⟨#[47]⟩ : ByteArray)) ++ (rdOf ByteArray.empty y234 a0_1)) ++ (⟨#[47]⟩ : ByteArray)) ++ t243) ++ (⟨#[45]⟩ : ByteArray)) ++ t244, true)) else (none))) else (none)) else (none))) else (none)) else (none)) else (none)) else (none)) else (none)) else (none))) else (none)) else (none)) else (none)) else (none)) else (none)))) = some (r1, r2) := by rw [if_pos rfl] at H; exact H
  clear H
  have H := H1
  clear H1
  obtain ⟨y234, hy234⟩ : ∃ y_ : List ByteArray, y_ = (([(⟨#[]⟩ : ByteArray), (⟨#[87]⟩ : ByteArray), (⟨#[82]⟩ : ByteArray), (⟨#[83, 78]⟩ : ByteArray), (⟨#[72]⟩ : ByteArray), (⟨#[83, 84]⟩ : ByteArray)] : List ByteArray)) := ⟨_, rfl⟩
  replace H : ((spec_l16Levels.f).bind fun t237 => (if 0 ≤ a0_2 then (if a0_2 < (t237.length : Int) then (if 0 ≤ 1 then (if 1 ≤ ((rdOf ByteArray.empty t237 a0_2).size : Int) then (if ((rdOf ByteArray.empty t237 a0_2).extract 0 1).size + 1 ≤ 9223372036854775807 then ((spec_l1Num.f k a0_3).bind fun t241 => (if (((rdOf ByteArray.empty t237 a0_2).extract 0 1) ++ (⟨#[47]⟩ : ByteArray)).size + t241.size ≤ 9223372036854775807 then (if ((((rdOf ByteArray.empty t237 a0_2).extract 0 1) ++ (⟨#[47]⟩ : ByteArray)) ++ t241).size + 1 ≤ 9223372036854775807 then (if 0 ≤ a0_1 then (if a0_1 < (y234.length : Int) then (if (((((rdOf ByteArray.empty t237 a0_2).extract 0 1) ++ (⟨#[47]⟩ : ByteArray)) ++ t241) ++ (⟨#[47]⟩ : ByteArray)).size + (rdOf ByteArray.empty y234 a0_1).size ≤ 9223372036854775807 then (if ((((((rdOf ByteArray.empty t237 a0_2).extract 0 1) ++ (⟨#[47]⟩ : ByteArray)) ++ t241) ++ (⟨#[47]⟩ : ByteArray)) ++ (rdOf ByteArray.empty y234 a0_1)).size + 1 ≤ 9223372036854775807 then ((spec_l1Num.f k a0_4).bind fun t243 => (if (((((((rdOf ByteArray.empty t237 a0_2).extract 0 1) ++ (⟨#[47]⟩ : ByteArray)) ++ t241) ++ (⟨#[47]⟩ : ByteArray)) ++ (rdOf ByteArray.empty y234 a0_1)) ++ (⟨#[47]⟩ : ByteArray)).size + t243.size ≤ 9223372036854775807 then (if ((((((((rdOf ByteArray.empty t237 a0_2).extract 0 1) ++ (⟨#[47]⟩ : ByteArray)) ++ t241) ++ (⟨#[47]⟩ : ByteArray)) ++ (rdOf ByteArray.empty y234 a0_1)) ++ (⟨#[47]⟩ : ByteArray)) ++ t243).size + 1 ≤ 9223372036854775807 then ((spec_l1Num.f k a0_5).bind fun t244 => (if (((((((((rdOf ByteArray.empty t237 a0_2).extract 0 1) ++ (⟨#[47]⟩ : ByteArray)) ++ t241) ++ (⟨#[47]⟩ : ByteArray)) ++ (rdOf ByteArray.empty y234 a0_1)) ++ (⟨#[47]⟩ : ByteArray)) ++ t243) ++ (⟨#[45]⟩ : ByteArray)).size + t244.size ≤ 9223372036854775807 then (some ((((((((((rdOf ByteArray.empty t237 a0_2).extract 0 1) ++ (⟨#[47]⟩ : ByteArray)) ++ t241) ++ (⟨#[47]⟩ : ByteArray)) ++ (rdOf ByteArray.empty y234 a0_1)) ++ (⟨#[47]⟩ : ByteArray)) ++ t243) ++ (⟨#[45]⟩ : ByteArray)) ++ t244, true)) else (none))) else (none)) else (none))) else (none)) else (none)) else (none)) else (none)) else (none)) else (none))) else (none)) else (none)) else (none)) else (none)) else (none))) = some (r1, r2) := by first | (rw [hy234]; with_reducible exact H) | (have H2_ := (Option.bind_some _ _).symm.trans H; rw [hy234]; with_reducible exact H2_) | (have H2_ := (Option.bind_some _ _).symm.trans H; with_reducible exact H2_) | with_reducible exact H | (rw [hy234]; exact H) | exact H
  have Ny234 := Aside0.mk hy234
  clear hy234
  replace H := Option.bind_eq_some_iff.mp H
  obtain ⟨t237, A40, H⟩ := H
  replace H : (if 0 ≤ a0_2 then (if a0_2 < (t237.length : Int) then (if 0 ≤ 1 then (if 1 ≤ ((rdOf ByteArray.empty t237 a0_2).size : Int) then (if ((rdOf ByteArray.empty t237 a0_2).extract 0 1).size + 1 ≤ 9223372036854775807 then ((spec_l1Num.f k a0_3).bind fun t241 => (if (((rdOf ByteArray.empty t237 a0_2).extract 0 1) ++ (⟨#[47]⟩ : ByteArray)).size + t241.size ≤ 9223372036854775807 then (if ((((rdOf ByteArray.empty t237 a0_2).extract 0 1) ++ (⟨#[47]⟩ : ByteArray)) ++ t241).size + 1 ≤ 9223372036854775807 then (if 0 ≤ a0_1 then (if a0_1 < (y234.length : Int) then (if (((((rdOf ByteArray.empty t237 a0_2).extract 0 1) ++ (⟨#[47]⟩ : ByteArray)) ++ t241) ++ (⟨#[47]⟩ : ByteArray)).size + (rdOf ByteArray.empty y234 a0_1).size ≤ 9223372036854775807 then (if ((((((rdOf ByteArray.empty t237 a0_2).extract 0 1) ++ (⟨#[47]⟩ : ByteArray)) ++ t241) ++ (⟨#[47]⟩ : ByteArray)) ++ (rdOf ByteArray.empty y234 a0_1)).size + 1 ≤ 9223372036854775807 then ((spec_l1Num.f k a0_4).bind fun t243 => (if (((((((rdOf ByteArray.empty t237 a0_2).extract 0 1) ++ (⟨#[47]⟩ : ByteArray)) ++ t241) ++ (⟨#[47]⟩ : ByteArray)) ++ (rdOf ByteArray.empty y234 a0_1)) ++ (⟨#[47]⟩ : ByteArray)).size + t243.size ≤ 9223372036854775807 then (if ((((((((rdOf ByteArray.empty t237 a0_2).extract 0 1) ++ (⟨#[47]⟩ : ByteArray)) ++ t241) ++ (⟨#[47]⟩ : ByteArray)) ++ (rdOf ByteArray.empty y234 a0_1)) ++ (⟨#[47]⟩ : ByteArray)) ++ t243).size + 1 ≤ 9223372036854775807 then ((spec_l1Num.f k a0_5).bind fun t244 => (if (((((((((rdOf ByteArray.empty t237 a0_2).extract 0 1) ++ (⟨#[47]⟩ : ByteArray)) ++ t241) ++ (⟨#[47]⟩ : ByteArray)) ++ (rdOf ByteArray.empty y234 a0_1)) ++ (⟨#[47]⟩ : ByteArray)) ++ t243) ++ (⟨#[45]⟩ : ByteArray)).size + t244.size ≤ 9223372036854775807 then (some ((((((((((rdOf ByteArray.empty t237 a0_2).extract 0 1) ++ (⟨#[47]⟩ : ByteArray)) ++ t241) ++ (⟨#[47]⟩ : ByteArray)) ++ (rdOf ByteArray.empty y234 a0_1)) ++ (⟨#[47]⟩ : ByteArray)) ++ t243) ++ (⟨#[45]⟩ : ByteArray)) ++ t244, true)) else (none))) else (none)) else (none))) else (none)) else (none)) else (none)) else (none)) else (none)) else (none))) else (none)) else (none)) else (none)) else (none)) else (none)) = some (r1, r2) := H
  have A4 := Aside0.mk A40
  clear A40
  by_cases c5 : 0 ≤ a0_2
  ·
   rw [if_pos c5] at H
   have c5b0 : decide (0 ≤ a0_2) = true := decide_eq_true c5
   clear c5
   by_cases c6 : a0_2 < (t237.length : Int)
   ·
    rw [if_pos c6] at H
    have c6b0 : decide (a0_2 < (t237.length : Int)) = true := decide_eq_true c6
    clear c6
    by_cases c7 : 0 ≤ 1
    ·
     rw [if_pos c7] at H
     have c7b0 := eq_true c7
     have c7b1 : decide (0 ≤ 1) = true := decide_eq_true c7
     clear c7
     by_cases c8 : 1 ≤ ((rdOf ByteArray.empty t237 a0_2).size : Int)
     ·
      rw [if_pos c8] at H
      have c8b0 := eq_true c8
      have c8b1 : decide (1 ≤ ((rdOf ByteArray.empty t237 a0_2).size : Int)) = true := decide_eq_true c8
      clear c8
      by_cases c9 : ((rdOf ByteArray.empty t237 a0_2).extract 0 1).size + 1 ≤ 9223372036854775807
      ·
       rw [if_pos c9] at H
       have c9b0 := eq_true c9
       have c9b1 : decide (((rdOf ByteArray.empty t237 a0_2).extract 0 1).size + 1 ≤ 9223372036854775807) = true := decide_eq_true c9
       try have c9b2 : (9223372036854775807 < ((rdOf ByteArray.empty t237 a0_2).extract 0 1).size + 1) = False := eq_false (Nat.not_lt.2 c9)
       try have c9b4 : (9223372036854775807 < min 1 (rdOf ByteArray.empty t237 a0_2).size + 1) = False := eq_false (Nat.not_lt.2 (by have q_ := c9; simp only [ByteArray.size_append, ByteArray.size_extract, Nat.sub_zero] at q_; exact q_))
       replace H := Option.bind_eq_some_iff.mp H
       obtain ⟨t241, A100, H⟩ := H
       replace H : (if (((rdOf ByteArray.empty t237 a0_2).extract 0 1) ++ (⟨#[47]⟩ : ByteArray)).size + t241.size ≤ 9223372036854775807 then (if ((((rdOf ByteArray.empty t237 a0_2).extract 0 1) ++ (⟨#[47]⟩ : ByteArray)) ++ t241).size + 1 ≤ 9223372036854775807 then (if 0 ≤ a0_1 then (if a0_1 < (y234.length : Int) then (if (((((rdOf ByteArray.empty t237 a0_2).extract 0 1) ++ (⟨#[47]⟩ : ByteArray)) ++ t241) ++ (⟨#[47]⟩ : ByteArray)).size + (rdOf ByteArray.empty y234 a0_1).size ≤ 9223372036854775807 then (if ((((((rdOf ByteArray.empty t237 a0_2).extract 0 1) ++ (⟨#[47]⟩ : ByteArray)) ++ t241) ++ (⟨#[47]⟩ : ByteArray)) ++ (rdOf ByteArray.empty y234 a0_1)).size + 1 ≤ 9223372036854775807 then ((spec_l1Num.f k a0_4).bind fun t243 => (if (((((((rdOf ByteArray.empty t237 a0_2).extract 0 1) ++ (⟨#[47]⟩ : ByteArray)) ++ t241) ++ (⟨#[47]⟩ : ByteArray)) ++ (rdOf ByteArray.empty y234 a0_1)) ++ (⟨#[47]⟩ : ByteArray)).size + t243.size ≤ 9223372036854775807 then (if ((((((((rdOf ByteArray.empty t237 a0_2).extract 0 1) ++ (⟨#[47]⟩ : ByteArray)) ++ t241) ++ (⟨#[47]⟩ : ByteArray)) ++ (rdOf ByteArray.empty y234 a0_1)) ++ (⟨#[47]⟩ : ByteArray)) ++ t243).size + 1 ≤ 9223372036854775807 then ((spec_l1Num.f k a0_5).bind fun t244 => (if (((((((((rdOf ByteArray.empty t237 a0_2).extract 0 1) ++ (⟨#[47]⟩ : ByteArray)) ++ t241) ++ (⟨#[47]⟩ : ByteArray)) ++ (rdOf ByteArray.empty y234 a0_1)) ++ (⟨#[47]⟩ : ByteArray)) ++ t243) ++ (⟨#[45]⟩ : ByteArray)).size + t244.size ≤ 9223372036854775807 then (some ((((((((((rdOf ByteArray.empty t237 a0_2).extract 0 1) ++ (⟨#[47]⟩ : ByteArray)) ++ t241) ++ (⟨#[47]⟩ : ByteArray)) ++ (rdOf ByteArray.empty y234 a0_1)) ++ (⟨#[47]⟩ : ByteArray)) ++ t243) ++ (⟨#[45]⟩ : ByteArray)) ++ t244, true)) else (none))) else (none)) else (none))) else (none)) else (none)) else (none)) else (none)) else (none)) else (none)) = some (r1, r2) := H
       have A10 := Aside0.mk A100
       clear A100
       by_cases c11 : (((rdOf ByteArray.empty t237 a0_2).extract 0 1) ++ (⟨#[47]⟩ : ByteArray)).size + t241.size ≤ 9223372036854775807
       ·
        rw [if_pos c11] at H
        have c11b0 := eq_true c11
        have c11b1 : decide ((((rdOf ByteArray.empty t237 a0_2).extract 0 1) ++ (⟨#[47]⟩ : ByteArray)).size + t241.size ≤ 9223372036854775807) = true := decide_eq_true c11
        try have c11b2 : (9223372036854775807 < (((rdOf ByteArray.empty t237 a0_2).extract 0 1) ++ (⟨#[47]⟩ : ByteArray)).size + t241.size) = False := eq_false (Nat.not_lt.2 c11)
        try have c11b3 : (9223372036854775807 < ((rdOf ByteArray.empty t237 a0_2).extract 0 1).size + 1 + t241.size) = False := eq_false (Nat.not_lt.2 (by have q_ := c11; simp only [ByteArray.size_append] at q_; exact q_))
        try have c11b4 : (9223372036854775807 < min 1 (rdOf ByteArray.empty t237 a0_2).size + 1 + t241.size) = False := eq_false (Nat.not_lt.2 (by have q_ := c11; simp only [ByteArray.size_append, ByteArray.size_extract, Nat.sub_zero] at q_; exact q_))
        by_cases c12 : ((((rdOf ByteArray.empty t237 a0_2).extract 0 1) ++ (⟨#[47]⟩ : ByteArray)) ++ t241).size + 1 ≤ 9223372036854775807
        ·
         rw [if_pos c12] at H
         have c12b0 := eq_true c12
         have c12b1 : decide (((((rdOf ByteArray.empty t237 a0_2).extract 0 1) ++ (⟨#[47]⟩ : ByteArray)) ++ t241).size + 1 ≤ 9223372036854775807) = true := decide_eq_true c12
         try have c12b2 : (9223372036854775807 < ((((rdOf ByteArray.empty t237 a0_2).extract 0 1) ++ (⟨#[47]⟩ : ByteArray)) ++ t241).size + 1) = False := eq_false (Nat.not_lt.2 c12)
         try have c12b3 : (9223372036854775807 < ((rdOf ByteArray.empty t237 a0_2).extract 0 1).size + 1 + t241.size + 1) = False := eq_false (Nat.not_lt.2 (by have q_ := c12; simp only [ByteArray.size_append] at q_; exact q_))
         try have c12b4 : (9223372036854775807 < min 1 (rdOf ByteArray.empty t237 a0_2).size + 1 + t241.size + 1) = False := eq_false (Nat.not_lt.2 (by have q_ := c12; simp only [ByteArray.size_append, ByteArray.size_extract, Nat.sub_zero] at q_; exact q_))
         by_cases c13 : 0 ≤ a0_1
         ·
          rw [if_pos c13] at H
          have c13b0 : decide (0 ≤ a0_1) = true := decide_eq_true c13
          clear c13
          by_cases c14 : a0_1 < (y234.length : Int)
          ·
           rw [if_pos c14] at H
           have c14b0 : decide (a0_1 < (y234.length : Int)) = true := decide_eq_true c14
           clear c14
           by_cases c15 : (((((rdOf ByteArray.empty t237 a0_2).extract 0 1) ++ (⟨#[47]⟩ : ByteArray)) ++ t241) ++ (⟨#[47]⟩ : ByteArray)).size + (rdOf ByteArray.empty y234 a0_1).size ≤ 9223372036854775807
           ·
            rw [if_pos c15] at H
            have c15b0 := eq_true c15
            have c15b1 : decide ((((((rdOf ByteArray.empty t237 a0_2).extract 0 1) ++ (⟨#[47]⟩ : ByteArray)) ++ t241) ++ (⟨#[47]⟩ : ByteArray)).size + (rdOf ByteArray.empty y234 a0_1).size ≤ 9223372036854775807) = true := decide_eq_true c15
            try have c15b2 : (9223372036854775807 < (((((rdOf ByteArray.empty t237 a0_2).extract 0 1) ++ (⟨#[47]⟩ : ByteArray)) ++ t241) ++ (⟨#[47]⟩ : ByteArray)).size + (rdOf ByteArray.empty y234 a0_1).size) = False := eq_false (Nat.not_lt.2 c15)
            try have c15b3 : (9223372036854775807 < ((rdOf ByteArray.empty t237 a0_2).extract 0 1).size + 1 + t241.size + 1 + (rdOf ByteArray.empty y234 a0_1).size) = False := eq_false (Nat.not_lt.2 (by have q_ := c15; simp only [ByteArray.size_append] at q_; exact q_))
            try have c15b4 : (9223372036854775807 < min 1 (rdOf ByteArray.empty t237 a0_2).size + 1 + t241.size + 1 + (rdOf ByteArray.empty y234 a0_1).size) = False := eq_false (Nat.not_lt.2 (by have q_ := c15; simp only [ByteArray.size_append, ByteArray.size_extract, Nat.sub_zero] at q_; exact q_))
            by_cases c16 : ((((((rdOf ByteArray.empty t237 a0_2).extract 0 1) ++ (⟨#[47]⟩ : ByteArray)) ++ t241) ++ (⟨#[47]⟩ : ByteArray)) ++ (rdOf ByteArray.empty y234 a0_1)).size + 1 ≤ 9223372036854775807
            ·
             rw [if_pos c16] at H
             have c16b0 := eq_true c16
             have c16b1 : decide (((((((rdOf ByteArray.empty t237 a0_2).extract 0 1) ++ (⟨#[47]⟩ : ByteArray)) ++ t241) ++ (⟨#[47]⟩ : ByteArray)) ++ (rdOf ByteArray.empty y234 a0_1)).size + 1 ≤ 9223372036854775807) = true := decide_eq_true c16
             try have c16b2 : (9223372036854775807 < ((((((rdOf ByteArray.empty t237 a0_2).extract 0 1) ++ (⟨#[47]⟩ : ByteArray)) ++ t241) ++ (⟨#[47]⟩ : ByteArray)) ++ (rdOf ByteArray.empty y234 a0_1)).size + 1) = False := eq_false (Nat.not_lt.2 c16)
             try have c16b3 : (9223372036854775807 < ((rdOf ByteArray.empty t237 a0_2).extract 0 1).size + 1 + t241.size + 1 + (rdOf ByteArray.empty y234 a0_1).size + 1) = False := eq_false (Nat.not_lt.2 (by have q_ := c16; simp only [ByteArray.size_append] at q_; exact q_))
             try have c16b4 : (9223372036854775807 < min 1 (rdOf ByteArray.empty t237 a0_2).size + 1 + t241.size + 1 + (rdOf ByteArray.empty y234 a0_1).size + 1) = False := eq_false (Nat.not_lt.2 (by have q_ := c16; simp only [ByteArray.size_append, ByteArray.size_extract, Nat.sub_zero] at q_; exact q_))
             replace H := Option.bind_eq_some_iff.mp H
             obtain ⟨t243, A170, H⟩ := H
             replace H : (if (((((((rdOf ByteArray.empty t237 a0_2).extract 0 1) ++ (⟨#[47]⟩ : ByteArray)) ++ t241) ++ (⟨#[47]⟩ : ByteArray)) ++ (rdOf ByteArray.empty y234 a0_1)) ++ (⟨#[47]⟩ : ByteArray)).size + t243.size ≤ 9223372036854775807 then (if ((((((((rdOf ByteArray.empty t237 a0_2).extract 0 1) ++ (⟨#[47]⟩ : ByteArray)) ++ t241) ++ (⟨#[47]⟩ : ByteArray)) ++ (rdOf ByteArray.empty y234 a0_1)) ++ (⟨#[47]⟩ : ByteArray)) ++ t243).size + 1 ≤ 9223372036854775807 then ((spec_l1Num.f k a0_5).bind fun t244 => (if (((((((((rdOf ByteArray.empty t237 a0_2).extract 0 1) ++ (⟨#[47]⟩ : ByteArray)) ++ t241) ++ (⟨#[47]⟩ : ByteArray)) ++ (rdOf ByteArray.empty y234 a0_1)) ++ (⟨#[47]⟩ : ByteArray)) ++ t243) ++ (⟨#[45]⟩ : ByteArray)).size + t244.size ≤ 9223372036854775807 then (some ((((((((((rdOf ByteArray.empty t237 a0_2).extract 0 1) ++ (⟨#[47]⟩ : ByteArray)) ++ t241) ++ (⟨#[47]⟩ : ByteArray)) ++ (rdOf ByteArray.empty y234 a0_1)) ++ (⟨#[47]⟩ : ByteArray)) ++ t243) ++ (⟨#[45]⟩ : ByteArray)) ++ t244, true)) else (none))) else (none)) else (none)) = some (r1, r2) := H
             have A17 := Aside0.mk A170
             clear A170
             by_cases c18 : (((((((rdOf ByteArray.empty t237 a0_2).extract 0 1) ++ (⟨#[47]⟩ : ByteArray)) ++ t241) ++ (⟨#[47]⟩ : ByteArray)) ++ (rdOf ByteArray.empty y234 a0_1)) ++ (⟨#[47]⟩ : ByteArray)).size + t243.size ≤ 9223372036854775807
             ·
              rw [if_pos c18] at H
              have c18b0 := eq_true c18
              have c18b1 : decide ((((((((rdOf ByteArray.empty t237 a0_2).extract 0 1) ++ (⟨#[47]⟩ : ByteArray)) ++ t241) ++ (⟨#[47]⟩ : ByteArray)) ++ (rdOf ByteArray.empty y234 a0_1)) ++ (⟨#[47]⟩ : ByteArray)).size + t243.size ≤ 9223372036854775807) = true := decide_eq_true c18
              try have c18b2 : (9223372036854775807 < (((((((rdOf ByteArray.empty t237 a0_2).extract 0 1) ++ (⟨#[47]⟩ : ByteArray)) ++ t241) ++ (⟨#[47]⟩ : ByteArray)) ++ (rdOf ByteArray.empty y234 a0_1)) ++ (⟨#[47]⟩ : ByteArray)).size + t243.size) = False := eq_false (Nat.not_lt.2 c18)
              try have c18b3 : (9223372036854775807 < ((rdOf ByteArray.empty t237 a0_2).extract 0 1).size + 1 + t241.size + 1 + (rdOf ByteArray.empty y234 a0_1).size + 1 + t243.size) = False := eq_false (Nat.not_lt.2 (by have q_ := c18; simp only [ByteArray.size_append] at q_; exact q_))
              try have c18b4 : (9223372036854775807 < min 1 (rdOf ByteArray.empty t237 a0_2).size + 1 + t241.size + 1 + (rdOf ByteArray.empty y234 a0_1).size + 1 + t243.size) = False := eq_false (Nat.not_lt.2 (by have q_ := c18; simp only [ByteArray.size_append, ByteArray.size_extract, Nat.sub_zero] at q_; exact q_))
              by_cases c19 : ((((((((rdOf ByteArray.empty t237 a0_2).extract 0 1) ++ (⟨#[47]⟩ : ByteArray)) ++ t241) ++ (⟨#[47]⟩ : ByteArray)) ++ (rdOf ByteArray.empty y234 a0_1)) ++ (⟨#[47]⟩ : ByteArray)) ++ t243).size + 1 ≤ 9223372036854775807
              ·
               rw [if_pos c19] at H
               have c19b0 := eq_true c19
               have c19b1 : decide (((((((((rdOf ByteArray.empty t237 a0_2).extract 0 1) ++ (⟨#[47]⟩ : ByteArray)) ++ t241) ++ (⟨#[47]⟩ : ByteArray)) ++ (rdOf ByteArray.empty y234 a0_1)) ++ (⟨#[47]⟩ : ByteArray)) ++ t243).size + 1 ≤ 9223372036854775807) = true := decide_eq_true c19
               try have c19b2 : (9223372036854775807 < ((((((((rdOf ByteArray.empty t237 a0_2).extract 0 1) ++ (⟨#[47]⟩ : ByteArray)) ++ t241) ++ (⟨#[47]⟩ : ByteArray)) ++ (rdOf ByteArray.empty y234 a0_1)) ++ (⟨#[47]⟩ : ByteArray)) ++ t243).size + 1) = False := eq_false (Nat.not_lt.2 c19)
               try have c19b3 : (9223372036854775807 < ((rdOf ByteArray.empty t237 a0_2).extract 0 1).size + 1 + t241.size + 1 + (rdOf ByteArray.empty y234 a0_1).size + 1 + t243.size + 1) = False := eq_false (Nat.not_lt.2 (by have q_ := c19; simp only [ByteArray.size_append] at q_; exact q_))
               try have c19b4 : (9223372036854775807 < min 1 (rdOf ByteArray.empty t237 a0_2).size + 1 + t241.size + 1 + (rdOf ByteArray.empty y234 a0_1).size + 1 + t243.size + 1) = False := eq_false (Nat.not_lt.2 (by have q_ := c19; simp only [ByteArray.size_append, ByteArray.size_extract, Nat.sub_zero] at q_; exact q_))
               replace H := Option.bind_eq_some_iff.mp H
               obtain ⟨t244, A200, H⟩ := H
               replace H : (if (((((((((rdOf ByteArray.empty t237 a0_2).extract 0 1) ++ (⟨#[47]⟩ : ByteArray)) ++ t241) ++ (⟨#[47]⟩ : ByteArray)) ++ (rdOf ByteArray.empty y234 a0_1)) ++ (⟨#[47]⟩ : ByteArray)) ++ t243) ++ (⟨#[45]⟩ : ByteArray)).size + t244.size ≤ 9223372036854775807 then (some ((((((((((rdOf ByteArray.empty t237 a0_2).extract 0 1) ++ (⟨#[47]⟩ : ByteArray)) ++ t241) ++ (⟨#[47]⟩ : ByteArray)) ++ (rdOf ByteArray.empty y234 a0_1)) ++ (⟨#[47]⟩ : ByteArray)) ++ t243) ++ (⟨#[45]⟩ : ByteArray)) ++ t244, true)) else (none)) = some (r1, r2) := H
               have A20 := Aside0.mk A200
               clear A200
               by_cases c21 : (((((((((rdOf ByteArray.empty t237 a0_2).extract 0 1) ++ (⟨#[47]⟩ : ByteArray)) ++ t241) ++ (⟨#[47]⟩ : ByteArray)) ++ (rdOf ByteArray.empty y234 a0_1)) ++ (⟨#[47]⟩ : ByteArray)) ++ t243) ++ (⟨#[45]⟩ : ByteArray)).size + t244.size ≤ 9223372036854775807
               ·
                rw [if_pos c21] at H
                have c21b0 := eq_true c21
                have c21b1 : decide ((((((((((rdOf ByteArray.empty t237 a0_2).extract 0 1) ++ (⟨#[47]⟩ : ByteArray)) ++ t241) ++ (⟨#[47]⟩ : ByteArray)) ++ (rdOf ByteArray.empty y234 a0_1)) ++ (⟨#[47]⟩ : ByteArray)) ++ t243) ++ (⟨#[45]⟩ : ByteArray)).size + t244.size ≤ 9223372036854775807) = true := decide_eq_true c21
                try have c21b2 : (9223372036854775807 < (((((((((rdOf ByteArray.empty t237 a0_2).extract 0 1) ++ (⟨#[47]⟩ : ByteArray)) ++ t241) ++ (⟨#[47]⟩ : ByteArray)) ++ (rdOf ByteArray.empty y234 a0_1)) ++ (⟨#[47]⟩ : ByteArray)) ++ t243) ++ (⟨#[45]⟩ : ByteArray)).size + t244.size) = False := eq_false (Nat.not_lt.2 c21)
                try have c21b3 : (9223372036854775807 < ((rdOf ByteArray.empty t237 a0_2).extract 0 1).size + 1 + t241.size + 1 + (rdOf ByteArray.empty y234 a0_1).size + 1 + t243.size + 1 + t244.size) = False := eq_false (Nat.not_lt.2 (by have q_ := c21; simp only [ByteArray.size_append] at q_; exact q_))
                try have c21b4 : (9223372036854775807 < min 1 (rdOf ByteArray.empty t237 a0_2).size + 1 + t241.size + 1 + (rdOf ByteArray.empty y234 a0_1).size + 1 + t243.size + 1 + t244.size) = False := eq_false (Nat.not_lt.2 (by have q_ := c21; simp only [ByteArray.size_append, ByteArray.size_extract, Nat.sub_zero] at q_; exact q_))
                simp only [Option.some.injEq, Prod.mk.injEq] at H
                obtain ⟨rfl, rfl⟩ := H
                go_enter Tryd.func22, Tryd.ntmps22
                try go_wp2_with (first | ((with_reducible refine gate_dst (N := 1) rfl ?_); refine box_event ?hg (N := 1) ?hd (cs := #[.int .i64 a0_0, .int .i64 a0_1, .int .i64 a0_2, .int .i64 a0_3, .int .i64 a0_4, .int .i64 a0_5]) (t := 38) ?hr ?_; (case hd => rfl); (case hg => rfl); (case hr => first | (go_simp; done) | (go_simp; rfl)); intro gb232 hg w22 hbox hb; have n0_ := Aside0.mk (below_step (by repeat (first | (with_reducible first | exact HB.out | apply below_alloc | apply pw_below_drewN | apply below_drew1) | exact HB.out)) hb); have n1_ := Aside0.mk (hbox); have n2_ := Aside0.mk ((by rw [hg]; exact (below_size (by repeat (first | (with_reducible first | exact HB.out | apply below_alloc | apply pw_below_drewN | apply below_drew1) | exact HB.out))) : w.heap.size ≤ gb232)); have n3_ := Aside0.mk ((by rw [hg]; exact (below_size (by repeat (first | (with_reducible first | exact HB.out | apply below_alloc | apply pw_below_drewN | apply below_drew1) | exact HB.out))) : w.heap.size ≤ gb232)); clear HB; have HB := n0_; have BK232 := n1_; have GW232 := n2_; have GE232 := n3_; clear n0_ n1_ n2_ n3_; clear hb hbox hg; have hcz23_0 : w22.cell? ⟨gb232, 0, none⟩ = some (.int .i64 a0_0) := (blk_cell BK232.out 0).trans rfl; have hcz23_1 : w22.cell? ⟨gb232, 1, none⟩ = some (.int .i64 a0_1) := (blk_cell BK232.out 1).trans rfl; have hcz23_2 : w22.cell? ⟨gb232, 2, none⟩ = some (.int .i64 a0_2) := (blk_cell BK232.out 2).trans rfl; have hcz23_3 : w22.cell? ⟨gb232, 3, none⟩ = some (.int .i64 a0_3) := (blk_cell BK232.out 3).trans rfl; have hcz23_4 : w22.cell? ⟨gb232, 4, none⟩ = some (.int .i64 a0_4) := (blk_cell BK232.out 4).trans rfl; have hcz23_5 : w22.cell? ⟨gb232, 5, none⟩ = some (.int .i64 a0_5) := (blk_cell BK232.out 5).trans rfl; have hfz23_0 := blk_frozen BK232.out 0; have hfz23_1 := blk_frozen BK232.out 1; have hfz23_2 := blk_frozen BK232.out 2; have hfz23_3 := blk_frozen BK232.out 3; have hfz23_4 := blk_frozen BK232.out 4; have hfz23_5 := blk_frozen BK232.out 5) | ((with_reducible refine gate_callee (f := 41) rfl ?_); refine goesL_ (some 6) rfl rfl Tryd.func41 (by kernel_rfl) rfl #[.agg #[.int .i64 a0_0, .int .i64 a0_1, .int .i64 a0_2, .int .i64 a0_3, .int .i64 a0_4, .int .i64 a0_5]] rfl (by (try simp only [List.map_toArray, List.map_cons, List.map_nil]); first | done | rfl | (simp only [List.length_drop, List.length_take]; rfl)) ?_; (with_reducible refine (spec_l14Good.calls a0_0 a0_1 a0_2 a0_3 a0_4 a0_5 true _ A2.out).mono ?_); rintro e w24 ⟨rfl, hb⟩; refine ⟨_, rfl, ?_⟩; have n0_ := Aside0.mk (blk_below (g := gb232) (o := .cells #[.int .i64 a0_0, .int .i64 a0_1, .int .i64 a0_2, .int .i64 a0_3, .int .i64 a0_4, .int .i64 a0_5] 38 (0, 0)) (by (with_reducible repeat (first | refine blk_drewN ?_ _ | refine blk_drew ?_ | refine blk_alloc ?_ _)); exact BK232.out) hb); have n1_ := Aside0.mk (below_step (by repeat (first | (with_reducible first | exact HB.out | apply below_alloc | apply pw_below_drewN | apply below_drew1 | refine below_set ?_ GE232.out) | exact HB.out)) hb); clear BK232; clear HB; have BK232 := n0_; have HB := n1_; clear n0_ n1_; (try clear hb); (try clear hb2); (try clear hk); (try clear hi)) | ((with_reducible refine gate_dst (N := 8) rfl ?_); refine Kd.R_lit Kd.string _ 9 ?hg (N := 8) ?hd (xs := ([(⟨#[]⟩ : ByteArray), (⟨#[87]⟩ : ByteArray), (⟨#[82]⟩ : ByteArray), (⟨#[83, 78]⟩ : ByteArray), (⟨#[72]⟩ : ByteArray), (⟨#[83, 84]⟩ : ByteArray)] : List ByteArray)) (inner := [.string (⟨#[]⟩ : ByteArray), .string (⟨#[87]⟩ : ByteArray), .string (⟨#[82]⟩ : ByteArray), .string (⟨#[83, 78]⟩ : ByteArray), .string (⟨#[72]⟩ : ByteArray), .string (⟨#[83, 84]⟩ : ByteArray)]) (ok := fun _ => True) (okp := fun _ => True) ?hr ?hp (fun _ hk => hk) trivial (Below.refl _ _) (Nat.le_refl _) (by simp) ?_; (case hd => rfl); (case hg => rfl); (case hr => first | (go_simp; done) | (go_simp; rfl)); (case hp => exact (Reps.one (show Kd.M Kd.string _ _ _ (⟨#[]⟩ : ByteArray) [.string (⟨#[]⟩ : ByteArray)] from rfl) (Reps.one (show Kd.M Kd.string _ _ _ (⟨#[87]⟩ : ByteArray) [.string (⟨#[87]⟩ : ByteArray)] from rfl) (Reps.one (show Kd.M Kd.string _ _ _ (⟨#[82]⟩ : ByteArray) [.string (⟨#[82]⟩ : ByteArray)] from rfl) (Reps.one (show Kd.M Kd.string _ _ _ (⟨#[83, 78]⟩ : ByteArray) [.string (⟨#[83, 78]⟩ : ByteArray)] from rfl) (Reps.one (show Kd.M Kd.string _ _ _ (⟨#[72]⟩ : ByteArray) [.string (⟨#[72]⟩ : ByteArray)] from rfl) (Reps.one (show Kd.M Kd.string _ _ _ (⟨#[83, 84]⟩ : ByteArray) [.string (⟨#[83, 84]⟩ : ByteArray)] from rfl) (Reps.none _ _)))))))); intro v235 w25 ho26 hb hg_ hnew_; clear hg_ hnew_; (first | rw [← Ny234.out] at ho26 | (simp only [Int.reduceToNat] at ho26; rw [← Ny234.out] at ho26)); have n0_ := Aside0.mk (Kd.R_lower ho26 (below_size (by repeat (first | (with_reducible first | exact HB.out | apply below_alloc | apply pw_below_drewN | apply below_drew1 | refine below_set ?_ GE232.out) | exact HB.out)))); have n1_ := Aside0.mk (blk_below (g := gb232) (o := .cells #[.int .i64 a0_0, .int .i64 a0_1, .int .i64 a0_2, .int .i64 a0_3, .int .i64 a0_4, .int .i64 a0_5] 38 (0, 0)) (by (with_reducible repeat (first | refine blk_drewN ?_ _ | refine blk_drew ?_ | refine blk_alloc ?_ _)); exact BK232.out) hb); have n2_ := Aside0.mk (below_step (by repeat (first | (with_reducible first | exact HB.out | apply below_alloc | apply pw_below_drewN | apply below_drew1 | refine below_set ?_ GE232.out) | exact HB.out)) hb); clear BK232; clear HB; have HO236 := n0_; have BK232 := n1_; have HB := n2_; clear n0_ n1_ n2_; clear hb ho26))
                have n0_ := Aside0.mk (Kd.R_drew HO236.out)
                have n1_ := Aside0.mk (blk_drew BK232.out)
                have n2_ := Aside0.mk (below_drew1 HB.out)
                clear HO236
                clear BK232
                clear HB
                have HO236 := n0_
                have BK232 := n1_
                have HB := n2_
                clear n0_ n1_ n2_
                obtain ⟨Ao28, co28, eo28⟩ := Kd.R_slice HO236.out
                (first | subst eo28 | (injection eo28 with f1_ f2_ f3_; have f4_ := f1_.symm; have f5_ := f3_.symm; clear f1_ f2_ f3_; subst f4_; subst f5_))
                have p242 : 0 ≤ (a0_1 : Int) := of_decide_eq_true (by first | (with_reducible assumption) | assumption)
                have q242 : a0_1 < (y234.length : Int) := of_decide_eq_true (by first | (with_reducible assumption) | assumption)
                obtain ⟨ad242, e242, hx242_0⟩ := Kd.at_string (Kd.R_reads' HO236.out).2.2 a0_1 p242 q242
                cases e242
                replace p242 := eq_true p242
                replace q242 := eq_true q242
                refine start_ (n := 30) (S := fun w' => w'.cell? ⟨gb232, 0, none⟩ = some (.int .i64 a0_0) ∧ w'.cell? ⟨gb232, 1, none⟩ = some (.int .i64 a0_1) ∧ w'.cell? ⟨gb232, 2, none⟩ = some (.int .i64 a0_2) ∧ w'.cell? ⟨gb232, 3, none⟩ = some (.int .i64 a0_3) ∧ w'.cell? ⟨gb232, 4, none⟩ = some (.int .i64 a0_4) ∧ w'.cell? ⟨gb232, 5, none⟩ = some (.int .i64 a0_5) ∧ w'.cell? (ad242.add (a0_1).toNat) = some (.string (rdOf ByteArray.empty y234 a0_1))) (ds := []) #[false, false, false, false, false, false, false, false, false, false, false, false, false, false, false, false, false, false, false, false, false, false, false, false, false, false, false, false, false, false] (by kernel_rfl) rfl rfl ⟨(blk_cell BK232.out 0).trans rfl, (blk_cell BK232.out 1).trans rfl, (blk_cell BK232.out 2).trans rfl, (blk_cell BK232.out 3).trans rfl, (blk_cell BK232.out 4).trans rfl, (blk_cell BK232.out 5).trans rfl, hx242_0⟩ (fun hHeld => ?_); refine with_tabW spec_ShortWarning.tab4 spec_ShortWarning.bits4 (fun HT_ HW_ => ?_)
                generalize w25.drew = w27 at HO236 BK232 HB hx242_0 hHeld ⊢
                refine pure_ (i := 1) (N := some 10) (v := ?_) (a' := ?_) #[false, true, false, false, false, false, false, false, false, false, false, false, false, false, false, false, false, false, false, false, false, false, false, false, false, false, false, false, false, false] rfl rfl (any_of HT_.out (by kernel_rfl)) (fun _ _ _ h => h) (Or.inl ⟨by rfl, ?_⟩) ?_ ?_
                rotate_left
                ·
                 intro w'
                 go_simp
                 with_reducible rfl
                rotate_left
                ·
                 simp only [Act.put, List.setIfInBounds_toArray, List.set_cons_zero, List.set_cons_succ, i64_w, i32_w]
                 rfl
                refine pure_ (i := 7) (N := some 16) (v := ?_) (a' := ?_) #[false, true, false, false, false, false, false, true, false, false, false, false, false, false, false, false, false, false, false, false, false, false, false, false, false, false, false, false, false, false] rfl rfl (any_of HT_.out (by kernel_rfl)) (fun _ _ _ h => h) (Or.inl ⟨by rfl, ?_⟩) ?_ ?_
                rotate_left
                ·
                 intro w'
                 go_simp
                 with_reducible rfl
                rotate_left
                ·
                 simp only [Act.put, List.setIfInBounds_toArray, List.set_cons_zero, List.set_cons_succ, i64_w, i32_w]
                 rfl
                refine pure_ (i := 12) (N := some 21) (v := ?_) (a' := ?_) #[false, true, false, false, false, false, false, true, false, false, false, false, true, false, false, false, false, false, false, false, false, false, false, false, false, false, false, false, false, false] rfl rfl (any_of HT_.out (by kernel_rfl)) (fun _ _ _ h => h) (Or.inl ⟨by rfl, ?_⟩) ?_ ?_
                rotate_left
                ·
                 intro w'
                 go_simp
                 with_reducible rfl
                rotate_left
                ·
                 simp only [Act.put, List.setIfInBounds_toArray, List.set_cons_zero, List.set_cons_succ, i64_w, i32_w]
                 rfl
                refine pure_ (i := 13) (N := some 22) (v := ?_) (a' := ?_) #[false, true, false, false, false, false, false, true, false, false, false, false, true, true, false, false, false, false, false, false, false, false, false, false, false, false, false, false, false, false] rfl rfl (any_of HT_.out (by kernel_rfl)) (fun _ _ _ h => h) (Or.inl ⟨by rfl, ?_⟩) ?_ ?_
                rotate_left
                ·
                 intro w'
                 go_simp
                 with_reducible rfl
                rotate_left
                ·
                 simp only [Act.put, List.setIfInBounds_toArray, List.set_cons_zero, List.set_cons_succ, i64_w, i32_w]
                 rfl
                refine pure_ (i := 19) (N := some 28) (v := ?_) (a' := ?_) #[false, true, false, false, false, false, false, true, false, false, false, false, true, true, false, false, false, false, false, true, false, false, false, false, false, false, false, false, false, false] rfl rfl (any_of HT_.out (by kernel_rfl)) (fun _ _ _ h => h) (Or.inl ⟨by rfl, ?_⟩) ?_ ?_
                rotate_left
                ·
                 intro w'
                 go_simp
                 with_reducible rfl
                rotate_left
                ·
                 simp only [Act.put, List.setIfInBounds_toArray, List.set_cons_zero, List.set_cons_succ, i64_w, i32_w]
                 rfl
                refine pure_ (i := 24) (N := some 33) (v := ?_) (a' := ?_) #[false, true, false, false, false, false, false, true, false, false, false, false, true, true, false, false, false, false, false, true, false, false, false, false, true, false, false, false, false, false] rfl rfl (any_of HT_.out (by kernel_rfl)) (fun _ _ _ h => h) (Or.inl ⟨by rfl, ?_⟩) ?_ ?_
                rotate_left
                ·
                 intro w'
                 go_simp
                 with_reducible rfl
                rotate_left
                ·
                 simp only [Act.put, List.setIfInBounds_toArray, List.set_cons_zero, List.set_cons_succ, i64_w, i32_w]
                 rfl
                refine take_ (i := 2) (N := some 11) (v := ?_) (a' := ?_) #[false, true, true, false, false, false, false, true, false, false, false, false, true, true, false, false, false, false, false, true, false, false, false, false, true, false, false, false, false, false] rfl rfl (take_ofW HT_.out HW_.out (by kernel_rfl)) (fun _ _ _ h => h) (Or.inl ⟨by rfl, ?_⟩) hHeld ?_ ?_
                rotate_left
                ·
                 rintro w' ⟨s0, s1, s2, s3, s4, s5, s6⟩
                 go_simp
                 with_reducible rfl
                rotate_left
                ·
                 simp only [Act.put, List.setIfInBounds_toArray, List.set_cons_zero, List.set_cons_succ, i64_w, i32_w]
                 rfl
                refine take_ (i := 8) (N := some 17) (v := ?_) (a' := ?_) #[false, true, true, false, false, false, false, true, true, false, false, false, true, true, false, false, false, false, false, true, false, false, false, false, true, false, false, false, false, false] rfl rfl (take_ofW HT_.out HW_.out (by kernel_rfl)) (fun _ _ _ h => h) (Or.inl ⟨by rfl, ?_⟩) hHeld ?_ ?_
                rotate_left
                ·
                 rintro w' ⟨s0, s1, s2, s3, s4, s5, s6⟩
                 go_simp
                 with_reducible rfl
                rotate_left
                ·
                 simp only [Act.put, List.setIfInBounds_toArray, List.set_cons_zero, List.set_cons_succ, i64_w, i32_w]
                 rfl
                refine take_ (i := 14) (N := some 23) (v := ?_) (a' := ?_) #[false, true, true, false, false, false, false, true, true, false, false, false, true, true, true, false, false, false, false, true, false, false, false, false, true, false, false, false, false, false] rfl rfl (take_ofW HT_.out HW_.out (by kernel_rfl)) (fun _ _ _ h => h) (Or.inl ⟨by rfl, ?_⟩) hHeld ?_ ?_
                rotate_left
                ·
                 rintro w' ⟨s0, s1, s2, s3, s4, s5, s6⟩
                 go_simp
                 with_reducible rfl
                rotate_left
                ·
                 simp only [Act.put, List.setIfInBounds_toArray, List.set_cons_zero, List.set_cons_succ, i64_w, i32_w]
                 rfl
                refine pure_ (i := 15) (N := some 24) (v := ?_) (a' := ?_) #[false, true, true, false, false, false, false, true, true, false, false, false, true, true, true, true, false, false, false, true, false, false, false, false, true, false, false, false, false, false] rfl rfl (any_of HT_.out (by kernel_rfl)) (fun _ _ _ h => h) (Or.inl ⟨by rfl, ?_⟩) ?_ ?_
                rotate_left
                ·
                 intro w'
                 go_simp
                 with_reducible rfl
                rotate_left
                ·
                 simp only [Act.put, List.setIfInBounds_toArray, List.set_cons_zero, List.set_cons_succ, i64_w, i32_w]
                 rfl
                refine take_ (i := 16) (N := some 25) (v := ?_) (a' := ?_) #[false, true, true, false, false, false, false, true, true, false, false, false, true, true, true, true, true, false, false, true, false, false, false, false, true, false, false, false, false, false] rfl rfl (take_ofW HT_.out HW_.out (by kernel_rfl)) (fun _ _ _ h => h) (Or.inl ⟨by rfl, ?_⟩) hHeld ?_ ?_
                rotate_left
                ·
                 rintro w' ⟨s0, s1, s2, s3, s4, s5, s6⟩
                 go_simp
                 with_reducible rfl
                rotate_left
                ·
                 simp only [Act.put, List.setIfInBounds_toArray, List.set_cons_zero, List.set_cons_succ, i64_w, i32_w]
                 rfl
                refine take_ (i := 20) (N := some 29) (v := ?_) (a' := ?_) #[false, true, true, false, false, false, false, true, true, false, false, false, true, true, true, true, true, false, false, true, true, false, false, false, true, false, false, false, false, false] rfl rfl (take_ofW HT_.out HW_.out (by kernel_rfl)) (fun _ _ _ h => h) (Or.inl ⟨by rfl, ?_⟩) hHeld ?_ ?_
                rotate_left
                ·
                 rintro w' ⟨s0, s1, s2, s3, s4, s5, s6⟩
                 go_simp
                 with_reducible rfl
                rotate_left
                ·
                 simp only [Act.put, List.setIfInBounds_toArray, List.set_cons_zero, List.set_cons_succ, i64_w, i32_w]
                 rfl
                refine take_ (i := 25) (N := some 34) (v := ?_) (a' := ?_) #[false, true, true, false, false, false, false, true, true, false, false, false, true, true, true, true, true, false, false, true, true, false, false, false, true, true, false, false, false, false] rfl rfl (take_ofW HT_.out HW_.out (by kernel_rfl)) (fun _ _ _ h => h) (Or.inl ⟨by rfl, ?_⟩) hHeld ?_ ?_
                rotate_left
                ·
                 rintro w' ⟨s0, s1, s2, s3, s4, s5, s6⟩
                 go_simp
                 with_reducible rfl
                rotate_left
                ·
                 simp only [Act.put, List.setIfInBounds_toArray, List.set_cons_zero, List.set_cons_succ, i64_w, i32_w]
                 rfl
                refine one_ (i := 0) (N := some 9) #[true, true, true, false, false, false, false, true, true, false, false, false, true, true, true, true, true, false, false, true, true, false, false, false, true, true, false, false, false, false] rfl rfl (one_of HT_.out (by kernel_rfl)) (by decide) (fun K hK => ?_)
                refine goes_ Tryd.func31 (by kernel_rfl) rfl #[] (by rfl) rfl rfl (by (try simp only [List.map_toArray, List.map_cons, List.map_nil]); first | done | rfl | (simp only [List.length_drop, List.length_take]; rfl)) ?_
                with_reducible refine (spec_l16Levels.calls  t237 _ A4.out).mono ?_
                rintro e w29 ⟨v238, rfl, ho0, hb⟩
                have HS6_ := (hb.cell (World.block_lt_of_cell? _ _ (hHeld.2.2.2.2.2.2))).trans (hHeld.2.2.2.2.2.2)
                refine ⟨_, rfl, ?_⟩
                have n0_ := Aside0.mk (Kd.R_elder' (by (with_reducible repeat (first | apply Kd.R_alloc | apply Kd.R_drewN | apply Kd.R_drew)); exact HO236.out) (Kd.R_base ho0) hb)
                have n1_ := Aside0.mk (Kd.R_lower (Kd.R_new' ho0 (Kd.R_lt (by (with_reducible repeat (first | apply Kd.R_alloc | apply Kd.R_drewN | apply Kd.R_drew)); exact HO236.out))) (below_size (by repeat (first | (with_reducible first | exact HB.out | apply below_alloc | apply pw_below_drewN | apply below_drew1 | refine below_set ?_ GE232.out) | exact HB.out))))
                have n2_ := Aside0.mk (blk_below (g := gb232) (o := .cells #[.int .i64 a0_0, .int .i64 a0_1, .int .i64 a0_2, .int .i64 a0_3, .int .i64 a0_4, .int .i64 a0_5] 38 (0, 0)) (by (with_reducible repeat (first | refine blk_drewN ?_ _ | refine blk_drew ?_ | refine blk_alloc ?_ _)); exact BK232.out) hb)
                have n3_ := Aside0.mk (below_step (by repeat (first | (with_reducible first | exact HB.out | apply below_alloc | apply pw_below_drewN | apply below_drew1 | refine below_set ?_ GE232.out) | exact HB.out)) hb)
                clear HO236
                clear BK232
                clear HB
                have HO236 := n0_
                have HO239 := n1_
                have BK232 := n2_
                have HB := n3_
                clear n0_ n1_ n2_ n3_
                (try clear hb)
                (try clear hb2)
                (try clear hk)
                (try clear hi)
                (try clear ho0)
                obtain ⟨Ao30, co30, eo30⟩ := Kd.R_slice HO239.out
                (first | subst eo30 | (injection eo30 with f1_ f2_ f3_; have f4_ := f1_.symm; have f5_ := f3_.symm; clear f1_ f2_ f3_; subst f4_; subst f5_))
                have p240 : 0 ≤ (a0_2 : Int) := of_decide_eq_true (by first | (with_reducible assumption) | assumption)
                have q240 : a0_2 < (t237.length : Int) := of_decide_eq_true (by first | (with_reducible assumption) | assumption)
                obtain ⟨ad240, e240, hx240_0⟩ := Kd.at_string (Kd.R_reads' HO239.out).2.2 a0_2 p240 q240
                cases e240
                replace p240 := eq_true p240
                replace q240 := eq_true q240
                refine hK.out _ _ ⟨(blk_cell BK232.out 0).trans rfl, (blk_cell BK232.out 1).trans rfl, (blk_cell BK232.out 2).trans rfl, (blk_cell BK232.out 3).trans rfl, (blk_cell BK232.out 4).trans rfl, (blk_cell BK232.out 5).trans rfl, HS6_⟩ (fun hHeld => ?_)
                refine more_ (fun w' => w'.cell? ⟨gb232, 0, none⟩ = some (.int .i64 a0_0) ∧ w'.cell? ⟨gb232, 1, none⟩ = some (.int .i64 a0_1) ∧ w'.cell? ⟨gb232, 2, none⟩ = some (.int .i64 a0_2) ∧ w'.cell? ⟨gb232, 3, none⟩ = some (.int .i64 a0_3) ∧ w'.cell? ⟨gb232, 4, none⟩ = some (.int .i64 a0_4) ∧ w'.cell? ⟨gb232, 5, none⟩ = some (.int .i64 a0_5) ∧ w'.cell? (ad242.add (a0_1).toNat) = some (.string (rdOf ByteArray.empty y234 a0_1)) ∧ w'.cell? (ad240.add (a0_2).toNat) = some (.string (rdOf ByteArray.empty t237 a0_2))) (fun _ h => ⟨h.1, h.2.1, h.2.2.1, h.2.2.2.1, h.2.2.2.2.1, h.2.2.2.2.2.1, h.2.2.2.2.2.2.1⟩) ⟨(blk_cell BK232.out 0).trans rfl, (blk_cell BK232.out 1).trans rfl, (blk_cell BK232.out 2).trans rfl, (blk_cell BK232.out 3).trans rfl, (blk_cell BK232.out 4).trans rfl, (blk_cell BK232.out 5).trans rfl, HS6_, hx240_0⟩ (fun hHeld => ?_)
                clear hK K
                refine norm_ (a' := ?_) ?_ ?_
                rotate_left
                ·
                 show Act.put _ (some 9) _ = _
                 simp only [Act.put, List.setIfInBounds_toArray, List.set_cons_zero, List.set_cons_succ, i64_w, i32_w]
                 rfl
                refine pure_ (i := 3) (N := some 12) (v := ?_) (a' := ?_) #[true, true, true, true, false, false, false, true, true, false, false, false, true, true, true, true, true, false, false, true, true, false, false, false, true, true, false, false, false, false] rfl rfl (any_of HT_.out (by kernel_rfl)) (fun _ _ _ h => h) (Or.inl ⟨by rfl, ?_⟩) ?_ ?_
                rotate_left
                ·
                 intro w'
                 go_simp
                 with_reducible rfl
                rotate_left
                ·
                 simp only [Act.put, List.setIfInBounds_toArray, List.set_cons_zero, List.set_cons_succ, i64_w, i32_w]
                 rfl
                refine take_ (i := 4) (N := some 13) (v := ?_) (a' := ?_) #[true, true, true, true, true, false, false, true, true, false, false, false, true, true, true, true, true, false, false, true, true, false, false, false, true, true, false, false, false, false] rfl rfl (take_ofW HT_.out HW_.out (by kernel_rfl)) (fun _ _ _ h => h) (Or.inl ⟨by rfl, ?_⟩) hHeld ?_ ?_
                rotate_left
                ·
                 rintro w' ⟨s0, s1, s2, s3, s4, s5, s6, s7⟩
                 go_simp
                 with_reducible rfl
                rotate_left
                ·
                 simp only [Act.put, List.setIfInBounds_toArray, List.set_cons_zero, List.set_cons_succ, i64_w, i32_w]
                 rfl
                refine pure_ (i := 5) (N := some 14) (v := ?_) (a' := ?_) #[true, true, true, true, true, true, false, true, true, false, false, false, true, true, true, true, true, false, false, true, true, false, false, false, true, true, false, false, false, false] rfl rfl (any_of HT_.out (by kernel_rfl)) (fun _ _ _ h => h) (Or.inl ⟨by rfl, ?_⟩) ?_ ?_
                rotate_left
                ·
                 intro w'
                 go_simp
                 with_reducible rfl
                rotate_left
                ·
                 simp only [Act.put, List.setIfInBounds_toArray, List.set_cons_zero, List.set_cons_succ, i64_w, i32_w]
                 rfl
                refine pure_ (i := 6) (N := some 15) (v := ?_) (a' := ?_) #[true, true, true, true, true, true, true, true, true, false, false, false, true, true, true, true, true, false, false, true, true, false, false, false, true, true, false, false, false, false] rfl rfl (any_of HT_.out (by kernel_rfl)) (fun _ _ _ h => h) (Or.inl ⟨by rfl, ?_⟩) ?_ ?_
                rotate_left
                ·
                 intro w'
                 go_simp
                 with_reducible rfl
                rotate_left
                ·
                 simp only [Act.put, List.setIfInBounds_toArray, List.set_cons_zero, List.set_cons_succ, i64_w, i32_w]
                 rfl
                refine one_ (i := 9) (N := some 18) #[true, true, true, true, true, true, true, true, true, true, false, false, true, true, true, true, true, false, false, true, true, false, false, false, true, true, false, false, false, false] rfl rfl (one_of HT_.out (by kernel_rfl)) (by decide) (fun K hK => ?_)
                refine goes_ Tryd.func45 (by kernel_rfl) rfl #[.int .i64 a0_3] (by rfl) rfl rfl (by (try simp only [List.map_toArray, List.map_cons, List.map_nil]); first | done | rfl | (simp only [List.length_drop, List.length_take]; rfl)) ?_
                with_reducible refine (spec_l1Num.calls k a0_3 t241 _ A10.out).mono ?_
                rintro e w31 ⟨rfl, hb⟩
                have HS6_ := (hb.cell (World.block_lt_of_cell? _ _ (hHeld.2.2.2.2.2.2.1))).trans (hHeld.2.2.2.2.2.2.1)
                have HS7_ := (hb.cell (World.block_lt_of_cell? _ _ (hHeld.2.2.2.2.2.2.2))).trans (hHeld.2.2.2.2.2.2.2)
                refine ⟨_, rfl, ?_⟩
                have n0_ := Aside0.mk (Kd.R_below (by (with_reducible repeat (first | apply Kd.R_alloc | apply Kd.R_drewN | apply Kd.R_drew)); exact HO236.out) hb)
                have n1_ := Aside0.mk (Kd.R_below (by (with_reducible repeat (first | apply Kd.R_alloc | apply Kd.R_drewN | apply Kd.R_drew)); exact HO239.out) hb)
                have n2_ := Aside0.mk (blk_below (g := gb232) (o := .cells #[.int .i64 a0_0, .int .i64 a0_1, .int .i64 a0_2, .int .i64 a0_3, .int .i64 a0_4, .int .i64 a0_5] 38 (0, 0)) (by (with_reducible repeat (first | refine blk_drewN ?_ _ | refine blk_drew ?_ | refine blk_alloc ?_ _)); exact BK232.out) hb)
                have n3_ := Aside0.mk (below_step (by repeat (first | (with_reducible first | exact HB.out | apply below_alloc | apply pw_below_drewN | apply below_drew1 | refine below_set ?_ GE232.out) | exact HB.out)) hb)
                clear HO236
                clear HO239
                clear BK232
                clear HB
                have HO236 := n0_
                have HO239 := n1_
                have BK232 := n2_
                have HB := n3_
                clear n0_ n1_ n2_ n3_
                (try clear hb)
                (try clear hb2)
                (try clear hk)
                (try clear hi)
                refine hK.out _ _ ⟨(blk_cell BK232.out 0).trans rfl, (blk_cell BK232.out 1).trans rfl, (blk_cell BK232.out 2).trans rfl, (blk_cell BK232.out 3).trans rfl, (blk_cell BK232.out 4).trans rfl, (blk_cell BK232.out 5).trans rfl, HS6_, HS7_⟩ (fun hHeld => ?_)
                clear hK K
                refine norm_ (a' := ?_) ?_ ?_
                rotate_left
                ·
                 show Act.put _ (some 18) _ = _
                 simp only [Act.put, List.setIfInBounds_toArray, List.set_cons_zero, List.set_cons_succ, i64_w, i32_w]
                 rfl
                refine pure_ (i := 10) (N := some 19) (v := ?_) (a' := ?_) #[true, true, true, true, true, true, true, true, true, true, true, false, true, true, true, true, true, false, false, true, true, false, false, false, true, true, false, false, false, false] rfl rfl (any_of HT_.out (by kernel_rfl)) (fun _ _ _ h => h) (Or.inl ⟨by rfl, ?_⟩) ?_ ?_
                rotate_left
                ·
                 intro w'
                 go_simp
                 with_reducible rfl
                rotate_left
                ·
                 simp only [Act.put, List.setIfInBounds_toArray, List.set_cons_zero, List.set_cons_succ, i64_w, i32_w]
                 rfl
                refine pure_ (i := 11) (N := some 20) (v := ?_) (a' := ?_) #[true, true, true, true, true, true, true, true, true, true, true, true, true, true, true, true, true, false, false, true, true, false, false, false, true, true, false, false, false, false] rfl rfl (any_of HT_.out (by kernel_rfl)) (fun _ _ _ h => h) (Or.inl ⟨by rfl, ?_⟩) ?_ ?_
                rotate_left
                ·
                 intro w'
                 go_simp
                 with_reducible rfl
                rotate_left
                ·
                 simp only [Act.put, List.setIfInBounds_toArray, List.set_cons_zero, List.set_cons_succ, i64_w, i32_w]
                 rfl
                refine pure_ (i := 17) (N := some 26) (v := ?_) (a' := ?_) #[true, true, true, true, true, true, true, true, true, true, true, true, true, true, true, true, true, true, false, true, true, false, false, false, true, true, false, false, false, false] rfl rfl (any_of HT_.out (by kernel_rfl)) (fun _ _ _ h => h) (Or.inl ⟨by rfl, ?_⟩) ?_ ?_
                rotate_left
                ·
                 intro w'
                 go_simp
                 with_reducible rfl
                rotate_left
                ·
                 simp only [Act.put, List.setIfInBounds_toArray, List.set_cons_zero, List.set_cons_succ, i64_w, i32_w]
                 rfl
                refine pure_ (i := 18) (N := some 27) (v := ?_) (a' := ?_) #[true, true, true, true, true, true, true, true, true, true, true, true, true, true, true, true, true, true, true, true, true, false, false, false, true, true, false, false, false, false] rfl rfl (any_of HT_.out (by kernel_rfl)) (fun _ _ _ h => h) (Or.inl ⟨by rfl, ?_⟩) ?_ ?_
                rotate_left
                ·
                 intro w'
                 go_simp
                 with_reducible rfl
                rotate_left
                ·
                 simp only [Act.put, List.setIfInBounds_toArray, List.set_cons_zero, List.set_cons_succ, i64_w, i32_w]
                 rfl
                refine one_ (i := 21) (N := some 30) #[true, true, true, true, true, true, true, true, true, true, true, true, true, true, true, true, true, true, true, true, true, true, false, false, true, true, false, false, false, false] rfl rfl (one_of HT_.out (by kernel_rfl)) (by decide) (fun K hK => ?_)
                refine goes_ Tryd.func45 (by kernel_rfl) rfl #[.int .i64 a0_4] (by rfl) rfl rfl (by (try simp only [List.map_toArray, List.map_cons, List.map_nil]); first | done | rfl | (simp only [List.length_drop, List.length_take]; rfl)) ?_
                with_reducible refine (spec_l1Num.calls k a0_4 t243 _ A17.out).mono ?_
                rintro e w32 ⟨rfl, hb⟩
                have HS6_ := (hb.cell (World.block_lt_of_cell? _ _ (hHeld.2.2.2.2.2.2.1))).trans (hHeld.2.2.2.2.2.2.1)
                have HS7_ := (hb.cell (World.block_lt_of_cell? _ _ (hHeld.2.2.2.2.2.2.2))).trans (hHeld.2.2.2.2.2.2.2)
                refine ⟨_, rfl, ?_⟩
                have n0_ := Aside0.mk (Kd.R_below (by (with_reducible repeat (first | apply Kd.R_alloc | apply Kd.R_drewN | apply Kd.R_drew)); exact HO236.out) hb)
                have n1_ := Aside0.mk (Kd.R_below (by (with_reducible repeat (first | apply Kd.R_alloc | apply Kd.R_drewN | apply Kd.R_drew)); exact HO239.out) hb)
                have n2_ := Aside0.mk (blk_below (g := gb232) (o := .cells #[.int .i64 a0_0, .int .i64 a0_1, .int .i64 a0_2, .int .i64 a0_3, .int .i64 a0_4, .int .i64 a0_5] 38 (0, 0)) (by (with_reducible repeat (first | refine blk_drewN ?_ _ | refine blk_drew ?_ | refine blk_alloc ?_ _)); exact BK232.out) hb)
                have n3_ := Aside0.mk (below_step (by repeat (first | (with_reducible first | exact HB.out | apply below_alloc | apply pw_below_drewN | apply below_drew1 | refine below_set ?_ GE232.out) | exact HB.out)) hb)
                clear HO236
                clear HO239
                clear BK232
                clear HB
                have HO236 := n0_
                have HO239 := n1_
                have BK232 := n2_
                have HB := n3_
                clear n0_ n1_ n2_ n3_
                (try clear hb)
                (try clear hb2)
                (try clear hk)
                (try clear hi)
                refine hK.out _ _ ⟨(blk_cell BK232.out 0).trans rfl, (blk_cell BK232.out 1).trans rfl, (blk_cell BK232.out 2).trans rfl, (blk_cell BK232.out 3).trans rfl, (blk_cell BK232.out 4).trans rfl, (blk_cell BK232.out 5).trans rfl, HS6_, HS7_⟩ (fun hHeld => ?_)
                clear hK K
                refine norm_ (a' := ?_) ?_ ?_
                rotate_left
                ·
                 show Act.put _ (some 30) _ = _
                 simp only [Act.put, List.setIfInBounds_toArray, List.set_cons_zero, List.set_cons_succ, i64_w, i32_w]
                 rfl
                refine pure_ (i := 22) (N := some 31) (v := ?_) (a' := ?_) #[true, true, true, true, true, true, true, true, true, true, true, true, true, true, true, true, true, true, true, true, true, true, true, false, true, true, false, false, false, false] rfl rfl (any_of HT_.out (by kernel_rfl)) (fun _ _ _ h => h) (Or.inl ⟨by rfl, ?_⟩) ?_ ?_
                rotate_left
                ·
                 intro w'
                 go_simp
                 with_reducible rfl
                rotate_left
                ·
                 simp only [Act.put, List.setIfInBounds_toArray, List.set_cons_zero, List.set_cons_succ, i64_w, i32_w]
                 rfl
                refine pure_ (i := 23) (N := some 32) (v := ?_) (a' := ?_) #[true, true, true, true, true, true, true, true, true, true, true, true, true, true, true, true, true, true, true, true, true, true, true, true, true, true, false, false, false, false] rfl rfl (any_of HT_.out (by kernel_rfl)) (fun _ _ _ h => h) (Or.inl ⟨by rfl, ?_⟩) ?_ ?_
                rotate_left
                ·
                 intro w'
                 go_simp
                 with_reducible rfl
                rotate_left
                ·
                 simp only [Act.put, List.setIfInBounds_toArray, List.set_cons_zero, List.set_cons_succ, i64_w, i32_w]
                 rfl
                refine one_ (i := 26) (N := some 35) #[true, true, true, true, true, true, true, true, true, true, true, true, true, true, true, true, true, true, true, true, true, true, true, true, true, true, true, false, false, false] rfl rfl (one_of HT_.out (by kernel_rfl)) (by decide) (fun K hK => ?_)
                refine goes_ Tryd.func45 (by kernel_rfl) rfl #[.int .i64 a0_5] (by rfl) rfl rfl (by (try simp only [List.map_toArray, List.map_cons, List.map_nil]); first | done | rfl | (simp only [List.length_drop, List.length_take]; rfl)) ?_
                with_reducible refine (spec_l1Num.calls k a0_5 t244 _ A20.out).mono ?_
                rintro e w33 ⟨rfl, hb⟩
                have HS6_ := (hb.cell (World.block_lt_of_cell? _ _ (hHeld.2.2.2.2.2.2.1))).trans (hHeld.2.2.2.2.2.2.1)
                have HS7_ := (hb.cell (World.block_lt_of_cell? _ _ (hHeld.2.2.2.2.2.2.2))).trans (hHeld.2.2.2.2.2.2.2)
                refine ⟨_, rfl, ?_⟩
                have n0_ := Aside0.mk (Kd.R_below (by (with_reducible repeat (first | apply Kd.R_alloc | apply Kd.R_drewN | apply Kd.R_drew)); exact HO236.out) hb)
                have n1_ := Aside0.mk (Kd.R_below (by (with_reducible repeat (first | apply Kd.R_alloc | apply Kd.R_drewN | apply Kd.R_drew)); exact HO239.out) hb)
                have n2_ := Aside0.mk (blk_below (g := gb232) (o := .cells #[.int .i64 a0_0, .int .i64 a0_1, .int .i64 a0_2, .int .i64 a0_3, .int .i64 a0_4, .int .i64 a0_5] 38 (0, 0)) (by (with_reducible repeat (first | refine blk_drewN ?_ _ | refine blk_drew ?_ | refine blk_alloc ?_ _)); exact BK232.out) hb)
                have n3_ := Aside0.mk (below_step (by repeat (first | (with_reducible first | exact HB.out | apply below_alloc | apply pw_below_drewN | apply below_drew1 | refine below_set ?_ GE232.out) | exact HB.out)) hb)
                clear HO236
                clear HO239
                clear BK232
                clear HB
                have HO236 := n0_
                have HO239 := n1_
                have BK232 := n2_
                have HB := n3_
                clear n0_ n1_ n2_ n3_
                (try clear hb)
                (try clear hb2)
                (try clear hk)
                (try clear hi)
                refine hK.out _ _ ⟨(blk_cell BK232.out 0).trans rfl, (blk_cell BK232.out 1).trans rfl, (blk_cell BK232.out 2).trans rfl, (blk_cell BK232.out 3).trans rfl, (blk_cell BK232.out 4).trans rfl, (blk_cell BK232.out 5).trans rfl, HS6_, HS7_⟩ (fun hHeld => ?_)
                clear hK K
                refine norm_ (a' := ?_) ?_ ?_
                rotate_left
                ·
                 show Act.put _ (some 35) _ = _
                 simp only [Act.put, List.setIfInBounds_toArray, List.set_cons_zero, List.set_cons_succ, i64_w, i32_w]
                 rfl
                refine pure_ (i := 27) (N := some 36) (v := ?_) (a' := ?_) #[true, true, true, true, true, true, true, true, true, true, true, true, true, true, true, true, true, true, true, true, true, true, true, true, true, true, true, true, false, false] rfl rfl (any_of HT_.out (by kernel_rfl)) (fun _ _ _ h => h) (Or.inl ⟨by rfl, ?_⟩) ?_ ?_
                rotate_left
                ·
                 intro w'
                 go_simp
                 with_reducible rfl
                rotate_left
                ·
                 simp only [Act.put, List.setIfInBounds_toArray, List.set_cons_zero, List.set_cons_succ, i64_w, i32_w]
                 rfl
                refine pure_ (i := 28) (N := some 2) (v := ?_) (a' := ?_) #[true, true, true, true, true, true, true, true, true, true, true, true, true, true, true, true, true, true, true, true, true, true, true, true, true, true, true, true, true, false] rfl rfl (any_of HT_.out (by kernel_rfl)) (fun _ _ _ h => h) (Or.inl ⟨by rfl, ?_⟩) ?_ ?_
                rotate_left
                ·
                 intro w'
                 go_simp
                 with_reducible rfl
                rotate_left
                ·
                 simp only [Act.put, List.setIfInBounds_toArray, List.set_cons_zero, List.set_cons_succ, i64_w, i32_w]
                 rfl
                refine pure_ (i := 29) (N := some 3) (v := ?_) (a' := ?_) #[true, true, true, true, true, true, true, true, true, true, true, true, true, true, true, true, true, true, true, true, true, true, true, true, true, true, true, true, true, true] rfl rfl (any_of HT_.out (by kernel_rfl)) (fun _ _ _ h => h) (Or.inl ⟨by rfl, ?_⟩) ?_ ?_
                rotate_left
                ·
                 intro w'
                 go_simp
                 with_reducible rfl
                rotate_left
                ·
                 simp only [Act.put, List.setIfInBounds_toArray, List.set_cons_zero, List.set_cons_succ, i64_w, i32_w]
                 rfl
                refine done_ (done_of HT_.out (by kernel_rfl)) ?_
                try go_wp2
                go_ret2
                exact ⟨by first | rfl | (simp [errW_none, errW_some] <;> rfl) | (simp [*, errW_none, errW_some] <;> rfl), by repeat (first | (with_reducible first | exact HB.out | apply below_alloc | apply pw_below_drewN | apply below_drew1 | refine below_set ?_ GE232.out) | exact HB.out)⟩
               ·
                rw [if_neg c21] at H
                exact absurd H (by simp)
              ·
               rw [if_neg c19] at H
               exact absurd H (by simp)
             ·
              rw [if_neg c18] at H
              exact absurd H (by simp)
            ·
             rw [if_neg c16] at H
             exact absurd H (by simp)
           ·
            rw [if_neg c15] at H
            exact absurd H (by simp)
          ·
           rw [if_neg c14] at H
           exact absurd H (by simp)
         ·
          rw [if_neg c13] at H
          exact absurd H (by simp)
        ·
         rw [if_neg c12] at H
         exact absurd H (by simp)
       ·
        rw [if_neg c11] at H
        exact absurd H (by simp)
      ·
       rw [if_neg c9] at H
       exact absurd H (by simp)
     ·
      rw [if_neg c8] at H
      exact absurd H (by simp)
    ·
     rw [if_neg c7] at H
     exact absurd H (by simp)
   ·
    rw [if_neg c6] at H
    exact absurd H (by simp)
  ·
   rw [if_neg c5] at H
   exact absurd H (by simp)
 ·
  replace c3 := Bool.eq_false_iff.mpr c3
  subst c3
  have H1 : (some ((⟨#[]⟩ : ByteArray), false)) = some (r1, r2) := by rw [if_neg (show ¬ (false = true) by decide)] at H; exact H
  clear H
  have H := H1
  clear H1
  simp only [Option.some.injEq, Prod.mk.injEq] at H
  obtain ⟨rfl, rfl⟩ := H
  go_enter Tryd.func22, Tryd.ntmps22
  go_wp2_with (first | ((with_reducible refine gate_dst (N := 1) rfl ?_); refine box_event ?hg (N := 1) ?hd (cs := #[.int .i64 a0_0, .int .i64 a0_1, .int .i64 a0_2, .int .i64 a0_3, .int .i64 a0_4, .int .i64 a0_5]) (t := 38) ?hr ?_; (case hd => rfl); (case hg => rfl); (case hr => first | (go_simp; done) | (go_simp; rfl)); intro gb232 hg w34 hbox hb; have n0_ := Aside0.mk (below_step (by repeat (first | (with_reducible first | exact HB.out | apply below_alloc | apply pw_below_drewN | apply below_drew1) | exact HB.out)) hb); have n1_ := Aside0.mk (hbox); have n2_ := Aside0.mk ((by rw [hg]; exact (below_size (by repeat (first | (with_reducible first | exact HB.out | apply below_alloc | apply pw_below_drewN | apply below_drew1) | exact HB.out))) : w.heap.size ≤ gb232)); have n3_ := Aside0.mk ((by rw [hg]; exact (below_size (by repeat (first | (with_reducible first | exact HB.out | apply below_alloc | apply pw_below_drewN | apply below_drew1) | exact HB.out))) : w.heap.size ≤ gb232)); clear HB; have HB := n0_; have BK232 := n1_; have GW232 := n2_; have GE232 := n3_; clear n0_ n1_ n2_ n3_; clear hb hbox hg; have hcz35_0 : w34.cell? ⟨gb232, 0, none⟩ = some (.int .i64 a0_0) := (blk_cell BK232.out 0).trans rfl; have hcz35_1 : w34.cell? ⟨gb232, 1, none⟩ = some (.int .i64 a0_1) := (blk_cell BK232.out 1).trans rfl; have hcz35_2 : w34.cell? ⟨gb232, 2, none⟩ = some (.int .i64 a0_2) := (blk_cell BK232.out 2).trans rfl; have hcz35_3 : w34.cell? ⟨gb232, 3, none⟩ = some (.int .i64 a0_3) := (blk_cell BK232.out 3).trans rfl; have hcz35_4 : w34.cell? ⟨gb232, 4, none⟩ = some (.int .i64 a0_4) := (blk_cell BK232.out 4).trans rfl; have hcz35_5 : w34.cell? ⟨gb232, 5, none⟩ = some (.int .i64 a0_5) := (blk_cell BK232.out 5).trans rfl; have hfz35_0 := blk_frozen BK232.out 0; have hfz35_1 := blk_frozen BK232.out 1; have hfz35_2 := blk_frozen BK232.out 2; have hfz35_3 := blk_frozen BK232.out 3; have hfz35_4 := blk_frozen BK232.out 4; have hfz35_5 := blk_frozen BK232.out 5) | ((with_reducible refine gate_callee (f := 41) rfl ?_); refine goesL_ (some 6) rfl rfl Tryd.func41 (by kernel_rfl) rfl #[.agg #[.int .i64 a0_0, .int .i64 a0_1, .int .i64 a0_2, .int .i64 a0_3, .int .i64 a0_4, .int .i64 a0_5]] rfl (by (try simp only [List.map_toArray, List.map_cons, List.map_nil]); first | done | rfl | (simp only [List.length_drop, List.length_take]; rfl)) ?_; (with_reducible refine (spec_l14Good.calls a0_0 a0_1 a0_2 a0_3 a0_4 a0_5 false _ A2.out).mono ?_); rintro e w36 ⟨rfl, hb⟩; refine ⟨_, rfl, ?_⟩; have n0_ := Aside0.mk (blk_below (g := gb232) (o := .cells #[.int .i64 a0_0, .int .i64 a0_1, .int .i64 a0_2, .int .i64 a0_3, .int .i64 a0_4, .int .i64 a0_5] 38 (0, 0)) (by (with_reducible repeat (first | refine blk_drewN ?_ _ | refine blk_drew ?_ | refine blk_alloc ?_ _)); exact BK232.out) hb); have n1_ := Aside0.mk (below_step (by repeat (first | (with_reducible first | exact HB.out | apply below_alloc | apply pw_below_drewN | apply below_drew1 | refine below_set ?_ GE232.out) | exact HB.out)) hb); clear BK232; clear HB; have BK232 := n0_; have HB := n1_; clear n0_ n1_; (try clear hb); (try clear hb2); (try clear hk); (try clear hi)))
  go_ret2
  exact ⟨by first | rfl | (simp [errW_none, errW_some] <;> rfl) | (simp [*, errW_none, errW_some] <;> rfl), by repeat (first | (with_reducible first | exact HB.out | apply below_alloc | apply pw_below_drewN | apply below_drew1 | refine below_set ?_ GE232.out) | exact HB.out)⟩

end Go.Proofs.YtnfcflekbnfmhaaDoor.Q
