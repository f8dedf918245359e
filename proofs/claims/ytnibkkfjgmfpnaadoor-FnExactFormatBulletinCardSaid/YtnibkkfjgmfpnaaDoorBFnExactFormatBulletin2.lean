/- Texts of this seat, put together: Qf47, Qf60, Qf48, Qf33, Qf14, Qf22. -/
import Derived.Test.YtnibkkfjgmfpnaaDoorBFnExactFormatBulletin0
import Derived.Test.YtnibkkfjgmfpnaaDoorBFnExactFormatBulletin1
namespace Go.Proofs.YtnibkkfjgmfpnaaDoor.Q
open Go.RowKit Go.Proofs.YtnibkkfjgmfpnaaDoorW.PrintWords Go.Proofs.YtnibkkfjgmfpnaaDoorW.PrintLast Go.Proofs.YtnibkkfjgmfpnaaDoorW.PrintMore
attribute [local go_sem] max2_int min2_int max_two min_two max_three min_three max_four min_four   -- for this text's walks alone
set_option linter.unusedVariables false
set_option linter.unusedSimpArgs false

/-! ### spec_l17Line: function 47 -/
def spec_l17Line.f (k : Nat) (a0_0 : Int) (a0_1 : Int) (a0_2 : Int) (a0_3 : Int) (a0_4 : Int) (a0_5 : Int) : Option (ByteArray) := (spec_l1Num.f k a0_0).bind fun t240 => (if t240.size + 2 ≤ 9223372036854775807 then ((spec_l17Levels.f).bind fun t241 => (if 0 ≤ a0_2 then (if a0_2 < (t241.length : Int) then (if (t240 ++ (⟨#[58, 32]⟩ : ByteArray)).size + (rdOf ByteArray.empty t241 a0_2).size ≤ 9223372036854775807 then (if ((t240 ++ (⟨#[58, 32]⟩ : ByteArray)) ++ (rdOf ByteArray.empty t241 a0_2)).size + 1 ≤ 9223372036854775807 then ((spec_l17Topics.f).bind fun t245 => (if 0 ≤ a0_1 then (if a0_1 < (t245.length : Int) then (if (((t240 ++ (⟨#[58, 32]⟩ : ByteArray)) ++ (rdOf ByteArray.empty t241 a0_2)) ++ (⟨#[32]⟩ : ByteArray)).size + (rdOf ByteArray.empty t245 a0_1).size ≤ 9223372036854775807 then (if ((((t240 ++ (⟨#[58, 32]⟩ : ByteArray)) ++ (rdOf ByteArray.empty t241 a0_2)) ++ (⟨#[32]⟩ : ByteArray)) ++ (rdOf ByteArray.empty t245 a0_1)).size + 7 ≤ 9223372036854775807 then ((spec_l1Num.f k a0_3).bind fun t249 => (if (((((t240 ++ (⟨#[58, 32]⟩ : ByteArray)) ++ (rdOf ByteArray.empty t241 a0_2)) ++ (⟨#[32]⟩ : ByteArray)) ++ (rdOf ByteArray.empty t245 a0_1)) ++ (⟨#[44, 32, 97, 114, 101, 97, 32]⟩ : ByteArray)).size + t249.size ≤ 9223372036854775807 then (if ((((((t240 ++ (⟨#[58, 32]⟩ : ByteArray)) ++ (rdOf ByteArray.empty t241 a0_2)) ++ (⟨#[32]⟩ : ByteArray)) ++ (rdOf ByteArray.empty t245 a0_1)) ++ (⟨#[44, 32, 97, 114, 101, 97, 32]⟩ : ByteArray)) ++ t249).size + 8 ≤ 9223372036854775807 then ((spec_l1Num.f k a0_4).bind fun t250 => (if (((((((t240 ++ (⟨#[58, 32]⟩ : ByteArray)) ++ (rdOf ByteArray.empty t241 a0_2)) ++ (⟨#[32]⟩ : ByteArray)) ++ (rdOf ByteArray.empty t245 a0_1)) ++ (⟨#[44, 32, 97, 114, 101, 97, 32]⟩ : ByteArray)) ++ t249) ++ (⟨#[44, 32, 104, 111, 117, 114, 115, 32]⟩ : ByteArray)).size + t250.size ≤ 9223372036854775807 then (if ((((((((t240 ++ (⟨#[58, 32]⟩ : ByteArray)) ++ (rdOf ByteArray.empty t241 a0_2)) ++ (⟨#[32]⟩ : ByteArray)) ++ (rdOf ByteArray.empty t245 a0_1)) ++ (⟨#[44, 32, 97, 114, 101, 97, 32]⟩ : ByteArray)) ++ t249) ++ (⟨#[44, 32, 104, 111, 117, 114, 115, 32]⟩ : ByteArray)) ++ t250).size + 1 ≤ 9223372036854775807 then ((spec_l1Num.f k a0_5).bind fun t251 => (if (((((((((t240 ++ (⟨#[58, 32]⟩ : ByteArray)) ++ (rdOf ByteArray.empty t241 a0_2)) ++ (⟨#[32]⟩ : ByteArray)) ++ (rdOf ByteArray.empty t245 a0_1)) ++ (⟨#[44, 32, 97, 114, 101, 97, 32]⟩ : ByteArray)) ++ t249) ++ (⟨#[44, 32, 104, 111, 117, 114, 115, 32]⟩ : ByteArray)) ++ t250) ++ (⟨#[45]⟩ : ByteArray)).size + t251.size ≤ 9223372036854775807 then (some ((((((((((t240 ++ (⟨#[58, 32]⟩ : ByteArray)) ++ (rdOf ByteArray.empty t241 a0_2)) ++ (⟨#[32]⟩ : ByteArray)) ++ (rdOf ByteArray.empty t245 a0_1)) ++ (⟨#[44, 32, 97, 114, 101, 97, 32]⟩ : ByteArray)) ++ t249) ++ (⟨#[44, 32, 104, 111, 117, 114, 115, 32]⟩ : ByteArray)) ++ t250) ++ (⟨#[45]⟩ : ByteArray)) ++ t251)) else (none))) else (none)) else (none))) else (none)) else (none))) else (none)) else (none)) else (none)) else (none))) else (none)) else (none)) else (none)) else (none))) else (none))
theorem spec_l17Line.mono : ∀ a0 a1 a2 a3 a4 a5 k, LeO (spec_l17Line.f k a0 a1 a2 a3 a4 a5) (spec_l17Line.f (k + 1) a0 a1 a2 a3 a4 a5) := by
 intro a0 a1 a2 a3 a4 a5 k
 unfold spec_l17Line.f
 repeat' first
   | (with_reducible exact spec_l1Num.mono _ _)
   | (with_reducible exact LeO.refl _)
   | (with_reducible exact LeO.none _)
   | (with_reducible refine LeO.ite ?_ ?_)
   | (with_reducible refine LeO.bind ?_ (fun _ => ?_))
   | exact spec_l1Num.mono _ _
   | exact LeO.none _
   | refine LeO.ite ?_ ?_
   | refine LeO.bind ?_ (fun _ => ?_)
def spec_l17Line.T1 : Bool × List (List Nat × List Nat) := (true, [([], []), ([0], [0]), ([1], [1]), ([2], [2]), ([2], []), ([], []), ([5], [5]), ([4, 6], [4, 6]), ([7], [7]), ([3, 8], [3, 8]), ([9], [9]), ([4], []), ([], []), ([12], [12]), ([11, 13], [11, 13]), ([14], [14]), ([10, 15], [10, 15]), ([16], [16]), ([], []), ([18], [18]), ([19, 11], [19]), ([17, 20], [17, 20]), ([21], [21]), ([], []), ([23], [23]), ([24, 20], [24]), ([22, 25], [22, 25]), ([26], [26]), ([], []), ([28], [28]), ([29, 25], [29]), ([27, 30], [27, 30]), ([31, 30, 0, 1, 2, 3, 4, 5, 6, 7, 8, 9, 10, 11, 12, 13, 14, 15, 16, 17, 18, 19, 20, 21, 22, 23, 24, 25, 26, 27, 28, 29, 30, 31], [31])])
def spec_l17Line.B1 : List Nat := [0, 1, 3, 7, 7, 0, 32, 119, 247, 511, 1023, 23, 0, 4096, 14359, 30743, 65535, 131071, 0, 262144, 788503, 2097151, 4194303, 0, 8388608, 27002903, 67108863, 134217727, 0, 268435456, 865863703, 2147483647, 4294967295]
theorem spec_l17Line.tab1 : rtab .any (opsOf Tryd.f47 1) = spec_l17Line.T1 := by kernel_rfl
theorem spec_l17Line.bits1 : waitsOk spec_l17Line.T1.2 spec_l17Line.B1 = true := by kernel_rfl
set_option maxHeartbeats 8000000 in
set_option maxRecDepth 100000 in
theorem spec_l17Line.calls (k : Nat) (a0_0 : Int) (a0_1 : Int) (a0_2 : Int) (a0_3 : Int) (a0_4 : Int) (a0_5 : Int) (r : ByteArray) (w : World) (h : spec_l17Line.f k a0_0 a0_1 a0_2 a0_3 a0_4 a0_5 = some r) :
  Calls Tryd.prog 47 #[.agg #[.int .i64 a0_0, .int .i64 a0_1, .int .i64 a0_2, .int .i64 a0_3, .int .i64 a0_4, .int .i64 a0_5]] w fun e w' => e = .returned (.string r) ∧ Below w.heap.size w w' := by
 have hu42 := Tryd.underlying42
 have HB := Aside0.mk (Below.refl w.heap.size w)
 have H : ((spec_l1Num.f k a0_0).bind fun t240 => (if t240.size + 2 ≤ 9223372036854775807 then ((spec_l17Levels.f).bind fun t241 => (if 0 ≤ a0_2 then (if a0_2 < (t241.length : Int) then (if (t240 ++ (⟨#[58, 32]⟩ : ByteArray)).size + (rdOf ByteArray.empty t241 a0_2).size ≤ 9223372036854775807 then (if ((t240 ++ (⟨#[58, 32]⟩ : ByteArray)) ++ (rdOf ByteArray.empty t241 a0_2)).size + 1 ≤ 9223372036854775807 then ((spec_l17Topics.f).bind fun t245 => (if 0 ≤ a0_1 then (if a0_1 < (t245.length : Int) then (if (((t240 ++ (⟨#[58, 32]⟩ : ByteArray)) ++ (rdOf ByteArray.empty t241 a0_2)) ++ (⟨#[32]⟩ : ByteArray)).size + (rdOf ByteArray.empty t245 a0_1).size ≤ 9223372036854775807 then (if ((((t240 ++ (⟨#[58, 32]⟩ : ByteArray)) ++ (rdOf ByteArray.empty t241 a0_2)) ++ (⟨#[32]⟩ : ByteArray)) ++ (rdOf ByteArray.empty t245 a0_1)).size + 7 ≤ 9223372036854775807 then ((spec_l1Num.f k a0_3).bind fun t249 => (if (((((t240 ++ (⟨#[58, 32]⟩ : ByteArray)) ++ (rdOf ByteArray.empty t241 a0_2)) ++ (⟨#[32]⟩ : ByteArray)) ++ (rdOf ByteArray.empty t245 a0_1)) ++ (⟨#[44, 32, 97, 114, 101, 97, 32]⟩ : ByteArray)).size + t249.size ≤ 9223372036854775807 then (if ((((((t240 ++ (⟨#[58, 32]⟩ : ByteArray)) ++ (rdOf ByteArray.empty t241 a0_2)) ++ (⟨#[32]⟩ : ByteArray)) ++ (rdOf ByteArray.empty t245 a0_1)) ++ (⟨#[44, 32, 97, 114, 101, 97, 32]⟩ : ByteArray)) ++ t249).size + 8 ≤ 9223372036854775807 then ((spec_l1Num.f k a0_4).bind fun t250 => (if (((((((t240 ++ (⟨#[58, 32]⟩ : ByteArray)) ++ (rdOf ByteArray.empty t241 a0_2)) ++ (⟨#[32]⟩ : ByteArray)) ++ (rdOf ByteArray.empty t245 a0_1)) ++ (⟨#[44, 32, 97, 114, 101, 97, 32]⟩ : ByteArray)) ++ t249) ++ (⟨#[44, 32, 104, 111, 117, 114, 115, 32]⟩ : ByteArray)).size + t250.size ≤ 9223372036854775807 then (if ((((((((t240 ++ (⟨#[58, 32]⟩ : ByteArray)) ++ (rdOf ByteArray.empty t241 a0_2)) ++ (⟨#[32]⟩ : ByteArray)) ++ (rdOf ByteArray.empty t245 a0_1)) ++ (⟨#[44, 32, 97, 114, 101, 97, 32]⟩ : ByteArray)) ++ t249) ++ (⟨#[44, 32, 104, 111, 117, 114, 115, 32]⟩ : ByteArray)) ++ t250).size + 1 ≤ 9223372036854775807 then ((spec_l1Num.f k a0_5).bind fun t251 => (if (((((((((t240 ++ (⟨#[58, 32]⟩ : ByteArray)) ++ (rdOf ByteArray.empty t241 a0_2)) ++ (⟨#[32]⟩ : ByteArray)) ++ (rdOf ByteArray.empty t245 a0_1)) ++ (⟨#[44, 32, 97, 114, 101, 97, 32]⟩ : ByteArray)) ++ t249) ++ (⟨#[44, 32, 104, 111, 117, 114, 115, 32]⟩ : ByteArray)) ++ t250) ++ (⟨#[45]⟩ : ByteArray)).size + t251.size ≤ 9223372036854775807 then (some ((((((((((t240 ++ (⟨#[58, 32]⟩ : ByteArray)) ++ (rdOf ByteArray.empty t241 a0_2)) ++ (⟨#[32]⟩ : ByteArray)) ++ (rdOf ByteArray.empty t245 a0_1)) ++ (⟨#[44, 32, 97, 114, 101, 97, 32]⟩ : ByteArray)) ++ t249) ++ (⟨#[44, 32, 104, 111, 117, 114, 115, 32]⟩ : ByteArray)) ++ t250) ++ (⟨#[45]⟩ : ByteArray)) ++ t251)) else (none))) else (none)) else (none))) else (none)) else (none))) else (none)) else (none)) else (none)) else (none))) else (none)) else (none)) else (none)) else (none))) else (none))) = some r := h
 clear h
 replace H := Option.bind_eq_some_iff.mp H
 obtain ⟨t240, A20, H⟩ := H
 replace H : (if t240.size + 2 ≤ 9223372036854775807 then ((spec_l17Levels.f).bind fun t241 => (if 0 ≤ a0_2 then (if a0_2 < (t241.length : Int) then (if (t240 ++ (⟨#[58, 32]⟩ : ByteArray)).size + (rdOf ByteArray.empty t241 a0_2).size ≤ 9223372036854775807 then (if ((t240 ++ (⟨#[58, 32]⟩ : ByteArray)) ++ (rdOf ByteArray.empty t241 a0_2)).size + 1 ≤ 9223372036854775807 then ((spec_l17Topics.f).bind fun t245 => (if 0 ≤ a0_1 then (if a0_1 < (t245.length : Int) then (if (((t240 ++ (⟨#[58, 32]⟩ : ByteArray)) ++ (rdOf ByteArray.empty t241 a0_2)) ++ (⟨#[32]⟩ : ByteArray)).size + (rdOf ByteArray.empty t245 a0_1).size ≤ 9223372036854775807 then (if ((((t240 ++ (⟨#[58, 32]⟩ : ByteArray)) ++ (rdOf ByteArray.empty t241 a0_2)) ++ (⟨#[32]⟩ : ByteArray)) ++ (rdOf ByteArray.empty t245 a0_1)).size + 7 ≤ 9223372036854775807 then ((spec_l1Num.f k a0_3).bind fun t249 => (if (((((t240 ++ (⟨#[58, 32]⟩ : ByteArray)) ++ (rdOf ByteArray.empty t241 a0_2)) ++ (⟨#[32]⟩ : ByteArray)) ++ (rdOf ByteArray.empty t245 a0_1)) ++ (⟨#[44, 32, 97, 114, 101, 97, 32]⟩ : ByteArray)).size + t249.size ≤ 9223372036854775807 then (if ((((((t240 ++ (⟨#[58, 32]⟩ : ByteArray)) ++ (rdOf ByteArray.empty t241 a0_2)) ++ (⟨#[32]⟩ : ByteArray)) ++ (rdOf ByteArray.empty t245 a0_1)) ++ (⟨#[44, 32, 97, 114, 101, 97, 32]⟩ : ByteArray)) ++ t249).size + 8 ≤ 9223372036854775807 then ((spec_l1Num.f k a0_4).bind fun t250 => (if (((((((t240 ++ (⟨#[58, 32]⟩ : ByteArray)) ++ (rdOf ByteArray.empty t241 a0_2)) ++ (⟨#[32]⟩ : ByteArray)) ++ (rdOf ByteArray.empty t245 a0_1)) ++ (⟨#[44, 32, 97, 114, 101, 97, 32]⟩ : ByteArray)) ++ t249) ++ (⟨#[44, 32, 104, 111, 117, 114, 115, 32]⟩ : ByteArray)).size + t250.size ≤ 9223372036854775807 then (if ((((((((t240 ++ (⟨#[58, 32]⟩ : ByteArray)) ++ (rdOf ByteArray.empty t241 a0_2)) ++ (⟨#[32]⟩ : ByteArray)) ++ (rdOf ByteArray.empty t245 a0_1)) ++ (⟨#[44, 32, 97, 114, 101, 97, 32]⟩ : ByteArray)) ++ t249) ++ (⟨#[44, 32, 104, 111, 117, 114, 115, 32]⟩ : ByteArray)) ++ t250).size + 1 ≤ 9223372036854775807 then ((spec_l1Num.f k a0_5).bind fun t251 => (if (((((((((t240 ++ (⟨#[58, 32]⟩ : ByteArray)) ++ (rdOf ByteArray.empty t241 a0_2)) ++ (⟨#[32]⟩ : ByteArray)) ++ (rdOf ByteArray.empty t245 a0_1)) ++ (⟨#[44, 32, 97, 114, 101, 97, 32]⟩ : ByteArray)) ++ t249) ++ (⟨#[44, 32, 104, 111, 117, 114, 115, 32]⟩ : ByteArray)) ++ t250) ++ (⟨#[45]⟩ : ByteArray)).size + t251.size ≤ 9223372036854775807 then (some ((((((((((t240 ++ (⟨#[58, 32]⟩ : ByteArray)) ++ (rdOf ByteArray.empty t241 a0_2)) ++ (⟨#[32]⟩ : ByteArray)) ++ (rdOf ByteArray.empty t245 a0_1)) ++ (⟨#[44, 32, 97, 114, 101, 97, 32]⟩ : ByteArray)) ++ t249) ++ (⟨#[44, 32, 104, 111, 117, 114, 115, 32]⟩ : ByteArray)) ++ t250) ++ (⟨#[45]⟩ : ByteArray)) ++ t251)) else (none))) else (none)) else (none))) else (none)) else (none))) else (none)) else (none)) else (none)) else (none))) else (none)) else (none)) else (none)) else (none))) else (none)) = some r := H
 have A2 := Aside0.mk A20
 clear A20
 by_cases c3 : t240.size + 2 ≤ 9223372036854775807
 ·
  rw [if_pos c3] at H
  have c3b0 := eq_true c3
  have c3b1 : decide (t240.size + 2 ≤ 9223372036854775807) = true := decide_eq_true c3
  try have c3b2 : (9223372036854775807 < t240.size + 2) = False := eq_false (Nat.not_lt.2 c3)
  replace H := Option.bind_eq_some_iff.mp H
  obtain ⟨t241, A40, H⟩ := H
  replace H : (if 0 ≤ a0_2 then (if a0_2 < (t241.length : Int) then (if (t240 ++ (⟨#[58, 32]⟩ : ByteArray)).size + (rdOf ByteArray.empty t241 a0_2).size ≤ 9223372036854775807 then (if ((t240 ++ (⟨#[58, 32]⟩ : ByteArray)) ++ (rdOf ByteArray.empty t241 a0_2)).size + 1 ≤ 9223372036854775807 then ((spec_l17Topics.f).bind fun t245 => (if 0 ≤ a0_1 then (if a0_1 < (t245.length : Int) then (if (((t240 ++ (⟨#[58, 32]⟩ : ByteArray)) ++ (rdOf ByteArray.empty t241 a0_2)) ++ (⟨#[32]⟩ : ByteArray)).size + (rdOf ByteArray.empty t245 a0_1).size ≤ 9223372036854775807 then (if ((((t240 ++ (⟨#[58, 32]⟩ : ByteArray)) ++ (rdOf ByteArray.empty t241 a0_2)) ++ (⟨#[32]⟩ : ByteArray)) ++ (rdOf ByteArray.empty t245 a0_1)).size + 7 ≤ 9223372036854775807 then ((spec_l1Num.f k a0_3).bind fun t249 => (if (((((t240 ++ (⟨#[58, 32]⟩ : ByteArray)) ++ (rdOf ByteArray.empty t241 a0_2)) ++ (⟨#[32]⟩ : ByteArray)) ++ (rdOf ByteArray.empty t245 a0_1)) ++ (⟨#[44, 32, 97, 114, 101, 97, 32]⟩ : ByteArray)).size + t249.size ≤ 9223372036854775807 then (if ((((((t240 ++ (⟨#[58, 32]⟩ : ByteArray)) ++ (rdOf ByteArray.empty t241 a0_2)) ++ (⟨#[32]⟩ : ByteArray)) ++ (rdOf ByteArray.empty t245 a0_1)) ++ (⟨#[44, 32, 97, 114, 101, 97, 32]⟩ : ByteArray)) ++ t249).size + 8 ≤ 9223372036854775807 then ((spec_l1Num.f k a0_4).bind fun t250 => (if (((((((t240 ++ (⟨#[58, 32]⟩ : ByteArray)) ++ (rdOf ByteArray.empty t241 a0_2)) ++ (⟨#[32]⟩ : ByteArray)) ++ (rdOf ByteArray.empty t245 a0_1)) ++ (⟨#[44, 32, 97, 114, 101, 97, 32]⟩ : ByteArray)) ++ t249) ++ (⟨#[44, 32, 104, 111, 117, 114, 115, 32]⟩ : ByteArray)).size + t250.size ≤ 9223372036854775807 then (if ((((((((t240 ++ (⟨#[58, 32]⟩ : ByteArray)) ++ (rdOf ByteArray.empty t241 a0_2)) ++ (⟨#[32]⟩ : ByteArray)) ++ (rdOf ByteArray.empty t245 a0_1)) ++ (⟨#[44, 32, 97, 114, 101, 97, 32]⟩ : ByteArray)) ++ t249) ++ (⟨#[44, 32, 104, 111, 117, 114, 115, 32]⟩ : ByteArray)) ++ t250).size + 1 ≤ 9223372036854775807 then ((spec_l1Num.f k a0_5).bind fun t251 => (if (((((((((t240 ++ (⟨#[58, 32]⟩ : ByteArray)) ++ (rdOf ByteArray.empty t241 a0_2)) ++ (⟨#[32]⟩ : ByteArray)) ++ (rdOf ByteArray.empty t245 a0_1)) ++ (⟨#[44, 32, 97, 114, 101, 97, 32]⟩ : ByteArray)) ++ t249) ++ (⟨#[44, 32, 104, 111, 117, 114, 115, 32]⟩ : ByteArray)) ++ t250) ++ (⟨#[45]⟩ : ByteArray)).size + t251.size ≤ 9223372036854775807 then (some ((((((((((t240 ++ (⟨#[58, 32]⟩ : ByteArray)) ++ (rdOf ByteArray.empty t241 a0_2)) ++ (⟨#[32]⟩ : ByteArray)) ++ (rdOf ByteArray.empty t245 a0_1)) ++ (⟨#[44, 32, 97, 114, 101, 97, 32]⟩ : ByteArray)) ++ t249) ++ (⟨#[44, 32, 104, 111, 117, 114, 115, 32]⟩ : ByteArray)) ++ t250) ++ (⟨#[45]⟩ : ByteArray)) ++ t251)) else (none))) else (none)) else (none))) else (none)) else (none))) else (none)) else (none)) else (none)) else (none))) else (none)) else (none)) else (none)) else (none)) = some r := H
  have A4 := Aside0.mk A40
  clear A40
  by_cases c5 : 0 ≤ a0_2
  ·
   rw [if_pos c5] at H
   have c5b0 : decide (0 ≤ a0_2) = true := decide_eq_true c5
   clear c5
   by_cases c6 : a0_2 < (t241.length : Int)
   ·
    rw [if_pos c6] at H
    have c6b0 : decide (a0_2 < (t241.length : Int)) = true := decide_eq_true c6
    clear c6
    by_cases c7 : (t240 ++ (⟨#[58, 32]⟩ : ByteArray)).size + (rdOf ByteArray.empty t241 a0_2).size ≤ 9223372036854775807
    ·
     rw [if_pos c7] at H
     have c7b0 := eq_true c7
     have c7b1 : decide ((t240 ++ (⟨#[58, 32]⟩ : ByteArray)).size + (rdOf ByteArray.empty t241 a0_2).size ≤ 9223372036854775807) = true := decide_eq_true c7
     try have c7b2 : (9223372036854775807 < (t240 ++ (⟨#[58, 32]⟩ : ByteArray)).size + (rdOf ByteArray.empty t241 a0_2).size) = False := eq_false (Nat.not_lt.2 c7)
     try have c7b3 : (9223372036854775807 < t240.size + 2 + (rdOf ByteArray.empty t241 a0_2).size) = False := eq_false (Nat.not_lt.2 (by have q_ := c7; simp only [ByteArray.size_append] at q_; exact q_))
     by_cases c8 : ((t240 ++ (⟨#[58, 32]⟩ : ByteArray)) ++ (rdOf ByteArray.empty t241 a0_2)).size + 1 ≤ 9223372036854775807
     ·
      rw [if_pos c8] at H
      have c8b0 := eq_true c8
      have c8b1 : decide (((t240 ++ (⟨#[58, 32]⟩ : ByteArray)) ++ (rdOf ByteArray.empty t241 a0_2)).size + 1 ≤ 9223372036854775807) = true := decide_eq_true c8
      try have c8b2 : (9223372036854775807 < ((t240 ++ (⟨#[58, 32]⟩ : ByteArray)) ++ (rdOf ByteArray.empty t241 a0_2)).size + 1) = False := eq_false (Nat.not_lt.2 c8)
      try have c8b3 : (9223372036854775807 < t240.size + 2 + (rdOf ByteArray.empty t241 a0_2).size + 1) = False := eq_false (Nat.not_lt.2 (by have q_ := c8; simp only [ByteArray.size_append] at q_; exact q_))
      replace H := Option.bind_eq_some_iff.mp H
      obtain ⟨t245, A90, H⟩ := H
      replace H : (if 0 ≤ a0_1 then (if a0_1 < (t245.length : Int) then (if (((t240 ++ (⟨#[58, 32]⟩ : ByteArray)) ++ (rdOf ByteArray.empty t241 a0_2)) ++ (⟨#[32]⟩ : ByteArray)).size + (rdOf ByteArray.empty t245 a0_1).size ≤ 9223372036854775807 then (if ((((t240 ++ (⟨#[58, 32]⟩ : ByteArray)) ++ (rdOf ByteArray.empty t241 a0_2)) ++ (⟨#[32]⟩ : ByteArray)) ++ (rdOf ByteArray.empty t245 a0_1)).size + 7 ≤ 9223372036854775807 then ((spec_l1Num.f k a0_3).bind fun t249 => (if (((((t240 ++ (⟨#[58, 32]⟩ : ByteArray)) ++ (rdOf ByteArray.empty t241 a0_2)) ++ (⟨#[32]⟩ : ByteArray)) ++ (rdOf ByteArray.empty t245 a0_1)) ++ (⟨#[44, 32, 97, 114, 101, 97, 32]⟩ : ByteArray)).size + t249.size ≤ 9223372036854775807 then (if ((((((t240 ++ (⟨#[58, 32]⟩ : ByteArray)) ++ (rdOf ByteArray.empty t241 a0_2)) ++ (⟨#[32]⟩ : ByteArray)) ++ (rdOf ByteArray.empty t245 a0_1)) ++ (⟨#[44, 32, 97, 114, 101, 97, 32]⟩ : ByteArray)) ++ t249).size + 8 ≤ 9223372036854775807 then ((spec_l1Num.f k a0_4).bind fun t250 => (if (((((((t240 ++ (⟨#[58, 32]⟩ : ByteArray)) ++ (rdOf ByteArray.empty t241 a0_2)) ++ (⟨#[32]⟩ : ByteArray)) ++ (rdOf ByteArray.empty t245 a0_1)) ++ (⟨#[44, 32, 97, 114, 101, 97, 32]⟩ : ByteArray)) ++ t249) ++ (⟨#[44, 32, 104, 111, 117, 114, 115, 32]⟩ : ByteArray)).size + t250.size ≤ 9223372036854775807 then (if ((((((((t240 ++ (⟨#[58, 32]⟩ : ByteArray)) ++ (rdOf ByteArray.empty t241 a0_2)) ++ (⟨#[32]⟩ : ByteArray)) ++ (rdOf ByteArray.empty t245 a0_1)) ++ (⟨#[44, 32, 97, 114, 101, 97, 32]⟩ : ByteArray)) ++ t249) ++ (⟨#[44, 32, 104, 111, 117, 114, 115, 32]⟩ : ByteArray)) ++ t250).size + 1 ≤ 9223372036854775807 then ((spec_l1Num.f k a0_5).bind fun t251 => (if (((((((((t240 ++ (⟨#[58, 32]⟩ : ByteArray)) ++ (rdOf ByteArray.empty t241 a0_2)) ++ (⟨#[32]⟩ : ByteArray)) ++ (rdOf ByteArray.empty t245 a0_1)) ++ (⟨#[44, 32, 97, 114, 101, 97, 32]⟩ : ByteArray)) ++ t249) ++ (⟨#[44, 32, 104, 111, 117, 114, 115, 32]⟩ : ByteArray)) ++ t250) ++ (⟨#[45]⟩ : ByteArray)).size + t251.size ≤ 9223372036854775807 then (some ((((((((((t240 ++ (⟨#[58, 32]⟩ : ByteArray)) ++ (rdOf ByteArray.empty t241 a0_2)) ++ (⟨#[32]⟩ : ByteArray)) ++ (rdOf ByteArray.empty t245 a0_1)) ++ (⟨#[44, 32, 97, 114, 101, 97, 32]⟩ : ByteArray)) ++ t249) ++ (⟨#[44, 32, 104, 111, 117, 114, 115, 32]⟩ : ByteArray)) ++ t250) ++ (⟨#[45]⟩ : ByteArray)) ++ t251)) else (none))) else (none)) else (none))) else (none)) else (none))) else (none)) else (none)) else (none)) else (none)) = some r := H
      have A9 := Aside0.mk A90
      clear A90
      by_cases c10 : 0 ≤ a0_1
      ·
       rw [if_pos c10] at H
       have c10b0 : decide (0 ≤ a0_1) = true := decide_eq_true c10
       clear c10
       by_cases c11 : a0_1 < (t245.length : Int)
       ·
        rw [if_pos c11] at H
        have c11b0 : decide (a0_1 < (t245.length : Int)) = true := decide_eq_true c11
        clear c11
        by_cases c12 : (((t240 ++ (⟨#[58, 32]⟩ : ByteArray)) ++ (rdOf ByteArray.empty t241 a0_2)) ++ (⟨#[32]⟩ : ByteArray)).size + (rdOf ByteArray.empty t245 a0_1).size ≤ 9223372036854775807
        ·
         rw [if_pos c12] at H
         have c12b0 := eq_true c12
         have c12b1 : decide ((((t240 ++ (⟨#[58, 32]⟩ : ByteArray)) ++ (rdOf ByteArray.empty t241 a0_2)) ++ (⟨#[32]⟩ : ByteArray)).size + (rdOf ByteArray.empty t245 a0_1).size ≤ 9223372036854775807) = true := decide_eq_true c12
         try have c12b2 : (9223372036854775807 < (((t240 ++ (⟨#[58, 32]⟩ : ByteArray)) ++ (rdOf ByteArray.empty t241 a0_2)) ++ (⟨#[32]⟩ : ByteArray)).size + (rdOf ByteArray.empty t245 a0_1).size) = False := eq_false (Nat.not_lt.2 c12)
         try have c12b3 : (9223372036854775807 < t240.size + 2 + (rdOf ByteArray.empty t241 a0_2).size + 1 + (rdOf ByteArray.empty t245 a0_1).size) = False := eq_false (Nat.not_lt.2 (by have q_ := c12; simp only [ByteArray.size_append] at q_; exact q_))
         by_cases c13 : ((((t240 ++ (⟨#[58, 32]⟩ : ByteArray)) ++ (rdOf ByteArray.empty t241 a0_2)) ++ (⟨#[32]⟩ : ByteArray)) ++ (rdOf ByteArray.empty t245 a0_1)).size + 7 ≤ 9223372036854775807
         ·
          rw [if_pos c13] at H
          have c13b0 := eq_true c13
          have c13b1 : decide (((((t240 ++ (⟨#[58, 32]⟩ : ByteArray)) ++ (rdOf ByteArray.empty t241 a0_2)) ++ (⟨#[32]⟩ : ByteArray)) ++ (rdOf ByteArray.empty t245 a0_1)).size + 7 ≤ 9223372036854775807) = true := decide_eq_true c13
          try have c13b2 : (9223372036854775807 < ((((t240 ++ (⟨#[58, 32]⟩ : ByteArray)) ++ (rdOf ByteArray.empty t241 a0_2)) ++ (⟨#[32]⟩ : ByteArray)) ++ (rdOf ByteArray.empty t245 a0_1)).size + 7) = False := eq_false (Nat.not_lt.2 c13)
          try have c13b3 : (9223372036854775807 < t240.size + 2 + (rdOf ByteArray.empty t241 a0_2).size + 1 + (rdOf ByteArray.empty t245 a0_1).size + 7) = False := eq_false (Nat.not_lt.2 (by have q_ := c13; simp only [ByteArray.size_append] at q_; exact q_))
          replace H := Option.bind_eq_some_iff.mp H
          obtain ⟨t249, A140, H⟩ := H
          replace H : (if (((((t240 ++ (⟨#[58, 32]⟩ : ByteArray)) ++ (rdOf ByteArray.empty t241 a0_2)) ++ (⟨#[32]⟩ : ByteArray)) ++ (rdOf ByteArray.empty t245 a0_1)) ++ (⟨#[44, 32, 97, 114, 101, 97, 32]⟩ : ByteArray)).size + t249.size ≤ 9223372036854775807 then (if ((((((t240 ++ (⟨#[58, 32]⟩ : ByteArray)) ++ (rdOf ByteArray.empty t241 a0_2)) ++ (⟨#[32]⟩ : ByteArray)) ++ (rdOf ByteArray.empty t245 a0_1)) ++ (⟨#[44, 32, 97, 114, 101, 97, 32]⟩ : ByteArray)) ++ t249).size + 8 ≤ 9223372036854775807 then ((spec_l1Num.f k a0_4).bind fun t250 => (if (((((((t240 ++ (⟨#[58, 32]⟩ : ByteArray)) ++ (rdOf ByteArray.empty t241 a0_2)) ++ (⟨#[32]⟩ : ByteArray)) ++ (rdOf ByteArray.empty t245 a0_1)) ++ (⟨#[44, 32, 97, 114, 101, 97, 32]⟩ : ByteArray)) ++ t249) ++ (⟨#[44, 32, 104, 111, 117, 114, 115, 32]⟩ : ByteArray)).size + t250.size ≤ 9223372036854775807 then (if ((((((((t240 ++ (⟨#[58, 32]⟩ : ByteArray)) ++ (rdOf ByteArray.empty t241 a0_2)) ++ (⟨#[32]⟩ : ByteArray)) ++ (rdOf ByteArray.empty t245 a0_1)) ++ (⟨#[44, 32, 97, 114, 101, 97, 32]⟩ : ByteArray)) ++ t249) ++ (⟨#[44, 32, 104, 111, 117, 114, 115, 32]⟩ : ByteArray)) ++ t250).size + 1 ≤ 9223372036854775807 then ((spec_l1Num.f k a0_5).bind fun t251 => (if (((((((((t240 ++ (⟨#[58, 32]⟩ : ByteArray)) ++ (rdOf ByteArray.empty t241 a0_2)) ++ (⟨#[32]⟩ : ByteArray)) ++ (rdOf ByteArray.empty t245 a0_1)) ++ (⟨#[44, 32, 97, 114, 101, 97, 32]⟩ : ByteArray)) ++ t249) ++ (⟨#[44, 32, 104, 111, 117, 114, 115, 32]⟩ : ByteArray)) ++ t250) ++ (⟨#[45]⟩ : ByteArray)).size + t251.size ≤ 9223372036854775807 then (some ((((((((((t240 ++ (⟨#[58, 32]⟩ : ByteArray)) ++ (rdOf ByteArray.empty t241 a0_2)) ++ (⟨#[32]⟩ : ByteArray)) ++ (rdOf ByteArray.empty t245 a0_1)) ++ (⟨#[44, 32, 97, 114, 101, 97, 32]⟩ : ByteArray)) ++ t249) ++ (⟨#[44, 32, 104, 111, 117, 114, 115, 32]⟩ : ByteArray)) ++ t250) ++ (⟨#[45]⟩ : ByteArray)) ++ t251)) else (none))) else (none)) else (none))) else (none)) else (none)) = some r := H
          have A14 := Aside0.mk A140
          clear A140
          by_cases c15 : (((((t240 ++ (⟨#[58, 32]⟩ : ByteArray)) ++ (rdOf ByteArray.empty t241 a0_2)) ++ (⟨#[32]⟩ : ByteArray)) ++ (rdOf ByteArray.empty t245 a0_1)) ++ (⟨#[44, 32, 97, 114, 101, 97, 32]⟩ : ByteArray)).size + t249.size ≤ 9223372036854775807
          ·
           rw [if_pos c15] at H
           have c15b0 := eq_true c15
           have c15b1 : decide ((((((t240 ++ (⟨#[58, 32]⟩ : ByteArray)) ++ (rdOf ByteArray.empty t241 a0_2)) ++ (⟨#[32]⟩ : ByteArray)) ++ (rdOf ByteArray.empty t245 a0_1)) ++ (⟨#[44, 32, 97, 114, 101, 97, 32]⟩ : ByteArray)).size + t249.size ≤ 9223372036854775807) = true := decide_eq_true c15
           try have c15b2 : (9223372036854775807 < (((((t240 ++ (⟨#[58, 32]⟩ : ByteArray)) ++ (rdOf ByteArray.empty t241 a0_2)) ++ (⟨#[32]⟩ : ByteArray)) ++ (rdOf ByteArray.empty t245 a0_1)) ++ (⟨#[44, 32, 97, 114, 101, 97, 32]⟩ : ByteArray)).size + t249.size) = False := eq_false (Nat.not_lt.2 c15)
           try have c15b3 : (9223372036854775807 < t240.size + 2 + (rdOf ByteArray.empty t241 a0_2).size + 1 + (rdOf ByteArray.empty t245 a0_1).size + 7 + t249.size) = False := eq_false (Nat.not_lt.2 (by have q_ := c15; simp only [ByteArray.size_append] at q_; exact q_))
           by_cases c16 : ((((((t240 ++ (⟨#[58, 32]⟩ : ByteArray)) ++ (rdOf ByteArray.empty t241 a0_2)) ++ (⟨#[32]⟩ : ByteArray)) ++ (rdOf ByteArray.empty t245 a0_1)) ++ (⟨#[44, 32, 97, 114, 101, 97, 32]⟩ : ByteArray)) ++ t249).size + 8 ≤ 9223372036854775807
           ·
            rw [if_pos c16] at H
            have c16b0 := eq_true c16
            have c16b1 : decide (((((((t240 ++ (⟨#[58, 32]⟩ : ByteArray)) ++ (rdOf ByteArray.empty t241 a0_2)) ++ (⟨#[32]⟩ : ByteArray)) ++ (rdOf ByteArray.empty t245 a0_1)) ++ (⟨#[44, 32, 97, 114, 101, 97, 32]⟩ : ByteArray)) ++ t249).size + 8 ≤ 9223372036854775807) = true := decide_eq_true c16
            try have c16b2 : (9223372036854775807 < ((((((t240 ++ (⟨#[58, 32]⟩ : ByteArray)) ++ (rdOf ByteArray.empty t241 a0_2)) ++ (⟨#[32]⟩ : ByteArray)) ++ (rdOf ByteArray.empty t245 a0_1)) ++ (⟨#[44, 32, 97, 114, 101, 97, 32]⟩ : ByteArray)) ++ t249).size + 8) = False := eq_false (Nat.not_lt.2 c16)
            try have c16b3 : (9223372036854775807 < t240.size + 2 + (rdOf ByteArray.empty t241 a0_2).size + 1 + (rdOf ByteArray.empty t245 a0_1).size + 7 + t249.size + 8) = False := eq_false (Nat.not_lt.2 (by have q_ := c16; simp only [ByteArray.size_append] at q_; exact q_))
            replace H := Option.bind_eq_some_iff.mp H
            obtain ⟨t250, A170, H⟩ := H
            replace H : (if (((((((t240 ++ (⟨#[58, 32]⟩ : ByteArray)) ++ (rdOf ByteArray.empty t241 a0_2)) ++ (⟨#[32]⟩ : ByteArray)) ++ (rdOf ByteArray.empty t245 a0_1)) ++ (⟨#[44, 32, 97, 114, 101, 97, 32]⟩ : ByteArray)) ++ t249) ++ (⟨#[44, 32, 104, 111, 117, 114, 115, 32]⟩ : ByteArray)).size + t250.size ≤ 9223372036854775807 then (if ((((((((t240 ++ (⟨#[58, 32]⟩ : ByteArray)) ++ (rdOf ByteArray.empty t241 a0_2)) ++ (⟨#[32]⟩ : ByteArray)) ++ (rdOf ByteArray.empty t245 a0_1)) ++ (⟨#[44, 32, 97, 114, 101, 97, 32]⟩ : ByteArray)) ++ t249) ++ (⟨#[44, 32, 104, 111, 117, 114, 115, 32]⟩ : ByteArray)) ++ t250).size + 1 ≤ 9223372036854775807 then ((spec_l1Num.f k a0_5).bind fun t251 => (if (((((((((t240 ++ (⟨#[58, 32]⟩ : ByteArray)) ++ (rdOf ByteArray.empty t241 a0_2)) ++ (⟨#[32]⟩ : ByteArray)) ++ (rdOf ByteArray.empty t245 a0_1)) ++ (⟨#[44, 32, 97, 114, 101, 97, 32]⟩ : ByteArray)) ++ t249) ++ (⟨#[44, 32, 104, 111, 117, 114, 115, 32]⟩ : ByteArray)) ++ t250) ++ (⟨#[45]⟩ : ByteArray)).size + t251.size ≤ 9223372036854775807 then (some ((((((((((t240 ++ (⟨#[58, 32]⟩ : ByteArray)) ++ (rdOf ByteArray.empty t241 a0_2)) ++ (⟨#[32]⟩ : ByteArray)) ++ (rdOf ByteArray.empty t245 a0_1)) ++ (⟨#[44, 32, 97, 114, 101, 97, 32]⟩ : ByteArray)) ++ t249) ++ (⟨#[44, 32, 104, 111, 117, 114, 115, 32]⟩ : ByteArray)) ++ t250) ++ (⟨#[45]⟩ : ByteArray)) ++ t251)) else (none))) else (none)) else (none)) = some r := H
            have A17 := Aside0.mk A170
            clear A170
            by_cases c18 : (((((((t240 ++ (⟨#[58, 32]⟩ : ByteArray)) ++ (rdOf ByteArray.empty t241 a0_2)) ++ (⟨#[32]⟩ : ByteArray)) ++ (rdOf ByteArray.empty t245 a0_1)) ++ (⟨#[44, 32, 97, 114, 101, 97, 32]⟩ : ByteArray)) ++ t249) ++ (⟨#[44, 32, 104, 111, 117, 114, 115, 32]⟩ : ByteArray)).size + t250.size ≤ 9223372036854775807
            ·
             rw [if_pos c18] at H
             have c18b0 := eq_true c18
             have c18b1 : decide ((((((((t240 ++ (⟨#[58, 32]⟩ : ByteArray)) ++ (rdOf ByteArray.empty t241 a0_2)) ++ (⟨#[32]⟩ : ByteArray)) ++ (rdOf ByteArray.empty t245 a0_1)) ++ (⟨#[44, 32, 97, 114, 101, 97, 32]⟩ : ByteArray)) ++ t249) ++ (⟨#[44, 32, 104, 111, 117, 114, 115, 32]⟩ : ByteArray)).size + t250.size ≤ 9223372036854775807) = true := decide_eq_true c18
             try have c18b2 : (9223372036854775807 < (((((((t240 ++ (⟨#[58, 32]⟩ : ByteArray)) ++ (rdOf ByteArray.empty t241 a0_2)) ++ (⟨#[32]⟩ : ByteArray)) ++ (rdOf ByteArray.empty t245 a0_1)) ++ (⟨#[44, 32, 97, 114, 101, 97, 32]⟩ : ByteArray)) ++ t249) ++ (⟨#[44, 32, 104, 111, 117, 114, 115, 32]⟩ : ByteArray)).size + t250.size) = False := eq_false (Nat.not_lt.2 c18)
             try have c18b3 : (9223372036854775807 < t240.size + 2 + (rdOf ByteArray.empty t241 a0_2).size + 1 + (rdOf ByteArray.empty t245 a0_1).size + 7 + t249.size + 8 + t250.size) = False := eq_false (Nat.not_lt.2 (by have q_ := c18; simp only [ByteArray.size_append] at q_; exact q_))
             by_cases c19 : ((((((((t240 ++ (⟨#[58, 32]⟩ : ByteArray)) ++ (rdOf ByteArray.empty t241 a0_2)) ++ (⟨#[32]⟩ : ByteArray)) ++ (rdOf ByteArray.empty t245 a0_1)) ++ (⟨#[44, 32, 97, 114, 101, 97, 32]⟩ : ByteArray)) ++ t249) ++ (⟨#[44, 32, 104, 111, 117, 114, 115, 32]⟩ : ByteArray)) ++ t250).size + 1 ≤ 9223372036854775807
             ·
              rw [if_pos c19] at H
              have c19b0 := eq_true c19
              have c19b1 : decide (((((((((t240 ++ (⟨#[58, 32]⟩ : ByteArray)) ++ (rdOf ByteArray.empty t241 a0_2)) ++ (⟨#[32]⟩ : ByteArray)) ++ (rdOf ByteArray.empty t245 a0_1)) ++ (⟨#[44, 32, 97, 114, 101, 97, 32]⟩ : ByteArray)) ++ t249) ++ (⟨#[44, 32, 104, 111, 117, 114, 115, 32]⟩ : ByteArray)) ++ t250).size + 1 ≤ 9223372036854775807) = true := decide_eq_true c19
              try have c19b2 : (9223372036854775807 < ((((((((t240 ++ (⟨#[58, 32]⟩ : ByteArray)) ++ (rdOf ByteArray.empty t241 a0_2)) ++ (⟨#[32]⟩ : ByteArray)) ++ (rdOf ByteArray.empty t245 a0_1)) ++ (⟨#[44, 32, 97, 114, 101, 97, 32]⟩ : ByteArray)) ++ t249) ++ (⟨#[44, 32, 104, 111, 117, 114, 115, 32]⟩ : ByteArray)) ++ t250).size + 1) = False := eq_false (Nat.not_lt.2 c19)
              try have c19b3 : (9223372036854775807 < t240.size + 2 + (rdOf ByteArray.empty t241 a0_2).size + 1 + (rdOf ByteArray.empty t245 a0_1).size + 7 + t249.size + 8 + t250.size + 1) = False := eq_false (Nat.not_lt.2 (by have q_ := c19; simp only [ByteArray.size_append] at q_; exact q_))
              replace H := Option.bind_eq_some_iff.mp H
              obtain ⟨t251, A200, H⟩ := H
              replace H : (if (((((((((t240 ++ (⟨#[58, 32]⟩ : ByteArray)) ++ (rdOf ByteArray.empty t241 a0_2)) ++ (⟨#[32]⟩ : ByteArray)) ++ (rdOf ByteArray.empty t245 a0_1)) ++ (⟨#[44, 32, 97, 114, 101, 97, 32]⟩ : ByteArray)) ++ t249) ++ (⟨#[44, 32, 104, 111, 117, 114, 115, 32]⟩ : ByteArray)) ++ t250) ++ (⟨#[45]⟩ : ByteArray)).size + t251.size ≤ 9223372036854775807 then (some ((((((((((t240 ++ (⟨#[58, 32]⟩ : ByteArray)) ++ (rdOf ByteArray.empty t241 a0_2)) ++ (⟨#[32]⟩ : ByteArray)) ++ (rdOf ByteArray.empty t245 a0_1)) ++ (⟨#[44, 32, 97, 114, 101, 97, 32]⟩ : ByteArray)) ++ t249) ++ (⟨#[44, 32, 104, 111, 117, 114, 115, 32]⟩ : ByteArray)) ++ t250) ++ (⟨#[45]⟩ : ByteArray)) ++ t251)) else (none)) = some r := H
              have A20 := Aside0.mk A200
              clear A200
              by_cases c21 : (((((((((t240 ++ (⟨#[58, 32]⟩ : ByteArray)) ++ (rdOf ByteArray.empty t241 a0_2)) ++ (⟨#[32]⟩ : ByteArray)) ++ (rdOf ByteArray.empty t245 a0_1)) ++ (⟨#[44, 32, 97, 114, 101, 97, 32]⟩ : ByteArray)) ++ t249) ++ (⟨#[44, 32, 104, 111, 117, 114, 115, 32]⟩ : ByteArray)) ++ t250) ++ (⟨#[45]⟩ : ByteArray)).size + t251.size ≤ 9223372036854775807
              ·
               rw [if_pos c21] at H
               have c21b0 := eq_true c21
               have c21b1 : decide ((((((((((t240 ++ (⟨#[58, 32]⟩ : ByteArray)) ++ (rdOf ByteArray.empty t241 a0_2)) ++ (⟨#[32]⟩ : ByteArray)) ++ (rdOf ByteArray.empty t245 a0_1)) ++ (⟨#[44, 32, 97, 114, 101, 97, 32]⟩ : ByteArray)) ++ t249) ++ (⟨#[44, 32, 104, 111, 117, 114, 115, 32]⟩ : ByteArray)) ++ t250) ++ (⟨#[45]⟩ : ByteArray)).size + t251.size ≤ 9223372036854775807) = true := decide_eq_true c21
               try have c21b2 : (9223372036854775807 < (((((((((t240 ++ (⟨#[58, 32]⟩ : ByteArray)) ++ (rdOf ByteArray.empty t241 a0_2)) ++ (⟨#[32]⟩ : ByteArray)) ++ (rdOf ByteArray.empty t245 a0_1)) ++ (⟨#[44, 32, 97, 114, 101, 97, 32]⟩ : ByteArray)) ++ t249) ++ (⟨#[44, 32, 104, 111, 117, 114, 115, 32]⟩ : ByteArray)) ++ t250) ++ (⟨#[45]⟩ : ByteArray)).size + t251.size) = False := eq_false (Nat.not_lt.2 c21)
               try have c21b3 : (9223372036854775807 < t240.size + 2 + (rdOf ByteArray.empty t241 a0_2).size + 1 + (rdOf ByteArray.empty t245 a0_1).size + 7 + t249.size + 8 + t250.size + 1 + t251.size) = False := eq_false (Nat.not_lt.2 (by have q_ := c21; simp only [ByteArray.size_append] at q_; exact q_))
               obtain rfl := Option.some.inj H
               go_enter Tryd.func47, Tryd.ntmps47
               try go_wp2_with (first | ((with_reducible refine gate_dst (N := 1) rfl ?_); refine box_event ?hg (N := 1) ?hd (cs := #[.int .i64 a0_0, .int .i64 a0_1, .int .i64 a0_2, .int .i64 a0_3, .int .i64 a0_4, .int .i64 a0_5]) (t := 42) ?hr ?_; (case hd => rfl); (case hg => rfl); (case hr => first | (go_simp; done) | (go_simp; rfl)); intro gb239 hg w22 hbox hb; have n0_ := Aside0.mk (below_step (by repeat (first | (with_reducible first | exact HB.out | apply below_alloc | apply pw_below_drewN | apply below_drew1) | exact HB.out)) hb); have n1_ := Aside0.mk (hbox); have n2_ := Aside0.mk ((by rw [hg]; exact (below_size (by repeat (first | (with_reducible first | exact HB.out | apply below_alloc | apply pw_below_drewN | apply below_drew1) | exact HB.out))) : w.heap.size ≤ gb239)); have n3_ := Aside0.mk ((by rw [hg]; exact (below_size (by repeat (first | (with_reducible first | exact HB.out | apply below_alloc | apply pw_below_drewN | apply below_drew1) | exact HB.out))) : w.heap.size ≤ gb239)); clear HB; have HB := n0_; have BK239 := n1_; have GW239 := n2_; have GE239 := n3_; clear n0_ n1_ n2_ n3_; clear hb hbox hg))
               have n0_ := Aside0.mk (blk_drew BK239.out)
               have n1_ := Aside0.mk (below_drew1 HB.out)
               clear BK239
               clear HB
               have BK239 := n0_
               have HB := n1_
               clear n0_ n1_
               refine start_ (n := 33) (S := fun w' => w'.cell? ⟨gb239, 0, none⟩ = some (.int .i64 a0_0) ∧ w'.cell? ⟨gb239, 1, none⟩ = some (.int .i64 a0_1) ∧ w'.cell? ⟨gb239, 2, none⟩ = some (.int .i64 a0_2) ∧ w'.cell? ⟨gb239, 3, none⟩ = some (.int .i64 a0_3) ∧ w'.cell? ⟨gb239, 4, none⟩ = some (.int .i64 a0_4) ∧ w'.cell? ⟨gb239, 5, none⟩ = some (.int .i64 a0_5)) (ds := []) #[false, false, false, false, false, false, false, false, false, false, false, false, false, false, false, false, false, false, false, false, false, false, false, false, false, false, false, false, false, false, false, false, false] (by kernel_rfl) rfl rfl ⟨(blk_cell BK239.out 0).trans rfl, (blk_cell BK239.out 1).trans rfl, (blk_cell BK239.out 2).trans rfl, (blk_cell BK239.out 3).trans rfl, (blk_cell BK239.out 4).trans rfl, (blk_cell BK239.out 5).trans rfl⟩ (fun hHeld => ?_); refine with_tabW spec_l17Line.tab1 spec_l17Line.bits1 (fun HT_ HW_ => ?_)
               generalize w22.drew = w23 at BK239 HB hHeld ⊢
               refine pure_ (i := 0) (N := some 3) (v := ?_) (a' := ?_) #[true, false, false, false, false, false, false, false, false, false, false, false, false, false, false, false, false, false, false, false, false, false, false, false, false, false, false, false, false, false, false, false, false] rfl rfl (any_of HT_.out (by kernel_rfl)) (fun _ _ _ h => h) (Or.inl ⟨by rfl, ?_⟩) ?_ ?_
               rotate_left
               ·
                intro w'
                go_simp
                with_reducible rfl
               rotate_left
               ·
                simp only [Act.put, List.setIfInBounds_toArray, List.set_cons_zero, List.set_cons_succ, i64_w, i32_w]
                rfl
               refine pure_ (i := 5) (N := some 8) (v := ?_) (a' := ?_) #[true, false, false, false, false, true, false, false, false, false, false, false, false, false, false, false, false, false, false, false, false, false, false, false, false, false, false, false, false, false, false, false, false] rfl rfl (any_of HT_.out (by kernel_rfl)) (fun _ _ _ h => h) (Or.inl ⟨by rfl, ?_⟩) ?_ ?_
               rotate_left
               ·
                intro w'
                go_simp
                with_reducible rfl
               rotate_left
               ·
                simp only [Act.put, List.setIfInBounds_toArray, List.set_cons_zero, List.set_cons_succ, i64_w, i32_w]
                rfl
               refine pure_ (i := 12) (N := some 15) (v := ?_) (a' := ?_) #[true, false, false, false, false, true, false, false, false, false, false, false, true, false, false, false, false, false, false, false, false, false, false, false, false, false, false, false, false, false, false, false, false] rfl rfl (any_of HT_.out (by kernel_rfl)) (fun _ _ _ h => h) (Or.inl ⟨by rfl, ?_⟩) ?_ ?_
               rotate_left
               ·
                intro w'
                go_simp
                with_reducible rfl
               rotate_left
               ·
                simp only [Act.put, List.setIfInBounds_toArray, List.set_cons_zero, List.set_cons_succ, i64_w, i32_w]
                rfl
               refine pure_ (i := 18) (N := some 21) (v := ?_) (a' := ?_) #[true, false, false, false, false, true, false, false, false, false, false, false, true, false, false, false, false, false, true, false, false, false, false, false, false, false, false, false, false, false, false, false, false] rfl rfl (any_of HT_.out (by kernel_rfl)) (fun _ _ _ h => h) (Or.inl ⟨by rfl, ?_⟩) ?_ ?_
               rotate_left
               ·
                intro w'
                go_simp
                with_reducible rfl
               rotate_left
               ·
                simp only [Act.put, List.setIfInBounds_toArray, List.set_cons_zero, List.set_cons_succ, i64_w, i32_w]
                rfl
               refine pure_ (i := 23) (N := some 26) (v := ?_) (a' := ?_) #[true, false, false, false, false, true, false, false, false, false, false, false, true, false, false, false, false, false, true, false, false, false, false, true, false, false, false, false, false, false, false, false, false] rfl rfl (any_of HT_.out (by kernel_rfl)) (fun _ _ _ h => h) (Or.inl ⟨by rfl, ?_⟩) ?_ ?_
               rotate_left
               ·
                intro w'
                go_simp
                with_reducible rfl
               rotate_left
               ·
                simp only [Act.put, List.setIfInBounds_toArray, List.set_cons_zero, List.set_cons_succ, i64_w, i32_w]
                rfl
               refine pure_ (i := 28) (N := some 31) (v := ?_) (a' := ?_) #[true, false, false, false, false, true, false, false, false, false, false, false, true, false, false, false, false, false, true, false, false, false, false, true, false, false, false, false, true, false, false, false, false] rfl rfl (any_of HT_.out (by kernel_rfl)) (fun _ _ _ h => h) (Or.inl ⟨by rfl, ?_⟩) ?_ ?_
               rotate_left
               ·
                intro w'
                go_simp
                with_reducible rfl
               rotate_left
               ·
                simp only [Act.put, List.setIfInBounds_toArray, List.set_cons_zero, List.set_cons_succ, i64_w, i32_w]
                rfl
               refine take_ (i := 1) (N := some 4) (v := ?_) (a' := ?_) #[true, true, false, false, false, true, false, false, false, false, false, false, true, false, false, false, false, false, true, false, false, false, false, true, false, false, false, false, true, false, false, false, false] rfl rfl (take_ofW HT_.out HW_.out (by kernel_rfl)) (fun _ _ _ h => h) (Or.inl ⟨by rfl, ?_⟩) hHeld ?_ ?_
               rotate_left
               ·
                rintro w' ⟨s0, s1, s2, s3, s4, s5⟩
                go_simp
                with_reducible rfl
               rotate_left
               ·
                simp only [Act.put, List.setIfInBounds_toArray, List.set_cons_zero, List.set_cons_succ, i64_w, i32_w]
                rfl
               refine take_ (i := 6) (N := some 9) (v := ?_) (a' := ?_) #[true, true, false, false, false, true, true, false, false, false, false, false, true, false, false, false, false, false, true, false, false, false, false, true, false, false, false, false, true, false, false, false, false] rfl rfl (take_ofW HT_.out HW_.out (by kernel_rfl)) (fun _ _ _ h => h) (Or.inl ⟨by rfl, ?_⟩) hHeld ?_ ?_
               rotate_left
               ·
                rintro w' ⟨s0, s1, s2, s3, s4, s5⟩
                go_simp
                with_reducible rfl
               rotate_left
               ·
                simp only [Act.put, List.setIfInBounds_toArray, List.set_cons_zero, List.set_cons_succ, i64_w, i32_w]
                rfl
               refine take_ (i := 13) (N := some 16) (v := ?_) (a' := ?_) #[true, true, false, false, false, true, true, false, false, false, false, false, true, true, false, false, false, false, true, false, false, false, false, true, false, false, false, false, true, false, false, false, false] rfl rfl (take_ofW HT_.out HW_.out (by kernel_rfl)) (fun _ _ _ h => h) (Or.inl ⟨by rfl, ?_⟩) hHeld ?_ ?_
               rotate_left
               ·
                rintro w' ⟨s0, s1, s2, s3, s4, s5⟩
                go_simp
                with_reducible rfl
               rotate_left
               ·
                simp only [Act.put, List.setIfInBounds_toArray, List.set_cons_zero, List.set_cons_succ, i64_w, i32_w]
                rfl
               refine take_ (i := 19) (N := some 22) (v := ?_) (a' := ?_) #[true, true, false, false, false, true, true, false, false, false, false, false, true, true, false, false, false, false, true, true, false, false, false, true, false, false, false, false, true, false, false, false, false] rfl rfl (take_ofW HT_.out HW_.out (by kernel_rfl)) (fun _ _ _ h => h) (Or.inl ⟨by rfl, ?_⟩) hHeld ?_ ?_
               rotate_left
               ·
                rintro w' ⟨s0, s1, s2, s3, s4, s5⟩
                go_simp
                with_reducible rfl
               rotate_left
               ·
                simp only [Act.put, List.setIfInBounds_toArray, List.set_cons_zero, List.set_cons_succ, i64_w, i32_w]
                rfl
               refine take_ (i := 24) (N := some 27) (v := ?_) (a' := ?_) #[true, true, false, false, false, true, true, false, false, false, false, false, true, true, false, false, false, false, true, true, false, false, false, true, true, false, false, false, true, false, false, false, false] rfl rfl (take_ofW HT_.out HW_.out (by kernel_rfl)) (fun _ _ _ h => h) (Or.inl ⟨by rfl, ?_⟩) hHeld ?_ ?_
               rotate_left
               ·
                rintro w' ⟨s0, s1, s2, s3, s4, s5⟩
                go_simp
                with_reducible rfl
               rotate_left
               ·
                simp only [Act.put, List.setIfInBounds_toArray, List.set_cons_zero, List.set_cons_succ, i64_w, i32_w]
                rfl
               refine take_ (i := 29) (N := some 32) (v := ?_) (a' := ?_) #[true, true, false, false, false, true, true, false, false, false, false, false, true, true, false, false, false, false, true, true, false, false, false, true, true, false, false, false, true, true, false, false, false] rfl rfl (take_ofW HT_.out HW_.out (by kernel_rfl)) (fun _ _ _ h => h) (Or.inl ⟨by rfl, ?_⟩) hHeld ?_ ?_
               rotate_left
               ·
                rintro w' ⟨s0, s1, s2, s3, s4, s5⟩
                go_simp
                with_reducible rfl
               rotate_left
               ·
                simp only [Act.put, List.setIfInBounds_toArray, List.set_cons_zero, List.set_cons_succ, i64_w, i32_w]
                rfl
               refine one_ (i := 2) (N := some 5) #[true, true, true, false, false, true, true, false, false, false, false, false, true, true, false, false, false, false, true, true, false, false, false, true, true, false, false, false, true, true, false, false, false] rfl rfl (one_of HT_.out (by kernel_rfl)) (by decide) (fun K hK => ?_)
               refine goes_ Tryd.func40 (by kernel_rfl) rfl #[.int .i64 a0_0] (by rfl) rfl rfl (by (try simp only [List.map_toArray, List.map_cons, List.map_nil]); first | done | rfl | (simp only [List.length_drop, List.length_take]; rfl)) ?_
               with_reducible refine (spec_l1Num.calls k a0_0 t240 _ A2.out).mono ?_
               rintro e w24 ⟨rfl, hb⟩
               refine ⟨_, rfl, ?_⟩
               have n0_ := Aside0.mk (blk_below (g := gb239) (o := .cells #[.int .i64 a0_0, .int .i64 a0_1, .int .i64 a0_2, .int .i64 a0_3, .int .i64 a0_4, .int .i64 a0_5] 42 (0, 0)) (by (with_reducible repeat (first | refine blk_drewN ?_ _ | refine blk_drew ?_ | refine blk_alloc ?_ _)); exact BK239.out) hb)
               have n1_ := Aside0.mk (below_step (by repeat (first | (with_reducible first | exact HB.out | apply below_alloc | apply pw_below_drewN | apply below_drew1 | refine below_set ?_ GE239.out) | exact HB.out)) hb)
               clear BK239
               clear HB
               have BK239 := n0_
               have HB := n1_
               clear n0_ n1_
               (try clear hb)
               (try clear hb2)
               (try clear hk)
               (try clear hi)
               refine hK.out _ _ ⟨(blk_cell BK239.out 0).trans rfl, (blk_cell BK239.out 1).trans rfl, (blk_cell BK239.out 2).trans rfl, (blk_cell BK239.out 3).trans rfl, (blk_cell BK239.out 4).trans rfl, (blk_cell BK239.out 5).trans rfl⟩ (fun hHeld => ?_)
               clear hK K
               refine norm_ (a' := ?_) ?_ ?_
               rotate_left
               ·
                show Act.put _ (some 5) _ = _
                simp only [Act.put, List.setIfInBounds_toArray, List.set_cons_zero, List.set_cons_succ, i64_w, i32_w]
                rfl
               refine pure_ (i := 3) (N := some 6) (v := ?_) (a' := ?_) #[true, true, true, true, false, true, true, false, false, false, false, false, true, true, false, false, false, false, true, true, false, false, false, true, true, false, false, false, true, true, false, false, false] rfl rfl (any_of HT_.out (by kernel_rfl)) (fun _ _ _ h => h) (Or.inl ⟨by rfl, ?_⟩) ?_ ?_
               rotate_left
               ·
                intro w'
                go_simp
                with_reducible rfl
               rotate_left
               ·
                simp only [Act.put, List.setIfInBounds_toArray, List.set_cons_zero, List.set_cons_succ, i64_w, i32_w]
                rfl
               refine one_ (i := 4) (N := some 7) #[true, true, true, true, true, true, true, false, false, false, false, false, true, true, false, false, false, false, true, true, false, false, false, true, true, false, false, false, true, true, false, false, false] rfl rfl (one_of HT_.out (by kernel_rfl)) (by decide) (fun K hK => ?_)
               refine goes_ Tryd.func58 (by kernel_rfl) rfl #[] (by rfl) rfl rfl (by (try simp only [List.map_toArray, List.map_cons, List.map_nil]); first | done | rfl | (simp only [List.length_drop, List.length_take]; rfl)) ?_
               with_reducible refine (spec_l17Levels.calls  t241 _ A4.out).mono ?_
               rintro e w25 ⟨v242, rfl, ho0, hb⟩
               refine ⟨_, rfl, ?_⟩
               have n0_ := Aside0.mk (Kd.R_lower ho0 (below_size (by repeat (first | (with_reducible first | exact HB.out | apply below_alloc | apply pw_below_drewN | apply below_drew1 | refine below_set ?_ GE239.out) | exact HB.out))))
               have n1_ := Aside0.mk (blk_below (g := gb239) (o := .cells #[.int .i64 a0_0, .int .i64 a0_1, .int .i64 a0_2, .int .i64 a0_3, .int .i64 a0_4, .int .i64 a0_5] 42 (0, 0)) (by (with_reducible repeat (first | refine blk_drewN ?_ _ | refine blk_drew ?_ | refine blk_alloc ?_ _)); exact BK239.out) hb)
               have n2_ := Aside0.mk (below_step (by repeat (first | (with_reducible first | exact HB.out | apply below_alloc | apply pw_below_drewN | apply below_drew1 | refine below_set ?_ GE239.out) | exact HB.out)) hb)
               clear BK239
               clear HB
               have HO243 := n0_
               have BK239 := n1_
               have HB := n2_
               clear n0_ n1_ n2_
               (try clear hb)
               (try clear hb2)
               (try clear hk)
               (try clear hi)
               (try clear ho0)
               obtain ⟨Ao26, co26, eo26⟩ := Kd.R_slice HO243.out
               (first | subst eo26 | (injection eo26 with f1_ f2_ f3_; have f4_ := f1_.symm; have f5_ := f3_.symm; clear f1_ f2_ f3_; subst f4_; subst f5_))
               have p244 : 0 ≤ (a0_2 : Int) := of_decide_eq_true (by first | (with_reducible assumption) | assumption)
               have q244 : a0_2 < (t241.length : Int) := of_decide_eq_true (by first | (with_reducible assumption) | assumption)
               obtain ⟨ad244, e244, hx244_0⟩ := Kd.at_string (Kd.R_reads' HO243.out).2.2 a0_2 p244 q244
               cases e244
               replace p244 := eq_true p244
               replace q244 := eq_true q244
               refine hK.out _ _ ⟨(blk_cell BK239.out 0).trans rfl, (blk_cell BK239.out 1).trans rfl, (blk_cell BK239.out 2).trans rfl, (blk_cell BK239.out 3).trans rfl, (blk_cell BK239.out 4).trans rfl, (blk_cell BK239.out 5).trans rfl⟩ (fun hHeld => ?_)
               refine more_ (fun w' => w'.cell? ⟨gb239, 0, none⟩ = some (.int .i64 a0_0) ∧ w'.cell? ⟨gb239, 1, none⟩ = some (.int .i64 a0_1) ∧ w'.cell? ⟨gb239, 2, none⟩ = some (.int .i64 a0_2) ∧ w'.cell? ⟨gb239, 3, none⟩ = some (.int .i64 a0_3) ∧ w'.cell? ⟨gb239, 4, none⟩ = some (.int .i64 a0_4) ∧ w'.cell? ⟨gb239, 5, none⟩ = some (.int .i64 a0_5) ∧ w'.cell? (ad244.add (a0_2).toNat) = some (.string (rdOf ByteArray.empty t241 a0_2))) (fun _ h => ⟨h.1, h.2.1, h.2.2.1, h.2.2.2.1, h.2.2.2.2.1, h.2.2.2.2.2.1⟩) ⟨(blk_cell BK239.out 0).trans rfl, (blk_cell BK239.out 1).trans rfl, (blk_cell BK239.out 2).trans rfl, (blk_cell BK239.out 3).trans rfl, (blk_cell BK239.out 4).trans rfl, (blk_cell BK239.out 5).trans rfl, hx244_0⟩ (fun hHeld => ?_)
               clear hK K
               refine norm_ (a' := ?_) ?_ ?_
               rotate_left
               ·
                show Act.put _ (some 7) _ = _
                simp only [Act.put, List.setIfInBounds_toArray, List.set_cons_zero, List.set_cons_succ, i64_w, i32_w]
                rfl
               refine pure_ (i := 7) (N := some 10) (v := ?_) (a' := ?_) #[true, true, true, true, true, true, true, true, false, false, false, false, true, true, false, false, false, false, true, true, false, false, false, true, true, false, false, false, true, true, false, false, false] rfl rfl (any_of HT_.out (by kernel_rfl)) (fun _ _ _ h => h) (Or.inl ⟨by rfl, ?_⟩) ?_ ?_
               rotate_left
               ·
                intro w'
                go_simp
                with_reducible rfl
               rotate_left
               ·
                simp only [Act.put, List.setIfInBounds_toArray, List.set_cons_zero, List.set_cons_succ, i64_w, i32_w]
                rfl
               refine take_ (i := 8) (N := some 11) (v := ?_) (a' := ?_) #[true, true, true, true, true, true, true, true, true, false, false, false, true, true, false, false, false, false, true, true, false, false, false, true, true, false, false, false, true, true, false, false, false] rfl rfl (take_ofW HT_.out HW_.out (by kernel_rfl)) (fun _ _ _ h => h) (Or.inl ⟨by rfl, ?_⟩) hHeld ?_ ?_
               rotate_left
               ·
                rintro w' ⟨s0, s1, s2, s3, s4, s5, s6⟩
                go_simp
                with_reducible rfl
               rotate_left
               ·
                simp only [Act.put, List.setIfInBounds_toArray, List.set_cons_zero, List.set_cons_succ, i64_w, i32_w]
                rfl
               refine pure_ (i := 9) (N := some 12) (v := ?_) (a' := ?_) #[true, true, true, true, true, true, true, true, true, true, false, false, true, true, false, false, false, false, true, true, false, false, false, true, true, false, false, false, true, true, false, false, false] rfl rfl (any_of HT_.out (by kernel_rfl)) (fun _ _ _ h => h) (Or.inl ⟨by rfl, ?_⟩) ?_ ?_
               rotate_left
               ·
                intro w'
                go_simp
                with_reducible rfl
               rotate_left
               ·
                simp only [Act.put, List.setIfInBounds_toArray, List.set_cons_zero, List.set_cons_succ, i64_w, i32_w]
                rfl
               refine pure_ (i := 10) (N := some 13) (v := ?_) (a' := ?_) #[true, true, true, true, true, true, true, true, true, true, true, false, true, true, false, false, false, false, true, true, false, false, false, true, true, false, false, false, true, true, false, false, false] rfl rfl (any_of HT_.out (by kernel_rfl)) (fun _ _ _ h => h) (Or.inl ⟨by rfl, ?_⟩) ?_ ?_
               rotate_left
               ·
                intro w'
                go_simp
                with_reducible rfl
               rotate_left
               ·
                simp only [Act.put, List.setIfInBounds_toArray, List.set_cons_zero, List.set_cons_succ, i64_w, i32_w]
                rfl
               refine one_ (i := 11) (N := some 14) #[true, true, true, true, true, true, true, true, true, true, true, true, true, true, false, false, false, false, true, true, false, false, false, true, true, false, false, false, true, true, false, false, false] rfl rfl (one_of HT_.out (by kernel_rfl)) (by decide) (fun K hK => ?_)
               refine goes_ Tryd.func59 (by kernel_rfl) rfl #[] (by rfl) rfl rfl (by (try simp only [List.map_toArray, List.map_cons, List.map_nil]); first | done | rfl | (simp only [List.length_drop, List.length_take]; rfl)) ?_
               with_reducible refine (spec_l17Topics.calls  t245 _ A9.out).mono ?_
               rintro e w27 ⟨v246, rfl, ho0, hb⟩
               have HS6_ := (hb.cell (World.block_lt_of_cell? _ _ (hHeld.2.2.2.2.2.2))).trans (hHeld.2.2.2.2.2.2)
               refine ⟨_, rfl, ?_⟩
               have n0_ := Aside0.mk (Kd.R_elder' (by (with_reducible repeat (first | apply Kd.R_alloc | apply Kd.R_drewN | apply Kd.R_drew)); exact HO243.out) (Kd.R_base ho0) hb)
               have n1_ := Aside0.mk (Kd.R_lower (Kd.R_new' ho0 (Kd.R_lt (by (with_reducible repeat (first | apply Kd.R_alloc | apply Kd.R_drewN | apply Kd.R_drew)); exact HO243.out))) (below_size (by repeat (first | (with_reducible first | exact HB.out | apply below_alloc | apply pw_below_drewN | apply below_drew1 | refine below_set ?_ GE239.out) | exact HB.out))))
               have n2_ := Aside0.mk (blk_below (g := gb239) (o := .cells #[.int .i64 a0_0, .int .i64 a0_1, .int .i64 a0_2, .int .i64 a0_3, .int .i64 a0_4, .int .i64 a0_5] 42 (0, 0)) (by (with_reducible repeat (first | refine blk_drewN ?_ _ | refine blk_drew ?_ | refine blk_alloc ?_ _)); exact BK239.out) hb)
               have n3_ := Aside0.mk (below_step (by repeat (first | (with_reducible first | exact HB.out | apply below_alloc | apply pw_below_drewN | apply below_drew1 | refine below_set ?_ GE239.out) | exact HB.out)) hb)
               clear HO243
               clear BK239
               clear HB
               have HO243 := n0_
               have HO247 := n1_
               have BK239 := n2_
               have HB := n3_
               clear n0_ n1_ n2_ n3_
               (try clear hb)
               (try clear hb2)
               (try clear hk)
               (try clear hi)
               (try clear ho0)
               obtain ⟨Ao28, co28, eo28⟩ := Kd.R_slice HO247.out
               (first | subst eo28 | (injection eo28 with f1_ f2_ f3_; have f4_ := f1_.symm; have f5_ := f3_.symm; clear f1_ f2_ f3_; subst f4_; subst f5_))
               have p248 : 0 ≤ (a0_1 : Int) := of_decide_eq_true (by first | (with_reducible assumption) | assumption)
               have q248 : a0_1 < (t245.length : Int) := of_decide_eq_true (by first | (with_reducible assumption) | assumption)
               obtain ⟨ad248, e248, hx248_0⟩ := Kd.at_string (Kd.R_reads' HO247.out).2.2 a0_1 p248 q248
               cases e248
               replace p248 := eq_true p248
               replace q248 := eq_true q248
               refine hK.out _ _ ⟨(blk_cell BK239.out 0).trans rfl, (blk_cell BK239.out 1).trans rfl, (blk_cell BK239.out 2).trans rfl, (blk_cell BK239.out 3).trans rfl, (blk_cell BK239.out 4).trans rfl, (blk_cell BK239.out 5).trans rfl, HS6_⟩ (fun hHeld => ?_)
               refine more_ (fun w' => w'.cell? ⟨gb239, 0, none⟩ = some (.int .i64 a0_0) ∧ w'.cell? ⟨gb239, 1, none⟩ = some (.int .i64 a0_1) ∧ w'.cell? ⟨gb239, 2, none⟩ = some (.int .i64 a0_2) ∧ w'.cell? ⟨gb239, 3, none⟩ = some (.int .i64 a0_3) ∧ w'.cell? ⟨gb239, 4, none⟩ = some (.int .i64 a0_4) ∧ w'.cell? ⟨gb239, 5, none⟩ = some (.int .i64 a0_5) ∧ w'.cell? (ad244.add (a0_2).toNat) = some (.string (rdOf ByteArray.empty t241 a0_2)) ∧ w'.cell? (ad248.add (a0_1).toNat) = some (.string (rdOf ByteArray.empty t245 a0_1))) (fun _ h => ⟨h.1, h.2.1, h.2.2.1, h.2.2.2.1, h.2.2.2.2.1, h.2.2.2.2.2.1, h.2.2.2.2.2.2.1⟩) ⟨(blk_cell BK239.out 0).trans rfl, (blk_cell BK239.out 1).trans rfl, (blk_cell BK239.out 2).trans rfl, (blk_cell BK239.out 3).trans rfl, (blk_cell BK239.out 4).trans rfl, (blk_cell BK239.out 5).trans rfl, HS6_, hx248_0⟩ (fun hHeld => ?_)
               clear hK K
               refine norm_ (a' := ?_) ?_ ?_
               rotate_left
               ·
                show Act.put _ (some 14) _ = _
                simp only [Act.put, List.setIfInBounds_toArray, List.set_cons_zero, List.set_cons_succ, i64_w, i32_w]
                rfl
               refine pure_ (i := 14) (N := some 17) (v := ?_) (a' := ?_) #[true, true, true, true, true, true, true, true, true, true, true, true, true, true, true, false, false, false, true, true, false, false, false, true, true, false, false, false, true, true, false, false, false] rfl rfl (any_of HT_.out (by kernel_rfl)) (fun _ _ _ h => h) (Or.inl ⟨by rfl, ?_⟩) ?_ ?_
               rotate_left
               ·
                intro w'
                go_simp
                with_reducible rfl
               rotate_left
               ·
                simp only [Act.put, List.setIfInBounds_toArray, List.set_cons_zero, List.set_cons_succ, i64_w, i32_w]
                rfl
               refine take_ (i := 15) (N := some 18) (v := ?_) (a' := ?_) #[true, true, true, true, true, true, true, true, true, true, true, true, true, true, true, true, false, false, true, true, false, false, false, true, true, false, false, false, true, true, false, false, false] rfl rfl (take_ofW HT_.out HW_.out (by kernel_rfl)) (fun _ _ _ h => h) (Or.inl ⟨by rfl, ?_⟩) hHeld ?_ ?_
               rotate_left
               ·
                rintro w' ⟨s0, s1, s2, s3, s4, s5, s6, s7⟩
                go_simp
                with_reducible rfl
               rotate_left
               ·
                simp only [Act.put, List.setIfInBounds_toArray, List.set_cons_zero, List.set_cons_succ, i64_w, i32_w]
                rfl
               refine pure_ (i := 16) (N := some 19) (v := ?_) (a' := ?_) #[true, true, true, true, true, true, true, true, true, true, true, true, true, true, true, true, true, false, true, true, false, false, false, true, true, false, false, false, true, true, false, false, false] rfl rfl (any_of HT_.out (by kernel_rfl)) (fun _ _ _ h => h) (Or.inl ⟨by rfl, ?_⟩) ?_ ?_
               rotate_left
               ·
                intro w'
                go_simp
                with_reducible rfl
               rotate_left
               ·
                simp only [Act.put, List.setIfInBounds_toArray, List.set_cons_zero, List.set_cons_succ, i64_w, i32_w]
                rfl
               refine pure_ (i := 17) (N := some 20) (v := ?_) (a' := ?_) #[true, true, true, true, true, true, true, true, true, true, true, true, true, true, true, true, true, true, true, true, false, false, false, true, true, false, false, false, true, true, false, false, false] rfl rfl (any_of HT_.out (by kernel_rfl)) (fun _ _ _ h => h) (Or.inl ⟨by rfl, ?_⟩) ?_ ?_
               rotate_left
               ·
                intro w'
                go_simp
                with_reducible rfl
               rotate_left
               ·
                simp only [Act.put, List.setIfInBounds_toArray, List.set_cons_zero, List.set_cons_succ, i64_w, i32_w]
                rfl
               refine one_ (i := 20) (N := some 23) #[true, true, true, true, true, true, true, true, true, true, true, true, true, true, true, true, true, true, true, true, true, false, false, true, true, false, false, false, true, true, false, false, false] rfl rfl (one_of HT_.out (by kernel_rfl)) (by decide) (fun K hK => ?_)
               refine goes_ Tryd.func40 (by kernel_rfl) rfl #[.int .i64 a0_3] (by rfl) rfl rfl (by (try simp only [List.map_toArray, List.map_cons, List.map_nil]); first | done | rfl | (simp only [List.length_drop, List.length_take]; rfl)) ?_
               with_reducible refine (spec_l1Num.calls k a0_3 t249 _ A14.out).mono ?_
               rintro e w29 ⟨rfl, hb⟩
               have HS6_ := (hb.cell (World.block_lt_of_cell? _ _ (hHeld.2.2.2.2.2.2.1))).trans (hHeld.2.2.2.2.2.2.1)
               have HS7_ := (hb.cell (World.block_lt_of_cell? _ _ (hHeld.2.2.2.2.2.2.2))).trans (hHeld.2.2.2.2.2.2.2)
               refine ⟨_, rfl, ?_⟩
               have n0_ := Aside0.mk (Kd.R_below (by (with_reducible repeat (first | apply Kd.R_alloc | apply Kd.R_drewN | apply Kd.R_drew)); exact HO243.out) hb)
               have n1_ := Aside0.mk (Kd.R_below (by (with_reducible repeat (first | apply Kd.R_alloc | apply Kd.R_drewN | apply Kd.R_drew)); exact HO247.out) hb)
               have n2_ := Aside0.mk (blk_below (g := gb239) (o := .cells #[.int .i64 a0_0, .int .i64 a0_1, .int .i64 a0_2, .int .i64 a0_3, .int .i64 a0_4, .int .i64 a0_5] 42 (0, 0)) (by (with_reducible repeat (first | refine blk_drewN ?_ _ | refine blk_drew ?_ | refine blk_alloc ?_ _)); exact BK239.out) hb)
               have n3_ := Aside0.mk (below_step (by repeat (first | (with_reducible first | exact HB.out | apply below_alloc | apply pw_below_drewN | apply below_drew1 | refine below_set ?_ GE239.out) | exact HB.out)) hb)
               clear HO243
               clear HO247
               clear BK239
               clear HB
               have HO243 := n0_
               have HO247 := n1_
               have BK239 := n2_
               have HB := n3_
               clear n0_ n1_ n2_ n3_
               (try clear hb)
               (try clear hb2)
               (try clear hk)
               (try clear hi)
               refine hK.out _ _ ⟨(blk_cell BK239.out 0).trans rfl, (blk_cell BK239.out 1).trans rfl, (blk_cell BK239.out 2).trans rfl, (blk_cell BK239.out 3).trans rfl, (blk_cell BK239.out 4).trans rfl, (blk_cell BK239.out 5).trans rfl, HS6_, HS7_⟩ (fun hHeld => ?_)
               clear hK K
               refine norm_ (a' := ?_) ?_ ?_
               rotate_left
               ·
                show Act.put _ (some 23) _ = _
                simp only [Act.put, List.setIfInBounds_toArray, List.set_cons_zero, List.set_cons_succ, i64_w, i32_w]
                rfl
               refine pure_ (i := 21) (N := some 24) (v := ?_) (a' := ?_) #[true, true, true, true, true, true, true, true, true, true, true, true, true, true, true, true, true, true, true, true, true, true, false, true, true, false, false, false, true, true, false, false, false] rfl rfl (any_of HT_.out (by kernel_rfl)) (fun _ _ _ h => h) (Or.inl ⟨by rfl, ?_⟩) ?_ ?_
               rotate_left
               ·
                intro w'
                go_simp
                with_reducible rfl
               rotate_left
               ·
                simp only [Act.put, List.setIfInBounds_toArray, List.set_cons_zero, List.set_cons_succ, i64_w, i32_w]
                rfl
               refine pure_ (i := 22) (N := some 25) (v := ?_) (a' := ?_) #[true, true, true, true, true, true, true, true, true, true, true, true, true, true, true, true, true, true, true, true, true, true, true, true, true, false, false, false, true, true, false, false, false] rfl rfl (any_of HT_.out (by kernel_rfl)) (fun _ _ _ h => h) (Or.inl ⟨by rfl, ?_⟩) ?_ ?_
               rotate_left
               ·
                intro w'
                go_simp
                with_reducible rfl
               rotate_left
               ·
                simp only [Act.put, List.setIfInBounds_toArray, List.set_cons_zero, List.set_cons_succ, i64_w, i32_w]
                rfl
               refine one_ (i := 25) (N := some 28) #[true, true, true, true, true, true, true, true, true, true, true, true, true, true, true, true, true, true, true, true, true, true, true, true, true, true, false, false, true, true, false, false, false] rfl rfl (one_of HT_.out (by kernel_rfl)) (by decide) (fun K hK => ?_)
               refine goes_ Tryd.func40 (by kernel_rfl) rfl #[.int .i64 a0_4] (by rfl) rfl rfl (by (try simp only [List.map_toArray, List.map_cons, List.map_nil]); first | done | rfl | (simp only [List.length_drop, List.length_take]; rfl)) ?_
               with_reducible refine (spec_l1Num.calls k a0_4 t250 _ A17.out).mono ?_
               rintro e w30 ⟨rfl, hb⟩
               have HS6_ := (hb.cell (World.block_lt_of_cell? _ _ (hHeld.2.2.2.2.2.2.1))).trans (hHeld.2.2.2.2.2.2.1)
               have HS7_ := (hb.cell (World.block_lt_of_cell? _ _ (hHeld.2.2.2.2.2.2.2))).trans (hHeld.2.2.2.2.2.2.2)
               refine ⟨_, rfl, ?_⟩
               have n0_ := Aside0.mk (Kd.R_below (by (with_reducible repeat (first | apply Kd.R_alloc | apply Kd.R_drewN | apply Kd.R_drew)); exact HO243.out) hb)
               have n1_ := Aside0.mk (Kd.R_below (by (with_reducible repeat (first | apply Kd.R_alloc | apply Kd.R_drewN | apply Kd.R_drew)); exact HO247.out) hb)
               have n2_ := Aside0.mk (blk_below (g := gb239) (o := .cells #[.int .i64 a0_0, .int .i64 a0_1, .int .i64 a0_2, .int .i64 a0_3, .int .i64 a0_4, .int .i64 a0_5] 42 (0, 0)) (by (with_reducible repeat (first | refine blk_drewN ?_ _ | refine blk_drew ?_ | refine blk_alloc ?_ _)); exact BK239.out) hb)
               have n3_ := Aside0.mk (below_step (by repeat (first | (with_reducible first | exact HB.out | apply below_alloc | apply pw_below_drewN | apply below_drew1 | refine below_set ?_ GE239.out) | exact HB.out)) hb)
               clear HO243
               clear HO247
               clear BK239
               clear HB
               have HO243 := n0_
               have HO247 := n1_
               have BK239 := n2_
               have HB := n3_
               clear n0_ n1_ n2_ n3_
               (try clear hb)
               (try clear hb2)
               (try clear hk)
               (try clear hi)
               refine hK.out _ _ ⟨(blk_cell BK239.out 0).trans rfl, (blk_cell BK239.out 1).trans rfl, (blk_cell BK239.out 2).trans rfl, (blk_cell BK239.out 3).trans rfl, (blk_cell BK239.out 4).trans rfl, (blk_cell BK239.out 5).trans rfl, HS6_, HS7_⟩ (fun hHeld => ?_)
               clear hK K
               refine norm_ (a' := ?_) ?_ ?_
               rotate_left
               ·
                show Act.put _ (some 28) _ = _
                simp only [Act.put, List.setIfInBounds_toArray, List.set_cons_zero, List.set_cons_succ, i64_w, i32_w]
                rfl
               refine pure_ (i := 26) (N := some 29) (v := ?_) (a' := ?_) #[true, true, true, true, true, true, true, true, true, true, true, true, true, true, true, true, true, true, true, true, true, true, true, true, true, true, true, false, true, true, false, false, false] rfl rfl (any_of HT_.out (by kernel_rfl)) (fun _ _ _ h => h) (Or.inl ⟨by rfl, ?_⟩) ?_ ?_
               rotate_left
               ·
                intro w'
                go_simp
                with_reducible rfl
               rotate_left
               ·
                simp only [Act.put, List.setIfInBounds_toArray, List.set_cons_zero, List.set_cons_succ, i64_w, i32_w]
                rfl
               refine pure_ (i := 27) (N := some 30) (v := ?_) (a' := ?_) #[true, true, true, true, true, true, true, true, true, true, true, true, true, true, true, true, true, true, true, true, true, true, true, true, true, true, true, true, true, true, false, false, false] rfl rfl (any_of HT_.out (by kernel_rfl)) (fun _ _ _ h => h) (Or.inl ⟨by rfl, ?_⟩) ?_ ?_
               rotate_left
               ·
                intro w'
                go_simp
                with_reducible rfl
               rotate_left
               ·
                simp only [Act.put, List.setIfInBounds_toArray, List.set_cons_zero, List.set_cons_succ, i64_w, i32_w]
                rfl
               refine one_ (i := 30) (N := some 33) #[true, true, true, true, true, true, true, true, true, true, true, true, true, true, true, true, true, true, true, true, true, true, true, true, true, true, true, true, true, true, true, false, false] rfl rfl (one_of HT_.out (by kernel_rfl)) (by decide) (fun K hK => ?_)
               refine goes_ Tryd.func40 (by kernel_rfl) rfl #[.int .i64 a0_5] (by rfl) rfl rfl (by (try simp only [List.map_toArray, List.map_cons, List.map_nil]); first | done | rfl | (simp only [List.length_drop, List.length_take]; rfl)) ?_
               with_reducible refine (spec_l1Num.calls k a0_5 t251 _ A20.out).mono ?_
               rintro e w31 ⟨rfl, hb⟩
               have HS6_ := (hb.cell (World.block_lt_of_cell? _ _ (hHeld.2.2.2.2.2.2.1))).trans (hHeld.2.2.2.2.2.2.1)
               have HS7_ := (hb.cell (World.block_lt_of_cell? _ _ (hHeld.2.2.2.2.2.2.2))).trans (hHeld.2.2.2.2.2.2.2)
               refine ⟨_, rfl, ?_⟩
               have n0_ := Aside0.mk (Kd.R_below (by (with_reducible repeat (first | apply Kd.R_alloc | apply Kd.R_drewN | apply Kd.R_drew)); exact HO243.out) hb)
               have n1_ := Aside0.mk (Kd.R_below (by (with_reducible repeat (first | apply Kd.R_alloc | apply Kd.R_drewN | apply Kd.R_drew)); exact HO247.out) hb)
               have n2_ := Aside0.mk (blk_below (g := gb239) (o := .cells #[.int .i64 a0_0, .int .i64 a0_1, .int .i64 a0_2, .int .i64 a0_3, .int .i64 a0_4, .int .i64 a0_5] 42 (0, 0)) (by (with_reducible repeat (first | refine blk_drewN ?_ _ | refine blk_drew ?_ | refine blk_alloc ?_ _)); exact BK239.out) hb)
               have n3_ := Aside0.mk (below_step (by repeat (first | (with_reducible first | exact HB.out | apply below_alloc | apply pw_below_drewN | apply below_drew1 | refine below_set ?_ GE239.out) | exact HB.out)) hb)
               clear HO243
               clear HO247
               clear BK239
               clear HB
               have HO243 := n0_
               have HO247 := n1_
               have BK239 := n2_
               have HB := n3_
               clear n0_ n1_ n2_ n3_
               (try clear hb)
               (try clear hb2)
               (try clear hk)
               (try clear hi)
               refine hK.out _ _ ⟨(blk_cell BK239.out 0).trans rfl, (blk_cell BK239.out 1).trans rfl, (blk_cell BK239.out 2).trans rfl, (blk_cell BK239.out 3).trans rfl, (blk_cell BK239.out 4).trans rfl, (blk_cell BK239.out 5).trans rfl, HS6_, HS7_⟩ (fun hHeld => ?_)
               clear hK K
               refine norm_ (a' := ?_) ?_ ?_
               rotate_left
               ·
                show Act.put _ (some 33) _ = _
                simp only [Act.put, List.setIfInBounds_toArray, List.set_cons_zero, List.set_cons_succ, i64_w, i32_w]
                rfl
               refine pure_ (i := 31) (N := some 34) (v := ?_) (a' := ?_) #[true, true, true, true, true, true, true, true, true, true, true, true, true, true, true, true, true, true, true, true, true, true, true, true, true, true, true, true, true, true, true, true, false] rfl rfl (any_of HT_.out (by kernel_rfl)) (fun _ _ _ h => h) (Or.inl ⟨by rfl, ?_⟩) ?_ ?_
               rotate_left
               ·
                intro w'
                go_simp
                with_reducible rfl
               rotate_left
               ·
                simp only [Act.put, List.setIfInBounds_toArray, List.set_cons_zero, List.set_cons_succ, i64_w, i32_w]
                rfl
               refine pure_ (i := 32) (N := some 2) (v := ?_) (a' := ?_) #[true, true, true, true, true, true, true, true, true, true, true, true, true, true, true, true, true, true, true, true, true, true, true, true, true, true, true, true, true, true, true, true, true] rfl rfl (any_of HT_.out (by kernel_rfl)) (fun _ _ _ h => h) (Or.inl ⟨by rfl, ?_⟩) ?_ ?_
               rotate_left
               ·
                intro w'
                go_simp
                with_reducible rfl
               rotate_left
               ·
                simp only [Act.put, List.setIfInBounds_toArray, List.set_cons_zero, List.set_cons_succ, i64_w, i32_w]
                rfl
               refine done_ (done_of HT_.out (by kernel_rfl)) ?_
               try go_wp2
               go_ret
               exact ⟨by first | rfl | (simp [errW_none, errW_some] <;> rfl) | (simp [*, errW_none, errW_some] <;> rfl), by repeat (first | (with_reducible first | exact HB.out | apply below_alloc | apply pw_below_drewN | apply below_drew1 | refine below_set ?_ GE239.out) | exact HB.out)⟩
              ·
               rw [if_neg c21] at H
               exact absurd H (by simp)
             ·
              rw [if_neg c19] at H
              exact absurd H (by simp)
            ·
             rw [if_neg c18] at H
             exact absurd H (by simp)
           ·
            rw [if_neg c16] at H
            exact absurd H (by simp)
          ·
           rw [if_neg c15] at H
           exact absurd H (by simp)
         ·
          rw [if_neg c13] at H
          exact absurd H (by simp)
        ·
         rw [if_neg c12] at H
         exact absurd H (by simp)
       ·
        rw [if_neg c11] at H
        exact absurd H (by simp)
      ·
       rw [if_neg c10] at H
       exact absurd H (by simp)
     ·
      rw [if_neg c8] at H
      exact absurd H (by simp)
    ·
     rw [if_neg c7] at H
     exact absurd H (by simp)
   ·
    rw [if_neg c6] at H
    exact absurd H (by simp)
  ·
   rw [if_neg c5] at H
   exact absurd H (by simp)
 ·
  rw [if_neg c3] at H
  exact absurd H (by simp)

end Go.Proofs.YtnibkkfjgmfpnaaDoor.Q
namespace Go.Proofs.YtnibkkfjgmfpnaaDoor.Q
open Go.RowKit Go.Proofs.YtnibkkfjgmfpnaaDoorW.PrintWords Go.Proofs.YtnibkkfjgmfpnaaDoorW.PrintLast Go.Proofs.YtnibkkfjgmfpnaaDoorW.PrintMore
attribute [local go_sem] max2_int min2_int max_two min_two max_three min_three max_four min_four   -- for this text's walks alone
set_option linter.unusedVariables false
set_option linter.unusedSimpArgs false

/-! ### spec_l1Sum: function 60 -/
def spec_l1Sum.l0 : Nat → ByteArray → Int → Int → Option (Int)
 | 0, _, _, _ => none
 | k + 1, x0, x3, x4 => if x4 < (x0.size : Int) then (if 0 ≤ x4 then (spec_l1Sum.l0 k x0 (Int.tmod (wrap64 ((wrap64 ((wrap64 (41 * x3)) + (wrap64 (bt x0 x4)))) + 1)) 999979) (wrap64 (x4 + 1))) else (none)) else (some x3)
def spec_l1Sum.f (k : Nat) (a0 : ByteArray) : Option (Int) := spec_l1Sum.l0 k a0 7 0
theorem spec_l1Sum.mono_l : ∀ k, (∀ y0 y1 y2, LeO (spec_l1Sum.l0 k y0 y1 y2) (spec_l1Sum.l0 (k + 1) y0 y1 y2))
 | 0 => fun _ _ _ r h => by simp [spec_l1Sum.l0] at h
 | k + 1 => by
  have ih0 := spec_l1Sum.mono_l k
  ·
   intro y0 y1 y2
   unfold spec_l1Sum.l0
   repeat' first
   | (with_reducible exact ih0 _ _ _)
   | (with_reducible exact LeO.refl _)
   | (with_reducible exact LeO.none _)
   | (with_reducible refine LeO.ite ?_ ?_)
   | (with_reducible refine LeO.bind ?_ (fun _ => ?_))
   | exact ih0 _ _ _
   | exact LeO.none _
   | refine LeO.ite ?_ ?_
   | refine LeO.bind ?_ (fun _ => ?_)
theorem spec_l1Sum.mono : ∀ a0 k, LeO (spec_l1Sum.f k a0) (spec_l1Sum.f (k + 1) a0) := by
 intro a0 k
 have ih0 := spec_l1Sum.mono_l k
 unfold spec_l1Sum.f
 repeat' first
   | (with_reducible exact ih0 _ _ _)
   | (with_reducible exact LeO.refl _)
   | (with_reducible exact LeO.none _)
   | (with_reducible refine LeO.ite ?_ ?_)
   | (with_reducible refine LeO.bind ?_ (fun _ => ?_))
   | exact ih0 _ _ _
   | exact LeO.none _
   | refine LeO.ite ?_ ?_
   | refine LeO.bind ?_ (fun _ => ?_)
set_option maxHeartbeats 8000000 in
set_option maxRecDepth 100000 in
theorem spec_l1Sum.calls (k : Nat) (a0 : ByteArray) (r : Int) (w : World) (h : spec_l1Sum.f k a0 = some r) :
  Calls Tryd.prog 60 #[.string a0] w fun e w' => e = .returned (.int .i64 r) ∧ Drawn0 w w' := by
 have H : (spec_l1Sum.l0 k a0 7 0) = some r := h
 clear h
 have H' := Aside0.mk H
 clear H
 go_enter Tryd.func60, Tryd.ntmps60
 go_wp2
 go_loopg [3, 4] k (fun kq v3 v4 w' => ∃ (x3_1 : Int) (x4_1 : Int), v3 = .int .i64 x3_1 ∧ v4 = .int .i64 x4_1 ∧ Aside0 (spec_l1Sum.l0 kq a0 x3_1 x4_1 = some r) ∧ Aside0 (kq ≤ k) ∧ Drawn0 w w')
 case atStart => exact ⟨(7), (0), (by first | rfl | (simp; done) | (simp [*]; done)), (by first | rfl | (simp; done) | (simp [*]; done)), H', ⟨Nat.le_refl _⟩, by repeat (first | exact Drawn0.refl _ | apply Drawn0.step)⟩
 case round =>
  clear H'
  obtain ⟨x3_1, x4_1, rfl, rfl, HA, HK1, ⟨m1, rfl⟩⟩ := hrel
  cases gk with
  | zero => exact absurd HA.out (by simp [spec_l1Sum.l0])
  | succ k1 =>
   have H := HA.out
   clear HA
   simp only [spec_l1Sum.l0] at H
   by_cases c2 : x4_1 < (a0.size : Int)
   ·
    rw [if_pos c2] at H
    have c2b0 : decide (x4_1 < (a0.size : Int)) = true := decide_eq_true c2
    clear c2
    by_cases c3 : 0 ≤ x4_1
    ·
     rw [if_pos c3] at H
     have c3b0 : decide (0 ≤ x4_1) = true := decide_eq_true c3
     clear c3
     have H' := Aside0.mk H
     clear H
     have p4 : 0 ≤ (x4_1 : Int) := of_decide_eq_true (by first | (with_reducible assumption) | assumption)
     have q4 : x4_1 < (a0.size : Int) := of_decide_eq_true (by first | (with_reducible assumption) | assumption)
     have hx4 := bt_at a0 x4_1
     replace p4 := eq_true p4
     replace q4 := eq_true q4
     go_wp2
     go_roundg k1
     case measure => have := HK1.out; omega
     case rel => exact ⟨(Int.tmod (wrap64 ((wrap64 ((wrap64 (41 * x3_1)) + (wrap64 (bt a0 x4_1)))) + 1)) 999979), (wrap64 (x4_1 + 1)), (by first | rfl | (simp; done) | (simp [*]; done)), (by first | rfl | (simp; done) | (simp [*]; done)), H', ⟨by have := HK1.out; omega⟩, by repeat (first | exact Drawn0.refl _ | apply Drawn0.step)⟩
    ·
     rw [if_neg c3] at H
     exact absurd H (by simp)
   ·
    rw [if_neg c2] at H
    have c2b0 : decide (x4_1 < (a0.size : Int)) = false := decide_eq_false c2
    clear c2
    obtain rfl := Option.some.inj H
    go_wp2
    go_ret
    exact ⟨by first | rfl | (simp; done) | (simp [*]; done), by repeat (first | exact Drawn0.refl _ | apply Drawn0.step)⟩

end Go.Proofs.YtnibkkfjgmfpnaaDoor.Q
namespace Go.Proofs.YtnibkkfjgmfpnaaDoor.Q
open Go.RowKit Go.Proofs.YtnibkkfjgmfpnaaDoorW.PrintWords Go.Proofs.YtnibkkfjgmfpnaaDoorW.PrintLast Go.Proofs.YtnibkkfjgmfpnaaDoorW.PrintMore
attribute [local go_sem] max2_int min2_int max_two min_two max_three min_three max_four min_four   -- for this text's walks alone
set_option linter.unusedVariables false
set_option linter.unusedSimpArgs false

/-! ### spec_l1Seal: function 48 -/
def spec_l1Seal.f (k : Nat) (a0 : ByteArray) : Option (ByteArray) := if a0.size + 1 ≤ 9223372036854775807 then ((spec_l1Sum.f k a0).bind fun t252 => ((spec_l1Num.f k t252).bind fun t253 => (if (a0 ++ (⟨#[35]⟩ : ByteArray)).size + t253.size ≤ 9223372036854775807 then (some ((a0 ++ (⟨#[35]⟩ : ByteArray)) ++ t253)) else (none)))) else (none)
theorem spec_l1Seal.mono : ∀ a0 k, LeO (spec_l1Seal.f k a0) (spec_l1Seal.f (k + 1) a0) := by
 intro a0 k
 unfold spec_l1Seal.f
 repeat' first
   | (with_reducible exact spec_l1Num.mono _ _)
   | (with_reducible exact spec_l1Sum.mono _ _)
   | (with_reducible exact LeO.refl _)
   | (with_reducible exact LeO.none _)
   | (with_reducible refine LeO.ite ?_ ?_)
   | (with_reducible refine LeO.bind ?_ (fun _ => ?_))
   | exact spec_l1Num.mono _ _
   | exact spec_l1Sum.mono _ _
   | exact LeO.none _
   | refine LeO.ite ?_ ?_
   | refine LeO.bind ?_ (fun _ => ?_)
set_option maxHeartbeats 8000000 in
set_option maxRecDepth 100000 in
theorem spec_l1Seal.calls (k : Nat) (a0 : ByteArray) (r : ByteArray) (w : World) (h : spec_l1Seal.f k a0 = some r) :
  Calls Tryd.prog 48 #[.string a0] w fun e w' => e = .returned (.string r) ∧ Below w.heap.size w w' := by
 have HB := Aside0.mk (Below.refl w.heap.size w)
 have H : (if a0.size + 1 ≤ 9223372036854775807 then ((spec_l1Sum.f k a0).bind fun t252 => ((spec_l1Num.f k t252).bind fun t253 => (if (a0 ++ (⟨#[35]⟩ : ByteArray)).size + t253.size ≤ 9223372036854775807 then (some ((a0 ++ (⟨#[35]⟩ : ByteArray)) ++ t253)) else (none)))) else (none)) = some r := h
 clear h
 by_cases c2 : a0.size + 1 ≤ 9223372036854775807
 ·
  rw [if_pos c2] at H
  have c2b0 := eq_true c2
  have c2b1 : decide (a0.size + 1 ≤ 9223372036854775807) = true := decide_eq_true c2
  try have c2b2 : (9223372036854775807 < a0.size + 1) = False := eq_false (Nat.not_lt.2 c2)
  replace H := Option.bind_eq_some_iff.mp H
  obtain ⟨t252, A30, H⟩ := H
  replace H : ((spec_l1Num.f k t252).bind fun t253 => (if (a0 ++ (⟨#[35]⟩ : ByteArray)).size + t253.size ≤ 9223372036854775807 then (some ((a0 ++ (⟨#[35]⟩ : ByteArray)) ++ t253)) else (none))) = some r := H
  have A3 := Aside0.mk A30
  clear A30
  replace H := Option.bind_eq_some_iff.mp H
  obtain ⟨t253, A40, H⟩ := H
  replace H : (if (a0 ++ (⟨#[35]⟩ : ByteArray)).size + t253.size ≤ 9223372036854775807 then (some ((a0 ++ (⟨#[35]⟩ : ByteArray)) ++ t253)) else (none)) = some r := H
  have A4 := Aside0.mk A40
  clear A40
  by_cases c5 : (a0 ++ (⟨#[35]⟩ : ByteArray)).size + t253.size ≤ 9223372036854775807
  ·
   rw [if_pos c5] at H
   have c5b0 := eq_true c5
   have c5b1 : decide ((a0 ++ (⟨#[35]⟩ : ByteArray)).size + t253.size ≤ 9223372036854775807) = true := decide_eq_true c5
   try have c5b2 : (9223372036854775807 < (a0 ++ (⟨#[35]⟩ : ByteArray)).size + t253.size) = False := eq_false (Nat.not_lt.2 c5)
   try have c5b3 : (9223372036854775807 < a0.size + 1 + t253.size) = False := eq_false (Nat.not_lt.2 (by have q_ := c5; simp only [ByteArray.size_append] at q_; exact q_))
   obtain rfl := Option.some.inj H
   go_enter Tryd.func48, Tryd.ntmps48
   go_wp2_with (first | ((with_reducible refine gate_callee (f := 60) rfl ?_); refine goesL_ (some 6) rfl rfl Tryd.func60 (by kernel_rfl) rfl #[.string a0] rfl (by (try simp only [List.map_toArray, List.map_cons, List.map_nil]); first | done | rfl | (simp only [List.length_drop, List.length_take]; rfl)) ?_; (with_reducible refine (spec_l1Sum.calls k a0 t252 _ A3.out).mono ?_); rintro e w' ⟨rfl, ⟨nd, rfl⟩⟩; refine ⟨_, rfl, ?_⟩) | ((with_reducible refine gate_callee (f := 40) rfl ?_); refine goesL_ (some 7) rfl rfl Tryd.func40 (by kernel_rfl) rfl #[.int .i64 t252] rfl (by (try simp only [List.map_toArray, List.map_cons, List.map_nil]); first | done | rfl | (simp only [List.length_drop, List.length_take]; rfl)) ?_; (with_reducible refine (spec_l1Num.calls k t252 t253 _ A4.out).mono ?_); rintro e w6 ⟨rfl, hb⟩; refine ⟨_, rfl, ?_⟩; have n0_ := Aside0.mk (below_step (by repeat (first | (with_reducible first | exact HB.out | apply below_alloc | apply pw_below_drewN | apply below_drew1) | exact HB.out)) hb); clear HB; have HB := n0_; clear n0_; (try clear hb); (try clear hb2); (try clear hk); (try clear hi)))
   go_ret
   exact ⟨by first | rfl | (simp [errW_none, errW_some] <;> rfl) | (simp [*, errW_none, errW_some] <;> rfl), by repeat (first | (with_reducible first | exact HB.out | apply below_alloc | apply pw_below_drewN | apply below_drew1) | exact HB.out)⟩
  ·
   rw [if_neg c5] at H
   exact absurd H (by simp)
 ·
  rw [if_neg c2] at H
  exact absurd H (by simp)

end Go.Proofs.YtnibkkfjgmfpnaaDoor.Q
namespace Go.Proofs.YtnibkkfjgmfpnaaDoor.Q
open Go.RowKit Go.Proofs.YtnibkkfjgmfpnaaDoorW.PrintWords Go.Proofs.YtnibkkfjgmfpnaaDoorW.PrintLast Go.Proofs.YtnibkkfjgmfpnaaDoorW.PrintMore
attribute [local go_sem] max2_int min2_int max_two min_two max_three min_three max_four min_four   -- for this text's walks alone
set_option linter.unusedVariables false
set_option linter.unusedSimpArgs false

/-! ### spec_l17Text: function 33 -/
def spec_l17Text.l0 : Nat → ByteArray → Int → Int → Int → List (S42) → Option (ByteArray)
 | 0, _, _, _, _, _ => none
 | k + 1, x3, x4, x255000, x255001, x255002 => if x4 < (x255002.length : Int) then (if 0 ≤ x4 then ((spec_l17Line.f k ((rd_T42 x255002 x4).f0) ((rd_T42 x255002 x4).f1) ((rd_T42 x255002 x4).f2) ((rd_T42 x255002 x4).f3) ((rd_T42 x255002 x4).f4) ((rd_T42 x255002 x4).f5)).bind fun t258 => (if x3.size + t258.size ≤ 9223372036854775807 then (if (x3 ++ t258).size + 1 ≤ 9223372036854775807 then (spec_l17Text.l0 k ((x3 ++ t258) ++ (⟨#[10]⟩ : ByteArray)) (wrap64 (x4 + 1)) x255000 x255001 x255002) else (none)) else (none))) else (none)) else ((spec_l1Seal.f k x3).bind fun t259 => (some t259))
def spec_l17Text.f (k : Nat) (a0_0 : Int) (a0_1 : Int) (l0_2 : List (S42)) : Option (ByteArray) := (spec_l1Num.f k a0_0).bind fun t255 => (if 9 + t255.size ≤ 9223372036854775807 then (if ((⟨#[98, 117, 108, 108, 101, 116, 105, 110, 32]⟩ : ByteArray) ++ t255).size + 9 ≤ 9223372036854775807 then ((spec_l1Num.f k a0_1).bind fun t256 => (if (((⟨#[98, 117, 108, 108, 101, 116, 105, 110, 32]⟩ : ByteArray) ++ t255) ++ (⟨#[32, 97, 116, 32, 104, 111, 117, 114, 32]⟩ : ByteArray)).size + t256.size ≤ 9223372036854775807 then (if ((((⟨#[98, 117, 108, 108, 101, 116, 105, 110, 32]⟩ : ByteArray) ++ t255) ++ (⟨#[32, 97, 116, 32, 104, 111, 117, 114, 32]⟩ : ByteArray)) ++ t256).size + 1 ≤ 9223372036854775807 then (spec_l17Text.l0 k (((((⟨#[98, 117, 108, 108, 101, 116, 105, 110, 32]⟩ : ByteArray) ++ t255) ++ (⟨#[32, 97, 116, 32, 104, 111, 117, 114, 32]⟩ : ByteArray)) ++ t256) ++ (⟨#[10]⟩ : ByteArray)) 0 a0_0 a0_1 l0_2) else (none)) else (none))) else (none)) else (none))
theorem spec_l17Text.mono_l : ∀ k, (∀ y0 y1 y2 y3 y4, LeO (spec_l17Text.l0 k y0 y1 y2 y3 y4) (spec_l17Text.l0 (k + 1) y0 y1 y2 y3 y4))
 | 0 => fun _ _ _ _ _ r h => by simp [spec_l17Text.l0] at h
 | k + 1 => by
  have ih0 := spec_l17Text.mono_l k
  ·
   intro y0 y1 y2 y3 y4
   unfold spec_l17Text.l0
   repeat' first
   | (with_reducible exact ih0 _ _ _ _ _)
   | (with_reducible exact spec_l17Line.mono _ _ _ _ _ _ _)
   | (with_reducible exact spec_l1Num.mono _ _)
   | (with_reducible exact spec_l1Seal.mono _ _)
   | (with_reducible exact LeO.refl _)
   | (with_reducible exact LeO.none _)
   | (with_reducible refine LeO.ite ?_ ?_)
   | (with_reducible refine LeO.bind ?_ (fun _ => ?_))
   | exact ih0 _ _ _ _ _
   | exact spec_l17Line.mono _ _ _ _ _ _ _
   | exact spec_l1Num.mono _ _
   | exact spec_l1Seal.mono _ _
   | exact LeO.none _
   | refine LeO.ite ?_ ?_
   | refine LeO.bind ?_ (fun _ => ?_)
theorem spec_l17Text.mono : ∀ a0 a1 a2 k, LeO (spec_l17Text.f k a0 a1 a2) (spec_l17Text.f (k + 1) a0 a1 a2) := by
 intro a0 a1 a2 k
 have ih0 := spec_l17Text.mono_l k
 unfold spec_l17Text.f
 repeat' first
   | (with_reducible exact ih0 _ _ _ _ _)
   | (with_reducible exact spec_l17Line.mono _ _ _ _ _ _ _)
   | (with_reducible exact spec_l1Num.mono _ _)
   | (with_reducible exact spec_l1Seal.mono _ _)
   | (with_reducible exact LeO.refl _)
   | (with_reducible exact LeO.none _)
   | (with_reducible refine LeO.ite ?_ ?_)
   | (with_reducible refine LeO.bind ?_ (fun _ => ?_))
   | exact ih0 _ _ _ _ _
   | exact spec_l17Line.mono _ _ _ _ _ _ _
   | exact spec_l1Num.mono _ _
   | exact spec_l1Seal.mono _ _
   | exact LeO.none _
   | refine LeO.ite ?_ ?_
   | refine LeO.bind ?_ (fun _ => ?_)
def spec_l17Text.T1 : Bool × List (List Nat × List Nat) := (true, [([], []), ([0], [0]), ([1], [1]), ([2], [2]), ([3], [3]), ([], []), ([5], [5]), ([6, 2], [6]), ([4, 7], [4, 7]), ([8], [8]), ([9, 7, 0, 1, 2, 3, 4, 5, 6, 7, 8, 9], [9])])
def spec_l17Text.B1 : List Nat := [0, 1, 3, 7, 15, 0, 32, 103, 255, 511, 1023]
theorem spec_l17Text.tab1 : rtab .any (opsOf Tryd.f33 1) = spec_l17Text.T1 := by kernel_rfl
theorem spec_l17Text.bits1 : waitsOk spec_l17Text.T1.2 spec_l17Text.B1 = true := by kernel_rfl
set_option maxHeartbeats 8000000 in
set_option maxRecDepth 100000 in
theorem spec_l17Text.calls (k : Nat) (a0_0 : Int) (a0_1 : Int) (A0_2 : Option Addr) (c0_2 : Nat) (l0_2 : List (S42)) (r : ByteArray) (w : World) (hr0_2 : Kd.C k42 w A0_2 l0_2.length l0_2) (hc0_2 : l0_2.length ≤ c0_2) (h : spec_l17Text.f k a0_0 a0_1 l0_2 = some r) :
  Calls Tryd.prog 33 #[.agg #[.int .i64 a0_0, .int .i64 a0_1, .slice A0_2 l0_2.length c0_2]] w fun e w' => e = .returned (.string r) ∧ Below w.heap.size w w' := by
 have hu35 := Tryd.underlying35
 have hu42 := Tryd.underlying42
 have HR0_2 := Aside0.mk hr0_2
 have HC0_2 := Aside0.mk hc0_2
 clear hr0_2 hc0_2
 have HB := Aside0.mk (Below.refl w.heap.size w)
 have H : ((spec_l1Num.f k a0_0).bind fun t255 => (if 9 + t255.size ≤ 9223372036854775807 then (if ((⟨#[98, 117, 108, 108, 101, 116, 105, 110, 32]⟩ : ByteArray) ++ t255).size + 9 ≤ 9223372036854775807 then ((spec_l1Num.f k a0_1).bind fun t256 => (if (((⟨#[98, 117, 108, 108, 101, 116, 105, 110, 32]⟩ : ByteArray) ++ t255) ++ (⟨#[32, 97, 116, 32, 104, 111, 117, 114, 32]⟩ : ByteArray)).size + t256.size ≤ 9223372036854775807 then (if ((((⟨#[98, 117, 108, 108, 101, 116, 105, 110, 32]⟩ : ByteArray) ++ t255) ++ (⟨#[32, 97, 116, 32, 104, 111, 117, 114, 32]⟩ : ByteArray)) ++ t256).size + 1 ≤ 9223372036854775807 then (spec_l17Text.l0 k (((((⟨#[98, 117, 108, 108, 101, 116, 105, 110, 32]⟩ : ByteArray) ++ t255) ++ (⟨#[32, 97, 116, 32, 104, 111, 117, 114, 32]⟩ : ByteArray)) ++ t256) ++ (⟨#[10]⟩ : ByteArray)) 0 a0_0 a0_1 l0_2) else (none)) else (none))) else (none)) else (none))) = some r := h
 clear h
 replace H := Option.bind_eq_some_iff.mp H
 obtain ⟨t255, A20, H⟩ := H
 replace H : (if 9 + t255.size ≤ 9223372036854775807 then (if ((⟨#[98, 117, 108, 108, 101, 116, 105, 110, 32]⟩ : ByteArray) ++ t255).size + 9 ≤ 9223372036854775807 then ((spec_l1Num.f k a0_1).bind fun t256 => (if (((⟨#[98, 117, 108, 108, 101, 116, 105, 110, 32]⟩ : ByteArray) ++ t255) ++ (⟨#[32, 97, 116, 32, 104, 111, 117, 114, 32]⟩ : ByteArray)).size + t256.size ≤ 9223372036854775807 then (if ((((⟨#[98, 117, 108, 108, 101, 116, 105, 110, 32]⟩ : ByteArray) ++ t255) ++ (⟨#[32, 97, 116, 32, 104, 111, 117, 114, 32]⟩ : ByteArray)) ++ t256).size + 1 ≤ 9223372036854775807 then (spec_l17Text.l0 k (((((⟨#[98, 117, 108, 108, 101, 116, 105, 110, 32]⟩ : ByteArray) ++ t255) ++ (⟨#[32, 97, 116, 32, 104, 111, 117, 114, 32]⟩ : ByteArray)) ++ t256) ++ (⟨#[10]⟩ : ByteArray)) 0 a0_0 a0_1 l0_2) else (none)) else (none))) else (none)) else (none)) = some r := H
 have A2 := Aside0.mk A20
 clear A20
 by_cases c3 : 9 + t255.size ≤ 9223372036854775807
 ·
  rw [if_pos c3] at H
  have c3b0 := eq_true c3
  have c3b1 : decide (9 + t255.size ≤ 9223372036854775807) = true := decide_eq_true c3
  try have c3b2 : (9223372036854775807 < 9 + t255.size) = False := eq_false (Nat.not_lt.2 c3)
  by_cases c4 : ((⟨#[98, 117, 108, 108, 101, 116, 105, 110, 32]⟩ : ByteArray) ++ t255).size + 9 ≤ 9223372036854775807
  ·
   rw [if_pos c4] at H
   have c4b0 := eq_true c4
   have c4b1 : decide (((⟨#[98, 117, 108, 108, 101, 116, 105, 110, 32]⟩ : ByteArray) ++ t255).size + 9 ≤ 9223372036854775807) = true := decide_eq_true c4
   try have c4b2 : (9223372036854775807 < ((⟨#[98, 117, 108, 108, 101, 116, 105, 110, 32]⟩ : ByteArray) ++ t255).size + 9) = False := eq_false (Nat.not_lt.2 c4)
   try have c4b3 : (9223372036854775807 < 9 + t255.size + 9) = False := eq_false (Nat.not_lt.2 (by have q_ := c4; simp only [ByteArray.size_append] at q_; exact q_))
   replace H := Option.bind_eq_some_iff.mp H
   obtain ⟨t256, A50, H⟩ := H
   replace H : (if (((⟨#[98, 117, 108, 108, 101, 116, 105, 110, 32]⟩ : ByteArray) ++ t255) ++ (⟨#[32, 97, 116, 32, 104, 111, 117, 114, 32]⟩ : ByteArray)).size + t256.size ≤ 9223372036854775807 then (if ((((⟨#[98, 117, 108, 108, 101, 116, 105, 110, 32]⟩ : ByteArray) ++ t255) ++ (⟨#[32, 97, 116, 32, 104, 111, 117, 114, 32]⟩ : ByteArray)) ++ t256).size + 1 ≤ 9223372036854775807 then (spec_l17Text.l0 k (((((⟨#[98, 117, 108, 108, 101, 116, 105, 110, 32]⟩ : ByteArray) ++ t255) ++ (⟨#[32, 97, 116, 32, 104, 111, 117, 114, 32]⟩ : ByteArray)) ++ t256) ++ (⟨#[10]⟩ : ByteArray)) 0 a0_0 a0_1 l0_2) else (none)) else (none)) = some r := H
   have A5 := Aside0.mk A50
   clear A50
   by_cases c6 : (((⟨#[98, 117, 108, 108, 101, 116, 105, 110, 32]⟩ : ByteArray) ++ t255) ++ (⟨#[32, 97, 116, 32, 104, 111, 117, 114, 32]⟩ : ByteArray)).size + t256.size ≤ 9223372036854775807
   ·
    rw [if_pos c6] at H
    have c6b0 := eq_true c6
    have c6b1 : decide ((((⟨#[98, 117, 108, 108, 101, 116, 105, 110, 32]⟩ : ByteArray) ++ t255) ++ (⟨#[32, 97, 116, 32, 104, 111, 117, 114, 32]⟩ : ByteArray)).size + t256.size ≤ 9223372036854775807) = true := decide_eq_true c6
    try have c6b2 : (9223372036854775807 < (((⟨#[98, 117, 108, 108, 101, 116, 105, 110, 32]⟩ : ByteArray) ++ t255) ++ (⟨#[32, 97, 116, 32, 104, 111, 117, 114, 32]⟩ : ByteArray)).size + t256.size) = False := eq_false (Nat.not_lt.2 c6)
    try have c6b3 : (9223372036854775807 < 9 + t255.size + 9 + t256.size) = False := eq_false (Nat.not_lt.2 (by have q_ := c6; simp only [ByteArray.size_append] at q_; exact q_))
    by_cases c7 : ((((⟨#[98, 117, 108, 108, 101, 116, 105, 110, 32]⟩ : ByteArray) ++ t255) ++ (⟨#[32, 97, 116, 32, 104, 111, 117, 114, 32]⟩ : ByteArray)) ++ t256).size + 1 ≤ 9223372036854775807
    ·
     rw [if_pos c7] at H
     have c7b0 := eq_true c7
     have c7b1 : decide (((((⟨#[98, 117, 108, 108, 101, 116, 105, 110, 32]⟩ : ByteArray) ++ t255) ++ (⟨#[32, 97, 116, 32, 104, 111, 117, 114, 32]⟩ : ByteArray)) ++ t256).size + 1 ≤ 9223372036854775807) = true := decide_eq_true c7
     try have c7b2 : (9223372036854775807 < ((((⟨#[98, 117, 108, 108, 101, 116, 105, 110, 32]⟩ : ByteArray) ++ t255) ++ (⟨#[32, 97, 116, 32, 104, 111, 117, 114, 32]⟩ : ByteArray)) ++ t256).size + 1) = False := eq_false (Nat.not_lt.2 c7)
     try have c7b3 : (9223372036854775807 < 9 + t255.size + 9 + t256.size + 1) = False := eq_false (Nat.not_lt.2 (by have q_ := c7; simp only [ByteArray.size_append] at q_; exact q_))
     have H' := Aside0.mk H
     clear H
     go_enter Tryd.func33, Tryd.ntmps33
     try go_wp2_with (first | ((with_reducible refine gate_dst (N := 1) rfl ?_); refine box_event ?hg (N := 1) ?hd (cs := #[.int .i64 a0_0, .int .i64 a0_1, .slice A0_2 l0_2.length c0_2]) (t := 35) ?hr ?_; (case hd => rfl); (case hg => rfl); (case hr => first | (go_simp; done) | (go_simp; rfl)); intro gb254 hg w8 hbox hb; have n0_ := Aside0.mk (below_step (by repeat (first | (with_reducible first | exact HB.out | apply below_alloc | apply pw_below_drewN | apply below_drew1) | exact HB.out)) hb); have n1_ := Aside0.mk (hbox); have n2_ := Aside0.mk ((by rw [hg]; exact (below_size (by repeat (first | (with_reducible first | exact HB.out | apply below_alloc | apply pw_below_drewN | apply below_drew1) | exact HB.out))) : w.heap.size ≤ gb254)); have n3_ := Aside0.mk ((by rw [hg]; exact (below_size (by repeat (first | (with_reducible first | exact HB.out | apply below_alloc | apply pw_below_drewN | apply below_drew1) | exact HB.out))) : w.heap.size ≤ gb254)); clear HB; have HB := n0_; have BK254 := n1_; have GW254 := n2_; have GE254 := n3_; clear n0_ n1_ n2_ n3_; clear hb hbox hg))
     have n0_ := Aside0.mk (blk_drew BK254.out)
     have n1_ := Aside0.mk (below_drew1 HB.out)
     clear BK254
     clear HB
     have BK254 := n0_
     have HB := n1_
     clear n0_ n1_
     refine start_ (n := 11) (S := fun w' => w'.cell? ⟨gb254, 0, none⟩ = some (.int .i64 a0_0) ∧ w'.cell? ⟨gb254, 1, none⟩ = some (.int .i64 a0_1) ∧ w'.cell? ⟨gb254, 2, none⟩ = some (.slice A0_2 l0_2.length c0_2)) (ds := []) #[false, false, false, false, false, false, false, false, false, false, false] (by kernel_rfl) rfl rfl ⟨(blk_cell BK254.out 0).trans rfl, (blk_cell BK254.out 1).trans rfl, (blk_cell BK254.out 2).trans rfl⟩ (fun hHeld => ?_); refine with_tabW spec_l17Text.tab1 spec_l17Text.bits1 (fun HT_ HW_ => ?_)
     generalize w8.drew = w9 at BK254 HB hHeld ⊢
     refine pure_ (i := 0) (N := some 5) (v := ?_) (a' := ?_) #[true, false, false, false, false, false, false, false, false, false, false] rfl rfl (any_of HT_.out (by kernel_rfl)) (fun _ _ _ h => h) (Or.inl ⟨by rfl, ?_⟩) ?_ ?_
     rotate_left
     ·
      intro w'
      go_simp
      with_reducible rfl
     rotate_left
     ·
      simp only [Act.put, List.setIfInBounds_toArray, List.set_cons_zero, List.set_cons_succ, i64_w, i32_w]
      rfl
     refine pure_ (i := 5) (N := some 10) (v := ?_) (a' := ?_) #[true, false, false, false, false, true, false, false, false, false, false] rfl rfl (any_of HT_.out (by kernel_rfl)) (fun _ _ _ h => h) (Or.inl ⟨by rfl, ?_⟩) ?_ ?_
     rotate_left
     ·
      intro w'
      go_simp
      with_reducible rfl
     rotate_left
     ·
      simp only [Act.put, List.setIfInBounds_toArray, List.set_cons_zero, List.set_cons_succ, i64_w, i32_w]
      rfl
     refine take_ (i := 1) (N := some 6) (v := ?_) (a' := ?_) #[true, true, false, false, false, true, false, false, false, false, false] rfl rfl (take_ofW HT_.out HW_.out (by kernel_rfl)) (fun _ _ _ h => h) (Or.inl ⟨by rfl, ?_⟩) hHeld ?_ ?_
     rotate_left
     ·
      rintro w' ⟨s0, s1, s2⟩
      go_simp
      with_reducible rfl
     rotate_left
     ·
      simp only [Act.put, List.setIfInBounds_toArray, List.set_cons_zero, List.set_cons_succ, i64_w, i32_w]
      rfl
     refine take_ (i := 6) (N := some 11) (v := ?_) (a' := ?_) #[true, true, false, false, false, true, true, false, false, false, false] rfl rfl (take_ofW HT_.out HW_.out (by kernel_rfl)) (fun _ _ _ h => h) (Or.inl ⟨by rfl, ?_⟩) hHeld ?_ ?_
     rotate_left
     ·
      rintro w' ⟨s0, s1, s2⟩
      go_simp
      with_reducible rfl
     rotate_left
     ·
      simp only [Act.put, List.setIfInBounds_toArray, List.set_cons_zero, List.set_cons_succ, i64_w, i32_w]
      rfl
     refine one_ (i := 2) (N := some 7) #[true, true, true, false, false, true, true, false, false, false, false] rfl rfl (one_of HT_.out (by kernel_rfl)) (by decide) (fun K hK => ?_)
     refine goes_ Tryd.func40 (by kernel_rfl) rfl #[.int .i64 a0_0] (by rfl) rfl rfl (by (try simp only [List.map_toArray, List.map_cons, List.map_nil]); first | done | rfl | (simp only [List.length_drop, List.length_take]; rfl)) ?_
     with_reducible refine (spec_l1Num.calls k a0_0 t255 _ A2.out).mono ?_
     rintro e w10 ⟨rfl, hb⟩
     refine ⟨_, rfl, ?_⟩
     have n0_ := Aside0.mk (blk_below (g := gb254) (o := .cells #[.int .i64 a0_0, .int .i64 a0_1, .slice A0_2 l0_2.length c0_2] 35 (0, 0)) (by (with_reducible repeat (first | refine blk_drewN ?_ _ | refine blk_drew ?_ | refine blk_alloc ?_ _)); exact BK254.out) hb)
     have n1_ := Aside0.mk (below_step (by repeat (first | (with_reducible first | exact HB.out | apply below_alloc | apply pw_below_drewN | apply below_drew1 | refine below_set ?_ GE254.out) | exact HB.out)) hb)
     clear BK254
     clear HB
     have BK254 := n0_
     have HB := n1_
     clear n0_ n1_
     (try clear hb)
     (try clear hb2)
     (try clear hk)
     (try clear hi)
     refine hK.out _ _ ⟨(blk_cell BK254.out 0).trans rfl, (blk_cell BK254.out 1).trans rfl, (blk_cell BK254.out 2).trans rfl⟩ (fun hHeld => ?_)
     clear hK K
     refine norm_ (a' := ?_) ?_ ?_
     rotate_left
     ·
      show Act.put _ (some 7) _ = _
      simp only [Act.put, List.setIfInBounds_toArray, List.set_cons_zero, List.set_cons_succ, i64_w, i32_w]
      rfl
     refine pure_ (i := 3) (N := some 8) (v := ?_) (a' := ?_) #[true, true, true, true, false, true, true, false, false, false, false] rfl rfl (any_of HT_.out (by kernel_rfl)) (fun _ _ _ h => h) (Or.inl ⟨by rfl, ?_⟩) ?_ ?_
     rotate_left
     ·
      intro w'
      go_simp
      with_reducible rfl
     rotate_left
     ·
      simp only [Act.put, List.setIfInBounds_toArray, List.set_cons_zero, List.set_cons_succ, i64_w, i32_w]
      rfl
     refine pure_ (i := 4) (N := some 9) (v := ?_) (a' := ?_) #[true, true, true, true, true, true, true, false, false, false, false] rfl rfl (any_of HT_.out (by kernel_rfl)) (fun _ _ _ h => h) (Or.inl ⟨by rfl, ?_⟩) ?_ ?_
     rotate_left
     ·
      intro w'
      go_simp
      with_reducible rfl
     rotate_left
     ·
      simp only [Act.put, List.setIfInBounds_toArray, List.set_cons_zero, List.set_cons_succ, i64_w, i32_w]
      rfl
     refine one_ (i := 7) (N := some 12) #[true, true, true, true, true, true, true, true, false, false, false] rfl rfl (one_of HT_.out (by kernel_rfl)) (by decide) (fun K hK => ?_)
     refine goes_ Tryd.func40 (by kernel_rfl) rfl #[.int .i64 a0_1] (by rfl) rfl rfl (by (try simp only [List.map_toArray, List.map_cons, List.map_nil]); first | done | rfl | (simp only [List.length_drop, List.length_take]; rfl)) ?_
     with_reducible refine (spec_l1Num.calls k a0_1 t256 _ A5.out).mono ?_
     rintro e w11 ⟨rfl, hb⟩
     refine ⟨_, rfl, ?_⟩
     have n0_ := Aside0.mk (blk_below (g := gb254) (o := .cells #[.int .i64 a0_0, .int .i64 a0_1, .slice A0_2 l0_2.length c0_2] 35 (0, 0)) (by (with_reducible repeat (first | refine blk_drewN ?_ _ | refine blk_drew ?_ | refine blk_alloc ?_ _)); exact BK254.out) hb)
     have n1_ := Aside0.mk (below_step (by repeat (first | (with_reducible first | exact HB.out | apply below_alloc | apply pw_below_drewN | apply below_drew1 | refine below_set ?_ GE254.out) | exact HB.out)) hb)
     clear BK254
     clear HB
     have BK254 := n0_
     have HB := n1_
     clear n0_ n1_
     (try clear hb)
     (try clear hb2)
     (try clear hk)
     (try clear hi)
     refine hK.out _ _ ⟨(blk_cell BK254.out 0).trans rfl, (blk_cell BK254.out 1).trans rfl, (blk_cell BK254.out 2).trans rfl⟩ (fun hHeld => ?_)
     clear hK K
     refine norm_ (a' := ?_) ?_ ?_
     rotate_left
     ·
      show Act.put _ (some 12) _ = _
      simp only [Act.put, List.setIfInBounds_toArray, List.set_cons_zero, List.set_cons_succ, i64_w, i32_w]
      rfl
     refine pure_ (i := 8) (N := some 13) (v := ?_) (a' := ?_) #[true, true, true, true, true, true, true, true, true, false, false] rfl rfl (any_of HT_.out (by kernel_rfl)) (fun _ _ _ h => h) (Or.inl ⟨by rfl, ?_⟩) ?_ ?_
     rotate_left
     ·
      intro w'
      go_simp
      with_reducible rfl
     rotate_left
     ·
      simp only [Act.put, List.setIfInBounds_toArray, List.set_cons_zero, List.set_cons_succ, i64_w, i32_w]
      rfl
     refine pure_ (i := 9) (N := some 14) (v := ?_) (a' := ?_) #[true, true, true, true, true, true, true, true, true, true, false] rfl rfl (any_of HT_.out (by kernel_rfl)) (fun _ _ _ h => h) (Or.inl ⟨by rfl, ?_⟩) ?_ ?_
     rotate_left
     ·
      intro w'
      go_simp
      with_reducible rfl
     rotate_left
     ·
      simp only [Act.put, List.setIfInBounds_toArray, List.set_cons_zero, List.set_cons_succ, i64_w, i32_w]
      rfl
     refine pure_ (i := 10) (N := some 3) (v := ?_) (a' := ?_) #[true, true, true, true, true, true, true, true, true, true, true] rfl rfl (any_of HT_.out (by kernel_rfl)) (fun _ _ _ h => h) (Or.inl ⟨by rfl, ?_⟩) ?_ ?_
     rotate_left
     ·
      intro w'
      go_simp
      with_reducible rfl
     rotate_left
     ·
      simp only [Act.put, List.setIfInBounds_toArray, List.set_cons_zero, List.set_cons_succ, i64_w, i32_w]
      rfl
     refine done_ (done_of HT_.out (by kernel_rfl)) ?_
     try go_wp2
     go_loopg [3, 4] k (fun kq v3 v4 w' => ∃ (x3_1 : ByteArray) (x4_1 : Int), v3 = .string x3_1 ∧ v4 = .int .i64 x4_1 ∧ Aside0 (spec_l17Text.l0 kq x3_1 x4_1 a0_0 a0_1 l0_2 = some r) ∧ Aside0 (kq ≤ k) ∧ Aside0 (w'.heap[gb254]? = some (.cells #[.int .i64 a0_0, .int .i64 a0_1, (.slice A0_2 l0_2.length c0_2)] 35 (0, 0))) ∧ Aside0 (Below w.heap.size w w'))
     case atStart => exact ⟨(((((⟨#[98, 117, 108, 108, 101, 116, 105, 110, 32]⟩ : ByteArray) ++ t255) ++ (⟨#[32, 97, 116, 32, 104, 111, 117, 114, 32]⟩ : ByteArray)) ++ t256) ++ (⟨#[10]⟩ : ByteArray)), (0), (by first | rfl | (simp; done) | (simp [*]; done)), (by first | rfl | (simp; done) | (simp [*]; done)), H', ⟨Nat.le_refl _⟩, ⟨by (with_reducible repeat (first | refine blk_drewN ?_ _ | refine blk_drew ?_ | refine blk_alloc ?_ _)); exact BK254.out⟩, ⟨by repeat (first | (with_reducible first | exact HB.out | apply below_alloc | apply pw_below_drewN | apply below_drew1 | refine below_set ?_ GE254.out) | exact HB.out)⟩⟩
     case round =>
      clear H'
      try clear p2
      try clear c3
      try clear c3b0
      try clear c3b1
      try clear c3b2
      try clear c4
      try clear c4b0
      try clear c4b1
      try clear c4b2
      try clear c6
      try clear c6b0
      try clear c6b1
      try clear c6b2
      try clear c7
      try clear c7b0
      try clear c7b1
      try clear c7b2
      obtain ⟨x3_1, x4_1, rfl, rfl, HA, HK1, BK254, HB⟩ := hrel
      cases gk with
      | zero => exact absurd HA.out (by simp [spec_l17Text.l0])
      | succ k1 =>
       have H := HA.out
       clear HA
       simp only [spec_l17Text.l0] at H
       by_cases c12 : x4_1 < (l0_2.length : Int)
       ·
        rw [if_pos c12] at H
        have c12b0 : decide (x4_1 < (l0_2.length : Int)) = true := decide_eq_true c12
        clear c12
        by_cases c13 : 0 ≤ x4_1
        ·
         rw [if_pos c13] at H
         have c13b0 : decide (0 ≤ x4_1) = true := decide_eq_true c13
         clear c13
         replace H := Option.bind_eq_some_iff.mp H
         obtain ⟨t258, A140, H⟩ := H
         replace H : (if x3_1.size + t258.size ≤ 9223372036854775807 then (if (x3_1 ++ t258).size + 1 ≤ 9223372036854775807 then (spec_l17Text.l0 k1 ((x3_1 ++ t258) ++ (⟨#[10]⟩ : ByteArray)) (wrap64 (x4_1 + 1)) a0_0 a0_1 l0_2) else (none)) else (none)) = some r := H
         have A14 := Aside0.mk A140
         clear A140
         by_cases c15 : x3_1.size + t258.size ≤ 9223372036854775807
         ·
          rw [if_pos c15] at H
          have c15b0 := eq_true c15
          have c15b1 : decide (x3_1.size + t258.size ≤ 9223372036854775807) = true := decide_eq_true c15
          try have c15b2 : (9223372036854775807 < x3_1.size + t258.size) = False := eq_false (Nat.not_lt.2 c15)
          by_cases c16 : (x3_1 ++ t258).size + 1 ≤ 9223372036854775807
          ·
           rw [if_pos c16] at H
           have c16b0 := eq_true c16
           have c16b1 : decide ((x3_1 ++ t258).size + 1 ≤ 9223372036854775807) = true := decide_eq_true c16
           try have c16b2 : (9223372036854775807 < (x3_1 ++ t258).size + 1) = False := eq_false (Nat.not_lt.2 c16)
           try have c16b3 : (9223372036854775807 < x3_1.size + t258.size + 1) = False := eq_false (Nat.not_lt.2 (by have q_ := c16; simp only [ByteArray.size_append] at q_; exact q_))
           have H' := Aside0.mk H
           clear H
           have hcz17_0 : wr.cell? ⟨gb254, 0, none⟩ = some (.int .i64 a0_0) := (blk_cell BK254.out 0).trans rfl
           have hcz17_1 : wr.cell? ⟨gb254, 1, none⟩ = some (.int .i64 a0_1) := (blk_cell BK254.out 1).trans rfl
           have hcz17_2 : wr.cell? ⟨gb254, 2, none⟩ = some (.slice A0_2 l0_2.length c0_2) := (blk_cell BK254.out 2).trans rfl
           have hfz17_0 := blk_frozen BK254.out 0
           have hfz17_1 := blk_frozen BK254.out 1
           have hfz17_2 := blk_frozen BK254.out 2
           have p257 : 0 ≤ (x4_1 : Int) := of_decide_eq_true (by first | (with_reducible assumption) | assumption)
           have q257 : x4_1 < (l0_2.length : Int) := of_decide_eq_true (by first | (with_reducible assumption) | assumption)
           obtain ⟨ad257, e257, hx257_0, hx257_1, hx257_2, hx257_3, hx257_4, hx257_5⟩ := at_T42 HR0_2.out x4_1 p257 q257
           cases e257
           replace hx257_0 := (HB.out.cell (World.block_lt_of_cell? w _ hx257_0)).trans hx257_0
           replace hx257_1 := (HB.out.cell (World.block_lt_of_cell? w _ hx257_1)).trans hx257_1
           replace hx257_2 := (HB.out.cell (World.block_lt_of_cell? w _ hx257_2)).trans hx257_2
           replace hx257_3 := (HB.out.cell (World.block_lt_of_cell? w _ hx257_3)).trans hx257_3
           replace hx257_4 := (HB.out.cell (World.block_lt_of_cell? w _ hx257_4)).trans hx257_4
           replace hx257_5 := (HB.out.cell (World.block_lt_of_cell? w _ hx257_5)).trans hx257_5
           replace p257 := eq_true p257
           replace q257 := eq_true q257
           go_wp2_with (first | ((with_reducible refine gate_callee (f := 47) rfl ?_); refine goesL_ (some 28) rfl rfl Tryd.func47 (by kernel_rfl) rfl #[.agg #[.int .i64 ((rd_T42 l0_2 x4_1).f0), .int .i64 ((rd_T42 l0_2 x4_1).f1), .int .i64 ((rd_T42 l0_2 x4_1).f2), .int .i64 ((rd_T42 l0_2 x4_1).f3), .int .i64 ((rd_T42 l0_2 x4_1).f4), .int .i64 ((rd_T42 l0_2 x4_1).f5)]] rfl (by (try simp only [List.map_toArray, List.map_cons, List.map_nil]); first | done | rfl | (simp only [List.length_drop, List.length_take]; rfl)) ?_; (with_reducible refine (spec_l17Line.calls k1 ((rd_T42 l0_2 x4_1).f0) ((rd_T42 l0_2 x4_1).f1) ((rd_T42 l0_2 x4_1).f2) ((rd_T42 l0_2 x4_1).f3) ((rd_T42 l0_2 x4_1).f4) ((rd_T42 l0_2 x4_1).f5) t258 _ A14.out).mono ?_); rintro e w18 ⟨rfl, hb⟩; refine ⟨_, rfl, ?_⟩; have n0_ := Aside0.mk (blk_below (g := gb254) (o := .cells #[.int .i64 a0_0, .int .i64 a0_1, .slice (some ad257) l0_2.length c0_2] 35 (0, 0)) (by (with_reducible repeat (first | refine blk_drewN ?_ _ | refine blk_drew ?_ | refine blk_alloc ?_ _)); exact BK254.out) hb); have n1_ := Aside0.mk (below_step (by repeat (first | (with_reducible first | exact HB.out | apply below_alloc | apply pw_below_drewN | apply below_drew1 | refine below_set ?_ GE254.out) | exact HB.out)) hb); clear BK254; clear HB; have BK254 := n0_; have HB := n1_; clear n0_ n1_; (try clear hb); (try clear hb2); (try clear hk); (try clear hi)))
           go_roundg k1
           case measure => have := HK1.out; omega
           case rel => exact ⟨((x3_1 ++ t258) ++ (⟨#[10]⟩ : ByteArray)), (wrap64 (x4_1 + 1)), (by first | rfl | (simp; done) | (simp [*]; done)), (by first | rfl | (simp; done) | (simp [*]; done)), H', ⟨by have := HK1.out; omega⟩, ⟨by (with_reducible repeat (first | refine blk_drewN ?_ _ | refine blk_drew ?_ | refine blk_alloc ?_ _)); exact BK254.out⟩, ⟨by repeat (first | (with_reducible first | exact HB.out | apply below_alloc | apply pw_below_drewN | apply below_drew1 | refine below_set ?_ GE254.out) | exact HB.out)⟩⟩
          ·
           rw [if_neg c16] at H
           exact absurd H (by simp)
         ·
          rw [if_neg c15] at H
          exact absurd H (by simp)
        ·
         rw [if_neg c13] at H
         exact absurd H (by simp)
       ·
        rw [if_neg c12] at H
        have c12b0 : decide (x4_1 < (l0_2.length : Int)) = false := decide_eq_false c12
        clear c12
        replace H := Option.bind_eq_some_iff.mp H
        obtain ⟨t259, A190, H⟩ := H
        replace H : (some t259) = some r := H
        have A19 := Aside0.mk A190
        clear A190
        obtain rfl := Option.some.inj H
        have hcz20_0 : wr.cell? ⟨gb254, 0, none⟩ = some (.int .i64 a0_0) := (blk_cell BK254.out 0).trans rfl
        have hcz20_1 : wr.cell? ⟨gb254, 1, none⟩ = some (.int .i64 a0_1) := (blk_cell BK254.out 1).trans rfl
        have hcz20_2 : wr.cell? ⟨gb254, 2, none⟩ = some (.slice A0_2 l0_2.length c0_2) := (blk_cell BK254.out 2).trans rfl
        have hfz20_0 := blk_frozen BK254.out 0
        have hfz20_1 := blk_frozen BK254.out 1
        have hfz20_2 := blk_frozen BK254.out 2
        go_wp2_with (first | ((with_reducible refine gate_callee (f := 48) rfl ?_); refine goesL_ (some 32) rfl rfl Tryd.func48 (by kernel_rfl) rfl #[.string x3_1] rfl (by (try simp only [List.map_toArray, List.map_cons, List.map_nil]); first | done | rfl | (simp only [List.length_drop, List.length_take]; rfl)) ?_; (with_reducible refine (spec_l1Seal.calls k1 x3_1 t259 _ A19.out).mono ?_); rintro e w21 ⟨rfl, hb⟩; refine ⟨_, rfl, ?_⟩; have n0_ := Aside0.mk (blk_below (g := gb254) (o := .cells #[.int .i64 a0_0, .int .i64 a0_1, .slice A0_2 l0_2.length c0_2] 35 (0, 0)) (by (with_reducible repeat (first | refine blk_drewN ?_ _ | refine blk_drew ?_ | refine blk_alloc ?_ _)); exact BK254.out) hb); have n1_ := Aside0.mk (below_step (by repeat (first | (with_reducible first | exact HB.out | apply below_alloc | apply pw_below_drewN | apply below_drew1 | refine below_set ?_ GE254.out) | exact HB.out)) hb); clear BK254; clear HB; have BK254 := n0_; have HB := n1_; clear n0_ n1_; (try clear hb); (try clear hb2); (try clear hk); (try clear hi)))
        go_ret
        exact ⟨by first | rfl | (simp [errW_none, errW_some] <;> rfl) | (simp [*, errW_none, errW_some] <;> rfl), by repeat (first | (with_reducible first | exact HB.out | apply below_alloc | apply pw_below_drewN | apply below_drew1 | refine below_set ?_ GE254.out) | exact HB.out)⟩
    ·
     rw [if_neg c7] at H
     exact absurd H (by simp)
   ·
    rw [if_neg c6] at H
    exact absurd H (by simp)
  ·
   rw [if_neg c4] at H
   exact absurd H (by simp)
 ·
  rw [if_neg c3] at H
  exact absurd H (by simp)

end Go.Proofs.YtnibkkfjgmfpnaaDoor.Q
namespace Go.Proofs.YtnibkkfjgmfpnaaDoor.Q
open Go.RowKit Go.Proofs.YtnibkkfjgmfpnaaDoorW.PrintWords Go.Proofs.YtnibkkfjgmfpnaaDoorW.PrintLast Go.Proofs.YtnibkkfjgmfpnaaDoorW.PrintMore
attribute [local go_sem] max2_int min2_int max_two min_two max_three min_three max_four min_four   -- for this text's walks alone
set_option linter.unusedVariables false
set_option linter.unusedSimpArgs false

/-! ### spec_FormatBulletin: function 14 -/
def spec_FormatBulletin.f (k : Nat) (a0_0 : Int) (a0_1 : Int) (l0_2 : List (S42)) : Option (ByteArray × Bool) := (spec_l17Good.f k a0_0 a0_1 l0_2).bind fun t261 => (if t261 = true then ((spec_l17Text.f k a0_0 a0_1 l0_2).bind fun t262 => (some (t262, true))) else (some ((⟨#[]⟩ : ByteArray), false)))
theorem spec_FormatBulletin.mono : ∀ a0 a1 a2 k, LeO (spec_FormatBulletin.f k a0 a1 a2) (spec_FormatBulletin.f (k + 1) a0 a1 a2) := by
 intro a0 a1 a2 k
 unfold spec_FormatBulletin.f
 repeat' first
   | (with_reducible exact spec_l17Good.mono _ _ _ _)
   | (with_reducible exact spec_l17Text.mono _ _ _ _)
   | (with_reducible exact LeO.refl _)
   | (with_reducible exact LeO.none _)
   | (with_reducible refine LeO.ite ?_ ?_)
   | (with_reducible refine LeO.bind ?_ (fun _ => ?_))
   | exact spec_l17Good.mono _ _ _ _
   | exact spec_l17Text.mono _ _ _ _
   | exact LeO.none _
   | refine LeO.ite ?_ ?_
   | refine LeO.bind ?_ (fun _ => ?_)
set_option maxHeartbeats 8000000 in
set_option maxRecDepth 100000 in
theorem spec_FormatBulletin.calls (k : Nat) (a0_0 : Int) (a0_1 : Int) (A0_2 : Option Addr) (c0_2 : Nat) (l0_2 : List (S42)) (r1 : ByteArray) (r2 : Bool) (w : World) (hr0_2 : Kd.C k42 w A0_2 l0_2.length l0_2) (hc0_2 : l0_2.length ≤ c0_2) (h : spec_FormatBulletin.f k a0_0 a0_1 l0_2 = some (r1, r2)) :
  Calls Tryd.prog 14 #[.agg #[.int .i64 a0_0, .int .i64 a0_1, .slice A0_2 l0_2.length c0_2]] w fun e w' => e = .returned (.tuple #[.string r1, .bool r2]) ∧ Below w.heap.size w w' := by
 have hu35 := Tryd.underlying35
 have HR0_2 := Aside0.mk hr0_2
 have HC0_2 := Aside0.mk hc0_2
 clear hr0_2 hc0_2
 have HB := Aside0.mk (Below.refl w.heap.size w)
 have H : ((spec_l17Good.f k a0_0 a0_1 l0_2).bind fun t261 => (if t261 = true then ((spec_l17Text.f k a0_0 a0_1 l0_2).bind fun t262 => (some (t262, true))) else (some ((⟨#[]⟩ : ByteArray), false)))) = some (r1, r2) := h
 clear h
 replace H := Option.bind_eq_some_iff.mp H
 obtain ⟨t261, A20, H⟩ := H
 replace H : (if t261 = true then ((spec_l17Text.f k a0_0 a0_1 l0_2).bind fun t262 => (some (t262, true))) else (some ((⟨#[]⟩ : ByteArray), false))) = some (r1, r2) := H
 have A2 := Aside0.mk A20
 clear A20
 by_cases c3 : t261 = true
 ·
  subst c3
  have H1 : ((spec_l17Text.f k a0_0 a0_1 l0_2).bind fun t262 => (some (t262, true))) = some (r1, r2) := by rw [if_pos rfl] at H; exact H
  clear H
  have H := H1
  clear H1
  replace H := Option.bind_eq_some_iff.mp H
  obtain ⟨t262, A40, H⟩ := H
  replace H : (some (t262, true)) = some (r1, r2) := H
  have A4 := Aside0.mk A40
  clear A40
  simp only [Option.some.injEq, Prod.mk.injEq] at H
  obtain ⟨rfl, rfl⟩ := H
  go_enter Tryd.func14, Tryd.ntmps14
  go_wp2_with (first | ((with_reducible refine gate_dst (N := 1) rfl ?_); refine box_event ?hg (N := 1) ?hd (cs := #[.int .i64 a0_0, .int .i64 a0_1, .slice A0_2 l0_2.length c0_2]) (t := 35) ?hr ?_; (case hd => rfl); (case hg => rfl); (case hr => first | (go_simp; done) | (go_simp; rfl)); intro gb260 hg w5 hbox hb; have n0_ := Aside0.mk (below_step (by repeat (first | (with_reducible first | exact HB.out | apply below_alloc | apply pw_below_drewN | apply below_drew1) | exact HB.out)) hb); have n1_ := Aside0.mk (hbox); have n2_ := Aside0.mk ((by rw [hg]; exact (below_size (by repeat (first | (with_reducible first | exact HB.out | apply below_alloc | apply pw_below_drewN | apply below_drew1) | exact HB.out))) : w.heap.size ≤ gb260)); have n3_ := Aside0.mk ((by rw [hg]; exact (below_size (by repeat (first | (with_reducible first | exact HB.out | apply below_alloc | apply pw_below_drewN | apply below_drew1) | exact HB.out))) : w.heap.size ≤ gb260)); clear HB; have HB := n0_; have BK260 := n1_; have GW260 := n2_; have GE260 := n3_; clear n0_ n1_ n2_ n3_; clear hb hbox hg; have hcz6_0 : w5.cell? ⟨gb260, 0, none⟩ = some (.int .i64 a0_0) := (blk_cell BK260.out 0).trans rfl; have hcz6_1 : w5.cell? ⟨gb260, 1, none⟩ = some (.int .i64 a0_1) := (blk_cell BK260.out 1).trans rfl; have hcz6_2 : w5.cell? ⟨gb260, 2, none⟩ = some (.slice A0_2 l0_2.length c0_2) := (blk_cell BK260.out 2).trans rfl; have hfz6_0 := blk_frozen BK260.out 0; have hfz6_1 := blk_frozen BK260.out 1; have hfz6_2 := blk_frozen BK260.out 2) | ((with_reducible refine gate_callee (f := 32) rfl ?_); refine goesL_ (some 5) rfl rfl Tryd.func32 (by kernel_rfl) rfl #[.agg #[.int .i64 a0_0, .int .i64 a0_1, .slice A0_2 l0_2.length c0_2]] rfl (by (try simp only [List.map_toArray, List.map_cons, List.map_nil]); first | done | rfl | (simp only [List.length_drop, List.length_take]; rfl)) ?_; (with_reducible refine (spec_l17Good.calls k a0_0 a0_1 _ _ l0_2 true _ ?side1 ?side2 A2.out).mono ?_); (case side1 => repeat (first | exact (Kd.C_below HR0_2.out HB.out) | (with_reducible refine Kd.C_alloc ?_ _) | (with_reducible refine Kd.C_drewN ?_ _) | (with_reducible refine Kd.C_drew ?_))); (case side2 => exact HC0_2.out); rintro e w7 ⟨rfl, hb⟩; refine ⟨_, rfl, ?_⟩; have n0_ := Aside0.mk (blk_below (g := gb260) (o := .cells #[.int .i64 a0_0, .int .i64 a0_1, .slice A0_2 l0_2.length c0_2] 35 (0, 0)) (by (with_reducible repeat (first | refine blk_drewN ?_ _ | refine blk_drew ?_ | refine blk_alloc ?_ _)); exact BK260.out) hb); have n1_ := Aside0.mk (below_step (by repeat (first | (with_reducible first | exact HB.out | apply below_alloc | apply pw_below_drewN | apply below_drew1 | refine below_set ?_ GE260.out) | exact HB.out)) hb); clear BK260; clear HB; have BK260 := n0_; have HB := n1_; clear n0_ n1_; (try clear hb); (try clear hb2); (try clear hk); (try clear hi); have hcz8_0 : w7.cell? ⟨gb260, 0, none⟩ = some (.int .i64 a0_0) := (blk_cell BK260.out 0).trans rfl; have hcz8_1 : w7.cell? ⟨gb260, 1, none⟩ = some (.int .i64 a0_1) := (blk_cell BK260.out 1).trans rfl; have hcz8_2 : w7.cell? ⟨gb260, 2, none⟩ = some (.slice A0_2 l0_2.length c0_2) := (blk_cell BK260.out 2).trans rfl; have hfz8_0 := blk_frozen BK260.out 0; have hfz8_1 := blk_frozen BK260.out 1; have hfz8_2 := blk_frozen BK260.out 2) | ((with_reducible refine gate_callee (f := 33) rfl ?_); refine goesL_ (some 8) rfl rfl Tryd.func33 (by kernel_rfl) rfl #[.agg #[.int .i64 a0_0, .int .i64 a0_1, .slice A0_2 l0_2.length c0_2]] rfl (by (try simp only [List.map_toArray, List.map_cons, List.map_nil]); first | done | rfl | (simp only [List.length_drop, List.length_take]; rfl)) ?_; (with_reducible refine (spec_l17Text.calls k a0_0 a0_1 _ _ l0_2 t262 _ ?side1 ?side2 A4.out).mono ?_); (case side1 => repeat (first | exact (Kd.C_below HR0_2.out HB.out) | (with_reducible refine Kd.C_alloc ?_ _) | (with_reducible refine Kd.C_drewN ?_ _) | (with_reducible refine Kd.C_drew ?_))); (case side2 => exact HC0_2.out); rintro e w9 ⟨rfl, hb⟩; refine ⟨_, rfl, ?_⟩; have n0_ := Aside0.mk (blk_below (g := gb260) (o := .cells #[.int .i64 a0_0, .int .i64 a0_1, .slice A0_2 l0_2.length c0_2] 35 (0, 0)) (by (with_reducible repeat (first | refine blk_drewN ?_ _ | refine blk_drew ?_ | refine blk_alloc ?_ _)); exact BK260.out) hb); have n1_ := Aside0.mk (below_step (by repeat (first | (with_reducible first | exact HB.out | apply below_alloc | apply pw_below_drewN | apply below_drew1 | refine below_set ?_ GE260.out) | exact HB.out)) hb); clear BK260; clear HB; have BK260 := n0_; have HB := n1_; clear n0_ n1_; (try clear hb); (try clear hb2); (try clear hk); (try clear hi)))
  go_ret2
  exact ⟨by first | rfl | (simp [errW_none, errW_some] <;> rfl) | (simp [*, errW_none, errW_some] <;> rfl), by repeat (first | (with_reducible first | exact HB.out | apply below_alloc | apply pw_below_drewN | apply below_drew1 | refine below_set ?_ GE260.out) | exact HB.out)⟩
 ·
  replace c3 := Bool.eq_false_iff.mpr c3
  subst c3
  have H1 : (some ((⟨#[]⟩ : ByteArray), false)) = some (r1, r2) := by rw [if_neg (show ¬ (false = true) by decide)] at H; exact H
  clear H
  have H := H1
  clear H1
  simp only [Option.some.injEq, Prod.mk.injEq] at H
  obtain ⟨rfl, rfl⟩ := H
  go_enter Tryd.func14, Tryd.ntmps14
  go_wp2_with (first | ((with_reducible refine gate_dst (N := 1) rfl ?_); refine box_event ?hg (N := 1) ?hd (cs := #[.int .i64 a0_0, .int .i64 a0_1, .slice A0_2 l0_2.length c0_2]) (t := 35) ?hr ?_; (case hd => rfl); (case hg => rfl); (case hr => first | (go_simp; done) | (go_simp; rfl)); intro gb260 hg w10 hbox hb; have n0_ := Aside0.mk (below_step (by repeat (first | (with_reducible first | exact HB.out | apply below_alloc | apply pw_below_drewN | apply below_drew1) | exact HB.out)) hb); have n1_ := Aside0.mk (hbox); have n2_ := Aside0.mk ((by rw [hg]; exact (below_size (by repeat (first | (with_reducible first | exact HB.out | apply below_alloc | apply pw_below_drewN | apply below_drew1) | exact HB.out))) : w.heap.size ≤ gb260)); have n3_ := Aside0.mk ((by rw [hg]; exact (below_size (by repeat (first | (with_reducible first | exact HB.out | apply below_alloc | apply pw_below_drewN | apply below_drew1) | exact HB.out))) : w.heap.size ≤ gb260)); clear HB; have HB := n0_; have BK260 := n1_; have GW260 := n2_; have GE260 := n3_; clear n0_ n1_ n2_ n3_; clear hb hbox hg; have hcz11_0 : w10.cell? ⟨gb260, 0, none⟩ = some (.int .i64 a0_0) := (blk_cell BK260.out 0).trans rfl; have hcz11_1 : w10.cell? ⟨gb260, 1, none⟩ = some (.int .i64 a0_1) := (blk_cell BK260.out 1).trans rfl; have hcz11_2 : w10.cell? ⟨gb260, 2, none⟩ = some (.slice A0_2 l0_2.length c0_2) := (blk_cell BK260.out 2).trans rfl; have hfz11_0 := blk_frozen BK260.out 0; have hfz11_1 := blk_frozen BK260.out 1; have hfz11_2 := blk_frozen BK260.out 2) | ((with_reducible refine gate_callee (f := 32) rfl ?_); refine goesL_ (some 5) rfl rfl Tryd.func32 (by kernel_rfl) rfl #[.agg #[.int .i64 a0_0, .int .i64 a0_1, .slice A0_2 l0_2.length c0_2]] rfl (by (try simp only [List.map_toArray, List.map_cons, List.map_nil]); first | done | rfl | (simp only [List.length_drop, List.length_take]; rfl)) ?_; (with_reducible refine (spec_l17Good.calls k a0_0 a0_1 _ _ l0_2 false _ ?side1 ?side2 A2.out).mono ?_); (case side1 => repeat (first | exact (Kd.C_below HR0_2.out HB.out) | (with_reducible refine Kd.C_alloc ?_ _) | (with_reducible refine Kd.C_drewN ?_ _) | (with_reducible refine Kd.C_drew ?_))); (case side2 => exact HC0_2.out); rintro e w12 ⟨rfl, hb⟩; refine ⟨_, rfl, ?_⟩; have n0_ := Aside0.mk (blk_below (g := gb260) (o := .cells #[.int .i64 a0_0, .int .i64 a0_1, .slice A0_2 l0_2.length c0_2] 35 (0, 0)) (by (with_reducible repeat (first | refine blk_drewN ?_ _ | refine blk_drew ?_ | refine blk_alloc ?_ _)); exact BK260.out) hb); have n1_ := Aside0.mk (below_step (by repeat (first | (with_reducible first | exact HB.out | apply below_alloc | apply pw_below_drewN | apply below_drew1 | refine below_set ?_ GE260.out) | exact HB.out)) hb); clear BK260; clear HB; have BK260 := n0_; have HB := n1_; clear n0_ n1_; (try clear hb); (try clear hb2); (try clear hk); (try clear hi)))
  go_ret2
  exact ⟨by first | rfl | (simp [errW_none, errW_some] <;> rfl) | (simp [*, errW_none, errW_some] <;> rfl), by repeat (first | (with_reducible first | exact HB.out | apply below_alloc | apply pw_below_drewN | apply below_drew1 | refine below_set ?_ GE260.out) | exact HB.out)⟩

end Go.Proofs.YtnibkkfjgmfpnaaDoor.Q
namespace Go.Proofs.YtnibkkfjgmfpnaaDoor.Q
open Go.RowKit Go.Proofs.YtnibkkfjgmfpnaaDoorW.PrintWords Go.Proofs.YtnibkkfjgmfpnaaDoorW.PrintLast Go.Proofs.YtnibkkfjgmfpnaaDoorW.PrintMore
attribute [local go_sem] max2_int min2_int max_two min_two max_three min_three max_four min_four   -- for this text's walks alone
set_option linter.unusedVariables false
set_option linter.unusedSimpArgs false

/-! ### laws_toWarning: function 22 -/
def laws_toWarning.f (a0_0 : Int) (a0_1 : Int) (a0_2 : Int) (a0_3 : Int) (a0_4 : Int) (a0_5 : Int) : Option (Int × Int × Int × Int × Int × Int) := some (a0_0, a0_1, a0_2, a0_3, a0_4, a0_5)
set_option maxHeartbeats 8000000 in
set_option maxRecDepth 100000 in
theorem laws_toWarning.calls (a0_0 : Int) (a0_1 : Int) (a0_2 : Int) (a0_3 : Int) (a0_4 : Int) (a0_5 : Int) (r1 : Int) (r2 : Int) (r3 : Int) (r4 : Int) (r5 : Int) (r6 : Int) (w : World) (h : laws_toWarning.f a0_0 a0_1 a0_2 a0_3 a0_4 a0_5 = some (r1, r2, r3, r4, r5, r6)) :
  Calls Tryd.prog 22 #[.agg #[.int .i64 a0_0, .int .i64 a0_1, .int .i64 a0_2, .int .i64 a0_3, .int .i64 a0_4, .int .i64 a0_5]] w fun e w' => e = .returned (.agg #[.int .i64 r1, .int .i64 r2, .int .i64 r3, .int .i64 r4, .int .i64 r5, .int .i64 r6]) ∧ Below w.heap.size w w' := by
 have hu46 := Tryd.underlying46
 have hu42 := Tryd.underlying42
 have HB := Aside0.mk (Below.refl w.heap.size w)
 have H : (some (a0_0, a0_1, a0_2, a0_3, a0_4, a0_5)) = some (r1, r2, r3, r4, r5, r6) := h
 clear h
 simp only [Option.some.injEq, Prod.mk.injEq] at H
 obtain ⟨rfl, rfl, rfl, rfl, rfl, rfl⟩ := H
 go_enter Tryd.func22, Tryd.ntmps22
 go_wp2_with (first | ((with_reducible refine gate_dst (N := 1) rfl ?_); refine box_event ?hg (N := 1) ?hd (cs := #[.int .i64 a0_0, .int .i64 a0_1, .int .i64 a0_2, .int .i64 a0_3, .int .i64 a0_4, .int .i64 a0_5]) (t := 46) ?hr ?_; (case hd => rfl); (case hg => rfl); (case hr => first | (go_simp; done) | (go_simp; rfl)); intro gb135 hg w2 hbox hb; have n0_ := Aside0.mk (below_step (by repeat (first | (with_reducible first | exact HB.out | apply below_alloc | apply pw_below_drewN | apply below_drew1) | exact HB.out)) hb); have n1_ := Aside0.mk (hbox); have n2_ := Aside0.mk ((by rw [hg]; exact (below_size (by repeat (first | (with_reducible first | exact HB.out | apply below_alloc | apply pw_below_drewN | apply below_drew1) | exact HB.out))) : w.heap.size ≤ gb135)); have n3_ := Aside0.mk ((by rw [hg]; exact (below_size (by repeat (first | (with_reducible first | exact HB.out | apply below_alloc | apply pw_below_drewN | apply below_drew1) | exact HB.out))) : w.heap.size ≤ gb135)); clear HB; have HB := n0_; have BK135 := n1_; have GW135 := n2_; have GE135 := n3_; clear n0_ n1_ n2_ n3_; clear hb hbox hg) | ((with_reducible refine gate_dst (N := 2) rfl ?_); refine box_event ?hg (N := 2) ?hd (cs := #[.int .i64 0, .int .i64 0, .int .i64 0, .int .i64 0, .int .i64 0, .int .i64 0]) (t := 42) ?hr ?_; (case hd => rfl); (case hg => rfl); (case hr => first | (go_simp; done) | (go_simp; rfl)); intro gb136 hg w3 hbox hb; have n0_ := Aside0.mk (blk_below (g := gb135) (o := .cells #[.int .i64 a0_0, .int .i64 a0_1, .int .i64 a0_2, .int .i64 a0_3, .int .i64 a0_4, .int .i64 a0_5] 46 (0, 0)) (by (with_reducible repeat (first | refine blk_drewN ?_ _ | refine blk_drew ?_ | refine blk_alloc ?_ _)); exact BK135.out) hb); have n1_ := Aside0.mk (below_step (by repeat (first | (with_reducible first | exact HB.out | apply below_alloc | apply pw_below_drewN | apply below_drew1 | refine below_set ?_ GE135.out) | exact HB.out)) hb); have n2_ := Aside0.mk (hbox); have n3_ := Aside0.mk ((by rw [hg]; exact (below_size (by repeat (first | (with_reducible first | exact HB.out | apply below_alloc | apply pw_below_drewN | apply below_drew1 | refine below_set ?_ GE135.out) | exact HB.out))) : w.heap.size ≤ gb136)); have n4_ := Aside0.mk ((by rw [hg]; exact (below_size (by repeat (first | (with_reducible first | exact HB.out | apply below_alloc | apply pw_below_drewN | apply below_drew1 | refine below_set ?_ GE135.out) | exact HB.out))) : w.heap.size ≤ gb136)); have n5_ := Aside0.mk ((by rw [hg]; exact Nat.ne_of_lt (blk_lt (g := gb135) (o := .cells #[.int .i64 a0_0, .int .i64 a0_1, .int .i64 a0_2, .int .i64 a0_3, .int .i64 a0_4, .int .i64 a0_5] 46 (0, 0)) (by (with_reducible repeat (first | refine blk_drewN ?_ _ | refine blk_drew ?_ | refine blk_alloc ?_ _)); exact BK135.out)) : gb135 ≠ gb136)); have n6_ := Aside0.mk ((by rw [hg]; exact Nat.ne_of_gt (blk_lt (g := gb135) (o := .cells #[.int .i64 a0_0, .int .i64 a0_1, .int .i64 a0_2, .int .i64 a0_3, .int .i64 a0_4, .int .i64 a0_5] 46 (0, 0)) (by (with_reducible repeat (first | refine blk_drewN ?_ _ | refine blk_drew ?_ | refine blk_alloc ?_ _)); exact BK135.out)) : gb136 ≠ gb135)); clear BK135; clear HB; have BK135 := n0_; have HB := n1_; have BK136 := n2_; have GW136 := n3_; have GE136 := n4_; have NB135_136 := n5_; have NB136_135 := n6_; clear n0_ n1_ n2_ n3_ n4_ n5_ n6_; clear hb hbox hg) | ((with_reducible refine gate_dst (N := 3) rfl ?_); refine box_event ?hg (N := 3) ?hd (cs := #[.int .i64 0, .int .i64 0, .int .i64 0, .int .i64 0, .int .i64 0, .int .i64 0]) (t := 42) ?hr ?_; (case hd => rfl); (case hg => rfl); (case hr => first | (go_simp; done) | (go_simp; rfl)); intro gb137 hg w4 hbox hb; have n0_ := Aside0.mk (blk_below (g := gb135) (o := .cells #[.int .i64 a0_0, .int .i64 a0_1, .int .i64 a0_2, .int .i64 a0_3, .int .i64 a0_4, .int .i64 a0_5] 46 (0, 0)) (by (with_reducible repeat (first | refine blk_drewN ?_ _ | refine blk_drew ?_ | refine blk_alloc ?_ _)); exact BK135.out) hb); have n1_ := Aside0.mk (blk_below (g := gb136) (o := .cells #[.int .i64 0, .int .i64 0, .int .i64 0, .int .i64 0, .int .i64 0, .int .i64 0] 42 (0, 0)) (by (with_reducible repeat (first | refine blk_drewN ?_ _ | refine blk_drew ?_ | refine blk_alloc ?_ _)); exact BK136.out) hb); have n2_ := Aside0.mk (below_step (by repeat (first | (with_reducible first | exact HB.out | apply below_alloc | apply pw_below_drewN | apply below_drew1 | refine below_set ?_ GE135.out | refine below_set ?_ GE136.out) | exact HB.out)) hb); have n3_ := Aside0.mk (hbox); have n4_ := Aside0.mk ((by rw [hg]; exact (below_size (by repeat (first | (with_reducible first | exact HB.out | apply below_alloc | apply pw_below_drewN | apply below_drew1 | refine below_set ?_ GE135.out | refine below_set ?_ GE136.out) | exact HB.out))) : w.heap.size ≤ gb137)); have n5_ := Aside0.mk ((by rw [hg]; exact (below_size (by repeat (first | (with_reducible first | exact HB.out | apply below_alloc | apply pw_below_drewN | apply below_drew1 | refine below_set ?_ GE135.out | refine below_set ?_ GE136.out) | exact HB.out))) : w.heap.size ≤ gb137)); have n6_ := Aside0.mk ((by rw [hg]; exact Nat.ne_of_lt (blk_lt (g := gb135) (o := .cells #[.int .i64 a0_0, .int .i64 a0_1, .int .i64 a0_2, .int .i64 a0_3, .int .i64 a0_4, .int .i64 a0_5] 46 (0, 0)) (by (with_reducible repeat (first | refine blk_drewN ?_ _ | refine blk_drew ?_ | refine blk_alloc ?_ _)); exact BK135.out)) : gb135 ≠ gb137)); have n7_ := Aside0.mk ((by rw [hg]; exact Nat.ne_of_gt (blk_lt (g := gb135) (o := .cells #[.int .i64 a0_0, .int .i64 a0_1, .int .i64 a0_2, .int .i64 a0_3, .int .i64 a0_4, .int .i64 a0_5] 46 (0, 0)) (by (with_reducible repeat (first | refine blk_drewN ?_ _ | refine blk_drew ?_ | refine blk_alloc ?_ _)); exact BK135.out)) : gb137 ≠ gb135)); have n8_ := Aside0.mk ((by rw [hg]; exact Nat.ne_of_lt (blk_lt (g := gb136) (o := .cells #[.int .i64 0, .int .i64 0, .int .i64 0, .int .i64 0, .int .i64 0, .int .i64 0] 42 (0, 0)) (by (with_reducible repeat (first | refine blk_drewN ?_ _ | refine blk_drew ?_ | refine blk_alloc ?_ _)); exact BK136.out)) : gb136 ≠ gb137)); have n9_ := Aside0.mk ((by rw [hg]; exact Nat.ne_of_gt (blk_lt (g := gb136) (o := .cells #[.int .i64 0, .int .i64 0, .int .i64 0, .int .i64 0, .int .i64 0, .int .i64 0] 42 (0, 0)) (by (with_reducible repeat (first | refine blk_drewN ?_ _ | refine blk_drew ?_ | refine blk_alloc ?_ _)); exact BK136.out)) : gb137 ≠ gb136)); clear BK135; clear BK136; clear HB; have BK135 := n0_; have BK136 := n1_; have HB := n2_; have BK137 := n3_; have GW137 := n4_; have GE137 := n5_; have NB135_137 := n6_; have NB137_135 := n7_; have NB136_137 := n8_; have NB137_136 := n9_; clear n0_ n1_ n2_ n3_ n4_ n5_ n6_ n7_ n8_ n9_; clear hb hbox hg; have hnb5 := NB135_136.out; have hnc5 := NB136_135.out; have hnb6 := NB135_137.out; have hnc6 := NB137_135.out; have hcz7_0 : w4.cell? ⟨gb135, 0, none⟩ = some (.int .i64 a0_0) := (blk_cell BK135.out 0).trans rfl; have hcz7_1 : w4.cell? ⟨gb135, 1, none⟩ = some (.int .i64 a0_1) := (blk_cell BK135.out 1).trans rfl; have hcz7_2 : w4.cell? ⟨gb135, 2, none⟩ = some (.int .i64 a0_2) := (blk_cell BK135.out 2).trans rfl; have hcz7_3 : w4.cell? ⟨gb135, 3, none⟩ = some (.int .i64 a0_3) := (blk_cell BK135.out 3).trans rfl; have hcz7_4 : w4.cell? ⟨gb135, 4, none⟩ = some (.int .i64 a0_4) := (blk_cell BK135.out 4).trans rfl; have hcz7_5 : w4.cell? ⟨gb135, 5, none⟩ = some (.int .i64 a0_5) := (blk_cell BK135.out 5).trans rfl; have hfz7_0 := blk_frozen BK135.out 0; have hfz7_1 := blk_frozen BK135.out 1; have hfz7_2 := blk_frozen BK135.out 2; have hfz7_3 := blk_frozen BK135.out 3; have hfz7_4 := blk_frozen BK135.out 4; have hfz7_5 := blk_frozen BK135.out 5; have hnb8 := NB137_136.out; have hnc8 := NB136_137.out; have hcz9_0 : w4.cell? ⟨gb137, 0, none⟩ = some (.int .i64 0) := (blk_cell BK137.out 0).trans rfl; have hcz9_1 : w4.cell? ⟨gb137, 1, none⟩ = some (.int .i64 0) := (blk_cell BK137.out 1).trans rfl; have hcz9_2 : w4.cell? ⟨gb137, 2, none⟩ = some (.int .i64 0) := (blk_cell BK137.out 2).trans rfl; have hcz9_3 : w4.cell? ⟨gb137, 3, none⟩ = some (.int .i64 0) := (blk_cell BK137.out 3).trans rfl; have hcz9_4 : w4.cell? ⟨gb137, 4, none⟩ = some (.int .i64 0) := (blk_cell BK137.out 4).trans rfl; have hcz9_5 : w4.cell? ⟨gb137, 5, none⟩ = some (.int .i64 0) := (blk_cell BK137.out 5).trans rfl; have hfz9_0 := blk_frozen BK137.out 0; have hfz9_1 := blk_frozen BK137.out 1; have hfz9_2 := blk_frozen BK137.out 2; have hfz9_3 := blk_frozen BK137.out 3; have hfz9_4 := blk_frozen BK137.out 4; have hfz9_5 := blk_frozen BK137.out 5; have hcz10_0 : w4.cell? ⟨gb136, 0, none⟩ = some (.int .i64 0) := (blk_cell BK136.out 0).trans rfl; have hcz10_1 : w4.cell? ⟨gb136, 1, none⟩ = some (.int .i64 0) := (blk_cell BK136.out 1).trans rfl; have hcz10_2 : w4.cell? ⟨gb136, 2, none⟩ = some (.int .i64 0) := (blk_cell BK136.out 2).trans rfl; have hcz10_3 : w4.cell? ⟨gb136, 3, none⟩ = some (.int .i64 0) := (blk_cell BK136.out 3).trans rfl; have hcz10_4 : w4.cell? ⟨gb136, 4, none⟩ = some (.int .i64 0) := (blk_cell BK136.out 4).trans rfl; have hcz10_5 : w4.cell? ⟨gb136, 5, none⟩ = some (.int .i64 0) := (blk_cell BK136.out 5).trans rfl; have hfz10_0 := blk_frozen BK136.out 0; have hfz10_1 := blk_frozen BK136.out 1; have hfz10_2 := blk_frozen BK136.out 2; have hfz10_3 := blk_frozen BK136.out 3; have hfz10_4 := blk_frozen BK136.out 4; have hfz10_5 := blk_frozen BK136.out 5))
 refine bodyPost_ret (results_cell_row rfl _ _ gb136 42 #[.int .i64 a0_0, .int .i64 a0_1, .int .i64 a0_2, .int .i64 a0_3, .int .i64 a0_4, .int .i64 a0_5] (0, 0) _ rfl (by (with_reducible repeat (first | refine blk_drewN ?_ _ | refine blk_drew ?_ | refine blk_alloc ?_ _)); refine blk_put (cs := #[.int .i64 a0_0, .int .i64 a0_1, .int .i64 a0_2, .int .i64 a0_3, .int .i64 a0_4, .int .i64 0]) ?_ 5 _ rfl; (with_reducible repeat (first | refine blk_drewN ?_ _ | refine blk_drew ?_ | refine blk_alloc ?_ _)); refine blk_put (cs := #[.int .i64 a0_0, .int .i64 a0_1, .int .i64 a0_2, .int .i64 a0_3, .int .i64 0, .int .i64 0]) ?_ 4 _ rfl; (with_reducible repeat (first | refine blk_drewN ?_ _ | refine blk_drew ?_ | refine blk_alloc ?_ _)); refine blk_put (cs := #[.int .i64 a0_0, .int .i64 a0_1, .int .i64 a0_2, .int .i64 0, .int .i64 0, .int .i64 0]) ?_ 3 _ rfl; (with_reducible repeat (first | refine blk_drewN ?_ _ | refine blk_drew ?_ | refine blk_alloc ?_ _)); refine blk_put (cs := #[.int .i64 a0_0, .int .i64 a0_1, .int .i64 0, .int .i64 0, .int .i64 0, .int .i64 0]) ?_ 2 _ rfl; (with_reducible repeat (first | refine blk_drewN ?_ _ | refine blk_drew ?_ | refine blk_alloc ?_ _)); refine blk_put (cs := #[.int .i64 a0_0, .int .i64 0, .int .i64 0, .int .i64 0, .int .i64 0, .int .i64 0]) ?_ 1 _ rfl; (with_reducible repeat (first | refine blk_drewN ?_ _ | refine blk_drew ?_ | refine blk_alloc ?_ _)); refine blk_put (cs := #[.int .i64 0, .int .i64 0, .int .i64 0, .int .i64 0, .int .i64 0, .int .i64 0]) ?_ 0 _ rfl; (with_reducible repeat (first | refine blk_drewN ?_ _ | refine blk_drew ?_ | refine blk_alloc ?_ _)); refine blk_far ?_ NB136_137.out _; (with_reducible repeat (first | refine blk_drewN ?_ _ | refine blk_drew ?_ | refine blk_alloc ?_ _)); refine blk_far ?_ NB136_137.out _; (with_reducible repeat (first | refine blk_drewN ?_ _ | refine blk_drew ?_ | refine blk_alloc ?_ _)); refine blk_far ?_ NB136_137.out _; (with_reducible repeat (first | refine blk_drewN ?_ _ | refine blk_drew ?_ | refine blk_alloc ?_ _)); refine blk_far ?_ NB136_137.out _; (with_reducible repeat (first | refine blk_drewN ?_ _ | refine blk_drew ?_ | refine blk_alloc ?_ _)); refine blk_far ?_ NB136_137.out _; (with_reducible repeat (first | refine blk_drewN ?_ _ | refine blk_drew ?_ | refine blk_alloc ?_ _)); refine blk_far ?_ NB136_137.out _; (with_reducible repeat (first | refine blk_drewN ?_ _ | refine blk_drew ?_ | refine blk_alloc ?_ _)); exact BK136.out) Tryd.underlying42 rfl (by kernel_rfl)) rfl ?_
 exact ⟨by first | rfl | (simp [errW_none, errW_some] <;> rfl) | (simp [*, errW_none, errW_some] <;> rfl), by repeat (first | (with_reducible first | exact HB.out | apply below_alloc | apply pw_below_drewN | apply below_drew1 | refine below_set ?_ GE135.out | refine below_set ?_ GE136.out | refine below_set ?_ GE137.out) | exact HB.out)⟩

end Go.Proofs.YtnibkkfjgmfpnaaDoor.Q
