/- Texts of this seat, put together: Qf68. -/
import Derived.Test.YtfmmpjfmdhdbmaaDoorZFnExactParseWarningLine
import Derived.Test.YtfmmpjfmdhdbmaaDoorBFnExactParseWarningLine0
import Derived.Test.YtfmmpjfmdhdbmaaDoorBFnExactParseWarningLine1
namespace Go.Proofs.YtfmmpjfmdhdbmaaDoor.Q
open Go.RowKit Go.Proofs.YtfmmpjfmdhdbmaaDoorW.PrintWords Go.Proofs.YtfmmpjfmdhdbmaaDoorW.PrintLast Go.Proofs.YtfmmpjfmdhdbmaaDoorW.PrintMore
attribute [local go_sem] max2_int min2_int max_two min_two max_three min_three max_four min_four   -- for this text's walks alone
set_option linter.unusedVariables false
set_option linter.unusedSimpArgs false

/-! ### spec_l17Line: function 68 -/
def spec_l17Line.f (k : Nat) (a0_0 : Int) (a0_1 : Int) (a0_2 : Int) (a0_3 : Int) (a0_4 : Int) (a0_5 : Int) : Option (ByteArray) := (spec_l1Num.f k a0_0).bind fun t423 => (if t423.size + 2 ≤ 9223372036854775807 then ((spec_l17Levels.f).bind fun t424 => (if 0 ≤ a0_2 then (if a0_2 < (t424.length : Int) then (if (t423 ++ (⟨#[58, 32]⟩ : ByteArray)).size + (rdOf ByteArray.empty t424 a0_2).size ≤ 9223372036854775807 then (if ((t423 ++ (⟨#[58, 32]⟩ : ByteArray)) ++ (rdOf ByteArray.empty t424 a0_2)).size + 1 ≤ 9223372036854775807 then ((spec_l17Topics.f).bind fun t428 => (if 0 ≤ a0_1 then (if a0_1 < (t428.length : Int) then (if (((t423 ++ (⟨#[58, 32]⟩ : ByteArray)) ++ (rdOf ByteArray.empty t424 a0_2)) ++ (⟨#[32]⟩ : ByteArray)).size + (rdOf ByteArray.empty t428 a0_1).size ≤ 9223372036854775807 then (if ((((t423 ++ (⟨#[58, 32]⟩ : ByteArray)) ++ (rdOf ByteArray.empty t424 a0_2)) ++ (⟨#[32]⟩ : ByteArray)) ++ (rdOf ByteArray.empty t428 a0_1)).size + 7 ≤ 9223372036854775807 then ((spec_l1Num.f k a0_3).bind fun t432 => (if (((((t423 ++ (⟨#[58, 32]⟩ : ByteArray)) ++ (rdOf ByteArray.empty t424 a0_2)) ++ (⟨#[32]⟩ : ByteArray)) ++ (rdOf ByteArray.empty t428 a0_1)) ++ (⟨#[44, 32, 97, 114, 101, 97, 32]⟩ : ByteArray)).size + t432.size ≤ 9223372036854775807 then (if ((((((t423 ++ (⟨#[58, 32]⟩ : ByteArray)) ++ (rdOf ByteArray.empty t424 a0_2)) ++ (⟨#[32]⟩ : ByteArray)) ++ (rdOf ByteArray.empty t428 a0_1)) ++ (⟨#[44, 32, 97, 114, 101, 97, 32]⟩ : ByteArray)) ++ t432).size + 8 ≤ 9223372036854775807 then ((spec_l1Num.f k a0_4).bind fun t433 => (if (((((((t423 ++ (⟨#[58, 32]⟩ : ByteArray)) ++ (rdOf ByteArray.empty t424 a0_2)) ++ (⟨#[32]⟩ : ByteArray)) ++ (rdOf ByteArray.empty t428 a0_1)) ++ (⟨#[44, 32, 97, 114, 101, 97, 32]⟩ : ByteArray)) ++ t432) ++ (⟨#[44, 32, 104, 111, 117, 114, 115, 32]⟩ : ByteArray)).size + t433.size ≤ 9223372036854775807 then (if ((((((((t423 ++ (⟨#[58, 32]⟩ : ByteArray)) ++ (rdOf ByteArray.empty t424 a0_2)) ++ (⟨#[32]⟩ : ByteArray)) ++ (rdOf ByteArray.empty t428 a0_1)) ++ (⟨#[44, 32, 97, 114, 101, 97, 32]⟩ : ByteArray)) ++ t432) ++ (⟨#[44, 32, 104, 111, 117, 114, 115, 32]⟩ : ByteArray)) ++ t433).size + 1 ≤ 9223372036854775807 then ((spec_l1Num.f k a0_5).bind fun t434 => (if (((((((((t423 ++ (⟨#[58, 32]⟩ : ByteArray)) ++ (rdOf ByteArray.empty t424 a0_2)) ++ (⟨#[32]⟩ : ByteArray)) ++ (rdOf ByteArray.empty t428 a0_1)) ++ (⟨#[44, 32, 97, 114, 101, 97, 32]⟩ : ByteArray)) ++ t432) ++ (⟨#[44, 32, 104, 111, 117, 114, 115, 32]⟩ : ByteArray)) ++ t433) ++ (⟨#[45]⟩ : ByteArray)).size + t434.size ≤ 9223372036854775807 then (some ((((((((((t423 ++ (⟨#[58, 32]⟩ : ByteArray)) ++ (rdOf ByteArray.empty t424 a0_2)) ++ (⟨#[32]⟩ : ByteArray)) ++ (rdOf ByteArray.empty t428 a0_1)) ++ (⟨#[44, 32, 97, 114, 101, 97, 32]⟩ : ByteArray)) ++ t432) ++ (⟨#[44, 32, 104, 111, 117, 114, 115, 32]⟩ : ByteArray)) ++ t433) ++ (⟨#[45]⟩ : ByteArray)) ++ t434)) else (none))) else (none)) else (none))) else (none)) else (none))) else (none)) else (none)) else (none)) else (none))) else (none)) else (none)) else (none)) else (none))) else (none))
theorem spec_l17Line.mono : ∀ a0 a1 a2 a3 a4 a5 k, LeO (spec_l17Line.f k a0 a1 a2 a3 a4 a5) (spec_l17Line.f (k + 1) a0 a1 a2 a3 a4 a5) := by
 intro a0 a1 a2 a3 a4 a5 k
 unfold spec_l17Line.f
 repeat' first
   | (with_reducible exact spec_l1Num.mono _ _)
   | (with_reducible exact LeO.refl _)
   | (with_reducible exact LeO.none _)
   | (with_reducible refine LeO.ite ?_ ?_)
   | (with_reducible refine LeO.bind ?_ (fun _ => ?_))
   | exact spec_l1Num.mono _ _
   | exact LeO.none _
   | refine LeO.ite ?_ ?_
   | refine LeO.bind ?_ (fun _ => ?_)
def spec_l17Line.T1 : Bool × List (List Nat × List Nat) := (true, [([], []), ([0], [0]), ([1], [1]), ([2], [2]), ([2], []), ([], []), ([5], [5]), ([4, 6], [4, 6]), ([7], [7]), ([3, 8], [3, 8]), ([9], [9]), ([4], []), ([], []), ([12], [12]), ([11, 13], [11, 13]), ([14], [14]), ([10, 15], [10, 15]), ([16], [16]), ([], []), ([18], [18]), ([19, 11], [19]), ([17, 20], [17, 20]), ([21], [21]), ([], []), ([23], [23]), ([24, 20], [24]), ([22, 25], [22, 25]), ([26], [26]), ([], []), ([28], [28]), ([29, 25], [29]), ([27, 30], [27, 30]), ([31, 30, 0, 1, 2, 3, 4, 5, 6, 7, 8, 9, 10, 11, 12, 13, 14, 15, 16, 17, 18, 19, 20, 21, 22, 23, 24, 25, 26, 27, 28, 29, 30, 31], [31])])
def spec_l17Line.B1 : List Nat := [0, 1, 3, 7, 7, 0, 32, 119, 247, 511, 1023, 23, 0, 4096, 14359, 30743, 65535, 131071, 0, 262144, 788503, 2097151, 4194303, 0, 8388608, 27002903, 67108863, 134217727, 0, 268435456, 865863703, 2147483647, 4294967295]
theorem spec_l17Line.tab1 : rtab .any (opsOf Tryd.f68 1) = spec_l17Line.T1 := by kernel_rfl
theorem spec_l17Line.bits1 : waitsOk spec_l17Line.T1.2 spec_l17Line.B1 = true := by kernel_rfl
set_option maxHeartbeats 8000000 in
set_option maxRecDepth 100000 in
theorem spec_l17Line.calls (k : Nat) (a0_0 : Int) (a0_1 : Int) (a0_2 : Int) (a0_3 : Int) (a0_4 : Int) (a0_5 : Int) (r : ByteArray) (w : World) (h : spec_l17Line.f k a0_0 a0_1 a0_2 a0_3 a0_4 a0_5 = some r) :
  Calls Tryd.prog 68 #[.agg #[.int .i64 a0_0, .int .i64 a0_1, .int .i64 a0_2, .int .i64 a0_3, .int .i64 a0_4, .int .i64 a0_5]] w fun e w' => e = .returned (.string r) ∧ Below w.heap.size w w' := by
 have hu23 := Tryd.underlying23
 have HB := Aside0.mk (Below.refl w.heap.size w)
 have H : ((spec_l1Num.f k a0_0).bind fun t423 => (if t423.size + 2 ≤ 9223372036854775807 then ((spec_l17Levels.f).bind fun t424 => (if 0 ≤ a0_2 then (if a0_2 < (t424.length : Int) then (if (t423 ++ (⟨#[58, 32]⟩ : ByteArray)).size + (rdOf ByteArray.empty t424 a0_2).size ≤ 9223372036854775807 then (if ((t423 ++ (⟨#[58, 32]⟩ : ByteArray)) ++ (rdOf ByteArray.empty t424 a0_2)).size + 1 ≤ 9223372036854775807 then ((spec_l17Topics.f).bind fun t428 => (if 0 ≤ a0_1 then (if a0_1 < (t428.length : Int) then (if (((t423 ++ (⟨#[58, 32]⟩ : ByteArray)) ++ (rdOf ByteArray.empty t424 a0_2)) ++ (⟨#[32]⟩ : ByteArray)).size + (rdOf ByteArray.empty t428 a0_1).size ≤ 9223372036854775807 then (if ((((t423 ++ (⟨#[58, 32]⟩ : ByteArray)) ++ (rdOf ByteArray.empty t424 a0_2)) ++ (⟨#[32]⟩ : ByteArray)) ++ (rdOf ByteArray.empty t428 a0_1)).size + 7 ≤ 9223372036854775807 then ((spec_l1Num.f k a0_3).bind fun t432 => (if (((((t423 ++ (⟨#[58, 32]⟩ : ByteArray)) ++ (rdOf ByteArray.empty t424 a0_2)) ++ (⟨#[32]⟩ : ByteArray)) ++ (rdOf ByteArray.empty t428 a0_1)) ++ (⟨#[44, 32, 97, 114, 101, 97, 32]⟩ : ByteArray)).size + t432.size ≤ 9223372036854775807 then (if ((((((t423 ++ (⟨#[58, 32]⟩ : ByteArray)) ++ (rdOf ByteArray.empty t424 a0_2)) ++ (⟨#[32]⟩ : ByteArray)) ++ (rdOf ByteArray.empty t428 a0_1)) ++ (⟨#[44, 32, 97, 114, 101, 97, 32]⟩ : ByteArray)) ++ t432).size + 8 ≤ 9223372036854775807 then ((spec_l1Num.f k a0_4).bind fun t433 => (if (((((((t423 ++ (⟨#[58, 32]⟩ : ByteArray)) ++ (rdOf ByteArray.empty t424 a0_2)) ++ (⟨#[32]⟩ : ByteArray)) ++ (rdOf ByteArray.empty t428 a0_1)) ++ (⟨#[44, 32, 97, 114, 101, 97, 32]⟩ : ByteArray)) ++ t432) ++ (⟨#[44, 32, 104, 111, 117, 114, 115, 32]⟩ : ByteArray)).size + t433.size ≤ 9223372036854775807 then (if ((((((((t423 ++ (⟨#[58, 32]⟩ : ByteArray)) ++ (rdOf ByteArray.empty t424 a0_2)) ++ (⟨#[32]⟩ : ByteArray)) ++ (rdOf ByteArray.empty t428 a0_1)) ++ (⟨#[44, 32, 97, 114, 101, 97, 32]⟩ : ByteArray)) ++ t432) ++ (⟨#[44, 32, 104, 111, 117, 114, 115, 32]⟩ : ByteArray)) ++ t433).size + 1 ≤ 9223372036854775807 then ((spec_l1Num.f k a0_5).bind fun t434 => (if (((((((((t423 ++ (⟨#[58, 32]⟩ : ByteArray)) ++ (rdOf ByteArray.empty t424 a0_2)) ++ (⟨#[32]⟩ : ByteArray)) ++ (rdOf ByteArray.empty t428 a0_1)) ++ (⟨#[44, 32, 97, 114, 101, 97, 32]⟩ : ByteArray)) ++ t432) ++ (⟨#[44, 32, 104, 111, 117, 114, 115, 32]⟩ : ByteArray)) ++ t433) ++ (⟨#[45]⟩ : ByteArray)).size + t434.size ≤ 9223372036854775807 then (some ((((((((((t423 ++ (⟨#[58, 32]⟩ : ByteArray)) ++ (rdOf ByteArray.empty t424 a0_2)) ++ (⟨#[32]⟩ : ByteArray)) ++ (rdOf ByteArray.empty t428 a0_1)) ++ (⟨#[44, 32, 97, 114, 101, 97, 32]⟩ : ByteArray)) ++ t432) ++ (⟨#[44, 32, 104, 111, 117, 114, 115, 32]⟩ : ByteArray)) ++ t433) ++ (⟨#[45]⟩ : ByteArray)) ++ t434)) else (none))) else (none)) else (none))) else (none)) else (none))) else (none)) else (none)) else (none)) else (none))) else (none)) else (none)) else (none)) else (none))) else (none))) = some r := h
 clear h
 replace H := Option.bind_eq_some_iff.mp H
 obtain ⟨t423, A20, H⟩ := H
 replace H : (if t423.size + 2 ≤ 9223372036854775807 then ((spec_l17Levels.f).bind fun t424 => (if 0 ≤ a0_2 then (if a0_2 < (t424.length : Int) then (if (t423 ++ (⟨#[58, 32]⟩ : ByteArray)).size + (rdOf ByteArray.empty t424 a0_2).size ≤ 9223372036854775807 then (if ((t423 ++ (⟨#[58, 32]⟩ : ByteArray)) ++ (rdOf ByteArray.empty t424 a0_2)).size + 1 ≤ 9223372036854775807 then ((spec_l17Topics.f).bind fun t428 => (if 0 ≤ a0_1 then (if a0_1 < (t428.length : Int) then (if (((t423 ++ (⟨#[58, 32]⟩ : ByteArray)) ++ (rdOf ByteArray.empty t424 a0_2)) ++ (⟨#[32]⟩ : ByteArray)).size + (rdOf ByteArray.empty t428 a0_1).size ≤ 9223372036854775807 then (if ((((t423 ++ (⟨#[58, 32]⟩ : ByteArray)) ++ (rdOf ByteArray.empty t424 a0_2)) ++ (⟨#[32]⟩ : ByteArray)) ++ (rdOf ByteArray.empty t428 a0_1)).size + 7 ≤ 9223372036854775807 then ((spec_l1Num.f k a0_3).bind fun t432 => (if (((((t423 ++ (⟨#[58, 32]⟩ : ByteArray)) ++ (rdOf ByteArray.empty t424 a0_2)) ++ (⟨#[32]⟩ : ByteArray)) ++ (rdOf ByteArray.empty t428 a0_1)) ++ (⟨#[44, 32, 97, 114, 101, 97, 32]⟩ : ByteArray)).size + t432.size ≤ 9223372036854775807 then (if ((((((t423 ++ (⟨#[58, 32]⟩ : ByteArray)) ++ (rdOf ByteArray.empty t424 a0_2)) ++ (⟨#[32]⟩ : ByteArray)) ++ (rdOf ByteArray.empty t428 a0_1)) ++ (⟨#[44, 32, 97, 114, 101, 97, 32]⟩ : ByteArray)) ++ t432).size + 8 ≤ 9223372036854775807 then ((spec_l1Num.f k a0_4).bind fun t433 => (if (((((((t423 ++ (⟨#[58, 32]⟩ : ByteArray)) ++ (rdOf ByteArray.empty t424 a0_2)) ++ (⟨#[32]⟩ : ByteArray)) ++ (rdOf ByteArray.empty t428 a0_1)) ++ (⟨#[44, 32, 97, 114, 101, 97, 32]⟩ : ByteArray)) ++ t432) ++ (⟨#[44, 32, 104, 111, 117, 114, 115, 32]⟩ : ByteArray)).size + t433.size ≤ 9223372036854775807 then (if ((((((((t423 ++ (⟨#[58, 32]⟩ : ByteArray)) ++ (rdOf ByteArray.empty t424 a0_2)) ++ (⟨#[32]⟩ : ByteArray)) ++ (rdOf ByteArray.empty t428 a0_1)) ++ (⟨#[44, 32, 97, 114, 101, 97, 32]⟩ : ByteArray)) ++ t432) ++ (⟨#[44, 32, 104, 111, 117, 114, 115, 32]⟩ : ByteArray)) ++ t433).size + 1 ≤ 9223372036854775807 then ((spec_l1Num.f k a0_5).bind fun t434 => (if (((((((((t423 ++ (⟨#[58, 32]⟩ : ByteArray)) ++ (rdOf ByteArray.empty t424 a0_2)) ++ (⟨#[32]⟩ : ByteArray)) ++ (rdOf ByteArray.empty t428 a0_1)) ++ (⟨#[44, 32, 97, 114, 101, 97, 32]⟩ : ByteArray)) ++ t432) ++ (⟨#[44, 32, 104, 111, 117, 114, 115, 32]⟩ : ByteArray)) ++ t433) ++ (⟨#[45]⟩ : ByteArray)).size + t434.size ≤ 9223372036854775807 then (some ((((((((((t423 ++ (⟨#[58, 32]⟩ : ByteArray)) ++ (rdOf ByteArray.empty t424 a0_2)) ++ (⟨#[32]⟩ : ByteArray)) ++ (rdOf ByteArray.empty t428 a0_1)) ++ (⟨#[44, 32, 97, 114, 101, 97, 32]⟩ : ByteArray)) ++ t432) ++ (⟨#[44, 32, 104, 111, 117, 114, 115, 32]⟩ : ByteArray)) ++ t433) ++ (⟨#[45]⟩ : ByteArray)) ++ t434)) else (none))) else (none)) else (none))) else (none)) else (none))) else (none)) else (none)) else (none)) else (none))) else (none)) else (none)) else (none)) else (none))) else (none)) = some r := H
 have A2 := Aside0.mk A20
 clear A20
 by_cases c3 : t423.size + 2 ≤ 9223372036854775807
 case neg =>
  rw [if_neg c3] at H
  exact absurd H (by simp)
 rw [if_pos c3] at H
 have c3b0 := eq_true c3
 have c3b1 : decide (t423.size + 2 ≤ 9223372036854775807) = true := decide_eq_true c3
 try have c3b2 : (9223372036854775807 < t423.size + 2) = False := eq_false (Nat.not_lt.2 c3)
 replace H := Option.bind_eq_some_iff.mp H
 obtain ⟨t424, A40, H⟩ := H
 replace H : (if 0 ≤ a0_2 then (if a0_2 < (t424.length : Int) then (if (t423 ++ (⟨#[58, 32]⟩ : ByteArray)).size + (rdOf ByteArray.empty t424 a0_2).size ≤ 9223372036854775807 then (if ((t423 ++ (⟨#[58, 32]⟩ : ByteArray)) ++ (rdOf ByteArray.empty t424 a0_2)).size + 1 ≤ 9223372036854775807 then ((spec_l17Topics.f).bind fun t428 => (if 0 ≤ a0_1 then (if a0_1 < (t428.length : Int) then (if (((t423 ++ (⟨#[58, 32]⟩ : ByteArray)) ++ (rdOf ByteArray.empty t424 a0_2)) ++ (⟨#[32]⟩ : ByteArray)).size + (rdOf ByteArray.empty t428 a0_1).size ≤ 9223372036854775807 then (if ((((t423 ++ (⟨#[58, 32]⟩ : ByteArray)) ++ (rdOf ByteArray.empty t424 a0_2)) ++ (⟨#[32]⟩ : ByteArray)) ++ (rdOf ByteArray.empty t428 a0_1)).size + 7 ≤ 9223372036854775807 then ((spec_l1Num.f k a0_3).bind fun t432 => (if (((((t423 ++ (⟨#[58, 32]⟩ : ByteArray)) ++ (rdOf ByteArray.empty t424 a0_2)) ++ (⟨#[32]⟩ : ByteArray)) ++ (rdOf ByteArray.empty t428 a0_1)) ++ (⟨#[44, 32, 97, 114, 101, 97, 32]⟩ : ByteArray)).size + t432.size ≤ 9223372036854775807 then (if ((((((t423 ++ (⟨#[58, 32]⟩ : ByteArray)) ++ (rdOf ByteArray.empty t424 a0_2)) ++ (⟨#[32]⟩ : ByteArray)) ++ (rdOf ByteArray.empty t428 a0_1)) ++ (⟨#[44, 32, 97, 114, 101, 97, 32]⟩ : ByteArray)) ++ t432).size + 8 ≤ 9223372036854775807 then ((spec_l1Num.f k a0_4).bind fun t433 => (if (((((((t423 ++ (⟨#[58, 32]⟩ : ByteArray)) ++ (rdOf ByteArray.empty t424 a0_2)) ++ (⟨#[32]⟩ : ByteArray)) ++ (rdOf ByteArray.empty t428 a0_1)) ++ (⟨#[44, 32, 97, 114, 101, 97, 32]⟩ : ByteArray)) ++ t432) ++ (⟨#[44, 32, 104, 111, 117, 114, 115, 32]⟩ : ByteArray)).size + t433.size ≤ 9223372036854775807 then (if ((((((((t423 ++ (⟨#[58, 32]⟩ : ByteArray)) ++ (rdOf ByteArray.empty t424 a0_2)) ++ (⟨#[32]⟩ : ByteArray)) ++ (rdOf ByteArray.empty t428 a0_1)) ++ (⟨#[44, 32, 97, 114, 101, 97, 32]⟩ : ByteArray)) ++ t432) ++ (⟨#[44, 32, 104, 111, 117, 114, 115, 32]⟩ : ByteArray)) ++ t433).size + 1 ≤ 9223372036854775807 then ((spec_l1Num.f k a0_5).bind fun t434 => (if (((((((((t423 ++ (⟨#[58, 32]⟩ : ByteArray)) ++ (rdOf ByteArray.empty t424 a0_2)) ++ (⟨#[32]⟩ : ByteArray)) ++ (rdOf ByteArray.empty t428 a0_1)) ++ (⟨#[44, 32, 97, 114, 101, 97, 32]⟩ : ByteArray)) ++ t432) ++ (⟨#[44, 32, 104, 111, 117, 114, 115, 32]⟩ : ByteArray)) ++ t433) ++ (⟨#[45]⟩ : ByteArray)).size + t434.size ≤ 9223372036854775807 then (some ((((((((((t423 ++ (⟨#[58, 32]⟩ : ByteArray)) ++ (rdOf ByteArray.empty t424 a0_2)) ++ (⟨#[32]⟩ : ByteArray)) ++ (rdOf ByteArray.empty t428 a0_1)) ++ (⟨#[44, 32, 97, 114, 101, 97, 32]⟩ : ByteArray)) ++ t432) ++ (⟨#[44, 32, 104, 111, 117, 114, 115, 32]⟩ : ByteArray)) ++ t433) ++ (⟨#[45]⟩ : ByteArray)) ++ t434)) else (none))) else (none)) else (none))) else (none)) else (none))) else (none)) else (none)) else (none)) else (none))) else (none)) else (none)) else (none)) else (none)) = some r := H
 have A4 := Aside0.mk A40
 clear A40
 by_cases c5 : 0 ≤ a0_2
 case neg =>
  rw [if_neg c5] at H
  exact absurd H (by simp)
 rw [if_pos c5] at H
 have c5b0 : decide (0 ≤ a0_2) = true := decide_eq_true c5
 clear c5
 by_cases c6 : a0_2 < (t424.length : Int)
 case neg =>
  rw [if_neg c6] at H
  exact absurd H (by simp)
 rw [if_pos c6] at H
 have c6b0 : decide (a0_2 < (t424.length : Int)) = true := decide_eq_true c6
 clear c6
 by_cases c7 : (t423 ++ (⟨#[58, 32]⟩ : ByteArray)).size + (rdOf ByteArray.empty t424 a0_2).size ≤ 9223372036854775807
 case neg =>
  rw [if_neg c7] at H
  exact absurd H (by simp)
 rw [if_pos c7] at H
 have c7b0 := eq_true c7
 have c7b1 : decide ((t423 ++ (⟨#[58, 32]⟩ : ByteArray)).size + (rdOf ByteArray.empty t424 a0_2).size ≤ 9223372036854775807) = true := decide_eq_true c7
 try have c7b2 : (9223372036854775807 < (t423 ++ (⟨#[58, 32]⟩ : ByteArray)).size + (rdOf ByteArray.empty t424 a0_2).size) = False := eq_false (Nat.not_lt.2 c7)
 try have c7b3 : (9223372036854775807 < t423.size + 2 + (rdOf ByteArray.empty t424 a0_2).size) = False := eq_false (Nat.not_lt.2 (by have q_ := c7; simp only [ByteArray.size_append] at q_; exact q_))
 by_cases c8 : ((t423 ++ (⟨#[58, 32]⟩ : ByteArray)) ++ (rdOf ByteArray.empty t424 a0_2)).size + 1 ≤ 9223372036854775807
 case neg =>
  rw [if_neg c8] at H
  exact absurd H (by simp)
 rw [if_pos c8] at H
 have c8b0 := eq_true c8
 have c8b1 : decide (((t423 ++ (⟨#[58, 32]⟩ : ByteArray)) ++ (rdOf ByteArray.empty t424 a0_2)).size + 1 ≤ 9223372036854775807) = true := decide_eq_true c8
 try have c8b2 : (9223372036854775807 < ((t423 ++ (⟨#[58, 32]⟩ : ByteArray)) ++ (rdOf ByteArray.empty t424 a0_2)).size + 1) = False := eq_false (Nat.not_lt.2 c8)
 try have c8b3 : (9223372036854775807 < t423.size + 2 + (rdOf ByteArray.empty t424 a0_2).size + 1) = False := eq_false (Nat.not_lt.2 (by have q_ := c8; simp only [ByteArray.size_append] at q_; exact q_))
 replace H := Option.bind_eq_some_iff.mp H
 obtain ⟨t428, A90, H⟩ := H
 replace H : (if 0 ≤ a0_1 then (if a0_1 < (t428.length : Int) then (if (((t423 ++ (⟨#[58, 32]⟩ : ByteArray)) ++ (rdOf ByteArray.empty t424 a0_2)) ++ (⟨#[32]⟩ : ByteArray)).size + (rdOf ByteArray.empty t428 a0_1).size ≤ 9223372036854775807 then (if ((((t423 ++ (⟨#[58, 32]⟩ : ByteArray)) ++ (rdOf ByteArray.empty t424 a0_2)) ++ (⟨#[32]⟩ : ByteArray)) ++ (rdOf ByteArray.empty t428 a0_1)).size + 7 ≤ 9223372036854775807 then ((spec_l1Num.f k a0_3).bind fun t432 => (if (((((t423 ++ (⟨#[58, 32]⟩ : ByteArray)) ++ (rdOf ByteArray.empty t424 a0_2)) ++ (⟨#[32]⟩ : ByteArray)) ++ (rdOf ByteArray.empty t428 a0_1)) ++ (⟨#[44, 32, 97, 114, 101, 97, 32]⟩ : ByteArray)).size + t432.size ≤ 9223372036854775807 then (if ((((((t423 ++ (⟨#[58, 32]⟩ : ByteArray)) ++ (rdOf ByteArray.empty t424 a0_2)) ++ (⟨#[32]⟩ : ByteArray)) ++ (rdOf ByteArray.empty t428 a0_1)) ++ (⟨#[44, 32, 97, 114, 101, 97, 32]⟩ : ByteArray)) ++ t432).size + 8 ≤ 9223372036854775807 then ((spec_l1Num.f k a0_4).bind fun t433 => (if (((((((t423 ++ (⟨#[58, 32]⟩ : ByteArray)) ++ (rdOf ByteArray.empty t424 a0_2)) ++ (⟨#[32]⟩ : ByteArray)) ++ (rdOf ByteArray.empty t428 a0_1)) ++ (⟨#[44, 32, 97, 114, 101, 97, 32]⟩ : ByteArray)) ++ t432) ++ (⟨#[44, 32, 104, 111, 117, 114, 115, 32]⟩ : ByteArray)).size + t433.size ≤ 9223372036854775807 then (if ((((((((t423 ++ (⟨#[58, 32]⟩ : ByteArray)) ++ (rdOf ByteArray.empty t424 a0_2)) ++ (⟨#[32]⟩ : ByteArray)) ++ (rdOf ByteArray.empty t428 a0_1)) ++ (⟨#[44, 32, 97, 114, 101, 97, 32]⟩ : ByteArray)) ++ t432) ++ (⟨#[44, 32, 104, 111, 117, 114, 115, 32]⟩ : ByteArray)) ++ t433).size + 1 ≤ 9223372036854775807 then ((spec_l1Num.f k a0_5).bind fun t434 => (if (((((((((t423 ++ (⟨#[58, 32]⟩ : ByteArray)) ++ (rdOf ByteArray.empty t424 a0_2)) ++ (⟨#[32]⟩ : ByteArray)) ++ (rdOf ByteArray.empty t428 a0_1)) ++ (⟨#[44, 32, 97, 114, 101, 97, 32]⟩ : ByteArray)) ++ t432) ++ (⟨#[44, 32, 104, 111, 117, 114, 115, 32]⟩ : ByteArray)) ++ t433) ++ (⟨#[45]⟩ : ByteArray)).size + t434.size ≤ 9223372036854775807 then (some ((((((((((t423 ++ (⟨#[58, 32]⟩ : ByteArray)) ++ (rdOf ByteArray.empty t424 a0_2)) ++ (⟨#[32]⟩ : ByteArray)) ++ (rdOf ByteArray.empty t428 a0_1)) ++ (⟨#[44, 32, 97, 114, 101, 97, 32]⟩ : ByteArray)) ++ t432) ++ (⟨#[44, 32, 104, 111, 117, 114, 115, 32]⟩ : ByteArray)) ++ t433) ++ (⟨#[45]⟩ : ByteArray)) ++ t434)) else (none))) else (none)) else (none))) else (none)) else (none))) else (none)) else (none)) else (none)) else (none)) = some r := H
 have A9 := Aside0.mk A90
 clear A90
 by_cases c10 : 0 ≤ a0_1
 case neg =>
  rw [if_neg c10] at H
  exact absurd H (by simp)
 rw [if_pos c10] at H
 have c10b0 : decide (0 ≤ a0_1) = true := decide_eq_true c10
 clear c10
 by_cases c11 : a0_1 < (t428.length : Int)
 case neg =>
  rw [if_neg c11] at H
  exact absurd H (by simp)
 rw [if_pos c11] at H
 have c11b0 : decide (a0_1 < (t428.length : Int)) = true := decide_eq_true c11
 clear c11
 by_cases c12 : (((t423 ++ (⟨#[58, 32]⟩ : ByteArray)) ++ (rdOf ByteArray.empty t424 a0_2)) ++ (⟨#[32]⟩ : ByteArray)).size + (rdOf ByteArray.empty t428 a0_1).size ≤ 9223372036854775807
 case neg =>
  rw [if_neg c12] at H
  exact absurd H (by simp)
 rw [if_pos c12] at H
 have c12b0 := eq_true c12
 have c12b1 : decide ((((t423 ++ (⟨#[58, 32]⟩ : ByteArray)) ++ (rdOf ByteArray.empty t424 a0_2)) ++ (⟨#[32]⟩ : ByteArray)).size + (rdOf ByteArray.empty t428 a0_1).size ≤ 9223372036854775807) = true := decide_eq_true c12
 try have c12b2 : (9223372036854775807 < (((t423 ++ (⟨#[58, 32]⟩ : ByteArray)) ++ (rdOf ByteArray.empty t424 a0_2)) ++ (⟨#[32]⟩ : ByteArray)).size + (rdOf ByteArray.empty t428 a0_1).size) = False := eq_false (Nat.not_lt.2 c12)
 try have c12b3 : (9223372036854775807 < t423.size + 2 + (rdOf ByteArray.empty t424 a0_2).size + 1 + (rdOf ByteArray.empty t428 a0_1).size) = False := eq_false (Nat.not_lt.2 (by have q_ := c12; simp only [ByteArray.size_append] at q_; exact q_))
 by_cases c13 : ((((t423 ++ (⟨#[58, 32]⟩ : ByteArray)) ++ (rdOf ByteArray.empty t424 a0_2)) ++ (⟨#[32]⟩ : ByteArray)) ++ (rdOf ByteArray.empty t428 a0_1)).size + 7 ≤ 9223372036854775807
 case neg =>
  rw [if_neg c13] at H
  exact absurd H (by simp)
 rw [if_pos c13] at H
 have c13b0 := eq_true c13
 have c13b1 : decide (((((t423 ++ (⟨#[58, 32]⟩ : ByteArray)) ++ (rdOf ByteArray.empty t424 a0_2)) ++ (⟨#[32]⟩ : ByteArray)) ++ (rdOf ByteArray.empty t428 a0_1)).size + 7 ≤ 9223372036854775807) = true := decide_eq_true c13
 try have c13b2 : (9223372036854775807 < ((((t423 ++ (⟨#[58, 32]⟩ : ByteArray)) ++ (rdOf ByteArray.empty t424 a0_2)) ++ (⟨#[32]⟩ : ByteArray)) ++ (rdOf ByteArray.empty t428 a0_1)).size + 7) = False := eq_false (Nat.not_lt.2 c13)
 try have c13b3 : (9223372036854775807 < t423.size + 2 + (rdOf ByteArray.empty t424 a0_2).size + 1 + (rdOf ByteArray.empty t428 a0_1).size + 7) = False := eq_false (Nat.not_lt.2 (by have q_ := c13; simp only [ByteArray.size_append] at q_; exact q_))
 replace H := Option.bind_eq_some_iff.mp H
 obtain ⟨t432, A140, H⟩ := H
 replace H : (if (((((t423 ++ (⟨#[58, 32]⟩ : ByteArray)) ++ (rdOf ByteArray.empty t424 a0_2)) ++ (⟨#[32]⟩ : ByteArray)) ++ (rdOf ByteArray.empty t428 a0_1)) ++ (⟨#[44, 32, 97, 114, 101, 97, 32]⟩ : ByteArray)).size + t432.size ≤ 9223372036854775807 then (if ((((((t423 ++ (⟨#[58, 32]⟩ : ByteArray)) ++ (rdOf ByteArray.empty t424 a0_2)) ++ (⟨#[32]⟩ : ByteArray)) ++ (rdOf ByteArray.empty t428 a0_1)) ++ (⟨#[44, 32, 97, 114, 101, 97, 32]⟩ : ByteArray)) ++ t432).size + 8 ≤ 9223372036854775807 then ((spec_l1Num.f k a0_4).bind fun t433 => (if (((((((t423 ++ (⟨#[58, 32]⟩ : ByteArray)) ++ (rdOf ByteArray.empty t424 a0_2)) ++ (⟨#[32]⟩ : ByteArray)) ++ (rdOf ByteArray.empty t428 a0_1)) ++ (⟨#[44, 32, 97, 114, 101, 97, 32]⟩ : ByteArray)) ++ t432) ++ (⟨#[44, 32, 104, 111, 117, 114, 115, 32]⟩ : ByteArray)).size + t433.size ≤ 9223372036854775807 then (if ((((((((t423 ++ (⟨#[58, 32]⟩ : ByteArray)) ++ (rdOf ByteArray.empty t424 a0_2)) ++ (⟨#[32]⟩ : ByteArray)) ++ (rdOf ByteArray.empty t428 a0_1)) ++ (⟨#[44, 32, 97, 114, 101, 97, 32]⟩ : ByteArray)) ++ t432) ++ (⟨#[44, 32, 104, 111, 117, 114, 115, 32]⟩ : ByteArray)) ++ t433).size + 1 ≤ 9223372036854775807 then ((spec_l1Num.f k a0_5).bind fun t434 => (if (((((((((t423 ++ (⟨#[58, 32]⟩ : ByteArray)) ++ (rdOf ByteArray.empty t424 a0_2)) ++ (⟨#[32]⟩ : ByteArray)) ++ (rdOf ByteArray.empty t428 a0_1)) ++ (⟨#[44, 32, 97, 114, 101, 97, 32]⟩ : ByteArray)) ++ t432) ++ (⟨#[44, 32, 104, 111, 117, 114, 115, 32]⟩ : ByteArray)) ++ t433) ++ (⟨#[45]⟩ : ByteArray)).size + t434.size ≤ 9223372036854775807 then (some ((((((((((t423 ++ (⟨#[58, 32]⟩ : ByteArray)) ++ (rdOf ByteArray.empty t424 a0_2)) ++ (⟨#[32]⟩ : ByteArray)) ++ (rdOf ByteArray.empty t428 a0_1)) ++ (⟨#[44, 32, 97, 114, 101, 97, 32]⟩ : ByteArray)) ++ t432) ++ (⟨#[44, 32, 104, 111, 117, 114, 115, 32]⟩ : ByteArray)) ++ t433) ++ (⟨#[45]⟩ : ByteArray)) ++ t434)) else (none))) else (none)) else (none))) else (none)) else (none)) = some r := H
 have A14 := Aside0.mk A140
 clear A140
 by_cases c15 : (((((t423 ++ (⟨#[58, 32]⟩ : ByteArray)) ++ (rdOf ByteArray.empty t424 a0_2)) ++ (⟨#[32]⟩ : ByteArray)) ++ (rdOf ByteArray.empty t428 a0_1)) ++ (⟨#[44, 32, 97, 114, 101, 97, 32]⟩ : ByteArray)).size + t432.size ≤ 9223372036854775807
 case neg =>
  rw [if_neg c15] at H
  exact absurd H (by simp)
 rw [if_pos c15] at H
 have c15b0 := eq_true c15
 have c15b1 : decide ((((((t423 ++ (⟨#[58, 32]⟩ : ByteArray)) ++ (rdOf ByteArray.empty t424 a0_2)) ++ (⟨#[32]⟩ : ByteArray)) ++ (rdOf ByteArray.empty t428 a0_1)) ++ (⟨#[44, 32, 97, 114, 101, 97, 32]⟩ : ByteArray)).size + t432.size ≤ 9223372036854775807) = true := decide_eq_true c15
 try have c15b2 : (9223372036854775807 < (((((t423 ++ (⟨#[58, 32]⟩ : ByteArray)) ++ (rdOf ByteArray.empty t424 a0_2)) ++ (⟨#[32]⟩ : ByteArray)) ++ (rdOf ByteArray.empty t428 a0_1)) ++ (⟨#[44, 32, 97, 114, 101, 97, 32]⟩ : ByteArray)).size + t432.size) = False := eq_false (Nat.not_lt.2 c15)
 try have c15b3 : (9223372036854775807 < t423.size + 2 + (rdOf ByteArray.empty t424 a0_2).size + 1 + (rdOf ByteArray.empty t428 a0_1).size + 7 + t432.size) = False := eq_false (Nat.not_lt.2 (by have q_ := c15; simp only [ByteArray.size_append] at q_; exact q_))
 by_cases c16 : ((((((t423 ++ (⟨#[58, 32]⟩ : ByteArray)) ++ (rdOf ByteArray.empty t424 a0_2)) ++ (⟨#[32]⟩ : ByteArray)) ++ (rdOf ByteArray.empty t428 a0_1)) ++ (⟨#[44, 32, 97, 114, 101, 97, 32]⟩ : ByteArray)) ++ t432).size + 8 ≤ 9223372036854775807
 case neg =>
  rw [if_neg c16] at H
  exact absurd H (by simp)
 rw [if_pos c16] at H
 have c16b0 := eq_true c16
 have c16b1 : decide (((((((t423 ++ (⟨#[58, 32]⟩ : ByteArray)) ++ (rdOf ByteArray.empty t424 a0_2)) ++ (⟨#[32]⟩ : ByteArray)) ++ (rdOf ByteArray.empty t428 a0_1)) ++ (⟨#[44, 32, 97, 114, 101, 97, 32]⟩ : ByteArray)) ++ t432).size + 8 ≤ 9223372036854775807) = true := decide_eq_true c16
 try have c16b2 : (9223372036854775807 < ((((((t423 ++ (⟨#[58, 32]⟩ : ByteArray)) ++ (rdOf ByteArray.empty t424 a0_2)) ++ (⟨#[32]⟩ : ByteArray)) ++ (rdOf ByteArray.empty t428 a0_1)) ++ (⟨#[44, 32, 97, 114, 101, 97, 32]⟩ : ByteArray)) ++ t432).size + 8) = False := eq_false (Nat.not_lt.2 c16)
 try have c16b3 : (9223372036854775807 < t423.size + 2 + (rdOf ByteArray.empty t424 a0_2).size + 1 + (rdOf ByteArray.empty t428 a0_1).size + 7 + t432.size + 8) = False := eq_false (Nat.not_lt.2 (by have q_ := c16; simp only [ByteArray.size_append] at q_; exact q_))
 replace H := Option.bind_eq_some_iff.mp H
 obtain ⟨t433, A170, H⟩ := H
 replace H : (if (((((((t423 ++ (⟨#[58, 32]⟩ : ByteArray)) ++ (rdOf ByteArray.empty t424 a0_2)) ++ (⟨#[32]⟩ : ByteArray)) ++ (rdOf ByteArray.empty t428 a0_1)) ++ (⟨#[44, 32, 97, 114, 101, 97, 32]⟩ : ByteArray)) ++ t432) ++ (⟨#[44, 32, 104, 111, 117, 114, 115, 32]⟩ : ByteArray)).size + t433.size ≤ 9223372036854775807 then (if ((((((((t423 ++ (⟨#[58, 32]⟩ : ByteArray)) ++ (rdOf ByteArray.empty t424 a0_2)) ++ (⟨#[32]⟩ : ByteArray)) ++ (rdOf ByteArray.empty t428 a0_1)) ++ (⟨#[44, 32, 97, 114, 101, 97, 32]⟩ : ByteArray)) ++ t432) ++ (⟨#[44, 32, 104, 111, 117, 114, 115, 32]⟩ : ByteArray)) ++ t433).size + 1 ≤ 9223372036854775807 then ((spec_l1Num.f k a0_5).bind fun t434 => (if (((((((((t423 ++ (⟨#[58, 32]⟩ : ByteArray)) ++ (rdOf ByteArray.empty t424 a0_2)) ++ (⟨#[32]⟩ : ByteArray)) ++ (rdOf ByteArray.empty t428 a0_1)) ++ (⟨#[44, 32, 97, 114, 101, 97, 32]⟩ : ByteArray)) ++ t432) ++ (⟨#[44, 32, 104, 111, 117, 114, 115, 32]⟩ : ByteArray)) ++ t433) ++ (⟨#[45]⟩ : ByteArray)).size + t434.size ≤ 9223372036854775807 then (some ((((((((((t423 ++ (⟨#[58, 32]⟩ : ByteArray)) ++ (rdOf ByteArray.empty t424 a0_2)) ++ (⟨#[32]⟩ : ByteArray)) ++ (rdOf ByteArray.empty t428 a0_1)) ++ (⟨#[44, 32, 97, 114, 101, 97, 32]⟩ : ByteArray)) ++ t432) ++ (⟨#[44, 32, 104, 111, 117, 114, 115, 32]⟩ : ByteArray)) ++ t433) ++ (⟨#[45]⟩ : ByteArray)) ++ t434)) else (none))) else (none)) else (none)) = some r := H
 have A17 := Aside0.mk A170
 clear A170
 by_cases c18 : (((((((t423 ++ (⟨#[58, 32]⟩ : ByteArray)) ++ (rdOf ByteArray.empty t424 a0_2)) ++ (⟨#[32]⟩ : ByteArray)) ++ (rdOf ByteArray.empty t428 a0_1)) ++ (⟨#[44, 32, 97, 114, 101, 97, 32]⟩ : ByteArray)) ++ t432) ++ (⟨#[44, 32, 104, 111, 117, 114, 115, 32]⟩ : ByteArray)).size + t433.size ≤ 9223372036854775807
 case neg =>
  rw [if_neg c18] at H
  exact absurd H (by simp)
 rw [if_pos c18] at H
 have c18b0 := eq_true c18
 have c18b1 : decide ((((((((t423 ++ (⟨#[58, 32]⟩ : ByteArray)) ++ (rdOf ByteArray.empty t424 a0_2)) ++ (⟨#[32]⟩ : ByteArray)) ++ (rdOf ByteArray.empty t428 a0_1)) ++ (⟨#[44, 32, 97, 114, 101, 97, 32]⟩ : ByteArray)) ++ t432) ++ (⟨#[44, 32, 104, 111, 117, 114, 115, 32]⟩ : ByteArray)).size + t433.size ≤ 9223372036854775807) = true := decide_eq_true c18
 try have c18b2 : (9223372036854775807 < (((((((t423 ++ (⟨#[58, 32]⟩ : ByteArray)) ++ (rdOf ByteArray.empty t424 a0_2)) ++ (⟨#[32]⟩ : ByteArray)) ++ (rdOf ByteArray.empty t428 a0_1)) ++ (⟨#[44, 32, 97, 114, 101, 97, 32]⟩ : ByteArray)) ++ t432) ++ (⟨#[44, 32, 104, 111, 117, 114, 115, 32]⟩ : ByteArray)).size + t433.size) = False := eq_false (Nat.not_lt.2 c18)
 try have c18b3 : (9223372036854775807 < t423.size + 2 + (rdOf ByteArray.empty t424 a0_2).size + 1 + (rdOf ByteArray.empty t428 a0_1).size + 7 + t432.size + 8 + t433.size) = False := eq_false (Nat.not_lt.2 (by have q_ := c18; simp only [ByteArray.size_append] at q_; exact q_))
 by_cases c19 : ((((((((t423 ++ (⟨#[58, 32]⟩ : ByteArray)) ++ (rdOf ByteArray.empty t424 a0_2)) ++ (⟨#[32]⟩ : ByteArray)) ++ (rdOf ByteArray.empty t428 a0_1)) ++ (⟨#[44, 32, 97, 114, 101, 97, 32]⟩ : ByteArray)) ++ t432) ++ (⟨#[44, 32, 104, 111, 117, 114, 115, 32]⟩ : ByteArray)) ++ t433).size + 1 ≤ 9223372036854775807
 case neg =>
  rw [if_neg c19] at H
  exact absurd H (by simp)
 rw [if_pos c19] at H
 have c19b0 := eq_true c19
 have c19b1 : decide (((((((((t423 ++ (⟨#[58, 32]⟩ : ByteArray)) ++ (rdOf ByteArray.empty t424 a0_2)) ++ (⟨#[32]⟩ : ByteArray)) ++ (rdOf ByteArray.empty t428 a0_1)) ++ (⟨#[44, 32, 97, 114, 101, 97, 32]⟩ : ByteArray)) ++ t432) ++ (⟨#[44, 32, 104, 111, 117, 114, 115, 32]⟩ : ByteArray)) ++ t433).size + 1 ≤ 9223372036854775807) = true := decide_eq_true c19
 try have c19b2 : (9223372036854775807 < ((((((((t423 ++ (⟨#[58, 32]⟩ : ByteArray)) ++ (rdOf ByteArray.empty t424 a0_2)) ++ (⟨#[32]⟩ : ByteArray)) ++ (rdOf ByteArray.empty t428 a0_1)) ++ (⟨#[44, 32, 97, 114, 101, 97, 32]⟩ : ByteArray)) ++ t432) ++ (⟨#[44, 32, 104, 111, 117, 114, 115, 32]⟩ : ByteArray)) ++ t433).size + 1) = False := eq_false (Nat.not_lt.2 c19)
 try have c19b3 : (9223372036854775807 < t423.size + 2 + (rdOf ByteArray.empty t424 a0_2).size + 1 + (rdOf ByteArray.empty t428 a0_1).size + 7 + t432.size + 8 + t433.size + 1) = False := eq_false (Nat.not_lt.2 (by have q_ := c19; simp only [ByteArray.size_append] at q_; exact q_))
 replace H := Option.bind_eq_some_iff.mp H
 obtain ⟨t434, A200, H⟩ := H
 replace H : (if (((((((((t423 ++ (⟨#[58, 32]⟩ : ByteArray)) ++ (rdOf ByteArray.empty t424 a0_2)) ++ (⟨#[32]⟩ : ByteArray)) ++ (rdOf ByteArray.empty t428 a0_1)) ++ (⟨#[44, 32, 97, 114, 101, 97, 32]⟩ : ByteArray)) ++ t432) ++ (⟨#[44, 32, 104, 111, 117, 114, 115, 32]⟩ : ByteArray)) ++ t433) ++ (⟨#[45]⟩ : ByteArray)).size + t434.size ≤ 9223372036854775807 then (some ((((((((((t423 ++ (⟨#[58, 32]⟩ : ByteArray)) ++ (rdOf ByteArray.empty t424 a0_2)) ++ (⟨#[32]⟩ : ByteArray)) ++ (rdOf ByteArray.empty t428 a0_1)) ++ (⟨#[44, 32, 97, 114, 101, 97, 32]⟩ : ByteArray)) ++ t432) ++ (⟨#[44, 32, 104, 111, 117, 114, 115, 32]⟩ : ByteArray)) ++ t433) ++ (⟨#[45]⟩ : ByteArray)) ++ t434)) else (none)) = some r := H
 have A20 := Aside0.mk A200
 clear A200
 by_cases c21 : (((((((((t423 ++ (⟨#[58, 32]⟩ : ByteArray)) ++ (rdOf ByteArray.empty t424 a0_2)) ++ (⟨#[32]⟩ : ByteArray)) ++ (rdOf ByteArray.empty t428 a0_1)) ++ (⟨#[44, 32, 97, 114, 101, 97, 32]⟩ : ByteArray)) ++ t432) ++ (⟨#[44, 32, 104, 111, 117, 114, 115, 32]⟩ : ByteArray)) ++ t433) ++ (⟨#[45]⟩ : ByteArray)).size + t434.size ≤ 9223372036854775807
 case neg =>
  rw [if_neg c21] at H
  exact absurd H (by simp)
 rw [if_pos c21] at H
 have c21b0 := eq_true c21
 have c21b1 : decide ((((((((((t423 ++ (⟨#[58, 32]⟩ : ByteArray)) ++ (rdOf ByteArray.empty t424 a0_2)) ++ (⟨#[32]⟩ : ByteArray)) ++ (rdOf ByteArray.empty t428 a0_1)) ++ (⟨#[44, 32, 97, 114, 101, 97, 32]⟩ : ByteArray)) ++ t432) ++ (⟨#[44, 32, 104, 111, 117, 114, 115, 32]⟩ : ByteArray)) ++ t433) ++ (⟨#[45]⟩ : ByteArray)).size + t434.size ≤ 9223372036854775807) = true := decide_eq_true c21
 try have c21b2 : (9223372036854775807 < (((((((((t423 ++ (⟨#[58, 32]⟩ : ByteArray)) ++ (rdOf ByteArray.empty t424 a0_2)) ++ (⟨#[32]⟩ : ByteArray)) ++ (rdOf ByteArray.empty t428 a0_1)) ++ (⟨#[44, 32, 97, 114, 101, 97, 32]⟩ : ByteArray)) ++ t432) ++ (⟨#[44, 32, 104, 111, 117, 114, 115, 32]⟩ : ByteArray)) ++ t433) ++ (⟨#[45]⟩ : ByteArray)).size + t434.size) = False := eq_false (Nat.not_lt.2 c21)
 try have c21b3 : (9223372036854775807 < t423.size + 2 + (rdOf ByteArray.empty t424 a0_2).size + 1 + (rdOf ByteArray.empty t428 a0_1).size + 7 + t432.size + 8 + t433.size + 1 + t434.size) = False := eq_false (Nat.not_lt.2 (by have q_ := c21; simp only [ByteArray.size_append] at q_; exact q_))
 obtain rfl := Option.some.inj H
 go_enter Tryd.func68, Tryd.ntmps68
 try go_wp2_with (first | ((with_reducible refine gate_dst (N := 1) rfl ?_); refine box_event ?hg (N := 1) ?hd (cs := #[.int .i64 a0_0, .int .i64 a0_1, .int .i64 a0_2, .int .i64 a0_3, .int .i64 a0_4, .int .i64 a0_5]) (t := 23) ?hr ?_; (case hd => rfl); (case hg => rfl); (case hr => exact zqS); intro gb422 hg w22 hbox hb; have n0_ := Aside0.mk (below_step zq0 hb); have n1_ := Aside0.mk (hbox); have n2_ := Aside0.mk ((by rw [hg]; exact (below_size zq0) : w.heap.size ≤ gb422)); have n3_ := n2_; clear HB; have HB := n0_; have BK422 := n1_; have GW422 := n2_; have GE422 := n3_; clear n0_ n1_ n2_ n3_; clear hb hbox hg))
 have n0_ := Aside0.mk (blk_drew BK422.out)
 have n1_ := Aside0.mk (below_drew1 HB.out)
 clear BK422
 clear HB
 have BK422 := n0_
 have HB := n1_
 clear n0_ n1_
 refine start_ (n := 33) (S := fun w' => w'.cell? ⟨gb422, 0, none⟩ = some (.int .i64 a0_0) ∧ w'.cell? ⟨gb422, 1, none⟩ = some (.int .i64 a0_1) ∧ w'.cell? ⟨gb422, 2, none⟩ = some (.int .i64 a0_2) ∧ w'.cell? ⟨gb422, 3, none⟩ = some (.int .i64 a0_3) ∧ w'.cell? ⟨gb422, 4, none⟩ = some (.int .i64 a0_4) ∧ w'.cell? ⟨gb422, 5, none⟩ = some (.int .i64 a0_5)) (ds := []) #[false, false, false, false, false, false, false, false, false, false, false, false, false, false, false, false, false, false, false, false, false, false, false, false, false, false, false, false, false, false, false, false, false] (by kernel_rfl) rfl rfl (bc6 BK422.out) (fun hHeld => ?_); refine with_tabW spec_l17Line.tab1 spec_l17Line.bits1 (fun HT_ HW_ => ?_)
 generalize w22.drew = w23 at BK422 HB hHeld ⊢
 refine pure_ (i := 0) (N := some 3) (v := ?_) (a' := ?_) #[true, false, false, false, false, false, false, false, false, false, false, false, false, false, false, false, false, false, false, false, false, false, false, false, false, false, false, false, false, false, false, false, false] rfl rfl (any_of HT_.out (by kernel_rfl)) (fun _ _ _ h => h) (Or.inl ⟨by rfl, ?_⟩) ?_ ?_
 rotate_left; · exact zqB
 rotate_left; · exact zqA
 refine pure_ (i := 5) (N := some 8) (v := ?_) (a' := ?_) #[true, false, false, false, false, true, false, false, false, false, false, false, false, false, false, false, false, false, false, false, false, false, false, false, false, false, false, false, false, false, false, false, false] rfl rfl (any_of HT_.out (by kernel_rfl)) (fun _ _ _ h => h) (Or.inl ⟨by rfl, ?_⟩) ?_ ?_
 rotate_left; · exact zqB
 rotate_left; · exact zqA
 refine pure_ (i := 12) (N := some 15) (v := ?_) (a' := ?_) #[true, false, false, false, false, true, false, false, false, false, false, false, true, false, false, false, false, false, false, false, false, false, false, false, false, false, false, false, false, false, false, false, false] rfl rfl (any_of HT_.out (by kernel_rfl)) (fun _ _ _ h => h) (Or.inl ⟨by rfl, ?_⟩) ?_ ?_
 rotate_left; · exact zqB
 rotate_left; · exact zqA
 refine pure_ (i := 18) (N := some 21) (v := ?_) (a' := ?_) #[true, false, false, false, false, true, false, false, false, false, false, false, true, false, false, false, false, false, true, false, false, false, false, false, false, false, false, false, false, false, false, false, false] rfl rfl (any_of HT_.out (by kernel_rfl)) (fun _ _ _ h => h) (Or.inl ⟨by rfl, ?_⟩) ?_ ?_
 rotate_left; · exact zqB
 rotate_left; · exact zqA
 refine pure_ (i := 23) (N := some 26) (v := ?_) (a' := ?_) #[true, false, false, false, false, true, false, false, false, false, false, false, true, false, false, false, false, false, true, false, false, false, false, true, false, false, false, false, false, false, false, false, false] rfl rfl (any_of HT_.out (by kernel_rfl)) (fun _ _ _ h => h) (Or.inl ⟨by rfl, ?_⟩) ?_ ?_
 rotate_left; · exact zqB
 rotate_left; · exact zqA
 refine pure_ (i := 28) (N := some 31) (v := ?_) (a' := ?_) #[true, false, false, false, false, true, false, false, false, false, false, false, true, false, false, false, false, false, true, false, false, false, false, true, false, false, false, false, true, false, false, false, false] rfl rfl (any_of HT_.out (by kernel_rfl)) (fun _ _ _ h => h) (Or.inl ⟨by rfl, ?_⟩) ?_ ?_
 rotate_left; · exact zqB
 rotate_left; · exact zqA
 refine take_ (i := 1) (N := some 4) (v := ?_) (a' := ?_) #[true, true, false, false, false, true, false, false, false, false, false, false, true, false, false, false, false, false, true, false, false, false, false, true, false, false, false, false, true, false, false, false, false] rfl rfl (take_ofW HT_.out HW_.out (by kernel_rfl)) (fun _ _ _ h => h) (Or.inl ⟨by rfl, ?_⟩) hHeld ?_ ?_
 rotate_left
 ·
  rintro w' ⟨s0, s1, s2, s3, s4, s5⟩
  go_simp
  with_reducible rfl
 rotate_left; · exact zqA
 refine take_ (i := 6) (N := some 9) (v := ?_) (a' := ?_) #[true, true, false, false, false, true, true, false, false, false, false, false, true, false, false, false, false, false, true, false, false, false, false, true, false, false, false, false, true, false, false, false, false] rfl rfl (take_ofW HT_.out HW_.out (by kernel_rfl)) (fun _ _ _ h => h) (Or.inl ⟨by rfl, ?_⟩) hHeld ?_ ?_
 rotate_left
 ·
  rintro w' ⟨s0, s1, s2, s3, s4, s5⟩
  go_simp
  with_reducible rfl
 rotate_left; · exact zqA
 refine take_ (i := 13) (N := some 16) (v := ?_) (a' := ?_) #[true, true, false, false, false, true, true, false, false, false, false, false, true, true, false, false, false, false, true, false, false, false, false, true, false, false, false, false, true, false, false, false, false] rfl rfl (take_ofW HT_.out HW_.out (by kernel_rfl)) (fun _ _ _ h => h) (Or.inl ⟨by rfl, ?_⟩) hHeld ?_ ?_
 rotate_left
 ·
  rintro w' ⟨s0, s1, s2, s3, s4, s5⟩
  go_simp
  with_reducible rfl
 rotate_left; · exact zqA
 refine take_ (i := 19) (N := some 22) (v := ?_) (a' := ?_) #[true, true, false, false, false, true, true, false, false, false, false, false, true, true, false, false, false, false, true, true, false, false, false, true, false, false, false, false, true, false, false, false, false] rfl rfl (take_ofW HT_.out HW_.out (by kernel_rfl)) (fun _ _ _ h => h) (Or.inl ⟨by rfl, ?_⟩) hHeld ?_ ?_
 rotate_left
 ·
  rintro w' ⟨s0, s1, s2, s3, s4, s5⟩
  go_simp
  with_reducible rfl
 rotate_left; · exact zqA
 refine take_ (i := 24) (N := some 27) (v := ?_) (a' := ?_) #[true, true, false, false, false, true, true, false, false, false, false, false, true, true, false, false, false, false, true, true, false, false, false, true, true, false, false, false, true, false, false, false, false] rfl rfl (take_ofW HT_.out HW_.out (by kernel_rfl)) (fun _ _ _ h => h) (Or.inl ⟨by rfl, ?_⟩) hHeld ?_ ?_
 rotate_left
 ·
  rintro w' ⟨s0, s1, s2, s3, s4, s5⟩
  go_simp
  with_reducible rfl
 rotate_left; · exact zqA
 refine take_ (i := 29) (N := some 32) (v := ?_) (a' := ?_) #[true, true, false, false, false, true, true, false, false, false, false, false, true, true, false, false, false, false, true, true, false, false, false, true, true, false, false, false, true, true, false, false, false] rfl rfl (take_ofW HT_.out HW_.out (by kernel_rfl)) (fun _ _ _ h => h) (Or.inl ⟨by rfl, ?_⟩) hHeld ?_ ?_
 rotate_left
 ·
  rintro w' ⟨s0, s1, s2, s3, s4, s5⟩
  go_simp
  with_reducible rfl
 rotate_left; · exact zqA
 refine one_ (i := 2) (N := some 5) #[true, true, true, false, false, true, true, false, false, false, false, false, true, true, false, false, false, false, true, true, false, false, false, true, true, false, false, false, true, true, false, false, false] rfl rfl (one_of HT_.out (by kernel_rfl)) (by decide) (fun K hK => ?_)
 refine goes_ Tryd.func50 (by kernel_rfl) rfl #[.int .i64 a0_0] (by rfl) rfl rfl zq2 ?_
 with_reducible refine (spec_l1Num.calls k a0_0 t423 _ A2.out).mono ?_
 rintro e w24 ⟨rfl, hb⟩
 refine ⟨_, rfl, ?_⟩
 have n0_ := Aside0.mk (blk_below (g := gb422) (o := .cells #[.int .i64 a0_0, .int .i64 a0_1, .int .i64 a0_2, .int .i64 a0_3, .int .i64 a0_4, .int .i64 a0_5] 23 (0, 0)) (zqK BK422.out) hb)
 have n1_ := Aside0.mk (below_step zq14 hb)
 clear BK422
 clear HB
 have BK422 := n0_
 have HB := n1_
 clear n0_ n1_
 (try clear hb)
 (try clear hb2)
 (try clear hk)
 (try clear hi)
 refine hK.out _ _ (bc6 BK422.out) (fun hHeld => ?_)
 clear hK K
 refine norm_ (a' := ?_) ?_ ?_
 rotate_left
 ·
  show Act.put _ (some 5) _ = _
  simp only [Act.put, List.setIfInBounds_toArray, List.set_cons_zero, List.set_cons_succ, i64_w, i32_w]
  rfl
 refine pure_ (i := 3) (N := some 6) (v := ?_) (a' := ?_) #[true, true, true, true, false, true, true, false, false, false, false, false, true, true, false, false, false, false, true, true, false, false, false, true, true, false, false, false, true, true, false, false, false] rfl rfl (any_of HT_.out (by kernel_rfl)) (fun _ _ _ h => h) (Or.inl ⟨by rfl, ?_⟩) ?_ ?_
 rotate_left; · exact zqB
 rotate_left; · exact zqA
 refine one_ (i := 4) (N := some 7) #[true, true, true, true, true, true, true, false, false, false, false, false, true, true, false, false, false, false, true, true, false, false, false, true, true, false, false, false, true, true, false, false, false] rfl rfl (one_of HT_.out (by kernel_rfl)) (by decide) (fun K hK => ?_)
 refine goes_ Tryd.func67 (by kernel_rfl) rfl #[] (by rfl) rfl rfl zq2 ?_
 with_reducible refine (spec_l17Levels.calls  t424 _ A4.out).mono ?_
 rintro e w25 ⟨v425, rfl, ho0, hb⟩
 refine ⟨_, rfl, ?_⟩
 have n0_ := Aside0.mk (Kd.R_lower ho0 (below_size zq14))
 have n1_ := Aside0.mk (blk_below (g := gb422) (o := .cells #[.int .i64 a0_0, .int .i64 a0_1, .int .i64 a0_2, .int .i64 a0_3, .int .i64 a0_4, .int .i64 a0_5] 23 (0, 0)) (zqK BK422.out) hb)
 have n2_ := Aside0.mk (below_step zq14 hb)
 clear BK422
 clear HB
 have HO426 := n0_
 have BK422 := n1_
 have HB := n2_
 clear n0_ n1_ n2_
 (try clear hb)
 (try clear hb2)
 (try clear hk)
 (try clear hi)
 (try clear ho0)
 obtain ⟨Ao26, co26, eo26⟩ := Kd.R_slice HO426.out
 (first | subst eo26 | (injection eo26 with f1_ f2_ f3_; have f4_ := f1_.symm; have f5_ := f3_.symm; clear f1_ f2_ f3_; subst f4_; subst f5_))
 have p427 : 0 ≤ (a0_2 : Int) := of_decide_eq_true zq6
 have q427 : a0_2 < (t424.length : Int) := of_decide_eq_true zq6
 obtain ⟨ad427, e427, hx427_0⟩ := Kd.at_string (Kd.R_reads' HO426.out).2.2 a0_2 p427 q427
 cases e427
 replace p427 := eq_true p427
 replace q427 := eq_true q427
 refine hK.out _ _ (bc6 BK422.out) (fun hHeld => ?_)
 refine more_ (fun w' => w'.cell? ⟨gb422, 0, none⟩ = some (.int .i64 a0_0) ∧ w'.cell? ⟨gb422, 1, none⟩ = some (.int .i64 a0_1) ∧ w'.cell? ⟨gb422, 2, none⟩ = some (.int .i64 a0_2) ∧ w'.cell? ⟨gb422, 3, none⟩ = some (.int .i64 a0_3) ∧ w'.cell? ⟨gb422, 4, none⟩ = some (.int .i64 a0_4) ∧ w'.cell? ⟨gb422, 5, none⟩ = some (.int .i64 a0_5) ∧ w'.cell? (ad427.add (a0_2).toNat) = some (.string (rdOf ByteArray.empty t424 a0_2))) (fun _ h => ⟨h.1, h.2.1, h.2.2.1, h.2.2.2.1, h.2.2.2.2.1, h.2.2.2.2.2.1⟩) ⟨(blk_cell BK422.out 0).trans rfl, (blk_cell BK422.out 1).trans rfl, (blk_cell BK422.out 2).trans rfl, (blk_cell BK422.out 3).trans rfl, (blk_cell BK422.out 4).trans rfl, (blk_cell BK422.out 5).trans rfl, hx427_0⟩ (fun hHeld => ?_)
 clear hK K
 refine norm_ (a' := ?_) ?_ ?_
 rotate_left
 ·
  show Act.put _ (some 7) _ = _
  simp only [Act.put, List.setIfInBounds_toArray, List.set_cons_zero, List.set_cons_succ, i64_w, i32_w]
  rfl
 refine pure_ (i := 7) (N := some 10) (v := ?_) (a' := ?_) #[true, true, true, true, true, true, true, true, false, false, false, false, true, true, false, false, false, false, true, true, false, false, false, true, true, false, false, false, true, true, false, false, false] rfl rfl (any_of HT_.out (by kernel_rfl)) (fun _ _ _ h => h) (Or.inl ⟨by rfl, ?_⟩) ?_ ?_
 rotate_left; · exact zqB
 rotate_left; · exact zqA
 refine take_ (i := 8) (N := some 11) (v := ?_) (a' := ?_) #[true, true, true, true, true, true, true, true, true, false, false, false, true, true, false, false, false, false, true, true, false, false, false, true, true, false, false, false, true, true, false, false, false] rfl rfl (take_ofW HT_.out HW_.out (by kernel_rfl)) (fun _ _ _ h => h) (Or.inl ⟨by rfl, ?_⟩) hHeld ?_ ?_
 rotate_left
 ·
  rintro w' ⟨s0, s1, s2, s3, s4, s5, s6⟩
  go_simp
  with_reducible rfl
 rotate_left; · exact zqA
 refine pure_ (i := 9) (N := some 12) (v := ?_) (a' := ?_) #[true, true, true, true, true, true, true, true, true, true, false, false, true, true, false, false, false, false, true, true, false, false, false, true, true, false, false, false, true, true, false, false, false] rfl rfl (any_of HT_.out (by kernel_rfl)) (fun _ _ _ h => h) (Or.inl ⟨by rfl, ?_⟩) ?_ ?_
 rotate_left; · exact zqB
 rotate_left; · exact zqA
 refine pure_ (i := 10) (N := some 13) (v := ?_) (a' := ?_) #[true, true, true, true, true, true, true, true, true, true, true, false, true, true, false, false, false, false, true, true, false, false, false, true, true, false, false, false, true, true, false, false, false] rfl rfl (any_of HT_.out (by kernel_rfl)) (fun _ _ _ h => h) (Or.inl ⟨by rfl, ?_⟩) ?_ ?_
 rotate_left; · exact zqB
 rotate_left; · exact zqA
 refine one_ (i := 11) (N := some 14) #[true, true, true, true, true, true, true, true, true, true, true, true, true, true, false, false, false, false, true, true, false, false, false, true, true, false, false, false, true, true, false, false, false] rfl rfl (one_of HT_.out (by kernel_rfl)) (by decide) (fun K hK => ?_)
 refine goes_ Tryd.func66 (by kernel_rfl) rfl #[] (by rfl) rfl rfl zq2 ?_
 with_reducible refine (spec_l17Topics.calls  t428 _ A9.out).mono ?_
 rintro e w27 ⟨v429, rfl, ho0, hb⟩
 have HS6_ := (hb.cell (World.block_lt_of_cell? _ _ (hHeld.2.2.2.2.2.2))).trans (hHeld.2.2.2.2.2.2)
 refine ⟨_, rfl, ?_⟩
 have n0_ := Aside0.mk (Kd.R_elder' (zqR HO426.out) (Kd.R_base ho0) hb)
 have n1_ := Aside0.mk (Kd.R_lower (Kd.R_new' ho0 (Kd.R_lt (zqR HO426.out))) (below_size zq14))
 have n2_ := Aside0.mk (blk_below (g := gb422) (o := .cells #[.int .i64 a0_0, .int .i64 a0_1, .int .i64 a0_2, .int .i64 a0_3, .int .i64 a0_4, .int .i64 a0_5] 23 (0, 0)) (zqK BK422.out) hb)
 have n3_ := Aside0.mk (below_step zq14 hb)
 clear HO426
 clear BK422
 clear HB
 have HO426 := n0_
 have HO430 := n1_
 have BK422 := n2_
 have HB := n3_
 clear n0_ n1_ n2_ n3_
 (try clear hb)
 (try clear hb2)
 (try clear hk)
 (try clear hi)
 (try clear ho0)
 obtain ⟨Ao28, co28, eo28⟩ := Kd.R_slice HO430.out
 (first | subst eo28 | (injection eo28 with f1_ f2_ f3_; have f4_ := f1_.symm; have f5_ := f3_.symm; clear f1_ f2_ f3_; subst f4_; subst f5_))
 have p431 : 0 ≤ (a0_1 : Int) := of_decide_eq_true zq6
 have q431 : a0_1 < (t428.length : Int) := of_decide_eq_true zq6
 obtain ⟨ad431, e431, hx431_0⟩ := Kd.at_string (Kd.R_reads' HO430.out).2.2 a0_1 p431 q431
 cases e431
 replace p431 := eq_true p431
 replace q431 := eq_true q431
 refine hK.out _ _ ⟨(blk_cell BK422.out 0).trans rfl, (blk_cell BK422.out 1).trans rfl, (blk_cell BK422.out 2).trans rfl, (blk_cell BK422.out 3).trans rfl, (blk_cell BK422.out 4).trans rfl, (blk_cell BK422.out 5).trans rfl, HS6_⟩ (fun hHeld => ?_)
 refine more_ (fun w' => w'.cell? ⟨gb422, 0, none⟩ = some (.int .i64 a0_0) ∧ w'.cell? ⟨gb422, 1, none⟩ = some (.int .i64 a0_1) ∧ w'.cell? ⟨gb422, 2, none⟩ = some (.int .i64 a0_2) ∧ w'.cell? ⟨gb422, 3, none⟩ = some (.int .i64 a0_3) ∧ w'.cell? ⟨gb422, 4, none⟩ = some (.int .i64 a0_4) ∧ w'.cell? ⟨gb422, 5, none⟩ = some (.int .i64 a0_5) ∧ w'.cell? (ad427.add (a0_2).toNat) = some (.string (rdOf ByteArray.empty t424 a0_2)) ∧ w'.cell? (ad431.add (a0_1).toNat) = some (.string (rdOf ByteArray.empty t428 a0_1))) (fun _ h => ⟨h.1, h.2.1, h.2.2.1, h.2.2.2.1, h.2.2.2.2.1, h.2.2.2.2.2.1, h.2.2.2.2.2.2.1⟩) ⟨(blk_cell BK422.out 0).trans rfl, (blk_cell BK422.out 1).trans rfl, (blk_cell BK422.out 2).trans rfl, (blk_cell BK422.out 3).trans rfl, (blk_cell BK422.out 4).trans rfl, (blk_cell BK422.out 5).trans rfl, HS6_, hx431_0⟩ (fun hHeld => ?_)
 clear hK K
 refine norm_ (a' := ?_) ?_ ?_
 rotate_left
 ·
  show Act.put _ (some 14) _ = _
  simp only [Act.put, List.setIfInBounds_toArray, List.set_cons_zero, List.set_cons_succ, i64_w, i32_w]
  rfl
 refine pure_ (i := 14) (N := some 17) (v := ?_) (a' := ?_) #[true, true, true, true, true, true, true, true, true, true, true, true, true, true, true, false, false, false, true, true, false, false, false, true, true, false, false, false, true, true, false, false, false] rfl rfl (any_of HT_.out (by kernel_rfl)) (fun _ _ _ h => h) (Or.inl ⟨by rfl, ?_⟩) ?_ ?_
 rotate_left; · exact zqB
 rotate_left; · exact zqA
 refine take_ (i := 15) (N := some 18) (v := ?_) (a' := ?_) #[true, true, true, true, true, true, true, true, true, true, true, true, true, true, true, true, false, false, true, true, false, false, false, true, true, false, false, false, true, true, false, false, false] rfl rfl (take_ofW HT_.out HW_.out (by kernel_rfl)) (fun _ _ _ h => h) (Or.inl ⟨by rfl, ?_⟩) hHeld ?_ ?_
 rotate_left
 ·
  rintro w' ⟨s0, s1, s2, s3, s4, s5, s6, s7⟩
  go_simp
  with_reducible rfl
 rotate_left; · exact zqA
 refine pure_ (i := 16) (N := some 19) (v := ?_) (a' := ?_) #[true, true, true, true, true, true, true, true, true, true, true, true, true, true, true, true, true, false, true, true, false, false, false, true, true, false, false, false, true, true, false, false, false] rfl rfl (any_of HT_.out (by kernel_rfl)) (fun _ _ _ h => h) (Or.inl ⟨by rfl, ?_⟩) ?_ ?_
 rotate_left; · exact zqB
 rotate_left; · exact zqA
 refine pure_ (i := 17) (N := some 20) (v := ?_) (a' := ?_) #[true, true, true, true, true, true, true, true, true, true, true, true, true, true, true, true, true, true, true, true, false, false, false, true, true, false, false, false, true, true, false, false, false] rfl rfl (any_of HT_.out (by kernel_rfl)) (fun _ _ _ h => h) (Or.inl ⟨by rfl, ?_⟩) ?_ ?_
 rotate_left; · exact zqB
 rotate_left; · exact zqA
 refine one_ (i := 20) (N := some 23) #[true, true, true, true, true, true, true, true, true, true, true, true, true, true, true, true, true, true, true, true, true, false, false, true, true, false, false, false, true, true, false, false, false] rfl rfl (one_of HT_.out (by kernel_rfl)) (by decide) (fun K hK => ?_)
 refine goes_ Tryd.func50 (by kernel_rfl) rfl #[.int .i64 a0_3] (by rfl) rfl rfl zq2 ?_
 with_reducible refine (spec_l1Num.calls k a0_3 t432 _ A14.out).mono ?_
 rintro e w29 ⟨rfl, hb⟩
 have HS6_ := (hb.cell (World.block_lt_of_cell? _ _ (hHeld.2.2.2.2.2.2.1))).trans (hHeld.2.2.2.2.2.2.1)
 have HS7_ := (hb.cell (World.block_lt_of_cell? _ _ (hHeld.2.2.2.2.2.2.2))).trans (hHeld.2.2.2.2.2.2.2)
 refine ⟨_, rfl, ?_⟩
 have n0_ := Aside0.mk (Kd.R_below (zqR HO426.out) hb)
 have n1_ := Aside0.mk (Kd.R_below (zqR HO430.out) hb)
 have n2_ := Aside0.mk (blk_below (g := gb422) (o := .cells #[.int .i64 a0_0, .int .i64 a0_1, .int .i64 a0_2, .int .i64 a0_3, .int .i64 a0_4, .int .i64 a0_5] 23 (0, 0)) (zqK BK422.out) hb)
 have n3_ := Aside0.mk (below_step zq14 hb)
 clear HO426
 clear HO430
 clear BK422
 clear HB
 have HO426 := n0_
 have HO430 := n1_
 have BK422 := n2_
 have HB := n3_
 clear n0_ n1_ n2_ n3_
 (try clear hb)
 (try clear hb2)
 (try clear hk)
 (try clear hi)
 refine hK.out _ _ ⟨(blk_cell BK422.out 0).trans rfl, (blk_cell BK422.out 1).trans rfl, (blk_cell BK422.out 2).trans rfl, (blk_cell BK422.out 3).trans rfl, (blk_cell BK422.out 4).trans rfl, (blk_cell BK422.out 5).trans rfl, HS6_, HS7_⟩ (fun hHeld => ?_)
 clear hK K
 refine norm_ (a' := ?_) ?_ ?_
 rotate_left
 ·
  show Act.put _ (some 23) _ = _
  simp only [Act.put, List.setIfInBounds_toArray, List.set_cons_zero, List.set_cons_succ, i64_w, i32_w]
  rfl
 refine pure_ (i := 21) (N := some 24) (v := ?_) (a' := ?_) #[true, true, true, true, true, true, true, true, true, true, true, true, true, true, true, true, true, true, true, true, true, true, false, true, true, false, false, false, true, true, false, false, false] rfl rfl (any_of HT_.out (by kernel_rfl)) (fun _ _ _ h => h) (Or.inl ⟨by rfl, ?_⟩) ?_ ?_
 rotate_left; · exact zqB
 rotate_left; · exact zqA
 refine pure_ (i := 22) (N := some 25) (v := ?_) (a' := ?_) #[true, true, true, true, true, true, true, true, true, true, true, true, true, true, true, true, true, true, true, true, true, true, true, true, true, false, false, false, true, true, false, false, false] rfl rfl (any_of HT_.out (by kernel_rfl)) (fun _ _ _ h => h) (Or.inl ⟨by rfl, ?_⟩) ?_ ?_
 rotate_left; · exact zqB
 rotate_left; · exact zqA
 refine one_ (i := 25) (N := some 28) #[true, true, true, true, true, true, true, true, true, true, true, true, true, true, true, true, true, true, true, true, true, true, true, true, true, true, false, false, true, true, false, false, false] rfl rfl (one_of HT_.out (by kernel_rfl)) (by decide) (fun K hK => ?_)
 refine goes_ Tryd.func50 (by kernel_rfl) rfl #[.int .i64 a0_4] (by rfl) rfl rfl zq2 ?_
 with_reducible refine (spec_l1Num.calls k a0_4 t433 _ A17.out).mono ?_
 rintro e w30 ⟨rfl, hb⟩
 have HS6_ := (hb.cell (World.block_lt_of_cell? _ _ (hHeld.2.2.2.2.2.2.1))).trans (hHeld.2.2.2.2.2.2.1)
 have HS7_ := (hb.cell (World.block_lt_of_cell? _ _ (hHeld.2.2.2.2.2.2.2))).trans (hHeld.2.2.2.2.2.2.2)
 refine ⟨_, rfl, ?_⟩
 have n0_ := Aside0.mk (Kd.R_below (zqR HO426.out) hb)
 have n1_ := Aside0.mk (Kd.R_below (zqR HO430.out) hb)
 have n2_ := Aside0.mk (blk_below (g := gb422) (o := .cells #[.int .i64 a0_0, .int .i64 a0_1, .int .i64 a0_2, .int .i64 a0_3, .int .i64 a0_4, .int .i64 a0_5] 23 (0, 0)) (zqK BK422.out) hb)
 have n3_ := Aside0.mk (below_step zq14 hb)
 clear HO426
 clear HO430
 clear BK422
 clear HB
 have HO426 := n0_
 have HO430 := n1_
 have BK422 := n2_
 have HB := n3_
 clear n0_ n1_ n2_ n3_
 (try clear hb)
 (try clear hb2)
 (try clear hk)
 (try clear hi)
 refine hK.out _ _ ⟨(blk_cell BK422.out 0).trans rfl, (blk_cell BK422.out 1).trans rfl, (blk_cell BK422.out 2).trans rfl, (blk_cell BK422.out 3).trans rfl, (blk_cell BK422.out 4).trans rfl, (blk_cell BK422.out 5).trans rfl, HS6_, HS7_⟩ (fun hHeld => ?_)
 clear hK K
 refine norm_ (a' := ?_) ?_ ?_
 rotate_left
 ·
  show Act.put _ (some 28) _ = _
  simp only [Act.put, List.setIfInBounds_toArray, List.set_cons_zero, List.set_cons_succ, i64_w, i32_w]
  rfl
 refine pure_ (i := 26) (N := some 29) (v := ?_) (a' := ?_) #[true, true, true, true, true, true, true, true, true, true, true, true, true, true, true, true, true, true, true, true, true, true, true, true, true, true, true, false, true, true, false, false, false] rfl rfl (any_of HT_.out (by kernel_rfl)) (fun _ _ _ h => h) (Or.inl ⟨by rfl, ?_⟩) ?_ ?_
 rotate_left; · exact zqB
 rotate_left; · exact zqA
 refine pure_ (i := 27) (N := some 30) (v := ?_) (a' := ?_) #[true, true, true, true, true, true, true, true, true, true, true, true, true, true, true, true, true, true, true, true, true, true, true, true, true, true, true, true, true, true, false, false, false] rfl rfl (any_of HT_.out (by kernel_rfl)) (fun _ _ _ h => h) (Or.inl ⟨by rfl, ?_⟩) ?_ ?_
 rotate_left; · exact zqB
 rotate_left; · exact zqA
 refine one_ (i := 30) (N := some 33) #[true, true, true, true, true, true, true, true, true, true, true, true, true, true, true, true, true, true, true, true, true, true, true, true, true, true, true, true, true, true, true, false, false] rfl rfl (one_of HT_.out (by kernel_rfl)) (by decide) (fun K hK => ?_)
 refine goes_ Tryd.func50 (by kernel_rfl) rfl #[.int .i64 a0_5] (by rfl) rfl rfl zq2 ?_
 with_reducible refine (spec_l1Num.calls k a0_5 t434 _ A20.out).mono ?_
 rintro e w31 ⟨rfl, hb⟩
 have HS6_ := (hb.cell (World.block_lt_of_cell? _ _ (hHeld.2.2.2.2.2.2.1))).trans (hHeld.2.2.2.2.2.2.1)
 have HS7_ := (hb.cell (World.block_lt_of_cell? _ _ (hHeld.2.2.2.2.2.2.2))).trans (hHeld.2.2.2.2.2.2.2)
 refine ⟨_, rfl, ?_⟩
 have n0_ := Aside0.mk (Kd.R_below (zqR HO426.out) hb)
 have n1_ := Aside0.mk (Kd.R_below (zqR HO430.out) hb)
 have n2_ := Aside0.mk (blk_below (g := gb422) (o := .cells #[.int .i64 a0_0, .int .i64 a0_1, .int .i64 a0_2, .int .i64 a0_3, .int .i64 a0_4, .int .i64 a0_5] 23 (0, 0)) (zqK BK422.out) hb)
 have n3_ := Aside0.mk (below_step zq14 hb)
 clear HO426
 clear HO430
 clear BK422
 clear HB
 have HO426 := n0_
 have HO430 := n1_
 have BK422 := n2_
 have HB := n3_
 clear n0_ n1_ n2_ n3_
 (try clear hb)
 (try clear hb2)
 (try clear hk)
 (try clear hi)
 refine hK.out _ _ ⟨(blk_cell BK422.out 0).trans rfl, (blk_cell BK422.out 1).trans rfl, (blk_cell BK422.out 2).trans rfl, (blk_cell BK422.out 3).trans rfl, (blk_cell BK422.out 4).trans rfl, (blk_cell BK422.out 5).trans rfl, HS6_, HS7_⟩ (fun hHeld => ?_)
 clear hK K
 refine norm_ (a' := ?_) ?_ ?_
 rotate_left
 ·
  show Act.put _ (some 33) _ = _
  simp only [Act.put, List.setIfInBounds_toArray, List.set_cons_zero, List.set_cons_succ, i64_w, i32_w]
  rfl
 refine pure_ (i := 31) (N := some 34) (v := ?_) (a' := ?_) #[true, true, true, true, true, true, true, true, true, true, true, true, true, true, true, true, true, true, true, true, true, true, true, true, true, true, true, true, true, true, true, true, false] rfl rfl (any_of HT_.out (by kernel_rfl)) (fun _ _ _ h => h) (Or.inl ⟨by rfl, ?_⟩) ?_ ?_
 rotate_left; · exact zqB
 rotate_left; · exact zqA
 refine pure_ (i := 32) (N := some 2) (v := ?_) (a' := ?_) #[true, true, true, true, true, true, true, true, true, true, true, true, true, true, true, true, true, true, true, true, true, true, true, true, true, true, true, true, true, true, true, true, true] rfl rfl (any_of HT_.out (by kernel_rfl)) (fun _ _ _ h => h) (Or.inl ⟨by rfl, ?_⟩) ?_ ?_
 rotate_left; · exact zqB
 rotate_left; · exact zqA
 refine done_ (done_of HT_.out (by kernel_rfl)) ?_
 try go_wp2
 go_ret
 exact ⟨zqE, zq14⟩
end Go.Proofs.YtfmmpjfmdhdbmaaDoor.Q
