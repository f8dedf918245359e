/- Texts of this seat, put together: Qf36. -/
import Derived.Test.YtfmmpjfmdhdbmaaDoorBFnExactParseCode0
namespace Go.Proofs.YtfmmpjfmdhdbmaaDoor.Q
open Go.RowKit Go.Proofs.YtfmmpjfmdhdbmaaDoorW.PrintWords Go.Proofs.YtfmmpjfmdhdbmaaDoorW.PrintLast Go.Proofs.YtfmmpjfmdhdbmaaDoorW.PrintMore
attribute [local go_sem] max2_int min2_int max_two min_two max_three min_three max_four min_four   -- for this text's walks alone
set_option linter.unusedVariables false
set_option linter.unusedSimpArgs false

/-! ### spec_l17Code: function 36 -/
def spec_l17Code.f (k : Nat) (a0_0 : Int) (a0_1 : Int) (a0_2 : Int) (a0_3 : Int) (a0_4 : Int) (a0_5 : Int) : Option (ByteArray) := if 0 ≤ (wrap64 (a0_2 - 1)) then (if (wrap64 (a0_2 - 1)) ≤ a0_2 then (if a0_2 ≤ 3 then (if 0 ≤ (wrap64 (a0_1 - 1)) then (if (wrap64 (a0_1 - 1)) ≤ a0_1 then (if a0_1 ≤ 5 then (if ((⟨#[89, 79, 82]⟩ : ByteArray).extract ((wrap64 (a0_2 - 1)) : Int).toNat (a0_2 : Int).toNat).size + ((⟨#[87, 82, 83, 72, 84]⟩ : ByteArray).extract ((wrap64 (a0_1 - 1)) : Int).toNat (a0_1 : Int).toNat).size ≤ 9223372036854775807 then ((spec_l1Num.f k a0_3).bind fun t273 => (if (((⟨#[89, 79, 82]⟩ : ByteArray).extract ((wrap64 (a0_2 - 1)) : Int).toNat (a0_2 : Int).toNat) ++ ((⟨#[87, 82, 83, 72, 84]⟩ : ByteArray).extract ((wrap64 (a0_1 - 1)) : Int).toNat (a0_1 : Int).toNat)).size + t273.size ≤ 9223372036854775807 then (if ((((⟨#[89, 79, 82]⟩ : ByteArray).extract ((wrap64 (a0_2 - 1)) : Int).toNat (a0_2 : Int).toNat) ++ ((⟨#[87, 82, 83, 72, 84]⟩ : ByteArray).extract ((wrap64 (a0_1 - 1)) : Int).toNat (a0_1 : Int).toNat)) ++ t273).size + 1 ≤ 9223372036854775807 then ((spec_l1Num.f k a0_4).bind fun t274 => (if (((((⟨#[89, 79, 82]⟩ : ByteArray).extract ((wrap64 (a0_2 - 1)) : Int).toNat (a0_2 : Int).toNat) ++ ((⟨#[87, 82, 83, 72, 84]⟩ : ByteArray).extract ((wrap64 (a0_1 - 1)) : Int).toNat (a0_1 : Int).toNat)) ++ t273) ++ (⟨#[46]⟩ : ByteArray)).size + t274.size ≤ 9223372036854775807 then (if ((((((⟨#[89, 79, 82]⟩ : ByteArray).extract ((wrap64 (a0_2 - 1)) : Int).toNat (a0_2 : Int).toNat) ++ ((⟨#[87, 82, 83, 72, 84]⟩ : ByteArray).extract ((wrap64 (a0_1 - 1)) : Int).toNat (a0_1 : Int).toNat)) ++ t273) ++ (⟨#[46]⟩ : ByteArray)) ++ t274).size + 1 ≤ 9223372036854775807 then ((spec_l1Num.f k a0_5).bind fun t275 => (if (((((((⟨#[89, 79, 82]⟩ : ByteArray).extract ((wrap64 (a0_2 - 1)) : Int).toNat (a0_2 : Int).toNat) ++ ((⟨#[87, 82, 83, 72, 84]⟩ : ByteArray).extract ((wrap64 (a0_1 - 1)) : Int).toNat (a0_1 : Int).toNat)) ++ t273) ++ (⟨#[46]⟩ : ByteArray)) ++ t274) ++ (⟨#[46]⟩ : ByteArray)).size + t275.size ≤ 9223372036854775807 then (if ((((((((⟨#[89, 79, 82]⟩ : ByteArray).extract ((wrap64 (a0_2 - 1)) : Int).toNat (a0_2 : Int).toNat) ++ ((⟨#[87, 82, 83, 72, 84]⟩ : ByteArray).extract ((wrap64 (a0_1 - 1)) : Int).toNat (a0_1 : Int).toNat)) ++ t273) ++ (⟨#[46]⟩ : ByteArray)) ++ t274) ++ (⟨#[46]⟩ : ByteArray)) ++ t275).size + 1 ≤ 9223372036854775807 then ((spec_l1Num.f k a0_0).bind fun t276 => (if (((((((((⟨#[89, 79, 82]⟩ : ByteArray).extract ((wrap64 (a0_2 - 1)) : Int).toNat (a0_2 : Int).toNat) ++ ((⟨#[87, 82, 83, 72, 84]⟩ : ByteArray).extract ((wrap64 (a0_1 - 1)) : Int).toNat (a0_1 : Int).toNat)) ++ t273) ++ (⟨#[46]⟩ : ByteArray)) ++ t274) ++ (⟨#[46]⟩ : ByteArray)) ++ t275) ++ (⟨#[46]⟩ : ByteArray)).size + t276.size ≤ 9223372036854775807 then (some ((((((((((⟨#[89, 79, 82]⟩ : ByteArray).extract ((wrap64 (a0_2 - 1)) : Int).toNat (a0_2 : Int).toNat) ++ ((⟨#[87, 82, 83, 72, 84]⟩ : ByteArray).extract ((wrap64 (a0_1 - 1)) : Int).toNat (a0_1 : Int).toNat)) ++ t273) ++ (⟨#[46]⟩ : ByteArray)) ++ t274) ++ (⟨#[46]⟩ : ByteArray)) ++ t275) ++ (⟨#[46]⟩ : ByteArray)) ++ t276)) else (none))) else (none)) else (none))) else (none)) else (none))) else (none)) else (none))) else (none)) else (none)) else (none)) else (none)) else (none)) else (none)) else (none)
theorem spec_l17Code.mono : ∀ a0 a1 a2 a3 a4 a5 k, LeO (spec_l17Code.f k a0 a1 a2 a3 a4 a5) (spec_l17Code.f (k + 1) a0 a1 a2 a3 a4 a5) := by
 intro a0 a1 a2 a3 a4 a5 k
 unfold spec_l17Code.f
 repeat' first
   | (with_reducible exact spec_l1Num.mono _ _)
   | (with_reducible exact LeO.refl _)
   | (with_reducible exact LeO.none _)
   | (with_reducible refine LeO.ite ?_ ?_)
   | (with_reducible refine LeO.bind ?_ (fun _ => ?_))
   | exact spec_l1Num.mono _ _
   | exact LeO.none _
   | refine LeO.ite ?_ ?_
   | refine LeO.bind ?_ (fun _ => ?_)
def spec_l17Code.T1 : Bool × List (List Nat × List Nat) := (true, [([], []), ([0], [0]), ([1], [1]), ([], []), ([3], [3]), ([2, 4], [2, 4]), ([], []), ([6], [6]), ([7], [7]), ([], []), ([9], [9]), ([8, 10], [8, 10]), ([5, 11], [5, 11]), ([], []), ([13], [13]), ([14], [14]), ([12, 15], [12, 15]), ([16], [16]), ([], []), ([18], [18]), ([19, 15], [19]), ([17, 20], [17, 20]), ([21], [21]), ([], []), ([23], [23]), ([24, 20], [24]), ([22, 25], [22, 25]), ([26], [26]), ([], []), ([28], [28]), ([29, 25], [29]), ([27, 30], [27, 30]), ([31, 30, 0, 1, 2, 3, 4, 5, 6, 7, 8, 9, 10, 11, 12, 13, 14, 15, 16, 17, 18, 19, 20, 21, 22, 23, 24, 25, 26, 27, 28, 29, 30, 31], [31])])
def spec_l17Code.B1 : List Nat := [0, 1, 3, 0, 8, 31, 0, 64, 192, 0, 512, 1984, 4095, 0, 8192, 24576, 65535, 131071, 0, 262144, 843776, 2097151, 4194303, 0, 8388608, 27058176, 67108863, 134217727, 0, 268435456, 865918976, 2147483647, 4294967295]
theorem spec_l17Code.tab1 : rtab .any (opsOf Tryd.f36 1) = spec_l17Code.T1 := by kernel_rfl
theorem spec_l17Code.bits1 : waitsOk spec_l17Code.T1.2 spec_l17Code.B1 = true := by kernel_rfl
set_option maxHeartbeats 8000000 in
set_option maxRecDepth 100000 in
theorem spec_l17Code.calls (k : Nat) (a0_0 : Int) (a0_1 : Int) (a0_2 : Int) (a0_3 : Int) (a0_4 : Int) (a0_5 : Int) (r : ByteArray) (w : World) (h : spec_l17Code.f k a0_0 a0_1 a0_2 a0_3 a0_4 a0_5 = some r) :
  Calls Tryd.prog 36 #[.agg #[.int .i64 a0_0, .int .i64 a0_1, .int .i64 a0_2, .int .i64 a0_3, .int .i64 a0_4, .int .i64 a0_5]] w fun e w' => e = .returned (.string r) ∧ Below w.heap.size w w' := by
 have hu23 := Tryd.underlying23
 have HB := Aside0.mk (Below.refl w.heap.size w)
 have H : (if 0 ≤ (wrap64 (a0_2 - 1)) then (if (wrap64 (a0_2 - 1)) ≤ a0_2 then (if a0_2 ≤ 3 then (if 0 ≤ (wrap64 (a0_1 - 1)) then (if (wrap64 (a0_1 - 1)) ≤ a0_1 then (if a0_1 ≤ 5 then (if ((⟨#[89, 79, 82]⟩ : ByteArray).extract ((wrap64 (a0_2 - 1)) : Int).toNat (a0_2 : Int).toNat).size + ((⟨#[87, 82, 83, 72, 84]⟩ : ByteArray).extract ((wrap64 (a0_1 - 1)) : Int).toNat (a0_1 : Int).toNat).size ≤ 9223372036854775807 then ((spec_l1Num.f k a0_3).bind fun t273 => (if (((⟨#[89, 79, 82]⟩ : ByteArray).extract ((wrap64 (a0_2 - 1)) : Int).toNat (a0_2 : Int).toNat) ++ ((⟨#[87, 82, 83, 72, 84]⟩ : ByteArray).extract ((wrap64 (a0_1 - 1)) : Int).toNat (a0_1 : Int).toNat)).size + t273.size ≤ 9223372036854775807 then (if ((((⟨#[89, 79, 82]⟩ : ByteArray).extract ((wrap64 (a0_2 - 1)) : Int).toNat (a0_2 : Int).toNat) ++ ((⟨#[87, 82, 83, 72, 84]⟩ : ByteArray).extract ((wrap64 (a0_1 - 1)) : Int).toNat (a0_1 : Int).toNat)) ++ t273).size + 1 ≤ 9223372036854775807 then ((spec_l1Num.f k a0_4).bind fun t274 => (if (((((⟨#[89, 79, 82]⟩ : ByteArray).extract ((wrap64 (a0_2 - 1)) : Int).toNat (a0_2 : Int).toNat) ++ ((⟨#[87, 82, 83, 72, 84]⟩ : ByteArray).extract ((wrap64 (a0_1 - 1)) : Int).toNat (a0_1 : Int).toNat)) ++ t273) ++ (⟨#[46]⟩ : ByteArray)).size + t274.size ≤ 9223372036854775807 then (if ((((((⟨#[89, 79, 82]⟩ : ByteArray).extract ((wrap64 (a0_2 - 1)) : Int).toNat (a0_2 : Int).toNat) ++ ((⟨#[87, 82, 83, 72, 84]⟩ : ByteArray).extract ((wrap64 (a0_1 - 1)) : Int).toNat (a0_1 : Int).toNat)) ++ t273) ++ (⟨#[46]⟩ : ByteArray)) ++ t274).size + 1 ≤ 9223372036854775807 then ((spec_l1Num.f k a0_5).bind fun t275 => (if (((((((⟨#[89, 79, 82]⟩ : ByteArray).extract ((wrap64 (a0_2 - 1)) : Int).toNat (a0_2 : Int).toNat) ++ ((⟨#[87, 82, 83, 72, 84]⟩ : ByteArray).extract ((wrap64 (a0_1 - 1)) : Int).toNat (a0_1 : Int).toNat)) ++ t273) ++ (⟨#[46]⟩ : ByteArray)) ++ t274) ++ (⟨#[46]⟩ : ByteArray)).size + t275.size ≤ 9223372036854775807 then (if ((((((((⟨#[89, 79, 82]⟩ : ByteArray).extract ((wrap64 (a0_2 - 1)) : Int).toNat (a0_2 : Int).toNat) ++ ((⟨#[87, 82, 83, 72, 84]⟩ : ByteArray).extract ((wrap64 (a0_1 - 1)) : Int).toNat (a0_1 : Int).toNat)) ++ t273) ++ (⟨#[46]⟩ : ByteArray)) ++ t274) ++ (⟨#[46]⟩ : ByteArray)) ++ t275).size + 1 ≤ 9223372036854775807 then ((spec_l1Num.f k a0_0).bind fun t276 => (if (((((((((⟨#[89, 79, 82]⟩ : ByteArray).extract ((wrap64 (a0_2 - 1)) : Int).toNat (a0_2 : Int).toNat) ++ ((⟨#[87, 82, 83, 72, 84]⟩ : ByteArray).extract ((wrap64 (a0_1 - 1)) : Int).toNat (a0_1 : Int).toNat)) ++ t273) ++ (⟨#[46]⟩ : ByteArray)) ++ t274) ++ (⟨#[46]⟩ : ByteArray)) ++ t275) ++ (⟨#[46]⟩ : ByteArray)).size + t276.size ≤ 9223372036854775807 then (some ((((((((((⟨#[89, 79, 82]⟩ : ByteArray).extract ((wrap64 (a0_2 - 1)) : Int).toNat (a0_2 : Int).toNat) ++ ((⟨#[87, 82, 83, 72, 84]⟩ : ByteArray).extract ((wrap64 (a0_1 - 1)) : Int).toNat (a0_1 : Int).toNat)) ++ t273) ++ (⟨#[46]⟩ : ByteArray)) ++ t274) ++ (⟨#[46]⟩ : ByteArray)) ++ t275) ++ (⟨#[46]⟩ : ByteArray)) ++ t276)) else (none))) else (none)) else (none))) else (none)) else (none))) else (none)) else (none))) else (none)) else (none)) else (none)) else (none)) else (none)) else (none)) else (none)) = some r := h
 clear h
 obtain ⟨ji2, hji2⟩ : ∃ j_ : Int, (wrap64 (a0_2 - 1)) = j_ := ⟨_, rfl⟩
 replace H : (if 0 ≤ (ji2) then (if (ji2) ≤ a0_2 then (if a0_2 ≤ 3 then (if 0 ≤ (wrap64 (a0_1 - 1)) then (if (wrap64 (a0_1 - 1)) ≤ a0_1 then (if a0_1 ≤ 5 then (if ((⟨#[89, 79, 82]⟩ : ByteArray).extract ((ji2) : Int).toNat (a0_2 : Int).toNat).size + ((⟨#[87, 82, 83, 72, 84]⟩ : ByteArray).extract ((wrap64 (a0_1 - 1)) : Int).toNat (a0_1 : Int).toNat).size ≤ 9223372036854775807 then ((spec_l1Num.f k a0_3).bind fun t273 => (if (((⟨#[89, 79, 82]⟩ : ByteArray).extract ((ji2) : Int).toNat (a0_2 : Int).toNat) ++ ((⟨#[87, 82, 83, 72, 84]⟩ : ByteArray).extract ((wrap64 (a0_1 - 1)) : Int).toNat (a0_1 : Int).toNat)).size + t273.size ≤ 9223372036854775807 then (if ((((⟨#[89, 79, 82]⟩ : ByteArray).extract ((ji2) : Int).toNat (a0_2 : Int).toNat) ++ ((⟨#[87, 82, 83, 72, 84]⟩ : ByteArray).extract ((wrap64 (a0_1 - 1)) : Int).toNat (a0_1 : Int).toNat)) ++ t273).size + 1 ≤ 9223372036854775807 then ((spec_l1Num.f k a0_4).bind fun t274 => (if (((((⟨#[89, 79, 82]⟩ : ByteArray).extract ((ji2) : Int).toNat (a0_2 : Int).toNat) ++ ((⟨#[87, 82, 83, 72, 84]⟩ : ByteArray).extract ((wrap64 (a0_1 - 1)) : Int).toNat (a0_1 : Int).toNat)) ++ t273) ++ (⟨#[46]⟩ : ByteArray)).size + t274.size ≤ 9223372036854775807 then (if ((((((⟨#[89, 79, 82]⟩ : ByteArray).extract ((ji2) : Int).toNat (a0_2 : Int).toNat) ++ ((⟨#[87, 82, 83, 72, 84]⟩ : ByteArray).extract ((wrap64 (a0_1 - 1)) : Int).toNat (a0_1 : Int).toNat)) ++ t273) ++ (⟨#[46]⟩ : ByteArray)) ++ t274).size + 1 ≤ 9223372036854775807 then ((spec_l1Num.f k a0_5).bind fun t275 => (if (((((((⟨#[89, 79, 82]⟩ : ByteArray).extract ((ji2) : Int).toNat (a0_2 : Int).toNat) ++ ((⟨#[87, 82, 83, 72, 84]⟩ : ByteArray).extract ((wrap64 (a0_1 - 1)) : Int).toNat (a0_1 : Int).toNat)) ++ t273) ++ (⟨#[46]⟩ : ByteArray)) ++ t274) ++ (⟨#[46]⟩ : ByteArray)).size + t275.size ≤ 9223372036854775807 then (if ((((((((⟨#[89, 79, 82]⟩ : ByteArray).extract ((ji2) : Int).toNat (a0_2 : Int).toNat) ++ ((⟨#[87, 82, 83, 72, 84]⟩ : ByteArray).extract ((wrap64 (a0_1 - 1)) : Int).toNat (a0_1 : Int).toNat)) ++ t273) ++ (⟨#[46]⟩ : ByteArray)) ++ t274) ++ (⟨#[46]⟩ : ByteArray)) ++ t275).size + 1 ≤ 9223372036854775807 then ((spec_l1Num.f k a0_0).bind fun t276 => (if (((((((((⟨#[89, 79, 82]⟩ : ByteArray).extract ((ji2) : Int).toNat (a0_2 : Int).toNat) ++ ((⟨#[87, 82, 83, 72, 84]⟩ : ByteArray).extract ((wrap64 (a0_1 - 1)) : Int).toNat (a0_1 : Int).toNat)) ++ t273) ++ (⟨#[46]⟩ : ByteArray)) ++ t274) ++ (⟨#[46]⟩ : ByteArray)) ++ t275) ++ (⟨#[46]⟩ : ByteArray)).size + t276.size ≤ 9223372036854775807 then (some ((((((((((⟨#[89, 79, 82]⟩ : ByteArray).extract ((ji2) : Int).toNat (a0_2 : Int).toNat) ++ ((⟨#[87, 82, 83, 72, 84]⟩ : ByteArray).extract ((wrap64 (a0_1 - 1)) : Int).toNat (a0_1 : Int).toNat)) ++ t273) ++ (⟨#[46]⟩ : ByteArray)) ++ t274) ++ (⟨#[46]⟩ : ByteArray)) ++ t275) ++ (⟨#[46]⟩ : ByteArray)) ++ t276)) else (none))) else (none)) else (none))) else (none)) else (none))) else (none)) else (none))) else (none)) else (none)) else (none)) else (none)) else (none)) else (none)) else (none)) = some r := by first | (rw [hji2] at H; exact H) | (simp only [hji2] at H ⊢; exact H)
 have hji2w : (IntKind.i64.wrap (a0_2 - 1)) = ji2 := (i64_w _).trans hji2
 by_cases c3 : 0 ≤ (ji2)
 ·
  rw [if_pos c3] at H
  have c3b0 := eq_true c3
  have c3b1 : decide (0 ≤ (ji2)) = true := decide_eq_true c3
  clear c3
  by_cases c4 : (ji2) ≤ a0_2
  ·
   rw [if_pos c4] at H
   have c4b0 := eq_true c4
   have c4b1 : decide ((ji2) ≤ a0_2) = true := decide_eq_true c4
   clear c4
   by_cases c5 : a0_2 ≤ 3
   ·
    rw [if_pos c5] at H
    have c5b0 := eq_true c5
    have c5b1 : decide (a0_2 ≤ 3) = true := decide_eq_true c5
    clear c5
    obtain ⟨ji6, hji6⟩ : ∃ j_ : Int, (wrap64 (a0_1 - 1)) = j_ := ⟨_, rfl⟩
    replace H : (if 0 ≤ (ji6) then (if (ji6) ≤ a0_1 then (if a0_1 ≤ 5 then (if ((⟨#[89, 79, 82]⟩ : ByteArray).extract ((ji2) : Int).toNat (a0_2 : Int).toNat).size + ((⟨#[87, 82, 83, 72, 84]⟩ : ByteArray).extract ((ji6) : Int).toNat (a0_1 : Int).toNat).size ≤ 9223372036854775807 then ((spec_l1Num.f k a0_3).bind fun t273 => (if (((⟨#[89, 79, 82]⟩ : ByteArray).extract ((ji2) : Int).toNat (a0_2 : Int).toNat) ++ ((⟨#[87, 82, 83, 72, 84]⟩ : ByteArray).extract ((ji6) : Int).toNat (a0_1 : Int).toNat)).size + t273.size ≤ 9223372036854775807 then (if ((((⟨#[89, 79, 82]⟩ : ByteArray).extract ((ji2) : Int).toNat (a0_2 : Int).toNat) ++ ((⟨#[87, 82, 83, 72, 84]⟩ : ByteArray).extract ((ji6) : Int).toNat (a0_1 : Int).toNat)) ++ t273).size + 1 ≤ 9223372036854775807 then ((spec_l1Num.f k a0_4).bind fun t274 => (if (((((⟨#[89, 79, 82]⟩ : ByteArray).extract ((ji2) : Int).toNat (a0_2 : Int).toNat) ++ ((⟨#[87, 82, 83, 72, 84]⟩ : ByteArray).extract ((ji6) : Int).toNat (a0_1 : Int).toNat)) ++ t273) ++ (⟨#[46]⟩ : ByteArray)).size + t274.size ≤ 9223372036854775807 then (if ((((((⟨#[89, 79, 82]⟩ : ByteArray).extract ((ji2) : Int).toNat (a0_2 : Int).toNat) ++ ((⟨#[87, 82, 83, 72, 84]⟩ : ByteArray).extract ((ji6) : Int).toNat (a0_1 : Int).toNat)) ++ t273) ++ (⟨#[46]⟩ : ByteArray)) ++ t274).size + 1 ≤ 9223372036854775807 then ((spec_l1Num.f k a0_5).bind fun t275 => (if (((((((⟨#[89, 79, 82]⟩ : ByteArray).extract ((ji2) : Int).toNat (a0_2 : Int).toNat) ++ ((⟨#[87, 82, 83, 72, 84]⟩ : ByteArray).extract ((ji6) : Int).toNat (a0_1 : Int).toNat)) ++ t273) ++ (⟨#[46]⟩ : ByteArray)) ++ t274) ++ (⟨#[46]⟩ : ByteArray)).size + t275.size ≤ 9223372036854775807 then (if ((((((((⟨#[89, 79, 82]⟩ : ByteArray).extract ((ji2) : Int).toNat (a0_2 : Int).toNat) ++ ((⟨#[87, 82, 83, 72, 84]⟩ : ByteArray).extract ((ji6) : Int).toNat (a0_1 : Int).toNat)) ++ t273) ++ (⟨#[46]⟩ : ByteArray)) ++ t274) ++ (⟨#[46]⟩ : ByteArray)) ++ t275).size + 1 ≤ 9223372036854775807 then ((spec_l1Num.f k a0_0).bind fun t276 => (if (((((((((⟨#[89, 79, 82]⟩ : ByteArray).extract ((ji2) : Int).toNat (a0_2 : Int).toNat) ++ ((⟨#[87, 82, 83, 72, 84]⟩ : ByteArray).extract ((ji6) : Int).toNat (a0_1 : Int).toNat)) ++ t273) ++ (⟨#[46]⟩ : ByteArray)) ++ t274) ++ (⟨#[46]⟩ : ByteArray)) ++ t275) ++ (⟨#[46]⟩ : ByteArray)).size + t276.size ≤ 9223372036854775807 then (some ((((((((((⟨#[89, 79, 82]⟩ : ByteArray).extract ((ji2) : Int).toNat (a0_2 : Int).toNat) ++ ((⟨#[87, 82, 83, 72, 84]⟩ : ByteArray).extract ((ji6) : Int).toNat (a0_1 : Int).toNat)) ++ t273) ++ (⟨#[46]⟩ : ByteArray)) ++ t274) ++ (⟨#[46]⟩ : ByteArray)) ++ t275) ++ (⟨#[46]⟩ : ByteArray)) ++ t276)) else (none))) else (none)) else (none))) else (none)) else (none))) else (none)) else (none))) else (none)) else (none)) else (none)) else (none)) = some r := by first | (rw [hji6] at H; exact H) | (simp only [hji6] at H ⊢; exact H)
    have hji6w : (IntKind.i64.wrap (a0_1 - 1)) = ji6 := (i64_w _).trans hji6
    by_cases c7 : 0 ≤ (ji6)
    ·
     rw [if_pos c7] at H
     have c7b0 := eq_true c7
     have c7b1 : decide (0 ≤ (ji6)) = true := decide_eq_true c7
     clear c7
     by_cases c8 : (ji6) ≤ a0_1
     ·
      rw [if_pos c8] at H
      have c8b0 := eq_true c8
      have c8b1 : decide ((ji6) ≤ a0_1) = true := decide_eq_true c8
      clear c8
      by_cases c9 : a0_1 ≤ 5
      ·
       rw [if_pos c9] at H
       have c9b0 := eq_true c9
       have c9b1 : decide (a0_1 ≤ 5) = true := decide_eq_true c9
       clear c9
       by_cases c10 : ((⟨#[89, 79, 82]⟩ : ByteArray).extract ((ji2) : Int).toNat (a0_2 : Int).toNat).size + ((⟨#[87, 82, 83, 72, 84]⟩ : ByteArray).extract ((ji6) : Int).toNat (a0_1 : Int).toNat).size ≤ 9223372036854775807
       ·
        rw [if_pos c10] at H
        have c10b0 := eq_true c10
        have c10b1 : decide (((⟨#[89, 79, 82]⟩ : ByteArray).extract ((ji2) : Int).toNat (a0_2 : Int).toNat).size + ((⟨#[87, 82, 83, 72, 84]⟩ : ByteArray).extract ((ji6) : Int).toNat (a0_1 : Int).toNat).size ≤ 9223372036854775807) = true := decide_eq_true c10
        try have c10b2 : (9223372036854775807 < ((⟨#[89, 79, 82]⟩ : ByteArray).extract ((ji2) : Int).toNat (a0_2 : Int).toNat).size + ((⟨#[87, 82, 83, 72, 84]⟩ : ByteArray).extract ((ji6) : Int).toNat (a0_1 : Int).toNat).size) = False := eq_false (Nat.not_lt.2 c10)
        replace H := Option.bind_eq_some_iff.mp H
        obtain ⟨t273, A110, H⟩ := H
        replace H : (if (((⟨#[89, 79, 82]⟩ : ByteArray).extract ((ji2) : Int).toNat (a0_2 : Int).toNat) ++ ((⟨#[87, 82, 83, 72, 84]⟩ : ByteArray).extract ((ji6) : Int).toNat (a0_1 : Int).toNat)).size + t273.size ≤ 9223372036854775807 then (if ((((⟨#[89, 79, 82]⟩ : ByteArray).extract ((ji2) : Int).toNat (a0_2 : Int).toNat) ++ ((⟨#[87, 82, 83, 72, 84]⟩ : ByteArray).extract ((ji6) : Int).toNat (a0_1 : Int).toNat)) ++ t273).size + 1 ≤ 9223372036854775807 then ((spec_l1Num.f k a0_4).bind fun t274 => (if (((((⟨#[89, 79, 82]⟩ : ByteArray).extract ((ji2) : Int).toNat (a0_2 : Int).toNat) ++ ((⟨#[87, 82, 83, 72, 84]⟩ : ByteArray).extract ((ji6) : Int).toNat (a0_1 : Int).toNat)) ++ t273) ++ (⟨#[46]⟩ : ByteArray)).size + t274.size ≤ 9223372036854775807 then (if ((((((⟨#[89, 79, 82]⟩ : ByteArray).extract ((ji2) : Int).toNat (a0_2 : Int).toNat) ++ ((⟨#[87, 82, 83, 72, 84]⟩ : ByteArray).extract ((ji6) : Int).toNat (a0_1 : Int).toNat)) ++ t273) ++ (⟨#[46]⟩ : ByteArray)) ++ t274).size + 1 ≤ 9223372036854775807 then ((spec_l1Num.f k a0_5).bind fun t275 => (if (((((((⟨#[89, 79, 82]⟩ : ByteArray).extract ((ji2) : Int).toNat (a0_2 : Int).toNat) ++ ((⟨#[87, 82, 83, 72, 84]⟩ : ByteArray).extract ((ji6) : Int).toNat (a0_1 : Int).toNat)) ++ t273) ++ (⟨#[46]⟩ : ByteArray)) ++ t274) ++ (⟨#[46]⟩ : ByteArray)).size + t275.size ≤ 9223372036854775807 then (if ((((((((⟨#[89, 79, 82]⟩ : ByteArray).extract ((ji2) : Int).toNat (a0_2 : Int).toNat) ++ ((⟨#[87, 82, 83, 72, 84]⟩ : ByteArray).extract ((ji6) : Int).toNat (a0_1 : Int).toNat)) ++ t273) ++ (⟨#[46]⟩ : ByteArray)) ++ t274) ++ (⟨#[46]⟩ : ByteArray)) ++ t275).size + 1 ≤ 9223372036854775807 then ((spec_l1Num.f k a0_0).bind fun t276 => (if (((((((((⟨#[89, 79, 82]⟩ : ByteArray).extract ((ji2) : Int).toNat (a0_2 : Int).toNat) ++ ((⟨#[87, 82, 83, 72, 84]⟩ : ByteArray).extract ((ji6) : Int).toNat (a0_1 : Int).toNat)) ++ t273) ++ (⟨#[46]⟩ : ByteArray)) ++ t274) ++ (⟨#[46]⟩ : ByteArray)) ++ t275) ++ (⟨#[46]⟩ : ByteArray)).size + t276.size ≤ 9223372036854775807 then (some ((((((((((⟨#[89, 79, 82]⟩ : ByteArray).extract ((ji2) : Int).toNat (a0_2 : Int).toNat) ++ ((⟨#[87, 82, 83, 72, 84]⟩ : ByteArray).extract ((ji6) : Int).toNat (a0_1 : Int).toNat)) ++ t273) ++ (⟨#[46]⟩ : ByteArray)) ++ t274) ++ (⟨#[46]⟩ : ByteArray)) ++ t275) ++ (⟨#[46]⟩ : ByteArray)) ++ t276)) else (none))) else (none)) else (none))) else (none)) else (none))) else (none)) else (none)) = some r := H
        have A11 := Aside0.mk A110
        clear A110
        by_cases c12 : (((⟨#[89, 79, 82]⟩ : ByteArray).extract ((ji2) : Int).toNat (a0_2 : Int).toNat) ++ ((⟨#[87, 82, 83, 72, 84]⟩ : ByteArray).extract ((ji6) : Int).toNat (a0_1 : Int).toNat)).size + t273.size ≤ 9223372036854775807
        ·
         rw [if_pos c12] at H
         have c12b0 := eq_true c12
         have c12b1 : decide ((((⟨#[89, 79, 82]⟩ : ByteArray).extract ((ji2) : Int).toNat (a0_2 : Int).toNat) ++ ((⟨#[87, 82, 83, 72, 84]⟩ : ByteArray).extract ((ji6) : Int).toNat (a0_1 : Int).toNat)).size + t273.size ≤ 9223372036854775807) = true := decide_eq_true c12
         try have c12b2 : (9223372036854775807 < (((⟨#[89, 79, 82]⟩ : ByteArray).extract ((ji2) : Int).toNat (a0_2 : Int).toNat) ++ ((⟨#[87, 82, 83, 72, 84]⟩ : ByteArray).extract ((ji6) : Int).toNat (a0_1 : Int).toNat)).size + t273.size) = False := eq_false (Nat.not_lt.2 c12)
         try have c12b3 : (9223372036854775807 < ((⟨#[89, 79, 82]⟩ : ByteArray).extract ((ji2) : Int).toNat (a0_2 : Int).toNat).size + ((⟨#[87, 82, 83, 72, 84]⟩ : ByteArray).extract ((ji6) : Int).toNat (a0_1 : Int).toNat).size + t273.size) = False := eq_false (Nat.not_lt.2 (by have q_ := c12; simp only [ByteArray.size_append] at q_; exact q_))
         by_cases c13 : ((((⟨#[89, 79, 82]⟩ : ByteArray).extract ((ji2) : Int).toNat (a0_2 : Int).toNat) ++ ((⟨#[87, 82, 83, 72, 84]⟩ : ByteArray).extract ((ji6) : Int).toNat (a0_1 : Int).toNat)) ++ t273).size + 1 ≤ 9223372036854775807
         ·
          rw [if_pos c13] at H
          have c13b0 := eq_true c13
          have c13b1 : decide (((((⟨#[89, 79, 82]⟩ : ByteArray).extract ((ji2) : Int).toNat (a0_2 : Int).toNat) ++ ((⟨#[87, 82, 83, 72, 84]⟩ : ByteArray).extract ((ji6) : Int).toNat (a0_1 : Int).toNat)) ++ t273).size + 1 ≤ 9223372036854775807) = true := decide_eq_true c13
          try have c13b2 : (9223372036854775807 < ((((⟨#[89, 79, 82]⟩ : ByteArray).extract ((ji2) : Int).toNat (a0_2 : Int).toNat) ++ ((⟨#[87, 82, 83, 72, 84]⟩ : ByteArray).extract ((ji6) : Int).toNat (a0_1 : Int).toNat)) ++ t273).size + 1) = False := eq_false (Nat.not_lt.2 c13)
          try have c13b3 : (9223372036854775807 < ((⟨#[89, 79, 82]⟩ : ByteArray).extract ((ji2) : Int).toNat (a0_2 : Int).toNat).size + ((⟨#[87, 82, 83, 72, 84]⟩ : ByteArray).extract ((ji6) : Int).toNat (a0_1 : Int).toNat).size + t273.size + 1) = False := eq_false (Nat.not_lt.2 (by have q_ := c13; simp only [ByteArray.size_append] at q_; exact q_))
          replace H := Option.bind_eq_some_iff.mp H
          obtain ⟨t274, A140, H⟩ := H
          replace H : (if (((((⟨#[89, 79, 82]⟩ : ByteArray).extract ((ji2) : Int).toNat (a0_2 : Int).toNat) ++ ((⟨#[87, 82, 83, 72, 84]⟩ : ByteArray).extract ((ji6) : Int).toNat (a0_1 : Int).toNat)) ++ t273) ++ (⟨#[46]⟩ : ByteArray)).size + t274.size ≤ 9223372036854775807 then (if ((((((⟨#[89, 79, 82]⟩ : ByteArray).extract ((ji2) : Int).toNat (a0_2 : Int).toNat) ++ ((⟨#[87, 82, 83, 72, 84]⟩ : ByteArray).extract ((ji6) : Int).toNat (a0_1 : Int).toNat)) ++ t273) ++ (⟨#[46]⟩ : ByteArray)) ++ t274).size + 1 ≤ 9223372036854775807 then ((spec_l1Num.f k a0_5).bind fun t275 => (if (((((((⟨#[89, 79, 82]⟩ : ByteArray).extract ((ji2) : Int).toNat (a0_2 : Int).toNat) ++ ((⟨#[87, 82, 83, 72, 84]⟩ : ByteArray).extract ((ji6) : Int).toNat (a0_1 : Int).toNat)) ++ t273) ++ (⟨#[46]⟩ : ByteArray)) ++ t274) ++ (⟨#[46]⟩ : ByteArray)).size + t275.size ≤ 9223372036854775807 then (if ((((((((⟨#[89, 79, 82]⟩ : ByteArray).extract ((ji2) : Int).toNat (a0_2 : Int).toNat) ++ ((⟨#[87, 82, 83, 72, 84]⟩ : ByteArray).extract ((ji6) : Int).toNat (a0_1 : Int).toNat)) ++ t273) ++ (⟨#[46]⟩ : ByteArray)) ++ t274) ++ (⟨#[46]⟩ : ByteArray)) ++ t275).size + 1 ≤ 9223372036854775807 then ((spec_l1Num.f k a0_0).bind fun t276 => (if (((((((((⟨#[89, 79, 82]⟩ : ByteArray).extract ((ji2) : Int).toNat (a0_2 : Int).toNat) ++ ((⟨#[87, 82, 83, 72, 84]⟩ : ByteArray).extract ((ji6) : Int).toNat (a0_1 : Int).toNat)) ++ t273) ++ (⟨#[46]⟩ : ByteArray)) ++ t274) ++ (⟨#[46]⟩ : ByteArray)) ++ t275) ++ (⟨#[46]⟩ : ByteArray)).size + t276.size ≤ 9223372036854775807 then (some ((((((((((⟨#[89, 79, 82]⟩ : ByteArray).extract ((ji2) : Int).toNat (a0_2 : Int).toNat) ++ ((⟨#[87, 82, 83, 72, 84]⟩ : ByteArray).extract ((ji6) : Int).toNat (a0_1 : Int).toNat)) ++ t273) ++ (⟨#[46]⟩ : ByteArray)) ++ t274) ++ (⟨#[46]⟩ : ByteArray)) ++ t275) ++ (⟨#[46]⟩ : ByteArray)) ++ t276)) else (none))) else (none)) else (none))) else (none)) else (none)) = some r := H
          have A14 := Aside0.mk A140
          clear A140
          by_cases c15 : (((((⟨#[89, 79, 82]⟩ : ByteArray).extract ((ji2) : Int).toNat (a0_2 : Int).toNat) ++ ((⟨#[87, 82, 83, 72, 84]⟩ : ByteArray).extract ((ji6) : Int).toNat (a0_1 : Int).toNat)) ++ t273) ++ (⟨#[46]⟩ : ByteArray)).size + t274.size ≤ 9223372036854775807
          ·
           rw [if_pos c15] at H
           have c15b0 := eq_true c15
           have c15b1 : decide ((((((⟨#[89, 79, 82]⟩ : ByteArray).extract ((ji2) : Int).toNat (a0_2 : Int).toNat) ++ ((⟨#[87, 82, 83, 72, 84]⟩ : ByteArray).extract ((ji6) : Int).toNat (a0_1 : Int).toNat)) ++ t273) ++ (⟨#[46]⟩ : ByteArray)).size + t274.size ≤ 9223372036854775807) = true := decide_eq_true c15
           try have c15b2 : (9223372036854775807 < (((((⟨#[89, 79, 82]⟩ : ByteArray).extract ((ji2) : Int).toNat (a0_2 : Int).toNat) ++ ((⟨#[87, 82, 83, 72, 84]⟩ : ByteArray).extract ((ji6) : Int).toNat (a0_1 : Int).toNat)) ++ t273) ++ (⟨#[46]⟩ : ByteArray)).size + t274.size) = False := eq_false (Nat.not_lt.2 c15)
           try have c15b3 : (9223372036854775807 < ((⟨#[89, 79, 82]⟩ : ByteArray).extract ((ji2) : Int).toNat (a0_2 : Int).toNat).size + ((⟨#[87, 82, 83, 72, 84]⟩ : ByteArray).extract ((ji6) : Int).toNat (a0_1 : Int).toNat).size + t273.size + 1 + t274.size) = False := eq_false (Nat.not_lt.2 (by have q_ := c15; simp only [ByteArray.size_append] at q_; exact q_))
           by_cases c16 : ((((((⟨#[89, 79, 82]⟩ : ByteArray).extract ((ji2) : Int).toNat (a0_2 : Int).toNat) ++ ((⟨#[87, 82, 83, 72, 84]⟩ : ByteArray).extract ((ji6) : Int).toNat (a0_1 : Int).toNat)) ++ t273) ++ (⟨#[46]⟩ : ByteArray)) ++ t274).size + 1 ≤ 9223372036854775807
           ·
            rw [if_pos c16] at H
            have c16b0 := eq_true c16
            have c16b1 : decide (((((((⟨#[89, 79, 82]⟩ : ByteArray).extract ((ji2) : Int).toNat (a0_2 : Int).toNat) ++ ((⟨#[87, 82, 83, 72, 84]⟩ : ByteArray).extract ((ji6) : Int).toNat (a0_1 : Int).toNat)) ++ t273) ++ (⟨#[46]⟩ : ByteArray)) ++ t274).size + 1 ≤ 9223372036854775807) = true := decide_eq_true c16
            try have c16b2 : (9223372036854775807 < ((((((⟨#[89, 79, 82]⟩ : ByteArray).extract ((ji2) : Int).toNat (a0_2 : Int).toNat) ++ ((⟨#[87, 82, 83, 72, 84]⟩ : ByteArray).extract ((ji6) : Int).toNat (a0_1 : Int).toNat)) ++ t273) ++ (⟨#[46]⟩ : ByteArray)) ++ t274).size + 1) = False := eq_false (Nat.not_lt.2 c16)
            try have c16b3 : (9223372036854775807 < ((⟨#[89, 79, 82]⟩ : ByteArray).extract ((ji2) : Int).toNat (a0_2 : Int).toNat).size + ((⟨#[87, 82, 83, 72, 84]⟩ : ByteArray).extract ((ji6) : Int).toNat (a0_1 : Int).toNat).size + t273.size + 1 + t274.size + 1) = False := eq_false (Nat.not_lt.2 (by have q_ := c16; simp only [ByteArray.size_append] at q_; exact q_))
            replace H := Option.bind_eq_some_iff.mp H
            obtain ⟨t275, A170, H⟩ := H
            replace H : (if (((((((⟨#[89, 79, 82]⟩ : ByteArray).extract ((ji2) : Int).toNat (a0_2 : Int).toNat) ++ ((⟨#[87, 82, 83, 72, 84]⟩ : ByteArray).extract ((ji6) : Int).toNat (a0_1 : Int).toNat)) ++ t273) ++ (⟨#[46]⟩ : ByteArray)) ++ t274) ++ (⟨#[46]⟩ : ByteArray)).size + t275.size ≤ 9223372036854775807 then (if ((((((((⟨#[89, 79, 82]⟩ : ByteArray).extract ((ji2) : Int).toNat (a0_2 : Int).toNat) ++ ((⟨#[87, 82, 83, 72, 84]⟩ : ByteArray).extract ((ji6) : Int).toNat (a0_1 : Int).toNat)) ++ t273) ++ (⟨#[46]⟩ : ByteArray)) ++ t274) ++ (⟨#[46]⟩ : ByteArray)) ++ t275).size + 1 ≤ 9223372036854775807 then ((spec_l1Num.f k a0_0).bind fun t276 => (if (((((((((⟨#[89, 79, 82]⟩ : ByteArray).extract ((ji2) : Int).toNat (a0_2 : Int).toNat) ++ ((⟨#[87, 82, 83, 72, 84]⟩ : ByteArray).extract ((ji6) : Int).toNat (a0_1 : Int).toNat)) ++ t273) ++ (⟨#[46]⟩ : ByteArray)) ++ t274) ++ (⟨#[46]⟩ : ByteArray)) ++ t275) ++ (⟨#[46]⟩ : ByteArray)).size + t276.size ≤ 9223372036854775807 then (some ((((((((((⟨#[89, 79, 82]⟩ : ByteArray).extract ((ji2) : Int).toNat (a0_2 : Int).toNat) ++ ((⟨#[87, 82, 83, 72, 84]⟩ : ByteArray).extract ((ji6) : Int).toNat (a0_1 : Int).toNat)) ++ t273) ++ (⟨#[46]⟩ : ByteArray)) ++ t274) ++ (⟨#[46]⟩ : ByteArray)) ++ t275) ++ (⟨#[46]⟩ : ByteArray)) ++ t276)) else (none))) else (none)) else (none)) = some r := H
            have A17 := Aside0.mk A170
            clear A170
            by_cases c18 : (((((((⟨#[89, 79, 82]⟩ : ByteArray).extract ((ji2) : Int).toNat (a0_2 : Int).toNat) ++ ((⟨#[87, 82, 83, 72, 84]⟩ : ByteArray).extract ((ji6) : Int).toNat (a0_1 : Int).toNat)) ++ t273) ++ (⟨#[46]⟩ : ByteArray)) ++ t274) ++ (⟨#[46]⟩ : ByteArray)).size + t275.size ≤ 9223372036854775807
            ·
             rw [if_pos c18] at H
             have c18b0 := eq_true c18
             have c18b1 : decide ((((((((⟨#[89, 79, 82]⟩ : ByteArray).extract ((ji2) : Int).toNat (a0_2 : Int).toNat) ++ ((⟨#[87, 82, 83, 72, 84]⟩ : ByteArray).extract ((ji6) : Int).toNat (a0_1 : Int).toNat)) ++ t273) ++ (⟨#[46]⟩ : ByteArray)) ++ t274) ++ (⟨#[46]⟩ : ByteArray)).size + t275.size ≤ 9223372036854775807) = true := decide_eq_true c18
             try have c18b2 : (9223372036854775807 < (((((((⟨#[89, 79, 82]⟩ : ByteArray).extract ((ji2) : Int).toNat (a0_2 : Int).toNat) ++ ((⟨#[87, 82, 83, 72, 84]⟩ : ByteArray).extract ((ji6) : Int).toNat (a0_1 : Int).toNat)) ++ t273) ++ (⟨#[46]⟩ : ByteArray)) ++ t274) ++ (⟨#[46]⟩ : ByteArray)).size + t275.size) = False := eq_false (Nat.not_lt.2 c18)
             try have c18b3 : (9223372036854775807 < ((⟨#[89, 79, 82]⟩ : ByteArray).extract ((ji2) : Int).toNat (a0_2 : Int).toNat).size + ((⟨#[87, 82, 83, 72, 84]⟩ : ByteArray).extract ((ji6) : Int).toNat (a0_1 : Int).toNat).size + t273.size + 1 + t274.size + 1 + t275.size) = False := eq_false (Nat.not_lt.2 (by have q_ := c18; simp only [ByteArray.size_append] at q_; exact q_))
             by_cases c19 : ((((((((⟨#[89, 79, 82]⟩ : ByteArray).extract ((ji2) : Int).toNat (a0_2 : Int).toNat) ++ ((⟨#[87, 82, 83, 72, 84]⟩ : ByteArray).extract ((ji6) : Int).toNat (a0_1 : Int).toNat)) ++ t273) ++ (⟨#[46]⟩ : ByteArray)) ++ t274) ++ (⟨#[46]⟩ : ByteArray)) ++ t275).size + 1 ≤ 9223372036854775807
             ·
              rw [if_pos c19] at H
              have c19b0 := eq_true c19
              have c19b1 : decide (((((((((⟨#[89, 79, 82]⟩ : ByteArray).extract ((ji2) : Int).toNat (a0_2 : Int).toNat) ++ ((⟨#[87, 82, 83, 72, 84]⟩ : ByteArray).extract ((ji6) : Int).toNat (a0_1 : Int).toNat)) ++ t273) ++ (⟨#[46]⟩ : ByteArray)) ++ t274) ++ (⟨#[46]⟩ : ByteArray)) ++ t275).size + 1 ≤ 9223372036854775807) = true := decide_eq_true c19
              try have c19b2 : (9223372036854775807 < ((((((((⟨#[89, 79, 82]⟩ : ByteArray).extract ((ji2) : Int).toNat (a0_2 : Int).toNat) ++ ((⟨#[87, 82, 83, 72, 84]⟩ : ByteArray).extract ((ji6) : Int).toNat (a0_1 : Int).toNat)) ++ t273) ++ (⟨#[46]⟩ : ByteArray)) ++ t274) ++ (⟨#[46]⟩ : ByteArray)) ++ t275).size + 1) = False := eq_false (Nat.not_lt.2 c19)
              try have c19b3 : (9223372036854775807 < ((⟨#[89, 79, 82]⟩ : ByteArray).extract ((ji2) : Int).toNat (a0_2 : Int).toNat).size + ((⟨#[87, 82, 83, 72, 84]⟩ : ByteArray).extract ((ji6) : Int).toNat (a0_1 : Int).toNat).size + t273.size + 1 + t274.size + 1 + t275.size + 1) = False := eq_false (Nat.not_lt.2 (by have q_ := c19; simp only [ByteArray.size_append] at q_; exact q_))
              replace H := Option.bind_eq_some_iff.mp H
              obtain ⟨t276, A200, H⟩ := H
              replace H : (if (((((((((⟨#[89, 79, 82]⟩ : ByteArray).extract ((ji2) : Int).toNat (a0_2 : Int).toNat) ++ ((⟨#[87, 82, 83, 72, 84]⟩ : ByteArray).extract ((ji6) : Int).toNat (a0_1 : Int).toNat)) ++ t273) ++ (⟨#[46]⟩ : ByteArray)) ++ t274) ++ (⟨#[46]⟩ : ByteArray)) ++ t275) ++ (⟨#[46]⟩ : ByteArray)).size + t276.size ≤ 9223372036854775807 then (some ((((((((((⟨#[89, 79, 82]⟩ : ByteArray).extract ((ji2) : Int).toNat (a0_2 : Int).toNat) ++ ((⟨#[87, 82, 83, 72, 84]⟩ : ByteArray).extract ((ji6) : Int).toNat (a0_1 : Int).toNat)) ++ t273) ++ (⟨#[46]⟩ : ByteArray)) ++ t274) ++ (⟨#[46]⟩ : ByteArray)) ++ t275) ++ (⟨#[46]⟩ : ByteArray)) ++ t276)) else (none)) = some r := H
              have A20 := Aside0.mk A200
              clear A200
              by_cases c21 : (((((((((⟨#[89, 79, 82]⟩ : ByteArray).extract ((ji2) : Int).toNat (a0_2 : Int).toNat) ++ ((⟨#[87, 82, 83, 72, 84]⟩ : ByteArray).extract ((ji6) : Int).toNat (a0_1 : Int).toNat)) ++ t273) ++ (⟨#[46]⟩ : ByteArray)) ++ t274) ++ (⟨#[46]⟩ : ByteArray)) ++ t275) ++ (⟨#[46]⟩ : ByteArray)).size + t276.size ≤ 9223372036854775807
              ·
               rw [if_pos c21] at H
               have c21b0 := eq_true c21
               have c21b1 : decide ((((((((((⟨#[89, 79, 82]⟩ : ByteArray).extract ((ji2) : Int).toNat (a0_2 : Int).toNat) ++ ((⟨#[87, 82, 83, 72, 84]⟩ : ByteArray).extract ((ji6) : Int).toNat (a0_1 : Int).toNat)) ++ t273) ++ (⟨#[46]⟩ : ByteArray)) ++ t274) ++ (⟨#[46]⟩ : ByteArray)) ++ t275) ++ (⟨#[46]⟩ : ByteArray)).size + t276.size ≤ 9223372036854775807) = true := decide_eq_true c21
               try have c21b2 : (9223372036854775807 < (((((((((⟨#[89, 79, 82]⟩ : ByteArray).extract ((ji2) : Int).toNat (a0_2 : Int).toNat) ++ ((⟨#[87, 82, 83, 72, 84]⟩ : ByteArray).extract ((ji6) : Int).toNat (a0_1 : Int).toNat)) ++ t273) ++ (⟨#[46]⟩ : ByteArray)) ++ t274) ++ (⟨#[46]⟩ : ByteArray)) ++ t275) ++ (⟨#[46]⟩ : ByteArray)).size + t276.size) = False := eq_false (Nat.not_lt.2 c21)
               try have c21b3 : (9223372036854775807 < ((⟨#[89, 79, 82]⟩ : ByteArray).extract ((ji2) : Int).toNat (a0_2 : Int).toNat).size + ((⟨#[87, 82, 83, 72, 84]⟩ : ByteArray).extract ((ji6) : Int).toNat (a0_1 : Int).toNat).size + t273.size + 1 + t274.size + 1 + t275.size + 1 + t276.size) = False := eq_false (Nat.not_lt.2 (by have q_ := c21; simp only [ByteArray.size_append] at q_; exact q_))
               obtain rfl := Option.some.inj H
               go_enter Tryd.func36, Tryd.ntmps36
               try go_wp2_with (first | ((with_reducible refine gate_dst (N := 1) rfl ?_); refine box_event ?hg (N := 1) ?hd (cs := #[.int .i64 a0_0, .int .i64 a0_1, .int .i64 a0_2, .int .i64 a0_3, .int .i64 a0_4, .int .i64 a0_5]) (t := 23) ?hr ?_; (case hd => rfl); (case hg => rfl); (case hr => first | (go_simp; done) | (go_simp; rfl)); intro gb272 hg w22 hbox hb; have n0_ := Aside0.mk (below_step (by repeat (first | (with_reducible first | exact HB.out | apply below_alloc | apply pw_below_drewN | apply below_drew1) | exact HB.out)) hb); have n1_ := Aside0.mk (hbox); have n2_ := Aside0.mk ((by rw [hg]; exact (below_size (by repeat (first | (with_reducible first | exact HB.out | apply below_alloc | apply pw_below_drewN | apply below_drew1) | exact HB.out))) : w.heap.size ≤ gb272)); have n3_ := Aside0.mk ((by rw [hg]; exact (below_size (by repeat (first | (with_reducible first | exact HB.out | apply below_alloc | apply pw_below_drewN | apply below_drew1) | exact HB.out))) : w.heap.size ≤ gb272)); clear HB; have HB := n0_; have BK272 := n1_; have GW272 := n2_; have GE272 := n3_; clear n0_ n1_ n2_ n3_; clear hb hbox hg))
               have n0_ := Aside0.mk (blk_drew BK272.out)
               have n1_ := Aside0.mk (below_drew1 HB.out)
               clear BK272
               clear HB
               have BK272 := n0_
               have HB := n1_
               clear n0_ n1_
               refine start_ (n := 33) (S := fun w' => w'.cell? ⟨gb272, 0, none⟩ = some (.int .i64 a0_0) ∧ w'.cell? ⟨gb272, 1, none⟩ = some (.int .i64 a0_1) ∧ w'.cell? ⟨gb272, 2, none⟩ = some (.int .i64 a0_2) ∧ w'.cell? ⟨gb272, 3, none⟩ = some (.int .i64 a0_3) ∧ w'.cell? ⟨gb272, 4, none⟩ = some (.int .i64 a0_4) ∧ w'.cell? ⟨gb272, 5, none⟩ = some (.int .i64 a0_5)) (ds := []) #[false, false, false, false, false, false, false, false, false, false, false, false, false, false, false, false, false, false, false, false, false, false, false, false, false, false, false, false, false, false, false, false, false] (by kernel_rfl) rfl rfl ⟨(blk_cell BK272.out 0).trans rfl, (blk_cell BK272.out 1).trans rfl, (blk_cell BK272.out 2).trans rfl, (blk_cell BK272.out 3).trans rfl, (blk_cell BK272.out 4).trans rfl, (blk_cell BK272.out 5).trans rfl⟩ (fun hHeld => ?_); refine with_tabW spec_l17Code.tab1 spec_l17Code.bits1 (fun HT_ HW_ => ?_)
               generalize w22.drew = w23 at BK272 HB hHeld ⊢
               refine pure_ (i := 0) (N := some 3) (v := ?_) (a' := ?_) #[true, false, false, false, false, false, false, false, false, false, false, false, false, false, false, false, false, false, false, false, false, false, false, false, false, false, false, false, false, false, false, false, false] rfl rfl (any_of HT_.out (by kernel_rfl)) (fun _ _ _ h => h) (Or.inl ⟨by rfl, ?_⟩) ?_ ?_
               rotate_left
               ·
                intro w'
                go_simp
                first | with_reducible rfl | (rw [if_neg (by have g1_ := of_eq_true c5b0; have g2_ := of_eq_true c9b0; simp only [ByteArray.size_append, ByteArray.size_extract, show (⟨#[89, 79, 82]⟩ : ByteArray).size = 3 from rfl, show (⟨#[87, 82, 83, 72, 84]⟩ : ByteArray).size = 5 from rfl, show (⟨#[46]⟩ : ByteArray).size = 1 from rfl] at *; omega)])
               rotate_left
               ·
                simp only [Act.put, List.setIfInBounds_toArray, List.set_cons_zero, List.set_cons_succ, i64_w, i32_w]
                rfl
               refine pure_ (i := 3) (N := some 6) (v := ?_) (a' := ?_) #[true, false, false, true, false, false, false, false, false, false, false, false, false, false, false, false, false, false, false, false, false, false, false, false, false, false, false, false, false, false, false, false, false] rfl rfl (any_of HT_.out (by kernel_rfl)) (fun _ _ _ h => h) (Or.inl ⟨by rfl, ?_⟩) ?_ ?_
               rotate_left
               ·
                intro w'
                go_simp
                first | with_reducible rfl | (rw [if_neg (by have g1_ := of_eq_true c5b0; have g2_ := of_eq_true c9b0; simp only [ByteArray.size_append, ByteArray.size_extract, show (⟨#[89, 79, 82]⟩ : ByteArray).size = 3 from rfl, show (⟨#[87, 82, 83, 72, 84]⟩ : ByteArray).size = 5 from rfl, show (⟨#[46]⟩ : ByteArray).size = 1 from rfl] at *; omega)])
               rotate_left
               ·
                simp only [Act.put, List.setIfInBounds_toArray, List.set_cons_zero, List.set_cons_succ, i64_w, i32_w]
                rfl
               refine pure_ (i := 6) (N := some 9) (v := ?_) (a' := ?_) #[true, false, false, true, false, false, true, false, false, false, false, false, false, false, false, false, false, false, false, false, false, false, false, false, false, false, false, false, false, false, false, false, false] rfl rfl (any_of HT_.out (by kernel_rfl)) (fun _ _ _ h => h) (Or.inl ⟨by rfl, ?_⟩) ?_ ?_
               rotate_left
               ·
                intro w'
                go_simp
                first | with_reducible rfl | (rw [if_neg (by have g1_ := of_eq_true c5b0; have g2_ := of_eq_true c9b0; simp only [ByteArray.size_append, ByteArray.size_extract, show (⟨#[89, 79, 82]⟩ : ByteArray).size = 3 from rfl, show (⟨#[87, 82, 83, 72, 84]⟩ : ByteArray).size = 5 from rfl, show (⟨#[46]⟩ : ByteArray).size = 1 from rfl] at *; omega)])
               rotate_left
               ·
                simp only [Act.put, List.setIfInBounds_toArray, List.set_cons_zero, List.set_cons_succ, i64_w, i32_w]
                rfl
               refine pure_ (i := 9) (N := some 12) (v := ?_) (a' := ?_) #[true, false, false, true, false, false, true, false, false, true, false, false, false, false, false, false, false, false, false, false, false, false, false, false, false, false, false, false, false, false, false, false, false] rfl rfl (any_of HT_.out (by kernel_rfl)) (fun _ _ _ h => h) (Or.inl ⟨by rfl, ?_⟩) ?_ ?_
               rotate_left
               ·
                intro w'
                go_simp
                first | with_reducible rfl | (rw [if_neg (by have g1_ := of_eq_true c5b0; have g2_ := of_eq_true c9b0; simp only [ByteArray.size_append, ByteArray.size_extract, show (⟨#[89, 79, 82]⟩ : ByteArray).size = 3 from rfl, show (⟨#[87, 82, 83, 72, 84]⟩ : ByteArray).size = 5 from rfl, show (⟨#[46]⟩ : ByteArray).size = 1 from rfl] at *; omega)])
               rotate_left
               ·
                simp only [Act.put, List.setIfInBounds_toArray, List.set_cons_zero, List.set_cons_succ, i64_w, i32_w]
                rfl
               refine pure_ (i := 13) (N := some 16) (v := ?_) (a' := ?_) #[true, false, false, true, false, false, true, false, false, true, false, false, false, true, false, false, false, false, false, false, false, false, false, false, false, false, false, false, false, false, false, false, false] rfl rfl (any_of HT_.out (by kernel_rfl)) (fun _ _ _ h => h) (Or.inl ⟨by rfl, ?_⟩) ?_ ?_
               rotate_left
               ·
                intro w'
                go_simp
                first | with_reducible rfl | (rw [if_neg (by have g1_ := of_eq_true c5b0; have g2_ := of_eq_true c9b0; simp only [ByteArray.size_append, ByteArray.size_extract, show (⟨#[89, 79, 82]⟩ : ByteArray).size = 3 from rfl, show (⟨#[87, 82, 83, 72, 84]⟩ : ByteArray).size = 5 from rfl, show (⟨#[46]⟩ : ByteArray).size = 1 from rfl] at *; omega)])
               rotate_left
               ·
                simp only [Act.put, List.setIfInBounds_toArray, List.set_cons_zero, List.set_cons_succ, i64_w, i32_w]
                rfl
               refine pure_ (i := 18) (N := some 21) (v := ?_) (a' := ?_) #[true, false, false, true, false, false, true, false, false, true, false, false, false, true, false, false, false, false, true, false, false, false, false, false, false, false, false, false, false, false, false, false, false] rfl rfl (any_of HT_.out (by kernel_rfl)) (fun _ _ _ h => h) (Or.inl ⟨by rfl, ?_⟩) ?_ ?_
               rotate_left
               ·
                intro w'
                go_simp
                first | with_reducible rfl | (rw [if_neg (by have g1_ := of_eq_true c5b0; have g2_ := of_eq_true c9b0; simp only [ByteArray.size_append, ByteArray.size_extract, show (⟨#[89, 79, 82]⟩ : ByteArray).size = 3 from rfl, show (⟨#[87, 82, 83, 72, 84]⟩ : ByteArray).size = 5 from rfl, show (⟨#[46]⟩ : ByteArray).size = 1 from rfl] at *; omega)])
               rotate_left
               ·
                simp only [Act.put, List.setIfInBounds_toArray, List.set_cons_zero, List.set_cons_succ, i64_w, i32_w]
                rfl
               refine pure_ (i := 23) (N := some 26) (v := ?_) (a' := ?_) #[true, false, false, true, false, false, true, false, false, true, false, false, false, true, false, false, false, false, true, false, false, false, false, true, false, false, false, false, false, false, false, false, false] rfl rfl (any_of HT_.out (by kernel_rfl)) (fun _ _ _ h => h) (Or.inl ⟨by rfl, ?_⟩) ?_ ?_
               rotate_left
               ·
                intro w'
                go_simp
                first | with_reducible rfl | (rw [if_neg (by have g1_ := of_eq_true c5b0; have g2_ := of_eq_true c9b0; simp only [ByteArray.size_append, ByteArray.size_extract, show (⟨#[89, 79, 82]⟩ : ByteArray).size = 3 from rfl, show (⟨#[87, 82, 83, 72, 84]⟩ : ByteArray).size = 5 from rfl, show (⟨#[46]⟩ : ByteArray).size = 1 from rfl] at *; omega)])
               rotate_left
               ·
                simp only [Act.put, List.setIfInBounds_toArray, List.set_cons_zero, List.set_cons_succ, i64_w, i32_w]
                rfl
               refine pure_ (i := 28) (N := some 31) (v := ?_) (a' := ?_) #[true, false, false, true, false, false, true, false, false, true, false, false, false, true, false, false, false, false, true, false, false, false, false, true, false, false, false, false, true, false, false, false, false] rfl rfl (any_of HT_.out (by kernel_rfl)) (fun _ _ _ h => h) (Or.inl ⟨by rfl, ?_⟩) ?_ ?_
               rotate_left
               ·
                intro w'
                go_simp
                first | with_reducible rfl | (rw [if_neg (by have g1_ := of_eq_true c5b0; have g2_ := of_eq_true c9b0; simp only [ByteArray.size_append, ByteArray.size_extract, show (⟨#[89, 79, 82]⟩ : ByteArray).size = 3 from rfl, show (⟨#[87, 82, 83, 72, 84]⟩ : ByteArray).size = 5 from rfl, show (⟨#[46]⟩ : ByteArray).size = 1 from rfl] at *; omega)])
               rotate_left
               ·
                simp only [Act.put, List.setIfInBounds_toArray, List.set_cons_zero, List.set_cons_succ, i64_w, i32_w]
                rfl
               refine take_ (i := 1) (N := some 4) (v := ?_) (a' := ?_) #[true, true, false, true, false, false, true, false, false, true, false, false, false, true, false, false, false, false, true, false, false, false, false, true, false, false, false, false, true, false, false, false, false] rfl rfl (take_ofW HT_.out HW_.out (by kernel_rfl)) (fun _ _ _ h => h) (Or.inl ⟨by rfl, ?_⟩) hHeld ?_ ?_
               rotate_left
               ·
                rintro w' ⟨s0, s1, s2, s3, s4, s5⟩
                go_simp
                first | with_reducible rfl | (rw [if_neg (by have g1_ := of_eq_true c5b0; have g2_ := of_eq_true c9b0; simp only [ByteArray.size_append, ByteArray.size_extract, show (⟨#[89, 79, 82]⟩ : ByteArray).size = 3 from rfl, show (⟨#[87, 82, 83, 72, 84]⟩ : ByteArray).size = 5 from rfl, show (⟨#[46]⟩ : ByteArray).size = 1 from rfl] at *; omega)])
               rotate_left
               ·
                simp only [Act.put, List.setIfInBounds_toArray, List.set_cons_zero, List.set_cons_succ, i64_w, i32_w]
                rfl
               refine pure_ (i := 2) (N := some 5) (v := ?_) (a' := ?_) #[true, true, true, true, false, false, true, false, false, true, false, false, false, true, false, false, false, false, true, false, false, false, false, true, false, false, false, false, true, false, false, false, false] rfl rfl (any_of HT_.out (by kernel_rfl)) (fun _ _ _ h => h) (Or.inl ⟨by rfl, ?_⟩) ?_ ?_
               rotate_left
               ·
                intro w'
                go_simp
                first | with_reducible rfl | (rw [if_neg (by have g1_ := of_eq_true c5b0; have g2_ := of_eq_true c9b0; simp only [ByteArray.size_append, ByteArray.size_extract, show (⟨#[89, 79, 82]⟩ : ByteArray).size = 3 from rfl, show (⟨#[87, 82, 83, 72, 84]⟩ : ByteArray).size = 5 from rfl, show (⟨#[46]⟩ : ByteArray).size = 1 from rfl] at *; omega)])
               rotate_left
               ·
                simp only [Act.put, List.setIfInBounds_toArray, List.set_cons_zero, List.set_cons_succ, i64_w, i32_w]
                rfl
               refine take_ (i := 4) (N := some 7) (v := ?_) (a' := ?_) #[true, true, true, true, true, false, true, false, false, true, false, false, false, true, false, false, false, false, true, false, false, false, false, true, false, false, false, false, true, false, false, false, false] rfl rfl (take_ofW HT_.out HW_.out (by kernel_rfl)) (fun _ _ _ h => h) (Or.inl ⟨by rfl, ?_⟩) hHeld ?_ ?_
               rotate_left
               ·
                rintro w' ⟨s0, s1, s2, s3, s4, s5⟩
                go_simp
                first | with_reducible rfl | (rw [if_neg (by have g1_ := of_eq_true c5b0; have g2_ := of_eq_true c9b0; simp only [ByteArray.size_append, ByteArray.size_extract, show (⟨#[89, 79, 82]⟩ : ByteArray).size = 3 from rfl, show (⟨#[87, 82, 83, 72, 84]⟩ : ByteArray).size = 5 from rfl, show (⟨#[46]⟩ : ByteArray).size = 1 from rfl] at *; omega)])
               rotate_left
               ·
                simp only [Act.put, List.setIfInBounds_toArray, List.set_cons_zero, List.set_cons_succ, i64_w, i32_w]
                rfl
               refine pure_ (i := 5) (N := some 8) (v := ?_) (a' := ?_) #[true, true, true, true, true, true, true, false, false, true, false, false, false, true, false, false, false, false, true, false, false, false, false, true, false, false, false, false, true, false, false, false, false] rfl rfl (any_of HT_.out (by kernel_rfl)) (fun _ _ _ h => h) (Or.inl ⟨by rfl, ?_⟩) ?_ ?_
               rotate_left
               ·
                intro w'
                go_simp
                first | with_reducible rfl | (rw [if_neg (by have g1_ := of_eq_true c5b0; have g2_ := of_eq_true c9b0; simp only [ByteArray.size_append, ByteArray.size_extract, show (⟨#[89, 79, 82]⟩ : ByteArray).size = 3 from rfl, show (⟨#[87, 82, 83, 72, 84]⟩ : ByteArray).size = 5 from rfl, show (⟨#[46]⟩ : ByteArray).size = 1 from rfl] at *; omega)])
               rotate_left
               ·
                simp only [Act.put, List.setIfInBounds_toArray, List.set_cons_zero, List.set_cons_succ, i64_w, i32_w]
                rfl
               refine take_ (i := 7) (N := some 10) (v := ?_) (a' := ?_) #[true, true, true, true, true, true, true, true, false, true, false, false, false, true, false, false, false, false, true, false, false, false, false, true, false, false, false, false, true, false, false, false, false] rfl rfl (take_ofW HT_.out HW_.out (by kernel_rfl)) (fun _ _ _ h => h) (Or.inl ⟨by rfl, ?_⟩) hHeld ?_ ?_
               rotate_left
               ·
                rintro w' ⟨s0, s1, s2, s3, s4, s5⟩
                go_simp
                first | with_reducible rfl | (rw [if_neg (by have g1_ := of_eq_true c5b0; have g2_ := of_eq_true c9b0; simp only [ByteArray.size_append, ByteArray.size_extract, show (⟨#[89, 79, 82]⟩ : ByteArray).size = 3 from rfl, show (⟨#[87, 82, 83, 72, 84]⟩ : ByteArray).size = 5 from rfl, show (⟨#[46]⟩ : ByteArray).size = 1 from rfl] at *; omega)])
               rotate_left
               ·
                simp only [Act.put, List.setIfInBounds_toArray, List.set_cons_zero, List.set_cons_succ, i64_w, i32_w]
                rfl
               refine pure_ (i := 8) (N := some 11) (v := ?_) (a' := ?_) #[true, true, true, true, true, true, true, true, true, true, false, false, false, true, false, false, false, false, true, false, false, false, false, true, false, false, false, false, true, false, false, false, false] rfl rfl (any_of HT_.out (by kernel_rfl)) (fun _ _ _ h => h) (Or.inl ⟨by rfl, ?_⟩) ?_ ?_
               rotate_left
               ·
                intro w'
                go_simp
                first | with_reducible rfl | (rw [if_neg (by have g1_ := of_eq_true c5b0; have g2_ := of_eq_true c9b0; simp only [ByteArray.size_append, ByteArray.size_extract, show (⟨#[89, 79, 82]⟩ : ByteArray).size = 3 from rfl, show (⟨#[87, 82, 83, 72, 84]⟩ : ByteArray).size = 5 from rfl, show (⟨#[46]⟩ : ByteArray).size = 1 from rfl] at *; omega)])
               rotate_left
               ·
                simp only [Act.put, List.setIfInBounds_toArray, List.set_cons_zero, List.set_cons_succ, i64_w, i32_w]
                rfl
               refine take_ (i := 10) (N := some 13) (v := ?_) (a' := ?_) #[true, true, true, true, true, true, true, true, true, true, true, false, false, true, false, false, false, false, true, false, false, false, false, true, false, false, false, false, true, false, false, false, false] rfl rfl (take_ofW HT_.out HW_.out (by kernel_rfl)) (fun _ _ _ h => h) (Or.inl ⟨by rfl, ?_⟩) hHeld ?_ ?_
               rotate_left
               ·
                rintro w' ⟨s0, s1, s2, s3, s4, s5⟩
                go_simp
                first | with_reducible rfl | (rw [if_neg (by have g1_ := of_eq_true c5b0; have g2_ := of_eq_true c9b0; simp only [ByteArray.size_append, ByteArray.size_extract, show (⟨#[89, 79, 82]⟩ : ByteArray).size = 3 from rfl, show (⟨#[87, 82, 83, 72, 84]⟩ : ByteArray).size = 5 from rfl, show (⟨#[46]⟩ : ByteArray).size = 1 from rfl] at *; omega)])
               rotate_left
               ·
                simp only [Act.put, List.setIfInBounds_toArray, List.set_cons_zero, List.set_cons_succ, i64_w, i32_w]
                rfl
               refine pure_ (i := 11) (N := some 14) (v := ?_) (a' := ?_) #[true, true, true, true, true, true, true, true, true, true, true, true, false, true, false, false, false, false, true, false, false, false, false, true, false, false, false, false, true, false, false, false, false] rfl rfl (any_of HT_.out (by kernel_rfl)) (fun _ _ _ h => h) (Or.inl ⟨by rfl, ?_⟩) ?_ ?_
               rotate_left
               ·
                intro w'
                go_simp
                first | with_reducible rfl | (rw [if_neg (by have g1_ := of_eq_true c5b0; have g2_ := of_eq_true c9b0; simp only [ByteArray.size_append, ByteArray.size_extract, show (⟨#[89, 79, 82]⟩ : ByteArray).size = 3 from rfl, show (⟨#[87, 82, 83, 72, 84]⟩ : ByteArray).size = 5 from rfl, show (⟨#[46]⟩ : ByteArray).size = 1 from rfl] at *; omega)])
               rotate_left
               ·
                simp only [Act.put, List.setIfInBounds_toArray, List.set_cons_zero, List.set_cons_succ, i64_w, i32_w]
                rfl
               refine pure_ (i := 12) (N := some 15) (v := ?_) (a' := ?_) #[true, true, true, true, true, true, true, true, true, true, true, true, true, true, false, false, false, false, true, false, false, false, false, true, false, false, false, false, true, false, false, false, false] rfl rfl (any_of HT_.out (by kernel_rfl)) (fun _ _ _ h => h) (Or.inl ⟨by rfl, ?_⟩) ?_ ?_
               rotate_left
               ·
                intro w'
                go_simp
                first | with_reducible rfl | (rw [if_neg (by have g1_ := of_eq_true c5b0; have g2_ := of_eq_true c9b0; simp only [ByteArray.size_append, ByteArray.size_extract, show (⟨#[89, 79, 82]⟩ : ByteArray).size = 3 from rfl, show (⟨#[87, 82, 83, 72, 84]⟩ : ByteArray).size = 5 from rfl, show (⟨#[46]⟩ : ByteArray).size = 1 from rfl] at *; omega)])
               rotate_left
               ·
                simp only [Act.put, List.setIfInBounds_toArray, List.set_cons_zero, List.set_cons_succ, i64_w, i32_w]
                rfl
               refine take_ (i := 14) (N := some 17) (v := ?_) (a' := ?_) #[true, true, true, true, true, true, true, true, true, true, true, true, true, true, true, false, false, false, true, false, false, false, false, true, false, false, false, false, true, false, false, false, false] rfl rfl (take_ofW HT_.out HW_.out (by kernel_rfl)) (fun _ _ _ h => h) (Or.inl ⟨by rfl, ?_⟩) hHeld ?_ ?_
               rotate_left
               ·
                rintro w' ⟨s0, s1, s2, s3, s4, s5⟩
                go_simp
                first | with_reducible rfl | (rw [if_neg (by have g1_ := of_eq_true c5b0; have g2_ := of_eq_true c9b0; simp only [ByteArray.size_append, ByteArray.size_extract, show (⟨#[89, 79, 82]⟩ : ByteArray).size = 3 from rfl, show (⟨#[87, 82, 83, 72, 84]⟩ : ByteArray).size = 5 from rfl, show (⟨#[46]⟩ : ByteArray).size = 1 from rfl] at *; omega)])
               rotate_left
               ·
                simp only [Act.put, List.setIfInBounds_toArray, List.set_cons_zero, List.set_cons_succ, i64_w, i32_w]
                rfl
               refine take_ (i := 19) (N := some 22) (v := ?_) (a' := ?_) #[true, true, true, true, true, true, true, true, true, true, true, true, true, true, true, false, false, false, true, true, false, false, false, true, false, false, false, false, true, false, false, false, false] rfl rfl (take_ofW HT_.out HW_.out (by kernel_rfl)) (fun _ _ _ h => h) (Or.inl ⟨by rfl, ?_⟩) hHeld ?_ ?_
               rotate_left
               ·
                rintro w' ⟨s0, s1, s2, s3, s4, s5⟩
                go_simp
                first | with_reducible rfl | (rw [if_neg (by have g1_ := of_eq_true c5b0; have g2_ := of_eq_true c9b0; simp only [ByteArray.size_append, ByteArray.size_extract, show (⟨#[89, 79, 82]⟩ : ByteArray).size = 3 from rfl, show (⟨#[87, 82, 83, 72, 84]⟩ : ByteArray).size = 5 from rfl, show (⟨#[46]⟩ : ByteArray).size = 1 from rfl] at *; omega)])
               rotate_left
               ·
                simp only [Act.put, List.setIfInBounds_toArray, List.set_cons_zero, List.set_cons_succ, i64_w, i32_w]
                rfl
               refine take_ (i := 24) (N := some 27) (v := ?_) (a' := ?_) #[true, true, true, true, true, true, true, true, true, true, true, true, true, true, true, false, false, false, true, true, false, false, false, true, true, false, false, false, true, false, false, false, false] rfl rfl (take_ofW HT_.out HW_.out (by kernel_rfl)) (fun _ _ _ h => h) (Or.inl ⟨by rfl, ?_⟩) hHeld ?_ ?_
               rotate_left
               ·
                rintro w' ⟨s0, s1, s2, s3, s4, s5⟩
                go_simp
                first | with_reducible rfl | (rw [if_neg (by have g1_ := of_eq_true c5b0; have g2_ := of_eq_true c9b0; simp only [ByteArray.size_append, ByteArray.size_extract, show (⟨#[89, 79, 82]⟩ : ByteArray).size = 3 from rfl, show (⟨#[87, 82, 83, 72, 84]⟩ : ByteArray).size = 5 from rfl, show (⟨#[46]⟩ : ByteArray).size = 1 from rfl] at *; omega)])
               rotate_left
               ·
                simp only [Act.put, List.setIfInBounds_toArray, List.set_cons_zero, List.set_cons_succ, i64_w, i32_w]
                rfl
               refine take_ (i := 29) (N := some 32) (v := ?_) (a' := ?_) #[true, true, true, true, true, true, true, true, true, true, true, true, true, true, true, false, false, false, true, true, false, false, false, true, true, false, false, false, true, true, false, false, false] rfl rfl (take_ofW HT_.out HW_.out (by kernel_rfl)) (fun _ _ _ h => h) (Or.inl ⟨by rfl, ?_⟩) hHeld ?_ ?_
               rotate_left
               ·
                rintro w' ⟨s0, s1, s2, s3, s4, s5⟩
                go_simp
                first | with_reducible rfl | (rw [if_neg (by have g1_ := of_eq_true c5b0; have g2_ := of_eq_true c9b0; simp only [ByteArray.size_append, ByteArray.size_extract, show (⟨#[89, 79, 82]⟩ : ByteArray).size = 3 from rfl, show (⟨#[87, 82, 83, 72, 84]⟩ : ByteArray).size = 5 from rfl, show (⟨#[46]⟩ : ByteArray).size = 1 from rfl] at *; omega)])
               rotate_left
               ·
                simp only [Act.put, List.setIfInBounds_toArray, List.set_cons_zero, List.set_cons_succ, i64_w, i32_w]
                rfl
               refine one_ (i := 15) (N := some 18) #[true, true, true, true, true, true, true, true, true, true, true, true, true, true, true, true, false, false, true, true, false, false, false, true, true, false, false, false, true, true, false, false, false] rfl rfl (one_of HT_.out (by kernel_rfl)) (by decide) (fun K hK => ?_)
               refine goes_ Tryd.func50 (by kernel_rfl) rfl #[.int .i64 a0_3] (by rfl) rfl rfl (by (try simp only [List.map_toArray, List.map_cons, List.map_nil]); first | done | rfl | (simp only [List.length_drop, List.length_take]; rfl)) ?_
               with_reducible refine (spec_l1Num.calls k a0_3 t273 _ A11.out).mono ?_
               rintro e w24 ⟨rfl, hb⟩
               refine ⟨_, rfl, ?_⟩
               have n0_ := Aside0.mk (blk_below (g := gb272) (o := .cells #[.int .i64 a0_0, .int .i64 a0_1, .int .i64 a0_2, .int .i64 a0_3, .int .i64 a0_4, .int .i64 a0_5] 23 (0, 0)) (by (with_reducible repeat (first | refine blk_drewN ?_ _ | refine blk_drew ?_ | refine blk_alloc ?_ _)); exact BK272.out) hb)
               have n1_ := Aside0.mk (below_step (by repeat (first | (with_reducible first | exact HB.out | apply below_alloc | apply pw_below_drewN | apply below_drew1 | refine below_set ?_ GE272.out) | exact HB.out)) hb)
               clear BK272
               clear HB
               have BK272 := n0_
               have HB := n1_
               clear n0_ n1_
               (try clear hb)
               (try clear hb2)
               (try clear hk)
               (try clear hi)
               refine hK.out _ _ ⟨(blk_cell BK272.out 0).trans rfl, (blk_cell BK272.out 1).trans rfl, (blk_cell BK272.out 2).trans rfl, (blk_cell BK272.out 3).trans rfl, (blk_cell BK272.out 4).trans rfl, (blk_cell BK272.out 5).trans rfl⟩ (fun hHeld => ?_)
               clear hK K
               refine norm_ (a' := ?_) ?_ ?_
               rotate_left
               ·
                show Act.put _ (some 18) _ = _
                simp only [Act.put, List.setIfInBounds_toArray, List.set_cons_zero, List.set_cons_succ, i64_w, i32_w]
                rfl
               refine pure_ (i := 16) (N := some 19) (v := ?_) (a' := ?_) #[true, true, true, true, true, true, true, true, true, true, true, true, true, true, true, true, true, false, true, true, false, false, false, true, true, false, false, false, true, true, false, false, false] rfl rfl (any_of HT_.out (by kernel_rfl)) (fun _ _ _ h => h) (Or.inl ⟨by rfl, ?_⟩) ?_ ?_
               rotate_left
               ·
                intro w'
                go_simp
                first | with_reducible rfl | (rw [if_neg (by have g1_ := of_eq_true c5b0; have g2_ := of_eq_true c9b0; simp only [ByteArray.size_append, ByteArray.size_extract, show (⟨#[89, 79, 82]⟩ : ByteArray).size = 3 from rfl, show (⟨#[87, 82, 83, 72, 84]⟩ : ByteArray).size = 5 from rfl, show (⟨#[46]⟩ : ByteArray).size = 1 from rfl] at *; omega)])
               rotate_left
               ·
                simp only [Act.put, List.setIfInBounds_toArray, List.set_cons_zero, List.set_cons_succ, i64_w, i32_w]
                rfl
               refine pure_ (i := 17) (N := some 20) (v := ?_) (a' := ?_) #[true, true, true, true, true, true, true, true, true, true, true, true, true, true, true, true, true, true, true, true, false, false, false, true, true, false, false, false, true, true, false, false, false] rfl rfl (any_of HT_.out (by kernel_rfl)) (fun _ _ _ h => h) (Or.inl ⟨by rfl, ?_⟩) ?_ ?_
               rotate_left
               ·
                intro w'
                go_simp
                first | with_reducible rfl | (rw [if_neg (by have g1_ := of_eq_true c5b0; have g2_ := of_eq_true c9b0; simp only [ByteArray.size_append, ByteArray.size_extract, show (⟨#[89, 79, 82]⟩ : ByteArray).size = 3 from rfl, show (⟨#[87, 82, 83, 72, 84]⟩ : ByteArray).size = 5 from rfl, show (⟨#[46]⟩ : ByteArray).size = 1 from rfl] at *; omega)])
               rotate_left
               ·
                simp only [Act.put, List.setIfInBounds_toArray, List.set_cons_zero, List.set_cons_succ, i64_w, i32_w]
                rfl
               refine one_ (i := 20) (N := some 23) #[true, true, true, true, true, true, true, true, true, true, true, true, true, true, true, true, true, true, true, true, true, false, false, true, true, false, false, false, true, true, false, false, false] rfl rfl (one_of HT_.out (by kernel_rfl)) (by decide) (fun K hK => ?_)
               refine goes_ Tryd.func50 (by kernel_rfl) rfl #[.int .i64 a0_4] (by rfl) rfl rfl (by (try simp only [List.map_toArray, List.map_cons, List.map_nil]); first | done | rfl | (simp only [List.length_drop, List.length_take]; rfl)) ?_
               with_reducible refine (spec_l1Num.calls k a0_4 t274 _ A14.out).mono ?_
               rintro e w25 ⟨rfl, hb⟩
               refine ⟨_, rfl, ?_⟩
               have n0_ := Aside0.mk (blk_below (g := gb272) (o := .cells #[.int .i64 a0_0, .int .i64 a0_1, .int .i64 a0_2, .int .i64 a0_3, .int .i64 a0_4, .int .i64 a0_5] 23 (0, 0)) (by (with_reducible repeat (first | refine blk_drewN ?_ _ | refine blk_drew ?_ | refine blk_alloc ?_ _)); exact BK272.out) hb)
               have n1_ := Aside0.mk (below_step (by repeat (first | (with_reducible first | exact HB.out | apply below_alloc | apply pw_below_drewN | apply below_drew1 | refine below_set ?_ GE272.out) | exact HB.out)) hb)
               clear BK272
               clear HB
               have BK272 := n0_
               have HB := n1_
               clear n0_ n1_
               (try clear hb)
               (try clear hb2)
               (try clear hk)
               (try clear hi)
               refine hK.out _ _ ⟨(blk_cell BK272.out 0).trans rfl, (blk_cell BK272.out 1).trans rfl, (blk_cell BK272.out 2).trans rfl, (blk_cell BK272.out 3).trans rfl, (blk_cell BK272.out 4).trans rfl, (blk_cell BK272.out 5).trans rfl⟩ (fun hHeld => ?_)
               clear hK K
               refine norm_ (a' := ?_) ?_ ?_
               rotate_left
               ·
                show Act.put _ (some 23) _ = _
                simp only [Act.put, List.setIfInBounds_toArray, List.set_cons_zero, List.set_cons_succ, i64_w, i32_w]
                rfl
               refine pure_ (i := 21) (N := some 24) (v := ?_) (a' := ?_) #[true, true, true, true, true, true, true, true, true, true, true, true, true, true, true, true, true, true, true, true, true, true, false, true, true, false, false, false, true, true, false, false, false] rfl rfl (any_of HT_.out (by kernel_rfl)) (fun _ _ _ h => h) (Or.inl ⟨by rfl, ?_⟩) ?_ ?_
               rotate_left
               ·
                intro w'
                go_simp
                first | with_reducible rfl | (rw [if_neg (by have g1_ := of_eq_true c5b0; have g2_ := of_eq_true c9b0; simp only [ByteArray.size_append, ByteArray.size_extract, show (⟨#[89, 79, 82]⟩ : ByteArray).size = 3 from rfl, show (⟨#[87, 82, 83, 72, 84]⟩ : ByteArray).size = 5 from rfl, show (⟨#[46]⟩ : ByteArray).size = 1 from rfl] at *; omega)])
               rotate_left
               ·
                simp only [Act.put, List.setIfInBounds_toArray, List.set_cons_zero, List.set_cons_succ, i64_w, i32_w]
                rfl
               refine pure_ (i := 22) (N := some 25) (v := ?_) (a' := ?_) #[true, true, true, true, true, true, true, true, true, true, true, true, true, true, true, true, true, true, true, true, true, true, true, true, true, false, false, false, true, true, false, false, false] rfl rfl (any_of HT_.out (by kernel_rfl)) (fun _ _ _ h => h) (Or.inl ⟨by rfl, ?_⟩) ?_ ?_
               rotate_left
               ·
                intro w'
                go_simp
                first | with_reducible rfl | (rw [if_neg (by have g1_ := of_eq_true c5b0; have g2_ := of_eq_true c9b0; simp only [ByteArray.size_append, ByteArray.size_extract, show (⟨#[89, 79, 82]⟩ : ByteArray).size = 3 from rfl, show (⟨#[87, 82, 83, 72, 84]⟩ : ByteArray).size = 5 from rfl, show (⟨#[46]⟩ : ByteArray).size = 1 from rfl] at *; omega)])
               rotate_left
               ·
                simp only [Act.put, List.setIfInBounds_toArray, List.set_cons_zero, List.set_cons_succ, i64_w, i32_w]
                rfl
               refine one_ (i := 25) (N := some 28) #[true, true, true, true, true, true, true, true, true, true, true, true, true, true, true, true, true, true, true, true, true, true, true, true, true, true, false, false, true, true, false, false, false] rfl rfl (one_of HT_.out (by kernel_rfl)) (by decide) (fun K hK => ?_)
               refine goes_ Tryd.func50 (by kernel_rfl) rfl #[.int .i64 a0_5] (by rfl) rfl rfl (by (try simp only [List.map_toArray, List.map_cons, List.map_nil]); first | done | rfl | (simp only [List.length_drop, List.length_take]; rfl)) ?_
               with_reducible refine (spec_l1Num.calls k a0_5 t275 _ A17.out).mono ?_
               rintro e w26 ⟨rfl, hb⟩
               refine ⟨_, rfl, ?_⟩
               have n0_ := Aside0.mk (blk_below (g := gb272) (o := .cells #[.int .i64 a0_0, .int .i64 a0_1, .int .i64 a0_2, .int .i64 a0_3, .int .i64 a0_4, .int .i64 a0_5] 23 (0, 0)) (by (with_reducible repeat (first | refine blk_drewN ?_ _ | refine blk_drew ?_ | refine blk_alloc ?_ _)); exact BK272.out) hb)
               have n1_ := Aside0.mk (below_step (by repeat (first | (with_reducible first | exact HB.out | apply below_alloc | apply pw_below_drewN | apply below_drew1 | refine below_set ?_ GE272.out) | exact HB.out)) hb)
               clear BK272
               clear HB
               have BK272 := n0_
               have HB := n1_
               clear n0_ n1_
               (try clear hb)
               (try clear hb2)
               (try clear hk)
               (try clear hi)
               refine hK.out _ _ ⟨(blk_cell BK272.out 0).trans rfl, (blk_cell BK272.out 1).trans rfl, (blk_cell BK272.out 2).trans rfl, (blk_cell BK272.out 3).trans rfl, (blk_cell BK272.out 4).trans rfl, (blk_cell BK272.out 5).trans rfl⟩ (fun hHeld => ?_)
               clear hK K
               refine norm_ (a' := ?_) ?_ ?_
               rotate_left
               ·
                show Act.put _ (some 28) _ = _
                simp only [Act.put, List.setIfInBounds_toArray, List.set_cons_zero, List.set_cons_succ, i64_w, i32_w]
                rfl
               refine pure_ (i := 26) (N := some 29) (v := ?_) (a' := ?_) #[true, true, true, true, true, true, true, true, true, true, true, true, true, true, true, true, true, true, true, true, true, true, true, true, true, true, true, false, true, true, false, false, false] rfl rfl (any_of HT_.out (by kernel_rfl)) (fun _ _ _ h => h) (Or.inl ⟨by rfl, ?_⟩) ?_ ?_
               rotate_left
               ·
                intro w'
                go_simp
                first | with_reducible rfl | (rw [if_neg (by have g1_ := of_eq_true c5b0; have g2_ := of_eq_true c9b0; simp only [ByteArray.size_append, ByteArray.size_extract, show (⟨#[89, 79, 82]⟩ : ByteArray).size = 3 from rfl, show (⟨#[87, 82, 83, 72, 84]⟩ : ByteArray).size = 5 from rfl, show (⟨#[46]⟩ : ByteArray).size = 1 from rfl] at *; omega)])
               rotate_left
               ·
                simp only [Act.put, List.setIfInBounds_toArray, List.set_cons_zero, List.set_cons_succ, i64_w, i32_w]
                rfl
               refine pure_ (i := 27) (N := some 30) (v := ?_) (a' := ?_) #[true, true, true, true, true, true, true, true, true, true, true, true, true, true, true, true, true, true, true, true, true, true, true, true, true, true, true, true, true, true, false, false, false] rfl rfl (any_of HT_.out (by kernel_rfl)) (fun _ _ _ h => h) (Or.inl ⟨by rfl, ?_⟩) ?_ ?_
               rotate_left
               ·
                intro w'
                go_simp
                first | with_reducible rfl | (rw [if_neg (by have g1_ := of_eq_true c5b0; have g2_ := of_eq_true c9b0; simp only [ByteArray.size_append, ByteArray.size_extract, show (⟨#[89, 79, 82]⟩ : ByteArray).size = 3 from rfl, show (⟨#[87, 82, 83, 72, 84]⟩ : ByteArray).size = 5 from rfl, show (⟨#[46]⟩ : ByteArray).size = 1 from rfl] at *; omega)])
               rotate_left
               ·
                simp only [Act.put, List.setIfInBounds_toArray, List.set_cons_zero, List.set_cons_succ, i64_w, i32_w]
                rfl
               refine one_ (i := 30) (N := some 33) #[true, true, true, true, true, true, true, true, true, true, true, true, true, true, true, true, true, true, true, true, true, true, true, true, true, true, true, true, true, true, true, false, false] rfl rfl (one_of HT_.out (by kernel_rfl)) (by decide) (fun K hK => ?_)
               refine goes_ Tryd.func50 (by kernel_rfl) rfl #[.int .i64 a0_0] (by rfl) rfl rfl (by (try simp only [List.map_toArray, List.map_cons, List.map_nil]); first | done | rfl | (simp only [List.length_drop, List.length_take]; rfl)) ?_
               with_reducible refine (spec_l1Num.calls k a0_0 t276 _ A20.out).mono ?_
               rintro e w27 ⟨rfl, hb⟩
               refine ⟨_, rfl, ?_⟩
               have n0_ := Aside0.mk (blk_below (g := gb272) (o := .cells #[.int .i64 a0_0, .int .i64 a0_1, .int .i64 a0_2, .int .i64 a0_3, .int .i64 a0_4, .int .i64 a0_5] 23 (0, 0)) (by (with_reducible repeat (first | refine blk_drewN ?_ _ | refine blk_drew ?_ | refine blk_alloc ?_ _)); exact BK272.out) hb)
               have n1_ := Aside0.mk (below_step (by repeat (first | (with_reducible first | exact HB.out | apply below_alloc | apply pw_below_drewN | apply below_drew1 | refine below_set ?_ GE272.out) | exact HB.out)) hb)
               clear BK272
               clear HB
               have BK272 := n0_
               have HB := n1_
               clear n0_ n1_
               (try clear hb)
               (try clear hb2)
               (try clear hk)
               (try clear hi)
               refine hK.out _ _ ⟨(blk_cell BK272.out 0).trans rfl, (blk_cell BK272.out 1).trans rfl, (blk_cell BK272.out 2).trans rfl, (blk_cell BK272.out 3).trans rfl, (blk_cell BK272.out 4).trans rfl, (blk_cell BK272.out 5).trans rfl⟩ (fun hHeld => ?_)
               clear hK K
               refine norm_ (a' := ?_) ?_ ?_
               rotate_left
               ·
                show Act.put _ (some 33) _ = _
                simp only [Act.put, List.setIfInBounds_toArray, List.set_cons_zero, List.set_cons_succ, i64_w, i32_w]
                rfl
               refine pure_ (i := 31) (N := some 34) (v := ?_) (a' := ?_) #[true, true, true, true, true, true, true, true, true, true, true, true, true, true, true, true, true, true, true, true, true, true, true, true, true, true, true, true, true, true, true, true, false] rfl rfl (any_of HT_.out (by kernel_rfl)) (fun _ _ _ h => h) (Or.inl ⟨by rfl, ?_⟩) ?_ ?_
               rotate_left
               ·
                intro w'
                go_simp
                first | with_reducible rfl | (rw [if_neg (by have g1_ := of_eq_true c5b0; have g2_ := of_eq_true c9b0; simp only [ByteArray.size_append, ByteArray.size_extract, show (⟨#[89, 79, 82]⟩ : ByteArray).size = 3 from rfl, show (⟨#[87, 82, 83, 72, 84]⟩ : ByteArray).size = 5 from rfl, show (⟨#[46]⟩ : ByteArray).size = 1 from rfl] at *; omega)])
               rotate_left
               ·
                simp only [Act.put, List.setIfInBounds_toArray, List.set_cons_zero, List.set_cons_succ, i64_w, i32_w]
                rfl
               refine pure_ (i := 32) (N := some 2) (v := ?_) (a' := ?_) #[true, true, true, true, true, true, true, true, true, true, true, true, true, true, true, true, true, true, true, true, true, true, true, true, true, true, true, true, true, true, true, true, true] rfl rfl (any_of HT_.out (by kernel_rfl)) (fun _ _ _ h => h) (Or.inl ⟨by rfl, ?_⟩) ?_ ?_
               rotate_left
               ·
                intro w'
                go_simp
                first | with_reducible rfl | (rw [if_neg (by have g1_ := of_eq_true c5b0; have g2_ := of_eq_true c9b0; simp only [ByteArray.size_append, ByteArray.size_extract, show (⟨#[89, 79, 82]⟩ : ByteArray).size = 3 from rfl, show (⟨#[87, 82, 83, 72, 84]⟩ : ByteArray).size = 5 from rfl, show (⟨#[46]⟩ : ByteArray).size = 1 from rfl] at *; omega)])
               rotate_left
               ·
                simp only [Act.put, List.setIfInBounds_toArray, List.set_cons_zero, List.set_cons_succ, i64_w, i32_w]
                rfl
               refine done_ (done_of HT_.out (by kernel_rfl)) ?_
               try go_wp2
               go_ret
               exact ⟨by first | rfl | (simp [errW_none, errW_some] <;> rfl) | (simp only [← hji2, ← hji6]; first | rfl | (simp [errW_none, errW_some] <;> rfl)) | (simp [*, errW_none, errW_some] <;> rfl), by repeat (first | (with_reducible first | exact HB.out | apply below_alloc | apply pw_below_drewN | apply below_drew1 | refine below_set ?_ GE272.out) | exact HB.out)⟩
              ·
               rw [if_neg c21] at H
               exact absurd H (by simp)
             ·
              rw [if_neg c19] at H
              exact absurd H (by simp)
            ·
             rw [if_neg c18] at H
             exact absurd H (by simp)
           ·
            rw [if_neg c16] at H
            exact absurd H (by simp)
          ·
           rw [if_neg c15] at H
           exact absurd H (by simp)
         ·
          rw [if_neg c13] at H
          exact absurd H (by simp)
        ·
         rw [if_neg c12] at H
         exact absurd H (by simp)
       ·
        rw [if_neg c10] at H
        exact absurd H (by simp)
      ·
       rw [if_neg c9] at H
       exact absurd H (by simp)
     ·
      rw [if_neg c8] at H
      exact absurd H (by simp)
    ·
     rw [if_neg c7] at H
     exact absurd H (by simp)
   ·
    rw [if_neg c5] at H
    exact absurd H (by simp)
  ·
   rw [if_neg c4] at H
   exact absurd H (by simp)
 ·
  rw [if_neg c3] at H
  exact absurd H (by simp)

end Go.Proofs.YtfmmpjfmdhdbmaaDoor.Q
