/- Texts of this claim, put together: walks of the program's functions, and plain facts. -/
import Derived.Test.YtfaihkhdbapjmaaZFnAffected
import Derived.Test.YtfaihkhdbapjmaaBFnAffected0
import Derived.Test.YtfaihkhdbapjmaaBFnAffected2
import Derived.Test.YtfaihkhdbapjmaaBFnAffected6
namespace Go.Proofs.Ytfaihkhdbapjmaa.Q
open Go.RowKit Go.Proofs.YtfaihkhdbapjmaaW.PrintWords Go.Proofs.YtfaihkhdbapjmaaW.PrintLast Go.Proofs.YtfaihkhdbapjmaaW.PrintMore
attribute [local go_sem] max2_int min2_int max_two min_two max_three min_three max_four min_four
set_option linter.unusedVariables false
set_option linter.unusedSimpArgs false
def cutV : Value → Nat → Value
 | .slice A _ c, k => .slice A k c
 | v, _ => v
@[go_sem] theorem cutV_slice (A : Option Addr) (n c k : Nat) : cutV (.slice A n c) k = .slice A k c := rfl
def spec_DrawAffectedAreas.f (k : Nat) (l0 : List Int) : Option (Int × Int × List Int × Int × Int × List Int × Int × Int) := (spec_l1Cur_anyAreaMap.f k l0 0 0).bind fun bt294 => ((spec_l1Cur_fieldOf.f k l0 bt294.2.2.2.1 bt294.2.2.2.2 bt294.1 bt294.2.1 bt294.2.2.1).bind fun bt302 => ((some (([0, 10, 20, 21, 9001] : List Int) : List Int)).bind fun y310 => ((spec_l1Cur_pick.f l0 bt302.2.2.2.1 bt302.2.2.2.2 12).bind fun bt313 => (if 0 ≤ (wrap64 (4 + (wrap64 (Int.tdiv bt313.1 11)))) then (if (wrap64 (4 + (wrap64 (Int.tdiv bt313.1 11)))) ≤ (y310.length : Int) then ((spec_l1Cur_among.f l0 bt313.2.1 bt313.2.2 (y310.take ((wrap64 (4 + (wrap64 (Int.tdiv bt313.1 11)))) : Int).toNat)).bind fun bt320 => ((some (([1, 33, 50, 51, 100, 0, 101] : List Int) : List Int)).bind fun y323 => ((spec_l1Cur_pick.f l0 bt320.2.1 bt320.2.2 24).bind fun bt326 => (if 0 ≤ (wrap64 (5 + (wrap64 (Int.tdiv bt326.1 11)))) then (if (wrap64 (5 + (wrap64 (Int.tdiv bt326.1 11)))) ≤ (y323.length : Int) then ((spec_l1Cur_among.f l0 bt326.2.1 bt326.2.2 (y323.take ((wrap64 (5 + (wrap64 (Int.tdiv bt326.1 11)))) : Int).toNat)).bind fun bt333 => (some (bt294.1, bt294.2.1, bt294.2.2.1, bt302.1, bt302.2.1, bt302.2.2.1, bt320.1, bt333.1))) else (none)) else (none))))) else (none)) else (none)))))
def spec_DrawAffectedAreas.T4 : Bool × List (List Nat × List Nat) := (true, [([], []), ([], []), ([], []), ([], []), ([], []), ([4], [4]), ([5], [5]), ([6], [6]), ([3, 7], [3, 7]), ([2, 8, 5], [2, 8]), ([], []), ([], []), ([], []), ([12, 9], [12]), ([13], [13]), ([14], [14]), ([11, 15], [11, 15]), ([10, 16, 13], [10, 16]), ([0, 17, 0], [0]), ([1, 18, 0, 1, 18], [1]), ([9, 19, 0, 1, 2, 3, 4, 5, 6, 7, 8, 9, 18, 19], [9]), ([17, 20, 0, 1, 2, 3, 4, 5, 6, 7, 8, 9, 10, 11, 12, 13, 14, 15, 16, 17, 18, 19, 20], [17])])
def spec_DrawAffectedAreas.B4 : List Nat := [0, 0, 0, 0, 0, 16, 48, 112, 248, 508, 0, 0, 0, 5116, 13308, 29692, 64508, 131068, 262141, 524287, 1048575, 2097151]
theorem spec_DrawAffectedAreas.tab4 : rtab .any (opsOf Try.f5 4) = spec_DrawAffectedAreas.T4 := by kernel_rfl
theorem spec_DrawAffectedAreas.bits4 : waitsOk spec_DrawAffectedAreas.T4.2 spec_DrawAffectedAreas.B4 = true := by kernel_rfl
set_option maxHeartbeats 8000000 in
set_option maxRecDepth 100000 in
theorem spec_DrawAffectedAreas.calls (k : Nat) (A0 : Option Addr) (c0 : Nat) (l0 : List Int) (r1 : Int) (r2 : Int) (r3 : List Int) (r4 : Int) (r5 : Int) (r6 : List Int) (r7 : Int) (r8 : Int) (w : World) (hr0 : Kd.C (Kd.int .u8) w A0 l0.length l0) (hc0 : l0.length ≤ c0) (h : spec_DrawAffectedAreas.f k l0 = some (r1, r2, r3, r4, r5, r6, r7, r8)) :
  Calls Try.prog 5 #[.slice A0 l0.length c0] w fun e w' => ∃ v2_ v5_ : Value, e = .returned (.tuple #[.agg #[.int .i64 r1, .int .i64 r2, v2_], .agg #[.int .i64 r4, .int .i64 r5, v5_], .int .i64 r7, .int .i64 r8]) ∧ Kd.R (Kd.int .i64) 3 w' w.heap.size (fun k_ => some k_ ≠ (v5_ : Value).ownBlock) v2_ r3 ∧ Kd.Q (Kd.int .i64) 3 w' w.heap.size (fun k_ => some k_ ≠ (v2_ : Value).ownBlock) v5_ r6 ∧ Below w.heap.size w w' := by
 have hu26 := Try.underlying26
 have hu27 := Try.underlying27
 have hu46 := Try.underlying46
 have HR0 := zm hr0
 have HC0 := zm hc0
 clear hr0 hc0
 have HB := zm (Below.refl w.heap.size w)
 have H : ((spec_l1Cur_anyAreaMap.f k l0 0 0).bind fun bt294 => ((spec_l1Cur_fieldOf.f k l0 bt294.2.2.2.1 bt294.2.2.2.2 bt294.1 bt294.2.1 bt294.2.2.1).bind fun bt302 => ((some (([0, 10, 20, 21, 9001] : List Int) : List Int)).bind fun y310 => ((spec_l1Cur_pick.f l0 bt302.2.2.2.1 bt302.2.2.2.2 12).bind fun bt313 => (if 0 ≤ (wrap64 (4 + (wrap64 (Int.tdiv bt313.1 11)))) then (if (wrap64 (4 + (wrap64 (Int.tdiv bt313.1 11)))) ≤ (y310.length : Int) then ((spec_l1Cur_among.f l0 bt313.2.1 bt313.2.2 (y310.take ((wrap64 (4 + (wrap64 (Int.tdiv bt313.1 11)))) : Int).toNat)).bind fun bt320 => ((some (([1, 33, 50, 51, 100, 0, 101] : List Int) : List Int)).bind fun y323 => ((spec_l1Cur_pick.f l0 bt320.2.1 bt320.2.2 24).bind fun bt326 => (if 0 ≤ (wrap64 (5 + (wrap64 (Int.tdiv bt326.1 11)))) then (if (wrap64 (5 + (wrap64 (Int.tdiv bt326.1 11)))) ≤ (y323.length : Int) then ((spec_l1Cur_among.f l0 bt326.2.1 bt326.2.2 (y323.take ((wrap64 (5 + (wrap64 (Int.tdiv bt326.1 11)))) : Int).toNat)).bind fun bt333 => (some (bt294.1, bt294.2.1, bt294.2.2.1, bt302.1, bt302.2.1, bt302.2.2.1, bt320.1, bt333.1))) else (none)) else (none))))) else (none)) else (none)))))) = some (r1, r2, r3, r4, r5, r6, r7, r8) := h
 clear h
 obtain ⟨⟨t294, t295, t296, t299, t300⟩, A20, H⟩ := zob H
 replace H : ((spec_l1Cur_fieldOf.f k l0 t299 t300 t294 t295 t296).bind fun bt302 => ((some (([0, 10, 20, 21, 9001] : List Int) : List Int)).bind fun y310 => ((spec_l1Cur_pick.f l0 bt302.2.2.2.1 bt302.2.2.2.2 12).bind fun bt313 => (if 0 ≤ (wrap64 (4 + (wrap64 (Int.tdiv bt313.1 11)))) then (if (wrap64 (4 + (wrap64 (Int.tdiv bt313.1 11)))) ≤ (y310.length : Int) then ((spec_l1Cur_among.f l0 bt313.2.1 bt313.2.2 (y310.take ((wrap64 (4 + (wrap64 (Int.tdiv bt313.1 11)))) : Int).toNat)).bind fun bt320 => ((some (([1, 33, 50, 51, 100, 0, 101] : List Int) : List Int)).bind fun y323 => ((spec_l1Cur_pick.f l0 bt320.2.1 bt320.2.2 24).bind fun bt326 => (if 0 ≤ (wrap64 (5 + (wrap64 (Int.tdiv bt326.1 11)))) then (if (wrap64 (5 + (wrap64 (Int.tdiv bt326.1 11)))) ≤ (y323.length : Int) then ((spec_l1Cur_among.f l0 bt326.2.1 bt326.2.2 (y323.take ((wrap64 (5 + (wrap64 (Int.tdiv bt326.1 11)))) : Int).toNat)).bind fun bt333 => (some (t294, t295, t296, bt302.1, bt302.2.1, bt302.2.2.1, bt320.1, bt333.1))) else (none)) else (none))))) else (none)) else (none))))) = some (r1, r2, r3, r4, r5, r6, r7, r8) := H
 have A2 := zm A20
 clear A20
 obtain ⟨⟨t302, t303, t304, t307, t308⟩, A30, H⟩ := zob H
 replace H : ((some (([0, 10, 20, 21, 9001] : List Int) : List Int)).bind fun y310 => ((spec_l1Cur_pick.f l0 t307 t308 12).bind fun bt313 => (if 0 ≤ (wrap64 (4 + (wrap64 (Int.tdiv bt313.1 11)))) then (if (wrap64 (4 + (wrap64 (Int.tdiv bt313.1 11)))) ≤ (y310.length : Int) then ((spec_l1Cur_among.f l0 bt313.2.1 bt313.2.2 (y310.take ((wrap64 (4 + (wrap64 (Int.tdiv bt313.1 11)))) : Int).toNat)).bind fun bt320 => ((some (([1, 33, 50, 51, 100, 0, 101] : List Int) : List Int)).bind fun y323 => ((spec_l1Cur_pick.f l0 bt320.2.1 bt320.2.2 24).bind fun bt326 => (if 0 ≤ (wrap64 (5 + (wrap64 (Int.tdiv bt326.1 11)))) then (if (wrap64 (5 + (wrap64 (Int.tdiv bt326.1 11)))) ≤ (y323.length : Int) then ((spec_l1Cur_among.f l0 bt326.2.1 bt326.2.2 (y323.take ((wrap64 (5 + (wrap64 (Int.tdiv bt326.1 11)))) : Int).toNat)).bind fun bt333 => (some (t294, t295, t296, t302, t303, t304, bt320.1, bt333.1))) else (none)) else (none))))) else (none)) else (none)))) = some (r1, r2, r3, r4, r5, r6, r7, r8) := H
 have A3 := zm A30
 clear A30
 obtain ⟨y310, hy310⟩ : ∃ y_ : List Int, y_ = (([0, 10, 20, 21, 9001] : List Int)) := ⟨_, rfl⟩
 replace H : ((spec_l1Cur_pick.f l0 t307 t308 12).bind fun bt313 => (if 0 ≤ (wrap64 (4 + (wrap64 (Int.tdiv bt313.1 11)))) then (if (wrap64 (4 + (wrap64 (Int.tdiv bt313.1 11)))) ≤ (y310.length : Int) then ((spec_l1Cur_among.f l0 bt313.2.1 bt313.2.2 (y310.take ((wrap64 (4 + (wrap64 (Int.tdiv bt313.1 11)))) : Int).toNat)).bind fun bt320 => ((some (([1, 33, 50, 51, 100, 0, 101] : List Int) : List Int)).bind fun y323 => ((spec_l1Cur_pick.f l0 bt320.2.1 bt320.2.2 24).bind fun bt326 => (if 0 ≤ (wrap64 (5 + (wrap64 (Int.tdiv bt326.1 11)))) then (if (wrap64 (5 + (wrap64 (Int.tdiv bt326.1 11)))) ≤ (y323.length : Int) then ((spec_l1Cur_among.f l0 bt326.2.1 bt326.2.2 (y323.take ((wrap64 (5 + (wrap64 (Int.tdiv bt326.1 11)))) : Int).toNat)).bind fun bt333 => (some (t294, t295, t296, t302, t303, t304, bt320.1, bt333.1))) else (none)) else (none))))) else (none)) else (none))) = some (r1, r2, r3, r4, r5, r6, r7, r8) := zqH hy310 H
 have Ny310 := zm hy310
 clear hy310
 obtain ⟨⟨t313, t314, t315⟩, A40, H⟩ := zob H
 replace H : (if 0 ≤ (wrap64 (4 + (wrap64 (Int.tdiv t313 11)))) then (if (wrap64 (4 + (wrap64 (Int.tdiv t313 11)))) ≤ (y310.length : Int) then ((spec_l1Cur_among.f l0 t314 t315 (y310.take ((wrap64 (4 + (wrap64 (Int.tdiv t313 11)))) : Int).toNat)).bind fun bt320 => ((some (([1, 33, 50, 51, 100, 0, 101] : List Int) : List Int)).bind fun y323 => ((spec_l1Cur_pick.f l0 bt320.2.1 bt320.2.2 24).bind fun bt326 => (if 0 ≤ (wrap64 (5 + (wrap64 (Int.tdiv bt326.1 11)))) then (if (wrap64 (5 + (wrap64 (Int.tdiv bt326.1 11)))) ≤ (y323.length : Int) then ((spec_l1Cur_among.f l0 bt326.2.1 bt326.2.2 (y323.take ((wrap64 (5 + (wrap64 (Int.tdiv bt326.1 11)))) : Int).toNat)).bind fun bt333 => (some (t294, t295, t296, t302, t303, t304, bt320.1, bt333.1))) else (none)) else (none))))) else (none)) else (none)) = some (r1, r2, r3, r4, r5, r6, r7, r8) := H
 have A4 := zm A40
 clear A40
 obtain ⟨ji5, hji5⟩ : ∃ j_ : Int, (wrap64 (4 + (wrap64 (Int.tdiv t313 11)))) = j_ := ⟨_, rfl⟩
 replace H : (if 0 ≤ (ji5) then (if (ji5) ≤ (y310.length : Int) then ((spec_l1Cur_among.f l0 t314 t315 (y310.take ((ji5) : Int).toNat)).bind fun bt320 => ((some (([1, 33, 50, 51, 100, 0, 101] : List Int) : List Int)).bind fun y323 => ((spec_l1Cur_pick.f l0 bt320.2.1 bt320.2.2 24).bind fun bt326 => (if 0 ≤ (wrap64 (5 + (wrap64 (Int.tdiv bt326.1 11)))) then (if (wrap64 (5 + (wrap64 (Int.tdiv bt326.1 11)))) ≤ (y323.length : Int) then ((spec_l1Cur_among.f l0 bt326.2.1 bt326.2.2 (y323.take ((wrap64 (5 + (wrap64 (Int.tdiv bt326.1 11)))) : Int).toNat)).bind fun bt333 => (some (t294, t295, t296, t302, t303, t304, bt320.1, bt333.1))) else (none)) else (none))))) else (none)) else (none)) = some (r1, r2, r3, r4, r5, r6, r7, r8) := by first | (rw [hji5] at H; exact H) | (simp only [hji5] at H ⊢; exact H)
 (try rw [hji5] at A2)
 (try rw [hji5] at A3)
 (try rw [hji5] at A4)
 have hji5w : (IntKind.i64.wrap (4 + (wrap64 (Int.tdiv t313 11)))) = ji5 := (i64_w _).trans hji5
 by_cases c6 : 0 ≤ (ji5)
 case neg =>
  rw [if_neg c6] at H
  exact absurd H (by simp)
 rw [if_pos c6] at H
 have c6b0 := eq_true c6
 have c6b1 : decide (0 ≤ (ji5)) = true := decide_eq_true c6
 clear c6
 by_cases c7 : (ji5) ≤ (y310.length : Int)
 case neg =>
  rw [if_neg c7] at H
  exact absurd H (by simp)
 rw [if_pos c7] at H
 have c7b0 := eq_true c7
 have c7b1 : decide ((ji5) ≤ (y310.length : Int)) = true := decide_eq_true c7
 clear c7
 obtain ⟨y316, hy316⟩ : ∃ y_ : List Int, y_ = (y310.take ((ji5) : Int).toNat) := ⟨_, rfl⟩
 replace H : ((spec_l1Cur_among.f l0 t314 t315 y316).bind fun bt320 => ((some (([1, 33, 50, 51, 100, 0, 101] : List Int) : List Int)).bind fun y323 => ((spec_l1Cur_pick.f l0 bt320.2.1 bt320.2.2 24).bind fun bt326 => (if 0 ≤ (wrap64 (5 + (wrap64 (Int.tdiv bt326.1 11)))) then (if (wrap64 (5 + (wrap64 (Int.tdiv bt326.1 11)))) ≤ (y323.length : Int) then ((spec_l1Cur_among.f l0 bt326.2.1 bt326.2.2 (y323.take ((wrap64 (5 + (wrap64 (Int.tdiv bt326.1 11)))) : Int).toNat)).bind fun bt333 => (some (t294, t295, t296, t302, t303, t304, bt320.1, bt333.1))) else (none)) else (none))))) = some (r1, r2, r3, r4, r5, r6, r7, r8) := zqH hy316 H
 have Ny316 := zm hy316
 clear hy316
 obtain ⟨⟨t320, t321, t322⟩, A80, H⟩ := zob H
 replace H : ((some (([1, 33, 50, 51, 100, 0, 101] : List Int) : List Int)).bind fun y323 => ((spec_l1Cur_pick.f l0 t321 t322 24).bind fun bt326 => (if 0 ≤ (wrap64 (5 + (wrap64 (Int.tdiv bt326.1 11)))) then (if (wrap64 (5 + (wrap64 (Int.tdiv bt326.1 11)))) ≤ (y323.length : Int) then ((spec_l1Cur_among.f l0 bt326.2.1 bt326.2.2 (y323.take ((wrap64 (5 + (wrap64 (Int.tdiv bt326.1 11)))) : Int).toNat)).bind fun bt333 => (some (t294, t295, t296, t302, t303, t304, t320, bt333.1))) else (none)) else (none)))) = some (r1, r2, r3, r4, r5, r6, r7, r8) := H
 have A8 := zm A80
 clear A80
 obtain ⟨y323, hy323⟩ : ∃ y_ : List Int, y_ = (([1, 33, 50, 51, 100, 0, 101] : List Int)) := ⟨_, rfl⟩
 replace H : ((spec_l1Cur_pick.f l0 t321 t322 24).bind fun bt326 => (if 0 ≤ (wrap64 (5 + (wrap64 (Int.tdiv bt326.1 11)))) then (if (wrap64 (5 + (wrap64 (Int.tdiv bt326.1 11)))) ≤ (y323.length : Int) then ((spec_l1Cur_among.f l0 bt326.2.1 bt326.2.2 (y323.take ((wrap64 (5 + (wrap64 (Int.tdiv bt326.1 11)))) : Int).toNat)).bind fun bt333 => (some (t294, t295, t296, t302, t303, t304, t320, bt333.1))) else (none)) else (none))) = some (r1, r2, r3, r4, r5, r6, r7, r8) := zqH hy323 H
 have Ny323 := zm hy323
 clear hy323
 obtain ⟨⟨t326, t327, t328⟩, A90, H⟩ := zob H
 replace H : (if 0 ≤ (wrap64 (5 + (wrap64 (Int.tdiv t326 11)))) then (if (wrap64 (5 + (wrap64 (Int.tdiv t326 11)))) ≤ (y323.length : Int) then ((spec_l1Cur_among.f l0 t327 t328 (y323.take ((wrap64 (5 + (wrap64 (Int.tdiv t326 11)))) : Int).toNat)).bind fun bt333 => (some (t294, t295, t296, t302, t303, t304, t320, bt333.1))) else (none)) else (none)) = some (r1, r2, r3, r4, r5, r6, r7, r8) := H
 have A9 := zm A90
 clear A90
 obtain ⟨ji10, hji10⟩ : ∃ j_ : Int, (wrap64 (5 + (wrap64 (Int.tdiv t326 11)))) = j_ := ⟨_, rfl⟩
 replace H : (if 0 ≤ (ji10) then (if (ji10) ≤ (y323.length : Int) then ((spec_l1Cur_among.f l0 t327 t328 (y323.take ((ji10) : Int).toNat)).bind fun bt333 => (some (t294, t295, t296, t302, t303, t304, t320, bt333.1))) else (none)) else (none)) = some (r1, r2, r3, r4, r5, r6, r7, r8) := by first | (rw [hji10] at H; exact H) | (simp only [hji10] at H ⊢; exact H)
 (try rw [hji10] at A2)
 (try rw [hji10] at A3)
 (try rw [hji10] at A4)
 (try rw [hji10] at A8)
 (try rw [hji10] at A9)
 have hji10w : (IntKind.i64.wrap (5 + (wrap64 (Int.tdiv t326 11)))) = ji10 := (i64_w _).trans hji10
 by_cases c11 : 0 ≤ (ji10)
 case neg =>
  rw [if_neg c11] at H
  exact absurd H (by simp)
 rw [if_pos c11] at H
 have c11b0 := eq_true c11
 have c11b1 : decide (0 ≤ (ji10)) = true := decide_eq_true c11
 clear c11
 by_cases c12 : (ji10) ≤ (y323.length : Int)
 case neg =>
  rw [if_neg c12] at H
  exact absurd H (by simp)
 rw [if_pos c12] at H
 have c12b0 := eq_true c12
 have c12b1 : decide ((ji10) ≤ (y323.length : Int)) = true := decide_eq_true c12
 clear c12
 obtain ⟨y329, hy329⟩ : ∃ y_ : List Int, y_ = (y323.take ((ji10) : Int).toNat) := ⟨_, rfl⟩
 replace H : ((spec_l1Cur_among.f l0 t327 t328 y329).bind fun bt333 => (some (t294, t295, t296, t302, t303, t304, t320, bt333.1))) = some (r1, r2, r3, r4, r5, r6, r7, r8) := zqH hy329 H
 have Ny329 := zm hy329
 clear hy329
 obtain ⟨⟨t333, t334, t335⟩, A130, H⟩ := zob H
 replace H : (some (t294, t295, t296, t302, t303, t304, t320, t333)) = some (r1, r2, r3, r4, r5, r6, r7, r8) := H
 have A13 := zm A130
 clear A130
 simp only [Option.some.injEq, Prod.mk.injEq] at H
 obtain ⟨rfl, rfl, rfl, rfl, rfl, rfl, rfl, rfl⟩ := H
 go_enter Try.func5, Try.ntmps5
 try go_wp2_with (first | ((with_reducible refine gate_dst (N := 2) rfl ?_); refine box_event ?hg (N := 2) ?hd (cs := #[.int .i64 0, .int .i64 0, .slice none 0 0]) (t := 26) ?hr ?_; (case hd => rfl); (case hg => rfl); (case hr => exact zqS); intro gb291 hg w14 hbox hb; have BK291 := zm (hbox); have GW291 := zm ((by rw [hg]; exact (zyi zq1) : w.heap.size ≤ gb291)); replace HB := zm (zyh zq1 hb); have GE291 := GW291; clear hb hbox hg) | ((with_reducible refine gate_dst (N := 3) rfl ?_); refine box_event ?hg (N := 3) ?hd (cs := #[.int .i64 0, .int .i64 0, .slice none 0 0]) (t := 27) ?hr ?_; (case hd => rfl); (case hg => rfl); (case hr => exact zqS); intro gb292 hg w15 hbox hb; have BK292 := zm (hbox); have GW292 := zm ((by rw [hg]; exact (zyi zq108) : w.heap.size ≤ gb292)); replace HB := zm (zyh zq108 hb); have GE292 := GW292; have NB291_292 := zm ((by rw [hg]; exact Nat.ne_of_lt (blk_lt (g := gb291) (o := zcA) (zqK BK291.out)) : gb291 ≠ gb292)); have NB292_291 := zm ((by rw [hg]; exact Nat.ne_of_gt (blk_lt (g := gb291) (o := zcA) (zqK BK291.out)) : gb292 ≠ gb291)); replace BK291 := zm (zyb (g := gb291) (o := zcA) (zqK BK291.out) hb); clear hb hbox hg) | ((with_reducible refine gate_dst (N := 11) rfl ?_); refine box_event ?hg (N := 11) ?hd (cs := #[.slice A0 l0.length c0, .int .i64 0, .int .u64 0]) (t := 46) ?hr ?_; (case hd => rfl); (case hg => rfl); (case hr => exact zqS); intro gb293 hg w16 hbox hb; have HI293 := zm ((show IsS46 w w16 gb293 l0 0 0 from ⟨_, _, hbox, (by rw [hg]; exact (zyi zq86) : w.heap.size ≤ gb293), HR0.out⟩)); have GW293 := zm ((by rw [hg]; exact (zyi zq86) : w.heap.size ≤ gb293)); replace HB := zm (zyh zq86 hb); have GE293 := GW293; have NB291_293 := zm ((by rw [hg]; exact Nat.ne_of_lt (blk_lt (g := gb291) (o := zcA) (zqK BK291.out)) : gb291 ≠ gb293)); have NB293_291 := zm ((by rw [hg]; exact Nat.ne_of_gt (blk_lt (g := gb291) (o := zcA) (zqK BK291.out)) : gb293 ≠ gb291)); replace BK291 := zm (zyb (g := gb291) (o := zcA) (zqK BK291.out) hb); have NB292_293 := zm ((by rw [hg]; exact Nat.ne_of_lt (blk_lt (g := gb292) (o := zcB) (zqK BK292.out)) : gb292 ≠ gb293)); have NB293_292 := zm ((by rw [hg]; exact Nat.ne_of_gt (blk_lt (g := gb292) (o := zcB) (zqK BK292.out)) : gb293 ≠ gb292)); replace BK292 := zm (zyb (g := gb292) (o := zcB) (zqK BK292.out) hb); clear hb hbox hg) | ((with_reducible refine zyg (f := 17) rfl ?_); refine goesL_ (some 13) rfl rfl Try.func17 (by kernel_rfl) rfl #[.pointer (some ⟨gb293, 0, none⟩)] rfl zq0 ?_; (with_reducible refine (spec_l1Cur_anyAreaMap.calls k gb293 l0 0 0 t294 t295 t296 t299 t300 w _ ?side1 ?side2 A2.out).mono ?_); (case side1 => repeat (first | (with_reducible first | exact HI293.out | apply zv1 | apply zv2 | apply zv3 | apply zv4 | apply zv5 | refine zv6 ?_ NB293_291.out _ | refine zv6 ?_ NB293_292.out _) | exact HI293.out)); (case side2 => repeat (first | (with_reducible first | exact HB.out | apply zya | apply zyp | apply zyr | refine zys ?_ (IsS46.ge HI293.out) | refine zys ?_ GE291.out | refine zys ?_ GE292.out) | exact HB.out)); rintro e w17 ⟨v297, rfl, ho0, hi, hb, hk⟩; refine ⟨_, rfl, ?_⟩; replace BK291 := zm (KeepBut.blk hk (g' := gb291) (o := zcA) (zqK BK291.out) NB291_293.out (by simp)); replace BK292 := zm (KeepBut.blk hk (g' := gb292) (o := zcB) (zqK BK292.out) NB292_293.out (by simp)); have HO298 := zm (Kd.R_lower ho0 (zyi zq74)); replace HB := zm (hb); replace HI293 := zm (hi); (try clear hb); (try clear hb2); (try clear hk); (try clear hi); (try clear ho0)) | ((with_reducible refine gate_dst (N := 7) rfl ?_); refine box_event ?hg (N := 7) ?hd (cs := #[.int .i64 0, .int .i64 0, .slice none 0 0]) (t := 26) ?hr ?_; (case hd => rfl); (case hg => rfl); (case hr => exact zqS); intro gb301 hg w18 hbox hb; replace HO298 := zm (Kd.R_below (zqR HO298.out) hb); have BK301 := zm (hbox); have GW301 := zm ((by rw [hg]; exact (zyi zq74) : w.heap.size ≤ gb301)); replace HB := zm (zyh zq74 hb); have GE301 := GW301; have NB291_301 := zm ((by rw [hg]; exact Nat.ne_of_lt (blk_lt (g := gb291) (o := zcA) (zqK BK291.out)) : gb291 ≠ gb301)); have NB301_291 := zm ((by rw [hg]; exact Nat.ne_of_gt (blk_lt (g := gb291) (o := zcA) (zqK BK291.out)) : gb301 ≠ gb291)); replace BK291 := zm (zyb (g := gb291) (o := zcA) (zqK BK291.out) hb); have NB292_301 := zm ((by rw [hg]; exact Nat.ne_of_lt (blk_lt (g := gb292) (o := zcB) (zqK BK292.out)) : gb292 ≠ gb301)); have NB301_292 := zm ((by rw [hg]; exact Nat.ne_of_gt (blk_lt (g := gb292) (o := zcB) (zqK BK292.out)) : gb301 ≠ gb292)); replace BK292 := zm (zyb (g := gb292) (o := zcB) (zqK BK292.out) hb); have NB293_301 := zm ((by rw [hg]; exact Nat.ne_of_lt (IsS46.lt (show IsS46 w _ gb293 l0 t299 t300 from by repeat (first | (with_reducible first | exact HI293.out | apply zv1 | apply zv2 | apply zv3 | apply zv4 | apply zv5 | refine zv6 ?_ NB293_291.out _ | refine zv6 ?_ NB293_292.out _) | exact HI293.out))) : gb293 ≠ gb301)); have NB301_293 := zm ((by rw [hg]; exact Nat.ne_of_gt (IsS46.lt (show IsS46 w _ gb293 l0 t299 t300 from by repeat (first | (with_reducible first | exact HI293.out | apply zv1 | apply zv2 | apply zv3 | apply zv4 | apply zv5 | refine zv6 ?_ NB293_291.out _ | refine zv6 ?_ NB293_292.out _) | exact HI293.out))) : gb301 ≠ gb293)); replace HI293 := zm (IsS46.below (by repeat (first | (with_reducible first | exact HI293.out | apply zv1 | apply zv2 | apply zv3 | apply zv4 | apply zv5 | refine zv6 ?_ NB293_291.out _ | refine zv6 ?_ NB293_292.out _) | exact HI293.out)) hb); clear hb hbox hg; have hnb19 := NB301_291.out; have hnc19 := NB291_301.out; have hnb20 := NB301_292.out; have hnc20 := NB292_301.out; have hnb21 := NB301_293.out; have hnc21 := NB293_301.out; have hcz22_0 := bz BK301.out 0 (.int .i64 0); have hcz22_1 := bz BK301.out 1 (.int .i64 0); have hcz22_2 := bz BK301.out 2 (.slice none 0 0); have hfz22_0 := zyF BK301.out 0; have hfz22_1 := zyF BK301.out 1; have hfz22_2 := zyF BK301.out 2; obtain ⟨Ao23, co23, eo23⟩ := Kd.R_slice HO298.out; subst eo23) | ((with_reducible refine zyg (f := 18) rfl ?_); refine goesL_ (some 16) rfl rfl Try.func18 (by kernel_rfl) rfl #[.pointer (some ⟨gb293, 0, none⟩), .agg #[.int .i64 t294, .int .i64 t295, .slice Ao23 t296.length co23]] rfl zq0 ?_; (with_reducible refine (spec_l1Cur_fieldOf.calls k gb293 l0 t299 t300 t294 t295 _ _ t296 t302 t303 t304 t307 t308 w _ ?side1 ?side2 ?side3 ?side4 ?side5 A3.out).mono ?_); (case side1 => repeat (first | (with_reducible first | exact HI293.out | apply zv1 | apply zv2 | apply zv3 | apply zv4 | apply zv5 | refine zv6 ?_ NB293_291.out _ | refine zv6 ?_ NB293_292.out _ | refine zv6 ?_ NB293_301.out _) | exact HI293.out)); (case side2 => repeat (first | (with_reducible first | exact HB.out | apply zya | apply zyp | apply zyr | refine zys ?_ (IsS46.ge HI293.out) | refine zys ?_ GE291.out | refine zys ?_ GE292.out | refine zys ?_ GE301.out) | exact HB.out)); (case side3 => refine (Kd.R_reads' (e := 3) (base := w.heap.size) (ok := fun k_ => True) (n := t296.length) (c := co23) ?_).2.2; exact zq61); (case side4 => exact (Kd.R_reads' HO298.out).2.1); (case side5 => intro ad e_ _ q_; have o_ := HO298.out; have ne_ := IsS46.own_ne (e := 3) HI293.out o_ (by decide); rw [e_] at ne_; exact ne_ (by simp [Value.ownBlock, q_])); rintro e w24 ⟨v305, rfl, ho0, hi, hb, hk⟩; refine ⟨_, rfl, ?_⟩; replace BK291 := zm (KeepBut.blk hk (g' := gb291) (o := zcA) (by (with_reducible repeat (first | apply zN | apply zD | apply zL)); refine zye ?_ NB291_301.out _; (with_reducible repeat (first | apply zN | apply zD | apply zL)); refine zye ?_ NB291_301.out _; (with_reducible repeat (first | apply zN | apply zD | apply zL)); refine zye ?_ NB291_301.out _; (with_reducible repeat (first | apply zN | apply zD | apply zL)); exact BK291.out) NB291_293.out (by simp)); replace BK292 := zm (KeepBut.blk hk (g' := gb292) (o := zcB) (by (with_reducible repeat (first | apply zN | apply zD | apply zL)); refine zye ?_ NB292_301.out _; (with_reducible repeat (first | apply zN | apply zD | apply zL)); refine zye ?_ NB292_301.out _; (with_reducible repeat (first | apply zN | apply zD | apply zL)); refine zye ?_ NB292_301.out _; (with_reducible repeat (first | apply zN | apply zD | apply zL)); exact BK292.out) NB292_293.out (by simp)); have HO306 := zm (Kd.Q_lower (Kd.Q_new' ho0 (Kd.R_lt zq61)) (zyi zq62)); replace HO298 := zm (Kd.R_mono (Kd.R_told (Kd.R_oldK (IsS46.apart (show IsS46 w _ gb293 l0 t299 t300 from by repeat (first | (with_reducible first | exact HI293.out | apply zv1 | apply zv2 | apply zv3 | apply zv4 | apply zv5 | refine zv6 ?_ NB293_291.out _ | refine zv6 ?_ NB293_292.out _ | refine zv6 ?_ NB293_301.out _) | exact HI293.out)) zq61 (by decide)) hk) (Kd.Q_base ho0)) (fun _ h_ => h_.1)); replace BK301 := zm (KeepBut.blk hk (g' := gb301) (o := .cells #[.int .i64 t294, .int .i64 t295, .slice Ao23 t296.length co23] 26 (0, 0)) (by (with_reducible repeat (first | apply zN | apply zD | apply zL)); refine blk_put (cs := #[.int .i64 t294, .int .i64 t295, .slice none 0 0]) ?_ 2 _ rfl; (with_reducible repeat (first | apply zN | apply zD | apply zL)); refine blk_put (cs := #[.int .i64 t294, .int .i64 0, .slice none 0 0]) ?_ 1 _ rfl; (with_reducible repeat (first | apply zN | apply zD | apply zL)); refine blk_put (cs := #[.int .i64 0, .int .i64 0, .slice none 0 0]) ?_ 0 _ rfl; (with_reducible repeat (first | apply zN | apply zD | apply zL)); exact BK301.out) NB301_293.out (by simp)); replace HB := zm (hb); replace HI293 := zm (hi); (try clear hb); (try clear hb2); (try clear hk); (try clear hi); (try clear ho0)) | ((with_reducible refine gate_dst (N := 8) rfl ?_); refine box_event ?hg (N := 8) ?hd (cs := #[.int .i64 0, .int .i64 0, .slice none 0 0]) (t := 27) ?hr ?_; (case hd => rfl); (case hg => rfl); (case hr => exact zqS); intro gb309 hg w25 hbox hb; replace HO298 := zm (Kd.R_below (zqR HO298.out) hb); replace HO306 := zm (Kd.Q_below zq11 hb); have BK309 := zm (hbox); have GW309 := zm ((by rw [hg]; exact (zyi zq62) : w.heap.size ≤ gb309)); replace HB := zm (zyh zq62 hb); have GE309 := GW309; have NB291_309 := zm ((by rw [hg]; exact Nat.ne_of_lt (blk_lt (g := gb291) (o := zcA) (zqK BK291.out)) : gb291 ≠ gb309)); have NB309_291 := zm ((by rw [hg]; exact Nat.ne_of_gt (blk_lt (g := gb291) (o := zcA) (zqK BK291.out)) : gb309 ≠ gb291)); replace BK291 := zm (zyb (g := gb291) (o := zcA) (zqK BK291.out) hb); have NB292_309 := zm ((by rw [hg]; exact Nat.ne_of_lt (blk_lt (g := gb292) (o := zcB) (zqK BK292.out)) : gb292 ≠ gb309)); have NB309_292 := zm ((by rw [hg]; exact Nat.ne_of_gt (blk_lt (g := gb292) (o := zcB) (zqK BK292.out)) : gb309 ≠ gb292)); replace BK292 := zm (zyb (g := gb292) (o := zcB) (zqK BK292.out) hb); have NB301_309 := zm ((by rw [hg]; exact Nat.ne_of_lt (blk_lt (g := gb301) (o := .cells #[.int .i64 t294, .int .i64 t295, .slice Ao23 t296.length co23] 26 (0, 0)) (zqK BK301.out)) : gb301 ≠ gb309)); have NB309_301 := zm ((by rw [hg]; exact Nat.ne_of_gt (blk_lt (g := gb301) (o := .cells #[.int .i64 t294, .int .i64 t295, .slice Ao23 t296.length co23] 26 (0, 0)) (zqK BK301.out)) : gb309 ≠ gb301)); replace BK301 := zm (zyb (g := gb301) (o := .cells #[.int .i64 t294, .int .i64 t295, .slice Ao23 t296.length co23] 26 (0, 0)) (zqK BK301.out) hb); have NB293_309 := zm ((by rw [hg]; exact Nat.ne_of_lt (IsS46.lt (show IsS46 w _ gb293 l0 t307 t308 from by repeat (first | (with_reducible first | exact HI293.out | apply zv1 | apply zv2 | apply zv3 | apply zv4 | apply zv5 | refine zv6 ?_ NB293_291.out _ | refine zv6 ?_ NB293_292.out _ | refine zv6 ?_ NB293_301.out _) | exact HI293.out))) : gb293 ≠ gb309)); have NB309_293 := zm ((by rw [hg]; exact Nat.ne_of_gt (IsS46.lt (show IsS46 w _ gb293 l0 t307 t308 from by repeat (first | (with_reducible first | exact HI293.out | apply zv1 | apply zv2 | apply zv3 | apply zv4 | apply zv5 | refine zv6 ?_ NB293_291.out _ | refine zv6 ?_ NB293_292.out _ | refine zv6 ?_ NB293_301.out _) | exact HI293.out))) : gb309 ≠ gb293)); replace HI293 := zm (IsS46.below (by repeat (first | (with_reducible first | exact HI293.out | apply zv1 | apply zv2 | apply zv3 | apply zv4 | apply zv5 | refine zv6 ?_ NB293_291.out _ | refine zv6 ?_ NB293_292.out _ | refine zv6 ?_ NB293_301.out _) | exact HI293.out)) hb); clear hb hbox hg; have hnb26 := NB309_291.out; have hnc26 := NB291_309.out; have hnb27 := NB309_292.out; have hnc27 := NB292_309.out; have hnb28 := NB309_301.out; have hnc28 := NB301_309.out; have hnb29 := NB309_293.out; have hnc29 := NB293_309.out; have hcz30_0 := bz BK309.out 0 (.int .i64 0); have hcz30_1 := bz BK309.out 1 (.int .i64 0); have hcz30_2 := bz BK309.out 2 (.slice none 0 0); have hfz30_0 := zyF BK309.out 0; have hfz30_1 := zyF BK309.out 1; have hfz30_2 := zyF BK309.out 2; obtain ⟨Ao31, co31, eo31, _⟩ := Kd.Q_slice HO306.out; subst eo31))
 have n0_ : Aside0 (Kd.R (Kd.int .i64) 3 (((w25.setCell ⟨gb309, 0, none⟩ (.int .i64 t302)).setCell ⟨gb309, 1, none⟩ (.int .i64 t303)).setCell ⟨gb309, 2, none⟩ (.slice Ao31 t304.length co31)) w.heap.size (fun k_ => some k_ ≠ (.slice Ao31 t304.length co31 : Value).ownBlock) (.slice Ao23 t296.length co23) t296) := ⟨by (with_reducible repeat (first | apply Kd.R_alloc | apply Kd.R_drewN | apply Kd.R_drew)); exact Kd.R_mono (Kd.R_far (p := ⟨gb309, 2, none⟩) (Kd.R_far (p := ⟨gb309, 1, none⟩) (Kd.R_far (p := ⟨gb309, 0, none⟩) (Kd.R_types HO298.out BK309.out (by decide)) (fun _ hk => hk.2) (.int .i64 t302)) (fun _ hk => hk.2) (.int .i64 t303)) (fun _ hk => hk.2) (.slice Ao31 t304.length co31)) (fun _ hk => hk.1.2)⟩
 have n1_ : Aside0 (Kd.Q (Kd.int .i64) 3 (((w25.setCell ⟨gb309, 0, none⟩ (.int .i64 t302)).setCell ⟨gb309, 1, none⟩ (.int .i64 t303)).setCell ⟨gb309, 2, none⟩ (.slice Ao31 t304.length co31)) w.heap.size (fun k_ => some k_ ≠ (.slice Ao23 t296.length co23 : Value).ownBlock) (.slice Ao31 t304.length co31) t304) := ⟨by (with_reducible repeat (first | apply Kd.Q_alloc | apply Kd.Q_drewN | apply Kd.Q_drew)); exact Kd.Q_mono (Kd.Q_far (p := ⟨gb309, 2, none⟩) (Kd.Q_far (p := ⟨gb309, 1, none⟩) (Kd.Q_far (p := ⟨gb309, 0, none⟩) (Kd.Q_types HO306.out BK309.out (by decide)) (fun _ hk => hk.2) (.int .i64 t302)) (fun _ hk => hk.2) (.int .i64 t303)) (fun _ hk => hk.2) (.slice Ao31 t304.length co31)) (fun _ hk => hk.1.2)⟩
 have n2_ : Aside0 ((((w25.setCell ⟨gb309, 0, none⟩ (.int .i64 t302)).setCell ⟨gb309, 1, none⟩ (.int .i64 t303)).setCell ⟨gb309, 2, none⟩ (.slice Ao31 t304.length co31)).heap[gb291]? = some (.cells #[.int .i64 0, .int .i64 0, .slice none 0 0] 26 (0, 0))) := ⟨by (with_reducible repeat (first | apply zN | apply zD | apply zL)); refine zye ?_ NB291_309.out _; (with_reducible repeat (first | apply zN | apply zD | apply zL)); refine zye ?_ NB291_309.out _; (with_reducible repeat (first | apply zN | apply zD | apply zL)); refine zye ?_ NB291_309.out _; (with_reducible repeat (first | apply zN | apply zD | apply zL)); exact BK291.out⟩
 have n3_ : Aside0 ((((w25.setCell ⟨gb309, 0, none⟩ (.int .i64 t302)).setCell ⟨gb309, 1, none⟩ (.int .i64 t303)).setCell ⟨gb309, 2, none⟩ (.slice Ao31 t304.length co31)).heap[gb292]? = some (.cells #[.int .i64 0, .int .i64 0, .slice none 0 0] 27 (0, 0))) := ⟨by (with_reducible repeat (first | apply zN | apply zD | apply zL)); refine zye ?_ NB292_309.out _; (with_reducible repeat (first | apply zN | apply zD | apply zL)); refine zye ?_ NB292_309.out _; (with_reducible repeat (first | apply zN | apply zD | apply zL)); refine zye ?_ NB292_309.out _; (with_reducible repeat (first | apply zN | apply zD | apply zL)); exact BK292.out⟩
 have n4_ : Aside0 ((((w25.setCell ⟨gb309, 0, none⟩ (.int .i64 t302)).setCell ⟨gb309, 1, none⟩ (.int .i64 t303)).setCell ⟨gb309, 2, none⟩ (.slice Ao31 t304.length co31)).heap[gb301]? = some (.cells #[.int .i64 t294, .int .i64 t295, .slice Ao23 t296.length co23] 26 (0, 0))) := ⟨by (with_reducible repeat (first | apply zN | apply zD | apply zL)); refine zye ?_ NB301_309.out _; (with_reducible repeat (first | apply zN | apply zD | apply zL)); refine zye ?_ NB301_309.out _; (with_reducible repeat (first | apply zN | apply zD | apply zL)); refine zye ?_ NB301_309.out _; (with_reducible repeat (first | apply zN | apply zD | apply zL)); exact BK301.out⟩
 have n5_ : Aside0 ((((w25.setCell ⟨gb309, 0, none⟩ (.int .i64 t302)).setCell ⟨gb309, 1, none⟩ (.int .i64 t303)).setCell ⟨gb309, 2, none⟩ (.slice Ao31 t304.length co31)).heap[gb309]? = some (.cells #[.int .i64 t302, .int .i64 t303, .slice Ao31 t304.length co31] 27 (0, 0))) := ⟨by (with_reducible repeat (first | apply zN | apply zD | apply zL)); refine blk_put (cs := #[.int .i64 t302, .int .i64 t303, .slice none 0 0]) ?_ 2 _ rfl; (with_reducible repeat (first | apply zN | apply zD | apply zL)); refine blk_put (cs := #[.int .i64 t302, .int .i64 0, .slice none 0 0]) ?_ 1 _ rfl; (with_reducible repeat (first | apply zN | apply zD | apply zL)); refine blk_put (cs := #[.int .i64 0, .int .i64 0, .slice none 0 0]) ?_ 0 _ rfl; (with_reducible repeat (first | apply zN | apply zD | apply zL)); exact BK309.out⟩
 have n6_ : Aside0 (IsS46 w (((w25.setCell ⟨gb309, 0, none⟩ (.int .i64 t302)).setCell ⟨gb309, 1, none⟩ (.int .i64 t303)).setCell ⟨gb309, 2, none⟩ (.slice Ao31 t304.length co31)) gb293 l0 t307 t308) := ⟨zq3⟩
 have n7_ : Aside0 (Below w.heap.size w (((w25.setCell ⟨gb309, 0, none⟩ (.int .i64 t302)).setCell ⟨gb309, 1, none⟩ (.int .i64 t303)).setCell ⟨gb309, 2, none⟩ (.slice Ao31 t304.length co31))) := ⟨zq2⟩
 (try clear HO298)
 (try clear HO306)
 (try clear BK291)
 (try clear BK292)
 (try clear BK301)
 (try clear BK309)
 (try clear HI293)
 (try clear HB)
 generalize (((w25.setCell ⟨gb309, 0, none⟩ (.int .i64 t302)).setCell ⟨gb309, 1, none⟩ (.int .i64 t303)).setCell ⟨gb309, 2, none⟩ (.slice Ao31 t304.length co31)) = w32 at n0_ n1_ n2_ n3_ n4_ n5_ n6_ n7_ ⊢
 have HO298 := n0_
 have HO306 := n1_
 have BK291 := n2_
 have BK292 := n3_
 have BK301 := n4_
 have BK309 := n5_
 have HI293 := n6_
 have HB := n7_
 clear n0_ n1_ n2_ n3_ n4_ n5_ n6_ n7_
 have n0_ := zm (Kd.R_drew HO298.out)
 have n1_ := zm (Kd.Q_drew HO306.out)
 have n2_ := zm (zD BK291.out)
 have n3_ := zm (zD BK292.out)
 have n4_ := zm (zD BK301.out)
 have n5_ := zm (zD BK309.out)
 have n6_ := zm (zv3 HI293.out)
 have n7_ := zm (zyr HB.out)
 clear HO298
 clear HO306
 clear BK291
 clear BK292
 clear BK301
 clear BK309
 clear HI293
 clear HB
 have HO298 := n0_
 have HO306 := n1_
 have BK291 := n2_
 have BK292 := n3_
 have BK301 := n4_
 have BK309 := n5_
 have HI293 := n6_
 have HB := n7_
 clear n0_ n1_ n2_ n3_ n4_ n5_ n6_ n7_
 refine start_ (n := 22) (S := fun w' => w'.cell? ⟨gb301, 0, none⟩ = some (.int .i64 t294) ∧ w'.cell? ⟨gb301, 1, none⟩ = some (.int .i64 t295) ∧ w'.cell? ⟨gb301, 2, none⟩ = some (.slice Ao23 t296.length co23) ∧ w'.cell? ⟨gb309, 0, none⟩ = some (.int .i64 t302) ∧ w'.cell? ⟨gb309, 1, none⟩ = some (.int .i64 t303) ∧ w'.cell? ⟨gb309, 2, none⟩ = some (.slice Ao31 t304.length co31)) (ds := []) #[zf, zf, zf, zf, zf, zf, zf, zf, zf, zf, zf, zf, zf, zf, zf, zf, zf, zf, zf, zf, zf, zf] (by kernel_rfl) rfl rfl ⟨(zyk BK301.out 0).trans rfl, (zyk BK301.out 1).trans rfl, (zyk BK301.out 2).trans rfl, (zyk BK309.out 0).trans rfl, (zyk BK309.out 1).trans rfl, (zyk BK309.out 2).trans rfl⟩ (fun hHeld => ?_); refine with_tabW spec_DrawAffectedAreas.tab4 spec_DrawAffectedAreas.bits4 (fun HT_ HW_ => ?_)
 generalize w32.drew = w33 at HO298 HO306 BK291 BK292 BK301 BK309 HI293 HB hHeld ⊢
 refine zP 2 (some 19) #[zf, zf, zt, zf, zf, zf, zf, zf, zf, zf, zf, zf, zf, zf, zf, zf, zf, zf, zf, zf, zf, zf] ?_ rfl rfl HT_ (Or.inl ⟨by rfl, ?_⟩) ?_ ?_ ?_
 rotate_left; · exact zqB
 rotate_left; · exact zqA
 refine zP 4 (some 21) #[zf, zf, zt, zf, zt, zf, zf, zf, zf, zf, zf, zf, zf, zf, zf, zf, zf, zf, zf, zf, zf, zf] ?_ rfl rfl HT_ (Or.inl ⟨by rfl, ?_⟩) ?_ ?_ ?_
 rotate_left; · exact zqB
 rotate_left; · exact zqA
 refine zP 10 (some 27) #[zf, zf, zt, zf, zt, zf, zf, zf, zf, zf, zt, zf, zf, zf, zf, zf, zf, zf, zf, zf, zf, zf] ?_ rfl rfl HT_ (Or.inl ⟨by rfl, ?_⟩) ?_ ?_ ?_
 rotate_left; · exact zqB
 rotate_left; · exact zqA
 refine zP 12 (some 29) #[zf, zf, zt, zf, zt, zf, zf, zf, zf, zf, zt, zf, zt, zf, zf, zf, zf, zf, zf, zf, zf, zf] ?_ rfl rfl HT_ (Or.inl ⟨by rfl, ?_⟩) ?_ ?_ ?_
 rotate_left; · exact zqB
 rotate_left; · exact zqA
 refine zT 0 (some 17) #[zt, zf, zt, zf, zt, zf, zf, zf, zf, zf, zt, zf, zt, zf, zf, zf, zf, zf, zf, zf, zf, zf] ?_ rfl rfl HT_ HW_ (Or.inl ⟨by rfl, ?_⟩) hHeld ?_ ?_ ?_
 rotate_left
 ·
  rintro w' ⟨s0, s1, s2, s3, s4, s5⟩
  go_simp
  with_reducible rfl
 rotate_left; · exact zqA
 refine zT 1 (some 18) #[zt, zt, zt, zf, zt, zf, zf, zf, zf, zf, zt, zf, zt, zf, zf, zf, zf, zf, zf, zf, zf, zf] ?_ rfl rfl HT_ HW_ (Or.inl ⟨by rfl, ?_⟩) hHeld ?_ ?_ ?_
 rotate_left
 ·
  rintro w' ⟨s0, s1, s2, s3, s4, s5⟩
  go_simp
  with_reducible rfl
 rotate_left; · exact zqA
 refine join_ (σ := Value × Value) 6 #[zt, zt, zt, zt, zt, zt, zt, zt, zt, zt, zt, zt, zt, zt, zt, zt, zf, zf, zf, zf, zf, zf] (fun s_ => [(20, s_.1), (22, .int .i64 t313), (26, .int .i64 t320), (28, s_.2), (30, .int .i64 t326), (23, .int .i64 (wrap64 (Int.tdiv t313 11))), (24, .int .i64 ji5), (25, cutV (s_.1) y316.length), (31, .int .i64 (wrap64 (Int.tdiv t326 11))), (32, .int .i64 ji10)]) (fun s_ w' => (w'.cell? ⟨gb301, 0, none⟩ = some (.int .i64 t294) ∧ w'.cell? ⟨gb301, 1, none⟩ = some (.int .i64 t295) ∧ w'.cell? ⟨gb301, 2, none⟩ = some (.slice Ao23 t296.length co23) ∧ w'.cell? ⟨gb309, 0, none⟩ = some (.int .i64 t302) ∧ w'.cell? ⟨gb309, 1, none⟩ = some (.int .i64 t303) ∧ w'.cell? ⟨gb309, 2, none⟩ = some (.slice Ao31 t304.length co31)) ∧ (Kd.R (Kd.int .i64) 3 w' w.heap.size (fun k_ => some k_ ≠ (.slice Ao31 t304.length co31 : Value).ownBlock ∧ some k_ ≠ (s_.1 : Value).ownBlock ∧ some k_ ≠ (s_.2 : Value).ownBlock) (.slice Ao23 t296.length co23) t296) ∧ (Kd.Q (Kd.int .i64) 3 w' w.heap.size (fun k_ => some k_ ≠ (.slice Ao23 t296.length co23 : Value).ownBlock ∧ some k_ ≠ (s_.1 : Value).ownBlock ∧ some k_ ≠ (s_.2 : Value).ownBlock) (.slice Ao31 t304.length co31) t304) ∧ (Kd.R (Kd.int .i64) 3 w' w.heap.size (fun k_ => some k_ ≠ (.slice Ao23 t296.length co23 : Value).ownBlock ∧ some k_ ≠ (.slice Ao31 t304.length co31 : Value).ownBlock ∧ some k_ ≠ (s_.2 : Value).ownBlock) s_.1 y310) ∧ (Kd.R (Kd.int .i64) 3 w' w.heap.size (fun k_ => some k_ ≠ (.slice Ao23 t296.length co23 : Value).ownBlock ∧ some k_ ≠ (.slice Ao31 t304.length co31 : Value).ownBlock ∧ some k_ ≠ (s_.1 : Value).ownBlock) s_.2 y323) ∧ (w'.heap[gb291]? = some (.cells #[.int .i64 0, .int .i64 0, .slice none 0 0] 26 (0, 0))) ∧ (w'.heap[gb292]? = some (.cells #[.int .i64 0, .int .i64 0, .slice none 0 0] 27 (0, 0))) ∧ (w'.heap[gb301]? = some (.cells #[.int .i64 t294, .int .i64 t295, .slice Ao23 t296.length co23] 26 (0, 0))) ∧ (w'.heap[gb309]? = some (.cells #[.int .i64 t302, .int .i64 t303, .slice Ao31 t304.length co31] 27 (0, 0))) ∧ (IsS46 w w' gb293 l0 t327 t328) ∧ (Below w.heap.size w w')) ?_ ?_
 rotate_left
 ·
  intro hJ3_5_9_11_13
  refine join_ (σ := Value × Value) 9 #[zt, zt, zt, zt, zt, zt, zt, zt, zt, zt, zt, zt, zt, zf, zf, zf, zf, zf, zf, zf, zf, zf] (fun s_ => [(20, s_.1), (22, .int .i64 t313), (26, .int .i64 t320), (28, s_.2), (23, .int .i64 (wrap64 (Int.tdiv t313 11))), (24, .int .i64 ji5), (25, cutV (s_.1) y316.length)]) (fun s_ w' => (w'.cell? ⟨gb301, 0, none⟩ = some (.int .i64 t294) ∧ w'.cell? ⟨gb301, 1, none⟩ = some (.int .i64 t295) ∧ w'.cell? ⟨gb301, 2, none⟩ = some (.slice Ao23 t296.length co23) ∧ w'.cell? ⟨gb309, 0, none⟩ = some (.int .i64 t302) ∧ w'.cell? ⟨gb309, 1, none⟩ = some (.int .i64 t303) ∧ w'.cell? ⟨gb309, 2, none⟩ = some (.slice Ao31 t304.length co31)) ∧ (Kd.R (Kd.int .i64) 3 w' w.heap.size (fun k_ => some k_ ≠ (.slice Ao31 t304.length co31 : Value).ownBlock ∧ some k_ ≠ (s_.1 : Value).ownBlock ∧ some k_ ≠ (s_.2 : Value).ownBlock) (.slice Ao23 t296.length co23) t296) ∧ (Kd.Q (Kd.int .i64) 3 w' w.heap.size (fun k_ => some k_ ≠ (.slice Ao23 t296.length co23 : Value).ownBlock ∧ some k_ ≠ (s_.1 : Value).ownBlock ∧ some k_ ≠ (s_.2 : Value).ownBlock) (.slice Ao31 t304.length co31) t304) ∧ (Kd.R (Kd.int .i64) 3 w' w.heap.size (fun k_ => some k_ ≠ (.slice Ao23 t296.length co23 : Value).ownBlock ∧ some k_ ≠ (.slice Ao31 t304.length co31 : Value).ownBlock ∧ some k_ ≠ (s_.2 : Value).ownBlock) s_.1 y310) ∧ (Kd.R (Kd.int .i64) 3 w' w.heap.size (fun k_ => some k_ ≠ (.slice Ao23 t296.length co23 : Value).ownBlock ∧ some k_ ≠ (.slice Ao31 t304.length co31 : Value).ownBlock ∧ some k_ ≠ (s_.1 : Value).ownBlock) s_.2 y323) ∧ (w'.heap[gb291]? = some (.cells #[.int .i64 0, .int .i64 0, .slice none 0 0] 26 (0, 0))) ∧ (w'.heap[gb292]? = some (.cells #[.int .i64 0, .int .i64 0, .slice none 0 0] 27 (0, 0))) ∧ (w'.heap[gb301]? = some (.cells #[.int .i64 t294, .int .i64 t295, .slice Ao23 t296.length co23] 26 (0, 0))) ∧ (w'.heap[gb309]? = some (.cells #[.int .i64 t302, .int .i64 t303, .slice Ao31 t304.length co31] 27 (0, 0))) ∧ (IsS46 w w' gb293 l0 t321 t322) ∧ (Below w.heap.size w w')) ?_ ?_
  rotate_left
  ·
   intro hJ3_5_9_11
   refine join_ (σ := Value) 7 #[zt, zt, zt, zt, zt, zt, zt, zt, zt, zt, zt, zf, zt, zt, zt, zt, zf, zf, zf, zf, zf, zf] (fun s_ => [(20, s_), (22, .int .i64 t313), (26, .int .i64 t320), (30, .int .i64 t326), (23, .int .i64 (wrap64 (Int.tdiv t313 11))), (24, .int .i64 ji5), (25, cutV (s_) y316.length), (31, .int .i64 (wrap64 (Int.tdiv t326 11))), (32, .int .i64 ji10)]) (fun s_ w' => (w'.cell? ⟨gb301, 0, none⟩ = some (.int .i64 t294) ∧ w'.cell? ⟨gb301, 1, none⟩ = some (.int .i64 t295) ∧ w'.cell? ⟨gb301, 2, none⟩ = some (.slice Ao23 t296.length co23) ∧ w'.cell? ⟨gb309, 0, none⟩ = some (.int .i64 t302) ∧ w'.cell? ⟨gb309, 1, none⟩ = some (.int .i64 t303) ∧ w'.cell? ⟨gb309, 2, none⟩ = some (.slice Ao31 t304.length co31)) ∧ (Kd.R (Kd.int .i64) 3 w' w.heap.size (fun k_ => some k_ ≠ (.slice Ao31 t304.length co31 : Value).ownBlock ∧ some k_ ≠ (s_ : Value).ownBlock) (.slice Ao23 t296.length co23) t296) ∧ (Kd.Q (Kd.int .i64) 3 w' w.heap.size (fun k_ => some k_ ≠ (.slice Ao23 t296.length co23 : Value).ownBlock ∧ some k_ ≠ (s_ : Value).ownBlock) (.slice Ao31 t304.length co31) t304) ∧ (Kd.R (Kd.int .i64) 3 w' w.heap.size (fun k_ => some k_ ≠ (.slice Ao23 t296.length co23 : Value).ownBlock ∧ some k_ ≠ (.slice Ao31 t304.length co31 : Value).ownBlock) s_ y310) ∧ (w'.heap[gb291]? = some (.cells #[.int .i64 0, .int .i64 0, .slice none 0 0] 26 (0, 0))) ∧ (w'.heap[gb292]? = some (.cells #[.int .i64 0, .int .i64 0, .slice none 0 0] 27 (0, 0))) ∧ (w'.heap[gb301]? = some (.cells #[.int .i64 t294, .int .i64 t295, .slice Ao23 t296.length co23] 26 (0, 0))) ∧ (w'.heap[gb309]? = some (.cells #[.int .i64 t302, .int .i64 t303, .slice Ao31 t304.length co31] 27 (0, 0))) ∧ (IsS46 w w' gb293 l0 t327 t328) ∧ (Below w.heap.size w w')) ?_ ?_
   rotate_left
   ·
    intro hJ3_5_9_13
    refine join_ (σ := Value) 10 #[zt, zt, zt, zt, zt, zt, zt, zt, zt, zt, zt, zf, zt, zf, zf, zf, zf, zf, zf, zf, zf, zf] (fun s_ => [(20, s_), (22, .int .i64 t313), (26, .int .i64 t320), (23, .int .i64 (wrap64 (Int.tdiv t313 11))), (24, .int .i64 ji5), (25, cutV (s_) y316.length)]) (fun s_ w' => (w'.cell? ⟨gb301, 0, none⟩ = some (.int .i64 t294) ∧ w'.cell? ⟨gb301, 1, none⟩ = some (.int .i64 t295) ∧ w'.cell? ⟨gb301, 2, none⟩ = some (.slice Ao23 t296.length co23) ∧ w'.cell? ⟨gb309, 0, none⟩ = some (.int .i64 t302) ∧ w'.cell? ⟨gb309, 1, none⟩ = some (.int .i64 t303) ∧ w'.cell? ⟨gb309, 2, none⟩ = some (.slice Ao31 t304.length co31)) ∧ (Kd.R (Kd.int .i64) 3 w' w.heap.size (fun k_ => some k_ ≠ (.slice Ao31 t304.length co31 : Value).ownBlock ∧ some k_ ≠ (s_ : Value).ownBlock) (.slice Ao23 t296.length co23) t296) ∧ (Kd.Q (Kd.int .i64) 3 w' w.heap.size (fun k_ => some k_ ≠ (.slice Ao23 t296.length co23 : Value).ownBlock ∧ some k_ ≠ (s_ : Value).ownBlock) (.slice Ao31 t304.length co31) t304) ∧ (Kd.R (Kd.int .i64) 3 w' w.heap.size (fun k_ => some k_ ≠ (.slice Ao23 t296.length co23 : Value).ownBlock ∧ some k_ ≠ (.slice Ao31 t304.length co31 : Value).ownBlock) s_ y310) ∧ (w'.heap[gb291]? = some (.cells #[.int .i64 0, .int .i64 0, .slice none 0 0] 26 (0, 0))) ∧ (w'.heap[gb292]? = some (.cells #[.int .i64 0, .int .i64 0, .slice none 0 0] 27 (0, 0))) ∧ (w'.heap[gb301]? = some (.cells #[.int .i64 t294, .int .i64 t295, .slice Ao23 t296.length co23] 26 (0, 0))) ∧ (w'.heap[gb309]? = some (.cells #[.int .i64 t302, .int .i64 t303, .slice Ao31 t304.length co31] 27 (0, 0))) ∧ (IsS46 w w' gb293 l0 t321 t322) ∧ (Below w.heap.size w w')) ?_ ?_
    rotate_left
    ·
     intro hJ3_5_9
     refine join_ (σ := Value × Value) 10 #[zt, zt, zt, zt, zt, zt, zt, zt, zt, zf, zt, zt, zt, zf, zf, zf, zf, zf, zf, zf, zf, zf] (fun s_ => [(20, s_.1), (22, .int .i64 t313), (28, s_.2), (23, .int .i64 (wrap64 (Int.tdiv t313 11))), (24, .int .i64 ji5), (25, cutV (s_.1) y316.length)]) (fun s_ w' => (w'.cell? ⟨gb301, 0, none⟩ = some (.int .i64 t294) ∧ w'.cell? ⟨gb301, 1, none⟩ = some (.int .i64 t295) ∧ w'.cell? ⟨gb301, 2, none⟩ = some (.slice Ao23 t296.length co23) ∧ w'.cell? ⟨gb309, 0, none⟩ = some (.int .i64 t302) ∧ w'.cell? ⟨gb309, 1, none⟩ = some (.int .i64 t303) ∧ w'.cell? ⟨gb309, 2, none⟩ = some (.slice Ao31 t304.length co31)) ∧ (Kd.R (Kd.int .i64) 3 w' w.heap.size (fun k_ => some k_ ≠ (.slice Ao31 t304.length co31 : Value).ownBlock ∧ some k_ ≠ (s_.1 : Value).ownBlock ∧ some k_ ≠ (s_.2 : Value).ownBlock) (.slice Ao23 t296.length co23) t296) ∧ (Kd.Q (Kd.int .i64) 3 w' w.heap.size (fun k_ => some k_ ≠ (.slice Ao23 t296.length co23 : Value).ownBlock ∧ some k_ ≠ (s_.1 : Value).ownBlock ∧ some k_ ≠ (s_.2 : Value).ownBlock) (.slice Ao31 t304.length co31) t304) ∧ (Kd.R (Kd.int .i64) 3 w' w.heap.size (fun k_ => some k_ ≠ (.slice Ao23 t296.length co23 : Value).ownBlock ∧ some k_ ≠ (.slice Ao31 t304.length co31 : Value).ownBlock ∧ some k_ ≠ (s_.2 : Value).ownBlock) s_.1 y310) ∧ (Kd.R (Kd.int .i64) 3 w' w.heap.size (fun k_ => some k_ ≠ (.slice Ao23 t296.length co23 : Value).ownBlock ∧ some k_ ≠ (.slice Ao31 t304.length co31 : Value).ownBlock ∧ some k_ ≠ (s_.1 : Value).ownBlock) s_.2 y323) ∧ (w'.heap[gb291]? = some (.cells #[.int .i64 0, .int .i64 0, .slice none 0 0] 26 (0, 0))) ∧ (w'.heap[gb292]? = some (.cells #[.int .i64 0, .int .i64 0, .slice none 0 0] 27 (0, 0))) ∧ (w'.heap[gb301]? = some (.cells #[.int .i64 t294, .int .i64 t295, .slice Ao23 t296.length co23] 26 (0, 0))) ∧ (w'.heap[gb309]? = some (.cells #[.int .i64 t302, .int .i64 t303, .slice Ao31 t304.length co31] 27 (0, 0))) ∧ (IsS46 w w' gb293 l0 t314 t315) ∧ (Below w.heap.size w w')) ?_ ?_
     rotate_left
     ·
      intro hJ3_5_11
      refine join_ (σ := Value) 11 #[zt, zt, zt, zt, zt, zt, zt, zt, zt, zf, zt, zf, zt, zf, zf, zf, zf, zf, zf, zf, zf, zf] (fun s_ => [(20, s_), (22, .int .i64 t313), (23, .int .i64 (wrap64 (Int.tdiv t313 11))), (24, .int .i64 ji5), (25, cutV (s_) y316.length)]) (fun s_ w' => (w'.cell? ⟨gb301, 0, none⟩ = some (.int .i64 t294) ∧ w'.cell? ⟨gb301, 1, none⟩ = some (.int .i64 t295) ∧ w'.cell? ⟨gb301, 2, none⟩ = some (.slice Ao23 t296.length co23) ∧ w'.cell? ⟨gb309, 0, none⟩ = some (.int .i64 t302) ∧ w'.cell? ⟨gb309, 1, none⟩ = some (.int .i64 t303) ∧ w'.cell? ⟨gb309, 2, none⟩ = some (.slice Ao31 t304.length co31)) ∧ (Kd.R (Kd.int .i64) 3 w' w.heap.size (fun k_ => some k_ ≠ (.slice Ao31 t304.length co31 : Value).ownBlock ∧ some k_ ≠ (s_ : Value).ownBlock) (.slice Ao23 t296.length co23) t296) ∧ (Kd.Q (Kd.int .i64) 3 w' w.heap.size (fun k_ => some k_ ≠ (.slice Ao23 t296.length co23 : Value).ownBlock ∧ some k_ ≠ (s_ : Value).ownBlock) (.slice Ao31 t304.length co31) t304) ∧ (Kd.R (Kd.int .i64) 3 w' w.heap.size (fun k_ => some k_ ≠ (.slice Ao23 t296.length co23 : Value).ownBlock ∧ some k_ ≠ (.slice Ao31 t304.length co31 : Value).ownBlock) s_ y310) ∧ (w'.heap[gb291]? = some (.cells #[.int .i64 0, .int .i64 0, .slice none 0 0] 26 (0, 0))) ∧ (w'.heap[gb292]? = some (.cells #[.int .i64 0, .int .i64 0, .slice none 0 0] 27 (0, 0))) ∧ (w'.heap[gb301]? = some (.cells #[.int .i64 t294, .int .i64 t295, .slice Ao23 t296.length co23] 26 (0, 0))) ∧ (w'.heap[gb309]? = some (.cells #[.int .i64 t302, .int .i64 t303, .slice Ao31 t304.length co31] 27 (0, 0))) ∧ (IsS46 w w' gb293 l0 t314 t315) ∧ (Below w.heap.size w w')) ?_ ?_
      rotate_left
      ·
       intro hJ3_5
       refine join_ (σ := Value × Value) 14 #[zt, zt, zt, zt, zt, zf, zf, zf, zf, zf, zt, zt, zt, zf, zf, zf, zf, zf, zf, zf, zf, zf] (fun s_ => [(20, s_.1), (28, s_.2)]) (fun s_ w' => (w'.cell? ⟨gb301, 0, none⟩ = some (.int .i64 t294) ∧ w'.cell? ⟨gb301, 1, none⟩ = some (.int .i64 t295) ∧ w'.cell? ⟨gb301, 2, none⟩ = some (.slice Ao23 t296.length co23) ∧ w'.cell? ⟨gb309, 0, none⟩ = some (.int .i64 t302) ∧ w'.cell? ⟨gb309, 1, none⟩ = some (.int .i64 t303) ∧ w'.cell? ⟨gb309, 2, none⟩ = some (.slice Ao31 t304.length co31)) ∧ (Kd.R (Kd.int .i64) 3 w' w.heap.size (fun k_ => some k_ ≠ (.slice Ao31 t304.length co31 : Value).ownBlock ∧ some k_ ≠ (s_.1 : Value).ownBlock ∧ some k_ ≠ (s_.2 : Value).ownBlock) (.slice Ao23 t296.length co23) t296) ∧ (Kd.Q (Kd.int .i64) 3 w' w.heap.size (fun k_ => some k_ ≠ (.slice Ao23 t296.length co23 : Value).ownBlock ∧ some k_ ≠ (s_.1 : Value).ownBlock ∧ some k_ ≠ (s_.2 : Value).ownBlock) (.slice Ao31 t304.length co31) t304) ∧ (Kd.R (Kd.int .i64) 3 w' w.heap.size (fun k_ => some k_ ≠ (.slice Ao23 t296.length co23 : Value).ownBlock ∧ some k_ ≠ (.slice Ao31 t304.length co31 : Value).ownBlock ∧ some k_ ≠ (s_.2 : Value).ownBlock) s_.1 y310) ∧ (Kd.R (Kd.int .i64) 3 w' w.heap.size (fun k_ => some k_ ≠ (.slice Ao23 t296.length co23 : Value).ownBlock ∧ some k_ ≠ (.slice Ao31 t304.length co31 : Value).ownBlock ∧ some k_ ≠ (s_.1 : Value).ownBlock) s_.2 y323) ∧ (w'.heap[gb291]? = some (.cells #[.int .i64 0, .int .i64 0, .slice none 0 0] 26 (0, 0))) ∧ (w'.heap[gb292]? = some (.cells #[.int .i64 0, .int .i64 0, .slice none 0 0] 27 (0, 0))) ∧ (w'.heap[gb301]? = some (.cells #[.int .i64 t294, .int .i64 t295, .slice Ao23 t296.length co23] 26 (0, 0))) ∧ (w'.heap[gb309]? = some (.cells #[.int .i64 t302, .int .i64 t303, .slice Ao31 t304.length co31] 27 (0, 0))) ∧ (IsS46 w w' gb293 l0 t307 t308) ∧ (Below w.heap.size w w')) ?_ ?_
       rotate_left
       ·
        intro hJ3_11
        refine join_ (σ := Value) 12 #[zt, zt, zt, zf, zt, zt, zt, zt, zf, zf, zt, zt, zt, zf, zf, zf, zf, zf, zf, zf, zf, zf] (fun s_ => [(22, .int .i64 t313), (28, s_), (23, .int .i64 (wrap64 (Int.tdiv t313 11))), (24, .int .i64 ji5)]) (fun s_ w' => (w'.cell? ⟨gb301, 0, none⟩ = some (.int .i64 t294) ∧ w'.cell? ⟨gb301, 1, none⟩ = some (.int .i64 t295) ∧ w'.cell? ⟨gb301, 2, none⟩ = some (.slice Ao23 t296.length co23) ∧ w'.cell? ⟨gb309, 0, none⟩ = some (.int .i64 t302) ∧ w'.cell? ⟨gb309, 1, none⟩ = some (.int .i64 t303) ∧ w'.cell? ⟨gb309, 2, none⟩ = some (.slice Ao31 t304.length co31)) ∧ (Kd.R (Kd.int .i64) 3 w' w.heap.size (fun k_ => some k_ ≠ (.slice Ao31 t304.length co31 : Value).ownBlock ∧ some k_ ≠ (s_ : Value).ownBlock) (.slice Ao23 t296.length co23) t296) ∧ (Kd.Q (Kd.int .i64) 3 w' w.heap.size (fun k_ => some k_ ≠ (.slice Ao23 t296.length co23 : Value).ownBlock ∧ some k_ ≠ (s_ : Value).ownBlock) (.slice Ao31 t304.length co31) t304) ∧ (Kd.R (Kd.int .i64) 3 w' w.heap.size (fun k_ => some k_ ≠ (.slice Ao23 t296.length co23 : Value).ownBlock ∧ some k_ ≠ (.slice Ao31 t304.length co31 : Value).ownBlock) s_ y323) ∧ (w'.heap[gb291]? = some (.cells #[.int .i64 0, .int .i64 0, .slice none 0 0] 26 (0, 0))) ∧ (w'.heap[gb292]? = some (.cells #[.int .i64 0, .int .i64 0, .slice none 0 0] 27 (0, 0))) ∧ (w'.heap[gb301]? = some (.cells #[.int .i64 t294, .int .i64 t295, .slice Ao23 t296.length co23] 26 (0, 0))) ∧ (w'.heap[gb309]? = some (.cells #[.int .i64 t302, .int .i64 t303, .slice Ao31 t304.length co31] 27 (0, 0))) ∧ (IsS46 w w' gb293 l0 t314 t315) ∧ (Below w.heap.size w w')) ?_ ?_
        rotate_left
        ·
         intro hJ5_11
         refine join_ (σ := Value) 15 #[zt, zt, zt, zt, zt, zf, zf, zf, zf, zf, zt, zf, zt, zf, zf, zf, zf, zf, zf, zf, zf, zf] (fun s_ => [(20, s_)]) (fun s_ w' => (w'.cell? ⟨gb301, 0, none⟩ = some (.int .i64 t294) ∧ w'.cell? ⟨gb301, 1, none⟩ = some (.int .i64 t295) ∧ w'.cell? ⟨gb301, 2, none⟩ = some (.slice Ao23 t296.length co23) ∧ w'.cell? ⟨gb309, 0, none⟩ = some (.int .i64 t302) ∧ w'.cell? ⟨gb309, 1, none⟩ = some (.int .i64 t303) ∧ w'.cell? ⟨gb309, 2, none⟩ = some (.slice Ao31 t304.length co31)) ∧ (Kd.R (Kd.int .i64) 3 w' w.heap.size (fun k_ => some k_ ≠ (.slice Ao31 t304.length co31 : Value).ownBlock ∧ some k_ ≠ (s_ : Value).ownBlock) (.slice Ao23 t296.length co23) t296) ∧ (Kd.Q (Kd.int .i64) 3 w' w.heap.size (fun k_ => some k_ ≠ (.slice Ao23 t296.length co23 : Value).ownBlock ∧ some k_ ≠ (s_ : Value).ownBlock) (.slice Ao31 t304.length co31) t304) ∧ (Kd.R (Kd.int .i64) 3 w' w.heap.size (fun k_ => some k_ ≠ (.slice Ao23 t296.length co23 : Value).ownBlock ∧ some k_ ≠ (.slice Ao31 t304.length co31 : Value).ownBlock) s_ y310) ∧ (w'.heap[gb291]? = some (.cells #[.int .i64 0, .int .i64 0, .slice none 0 0] 26 (0, 0))) ∧ (w'.heap[gb292]? = some (.cells #[.int .i64 0, .int .i64 0, .slice none 0 0] 27 (0, 0))) ∧ (w'.heap[gb301]? = some (.cells #[.int .i64 t294, .int .i64 t295, .slice Ao23 t296.length co23] 26 (0, 0))) ∧ (w'.heap[gb309]? = some (.cells #[.int .i64 t302, .int .i64 t303, .slice Ao31 t304.length co31] 27 (0, 0))) ∧ (IsS46 w w' gb293 l0 t307 t308) ∧ (Below w.heap.size w w')) ?_ ?_
         rotate_left
         ·
          intro hJ3
          refine join_ (σ := Unit) 13 #[zt, zt, zt, zf, zt, zt, zt, zt, zf, zf, zt, zf, zt, zf, zf, zf, zf, zf, zf, zf, zf, zf] (fun s_ => [(22, .int .i64 t313), (23, .int .i64 (wrap64 (Int.tdiv t313 11))), (24, .int .i64 ji5)]) (fun s_ w' => (w'.cell? ⟨gb301, 0, none⟩ = some (.int .i64 t294) ∧ w'.cell? ⟨gb301, 1, none⟩ = some (.int .i64 t295) ∧ w'.cell? ⟨gb301, 2, none⟩ = some (.slice Ao23 t296.length co23) ∧ w'.cell? ⟨gb309, 0, none⟩ = some (.int .i64 t302) ∧ w'.cell? ⟨gb309, 1, none⟩ = some (.int .i64 t303) ∧ w'.cell? ⟨gb309, 2, none⟩ = some (.slice Ao31 t304.length co31)) ∧ (Kd.R (Kd.int .i64) 3 w' w.heap.size (fun k_ => some k_ ≠ (.slice Ao31 t304.length co31 : Value).ownBlock) (.slice Ao23 t296.length co23) t296) ∧ (Kd.Q (Kd.int .i64) 3 w' w.heap.size (fun k_ => some k_ ≠ (.slice Ao23 t296.length co23 : Value).ownBlock) (.slice Ao31 t304.length co31) t304) ∧ (w'.heap[gb291]? = some (.cells #[.int .i64 0, .int .i64 0, .slice none 0 0] 26 (0, 0))) ∧ (w'.heap[gb292]? = some (.cells #[.int .i64 0, .int .i64 0, .slice none 0 0] 27 (0, 0))) ∧ (w'.heap[gb301]? = some (.cells #[.int .i64 t294, .int .i64 t295, .slice Ao23 t296.length co23] 26 (0, 0))) ∧ (w'.heap[gb309]? = some (.cells #[.int .i64 t302, .int .i64 t303, .slice Ao31 t304.length co31] 27 (0, 0))) ∧ (IsS46 w w' gb293 l0 t314 t315) ∧ (Below w.heap.size w w')) ?_ ?_
          rotate_left
          ·
           intro hJ5
           refine join_ (σ := Value) 15 #[zt, zt, zt, zf, zt, zf, zf, zf, zf, zf, zt, zt, zt, zf, zf, zf, zf, zf, zf, zf, zf, zf] (fun s_ => [(28, s_)]) (fun s_ w' => (w'.cell? ⟨gb301, 0, none⟩ = some (.int .i64 t294) ∧ w'.cell? ⟨gb301, 1, none⟩ = some (.int .i64 t295) ∧ w'.cell? ⟨gb301, 2, none⟩ = some (.slice Ao23 t296.length co23) ∧ w'.cell? ⟨gb309, 0, none⟩ = some (.int .i64 t302) ∧ w'.cell? ⟨gb309, 1, none⟩ = some (.int .i64 t303) ∧ w'.cell? ⟨gb309, 2, none⟩ = some (.slice Ao31 t304.length co31)) ∧ (Kd.R (Kd.int .i64) 3 w' w.heap.size (fun k_ => some k_ ≠ (.slice Ao31 t304.length co31 : Value).ownBlock ∧ some k_ ≠ (s_ : Value).ownBlock) (.slice Ao23 t296.length co23) t296) ∧ (Kd.Q (Kd.int .i64) 3 w' w.heap.size (fun k_ => some k_ ≠ (.slice Ao23 t296.length co23 : Value).ownBlock ∧ some k_ ≠ (s_ : Value).ownBlock) (.slice Ao31 t304.length co31) t304) ∧ (Kd.R (Kd.int .i64) 3 w' w.heap.size (fun k_ => some k_ ≠ (.slice Ao23 t296.length co23 : Value).ownBlock ∧ some k_ ≠ (.slice Ao31 t304.length co31 : Value).ownBlock) s_ y323) ∧ (w'.heap[gb291]? = some (.cells #[.int .i64 0, .int .i64 0, .slice none 0 0] 26 (0, 0))) ∧ (w'.heap[gb292]? = some (.cells #[.int .i64 0, .int .i64 0, .slice none 0 0] 27 (0, 0))) ∧ (w'.heap[gb301]? = some (.cells #[.int .i64 t294, .int .i64 t295, .slice Ao23 t296.length co23] 26 (0, 0))) ∧ (w'.heap[gb309]? = some (.cells #[.int .i64 t302, .int .i64 t303, .slice Ao31 t304.length co31] 27 (0, 0))) ∧ (IsS46 w w' gb293 l0 t307 t308) ∧ (Below w.heap.size w w')) ?_ ?_
           rotate_left
           ·
            intro hJ11
            refine three_ (i := 3) (j := 5) (k := 11) (Ni := some 20) (Nj := some 22) (Nk := some 28) #[zt, zt, zt, zt, zt, zf, zf, zf, zf, zf, zt, zf, zt, zf, zf, zf, zf, zf, zf, zf, zf, zf] #[zt, zt, zt, zf, zt, zt, zf, zf, zf, zf, zt, zf, zt, zf, zf, zf, zf, zf, zf, zf, zf, zf] #[zt, zt, zt, zf, zt, zf, zf, zf, zf, zf, zt, zt, zt, zf, zf, zf, zf, zf, zf, zf, zf, zf] rfl rfl rfl rfl rfl rfl (three_of HT_.out (by kernel_rfl)) (by decide) (by decide) (by decide) (fun K hK => ?_) (fun K hK => ?_) (fun K hK => ?_)
            ·
             skip
             refine Kd.R_lit_step (Kd.int .i64) _ 3 ?hg (N := 20) ?hd (xs := ([0, 10, 20, 21, 9001] : List Int)) (inner := [.int .i64 0, .int .i64 10, .int .i64 20, .int .i64 21, .int .i64 9001]) (ok := fun _ => True) (okp := fun _ => True) ?hr ?hp (fun _ hk => hk) trivial (Below.refl _ _) (Nat.le_refl _) (by simp) ?_; (case hd => rfl); (case hg => rfl); (case hr => exact zqS); (case hp => exact (Reps.one (show Kd.M (Kd.int .i64) _ _ _ 0 [.int .i64 0] from rfl) (Reps.one (show Kd.M (Kd.int .i64) _ _ _ 10 [.int .i64 10] from rfl) (Reps.one (show Kd.M (Kd.int .i64) _ _ _ 20 [.int .i64 20] from rfl) (Reps.one (show Kd.M (Kd.int .i64) _ _ _ 21 [.int .i64 21] from rfl) (Reps.one (show Kd.M (Kd.int .i64) _ _ _ 9001 [.int .i64 9001] from rfl) (Reps.none _ _)))))))
             intro v311 w34 ho35 hb hg_ hnew_
             clear hg_ hnew_
             (first | rw [← Ny310.out] at ho35 | (simp only [Int.reduceToNat] at ho35; rw [← Ny310.out] at ho35))
             have n0_ := zm (Kd.R_elder' (zqR HO298.out) (Kd.R_base ho35) hb)
             have n1_ := zm (Kd.Q_elder' zq11 (Kd.R_base ho35) hb)
             have n2_ := zm (Kd.R_lower (Kd.R_new' (Kd.R_new' ho35 (Kd.R_lt (zqR HO298.out))) (Kd.Q_lt zq11)) (zyi zq2))
             have n3_ := zm (zyb (g := gb291) (o := zcA) (zqK BK291.out) hb)
             have n4_ := zm (zyb (g := gb292) (o := zcB) (zqK BK292.out) hb)
             have n5_ := zm (IsS46.below zq3 hb)
             have n6_ := zm (zyb (g := gb301) (o := .cells #[.int .i64 t294, .int .i64 t295, .slice Ao23 t296.length co23] 26 (0, 0)) (zqK BK301.out) hb)
             have n7_ := zm (zyb (g := gb309) (o := .cells #[.int .i64 t302, .int .i64 t303, .slice Ao31 t304.length co31] 27 (0, 0)) (zqK BK309.out) hb)
             have n8_ := zm (zyh zq2 hb)
             clear HO298
             clear HO306
             clear BK291
             clear BK292
             clear HI293
             clear BK301
             clear BK309
             clear HB
             have HO298 := n0_
             have HO306 := n1_
             have HO312 := n2_
             have BK291 := n3_
             have BK292 := n4_
             have HI293 := n5_
             have BK301 := n6_
             have BK309 := n7_
             have HB := n8_
             clear n0_ n1_ n2_ n3_ n4_ n5_ n6_ n7_ n8_
             clear hb ho35
             refine hK.out _ _ ⟨(zyk BK301.out 0).trans rfl, (zyk BK301.out 1).trans rfl, (zyk BK301.out 2).trans rfl, (zyk BK309.out 0).trans rfl, (zyk BK309.out 1).trans rfl, (zyk BK309.out 2).trans rfl⟩ (fun hHeld => ?_)
             clear hK K
             refine norm_ (a' := ?_) ?_ ?_
             rotate_left
             ·
              show Act.put _ (some 20) _ = _
              simp only [Act.put, List.setIfInBounds_toArray, List.set_cons_zero, List.set_cons_succ, i64_w, i32_w]
              rfl
             exact norm_ (by first | (simp only [putAll, Act.put, List.setIfInBounds_toArray, List.set_cons_zero, List.set_cons_succ]; done) | (simp only [putAll, Act.put, List.setIfInBounds_toArray, List.set_cons_zero, List.set_cons_succ]; rfl)) (hJ3 (v311) _ ⟨hHeld, (zqR HO298.out), zq11, (by (with_reducible repeat (first | apply Kd.R_alloc | apply Kd.R_drewN | apply Kd.R_drew)); exact Kd.R_mono HO312.out (fun _ hk => ⟨hk.1.2, hk.2⟩)), (zqK BK291.out), (zqK BK292.out), (zqK BK301.out), (zqK BK309.out), zq3, zq2⟩)
            ·
             skip
             refine goes_ Try.func20 (by kernel_rfl) rfl #[.pointer (some ⟨gb293, 0, none⟩), .int .i64 12] (by rfl) rfl rfl zq0 ?_
             with_reducible refine (spec_l1Cur_pick.calls gb293 l0 t307 t308 12 t313 t314 t315 w _ ?side1 ?side2 A4.out).mono ?_
             (case side1 => repeat (first | (with_reducible first | exact HI293.out | apply zv1 | apply zv2 | apply zv3 | apply zv4 | apply zv5 | refine zv6 ?_ NB293_291.out _ | refine zv6 ?_ NB293_292.out _ | refine zv6 ?_ NB293_301.out _ | refine zv6 ?_ NB293_309.out _) | exact HI293.out))
             (case side2 => repeat (first | (with_reducible first | exact HB.out | apply zya | apply zyp | apply zyr | refine zys ?_ (IsS46.ge HI293.out) | refine zys ?_ GE291.out | refine zys ?_ GE292.out | refine zys ?_ GE301.out | refine zys ?_ GE309.out) | exact HB.out))
             rintro e w34 ⟨rfl, hi, hb, hk⟩
             refine ⟨_, rfl, ?_⟩
             have n0_ := zm (KeepBut.blk hk (g' := gb291) (o := zcA) (zqK BK291.out) NB291_293.out (by simp))
             have n1_ := zm (KeepBut.blk hk (g' := gb292) (o := zcB) (zqK BK292.out) NB292_293.out (by simp))
             have n2_ := zm (Kd.R_mono (Kd.R_keep (IsS46.apart (show IsS46 w _ gb293 l0 t307 t308 from by repeat (first | (with_reducible first | exact HI293.out | apply zv1 | apply zv2 | apply zv3 | apply zv4 | apply zv5 | refine zv6 ?_ NB293_291.out _ | refine zv6 ?_ NB293_292.out _ | refine zv6 ?_ NB293_301.out _ | refine zv6 ?_ NB293_309.out _) | exact HI293.out)) (zqR HO298.out) (by decide)) hk (fun _ h => h.2)) (fun _ h => h.1))
             have n3_ := zm (KeepBut.blk hk (g' := gb301) (o := .cells #[.int .i64 t294, .int .i64 t295, .slice Ao23 t296.length co23] 26 (0, 0)) (zqK BK301.out) NB301_293.out (by simp))
             have n4_ := zm (Kd.Q_mono (Kd.Q_keep (IsS46.apartQ (show IsS46 w _ gb293 l0 t307 t308 from by repeat (first | (with_reducible first | exact HI293.out | apply zv1 | apply zv2 | apply zv3 | apply zv4 | apply zv5 | refine zv6 ?_ NB293_291.out _ | refine zv6 ?_ NB293_292.out _ | refine zv6 ?_ NB293_301.out _ | refine zv6 ?_ NB293_309.out _) | exact HI293.out)) zq11 (by decide)) hk (fun _ h => h.2)) (fun _ h => h.1))
             have n5_ := zm (KeepBut.blk hk (g' := gb309) (o := .cells #[.int .i64 t302, .int .i64 t303, .slice Ao31 t304.length co31] 27 (0, 0)) (zqK BK309.out) NB309_293.out (by simp))
             have n6_ := zm (hb)
             have n7_ := zm (hi)
             clear BK291
             clear BK292
             clear HO298
             clear BK301
             clear HO306
             clear BK309
             clear HB
             clear HI293
             have BK291 := n0_
             have BK292 := n1_
             have HO298 := n2_
             have BK301 := n3_
             have HO306 := n4_
             have BK309 := n5_
             have HB := n6_
             have HI293 := n7_
             clear n0_ n1_ n2_ n3_ n4_ n5_ n6_ n7_
             (try clear hb)
             (try clear hb2)
             (try clear hk)
             (try clear hi)
             refine hK.out _ _ ⟨(zyk BK301.out 0).trans rfl, (zyk BK301.out 1).trans rfl, (zyk BK301.out 2).trans rfl, (zyk BK309.out 0).trans rfl, (zyk BK309.out 1).trans rfl, (zyk BK309.out 2).trans rfl⟩ (fun hHeld => ?_)
             clear hK K
             refine norm_ (a' := ?_) ?_ ?_
             rotate_left
             ·
              show Act.put _ (some 22) _ = _
              simp only [Act.put, List.setIfInBounds_toArray, List.set_cons_zero, List.set_cons_succ, i64_w, i32_w]
              rfl
             refine zP 6 (some 23) #[zt, zt, zt, zf, zt, zt, zt, zf, zf, zf, zt, zf, zt, zf, zf, zf, zf, zf, zf, zf, zf, zf] ?_ rfl rfl HT_ (Or.inl ⟨by rfl, ?_⟩) ?_ ?_ ?_
             rotate_left; · exact zqB
             rotate_left; · exact zqA
             refine zP 7 (some 24) #[zt, zt, zt, zf, zt, zt, zt, zt, zf, zf, zt, zf, zt, zf, zf, zf, zf, zf, zf, zf, zf, zf] ?_ rfl rfl HT_ (Or.inl ⟨by rfl, ?_⟩) ?_ ?_ ?_
             rotate_left; · exact zqB
             rotate_left; · exact zqA
             exact norm_ (by first | (simp only [putAll, Act.put, List.setIfInBounds_toArray, List.set_cons_zero, List.set_cons_succ]; done) | (simp only [putAll, Act.put, List.setIfInBounds_toArray, List.set_cons_zero, List.set_cons_succ]; rfl)) (hJ5 () _ ⟨hHeld, (zqR HO298.out), zq11, (zqK BK291.out), (zqK BK292.out), (zqK BK301.out), (zqK BK309.out), zq3, zq2⟩)
            ·
             skip
             refine Kd.R_lit_step (Kd.int .i64) _ 3 ?hg (N := 28) ?hd (xs := ([1, 33, 50, 51, 100, 0, 101] : List Int)) (inner := [.int .i64 1, .int .i64 33, .int .i64 50, .int .i64 51, .int .i64 100, .int .i64 0, .int .i64 101]) (ok := fun _ => True) (okp := fun _ => True) ?hr ?hp (fun _ hk => hk) trivial (Below.refl _ _) (Nat.le_refl _) (by simp) ?_; (case hd => rfl); (case hg => rfl); (case hr => exact zqS); (case hp => exact (Reps.one (show Kd.M (Kd.int .i64) _ _ _ 1 [.int .i64 1] from rfl) (Reps.one (show Kd.M (Kd.int .i64) _ _ _ 33 [.int .i64 33] from rfl) (Reps.one (show Kd.M (Kd.int .i64) _ _ _ 50 [.int .i64 50] from rfl) (Reps.one (show Kd.M (Kd.int .i64) _ _ _ 51 [.int .i64 51] from rfl) (Reps.one (show Kd.M (Kd.int .i64) _ _ _ 100 [.int .i64 100] from rfl) (Reps.one (show Kd.M (Kd.int .i64) _ _ _ 0 [.int .i64 0] from rfl) (Reps.one (show Kd.M (Kd.int .i64) _ _ _ 101 [.int .i64 101] from rfl) (Reps.none _ _)))))))))
             intro v324 w34 ho35 hb hg_ hnew_
             clear hg_ hnew_
             (first | rw [← Ny323.out] at ho35 | (simp only [Int.reduceToNat] at ho35; rw [← Ny323.out] at ho35))
             have n0_ := zm (Kd.R_elder' (zqR HO298.out) (Kd.R_base ho35) hb)
             have n1_ := zm (Kd.Q_elder' zq11 (Kd.R_base ho35) hb)
             have n2_ := zm (Kd.R_lower (Kd.R_new' (Kd.R_new' ho35 (Kd.R_lt (zqR HO298.out))) (Kd.Q_lt zq11)) (zyi zq2))
             have n3_ := zm (zyb (g := gb291) (o := zcA) (zqK BK291.out) hb)
             have n4_ := zm (zyb (g := gb292) (o := zcB) (zqK BK292.out) hb)
             have n5_ := zm (IsS46.below zq3 hb)
             have n6_ := zm (zyb (g := gb301) (o := .cells #[.int .i64 t294, .int .i64 t295, .slice Ao23 t296.length co23] 26 (0, 0)) (zqK BK301.out) hb)
             have n7_ := zm (zyb (g := gb309) (o := .cells #[.int .i64 t302, .int .i64 t303, .slice Ao31 t304.length co31] 27 (0, 0)) (zqK BK309.out) hb)
             have n8_ := zm (zyh zq2 hb)
             clear HO298
             clear HO306
             clear BK291
             clear BK292
             clear HI293
             clear BK301
             clear BK309
             clear HB
             have HO298 := n0_
             have HO306 := n1_
             have HO325 := n2_
             have BK291 := n3_
             have BK292 := n4_
             have HI293 := n5_
             have BK301 := n6_
             have BK309 := n7_
             have HB := n8_
             clear n0_ n1_ n2_ n3_ n4_ n5_ n6_ n7_ n8_
             clear hb ho35
             refine hK.out _ _ ⟨(zyk BK301.out 0).trans rfl, (zyk BK301.out 1).trans rfl, (zyk BK301.out 2).trans rfl, (zyk BK309.out 0).trans rfl, (zyk BK309.out 1).trans rfl, (zyk BK309.out 2).trans rfl⟩ (fun hHeld => ?_)
             clear hK K
             refine norm_ (a' := ?_) ?_ ?_
             rotate_left
             ·
              show Act.put _ (some 28) _ = _
              simp only [Act.put, List.setIfInBounds_toArray, List.set_cons_zero, List.set_cons_succ, i64_w, i32_w]
              rfl
             exact norm_ (by first | (simp only [putAll, Act.put, List.setIfInBounds_toArray, List.set_cons_zero, List.set_cons_succ]; done) | (simp only [putAll, Act.put, List.setIfInBounds_toArray, List.set_cons_zero, List.set_cons_succ]; rfl)) (hJ11 (v324) _ ⟨hHeld, (zqR HO298.out), zq11, (by (with_reducible repeat (first | apply Kd.R_alloc | apply Kd.R_drewN | apply Kd.R_drew)); exact Kd.R_mono HO325.out (fun _ hk => ⟨hk.1.2, hk.2⟩)), (zqK BK291.out), (zqK BK292.out), (zqK BK301.out), (zqK BK309.out), zq3, zq2⟩)
           ·
            skip
            rintro v324 w36 ⟨hS_, h0_, h1_, h2_, h3_, h4_, h5_, h6_, h7_, h8_⟩
            have n0_ : Aside0 (Kd.R (Kd.int .i64) 3 w36 w.heap.size (fun k_ => some k_ ≠ (.slice Ao31 t304.length co31 : Value).ownBlock ∧ some k_ ≠ (v324 : Value).ownBlock) (.slice Ao23 t296.length co23) t296) := ⟨h0_⟩
            have n1_ : Aside0 (Kd.Q (Kd.int .i64) 3 w36 w.heap.size (fun k_ => some k_ ≠ (.slice Ao23 t296.length co23 : Value).ownBlock ∧ some k_ ≠ (v324 : Value).ownBlock) (.slice Ao31 t304.length co31) t304) := ⟨h1_⟩
            have n2_ : Aside0 (Kd.R (Kd.int .i64) 3 w36 w.heap.size (fun k_ => some k_ ≠ (.slice Ao23 t296.length co23 : Value).ownBlock ∧ some k_ ≠ (.slice Ao31 t304.length co31 : Value).ownBlock) v324 y323) := ⟨h2_⟩
            have n3_ : Aside0 (w36.heap[gb291]? = some (.cells #[.int .i64 0, .int .i64 0, .slice none 0 0] 26 (0, 0))) := ⟨h3_⟩
            have n4_ : Aside0 (w36.heap[gb292]? = some (.cells #[.int .i64 0, .int .i64 0, .slice none 0 0] 27 (0, 0))) := ⟨h4_⟩
            have n5_ : Aside0 (w36.heap[gb301]? = some (.cells #[.int .i64 t294, .int .i64 t295, .slice Ao23 t296.length co23] 26 (0, 0))) := ⟨h5_⟩
            have n6_ : Aside0 (w36.heap[gb309]? = some (.cells #[.int .i64 t302, .int .i64 t303, .slice Ao31 t304.length co31] 27 (0, 0))) := ⟨h6_⟩
            have n7_ : Aside0 (IsS46 w w36 gb293 l0 t307 t308) := ⟨h7_⟩
            have n8_ : Aside0 (Below w.heap.size w w36) := ⟨h8_⟩
            clear HO298
            clear HO306
            clear BK291
            clear BK292
            clear BK301
            clear BK309
            clear HI293
            clear HB
            clear h0_ h1_ h2_ h3_ h4_ h5_ h6_ h7_ h8_
            have HO298 := n0_
            have HO306 := n1_
            have HO325 := n2_
            have BK291 := n3_
            have BK292 := n4_
            have BK301 := n5_
            have BK309 := n6_
            have HI293 := n7_
            have HB := n8_
            clear n0_ n1_ n2_ n3_ n4_ n5_ n6_ n7_ n8_
            have hHeld : w36.cell? ⟨gb301, 0, none⟩ = some (.int .i64 t294) ∧ w36.cell? ⟨gb301, 1, none⟩ = some (.int .i64 t295) ∧ w36.cell? ⟨gb301, 2, none⟩ = some (.slice Ao23 t296.length co23) ∧ w36.cell? ⟨gb309, 0, none⟩ = some (.int .i64 t302) ∧ w36.cell? ⟨gb309, 1, none⟩ = some (.int .i64 t303) ∧ w36.cell? ⟨gb309, 2, none⟩ = some (.slice Ao31 t304.length co31) := hS_
            refine norm_ (a' := ?_) ?_ ?_
            rotate_left
            ·
             simp only [putAll, Act.put, List.setIfInBounds_toArray, List.set_cons_zero, List.set_cons_succ]
             rfl
            refine two_ (i := 3) (j := 5) (Ni := some 20) (Nj := some 22) #[zt, zt, zt, zt, zt, zf, zf, zf, zf, zf, zt, zt, zt, zf, zf, zf, zf, zf, zf, zf, zf, zf] #[zt, zt, zt, zf, zt, zt, zf, zf, zf, zf, zt, zt, zt, zf, zf, zf, zf, zf, zf, zf, zf, zf] rfl rfl rfl rfl (two_of HT_.out (by kernel_rfl)) (by decide) (by decide) (fun K hK => ?_) (fun K hK => ?_)
            ·
             skip
             refine Kd.R_lit_step (Kd.int .i64) _ 3 ?hg (N := 20) ?hd (xs := ([0, 10, 20, 21, 9001] : List Int)) (inner := [.int .i64 0, .int .i64 10, .int .i64 20, .int .i64 21, .int .i64 9001]) (ok := fun _ => True) (okp := fun _ => True) ?hr ?hp (fun _ hk => hk) trivial (Below.refl _ _) (Nat.le_refl _) (by simp) ?_; (case hd => rfl); (case hg => rfl); (case hr => exact zqS); (case hp => exact (Reps.one (show Kd.M (Kd.int .i64) _ _ _ 0 [.int .i64 0] from rfl) (Reps.one (show Kd.M (Kd.int .i64) _ _ _ 10 [.int .i64 10] from rfl) (Reps.one (show Kd.M (Kd.int .i64) _ _ _ 20 [.int .i64 20] from rfl) (Reps.one (show Kd.M (Kd.int .i64) _ _ _ 21 [.int .i64 21] from rfl) (Reps.one (show Kd.M (Kd.int .i64) _ _ _ 9001 [.int .i64 9001] from rfl) (Reps.none _ _)))))))
             intro v311 w37 ho38 hb hg_ hnew_
             clear hg_ hnew_
             (first | rw [← Ny310.out] at ho38 | (simp only [Int.reduceToNat] at ho38; rw [← Ny310.out] at ho38))
             have n0_ := zm (Kd.R_elder' (zqR HO298.out) (Kd.R_base ho38) hb)
             have n1_ := zm (Kd.Q_elder' zq11 (Kd.R_base ho38) hb)
             have n2_ := zm (Kd.R_elder' (zqR HO325.out) (Kd.R_base ho38) hb)
             have n3_ := zm (Kd.R_lower (Kd.R_new' (Kd.R_new' (Kd.R_new' ho38 (Kd.R_lt (zqR HO298.out))) (Kd.Q_lt zq11)) (Kd.R_lt (zqR HO325.out))) (zyi zq2))
             have n4_ := zm (zyb (g := gb291) (o := zcA) (zqK BK291.out) hb)
             have n5_ := zm (zyb (g := gb292) (o := zcB) (zqK BK292.out) hb)
             have n6_ := zm (IsS46.below zq3 hb)
             have n7_ := zm (zyb (g := gb301) (o := .cells #[.int .i64 t294, .int .i64 t295, .slice Ao23 t296.length co23] 26 (0, 0)) (zqK BK301.out) hb)
             have n8_ := zm (zyb (g := gb309) (o := .cells #[.int .i64 t302, .int .i64 t303, .slice Ao31 t304.length co31] 27 (0, 0)) (zqK BK309.out) hb)
             have n9_ := zm (zyh zq2 hb)
             clear HO298
             clear HO306
             clear HO325
             clear BK291
             clear BK292
             clear HI293
             clear BK301
             clear BK309
             clear HB
             have HO298 := n0_
             have HO306 := n1_
             have HO325 := n2_
             have HO312 := n3_
             have BK291 := n4_
             have BK292 := n5_
             have HI293 := n6_
             have BK301 := n7_
             have BK309 := n8_
             have HB := n9_
             clear n0_ n1_ n2_ n3_ n4_ n5_ n6_ n7_ n8_ n9_
             clear hb ho38
             refine hK.out _ _ ⟨(zyk BK301.out 0).trans rfl, (zyk BK301.out 1).trans rfl, (zyk BK301.out 2).trans rfl, (zyk BK309.out 0).trans rfl, (zyk BK309.out 1).trans rfl, (zyk BK309.out 2).trans rfl⟩ (fun hHeld => ?_)
             clear hK K
             refine norm_ (a' := ?_) ?_ ?_
             rotate_left
             ·
              show Act.put _ (some 20) _ = _
              simp only [Act.put, List.setIfInBounds_toArray, List.set_cons_zero, List.set_cons_succ, i64_w, i32_w]
              rfl
             exact norm_ (by first | (simp only [putAll, Act.put, List.setIfInBounds_toArray, List.set_cons_zero, List.set_cons_succ]; done) | (simp only [putAll, Act.put, List.setIfInBounds_toArray, List.set_cons_zero, List.set_cons_succ]; rfl)) (hJ3_11 (v311, v324) _ ⟨hHeld, (by (with_reducible repeat (first | apply Kd.R_alloc | apply Kd.R_drewN | apply Kd.R_drew)); exact Kd.R_mono HO298.out (fun _ hk => ⟨hk.1.1, ⟨hk.2, hk.1.2⟩⟩)), (by (with_reducible repeat (first | apply Kd.Q_alloc | apply Kd.Q_drewN | apply Kd.Q_drew)); exact Kd.Q_mono HO306.out (fun _ hk => ⟨hk.1.1, ⟨hk.2, hk.1.2⟩⟩)), (by (with_reducible repeat (first | apply Kd.R_alloc | apply Kd.R_drewN | apply Kd.R_drew)); exact Kd.R_mono HO312.out (fun _ hk => ⟨hk.1.1.2, ⟨hk.1.2, hk.2⟩⟩)), (by (with_reducible repeat (first | apply Kd.R_alloc | apply Kd.R_drewN | apply Kd.R_drew)); exact Kd.R_mono HO325.out (fun _ hk => ⟨hk.1.1, ⟨hk.1.2, hk.2⟩⟩)), (zqK BK291.out), (zqK BK292.out), (zqK BK301.out), (zqK BK309.out), zq3, zq2⟩)
            ·
             skip
             refine goes_ Try.func20 (by kernel_rfl) rfl #[.pointer (some ⟨gb293, 0, none⟩), .int .i64 12] (by rfl) rfl rfl zq0 ?_
             with_reducible refine (spec_l1Cur_pick.calls gb293 l0 t307 t308 12 t313 t314 t315 w _ ?side1 ?side2 A4.out).mono ?_
             (case side1 => repeat (first | (with_reducible first | exact HI293.out | apply zv1 | apply zv2 | apply zv3 | apply zv4 | apply zv5 | refine zv6 ?_ NB293_291.out _ | refine zv6 ?_ NB293_292.out _ | refine zv6 ?_ NB293_301.out _ | refine zv6 ?_ NB293_309.out _) | exact HI293.out))
             (case side2 => repeat (first | (with_reducible first | exact HB.out | apply zya | apply zyp | apply zyr | refine zys ?_ (IsS46.ge HI293.out) | refine zys ?_ GE291.out | refine zys ?_ GE292.out | refine zys ?_ GE301.out | refine zys ?_ GE309.out) | exact HB.out))
             rintro e w37 ⟨rfl, hi, hb, hk⟩
             refine ⟨_, rfl, ?_⟩
             have n0_ := zm (KeepBut.blk hk (g' := gb291) (o := zcA) (zqK BK291.out) NB291_293.out (by simp))
             have n1_ := zm (KeepBut.blk hk (g' := gb292) (o := zcB) (zqK BK292.out) NB292_293.out (by simp))
             have n2_ := zm (Kd.R_mono (Kd.R_keep (IsS46.apart (show IsS46 w _ gb293 l0 t307 t308 from by repeat (first | (with_reducible first | exact HI293.out | apply zv1 | apply zv2 | apply zv3 | apply zv4 | apply zv5 | refine zv6 ?_ NB293_291.out _ | refine zv6 ?_ NB293_292.out _ | refine zv6 ?_ NB293_301.out _ | refine zv6 ?_ NB293_309.out _) | exact HI293.out)) (zqR HO298.out) (by decide)) hk (fun _ h => h.2)) (fun _ h => h.1))
             have n3_ := zm (KeepBut.blk hk (g' := gb301) (o := .cells #[.int .i64 t294, .int .i64 t295, .slice Ao23 t296.length co23] 26 (0, 0)) (zqK BK301.out) NB301_293.out (by simp))
             have n4_ := zm (Kd.Q_mono (Kd.Q_keep (IsS46.apartQ (show IsS46 w _ gb293 l0 t307 t308 from by repeat (first | (with_reducible first | exact HI293.out | apply zv1 | apply zv2 | apply zv3 | apply zv4 | apply zv5 | refine zv6 ?_ NB293_291.out _ | refine zv6 ?_ NB293_292.out _ | refine zv6 ?_ NB293_301.out _ | refine zv6 ?_ NB293_309.out _) | exact HI293.out)) zq11 (by decide)) hk (fun _ h => h.2)) (fun _ h => h.1))
             have n5_ := zm (KeepBut.blk hk (g' := gb309) (o := .cells #[.int .i64 t302, .int .i64 t303, .slice Ao31 t304.length co31] 27 (0, 0)) (zqK BK309.out) NB309_293.out (by simp))
             have n6_ := zm (Kd.R_mono (Kd.R_keep (IsS46.apart (show IsS46 w _ gb293 l0 t307 t308 from by repeat (first | (with_reducible first | exact HI293.out | apply zv1 | apply zv2 | apply zv3 | apply zv4 | apply zv5 | refine zv6 ?_ NB293_291.out _ | refine zv6 ?_ NB293_292.out _ | refine zv6 ?_ NB293_301.out _ | refine zv6 ?_ NB293_309.out _) | exact HI293.out)) (zqR HO325.out) (by decide)) hk (fun _ h => h.2)) (fun _ h => h.1))
             have n7_ := zm (hb)
             have n8_ := zm (hi)
             clear BK291
             clear BK292
             clear HO298
             clear BK301
             clear HO306
             clear BK309
             clear HO325
             clear HB
             clear HI293
             have BK291 := n0_
             have BK292 := n1_
             have HO298 := n2_
             have BK301 := n3_
             have HO306 := n4_
             have BK309 := n5_
             have HO325 := n6_
             have HB := n7_
             have HI293 := n8_
             clear n0_ n1_ n2_ n3_ n4_ n5_ n6_ n7_ n8_
             (try clear hb)
             (try clear hb2)
             (try clear hk)
             (try clear hi)
             refine hK.out _ _ ⟨(zyk BK301.out 0).trans rfl, (zyk BK301.out 1).trans rfl, (zyk BK301.out 2).trans rfl, (zyk BK309.out 0).trans rfl, (zyk BK309.out 1).trans rfl, (zyk BK309.out 2).trans rfl⟩ (fun hHeld => ?_)
             clear hK K
             refine norm_ (a' := ?_) ?_ ?_
             rotate_left
             ·
              show Act.put _ (some 22) _ = _
              simp only [Act.put, List.setIfInBounds_toArray, List.set_cons_zero, List.set_cons_succ, i64_w, i32_w]
              rfl
             refine zP 6 (some 23) #[zt, zt, zt, zf, zt, zt, zt, zf, zf, zf, zt, zt, zt, zf, zf, zf, zf, zf, zf, zf, zf, zf] ?_ rfl rfl HT_ (Or.inl ⟨by rfl, ?_⟩) ?_ ?_ ?_
             rotate_left; · exact zqB
             rotate_left; · exact zqA
             refine zP 7 (some 24) #[zt, zt, zt, zf, zt, zt, zt, zt, zf, zf, zt, zt, zt, zf, zf, zf, zf, zf, zf, zf, zf, zf] ?_ rfl rfl HT_ (Or.inl ⟨by rfl, ?_⟩) ?_ ?_ ?_
             rotate_left; · exact zqB
             rotate_left; · exact zqA
             exact norm_ (by first | (simp only [putAll, Act.put, List.setIfInBounds_toArray, List.set_cons_zero, List.set_cons_succ]; done) | (simp only [putAll, Act.put, List.setIfInBounds_toArray, List.set_cons_zero, List.set_cons_succ]; rfl)) (hJ5_11 (v324) _ ⟨hHeld, (zqR HO298.out), zq11, (zqR HO325.out), (zqK BK291.out), (zqK BK292.out), (zqK BK301.out), (zqK BK309.out), zq3, zq2⟩)
          ·
           skip
           rintro _ w35 ⟨hS_, h0_, h1_, h2_, h3_, h4_, h5_, h6_, h7_⟩
           have n0_ : Aside0 (Kd.R (Kd.int .i64) 3 w35 w.heap.size (fun k_ => some k_ ≠ (.slice Ao31 t304.length co31 : Value).ownBlock) (.slice Ao23 t296.length co23) t296) := ⟨h0_⟩
           have n1_ : Aside0 (Kd.Q (Kd.int .i64) 3 w35 w.heap.size (fun k_ => some k_ ≠ (.slice Ao23 t296.length co23 : Value).ownBlock) (.slice Ao31 t304.length co31) t304) := ⟨h1_⟩
           have n2_ : Aside0 (w35.heap[gb291]? = some (.cells #[.int .i64 0, .int .i64 0, .slice none 0 0] 26 (0, 0))) := ⟨h2_⟩
           have n3_ : Aside0 (w35.heap[gb292]? = some (.cells #[.int .i64 0, .int .i64 0, .slice none 0 0] 27 (0, 0))) := ⟨h3_⟩
           have n4_ : Aside0 (w35.heap[gb301]? = some (.cells #[.int .i64 t294, .int .i64 t295, .slice Ao23 t296.length co23] 26 (0, 0))) := ⟨h4_⟩
           have n5_ : Aside0 (w35.heap[gb309]? = some (.cells #[.int .i64 t302, .int .i64 t303, .slice Ao31 t304.length co31] 27 (0, 0))) := ⟨h5_⟩
           have n6_ : Aside0 (IsS46 w w35 gb293 l0 t314 t315) := ⟨h6_⟩
           have n7_ : Aside0 (Below w.heap.size w w35) := ⟨h7_⟩
           clear HO298
           clear HO306
           clear BK291
           clear BK292
           clear BK301
           clear BK309
           clear HI293
           clear HB
           clear h0_ h1_ h2_ h3_ h4_ h5_ h6_ h7_
           have HO298 := n0_
           have HO306 := n1_
           have BK291 := n2_
           have BK292 := n3_
           have BK301 := n4_
           have BK309 := n5_
           have HI293 := n6_
           have HB := n7_
           clear n0_ n1_ n2_ n3_ n4_ n5_ n6_ n7_
           have hHeld : w35.cell? ⟨gb301, 0, none⟩ = some (.int .i64 t294) ∧ w35.cell? ⟨gb301, 1, none⟩ = some (.int .i64 t295) ∧ w35.cell? ⟨gb301, 2, none⟩ = some (.slice Ao23 t296.length co23) ∧ w35.cell? ⟨gb309, 0, none⟩ = some (.int .i64 t302) ∧ w35.cell? ⟨gb309, 1, none⟩ = some (.int .i64 t303) ∧ w35.cell? ⟨gb309, 2, none⟩ = some (.slice Ao31 t304.length co31) := hS_
           refine norm_ (a' := ?_) ?_ ?_
           rotate_left
           ·
            simp only [putAll, Act.put, List.setIfInBounds_toArray, List.set_cons_zero, List.set_cons_succ]
            rfl
           refine two_ (i := 3) (j := 11) (Ni := some 20) (Nj := some 28) #[zt, zt, zt, zt, zt, zt, zt, zt, zf, zf, zt, zf, zt, zf, zf, zf, zf, zf, zf, zf, zf, zf] #[zt, zt, zt, zf, zt, zt, zt, zt, zf, zf, zt, zt, zt, zf, zf, zf, zf, zf, zf, zf, zf, zf] rfl rfl rfl rfl (two_of HT_.out (by kernel_rfl)) (by decide) (by decide) (fun K hK => ?_) (fun K hK => ?_)
           ·
            skip
            refine Kd.R_lit_step (Kd.int .i64) _ 3 ?hg (N := 20) ?hd (xs := ([0, 10, 20, 21, 9001] : List Int)) (inner := [.int .i64 0, .int .i64 10, .int .i64 20, .int .i64 21, .int .i64 9001]) (ok := fun _ => True) (okp := fun _ => True) ?hr ?hp (fun _ hk => hk) trivial (Below.refl _ _) (Nat.le_refl _) (by simp) ?_; (case hd => rfl); (case hg => rfl); (case hr => exact zqS); (case hp => exact (Reps.one (show Kd.M (Kd.int .i64) _ _ _ 0 [.int .i64 0] from rfl) (Reps.one (show Kd.M (Kd.int .i64) _ _ _ 10 [.int .i64 10] from rfl) (Reps.one (show Kd.M (Kd.int .i64) _ _ _ 20 [.int .i64 20] from rfl) (Reps.one (show Kd.M (Kd.int .i64) _ _ _ 21 [.int .i64 21] from rfl) (Reps.one (show Kd.M (Kd.int .i64) _ _ _ 9001 [.int .i64 9001] from rfl) (Reps.none _ _)))))))
            intro v311 w36 ho37 hb hg_ hnew_
            clear hg_ hnew_
            (first | rw [← Ny310.out] at ho37 | (simp only [Int.reduceToNat] at ho37; rw [← Ny310.out] at ho37))
            have n0_ := zm (Kd.R_elder' (zqR HO298.out) (Kd.R_base ho37) hb)
            have n1_ := zm (Kd.Q_elder' zq11 (Kd.R_base ho37) hb)
            have n2_ := zm (Kd.R_lower (Kd.R_new' (Kd.R_new' ho37 (Kd.R_lt (zqR HO298.out))) (Kd.Q_lt zq11)) (zyi zq2))
            have n3_ := zm (zyb (g := gb291) (o := zcA) (zqK BK291.out) hb)
            have n4_ := zm (zyb (g := gb292) (o := zcB) (zqK BK292.out) hb)
            have n5_ := zm (IsS46.below zq3 hb)
            have n6_ := zm (zyb (g := gb301) (o := .cells #[.int .i64 t294, .int .i64 t295, .slice Ao23 t296.length co23] 26 (0, 0)) (zqK BK301.out) hb)
            have n7_ := zm (zyb (g := gb309) (o := .cells #[.int .i64 t302, .int .i64 t303, .slice Ao31 t304.length co31] 27 (0, 0)) (zqK BK309.out) hb)
            have n8_ := zm (zyh zq2 hb)
            clear HO298
            clear HO306
            clear BK291
            clear BK292
            clear HI293
            clear BK301
            clear BK309
            clear HB
            have HO298 := n0_
            have HO306 := n1_
            have HO312 := n2_
            have BK291 := n3_
            have BK292 := n4_
            have HI293 := n5_
            have BK301 := n6_
            have BK309 := n7_
            have HB := n8_
            clear n0_ n1_ n2_ n3_ n4_ n5_ n6_ n7_ n8_
            clear hb ho37
            obtain ⟨Ao39, co39, eo39⟩ := Kd.R_slice HO312.out
            (first | subst eo39 | (injection eo39 with f1_ f2_ f3_; have f4_ := f1_.symm; have f5_ := f3_.symm; clear f1_ f2_ f3_; subst f4_; subst f5_))
            have q38 : ((ji5) : Int) ≤ ((y310.length : Int) : Int) := of_decide_eq_true zq6
            obtain ⟨i038, hi038, _, hsz38, _⟩ := info_parts info3
            have hroom38 : y310.length ≤ co39 := (Kd.R_reads' HO312.out).2.1
            have hC38 : Kd.C (Kd.int .i64) _ Ao39 y310.length y310 := (Kd.R_reads' HO312.out).2.2
            have hcut38 := cut_to (P := Try.prog) 24 3 .i64 Try.underlying24 hi038 Ao39 y310.length co39 (ji5) (of_decide_eq_true zq6) q38 hroom38
            have hr38 := Kd.C_take (m := ((ji5) : Int).toNat) hC38 (by omega)
            have hy38 : y316.length = ((ji5) : Int).toNat := (by rw [Ny316.out, List.length_take]; omega)
            rw [← Ny316.out] at hr38
            rw [← hy38] at hcut38
            have HR319 := zm hr38
            have HC319 := zm (show y316.length ≤ co39 from by omega)
            clear hr38 hC38 hroom38 hi038 hsz38
            have KY38 := zm hy38
            clear hy38
            have KL38 := zm (show ((ji5) : Int).toNat ≤ y310.length from by omega)
            replace q38 := eq_true q38
            refine hK.out _ _ ⟨(zyk BK301.out 0).trans rfl, (zyk BK301.out 1).trans rfl, (zyk BK301.out 2).trans rfl, (zyk BK309.out 0).trans rfl, (zyk BK309.out 1).trans rfl, (zyk BK309.out 2).trans rfl⟩ (fun hHeld => ?_)
            clear hK K
            refine norm_ (a' := ?_) ?_ ?_
            rotate_left
            ·
             show Act.put _ (some 20) _ = _
             simp only [Act.put, List.setIfInBounds_toArray, List.set_cons_zero, List.set_cons_succ, i64_w, i32_w]
             rfl
            refine zP 8 (some 25) #[zt, zt, zt, zt, zt, zt, zt, zt, zt, zf, zt, zf, zt, zf, zf, zf, zf, zf, zf, zf, zf, zf] ?_ rfl rfl HT_ (Or.inl ⟨by rfl, ?_⟩) ?_ ?_ ?_
            rotate_left; · exact zqB
            rotate_left; · exact zqA
            exact norm_ (by first | (simp only [putAll, Act.put, List.setIfInBounds_toArray, List.set_cons_zero, List.set_cons_succ]; done) | (simp only [putAll, Act.put, List.setIfInBounds_toArray, List.set_cons_zero, List.set_cons_succ]; rfl)) (hJ3_5 (.slice Ao39 y310.length co39) _ ⟨hHeld, (zqR HO298.out), zq11, (by (with_reducible repeat (first | apply Kd.R_alloc | apply Kd.R_drewN | apply Kd.R_drew)); exact Kd.R_mono HO312.out (fun _ hk => ⟨hk.1.2, hk.2⟩)), (zqK BK291.out), (zqK BK292.out), (zqK BK301.out), (zqK BK309.out), zq3, zq2⟩)
           ·
            skip
            refine Kd.R_lit_step (Kd.int .i64) _ 3 ?hg (N := 28) ?hd (xs := ([1, 33, 50, 51, 100, 0, 101] : List Int)) (inner := [.int .i64 1, .int .i64 33, .int .i64 50, .int .i64 51, .int .i64 100, .int .i64 0, .int .i64 101]) (ok := fun _ => True) (okp := fun _ => True) ?hr ?hp (fun _ hk => hk) trivial (Below.refl _ _) (Nat.le_refl _) (by simp) ?_; (case hd => rfl); (case hg => rfl); (case hr => exact zqS); (case hp => exact (Reps.one (show Kd.M (Kd.int .i64) _ _ _ 1 [.int .i64 1] from rfl) (Reps.one (show Kd.M (Kd.int .i64) _ _ _ 33 [.int .i64 33] from rfl) (Reps.one (show Kd.M (Kd.int .i64) _ _ _ 50 [.int .i64 50] from rfl) (Reps.one (show Kd.M (Kd.int .i64) _ _ _ 51 [.int .i64 51] from rfl) (Reps.one (show Kd.M (Kd.int .i64) _ _ _ 100 [.int .i64 100] from rfl) (Reps.one (show Kd.M (Kd.int .i64) _ _ _ 0 [.int .i64 0] from rfl) (Reps.one (show Kd.M (Kd.int .i64) _ _ _ 101 [.int .i64 101] from rfl) (Reps.none _ _)))))))))
            intro v324 w36 ho37 hb hg_ hnew_
            clear hg_ hnew_
            (first | rw [← Ny323.out] at ho37 | (simp only [Int.reduceToNat] at ho37; rw [← Ny323.out] at ho37))
            have n0_ := zm (Kd.R_elder' (zqR HO298.out) (Kd.R_base ho37) hb)
            have n1_ := zm (Kd.Q_elder' zq11 (Kd.R_base ho37) hb)
            have n2_ := zm (Kd.R_lower (Kd.R_new' (Kd.R_new' ho37 (Kd.R_lt (zqR HO298.out))) (Kd.Q_lt zq11)) (zyi zq2))
            have n3_ := zm (zyb (g := gb291) (o := zcA) (zqK BK291.out) hb)
            have n4_ := zm (zyb (g := gb292) (o := zcB) (zqK BK292.out) hb)
            have n5_ := zm (IsS46.below zq3 hb)
            have n6_ := zm (zyb (g := gb301) (o := .cells #[.int .i64 t294, .int .i64 t295, .slice Ao23 t296.length co23] 26 (0, 0)) (zqK BK301.out) hb)
            have n7_ := zm (zyb (g := gb309) (o := .cells #[.int .i64 t302, .int .i64 t303, .slice Ao31 t304.length co31] 27 (0, 0)) (zqK BK309.out) hb)
            have n8_ := zm (zyh zq2 hb)
            clear HO298
            clear HO306
            clear BK291
            clear BK292
            clear HI293
            clear BK301
            clear BK309
            clear HB
            have HO298 := n0_
            have HO306 := n1_
            have HO325 := n2_
            have BK291 := n3_
            have BK292 := n4_
            have HI293 := n5_
            have BK301 := n6_
            have BK309 := n7_
            have HB := n8_
            clear n0_ n1_ n2_ n3_ n4_ n5_ n6_ n7_ n8_
            clear hb ho37
            refine hK.out _ _ ⟨(zyk BK301.out 0).trans rfl, (zyk BK301.out 1).trans rfl, (zyk BK301.out 2).trans rfl, (zyk BK309.out 0).trans rfl, (zyk BK309.out 1).trans rfl, (zyk BK309.out 2).trans rfl⟩ (fun hHeld => ?_)
            clear hK K
            refine norm_ (a' := ?_) ?_ ?_
            rotate_left
            ·
             show Act.put _ (some 28) _ = _
             simp only [Act.put, List.setIfInBounds_toArray, List.set_cons_zero, List.set_cons_succ, i64_w, i32_w]
             rfl
            exact norm_ (by first | (simp only [putAll, Act.put, List.setIfInBounds_toArray, List.set_cons_zero, List.set_cons_succ]; done) | (simp only [putAll, Act.put, List.setIfInBounds_toArray, List.set_cons_zero, List.set_cons_succ]; rfl)) (hJ5_11 (v324) _ ⟨hHeld, (zqR HO298.out), zq11, (by (with_reducible repeat (first | apply Kd.R_alloc | apply Kd.R_drewN | apply Kd.R_drew)); exact Kd.R_mono HO325.out (fun _ hk => ⟨hk.1.2, hk.2⟩)), (zqK BK291.out), (zqK BK292.out), (zqK BK301.out), (zqK BK309.out), zq3, zq2⟩)
         ·
          skip
          rintro v311 w36 ⟨hS_, h0_, h1_, h2_, h3_, h4_, h5_, h6_, h7_, h8_⟩
          have n0_ : Aside0 (Kd.R (Kd.int .i64) 3 w36 w.heap.size (fun k_ => some k_ ≠ (.slice Ao31 t304.length co31 : Value).ownBlock ∧ some k_ ≠ (v311 : Value).ownBlock) (.slice Ao23 t296.length co23) t296) := ⟨h0_⟩
          have n1_ : Aside0 (Kd.Q (Kd.int .i64) 3 w36 w.heap.size (fun k_ => some k_ ≠ (.slice Ao23 t296.length co23 : Value).ownBlock ∧ some k_ ≠ (v311 : Value).ownBlock) (.slice Ao31 t304.length co31) t304) := ⟨h1_⟩
          have n2_ : Aside0 (Kd.R (Kd.int .i64) 3 w36 w.heap.size (fun k_ => some k_ ≠ (.slice Ao23 t296.length co23 : Value).ownBlock ∧ some k_ ≠ (.slice Ao31 t304.length co31 : Value).ownBlock) v311 y310) := ⟨h2_⟩
          have n3_ : Aside0 (w36.heap[gb291]? = some (.cells #[.int .i64 0, .int .i64 0, .slice none 0 0] 26 (0, 0))) := ⟨h3_⟩
          have n4_ : Aside0 (w36.heap[gb292]? = some (.cells #[.int .i64 0, .int .i64 0, .slice none 0 0] 27 (0, 0))) := ⟨h4_⟩
          have n5_ : Aside0 (w36.heap[gb301]? = some (.cells #[.int .i64 t294, .int .i64 t295, .slice Ao23 t296.length co23] 26 (0, 0))) := ⟨h5_⟩
          have n6_ : Aside0 (w36.heap[gb309]? = some (.cells #[.int .i64 t302, .int .i64 t303, .slice Ao31 t304.length co31] 27 (0, 0))) := ⟨h6_⟩
          have n7_ : Aside0 (IsS46 w w36 gb293 l0 t307 t308) := ⟨h7_⟩
          have n8_ : Aside0 (Below w.heap.size w w36) := ⟨h8_⟩
          clear HO298
          clear HO306
          clear BK291
          clear BK292
          clear BK301
          clear BK309
          clear HI293
          clear HB
          clear h0_ h1_ h2_ h3_ h4_ h5_ h6_ h7_ h8_
          have HO298 := n0_
          have HO306 := n1_
          have HO312 := n2_
          have BK291 := n3_
          have BK292 := n4_
          have BK301 := n5_
          have BK309 := n6_
          have HI293 := n7_
          have HB := n8_
          clear n0_ n1_ n2_ n3_ n4_ n5_ n6_ n7_ n8_
          have hHeld : w36.cell? ⟨gb301, 0, none⟩ = some (.int .i64 t294) ∧ w36.cell? ⟨gb301, 1, none⟩ = some (.int .i64 t295) ∧ w36.cell? ⟨gb301, 2, none⟩ = some (.slice Ao23 t296.length co23) ∧ w36.cell? ⟨gb309, 0, none⟩ = some (.int .i64 t302) ∧ w36.cell? ⟨gb309, 1, none⟩ = some (.int .i64 t303) ∧ w36.cell? ⟨gb309, 2, none⟩ = some (.slice Ao31 t304.length co31) := hS_
          refine norm_ (a' := ?_) ?_ ?_
          rotate_left
          ·
           simp only [putAll, Act.put, List.setIfInBounds_toArray, List.set_cons_zero, List.set_cons_succ]
           rfl
          refine two_ (i := 5) (j := 11) (Ni := some 22) (Nj := some 28) #[zt, zt, zt, zt, zt, zt, zf, zf, zf, zf, zt, zf, zt, zf, zf, zf, zf, zf, zf, zf, zf, zf] #[zt, zt, zt, zt, zt, zf, zf, zf, zf, zf, zt, zt, zt, zf, zf, zf, zf, zf, zf, zf, zf, zf] rfl rfl rfl rfl (two_of HT_.out (by kernel_rfl)) (by decide) (by decide) (fun K hK => ?_) (fun K hK => ?_)
          ·
           skip
           refine goes_ Try.func20 (by kernel_rfl) rfl #[.pointer (some ⟨gb293, 0, none⟩), .int .i64 12] (by rfl) rfl rfl zq0 ?_
           with_reducible refine (spec_l1Cur_pick.calls gb293 l0 t307 t308 12 t313 t314 t315 w _ ?side1 ?side2 A4.out).mono ?_
           (case side1 => repeat (first | (with_reducible first | exact HI293.out | apply zv1 | apply zv2 | apply zv3 | apply zv4 | apply zv5 | refine zv6 ?_ NB293_291.out _ | refine zv6 ?_ NB293_292.out _ | refine zv6 ?_ NB293_301.out _ | refine zv6 ?_ NB293_309.out _) | exact HI293.out))
           (case side2 => repeat (first | (with_reducible first | exact HB.out | apply zya | apply zyp | apply zyr | refine zys ?_ (IsS46.ge HI293.out) | refine zys ?_ GE291.out | refine zys ?_ GE292.out | refine zys ?_ GE301.out | refine zys ?_ GE309.out) | exact HB.out))
           rintro e w37 ⟨rfl, hi, hb, hk⟩
           refine ⟨_, rfl, ?_⟩
           have n0_ := zm (KeepBut.blk hk (g' := gb291) (o := zcA) (zqK BK291.out) NB291_293.out (by simp))
           have n1_ := zm (KeepBut.blk hk (g' := gb292) (o := zcB) (zqK BK292.out) NB292_293.out (by simp))
           have n2_ := zm (Kd.R_mono (Kd.R_keep (IsS46.apart (show IsS46 w _ gb293 l0 t307 t308 from by repeat (first | (with_reducible first | exact HI293.out | apply zv1 | apply zv2 | apply zv3 | apply zv4 | apply zv5 | refine zv6 ?_ NB293_291.out _ | refine zv6 ?_ NB293_292.out _ | refine zv6 ?_ NB293_301.out _ | refine zv6 ?_ NB293_309.out _) | exact HI293.out)) (zqR HO298.out) (by decide)) hk (fun _ h => h.2)) (fun _ h => h.1))
           have n3_ := zm (KeepBut.blk hk (g' := gb301) (o := .cells #[.int .i64 t294, .int .i64 t295, .slice Ao23 t296.length co23] 26 (0, 0)) (zqK BK301.out) NB301_293.out (by simp))
           have n4_ := zm (Kd.Q_mono (Kd.Q_keep (IsS46.apartQ (show IsS46 w _ gb293 l0 t307 t308 from by repeat (first | (with_reducible first | exact HI293.out | apply zv1 | apply zv2 | apply zv3 | apply zv4 | apply zv5 | refine zv6 ?_ NB293_291.out _ | refine zv6 ?_ NB293_292.out _ | refine zv6 ?_ NB293_301.out _ | refine zv6 ?_ NB293_309.out _) | exact HI293.out)) zq11 (by decide)) hk (fun _ h => h.2)) (fun _ h => h.1))
           have n5_ := zm (KeepBut.blk hk (g' := gb309) (o := .cells #[.int .i64 t302, .int .i64 t303, .slice Ao31 t304.length co31] 27 (0, 0)) (zqK BK309.out) NB309_293.out (by simp))
           have n6_ := zm (Kd.R_mono (Kd.R_keep (IsS46.apart (show IsS46 w _ gb293 l0 t307 t308 from by repeat (first | (with_reducible first | exact HI293.out | apply zv1 | apply zv2 | apply zv3 | apply zv4 | apply zv5 | refine zv6 ?_ NB293_291.out _ | refine zv6 ?_ NB293_292.out _ | refine zv6 ?_ NB293_301.out _ | refine zv6 ?_ NB293_309.out _) | exact HI293.out)) (zqR HO312.out) (by decide)) hk (fun _ h => h.2)) (fun _ h => h.1))
           have n7_ := zm (hb)
           have n8_ := zm (hi)
           clear BK291
           clear BK292
           clear HO298
           clear BK301
           clear HO306
           clear BK309
           clear HO312
           clear HB
           clear HI293
           have BK291 := n0_
           have BK292 := n1_
           have HO298 := n2_
           have BK301 := n3_
           have HO306 := n4_
           have BK309 := n5_
           have HO312 := n6_
           have HB := n7_
           have HI293 := n8_
           clear n0_ n1_ n2_ n3_ n4_ n5_ n6_ n7_ n8_
           (try clear hb)
           (try clear hb2)
           (try clear hk)
           (try clear hi)
           obtain ⟨Ao39, co39, eo39⟩ := Kd.R_slice HO312.out
           (first | subst eo39 | (injection eo39 with f1_ f2_ f3_; have f4_ := f1_.symm; have f5_ := f3_.symm; clear f1_ f2_ f3_; subst f4_; subst f5_))
           have q38 : ((ji5) : Int) ≤ ((y310.length : Int) : Int) := of_decide_eq_true zq6
           obtain ⟨i038, hi038, _, hsz38, _⟩ := info_parts info3
           have hroom38 : y310.length ≤ co39 := (Kd.R_reads' HO312.out).2.1
           have hC38 : Kd.C (Kd.int .i64) _ Ao39 y310.length y310 := (Kd.R_reads' HO312.out).2.2
           have hcut38 := cut_to (P := Try.prog) 24 3 .i64 Try.underlying24 hi038 Ao39 y310.length co39 (ji5) (of_decide_eq_true zq6) q38 hroom38
           have hr38 := Kd.C_take (m := ((ji5) : Int).toNat) hC38 (by omega)
           have hy38 : y316.length = ((ji5) : Int).toNat := (by rw [Ny316.out, List.length_take]; omega)
           rw [← Ny316.out] at hr38
           rw [← hy38] at hcut38
           have HR319 := zm hr38
           have HC319 := zm (show y316.length ≤ co39 from by omega)
           clear hr38 hC38 hroom38 hi038 hsz38
           have KY38 := zm hy38
           clear hy38
           have KL38 := zm (show ((ji5) : Int).toNat ≤ y310.length from by omega)
           replace q38 := eq_true q38
           refine hK.out _ _ ⟨(zyk BK301.out 0).trans rfl, (zyk BK301.out 1).trans rfl, (zyk BK301.out 2).trans rfl, (zyk BK309.out 0).trans rfl, (zyk BK309.out 1).trans rfl, (zyk BK309.out 2).trans rfl⟩ (fun hHeld => ?_)
           clear hK K
           refine norm_ (a' := ?_) ?_ ?_
           rotate_left
           ·
            show Act.put _ (some 22) _ = _
            simp only [Act.put, List.setIfInBounds_toArray, List.set_cons_zero, List.set_cons_succ, i64_w, i32_w]
            rfl
           refine zP 6 (some 23) #[zt, zt, zt, zt, zt, zt, zt, zf, zf, zf, zt, zf, zt, zf, zf, zf, zf, zf, zf, zf, zf, zf] ?_ rfl rfl HT_ (Or.inl ⟨by rfl, ?_⟩) ?_ ?_ ?_
           rotate_left; · exact zqB
           rotate_left; · exact zqA
           refine zP 7 (some 24) #[zt, zt, zt, zt, zt, zt, zt, zt, zf, zf, zt, zf, zt, zf, zf, zf, zf, zf, zf, zf, zf, zf] ?_ rfl rfl HT_ (Or.inl ⟨by rfl, ?_⟩) ?_ ?_ ?_
           rotate_left; · exact zqB
           rotate_left; · exact zqA
           refine zP 8 (some 25) #[zt, zt, zt, zt, zt, zt, zt, zt, zt, zf, zt, zf, zt, zf, zf, zf, zf, zf, zf, zf, zf, zf] ?_ rfl rfl HT_ (Or.inl ⟨by rfl, ?_⟩) ?_ ?_ ?_
           rotate_left; · exact zqB
           rotate_left; · exact zqA
           exact norm_ (by first | (simp only [putAll, Act.put, List.setIfInBounds_toArray, List.set_cons_zero, List.set_cons_succ]; done) | (simp only [putAll, Act.put, List.setIfInBounds_toArray, List.set_cons_zero, List.set_cons_succ]; rfl)) (hJ3_5 (.slice Ao39 y310.length co39) _ ⟨hHeld, (zqR HO298.out), zq11, (zqR HO312.out), (zqK BK291.out), (zqK BK292.out), (zqK BK301.out), (zqK BK309.out), zq3, zq2⟩)
          ·
           skip
           refine Kd.R_lit_step (Kd.int .i64) _ 3 ?hg (N := 28) ?hd (xs := ([1, 33, 50, 51, 100, 0, 101] : List Int)) (inner := [.int .i64 1, .int .i64 33, .int .i64 50, .int .i64 51, .int .i64 100, .int .i64 0, .int .i64 101]) (ok := fun _ => True) (okp := fun _ => True) ?hr ?hp (fun _ hk => hk) trivial (Below.refl _ _) (Nat.le_refl _) (by simp) ?_; (case hd => rfl); (case hg => rfl); (case hr => exact zqS); (case hp => exact (Reps.one (show Kd.M (Kd.int .i64) _ _ _ 1 [.int .i64 1] from rfl) (Reps.one (show Kd.M (Kd.int .i64) _ _ _ 33 [.int .i64 33] from rfl) (Reps.one (show Kd.M (Kd.int .i64) _ _ _ 50 [.int .i64 50] from rfl) (Reps.one (show Kd.M (Kd.int .i64) _ _ _ 51 [.int .i64 51] from rfl) (Reps.one (show Kd.M (Kd.int .i64) _ _ _ 100 [.int .i64 100] from rfl) (Reps.one (show Kd.M (Kd.int .i64) _ _ _ 0 [.int .i64 0] from rfl) (Reps.one (show Kd.M (Kd.int .i64) _ _ _ 101 [.int .i64 101] from rfl) (Reps.none _ _)))))))))
           intro v324 w37 ho38 hb hg_ hnew_
           clear hg_ hnew_
           (first | rw [← Ny323.out] at ho38 | (simp only [Int.reduceToNat] at ho38; rw [← Ny323.out] at ho38))
           have n0_ := zm (Kd.R_elder' (zqR HO298.out) (Kd.R_base ho38) hb)
           have n1_ := zm (Kd.Q_elder' zq11 (Kd.R_base ho38) hb)
           have n2_ := zm (Kd.R_elder' (zqR HO312.out) (Kd.R_base ho38) hb)
           have n3_ := zm (Kd.R_lower (Kd.R_new' (Kd.R_new' (Kd.R_new' ho38 (Kd.R_lt (zqR HO298.out))) (Kd.Q_lt zq11)) (Kd.R_lt (zqR HO312.out))) (zyi zq2))
           have n4_ := zm (zyb (g := gb291) (o := zcA) (zqK BK291.out) hb)
           have n5_ := zm (zyb (g := gb292) (o := zcB) (zqK BK292.out) hb)
           have n6_ := zm (IsS46.below zq3 hb)
           have n7_ := zm (zyb (g := gb301) (o := .cells #[.int .i64 t294, .int .i64 t295, .slice Ao23 t296.length co23] 26 (0, 0)) (zqK BK301.out) hb)
           have n8_ := zm (zyb (g := gb309) (o := .cells #[.int .i64 t302, .int .i64 t303, .slice Ao31 t304.length co31] 27 (0, 0)) (zqK BK309.out) hb)
           have n9_ := zm (zyh zq2 hb)
           clear HO298
           clear HO306
           clear HO312
           clear BK291
           clear BK292
           clear HI293
           clear BK301
           clear BK309
           clear HB
           have HO298 := n0_
           have HO306 := n1_
           have HO312 := n2_
           have HO325 := n3_
           have BK291 := n4_
           have BK292 := n5_
           have HI293 := n6_
           have BK301 := n7_
           have BK309 := n8_
           have HB := n9_
           clear n0_ n1_ n2_ n3_ n4_ n5_ n6_ n7_ n8_ n9_
           clear hb ho38
           refine hK.out _ _ ⟨(zyk BK301.out 0).trans rfl, (zyk BK301.out 1).trans rfl, (zyk BK301.out 2).trans rfl, (zyk BK309.out 0).trans rfl, (zyk BK309.out 1).trans rfl, (zyk BK309.out 2).trans rfl⟩ (fun hHeld => ?_)
           clear hK K
           refine norm_ (a' := ?_) ?_ ?_
           rotate_left
           ·
            show Act.put _ (some 28) _ = _
            simp only [Act.put, List.setIfInBounds_toArray, List.set_cons_zero, List.set_cons_succ, i64_w, i32_w]
            rfl
           exact norm_ (by first | (simp only [putAll, Act.put, List.setIfInBounds_toArray, List.set_cons_zero, List.set_cons_succ]; done) | (simp only [putAll, Act.put, List.setIfInBounds_toArray, List.set_cons_zero, List.set_cons_succ]; rfl)) (hJ3_11 (v311, v324) _ ⟨hHeld, zq91, zq92, zq93, zq90, (zqK BK291.out), (zqK BK292.out), (zqK BK301.out), (zqK BK309.out), zq3, zq2⟩)
        ·
         skip
         rintro v324 w37 ⟨hS_, h0_, h1_, h2_, h3_, h4_, h5_, h6_, h7_, h8_⟩
         have n0_ : Aside0 (Kd.R (Kd.int .i64) 3 w37 w.heap.size (fun k_ => some k_ ≠ (.slice Ao31 t304.length co31 : Value).ownBlock ∧ some k_ ≠ (v324 : Value).ownBlock) (.slice Ao23 t296.length co23) t296) := ⟨h0_⟩
         have n1_ : Aside0 (Kd.Q (Kd.int .i64) 3 w37 w.heap.size (fun k_ => some k_ ≠ (.slice Ao23 t296.length co23 : Value).ownBlock ∧ some k_ ≠ (v324 : Value).ownBlock) (.slice Ao31 t304.length co31) t304) := ⟨h1_⟩
         have n2_ : Aside0 (Kd.R (Kd.int .i64) 3 w37 w.heap.size (fun k_ => some k_ ≠ (.slice Ao23 t296.length co23 : Value).ownBlock ∧ some k_ ≠ (.slice Ao31 t304.length co31 : Value).ownBlock) v324 y323) := ⟨h2_⟩
         have n3_ : Aside0 (w37.heap[gb291]? = some (.cells #[.int .i64 0, .int .i64 0, .slice none 0 0] 26 (0, 0))) := ⟨h3_⟩
         have n4_ : Aside0 (w37.heap[gb292]? = some (.cells #[.int .i64 0, .int .i64 0, .slice none 0 0] 27 (0, 0))) := ⟨h4_⟩
         have n5_ : Aside0 (w37.heap[gb301]? = some (.cells #[.int .i64 t294, .int .i64 t295, .slice Ao23 t296.length co23] 26 (0, 0))) := ⟨h5_⟩
         have n6_ : Aside0 (w37.heap[gb309]? = some (.cells #[.int .i64 t302, .int .i64 t303, .slice Ao31 t304.length co31] 27 (0, 0))) := ⟨h6_⟩
         have n7_ : Aside0 (IsS46 w w37 gb293 l0 t314 t315) := ⟨h7_⟩
         have n8_ : Aside0 (Below w.heap.size w w37) := ⟨h8_⟩
         clear HO298
         clear HO306
         clear BK291
         clear BK292
         clear BK301
         clear BK309
         clear HI293
         clear HB
         clear h0_ h1_ h2_ h3_ h4_ h5_ h6_ h7_ h8_
         have HO298 := n0_
         have HO306 := n1_
         have HO325 := n2_
         have BK291 := n3_
         have BK292 := n4_
         have BK301 := n5_
         have BK309 := n6_
         have HI293 := n7_
         have HB := n8_
         clear n0_ n1_ n2_ n3_ n4_ n5_ n6_ n7_ n8_
         have hHeld : w37.cell? ⟨gb301, 0, none⟩ = some (.int .i64 t294) ∧ w37.cell? ⟨gb301, 1, none⟩ = some (.int .i64 t295) ∧ w37.cell? ⟨gb301, 2, none⟩ = some (.slice Ao23 t296.length co23) ∧ w37.cell? ⟨gb309, 0, none⟩ = some (.int .i64 t302) ∧ w37.cell? ⟨gb309, 1, none⟩ = some (.int .i64 t303) ∧ w37.cell? ⟨gb309, 2, none⟩ = some (.slice Ao31 t304.length co31) := hS_
         refine norm_ (a' := ?_) ?_ ?_
         rotate_left
         ·
          simp only [putAll, Act.put, List.setIfInBounds_toArray, List.set_cons_zero, List.set_cons_succ]
          rfl
         refine one_ (i := 3) (N := some 20) #[zt, zt, zt, zt, zt, zt, zt, zt, zf, zf, zt, zt, zt, zf, zf, zf, zf, zf, zf, zf, zf, zf] rfl rfl (one_of HT_.out (by kernel_rfl)) (by decide) (fun K hK => ?_)
         refine Kd.R_lit_step (Kd.int .i64) _ 3 ?hg (N := 20) ?hd (xs := ([0, 10, 20, 21, 9001] : List Int)) (inner := [.int .i64 0, .int .i64 10, .int .i64 20, .int .i64 21, .int .i64 9001]) (ok := fun _ => True) (okp := fun _ => True) ?hr ?hp (fun _ hk => hk) trivial (Below.refl _ _) (Nat.le_refl _) (by simp) ?_; (case hd => rfl); (case hg => rfl); (case hr => exact zqS); (case hp => exact (Reps.one (show Kd.M (Kd.int .i64) _ _ _ 0 [.int .i64 0] from rfl) (Reps.one (show Kd.M (Kd.int .i64) _ _ _ 10 [.int .i64 10] from rfl) (Reps.one (show Kd.M (Kd.int .i64) _ _ _ 20 [.int .i64 20] from rfl) (Reps.one (show Kd.M (Kd.int .i64) _ _ _ 21 [.int .i64 21] from rfl) (Reps.one (show Kd.M (Kd.int .i64) _ _ _ 9001 [.int .i64 9001] from rfl) (Reps.none _ _)))))))
         intro v311 w38 ho39 hb hg_ hnew_
         clear hg_ hnew_
         (first | rw [← Ny310.out] at ho39 | (simp only [Int.reduceToNat] at ho39; rw [← Ny310.out] at ho39))
         have n0_ := zm (Kd.R_elder' (zqR HO298.out) (Kd.R_base ho39) hb)
         have n1_ := zm (Kd.Q_elder' zq11 (Kd.R_base ho39) hb)
         have n2_ := zm (Kd.R_elder' (zqR HO325.out) (Kd.R_base ho39) hb)
         have n3_ := zm (Kd.R_lower (Kd.R_new' (Kd.R_new' (Kd.R_new' ho39 (Kd.R_lt (zqR HO298.out))) (Kd.Q_lt zq11)) (Kd.R_lt (zqR HO325.out))) (zyi zq2))
         have n4_ := zm (zyb (g := gb291) (o := zcA) (zqK BK291.out) hb)
         have n5_ := zm (zyb (g := gb292) (o := zcB) (zqK BK292.out) hb)
         have n6_ := zm (IsS46.below zq3 hb)
         have n7_ := zm (zyb (g := gb301) (o := .cells #[.int .i64 t294, .int .i64 t295, .slice Ao23 t296.length co23] 26 (0, 0)) (zqK BK301.out) hb)
         have n8_ := zm (zyb (g := gb309) (o := .cells #[.int .i64 t302, .int .i64 t303, .slice Ao31 t304.length co31] 27 (0, 0)) (zqK BK309.out) hb)
         have n9_ := zm (zyh zq2 hb)
         clear HO298
         clear HO306
         clear HO325
         clear BK291
         clear BK292
         clear HI293
         clear BK301
         clear BK309
         clear HB
         have HO298 := n0_
         have HO306 := n1_
         have HO325 := n2_
         have HO312 := n3_
         have BK291 := n4_
         have BK292 := n5_
         have HI293 := n6_
         have BK301 := n7_
         have BK309 := n8_
         have HB := n9_
         clear n0_ n1_ n2_ n3_ n4_ n5_ n6_ n7_ n8_ n9_
         clear hb ho39
         obtain ⟨Ao41, co41, eo41⟩ := Kd.R_slice HO312.out
         (first | subst eo41 | (injection eo41 with f1_ f2_ f3_; have f4_ := f1_.symm; have f5_ := f3_.symm; clear f1_ f2_ f3_; subst f4_; subst f5_))
         have q40 : ((ji5) : Int) ≤ ((y310.length : Int) : Int) := of_decide_eq_true zq6
         obtain ⟨i040, hi040, _, hsz40, _⟩ := info_parts info3
         have hroom40 : y310.length ≤ co41 := (Kd.R_reads' HO312.out).2.1
         have hC40 : Kd.C (Kd.int .i64) _ Ao41 y310.length y310 := (Kd.R_reads' HO312.out).2.2
         have hcut40 := cut_to (P := Try.prog) 24 3 .i64 Try.underlying24 hi040 Ao41 y310.length co41 (ji5) (of_decide_eq_true zq6) q40 hroom40
         have hr40 := Kd.C_take (m := ((ji5) : Int).toNat) hC40 (by omega)
         have hy40 : y316.length = ((ji5) : Int).toNat := (by rw [Ny316.out, List.length_take]; omega)
         rw [← Ny316.out] at hr40
         rw [← hy40] at hcut40
         have HR319 := zm hr40
         have HC319 := zm (show y316.length ≤ co41 from by omega)
         clear hr40 hC40 hroom40 hi040 hsz40
         have KY40 := zm hy40
         clear hy40
         have KL40 := zm (show ((ji5) : Int).toNat ≤ y310.length from by omega)
         replace q40 := eq_true q40
         refine hK.out _ _ ⟨(zyk BK301.out 0).trans rfl, (zyk BK301.out 1).trans rfl, (zyk BK301.out 2).trans rfl, (zyk BK309.out 0).trans rfl, (zyk BK309.out 1).trans rfl, (zyk BK309.out 2).trans rfl⟩ (fun hHeld => ?_)
         clear hK K
         refine norm_ (a' := ?_) ?_ ?_
         rotate_left
         ·
          show Act.put _ (some 20) _ = _
          simp only [Act.put, List.setIfInBounds_toArray, List.set_cons_zero, List.set_cons_succ, i64_w, i32_w]
          rfl
         refine zP 8 (some 25) #[zt, zt, zt, zt, zt, zt, zt, zt, zt, zf, zt, zt, zt, zf, zf, zf, zf, zf, zf, zf, zf, zf] ?_ rfl rfl HT_ (Or.inl ⟨by rfl, ?_⟩) ?_ ?_ ?_
         rotate_left; · exact zqB
         rotate_left; · exact zqA
         exact norm_ (by first | (simp only [putAll, Act.put, List.setIfInBounds_toArray, List.set_cons_zero, List.set_cons_succ]; done) | (simp only [putAll, Act.put, List.setIfInBounds_toArray, List.set_cons_zero, List.set_cons_succ]; rfl)) (hJ3_5_11 (.slice Ao41 y310.length co41, v324) _ ⟨hHeld, (by (with_reducible repeat (first | apply Kd.R_alloc | apply Kd.R_drewN | apply Kd.R_drew)); exact Kd.R_mono HO298.out (fun _ hk => ⟨hk.1.1, ⟨hk.2, hk.1.2⟩⟩)), (by (with_reducible repeat (first | apply Kd.Q_alloc | apply Kd.Q_drewN | apply Kd.Q_drew)); exact Kd.Q_mono HO306.out (fun _ hk => ⟨hk.1.1, ⟨hk.2, hk.1.2⟩⟩)), (by (with_reducible repeat (first | apply Kd.R_alloc | apply Kd.R_drewN | apply Kd.R_drew)); exact Kd.R_mono HO312.out (fun _ hk => ⟨hk.1.1.2, ⟨hk.1.2, hk.2⟩⟩)), (by (with_reducible repeat (first | apply Kd.R_alloc | apply Kd.R_drewN | apply Kd.R_drew)); exact Kd.R_mono HO325.out (fun _ hk => ⟨hk.1.1, ⟨hk.1.2, hk.2⟩⟩)), (zqK BK291.out), (zqK BK292.out), (zqK BK301.out), (zqK BK309.out), zq3, zq2⟩)
       ·
        skip
        rintro ⟨v311, v324⟩ w38 ⟨hS_, h0_, h1_, h2_, h3_, h4_, h5_, h6_, h7_, h8_, h9_⟩
        have n0_ : Aside0 (Kd.R (Kd.int .i64) 3 w38 w.heap.size (fun k_ => some k_ ≠ (.slice Ao31 t304.length co31 : Value).ownBlock ∧ some k_ ≠ (v311 : Value).ownBlock ∧ some k_ ≠ (v324 : Value).ownBlock) (.slice Ao23 t296.length co23) t296) := ⟨h0_⟩
        have n1_ : Aside0 (Kd.Q (Kd.int .i64) 3 w38 w.heap.size (fun k_ => some k_ ≠ (.slice Ao23 t296.length co23 : Value).ownBlock ∧ some k_ ≠ (v311 : Value).ownBlock ∧ some k_ ≠ (v324 : Value).ownBlock) (.slice Ao31 t304.length co31) t304) := ⟨h1_⟩
        have n2_ : Aside0 (Kd.R (Kd.int .i64) 3 w38 w.heap.size (fun k_ => some k_ ≠ (.slice Ao23 t296.length co23 : Value).ownBlock ∧ some k_ ≠ (.slice Ao31 t304.length co31 : Value).ownBlock ∧ some k_ ≠ (v324 : Value).ownBlock) v311 y310) := ⟨h2_⟩
        have n3_ : Aside0 (Kd.R (Kd.int .i64) 3 w38 w.heap.size (fun k_ => some k_ ≠ (.slice Ao23 t296.length co23 : Value).ownBlock ∧ some k_ ≠ (.slice Ao31 t304.length co31 : Value).ownBlock ∧ some k_ ≠ (v311 : Value).ownBlock) v324 y323) := ⟨h3_⟩
        have n4_ : Aside0 (w38.heap[gb291]? = some (.cells #[.int .i64 0, .int .i64 0, .slice none 0 0] 26 (0, 0))) := ⟨h4_⟩
        have n5_ : Aside0 (w38.heap[gb292]? = some (.cells #[.int .i64 0, .int .i64 0, .slice none 0 0] 27 (0, 0))) := ⟨h5_⟩
        have n6_ : Aside0 (w38.heap[gb301]? = some (.cells #[.int .i64 t294, .int .i64 t295, .slice Ao23 t296.length co23] 26 (0, 0))) := ⟨h6_⟩
        have n7_ : Aside0 (w38.heap[gb309]? = some (.cells #[.int .i64 t302, .int .i64 t303, .slice Ao31 t304.length co31] 27 (0, 0))) := ⟨h7_⟩
        have n8_ : Aside0 (IsS46 w w38 gb293 l0 t307 t308) := ⟨h8_⟩
        have n9_ : Aside0 (Below w.heap.size w w38) := ⟨h9_⟩
        clear HO298
        clear HO306
        clear BK291
        clear BK292
        clear BK301
        clear BK309
        clear HI293
        clear HB
        clear h0_ h1_ h2_ h3_ h4_ h5_ h6_ h7_ h8_ h9_
        have HO298 := n0_
        have HO306 := n1_
        have HO312 := n2_
        have HO325 := n3_
        have BK291 := n4_
        have BK292 := n5_
        have BK301 := n6_
        have BK309 := n7_
        have HI293 := n8_
        have HB := n9_
        clear n0_ n1_ n2_ n3_ n4_ n5_ n6_ n7_ n8_ n9_
        have hHeld : w38.cell? ⟨gb301, 0, none⟩ = some (.int .i64 t294) ∧ w38.cell? ⟨gb301, 1, none⟩ = some (.int .i64 t295) ∧ w38.cell? ⟨gb301, 2, none⟩ = some (.slice Ao23 t296.length co23) ∧ w38.cell? ⟨gb309, 0, none⟩ = some (.int .i64 t302) ∧ w38.cell? ⟨gb309, 1, none⟩ = some (.int .i64 t303) ∧ w38.cell? ⟨gb309, 2, none⟩ = some (.slice Ao31 t304.length co31) := hS_
        refine norm_ (a' := ?_) ?_ ?_
        rotate_left
        ·
         simp only [putAll, Act.put, List.setIfInBounds_toArray, List.set_cons_zero, List.set_cons_succ]
         rfl
        refine one_ (i := 5) (N := some 22) #[zt, zt, zt, zt, zt, zt, zf, zf, zf, zf, zt, zt, zt, zf, zf, zf, zf, zf, zf, zf, zf, zf] rfl rfl (one_of HT_.out (by kernel_rfl)) (by decide) (fun K hK => ?_)
        refine goes_ Try.func20 (by kernel_rfl) rfl #[.pointer (some ⟨gb293, 0, none⟩), .int .i64 12] (by rfl) rfl rfl zq0 ?_
        with_reducible refine (spec_l1Cur_pick.calls gb293 l0 t307 t308 12 t313 t314 t315 w _ ?side1 ?side2 A4.out).mono ?_
        (case side1 => repeat (first | (with_reducible first | exact HI293.out | apply zv1 | apply zv2 | apply zv3 | apply zv4 | apply zv5 | refine zv6 ?_ NB293_291.out _ | refine zv6 ?_ NB293_292.out _ | refine zv6 ?_ NB293_301.out _ | refine zv6 ?_ NB293_309.out _) | exact HI293.out))
        (case side2 => repeat (first | (with_reducible first | exact HB.out | apply zya | apply zyp | apply zyr | refine zys ?_ (IsS46.ge HI293.out) | refine zys ?_ GE291.out | refine zys ?_ GE292.out | refine zys ?_ GE301.out | refine zys ?_ GE309.out) | exact HB.out))
        rintro e w39 ⟨rfl, hi, hb, hk⟩
        refine ⟨_, rfl, ?_⟩
        have n0_ := zm (KeepBut.blk hk (g' := gb291) (o := zcA) (zqK BK291.out) NB291_293.out (by simp))
        have n1_ := zm (KeepBut.blk hk (g' := gb292) (o := zcB) (zqK BK292.out) NB292_293.out (by simp))
        have n2_ := zm (Kd.R_mono (Kd.R_keep (IsS46.apart (show IsS46 w _ gb293 l0 t307 t308 from by repeat (first | (with_reducible first | exact HI293.out | apply zv1 | apply zv2 | apply zv3 | apply zv4 | apply zv5 | refine zv6 ?_ NB293_291.out _ | refine zv6 ?_ NB293_292.out _ | refine zv6 ?_ NB293_301.out _ | refine zv6 ?_ NB293_309.out _) | exact HI293.out)) (zqR HO298.out) (by decide)) hk (fun _ h => h.2)) (fun _ h => h.1))
        have n3_ := zm (KeepBut.blk hk (g' := gb301) (o := .cells #[.int .i64 t294, .int .i64 t295, .slice Ao23 t296.length co23] 26 (0, 0)) (zqK BK301.out) NB301_293.out (by simp))
        have n4_ := zm (Kd.Q_mono (Kd.Q_keep (IsS46.apartQ (show IsS46 w _ gb293 l0 t307 t308 from by repeat (first | (with_reducible first | exact HI293.out | apply zv1 | apply zv2 | apply zv3 | apply zv4 | apply zv5 | refine zv6 ?_ NB293_291.out _ | refine zv6 ?_ NB293_292.out _ | refine zv6 ?_ NB293_301.out _ | refine zv6 ?_ NB293_309.out _) | exact HI293.out)) zq11 (by decide)) hk (fun _ h => h.2)) (fun _ h => h.1))
        have n5_ := zm (KeepBut.blk hk (g' := gb309) (o := .cells #[.int .i64 t302, .int .i64 t303, .slice Ao31 t304.length co31] 27 (0, 0)) (zqK BK309.out) NB309_293.out (by simp))
        have n6_ := zm (Kd.R_mono (Kd.R_keep (IsS46.apart (show IsS46 w _ gb293 l0 t307 t308 from by repeat (first | (with_reducible first | exact HI293.out | apply zv1 | apply zv2 | apply zv3 | apply zv4 | apply zv5 | refine zv6 ?_ NB293_291.out _ | refine zv6 ?_ NB293_292.out _ | refine zv6 ?_ NB293_301.out _ | refine zv6 ?_ NB293_309.out _) | exact HI293.out)) (zqR HO312.out) (by decide)) hk (fun _ h => h.2)) (fun _ h => h.1))
        have n7_ := zm (Kd.R_mono (Kd.R_keep (IsS46.apart (show IsS46 w _ gb293 l0 t307 t308 from by repeat (first | (with_reducible first | exact HI293.out | apply zv1 | apply zv2 | apply zv3 | apply zv4 | apply zv5 | refine zv6 ?_ NB293_291.out _ | refine zv6 ?_ NB293_292.out _ | refine zv6 ?_ NB293_301.out _ | refine zv6 ?_ NB293_309.out _) | exact HI293.out)) (zqR HO325.out) (by decide)) hk (fun _ h => h.2)) (fun _ h => h.1))
        have n8_ := zm (hb)
        have n9_ := zm (hi)
        clear BK291
        clear BK292
        clear HO298
        clear BK301
        clear HO306
        clear BK309
        clear HO312
        clear HO325
        clear HB
        clear HI293
        have BK291 := n0_
        have BK292 := n1_
        have HO298 := n2_
        have BK301 := n3_
        have HO306 := n4_
        have BK309 := n5_
        have HO312 := n6_
        have HO325 := n7_
        have HB := n8_
        have HI293 := n9_
        clear n0_ n1_ n2_ n3_ n4_ n5_ n6_ n7_ n8_ n9_
        (try clear hb)
        (try clear hb2)
        (try clear hk)
        (try clear hi)
        obtain ⟨Ao41, co41, eo41⟩ := Kd.R_slice HO312.out
        (first | subst eo41 | (injection eo41 with f1_ f2_ f3_; have f4_ := f1_.symm; have f5_ := f3_.symm; clear f1_ f2_ f3_; subst f4_; subst f5_))
        have q40 : ((ji5) : Int) ≤ ((y310.length : Int) : Int) := of_decide_eq_true zq6
        obtain ⟨i040, hi040, _, hsz40, _⟩ := info_parts info3
        have hroom40 : y310.length ≤ co41 := (Kd.R_reads' HO312.out).2.1
        have hC40 : Kd.C (Kd.int .i64) _ Ao41 y310.length y310 := (Kd.R_reads' HO312.out).2.2
        have hcut40 := cut_to (P := Try.prog) 24 3 .i64 Try.underlying24 hi040 Ao41 y310.length co41 (ji5) (of_decide_eq_true zq6) q40 hroom40
        have hr40 := Kd.C_take (m := ((ji5) : Int).toNat) hC40 (by omega)
        have hy40 : y316.length = ((ji5) : Int).toNat := (by rw [Ny316.out, List.length_take]; omega)
        rw [← Ny316.out] at hr40
        rw [← hy40] at hcut40
        have HR319 := zm hr40
        have HC319 := zm (show y316.length ≤ co41 from by omega)
        clear hr40 hC40 hroom40 hi040 hsz40
        have KY40 := zm hy40
        clear hy40
        have KL40 := zm (show ((ji5) : Int).toNat ≤ y310.length from by omega)
        replace q40 := eq_true q40
        refine hK.out _ _ ⟨(zyk BK301.out 0).trans rfl, (zyk BK301.out 1).trans rfl, (zyk BK301.out 2).trans rfl, (zyk BK309.out 0).trans rfl, (zyk BK309.out 1).trans rfl, (zyk BK309.out 2).trans rfl⟩ (fun hHeld => ?_)
        clear hK K
        refine norm_ (a' := ?_) ?_ ?_
        rotate_left
        ·
         show Act.put _ (some 22) _ = _
         simp only [Act.put, List.setIfInBounds_toArray, List.set_cons_zero, List.set_cons_succ, i64_w, i32_w]
         rfl
        refine zP 6 (some 23) #[zt, zt, zt, zt, zt, zt, zt, zf, zf, zf, zt, zt, zt, zf, zf, zf, zf, zf, zf, zf, zf, zf] ?_ rfl rfl HT_ (Or.inl ⟨by rfl, ?_⟩) ?_ ?_ ?_
        rotate_left; · exact zqB
        rotate_left; · exact zqA
        refine zP 7 (some 24) #[zt, zt, zt, zt, zt, zt, zt, zt, zf, zf, zt, zt, zt, zf, zf, zf, zf, zf, zf, zf, zf, zf] ?_ rfl rfl HT_ (Or.inl ⟨by rfl, ?_⟩) ?_ ?_ ?_
        rotate_left; · exact zqB
        rotate_left; · exact zqA
        refine zP 8 (some 25) #[zt, zt, zt, zt, zt, zt, zt, zt, zt, zf, zt, zt, zt, zf, zf, zf, zf, zf, zf, zf, zf, zf] ?_ rfl rfl HT_ (Or.inl ⟨by rfl, ?_⟩) ?_ ?_ ?_
        rotate_left; · exact zqB
        rotate_left; · exact zqA
        exact norm_ (by first | (simp only [putAll, Act.put, List.setIfInBounds_toArray, List.set_cons_zero, List.set_cons_succ]; done) | (simp only [putAll, Act.put, List.setIfInBounds_toArray, List.set_cons_zero, List.set_cons_succ]; rfl)) (hJ3_5_11 (.slice Ao41 y310.length co41, v324) _ ⟨hHeld, (zqR HO298.out), zq11, (zqR HO312.out), (zqR HO325.out), (zqK BK291.out), (zqK BK292.out), (zqK BK301.out), (zqK BK309.out), zq3, zq2⟩)
      ·
       skip
       rintro v311 w39 ⟨hS_, h0_, h1_, h2_, h3_, h4_, h5_, h6_, h7_, h8_⟩
       have n0_ : Aside0 (Kd.R (Kd.int .i64) 3 w39 w.heap.size (fun k_ => some k_ ≠ (.slice Ao31 t304.length co31 : Value).ownBlock ∧ some k_ ≠ (v311 : Value).ownBlock) (.slice Ao23 t296.length co23) t296) := ⟨h0_⟩
       have n1_ : Aside0 (Kd.Q (Kd.int .i64) 3 w39 w.heap.size (fun k_ => some k_ ≠ (.slice Ao23 t296.length co23 : Value).ownBlock ∧ some k_ ≠ (v311 : Value).ownBlock) (.slice Ao31 t304.length co31) t304) := ⟨h1_⟩
       have n2_ : Aside0 (Kd.R (Kd.int .i64) 3 w39 w.heap.size (fun k_ => some k_ ≠ (.slice Ao23 t296.length co23 : Value).ownBlock ∧ some k_ ≠ (.slice Ao31 t304.length co31 : Value).ownBlock) v311 y310) := ⟨h2_⟩
       have n3_ : Aside0 (w39.heap[gb291]? = some (.cells #[.int .i64 0, .int .i64 0, .slice none 0 0] 26 (0, 0))) := ⟨h3_⟩
       have n4_ : Aside0 (w39.heap[gb292]? = some (.cells #[.int .i64 0, .int .i64 0, .slice none 0 0] 27 (0, 0))) := ⟨h4_⟩
       have n5_ : Aside0 (w39.heap[gb301]? = some (.cells #[.int .i64 t294, .int .i64 t295, .slice Ao23 t296.length co23] 26 (0, 0))) := ⟨h5_⟩
       have n6_ : Aside0 (w39.heap[gb309]? = some (.cells #[.int .i64 t302, .int .i64 t303, .slice Ao31 t304.length co31] 27 (0, 0))) := ⟨h6_⟩
       have n7_ : Aside0 (IsS46 w w39 gb293 l0 t314 t315) := ⟨h7_⟩
       have n8_ : Aside0 (Below w.heap.size w w39) := ⟨h8_⟩
       clear HO298
       clear HO306
       clear BK291
       clear BK292
       clear BK301
       clear BK309
       clear HI293
       clear HB
       clear h0_ h1_ h2_ h3_ h4_ h5_ h6_ h7_ h8_
       have HO298 := n0_
       have HO306 := n1_
       have HO312 := n2_
       have BK291 := n3_
       have BK292 := n4_
       have BK301 := n5_
       have BK309 := n6_
       have HI293 := n7_
       have HB := n8_
       clear n0_ n1_ n2_ n3_ n4_ n5_ n6_ n7_ n8_
       have hHeld : w39.cell? ⟨gb301, 0, none⟩ = some (.int .i64 t294) ∧ w39.cell? ⟨gb301, 1, none⟩ = some (.int .i64 t295) ∧ w39.cell? ⟨gb301, 2, none⟩ = some (.slice Ao23 t296.length co23) ∧ w39.cell? ⟨gb309, 0, none⟩ = some (.int .i64 t302) ∧ w39.cell? ⟨gb309, 1, none⟩ = some (.int .i64 t303) ∧ w39.cell? ⟨gb309, 2, none⟩ = some (.slice Ao31 t304.length co31) := hS_
       obtain ⟨Ao41, co41, eo41⟩ := Kd.R_slice HO312.out
       (first | subst eo41 | (injection eo41 with f1_ f2_ f3_; have f4_ := f1_.symm; have f5_ := f3_.symm; clear f1_ f2_ f3_; subst f4_; subst f5_))
       have q40 : ((ji5) : Int) ≤ ((y310.length : Int) : Int) := of_decide_eq_true zq6
       obtain ⟨i040, hi040, _, hsz40, _⟩ := info_parts info3
       have hroom40 : y310.length ≤ co41 := (Kd.R_reads' HO312.out).2.1
       have hC40 : Kd.C (Kd.int .i64) _ Ao41 y310.length y310 := (Kd.R_reads' HO312.out).2.2
       have hcut40 := cut_to (P := Try.prog) 24 3 .i64 Try.underlying24 hi040 Ao41 y310.length co41 (ji5) (of_decide_eq_true zq6) q40 hroom40
       have hr40 := Kd.C_take (m := ((ji5) : Int).toNat) hC40 (by omega)
       have hy40 : y316.length = ((ji5) : Int).toNat := (by rw [Ny316.out, List.length_take]; omega)
       rw [← Ny316.out] at hr40
       rw [← hy40] at hcut40
       have HR319 := zm hr40
       have HC319 := zm (show y316.length ≤ co41 from by omega)
       clear hr40 hC40 hroom40 hi040 hsz40
       have KY40 := zm hy40
       clear hy40
       have KL40 := zm (show ((ji5) : Int).toNat ≤ y310.length from by omega)
       replace q40 := eq_true q40
       refine norm_ (a' := ?_) ?_ ?_
       rotate_left
       ·
        simp only [putAll, Act.put, List.setIfInBounds_toArray, List.set_cons_zero, List.set_cons_succ]
        rfl
       refine two_ (i := 9) (j := 11) (Ni := some 26) (Nj := some 28) #[zt, zt, zt, zt, zt, zt, zt, zt, zt, zt, zt, zf, zt, zf, zf, zf, zf, zf, zf, zf, zf, zf] #[zt, zt, zt, zt, zt, zt, zt, zt, zt, zf, zt, zt, zt, zf, zf, zf, zf, zf, zf, zf, zf, zf] rfl rfl rfl rfl (two_of HT_.out (by kernel_rfl)) (by decide) (by decide) (fun K hK => ?_) (fun K hK => ?_)
       ·
        skip
        refine goes_ Try.func19 (by kernel_rfl) rfl #[.pointer (some ⟨gb293, 0, none⟩), .slice Ao41 y316.length co41] (by rfl) rfl rfl zq0 ?_
        with_reducible refine (spec_l1Cur_among.calls gb293 l0 t314 t315 _ _ y316 t320 t321 t322 w _ ?side1 ?side2 ?side3 ?side4 ?side5 A8.out).mono ?_
        (case side1 => repeat (first | (with_reducible first | exact HI293.out | apply zv1 | apply zv2 | apply zv3 | apply zv4 | apply zv5 | refine zv6 ?_ NB293_291.out _ | refine zv6 ?_ NB293_292.out _ | refine zv6 ?_ NB293_301.out _ | refine zv6 ?_ NB293_309.out _) | exact HI293.out))
        (case side2 => repeat (first | (with_reducible first | exact HB.out | apply zya | apply zyp | apply zyr | refine zys ?_ (IsS46.ge HI293.out) | refine zys ?_ GE291.out | refine zys ?_ GE292.out | refine zys ?_ GE301.out | refine zys ?_ GE309.out) | exact HB.out))
        (case side3 => repeat (first | exact zq64 | (with_reducible refine Kd.C_alloc ?_ _) | (with_reducible refine Kd.C_drewN ?_ _) | (with_reducible refine Kd.C_drew ?_)))
        (case side4 => exact HC319.out)
        (case side5 => intro ad e_ _ q_; have o_ := HO312.out; have ne_ := IsS46.own_ne (e := 3) HI293.out o_ (by decide); rw [e_] at ne_; exact ne_ (by simp [Value.ownBlock, q_]))
        rintro e w42 ⟨rfl, hi, hb, hk⟩
        refine ⟨_, rfl, ?_⟩
        have n0_ := zm (KeepBut.blk hk (g' := gb291) (o := zcA) (zqK BK291.out) NB291_293.out (by simp))
        have n1_ := zm (KeepBut.blk hk (g' := gb292) (o := zcB) (zqK BK292.out) NB292_293.out (by simp))
        have n2_ := zm (Kd.R_mono (Kd.R_keep (IsS46.apart (show IsS46 w _ gb293 l0 t314 t315 from by repeat (first | (with_reducible first | exact HI293.out | apply zv1 | apply zv2 | apply zv3 | apply zv4 | apply zv5 | refine zv6 ?_ NB293_291.out _ | refine zv6 ?_ NB293_292.out _ | refine zv6 ?_ NB293_301.out _ | refine zv6 ?_ NB293_309.out _) | exact HI293.out)) (zqR HO298.out) (by decide)) hk (fun _ h => h.2)) (fun _ h => h.1))
        have n3_ := zm (KeepBut.blk hk (g' := gb301) (o := .cells #[.int .i64 t294, .int .i64 t295, .slice Ao23 t296.length co23] 26 (0, 0)) (zqK BK301.out) NB301_293.out (by simp))
        have n4_ := zm (Kd.Q_mono (Kd.Q_keep (IsS46.apartQ (show IsS46 w _ gb293 l0 t314 t315 from by repeat (first | (with_reducible first | exact HI293.out | apply zv1 | apply zv2 | apply zv3 | apply zv4 | apply zv5 | refine zv6 ?_ NB293_291.out _ | refine zv6 ?_ NB293_292.out _ | refine zv6 ?_ NB293_301.out _ | refine zv6 ?_ NB293_309.out _) | exact HI293.out)) zq11 (by decide)) hk (fun _ h => h.2)) (fun _ h => h.1))
        have n5_ := zm (KeepBut.blk hk (g' := gb309) (o := .cells #[.int .i64 t302, .int .i64 t303, .slice Ao31 t304.length co31] 27 (0, 0)) (zqK BK309.out) NB309_293.out (by simp))
        have n6_ := zm (Kd.R_mono (Kd.R_keep (IsS46.apart (show IsS46 w _ gb293 l0 t314 t315 from by repeat (first | (with_reducible first | exact HI293.out | apply zv1 | apply zv2 | apply zv3 | apply zv4 | apply zv5 | refine zv6 ?_ NB293_291.out _ | refine zv6 ?_ NB293_292.out _ | refine zv6 ?_ NB293_301.out _ | refine zv6 ?_ NB293_309.out _) | exact HI293.out)) (zqR HO312.out) (by decide)) hk (fun _ h => h.2)) (fun _ h => h.1))
        have n7_ := zm (hb)
        have n8_ := zm (hi)
        clear BK291
        clear BK292
        clear HO298
        clear BK301
        clear HO306
        clear BK309
        clear HO312
        clear HB
        clear HI293
        have BK291 := n0_
        have BK292 := n1_
        have HO298 := n2_
        have BK301 := n3_
        have HO306 := n4_
        have BK309 := n5_
        have HO312 := n6_
        have HB := n7_
        have HI293 := n8_
        clear n0_ n1_ n2_ n3_ n4_ n5_ n6_ n7_ n8_
        (try clear hb)
        (try clear hb2)
        (try clear hk)
        (try clear hi)
        refine hK.out _ _ ⟨(zyk BK301.out 0).trans rfl, (zyk BK301.out 1).trans rfl, (zyk BK301.out 2).trans rfl, (zyk BK309.out 0).trans rfl, (zyk BK309.out 1).trans rfl, (zyk BK309.out 2).trans rfl⟩ (fun hHeld => ?_)
        clear hK K
        refine norm_ (a' := ?_) ?_ ?_
        rotate_left
        ·
         show Act.put _ (some 26) _ = _
         simp only [Act.put, List.setIfInBounds_toArray, List.set_cons_zero, List.set_cons_succ, i64_w, i32_w]
         rfl
        exact norm_ (by first | (simp only [putAll, Act.put, List.setIfInBounds_toArray, List.set_cons_zero, List.set_cons_succ]; done) | (simp only [putAll, Act.put, List.setIfInBounds_toArray, List.set_cons_zero, List.set_cons_succ]; rfl)) (hJ3_5_9 (.slice Ao41 y310.length co41) _ ⟨hHeld, (zqR HO298.out), zq11, (zqR HO312.out), (zqK BK291.out), (zqK BK292.out), (zqK BK301.out), (zqK BK309.out), zq3, zq2⟩)
       ·
        skip
        refine Kd.R_lit_step (Kd.int .i64) _ 3 ?hg (N := 28) ?hd (xs := ([1, 33, 50, 51, 100, 0, 101] : List Int)) (inner := [.int .i64 1, .int .i64 33, .int .i64 50, .int .i64 51, .int .i64 100, .int .i64 0, .int .i64 101]) (ok := fun _ => True) (okp := fun _ => True) ?hr ?hp (fun _ hk => hk) trivial (Below.refl _ _) (Nat.le_refl _) (by simp) ?_; (case hd => rfl); (case hg => rfl); (case hr => exact zqS); (case hp => exact (Reps.one (show Kd.M (Kd.int .i64) _ _ _ 1 [.int .i64 1] from rfl) (Reps.one (show Kd.M (Kd.int .i64) _ _ _ 33 [.int .i64 33] from rfl) (Reps.one (show Kd.M (Kd.int .i64) _ _ _ 50 [.int .i64 50] from rfl) (Reps.one (show Kd.M (Kd.int .i64) _ _ _ 51 [.int .i64 51] from rfl) (Reps.one (show Kd.M (Kd.int .i64) _ _ _ 100 [.int .i64 100] from rfl) (Reps.one (show Kd.M (Kd.int .i64) _ _ _ 0 [.int .i64 0] from rfl) (Reps.one (show Kd.M (Kd.int .i64) _ _ _ 101 [.int .i64 101] from rfl) (Reps.none _ _)))))))))
        intro v324 w42 ho43 hb hg_ hnew_
        clear hg_ hnew_
        (first | rw [← Ny323.out] at ho43 | (simp only [Int.reduceToNat] at ho43; rw [← Ny323.out] at ho43))
        have n0_ := zm (Kd.R_elder' (zqR HO298.out) (Kd.R_base ho43) hb)
        have n1_ := zm (Kd.Q_elder' zq11 (Kd.R_base ho43) hb)
        have n2_ := zm (Kd.R_elder' (zqR HO312.out) (Kd.R_base ho43) hb)
        have n3_ := zm (Kd.R_lower (Kd.R_new' (Kd.R_new' (Kd.R_new' ho43 (Kd.R_lt (zqR HO298.out))) (Kd.Q_lt zq11)) (Kd.R_lt (zqR HO312.out))) (zyi zq2))
        have n4_ := zm (zyb (g := gb291) (o := zcA) (zqK BK291.out) hb)
        have n5_ := zm (zyb (g := gb292) (o := zcB) (zqK BK292.out) hb)
        have n6_ := zm (IsS46.below zq3 hb)
        have n7_ := zm (zyb (g := gb301) (o := .cells #[.int .i64 t294, .int .i64 t295, .slice Ao23 t296.length co23] 26 (0, 0)) (zqK BK301.out) hb)
        have n8_ := zm (zyb (g := gb309) (o := .cells #[.int .i64 t302, .int .i64 t303, .slice Ao31 t304.length co31] 27 (0, 0)) (zqK BK309.out) hb)
        have n9_ := zm (Kd.C_below zq64 hb)
        have n10_ := zm (zyh zq2 hb)
        clear HO298
        clear HO306
        clear HO312
        clear BK291
        clear BK292
        clear HI293
        clear BK301
        clear BK309
        clear HR319
        clear HB
        have HO298 := n0_
        have HO306 := n1_
        have HO312 := n2_
        have HO325 := n3_
        have BK291 := n4_
        have BK292 := n5_
        have HI293 := n6_
        have BK301 := n7_
        have BK309 := n8_
        have HR319 := n9_
        have HB := n10_
        clear n0_ n1_ n2_ n3_ n4_ n5_ n6_ n7_ n8_ n9_ n10_
        clear hb ho43
        refine hK.out _ _ ⟨(zyk BK301.out 0).trans rfl, (zyk BK301.out 1).trans rfl, (zyk BK301.out 2).trans rfl, (zyk BK309.out 0).trans rfl, (zyk BK309.out 1).trans rfl, (zyk BK309.out 2).trans rfl⟩ (fun hHeld => ?_)
        clear hK K
        refine norm_ (a' := ?_) ?_ ?_
        rotate_left
        ·
         show Act.put _ (some 28) _ = _
         simp only [Act.put, List.setIfInBounds_toArray, List.set_cons_zero, List.set_cons_succ, i64_w, i32_w]
         rfl
        exact norm_ (by first | (simp only [putAll, Act.put, List.setIfInBounds_toArray, List.set_cons_zero, List.set_cons_succ]; done) | (simp only [putAll, Act.put, List.setIfInBounds_toArray, List.set_cons_zero, List.set_cons_succ]; rfl)) (hJ3_5_11 (.slice Ao41 y310.length co41, v324) _ ⟨hHeld, zq91, zq92, zq93, zq90, (zqK BK291.out), (zqK BK292.out), (zqK BK301.out), (zqK BK309.out), zq3, zq2⟩)
     ·
      skip
      rintro ⟨v311, v324⟩ w41 ⟨hS_, h0_, h1_, h2_, h3_, h4_, h5_, h6_, h7_, h8_, h9_⟩
      have n0_ : Aside0 (Kd.R (Kd.int .i64) 3 w41 w.heap.size (fun k_ => some k_ ≠ (.slice Ao31 t304.length co31 : Value).ownBlock ∧ some k_ ≠ (v311 : Value).ownBlock ∧ some k_ ≠ (v324 : Value).ownBlock) (.slice Ao23 t296.length co23) t296) := ⟨h0_⟩
      have n1_ : Aside0 (Kd.Q (Kd.int .i64) 3 w41 w.heap.size (fun k_ => some k_ ≠ (.slice Ao23 t296.length co23 : Value).ownBlock ∧ some k_ ≠ (v311 : Value).ownBlock ∧ some k_ ≠ (v324 : Value).ownBlock) (.slice Ao31 t304.length co31) t304) := ⟨h1_⟩
      have n2_ : Aside0 (Kd.R (Kd.int .i64) 3 w41 w.heap.size (fun k_ => some k_ ≠ (.slice Ao23 t296.length co23 : Value).ownBlock ∧ some k_ ≠ (.slice Ao31 t304.length co31 : Value).ownBlock ∧ some k_ ≠ (v324 : Value).ownBlock) v311 y310) := ⟨h2_⟩
      have n3_ : Aside0 (Kd.R (Kd.int .i64) 3 w41 w.heap.size (fun k_ => some k_ ≠ (.slice Ao23 t296.length co23 : Value).ownBlock ∧ some k_ ≠ (.slice Ao31 t304.length co31 : Value).ownBlock ∧ some k_ ≠ (v311 : Value).ownBlock) v324 y323) := ⟨h3_⟩
      have n4_ : Aside0 (w41.heap[gb291]? = some (.cells #[.int .i64 0, .int .i64 0, .slice none 0 0] 26 (0, 0))) := ⟨h4_⟩
      have n5_ : Aside0 (w41.heap[gb292]? = some (.cells #[.int .i64 0, .int .i64 0, .slice none 0 0] 27 (0, 0))) := ⟨h5_⟩
      have n6_ : Aside0 (w41.heap[gb301]? = some (.cells #[.int .i64 t294, .int .i64 t295, .slice Ao23 t296.length co23] 26 (0, 0))) := ⟨h6_⟩
      have n7_ : Aside0 (w41.heap[gb309]? = some (.cells #[.int .i64 t302, .int .i64 t303, .slice Ao31 t304.length co31] 27 (0, 0))) := ⟨h7_⟩
      have n8_ : Aside0 (IsS46 w w41 gb293 l0 t314 t315) := ⟨h8_⟩
      have n9_ : Aside0 (Below w.heap.size w w41) := ⟨h9_⟩
      clear HO298
      clear HO306
      clear BK291
      clear BK292
      clear BK301
      clear BK309
      clear HI293
      clear HB
      clear h0_ h1_ h2_ h3_ h4_ h5_ h6_ h7_ h8_ h9_
      have HO298 := n0_
      have HO306 := n1_
      have HO312 := n2_
      have HO325 := n3_
      have BK291 := n4_
      have BK292 := n5_
      have BK301 := n6_
      have BK309 := n7_
      have HI293 := n8_
      have HB := n9_
      clear n0_ n1_ n2_ n3_ n4_ n5_ n6_ n7_ n8_ n9_
      have hHeld : w41.cell? ⟨gb301, 0, none⟩ = some (.int .i64 t294) ∧ w41.cell? ⟨gb301, 1, none⟩ = some (.int .i64 t295) ∧ w41.cell? ⟨gb301, 2, none⟩ = some (.slice Ao23 t296.length co23) ∧ w41.cell? ⟨gb309, 0, none⟩ = some (.int .i64 t302) ∧ w41.cell? ⟨gb309, 1, none⟩ = some (.int .i64 t303) ∧ w41.cell? ⟨gb309, 2, none⟩ = some (.slice Ao31 t304.length co31) := hS_
      obtain ⟨Ao43, co43, eo43⟩ := Kd.R_slice HO312.out
      (first | subst eo43 | (injection eo43 with f1_ f2_ f3_; have f4_ := f1_.symm; have f5_ := f3_.symm; clear f1_ f2_ f3_; subst f4_; subst f5_))
      have q42 : ((ji5) : Int) ≤ ((y310.length : Int) : Int) := of_decide_eq_true zq6
      obtain ⟨i042, hi042, _, hsz42, _⟩ := info_parts info3
      have hroom42 : y310.length ≤ co43 := (Kd.R_reads' HO312.out).2.1
      have hC42 : Kd.C (Kd.int .i64) _ Ao43 y310.length y310 := (Kd.R_reads' HO312.out).2.2
      have hcut42 := cut_to (P := Try.prog) 24 3 .i64 Try.underlying24 hi042 Ao43 y310.length co43 (ji5) (of_decide_eq_true zq6) q42 hroom42
      have hr42 := Kd.C_take (m := ((ji5) : Int).toNat) hC42 (by omega)
      have hy42 : y316.length = ((ji5) : Int).toNat := (by rw [Ny316.out, List.length_take]; omega)
      rw [← Ny316.out] at hr42
      rw [← hy42] at hcut42
      have HR319 := zm hr42
      have HC319 := zm (show y316.length ≤ co43 from by omega)
      clear hr42 hC42 hroom42 hi042 hsz42
      have KY42 := zm hy42
      clear hy42
      have KL42 := zm (show ((ji5) : Int).toNat ≤ y310.length from by omega)
      replace q42 := eq_true q42
      refine norm_ (a' := ?_) ?_ ?_
      rotate_left
      ·
       simp only [putAll, Act.put, List.setIfInBounds_toArray, List.set_cons_zero, List.set_cons_succ]
       rfl
      refine one_ (i := 9) (N := some 26) #[zt, zt, zt, zt, zt, zt, zt, zt, zt, zt, zt, zt, zt, zf, zf, zf, zf, zf, zf, zf, zf, zf] rfl rfl (one_of HT_.out (by kernel_rfl)) (by decide) (fun K hK => ?_)
      refine goes_ Try.func19 (by kernel_rfl) rfl #[.pointer (some ⟨gb293, 0, none⟩), .slice Ao43 y316.length co43] (by rfl) rfl rfl zq0 ?_
      with_reducible refine (spec_l1Cur_among.calls gb293 l0 t314 t315 _ _ y316 t320 t321 t322 w _ ?side1 ?side2 ?side3 ?side4 ?side5 A8.out).mono ?_
      (case side1 => repeat (first | (with_reducible first | exact HI293.out | apply zv1 | apply zv2 | apply zv3 | apply zv4 | apply zv5 | refine zv6 ?_ NB293_291.out _ | refine zv6 ?_ NB293_292.out _ | refine zv6 ?_ NB293_301.out _ | refine zv6 ?_ NB293_309.out _) | exact HI293.out))
      (case side2 => repeat (first | (with_reducible first | exact HB.out | apply zya | apply zyp | apply zyr | refine zys ?_ (IsS46.ge HI293.out) | refine zys ?_ GE291.out | refine zys ?_ GE292.out | refine zys ?_ GE301.out | refine zys ?_ GE309.out) | exact HB.out))
      (case side3 => repeat (first | exact zq64 | (with_reducible refine Kd.C_alloc ?_ _) | (with_reducible refine Kd.C_drewN ?_ _) | (with_reducible refine Kd.C_drew ?_)))
      (case side4 => exact HC319.out)
      (case side5 => intro ad e_ _ q_; have o_ := HO312.out; have ne_ := IsS46.own_ne (e := 3) HI293.out o_ (by decide); rw [e_] at ne_; exact ne_ (by simp [Value.ownBlock, q_]))
      rintro e w44 ⟨rfl, hi, hb, hk⟩
      refine ⟨_, rfl, ?_⟩
      have n0_ := zm (KeepBut.blk hk (g' := gb291) (o := zcA) (zqK BK291.out) NB291_293.out (by simp))
      have n1_ := zm (KeepBut.blk hk (g' := gb292) (o := zcB) (zqK BK292.out) NB292_293.out (by simp))
      have n2_ := zm (Kd.R_mono (Kd.R_keep (IsS46.apart (show IsS46 w _ gb293 l0 t314 t315 from by repeat (first | (with_reducible first | exact HI293.out | apply zv1 | apply zv2 | apply zv3 | apply zv4 | apply zv5 | refine zv6 ?_ NB293_291.out _ | refine zv6 ?_ NB293_292.out _ | refine zv6 ?_ NB293_301.out _ | refine zv6 ?_ NB293_309.out _) | exact HI293.out)) (zqR HO298.out) (by decide)) hk (fun _ h => h.2)) (fun _ h => h.1))
      have n3_ := zm (KeepBut.blk hk (g' := gb301) (o := .cells #[.int .i64 t294, .int .i64 t295, .slice Ao23 t296.length co23] 26 (0, 0)) (zqK BK301.out) NB301_293.out (by simp))
      have n4_ := zm (Kd.Q_mono (Kd.Q_keep (IsS46.apartQ (show IsS46 w _ gb293 l0 t314 t315 from by repeat (first | (with_reducible first | exact HI293.out | apply zv1 | apply zv2 | apply zv3 | apply zv4 | apply zv5 | refine zv6 ?_ NB293_291.out _ | refine zv6 ?_ NB293_292.out _ | refine zv6 ?_ NB293_301.out _ | refine zv6 ?_ NB293_309.out _) | exact HI293.out)) zq11 (by decide)) hk (fun _ h => h.2)) (fun _ h => h.1))
      have n5_ := zm (KeepBut.blk hk (g' := gb309) (o := .cells #[.int .i64 t302, .int .i64 t303, .slice Ao31 t304.length co31] 27 (0, 0)) (zqK BK309.out) NB309_293.out (by simp))
      have n6_ := zm (Kd.R_mono (Kd.R_keep (IsS46.apart (show IsS46 w _ gb293 l0 t314 t315 from by repeat (first | (with_reducible first | exact HI293.out | apply zv1 | apply zv2 | apply zv3 | apply zv4 | apply zv5 | refine zv6 ?_ NB293_291.out _ | refine zv6 ?_ NB293_292.out _ | refine zv6 ?_ NB293_301.out _ | refine zv6 ?_ NB293_309.out _) | exact HI293.out)) (zqR HO312.out) (by decide)) hk (fun _ h => h.2)) (fun _ h => h.1))
      have n7_ := zm (Kd.R_mono (Kd.R_keep (IsS46.apart (show IsS46 w _ gb293 l0 t314 t315 from by repeat (first | (with_reducible first | exact HI293.out | apply zv1 | apply zv2 | apply zv3 | apply zv4 | apply zv5 | refine zv6 ?_ NB293_291.out _ | refine zv6 ?_ NB293_292.out _ | refine zv6 ?_ NB293_301.out _ | refine zv6 ?_ NB293_309.out _) | exact HI293.out)) (zqR HO325.out) (by decide)) hk (fun _ h => h.2)) (fun _ h => h.1))
      have n8_ := zm (hb)
      have n9_ := zm (hi)
      clear BK291
      clear BK292
      clear HO298
      clear BK301
      clear HO306
      clear BK309
      clear HO312
      clear HO325
      clear HB
      clear HI293
      have BK291 := n0_
      have BK292 := n1_
      have HO298 := n2_
      have BK301 := n3_
      have HO306 := n4_
      have BK309 := n5_
      have HO312 := n6_
      have HO325 := n7_
      have HB := n8_
      have HI293 := n9_
      clear n0_ n1_ n2_ n3_ n4_ n5_ n6_ n7_ n8_ n9_
      (try clear hb)
      (try clear hb2)
      (try clear hk)
      (try clear hi)
      refine hK.out _ _ ⟨(zyk BK301.out 0).trans rfl, (zyk BK301.out 1).trans rfl, (zyk BK301.out 2).trans rfl, (zyk BK309.out 0).trans rfl, (zyk BK309.out 1).trans rfl, (zyk BK309.out 2).trans rfl⟩ (fun hHeld => ?_)
      clear hK K
      refine norm_ (a' := ?_) ?_ ?_
      rotate_left
      ·
       show Act.put _ (some 26) _ = _
       simp only [Act.put, List.setIfInBounds_toArray, List.set_cons_zero, List.set_cons_succ, i64_w, i32_w]
       rfl
      exact norm_ (by first | (simp only [putAll, Act.put, List.setIfInBounds_toArray, List.set_cons_zero, List.set_cons_succ]; done) | (simp only [putAll, Act.put, List.setIfInBounds_toArray, List.set_cons_zero, List.set_cons_succ]; rfl)) (hJ3_5_9_11 (.slice Ao43 y310.length co43, v324) _ ⟨hHeld, (zqR HO298.out), zq11, (zqR HO312.out), (zqR HO325.out), (zqK BK291.out), (zqK BK292.out), (zqK BK301.out), (zqK BK309.out), zq3, zq2⟩)
    ·
     skip
     rintro v311 w40 ⟨hS_, h0_, h1_, h2_, h3_, h4_, h5_, h6_, h7_, h8_⟩
     have n0_ : Aside0 (Kd.R (Kd.int .i64) 3 w40 w.heap.size (fun k_ => some k_ ≠ (.slice Ao31 t304.length co31 : Value).ownBlock ∧ some k_ ≠ (v311 : Value).ownBlock) (.slice Ao23 t296.length co23) t296) := ⟨h0_⟩
     have n1_ : Aside0 (Kd.Q (Kd.int .i64) 3 w40 w.heap.size (fun k_ => some k_ ≠ (.slice Ao23 t296.length co23 : Value).ownBlock ∧ some k_ ≠ (v311 : Value).ownBlock) (.slice Ao31 t304.length co31) t304) := ⟨h1_⟩
     have n2_ : Aside0 (Kd.R (Kd.int .i64) 3 w40 w.heap.size (fun k_ => some k_ ≠ (.slice Ao23 t296.length co23 : Value).ownBlock ∧ some k_ ≠ (.slice Ao31 t304.length co31 : Value).ownBlock) v311 y310) := ⟨h2_⟩
     have n3_ : Aside0 (w40.heap[gb291]? = some (.cells #[.int .i64 0, .int .i64 0, .slice none 0 0] 26 (0, 0))) := ⟨h3_⟩
     have n4_ : Aside0 (w40.heap[gb292]? = some (.cells #[.int .i64 0, .int .i64 0, .slice none 0 0] 27 (0, 0))) := ⟨h4_⟩
     have n5_ : Aside0 (w40.heap[gb301]? = some (.cells #[.int .i64 t294, .int .i64 t295, .slice Ao23 t296.length co23] 26 (0, 0))) := ⟨h5_⟩
     have n6_ : Aside0 (w40.heap[gb309]? = some (.cells #[.int .i64 t302, .int .i64 t303, .slice Ao31 t304.length co31] 27 (0, 0))) := ⟨h6_⟩
     have n7_ : Aside0 (IsS46 w w40 gb293 l0 t321 t322) := ⟨h7_⟩
     have n8_ : Aside0 (Below w.heap.size w w40) := ⟨h8_⟩
     clear HO298
     clear HO306
     clear BK291
     clear BK292
     clear BK301
     clear BK309
     clear HI293
     clear HB
     clear h0_ h1_ h2_ h3_ h4_ h5_ h6_ h7_ h8_
     have HO298 := n0_
     have HO306 := n1_
     have HO312 := n2_
     have BK291 := n3_
     have BK292 := n4_
     have BK301 := n5_
     have BK309 := n6_
     have HI293 := n7_
     have HB := n8_
     clear n0_ n1_ n2_ n3_ n4_ n5_ n6_ n7_ n8_
     have hHeld : w40.cell? ⟨gb301, 0, none⟩ = some (.int .i64 t294) ∧ w40.cell? ⟨gb301, 1, none⟩ = some (.int .i64 t295) ∧ w40.cell? ⟨gb301, 2, none⟩ = some (.slice Ao23 t296.length co23) ∧ w40.cell? ⟨gb309, 0, none⟩ = some (.int .i64 t302) ∧ w40.cell? ⟨gb309, 1, none⟩ = some (.int .i64 t303) ∧ w40.cell? ⟨gb309, 2, none⟩ = some (.slice Ao31 t304.length co31) := hS_
     obtain ⟨Ao42, co42, eo42⟩ := Kd.R_slice HO312.out
     (first | subst eo42 | (injection eo42 with f1_ f2_ f3_; have f4_ := f1_.symm; have f5_ := f3_.symm; clear f1_ f2_ f3_; subst f4_; subst f5_))
     have q41 : ((ji5) : Int) ≤ ((y310.length : Int) : Int) := of_decide_eq_true zq6
     obtain ⟨i041, hi041, _, hsz41, _⟩ := info_parts info3
     have hroom41 : y310.length ≤ co42 := (Kd.R_reads' HO312.out).2.1
     have hC41 : Kd.C (Kd.int .i64) _ Ao42 y310.length y310 := (Kd.R_reads' HO312.out).2.2
     have hcut41 := cut_to (P := Try.prog) 24 3 .i64 Try.underlying24 hi041 Ao42 y310.length co42 (ji5) (of_decide_eq_true zq6) q41 hroom41
     have hr41 := Kd.C_take (m := ((ji5) : Int).toNat) hC41 (by omega)
     have hy41 : y316.length = ((ji5) : Int).toNat := (by rw [Ny316.out, List.length_take]; omega)
     rw [← Ny316.out] at hr41
     rw [← hy41] at hcut41
     have HR319 := zm hr41
     have HC319 := zm (show y316.length ≤ co42 from by omega)
     clear hr41 hC41 hroom41 hi041 hsz41
     have KY41 := zm hy41
     clear hy41
     have KL41 := zm (show ((ji5) : Int).toNat ≤ y310.length from by omega)
     replace q41 := eq_true q41
     refine norm_ (a' := ?_) ?_ ?_
     rotate_left
     ·
      simp only [putAll, Act.put, List.setIfInBounds_toArray, List.set_cons_zero, List.set_cons_succ]
      rfl
     refine two_ (i := 11) (j := 13) (Ni := some 28) (Nj := some 30) #[zt, zt, zt, zt, zt, zt, zt, zt, zt, zt, zt, zt, zt, zf, zf, zf, zf, zf, zf, zf, zf, zf] #[zt, zt, zt, zt, zt, zt, zt, zt, zt, zt, zt, zf, zt, zt, zf, zf, zf, zf, zf, zf, zf, zf] rfl rfl rfl rfl (two_of HT_.out (by kernel_rfl)) (by decide) (by decide) (fun K hK => ?_) (fun K hK => ?_)
     ·
      skip
      refine Kd.R_lit_step (Kd.int .i64) _ 3 ?hg (N := 28) ?hd (xs := ([1, 33, 50, 51, 100, 0, 101] : List Int)) (inner := [.int .i64 1, .int .i64 33, .int .i64 50, .int .i64 51, .int .i64 100, .int .i64 0, .int .i64 101]) (ok := fun _ => True) (okp := fun _ => True) ?hr ?hp (fun _ hk => hk) trivial (Below.refl _ _) (Nat.le_refl _) (by simp) ?_; (case hd => rfl); (case hg => rfl); (case hr => exact zqS); (case hp => exact (Reps.one (show Kd.M (Kd.int .i64) _ _ _ 1 [.int .i64 1] from rfl) (Reps.one (show Kd.M (Kd.int .i64) _ _ _ 33 [.int .i64 33] from rfl) (Reps.one (show Kd.M (Kd.int .i64) _ _ _ 50 [.int .i64 50] from rfl) (Reps.one (show Kd.M (Kd.int .i64) _ _ _ 51 [.int .i64 51] from rfl) (Reps.one (show Kd.M (Kd.int .i64) _ _ _ 100 [.int .i64 100] from rfl) (Reps.one (show Kd.M (Kd.int .i64) _ _ _ 0 [.int .i64 0] from rfl) (Reps.one (show Kd.M (Kd.int .i64) _ _ _ 101 [.int .i64 101] from rfl) (Reps.none _ _)))))))))
      intro v324 w43 ho44 hb hg_ hnew_
      clear hg_ hnew_
      (first | rw [← Ny323.out] at ho44 | (simp only [Int.reduceToNat] at ho44; rw [← Ny323.out] at ho44))
      have n0_ := zm (Kd.R_elder' (zqR HO298.out) (Kd.R_base ho44) hb)
      have n1_ := zm (Kd.Q_elder' zq11 (Kd.R_base ho44) hb)
      have n2_ := zm (Kd.R_elder' (zqR HO312.out) (Kd.R_base ho44) hb)
      have n3_ := zm (Kd.R_lower (Kd.R_new' (Kd.R_new' (Kd.R_new' ho44 (Kd.R_lt (zqR HO298.out))) (Kd.Q_lt zq11)) (Kd.R_lt (zqR HO312.out))) (zyi zq2))
      have n4_ := zm (zyb (g := gb291) (o := zcA) (zqK BK291.out) hb)
      have n5_ := zm (zyb (g := gb292) (o := zcB) (zqK BK292.out) hb)
      have n6_ := zm (IsS46.below zq3 hb)
      have n7_ := zm (zyb (g := gb301) (o := .cells #[.int .i64 t294, .int .i64 t295, .slice Ao23 t296.length co23] 26 (0, 0)) (zqK BK301.out) hb)
      have n8_ := zm (zyb (g := gb309) (o := .cells #[.int .i64 t302, .int .i64 t303, .slice Ao31 t304.length co31] 27 (0, 0)) (zqK BK309.out) hb)
      have n9_ := zm (Kd.C_below zq64 hb)
      have n10_ := zm (zyh zq2 hb)
      clear HO298
      clear HO306
      clear HO312
      clear BK291
      clear BK292
      clear HI293
      clear BK301
      clear BK309
      clear HR319
      clear HB
      have HO298 := n0_
      have HO306 := n1_
      have HO312 := n2_
      have HO325 := n3_
      have BK291 := n4_
      have BK292 := n5_
      have HI293 := n6_
      have BK301 := n7_
      have BK309 := n8_
      have HR319 := n9_
      have HB := n10_
      clear n0_ n1_ n2_ n3_ n4_ n5_ n6_ n7_ n8_ n9_ n10_
      clear hb ho44
      refine hK.out _ _ ⟨(zyk BK301.out 0).trans rfl, (zyk BK301.out 1).trans rfl, (zyk BK301.out 2).trans rfl, (zyk BK309.out 0).trans rfl, (zyk BK309.out 1).trans rfl, (zyk BK309.out 2).trans rfl⟩ (fun hHeld => ?_)
      clear hK K
      refine norm_ (a' := ?_) ?_ ?_
      rotate_left
      ·
       show Act.put _ (some 28) _ = _
       simp only [Act.put, List.setIfInBounds_toArray, List.set_cons_zero, List.set_cons_succ, i64_w, i32_w]
       rfl
      exact norm_ (by first | (simp only [putAll, Act.put, List.setIfInBounds_toArray, List.set_cons_zero, List.set_cons_succ]; done) | (simp only [putAll, Act.put, List.setIfInBounds_toArray, List.set_cons_zero, List.set_cons_succ]; rfl)) (hJ3_5_9_11 (.slice Ao42 y310.length co42, v324) _ ⟨hHeld, zq91, zq92, zq93, zq90, (zqK BK291.out), (zqK BK292.out), (zqK BK301.out), (zqK BK309.out), zq3, zq2⟩)
     ·
      skip
      refine goes_ Try.func20 (by kernel_rfl) rfl #[.pointer (some ⟨gb293, 0, none⟩), .int .i64 24] (by rfl) rfl rfl zq0 ?_
      with_reducible refine (spec_l1Cur_pick.calls gb293 l0 t321 t322 24 t326 t327 t328 w _ ?side1 ?side2 A9.out).mono ?_
      (case side1 => repeat (first | (with_reducible first | exact HI293.out | apply zv1 | apply zv2 | apply zv3 | apply zv4 | apply zv5 | refine zv6 ?_ NB293_291.out _ | refine zv6 ?_ NB293_292.out _ | refine zv6 ?_ NB293_301.out _ | refine zv6 ?_ NB293_309.out _) | exact HI293.out))
      (case side2 => repeat (first | (with_reducible first | exact HB.out | apply zya | apply zyp | apply zyr | refine zys ?_ (IsS46.ge HI293.out) | refine zys ?_ GE291.out | refine zys ?_ GE292.out | refine zys ?_ GE301.out | refine zys ?_ GE309.out) | exact HB.out))
      rintro e w43 ⟨rfl, hi, hb, hk⟩
      refine ⟨_, rfl, ?_⟩
      have n0_ := zm (KeepBut.blk hk (g' := gb291) (o := zcA) (zqK BK291.out) NB291_293.out (by simp))
      have n1_ := zm (KeepBut.blk hk (g' := gb292) (o := zcB) (zqK BK292.out) NB292_293.out (by simp))
      have n2_ := zm (Kd.R_mono (Kd.R_keep (IsS46.apart (show IsS46 w _ gb293 l0 t321 t322 from by repeat (first | (with_reducible first | exact HI293.out | apply zv1 | apply zv2 | apply zv3 | apply zv4 | apply zv5 | refine zv6 ?_ NB293_291.out _ | refine zv6 ?_ NB293_292.out _ | refine zv6 ?_ NB293_301.out _ | refine zv6 ?_ NB293_309.out _) | exact HI293.out)) (zqR HO298.out) (by decide)) hk (fun _ h => h.2)) (fun _ h => h.1))
      have n3_ := zm (KeepBut.blk hk (g' := gb301) (o := .cells #[.int .i64 t294, .int .i64 t295, .slice Ao23 t296.length co23] 26 (0, 0)) (zqK BK301.out) NB301_293.out (by simp))
      have n4_ := zm (Kd.Q_mono (Kd.Q_keep (IsS46.apartQ (show IsS46 w _ gb293 l0 t321 t322 from by repeat (first | (with_reducible first | exact HI293.out | apply zv1 | apply zv2 | apply zv3 | apply zv4 | apply zv5 | refine zv6 ?_ NB293_291.out _ | refine zv6 ?_ NB293_292.out _ | refine zv6 ?_ NB293_301.out _ | refine zv6 ?_ NB293_309.out _) | exact HI293.out)) zq11 (by decide)) hk (fun _ h => h.2)) (fun _ h => h.1))
      have n5_ := zm (KeepBut.blk hk (g' := gb309) (o := .cells #[.int .i64 t302, .int .i64 t303, .slice Ao31 t304.length co31] 27 (0, 0)) (zqK BK309.out) NB309_293.out (by simp))
      have n6_ := zm (Kd.R_mono (Kd.R_keep (IsS46.apart (show IsS46 w _ gb293 l0 t321 t322 from by repeat (first | (with_reducible first | exact HI293.out | apply zv1 | apply zv2 | apply zv3 | apply zv4 | apply zv5 | refine zv6 ?_ NB293_291.out _ | refine zv6 ?_ NB293_292.out _ | refine zv6 ?_ NB293_301.out _ | refine zv6 ?_ NB293_309.out _) | exact HI293.out)) (zqR HO312.out) (by decide)) hk (fun _ h => h.2)) (fun _ h => h.1))
      have n7_ := zm (hb)
      have n8_ := zm (hi)
      clear BK291
      clear BK292
      clear HO298
      clear BK301
      clear HO306
      clear BK309
      clear HO312
      clear HB
      clear HI293
      have BK291 := n0_
      have BK292 := n1_
      have HO298 := n2_
      have BK301 := n3_
      have HO306 := n4_
      have BK309 := n5_
      have HO312 := n6_
      have HB := n7_
      have HI293 := n8_
      clear n0_ n1_ n2_ n3_ n4_ n5_ n6_ n7_ n8_
      (try clear hb)
      (try clear hb2)
      (try clear hk)
      (try clear hi)
      refine hK.out _ _ ⟨(zyk BK301.out 0).trans rfl, (zyk BK301.out 1).trans rfl, (zyk BK301.out 2).trans rfl, (zyk BK309.out 0).trans rfl, (zyk BK309.out 1).trans rfl, (zyk BK309.out 2).trans rfl⟩ (fun hHeld => ?_)
      clear hK K
      refine norm_ (a' := ?_) ?_ ?_
      rotate_left
      ·
       show Act.put _ (some 30) _ = _
       simp only [Act.put, List.setIfInBounds_toArray, List.set_cons_zero, List.set_cons_succ, i64_w, i32_w]
       rfl
      refine zP 14 (some 31) #[zt, zt, zt, zt, zt, zt, zt, zt, zt, zt, zt, zf, zt, zt, zt, zf, zf, zf, zf, zf, zf, zf] ?_ rfl rfl HT_ (Or.inl ⟨by rfl, ?_⟩) ?_ ?_ ?_
      rotate_left; · exact zqB
      rotate_left; · exact zqA
      refine zP 15 (some 32) #[zt, zt, zt, zt, zt, zt, zt, zt, zt, zt, zt, zf, zt, zt, zt, zt, zf, zf, zf, zf, zf, zf] ?_ rfl rfl HT_ (Or.inl ⟨by rfl, ?_⟩) ?_ ?_ ?_
      rotate_left; · exact zqB
      rotate_left; · exact zqA
      exact norm_ (by first | (simp only [putAll, Act.put, List.setIfInBounds_toArray, List.set_cons_zero, List.set_cons_succ]; done) | (simp only [putAll, Act.put, List.setIfInBounds_toArray, List.set_cons_zero, List.set_cons_succ]; rfl)) (hJ3_5_9_13 (.slice Ao42 y310.length co42) _ ⟨hHeld, (zqR HO298.out), zq11, (zqR HO312.out), (zqK BK291.out), (zqK BK292.out), (zqK BK301.out), (zqK BK309.out), zq3, zq2⟩)
   ·
    skip
    rintro v311 w41 ⟨hS_, h0_, h1_, h2_, h3_, h4_, h5_, h6_, h7_, h8_⟩
    have n0_ : Aside0 (Kd.R (Kd.int .i64) 3 w41 w.heap.size (fun k_ => some k_ ≠ (.slice Ao31 t304.length co31 : Value).ownBlock ∧ some k_ ≠ (v311 : Value).ownBlock) (.slice Ao23 t296.length co23) t296) := ⟨h0_⟩
    have n1_ : Aside0 (Kd.Q (Kd.int .i64) 3 w41 w.heap.size (fun k_ => some k_ ≠ (.slice Ao23 t296.length co23 : Value).ownBlock ∧ some k_ ≠ (v311 : Value).ownBlock) (.slice Ao31 t304.length co31) t304) := ⟨h1_⟩
    have n2_ : Aside0 (Kd.R (Kd.int .i64) 3 w41 w.heap.size (fun k_ => some k_ ≠ (.slice Ao23 t296.length co23 : Value).ownBlock ∧ some k_ ≠ (.slice Ao31 t304.length co31 : Value).ownBlock) v311 y310) := ⟨h2_⟩
    have n3_ : Aside0 (w41.heap[gb291]? = some (.cells #[.int .i64 0, .int .i64 0, .slice none 0 0] 26 (0, 0))) := ⟨h3_⟩
    have n4_ : Aside0 (w41.heap[gb292]? = some (.cells #[.int .i64 0, .int .i64 0, .slice none 0 0] 27 (0, 0))) := ⟨h4_⟩
    have n5_ : Aside0 (w41.heap[gb301]? = some (.cells #[.int .i64 t294, .int .i64 t295, .slice Ao23 t296.length co23] 26 (0, 0))) := ⟨h5_⟩
    have n6_ : Aside0 (w41.heap[gb309]? = some (.cells #[.int .i64 t302, .int .i64 t303, .slice Ao31 t304.length co31] 27 (0, 0))) := ⟨h6_⟩
    have n7_ : Aside0 (IsS46 w w41 gb293 l0 t327 t328) := ⟨h7_⟩
    have n8_ : Aside0 (Below w.heap.size w w41) := ⟨h8_⟩
    clear HO298
    clear HO306
    clear BK291
    clear BK292
    clear BK301
    clear BK309
    clear HI293
    clear HB
    clear h0_ h1_ h2_ h3_ h4_ h5_ h6_ h7_ h8_
    have HO298 := n0_
    have HO306 := n1_
    have HO312 := n2_
    have BK291 := n3_
    have BK292 := n4_
    have BK301 := n5_
    have BK309 := n6_
    have HI293 := n7_
    have HB := n8_
    clear n0_ n1_ n2_ n3_ n4_ n5_ n6_ n7_ n8_
    have hHeld : w41.cell? ⟨gb301, 0, none⟩ = some (.int .i64 t294) ∧ w41.cell? ⟨gb301, 1, none⟩ = some (.int .i64 t295) ∧ w41.cell? ⟨gb301, 2, none⟩ = some (.slice Ao23 t296.length co23) ∧ w41.cell? ⟨gb309, 0, none⟩ = some (.int .i64 t302) ∧ w41.cell? ⟨gb309, 1, none⟩ = some (.int .i64 t303) ∧ w41.cell? ⟨gb309, 2, none⟩ = some (.slice Ao31 t304.length co31) := hS_
    obtain ⟨Ao43, co43, eo43⟩ := Kd.R_slice HO312.out
    (first | subst eo43 | (injection eo43 with f1_ f2_ f3_; have f4_ := f1_.symm; have f5_ := f3_.symm; clear f1_ f2_ f3_; subst f4_; subst f5_))
    have q42 : ((ji5) : Int) ≤ ((y310.length : Int) : Int) := of_decide_eq_true zq6
    obtain ⟨i042, hi042, _, hsz42, _⟩ := info_parts info3
    have hroom42 : y310.length ≤ co43 := (Kd.R_reads' HO312.out).2.1
    have hC42 : Kd.C (Kd.int .i64) _ Ao43 y310.length y310 := (Kd.R_reads' HO312.out).2.2
    have hcut42 := cut_to (P := Try.prog) 24 3 .i64 Try.underlying24 hi042 Ao43 y310.length co43 (ji5) (of_decide_eq_true zq6) q42 hroom42
    have hr42 := Kd.C_take (m := ((ji5) : Int).toNat) hC42 (by omega)
    have hy42 : y316.length = ((ji5) : Int).toNat := (by rw [Ny316.out, List.length_take]; omega)
    rw [← Ny316.out] at hr42
    rw [← hy42] at hcut42
    have HR319 := zm hr42
    have HC319 := zm (show y316.length ≤ co43 from by omega)
    clear hr42 hC42 hroom42 hi042 hsz42
    have KY42 := zm hy42
    clear hy42
    have KL42 := zm (show ((ji5) : Int).toNat ≤ y310.length from by omega)
    replace q42 := eq_true q42
    refine norm_ (a' := ?_) ?_ ?_
    rotate_left
    ·
     simp only [putAll, Act.put, List.setIfInBounds_toArray, List.set_cons_zero, List.set_cons_succ]
     rfl
    refine one_ (i := 11) (N := some 28) #[zt, zt, zt, zt, zt, zt, zt, zt, zt, zt, zt, zt, zt, zt, zt, zt, zf, zf, zf, zf, zf, zf] rfl rfl (one_of HT_.out (by kernel_rfl)) (by decide) (fun K hK => ?_)
    refine Kd.R_lit_step (Kd.int .i64) _ 3 ?hg (N := 28) ?hd (xs := ([1, 33, 50, 51, 100, 0, 101] : List Int)) (inner := [.int .i64 1, .int .i64 33, .int .i64 50, .int .i64 51, .int .i64 100, .int .i64 0, .int .i64 101]) (ok := fun _ => True) (okp := fun _ => True) ?hr ?hp (fun _ hk => hk) trivial (Below.refl _ _) (Nat.le_refl _) (by simp) ?_; (case hd => rfl); (case hg => rfl); (case hr => exact zqS); (case hp => exact (Reps.one (show Kd.M (Kd.int .i64) _ _ _ 1 [.int .i64 1] from rfl) (Reps.one (show Kd.M (Kd.int .i64) _ _ _ 33 [.int .i64 33] from rfl) (Reps.one (show Kd.M (Kd.int .i64) _ _ _ 50 [.int .i64 50] from rfl) (Reps.one (show Kd.M (Kd.int .i64) _ _ _ 51 [.int .i64 51] from rfl) (Reps.one (show Kd.M (Kd.int .i64) _ _ _ 100 [.int .i64 100] from rfl) (Reps.one (show Kd.M (Kd.int .i64) _ _ _ 0 [.int .i64 0] from rfl) (Reps.one (show Kd.M (Kd.int .i64) _ _ _ 101 [.int .i64 101] from rfl) (Reps.none _ _)))))))))
    intro v324 w44 ho45 hb hg_ hnew_
    clear hg_ hnew_
    (first | rw [← Ny323.out] at ho45 | (simp only [Int.reduceToNat] at ho45; rw [← Ny323.out] at ho45))
    have n0_ := zm (Kd.R_elder' (zqR HO298.out) (Kd.R_base ho45) hb)
    have n1_ := zm (Kd.Q_elder' zq11 (Kd.R_base ho45) hb)
    have n2_ := zm (Kd.R_elder' (zqR HO312.out) (Kd.R_base ho45) hb)
    have n3_ := zm (Kd.R_lower (Kd.R_new' (Kd.R_new' (Kd.R_new' ho45 (Kd.R_lt (zqR HO298.out))) (Kd.Q_lt zq11)) (Kd.R_lt (zqR HO312.out))) (zyi zq2))
    have n4_ := zm (zyb (g := gb291) (o := zcA) (zqK BK291.out) hb)
    have n5_ := zm (zyb (g := gb292) (o := zcB) (zqK BK292.out) hb)
    have n6_ := zm (IsS46.below zq3 hb)
    have n7_ := zm (zyb (g := gb301) (o := .cells #[.int .i64 t294, .int .i64 t295, .slice Ao23 t296.length co23] 26 (0, 0)) (zqK BK301.out) hb)
    have n8_ := zm (zyb (g := gb309) (o := .cells #[.int .i64 t302, .int .i64 t303, .slice Ao31 t304.length co31] 27 (0, 0)) (zqK BK309.out) hb)
    have n9_ := zm (Kd.C_below zq64 hb)
    have n10_ := zm (zyh zq2 hb)
    clear HO298
    clear HO306
    clear HO312
    clear BK291
    clear BK292
    clear HI293
    clear BK301
    clear BK309
    clear HR319
    clear HB
    have HO298 := n0_
    have HO306 := n1_
    have HO312 := n2_
    have HO325 := n3_
    have BK291 := n4_
    have BK292 := n5_
    have HI293 := n6_
    have BK301 := n7_
    have BK309 := n8_
    have HR319 := n9_
    have HB := n10_
    clear n0_ n1_ n2_ n3_ n4_ n5_ n6_ n7_ n8_ n9_ n10_
    clear hb ho45
    obtain ⟨Ao47, co47, eo47⟩ := Kd.R_slice HO325.out
    (first | subst eo47 | (injection eo47 with f1_ f2_ f3_; have f4_ := f1_.symm; have f5_ := f3_.symm; clear f1_ f2_ f3_; subst f4_; subst f5_))
    have q46 : ((ji10) : Int) ≤ ((y323.length : Int) : Int) := of_decide_eq_true zq6
    obtain ⟨i046, hi046, _, hsz46, _⟩ := info_parts info3
    have hroom46 : y323.length ≤ co47 := (Kd.R_reads' HO325.out).2.1
    have hC46 : Kd.C (Kd.int .i64) _ Ao47 y323.length y323 := (Kd.R_reads' HO325.out).2.2
    have hcut46 := cut_to (P := Try.prog) 24 3 .i64 Try.underlying24 hi046 Ao47 y323.length co47 (ji10) (of_decide_eq_true zq6) q46 hroom46
    have hr46 := Kd.C_take (m := ((ji10) : Int).toNat) hC46 (by omega)
    have hy46 : y329.length = ((ji10) : Int).toNat := (by rw [Ny329.out, List.length_take]; omega)
    rw [← Ny329.out] at hr46
    rw [← hy46] at hcut46
    have HR332 := zm hr46
    have HC332 := zm (show y329.length ≤ co47 from by omega)
    clear hr46 hC46 hroom46 hi046 hsz46
    have KY46 := zm hy46
    clear hy46
    have KL46 := zm (show ((ji10) : Int).toNat ≤ y323.length from by omega)
    replace q46 := eq_true q46
    refine hK.out _ _ ⟨(zyk BK301.out 0).trans rfl, (zyk BK301.out 1).trans rfl, (zyk BK301.out 2).trans rfl, (zyk BK309.out 0).trans rfl, (zyk BK309.out 1).trans rfl, (zyk BK309.out 2).trans rfl⟩ (fun hHeld => ?_)
    clear hK K
    refine norm_ (a' := ?_) ?_ ?_
    rotate_left
    ·
     show Act.put _ (some 28) _ = _
     simp only [Act.put, List.setIfInBounds_toArray, List.set_cons_zero, List.set_cons_succ, i64_w, i32_w]
     rfl
    exact norm_ (by first | (simp only [putAll, Act.put, List.setIfInBounds_toArray, List.set_cons_zero, List.set_cons_succ]; done) | (simp only [putAll, Act.put, List.setIfInBounds_toArray, List.set_cons_zero, List.set_cons_succ]; rfl)) (hJ3_5_9_11_13 (.slice Ao43 y310.length co43, .slice Ao47 y323.length co47) _ ⟨hHeld, zq91, zq92, zq93, zq90, (zqK BK291.out), (zqK BK292.out), (zqK BK301.out), (zqK BK309.out), zq3, zq2⟩)
  ·
   skip
   rintro ⟨v311, v324⟩ w42 ⟨hS_, h0_, h1_, h2_, h3_, h4_, h5_, h6_, h7_, h8_, h9_⟩
   have n0_ : Aside0 (Kd.R (Kd.int .i64) 3 w42 w.heap.size (fun k_ => some k_ ≠ (.slice Ao31 t304.length co31 : Value).ownBlock ∧ some k_ ≠ (v311 : Value).ownBlock ∧ some k_ ≠ (v324 : Value).ownBlock) (.slice Ao23 t296.length co23) t296) := ⟨h0_⟩
   have n1_ : Aside0 (Kd.Q (Kd.int .i64) 3 w42 w.heap.size (fun k_ => some k_ ≠ (.slice Ao23 t296.length co23 : Value).ownBlock ∧ some k_ ≠ (v311 : Value).ownBlock ∧ some k_ ≠ (v324 : Value).ownBlock) (.slice Ao31 t304.length co31) t304) := ⟨h1_⟩
   have n2_ : Aside0 (Kd.R (Kd.int .i64) 3 w42 w.heap.size (fun k_ => some k_ ≠ (.slice Ao23 t296.length co23 : Value).ownBlock ∧ some k_ ≠ (.slice Ao31 t304.length co31 : Value).ownBlock ∧ some k_ ≠ (v324 : Value).ownBlock) v311 y310) := ⟨h2_⟩
   have n3_ : Aside0 (Kd.R (Kd.int .i64) 3 w42 w.heap.size (fun k_ => some k_ ≠ (.slice Ao23 t296.length co23 : Value).ownBlock ∧ some k_ ≠ (.slice Ao31 t304.length co31 : Value).ownBlock ∧ some k_ ≠ (v311 : Value).ownBlock) v324 y323) := ⟨h3_⟩
   have n4_ : Aside0 (w42.heap[gb291]? = some (.cells #[.int .i64 0, .int .i64 0, .slice none 0 0] 26 (0, 0))) := ⟨h4_⟩
   have n5_ : Aside0 (w42.heap[gb292]? = some (.cells #[.int .i64 0, .int .i64 0, .slice none 0 0] 27 (0, 0))) := ⟨h5_⟩
   have n6_ : Aside0 (w42.heap[gb301]? = some (.cells #[.int .i64 t294, .int .i64 t295, .slice Ao23 t296.length co23] 26 (0, 0))) := ⟨h6_⟩
   have n7_ : Aside0 (w42.heap[gb309]? = some (.cells #[.int .i64 t302, .int .i64 t303, .slice Ao31 t304.length co31] 27 (0, 0))) := ⟨h7_⟩
   have n8_ : Aside0 (IsS46 w w42 gb293 l0 t321 t322) := ⟨h8_⟩
   have n9_ : Aside0 (Below w.heap.size w w42) := ⟨h9_⟩
   clear HO298
   clear HO306
   clear BK291
   clear BK292
   clear BK301
   clear BK309
   clear HI293
   clear HB
   clear h0_ h1_ h2_ h3_ h4_ h5_ h6_ h7_ h8_ h9_
   have HO298 := n0_
   have HO306 := n1_
   have HO312 := n2_
   have HO325 := n3_
   have BK291 := n4_
   have BK292 := n5_
   have BK301 := n6_
   have BK309 := n7_
   have HI293 := n8_
   have HB := n9_
   clear n0_ n1_ n2_ n3_ n4_ n5_ n6_ n7_ n8_ n9_
   have hHeld : w42.cell? ⟨gb301, 0, none⟩ = some (.int .i64 t294) ∧ w42.cell? ⟨gb301, 1, none⟩ = some (.int .i64 t295) ∧ w42.cell? ⟨gb301, 2, none⟩ = some (.slice Ao23 t296.length co23) ∧ w42.cell? ⟨gb309, 0, none⟩ = some (.int .i64 t302) ∧ w42.cell? ⟨gb309, 1, none⟩ = some (.int .i64 t303) ∧ w42.cell? ⟨gb309, 2, none⟩ = some (.slice Ao31 t304.length co31) := hS_
   obtain ⟨Ao44, co44, eo44⟩ := Kd.R_slice HO312.out
   (first | subst eo44 | (injection eo44 with f1_ f2_ f3_; have f4_ := f1_.symm; have f5_ := f3_.symm; clear f1_ f2_ f3_; subst f4_; subst f5_))
   have q43 : ((ji5) : Int) ≤ ((y310.length : Int) : Int) := of_decide_eq_true zq6
   obtain ⟨i043, hi043, _, hsz43, _⟩ := info_parts info3
   have hroom43 : y310.length ≤ co44 := (Kd.R_reads' HO312.out).2.1
   have hC43 : Kd.C (Kd.int .i64) _ Ao44 y310.length y310 := (Kd.R_reads' HO312.out).2.2
   have hcut43 := cut_to (P := Try.prog) 24 3 .i64 Try.underlying24 hi043 Ao44 y310.length co44 (ji5) (of_decide_eq_true zq6) q43 hroom43
   have hr43 := Kd.C_take (m := ((ji5) : Int).toNat) hC43 (by omega)
   have hy43 : y316.length = ((ji5) : Int).toNat := (by rw [Ny316.out, List.length_take]; omega)
   rw [← Ny316.out] at hr43
   rw [← hy43] at hcut43
   have HR319 := zm hr43
   have HC319 := zm (show y316.length ≤ co44 from by omega)
   clear hr43 hC43 hroom43 hi043 hsz43
   have KY43 := zm hy43
   clear hy43
   have KL43 := zm (show ((ji5) : Int).toNat ≤ y310.length from by omega)
   replace q43 := eq_true q43
   refine norm_ (a' := ?_) ?_ ?_
   rotate_left
   ·
    simp only [putAll, Act.put, List.setIfInBounds_toArray, List.set_cons_zero, List.set_cons_succ]
    rfl
   refine one_ (i := 13) (N := some 30) #[zt, zt, zt, zt, zt, zt, zt, zt, zt, zt, zt, zt, zt, zt, zf, zf, zf, zf, zf, zf, zf, zf] rfl rfl (one_of HT_.out (by kernel_rfl)) (by decide) (fun K hK => ?_)
   refine goes_ Try.func20 (by kernel_rfl) rfl #[.pointer (some ⟨gb293, 0, none⟩), .int .i64 24] (by rfl) rfl rfl zq0 ?_
   with_reducible refine (spec_l1Cur_pick.calls gb293 l0 t321 t322 24 t326 t327 t328 w _ ?side1 ?side2 A9.out).mono ?_
   (case side1 => repeat (first | (with_reducible first | exact HI293.out | apply zv1 | apply zv2 | apply zv3 | apply zv4 | apply zv5 | refine zv6 ?_ NB293_291.out _ | refine zv6 ?_ NB293_292.out _ | refine zv6 ?_ NB293_301.out _ | refine zv6 ?_ NB293_309.out _) | exact HI293.out))
   (case side2 => repeat (first | (with_reducible first | exact HB.out | apply zya | apply zyp | apply zyr | refine zys ?_ (IsS46.ge HI293.out) | refine zys ?_ GE291.out | refine zys ?_ GE292.out | refine zys ?_ GE301.out | refine zys ?_ GE309.out) | exact HB.out))
   rintro e w45 ⟨rfl, hi, hb, hk⟩
   refine ⟨_, rfl, ?_⟩
   have n0_ := zm (KeepBut.blk hk (g' := gb291) (o := zcA) (zqK BK291.out) NB291_293.out (by simp))
   have n1_ := zm (KeepBut.blk hk (g' := gb292) (o := zcB) (zqK BK292.out) NB292_293.out (by simp))
   have n2_ := zm (Kd.R_mono (Kd.R_keep (IsS46.apart (show IsS46 w _ gb293 l0 t321 t322 from by repeat (first | (with_reducible first | exact HI293.out | apply zv1 | apply zv2 | apply zv3 | apply zv4 | apply zv5 | refine zv6 ?_ NB293_291.out _ | refine zv6 ?_ NB293_292.out _ | refine zv6 ?_ NB293_301.out _ | refine zv6 ?_ NB293_309.out _) | exact HI293.out)) (zqR HO298.out) (by decide)) hk (fun _ h => h.2)) (fun _ h => h.1))
   have n3_ := zm (KeepBut.blk hk (g' := gb301) (o := .cells #[.int .i64 t294, .int .i64 t295, .slice Ao23 t296.length co23] 26 (0, 0)) (zqK BK301.out) NB301_293.out (by simp))
   have n4_ := zm (Kd.Q_mono (Kd.Q_keep (IsS46.apartQ (show IsS46 w _ gb293 l0 t321 t322 from by repeat (first | (with_reducible first | exact HI293.out | apply zv1 | apply zv2 | apply zv3 | apply zv4 | apply zv5 | refine zv6 ?_ NB293_291.out _ | refine zv6 ?_ NB293_292.out _ | refine zv6 ?_ NB293_301.out _ | refine zv6 ?_ NB293_309.out _) | exact HI293.out)) zq11 (by decide)) hk (fun _ h => h.2)) (fun _ h => h.1))
   have n5_ := zm (KeepBut.blk hk (g' := gb309) (o := .cells #[.int .i64 t302, .int .i64 t303, .slice Ao31 t304.length co31] 27 (0, 0)) (zqK BK309.out) NB309_293.out (by simp))
   have n6_ := zm (Kd.R_mono (Kd.R_keep (IsS46.apart (show IsS46 w _ gb293 l0 t321 t322 from by repeat (first | (with_reducible first | exact HI293.out | apply zv1 | apply zv2 | apply zv3 | apply zv4 | apply zv5 | refine zv6 ?_ NB293_291.out _ | refine zv6 ?_ NB293_292.out _ | refine zv6 ?_ NB293_301.out _ | refine zv6 ?_ NB293_309.out _) | exact HI293.out)) (zqR HO312.out) (by decide)) hk (fun _ h => h.2)) (fun _ h => h.1))
   have n7_ := zm (Kd.R_mono (Kd.R_keep (IsS46.apart (show IsS46 w _ gb293 l0 t321 t322 from by repeat (first | (with_reducible first | exact HI293.out | apply zv1 | apply zv2 | apply zv3 | apply zv4 | apply zv5 | refine zv6 ?_ NB293_291.out _ | refine zv6 ?_ NB293_292.out _ | refine zv6 ?_ NB293_301.out _ | refine zv6 ?_ NB293_309.out _) | exact HI293.out)) (zqR HO325.out) (by decide)) hk (fun _ h => h.2)) (fun _ h => h.1))
   have n8_ := zm (hb)
   have n9_ := zm (hi)
   clear BK291
   clear BK292
   clear HO298
   clear BK301
   clear HO306
   clear BK309
   clear HO312
   clear HO325
   clear HB
   clear HI293
   have BK291 := n0_
   have BK292 := n1_
   have HO298 := n2_
   have BK301 := n3_
   have HO306 := n4_
   have BK309 := n5_
   have HO312 := n6_
   have HO325 := n7_
   have HB := n8_
   have HI293 := n9_
   clear n0_ n1_ n2_ n3_ n4_ n5_ n6_ n7_ n8_ n9_
   (try clear hb)
   (try clear hb2)
   (try clear hk)
   (try clear hi)
   obtain ⟨Ao47, co47, eo47⟩ := Kd.R_slice HO325.out
   (first | subst eo47 | (injection eo47 with f1_ f2_ f3_; have f4_ := f1_.symm; have f5_ := f3_.symm; clear f1_ f2_ f3_; subst f4_; subst f5_))
   have q46 : ((ji10) : Int) ≤ ((y323.length : Int) : Int) := of_decide_eq_true zq6
   obtain ⟨i046, hi046, _, hsz46, _⟩ := info_parts info3
   have hroom46 : y323.length ≤ co47 := (Kd.R_reads' HO325.out).2.1
   have hC46 : Kd.C (Kd.int .i64) _ Ao47 y323.length y323 := (Kd.R_reads' HO325.out).2.2
   have hcut46 := cut_to (P := Try.prog) 24 3 .i64 Try.underlying24 hi046 Ao47 y323.length co47 (ji10) (of_decide_eq_true zq6) q46 hroom46
   have hr46 := Kd.C_take (m := ((ji10) : Int).toNat) hC46 (by omega)
   have hy46 : y329.length = ((ji10) : Int).toNat := (by rw [Ny329.out, List.length_take]; omega)
   rw [← Ny329.out] at hr46
   rw [← hy46] at hcut46
   have HR332 := zm hr46
   have HC332 := zm (show y329.length ≤ co47 from by omega)
   clear hr46 hC46 hroom46 hi046 hsz46
   have KY46 := zm hy46
   clear hy46
   have KL46 := zm (show ((ji10) : Int).toNat ≤ y323.length from by omega)
   replace q46 := eq_true q46
   refine hK.out _ _ ⟨(zyk BK301.out 0).trans rfl, (zyk BK301.out 1).trans rfl, (zyk BK301.out 2).trans rfl, (zyk BK309.out 0).trans rfl, (zyk BK309.out 1).trans rfl, (zyk BK309.out 2).trans rfl⟩ (fun hHeld => ?_)
   clear hK K
   refine norm_ (a' := ?_) ?_ ?_
   rotate_left
   ·
    show Act.put _ (some 30) _ = _
    simp only [Act.put, List.setIfInBounds_toArray, List.set_cons_zero, List.set_cons_succ, i64_w, i32_w]
    rfl
   refine zP 14 (some 31) #[zt, zt, zt, zt, zt, zt, zt, zt, zt, zt, zt, zt, zt, zt, zt, zf, zf, zf, zf, zf, zf, zf] ?_ rfl rfl HT_ (Or.inl ⟨by rfl, ?_⟩) ?_ ?_ ?_
   rotate_left; · exact zqB
   rotate_left; · exact zqA
   refine zP 15 (some 32) #[zt, zt, zt, zt, zt, zt, zt, zt, zt, zt, zt, zt, zt, zt, zt, zt, zf, zf, zf, zf, zf, zf] ?_ rfl rfl HT_ (Or.inl ⟨by rfl, ?_⟩) ?_ ?_ ?_
   rotate_left; · exact zqB
   rotate_left; · exact zqA
   exact norm_ (by first | (simp only [putAll, Act.put, List.setIfInBounds_toArray, List.set_cons_zero, List.set_cons_succ]; done) | (simp only [putAll, Act.put, List.setIfInBounds_toArray, List.set_cons_zero, List.set_cons_succ]; rfl)) (hJ3_5_9_11_13 (.slice Ao44 y310.length co44, .slice Ao47 y323.length co47) _ ⟨hHeld, (zqR HO298.out), zq11, (zqR HO312.out), (zqR HO325.out), (zqK BK291.out), (zqK BK292.out), (zqK BK301.out), (zqK BK309.out), zq3, zq2⟩)
 rintro ⟨v311, v324⟩ w45 ⟨hS_, h0_, h1_, h2_, h3_, h4_, h5_, h6_, h7_, h8_, h9_⟩
 have n0_ : Aside0 (Kd.R (Kd.int .i64) 3 w45 w.heap.size (fun k_ => some k_ ≠ (.slice Ao31 t304.length co31 : Value).ownBlock ∧ some k_ ≠ (v311 : Value).ownBlock ∧ some k_ ≠ (v324 : Value).ownBlock) (.slice Ao23 t296.length co23) t296) := ⟨h0_⟩
 have n1_ : Aside0 (Kd.Q (Kd.int .i64) 3 w45 w.heap.size (fun k_ => some k_ ≠ (.slice Ao23 t296.length co23 : Value).ownBlock ∧ some k_ ≠ (v311 : Value).ownBlock ∧ some k_ ≠ (v324 : Value).ownBlock) (.slice Ao31 t304.length co31) t304) := ⟨h1_⟩
 have n2_ : Aside0 (Kd.R (Kd.int .i64) 3 w45 w.heap.size (fun k_ => some k_ ≠ (.slice Ao23 t296.length co23 : Value).ownBlock ∧ some k_ ≠ (.slice Ao31 t304.length co31 : Value).ownBlock ∧ some k_ ≠ (v324 : Value).ownBlock) v311 y310) := ⟨h2_⟩
 have n3_ : Aside0 (Kd.R (Kd.int .i64) 3 w45 w.heap.size (fun k_ => some k_ ≠ (.slice Ao23 t296.length co23 : Value).ownBlock ∧ some k_ ≠ (.slice Ao31 t304.length co31 : Value).ownBlock ∧ some k_ ≠ (v311 : Value).ownBlock) v324 y323) := ⟨h3_⟩
 have n4_ : Aside0 (w45.heap[gb291]? = some (.cells #[.int .i64 0, .int .i64 0, .slice none 0 0] 26 (0, 0))) := ⟨h4_⟩
 have n5_ : Aside0 (w45.heap[gb292]? = some (.cells #[.int .i64 0, .int .i64 0, .slice none 0 0] 27 (0, 0))) := ⟨h5_⟩
 have n6_ : Aside0 (w45.heap[gb301]? = some (.cells #[.int .i64 t294, .int .i64 t295, .slice Ao23 t296.length co23] 26 (0, 0))) := ⟨h6_⟩
 have n7_ : Aside0 (w45.heap[gb309]? = some (.cells #[.int .i64 t302, .int .i64 t303, .slice Ao31 t304.length co31] 27 (0, 0))) := ⟨h7_⟩
 have n8_ : Aside0 (IsS46 w w45 gb293 l0 t327 t328) := ⟨h8_⟩
 have n9_ : Aside0 (Below w.heap.size w w45) := ⟨h9_⟩
 clear HO298
 clear HO306
 clear BK291
 clear BK292
 clear BK301
 clear BK309
 clear HI293
 clear HB
 clear h0_ h1_ h2_ h3_ h4_ h5_ h6_ h7_ h8_ h9_
 have HO298 := n0_
 have HO306 := n1_
 have HO312 := n2_
 have HO325 := n3_
 have BK291 := n4_
 have BK292 := n5_
 have BK301 := n6_
 have BK309 := n7_
 have HI293 := n8_
 have HB := n9_
 clear n0_ n1_ n2_ n3_ n4_ n5_ n6_ n7_ n8_ n9_
 have hHeld : w45.cell? ⟨gb301, 0, none⟩ = some (.int .i64 t294) ∧ w45.cell? ⟨gb301, 1, none⟩ = some (.int .i64 t295) ∧ w45.cell? ⟨gb301, 2, none⟩ = some (.slice Ao23 t296.length co23) ∧ w45.cell? ⟨gb309, 0, none⟩ = some (.int .i64 t302) ∧ w45.cell? ⟨gb309, 1, none⟩ = some (.int .i64 t303) ∧ w45.cell? ⟨gb309, 2, none⟩ = some (.slice Ao31 t304.length co31) := hS_
 obtain ⟨Ao47, co47, eo47⟩ := Kd.R_slice HO312.out
 (first | subst eo47 | (injection eo47 with f1_ f2_ f3_; have f4_ := f1_.symm; have f5_ := f3_.symm; clear f1_ f2_ f3_; subst f4_; subst f5_))
 have q46 : ((ji5) : Int) ≤ ((y310.length : Int) : Int) := of_decide_eq_true zq6
 obtain ⟨i046, hi046, _, hsz46, _⟩ := info_parts info3
 have hroom46 : y310.length ≤ co47 := (Kd.R_reads' HO312.out).2.1
 have hC46 : Kd.C (Kd.int .i64) _ Ao47 y310.length y310 := (Kd.R_reads' HO312.out).2.2
 have hcut46 := cut_to (P := Try.prog) 24 3 .i64 Try.underlying24 hi046 Ao47 y310.length co47 (ji5) (of_decide_eq_true zq6) q46 hroom46
 have hr46 := Kd.C_take (m := ((ji5) : Int).toNat) hC46 (by omega)
 have hy46 : y316.length = ((ji5) : Int).toNat := (by rw [Ny316.out, List.length_take]; omega)
 rw [← Ny316.out] at hr46
 rw [← hy46] at hcut46
 have HR319 := zm hr46
 have HC319 := zm (show y316.length ≤ co47 from by omega)
 clear hr46 hC46 hroom46 hi046 hsz46
 have KY46 := zm hy46
 clear hy46
 have KL46 := zm (show ((ji5) : Int).toNat ≤ y310.length from by omega)
 replace q46 := eq_true q46
 obtain ⟨Ao49, co49, eo49⟩ := Kd.R_slice HO325.out
 (first | subst eo49 | (injection eo49 with f1_ f2_ f3_; have f4_ := f1_.symm; have f5_ := f3_.symm; clear f1_ f2_ f3_; subst f4_; subst f5_))
 have q48 : ((ji10) : Int) ≤ ((y323.length : Int) : Int) := of_decide_eq_true zq6
 obtain ⟨i048, hi048, _, hsz48, _⟩ := info_parts info3
 have hroom48 : y323.length ≤ co49 := (Kd.R_reads' HO325.out).2.1
 have hC48 : Kd.C (Kd.int .i64) _ Ao49 y323.length y323 := (Kd.R_reads' HO325.out).2.2
 have hcut48 := cut_to (P := Try.prog) 24 3 .i64 Try.underlying24 hi048 Ao49 y323.length co49 (ji10) (of_decide_eq_true zq6) q48 hroom48
 have hr48 := Kd.C_take (m := ((ji10) : Int).toNat) hC48 (by omega)
 have hy48 : y329.length = ((ji10) : Int).toNat := (by rw [Ny329.out, List.length_take]; omega)
 rw [← Ny329.out] at hr48
 rw [← hy48] at hcut48
 have HR332 := zm hr48
 have HC332 := zm (show y329.length ≤ co49 from by omega)
 clear hr48 hC48 hroom48 hi048 hsz48
 have KY48 := zm hy48
 clear hy48
 have KL48 := zm (show ((ji10) : Int).toNat ≤ y323.length from by omega)
 replace q48 := eq_true q48
 refine norm_ (a' := ?_) ?_ ?_
 rotate_left
 ·
  simp only [putAll, Act.put, List.setIfInBounds_toArray, List.set_cons_zero, List.set_cons_succ]
  rfl
 refine zP 16 (some 33) #[zt, zt, zt, zt, zt, zt, zt, zt, zt, zt, zt, zt, zt, zt, zt, zt, zt, zf, zf, zf, zf, zf] ?_ rfl rfl HT_ (Or.inl ⟨by rfl, ?_⟩) ?_ ?_ ?_
 rotate_left; · exact zqB
 rotate_left; · exact zqA
 refine one_ (i := 17) (N := some 34) #[zt, zt, zt, zt, zt, zt, zt, zt, zt, zt, zt, zt, zt, zt, zt, zt, zt, zt, zf, zf, zf, zf] rfl rfl (one_of HT_.out (by kernel_rfl)) (by decide) (fun K hK => ?_)
 refine goes_ Try.func19 (by kernel_rfl) rfl #[.pointer (some ⟨gb293, 0, none⟩), .slice Ao49 y329.length co49] (by rfl) rfl rfl zq0 ?_
 with_reducible refine (spec_l1Cur_among.calls gb293 l0 t327 t328 _ _ y329 t333 t334 t335 w _ ?side1 ?side2 ?side3 ?side4 ?side5 A13.out).mono ?_
 (case side1 => repeat (first | (with_reducible first | exact HI293.out | apply zv1 | apply zv2 | apply zv3 | apply zv4 | apply zv5 | refine zv6 ?_ NB293_291.out _ | refine zv6 ?_ NB293_292.out _ | refine zv6 ?_ NB293_301.out _ | refine zv6 ?_ NB293_309.out _) | exact HI293.out))
 (case side2 => repeat (first | (with_reducible first | exact HB.out | apply zya | apply zyp | apply zyr | refine zys ?_ (IsS46.ge HI293.out) | refine zys ?_ GE291.out | refine zys ?_ GE292.out | refine zys ?_ GE301.out | refine zys ?_ GE309.out) | exact HB.out))
 (case side3 => repeat (first | exact (by repeat (first | (with_reducible exact HR332.out) | (with_reducible refine Kd.C_alloc ?_ _) | (with_reducible refine Kd.C_drewN ?_ _) | (with_reducible refine Kd.C_drew ?_) | exact HR332.out)) | (with_reducible refine Kd.C_alloc ?_ _) | (with_reducible refine Kd.C_drewN ?_ _) | (with_reducible refine Kd.C_drew ?_)))
 (case side4 => exact HC332.out)
 (case side5 => intro ad e_ _ q_; have o_ := HO325.out; have ne_ := IsS46.own_ne (e := 3) HI293.out o_ (by decide); rw [e_] at ne_; exact ne_ (by simp [Value.ownBlock, q_]))
 rintro e w50 ⟨rfl, hi, hb, hk⟩
 refine ⟨_, rfl, ?_⟩
 have n0_ := zm (KeepBut.blk hk (g' := gb291) (o := zcA) (zqK BK291.out) NB291_293.out (by simp))
 have n1_ := zm (KeepBut.blk hk (g' := gb292) (o := zcB) (zqK BK292.out) NB292_293.out (by simp))
 have n2_ := zm (Kd.R_mono (Kd.R_keep (IsS46.apart (show IsS46 w _ gb293 l0 t327 t328 from by repeat (first | (with_reducible first | exact HI293.out | apply zv1 | apply zv2 | apply zv3 | apply zv4 | apply zv5 | refine zv6 ?_ NB293_291.out _ | refine zv6 ?_ NB293_292.out _ | refine zv6 ?_ NB293_301.out _ | refine zv6 ?_ NB293_309.out _) | exact HI293.out)) (zqR HO298.out) (by decide)) hk (fun _ h => h.2)) (fun _ h => h.1))
 have n3_ := zm (KeepBut.blk hk (g' := gb301) (o := .cells #[.int .i64 t294, .int .i64 t295, .slice Ao23 t296.length co23] 26 (0, 0)) (zqK BK301.out) NB301_293.out (by simp))
 have n4_ := zm (Kd.Q_mono (Kd.Q_keep (IsS46.apartQ (show IsS46 w _ gb293 l0 t327 t328 from by repeat (first | (with_reducible first | exact HI293.out | apply zv1 | apply zv2 | apply zv3 | apply zv4 | apply zv5 | refine zv6 ?_ NB293_291.out _ | refine zv6 ?_ NB293_292.out _ | refine zv6 ?_ NB293_301.out _ | refine zv6 ?_ NB293_309.out _) | exact HI293.out)) zq11 (by decide)) hk (fun _ h => h.2)) (fun _ h => h.1))
 have n5_ := zm (KeepBut.blk hk (g' := gb309) (o := .cells #[.int .i64 t302, .int .i64 t303, .slice Ao31 t304.length co31] 27 (0, 0)) (zqK BK309.out) NB309_293.out (by simp))
 have n6_ := zm (Kd.R_mono (Kd.R_keep (IsS46.apart (show IsS46 w _ gb293 l0 t327 t328 from by repeat (first | (with_reducible first | exact HI293.out | apply zv1 | apply zv2 | apply zv3 | apply zv4 | apply zv5 | refine zv6 ?_ NB293_291.out _ | refine zv6 ?_ NB293_292.out _ | refine zv6 ?_ NB293_301.out _ | refine zv6 ?_ NB293_309.out _) | exact HI293.out)) (zqR HO312.out) (by decide)) hk (fun _ h => h.2)) (fun _ h => h.1))
 have n7_ := zm (Kd.R_mono (Kd.R_keep (IsS46.apart (show IsS46 w _ gb293 l0 t327 t328 from by repeat (first | (with_reducible first | exact HI293.out | apply zv1 | apply zv2 | apply zv3 | apply zv4 | apply zv5 | refine zv6 ?_ NB293_291.out _ | refine zv6 ?_ NB293_292.out _ | refine zv6 ?_ NB293_301.out _ | refine zv6 ?_ NB293_309.out _) | exact HI293.out)) (zqR HO325.out) (by decide)) hk (fun _ h => h.2)) (fun _ h => h.1))
 have n8_ := zm (hb)
 have n9_ := zm (hi)
 clear BK291
 clear BK292
 clear HO298
 clear BK301
 clear HO306
 clear BK309
 clear HO312
 clear HO325
 clear HB
 clear HI293
 have BK291 := n0_
 have BK292 := n1_
 have HO298 := n2_
 have BK301 := n3_
 have HO306 := n4_
 have BK309 := n5_
 have HO312 := n6_
 have HO325 := n7_
 have HB := n8_
 have HI293 := n9_
 clear n0_ n1_ n2_ n3_ n4_ n5_ n6_ n7_ n8_ n9_
 (try clear hb)
 (try clear hb2)
 (try clear hk)
 (try clear hi)
 refine hK.out _ _ ⟨(zyk BK301.out 0).trans rfl, (zyk BK301.out 1).trans rfl, (zyk BK301.out 2).trans rfl, (zyk BK309.out 0).trans rfl, (zyk BK309.out 1).trans rfl, (zyk BK309.out 2).trans rfl⟩ (fun hHeld => ?_)
 clear hK K
 refine norm_ (a' := ?_) ?_ ?_
 rotate_left
 ·
  show Act.put _ (some 34) _ = _
  simp only [Act.put, List.setIfInBounds_toArray, List.set_cons_zero, List.set_cons_succ, i64_w, i32_w]
  rfl
 refine one_ (i := 18) (N := none) #[zt, zt, zt, zt, zt, zt, zt, zt, zt, zt, zt, zt, zt, zt, zt, zt, zt, zt, zt, zf, zf, zf] rfl rfl (one_of HT_.out (by kernel_rfl)) (by decide) (fun K hK => ?_)
 have hs51 : w50.cell? ⟨gb291, 0, none⟩ = some (.int .i64 0) := (zyk BK291.out 0).trans rfl
 have hfs51 := zyF BK291.out 0
 have hns51_1 := NB292_291.out
 have hns51_2 := NB301_291.out
 have hns51_3 := NB309_291.out
 have hms51_1 := NB291_292.out
 have hms51_2 := NB291_301.out
 have hms51_3 := NB291_309.out
 have hs52 : w50.cell? ⟨gb291, 1, none⟩ = some (.int .i64 0) := (zyk BK291.out 1).trans rfl
 have hfs52 := zyF BK291.out 1
 have hns52_1 := NB292_291.out
 have hns52_2 := NB301_291.out
 have hns52_3 := NB309_291.out
 have hms52_1 := NB291_292.out
 have hms52_2 := NB291_301.out
 have hms52_3 := NB291_309.out
 have hs53 : w50.cell? ⟨gb291, 2, none⟩ = some (.slice none 0 0) := (zyk BK291.out 2).trans rfl
 have hfs53 := zyF BK291.out 2
 have hns53_1 := NB292_291.out
 have hns53_2 := NB301_291.out
 have hns53_3 := NB309_291.out
 have hms53_1 := NB291_292.out
 have hms53_2 := NB291_301.out
 have hms53_3 := NB291_309.out
 refine skip_ (w1 := ?_) (by rfl) rfl ?_ ?_
 rotate_left
 ·
  go_simp
  rfl
 refine hK.out _ _ ⟨((cell_far (p := ⟨gb291, _, none⟩) NB301_291.out _).trans (((cell_far (p := ⟨gb291, _, none⟩) NB301_291.out _).trans (((cell_far (p := ⟨gb291, _, none⟩) NB301_291.out _).trans (hHeld.1)))))), ((cell_far (p := ⟨gb291, _, none⟩) NB301_291.out _).trans (((cell_far (p := ⟨gb291, _, none⟩) NB301_291.out _).trans (((cell_far (p := ⟨gb291, _, none⟩) NB301_291.out _).trans (hHeld.2.1)))))), ((cell_far (p := ⟨gb291, _, none⟩) NB301_291.out _).trans (((cell_far (p := ⟨gb291, _, none⟩) NB301_291.out _).trans (((cell_far (p := ⟨gb291, _, none⟩) NB301_291.out _).trans (hHeld.2.2.1)))))), ((cell_far (p := ⟨gb291, _, none⟩) NB309_291.out _).trans (((cell_far (p := ⟨gb291, _, none⟩) NB309_291.out _).trans (((cell_far (p := ⟨gb291, _, none⟩) NB309_291.out _).trans (hHeld.2.2.2.1)))))), ((cell_far (p := ⟨gb291, _, none⟩) NB309_291.out _).trans (((cell_far (p := ⟨gb291, _, none⟩) NB309_291.out _).trans (((cell_far (p := ⟨gb291, _, none⟩) NB309_291.out _).trans (hHeld.2.2.2.2.1)))))), ((cell_far (p := ⟨gb291, _, none⟩) NB309_291.out _).trans (((cell_far (p := ⟨gb291, _, none⟩) NB309_291.out _).trans (((cell_far (p := ⟨gb291, _, none⟩) NB309_291.out _).trans (hHeld.2.2.2.2.2))))))⟩ (fun hHeld => ?_)
 clear hK K
 refine one_ (i := 19) (N := none) #[zt, zt, zt, zt, zt, zt, zt, zt, zt, zt, zt, zt, zt, zt, zt, zt, zt, zt, zt, zt, zf, zf] rfl rfl (one_of HT_.out (by kernel_rfl)) (by decide) (fun K hK => ?_)
 have hs54 : w50.cell? ⟨gb292, 0, none⟩ = some (.int .i64 0) := (zyk BK292.out 0).trans rfl
 have hfs54 := zyF BK292.out 0
 have hns54_0 := NB291_292.out
 have hns54_2 := NB301_292.out
 have hns54_3 := NB309_292.out
 have hms54_0 := NB292_291.out
 have hms54_2 := NB292_301.out
 have hms54_3 := NB292_309.out
 have hs55 : w50.cell? ⟨gb292, 1, none⟩ = some (.int .i64 0) := (zyk BK292.out 1).trans rfl
 have hfs55 := zyF BK292.out 1
 have hns55_0 := NB291_292.out
 have hns55_2 := NB301_292.out
 have hns55_3 := NB309_292.out
 have hms55_0 := NB292_291.out
 have hms55_2 := NB292_301.out
 have hms55_3 := NB292_309.out
 have hs56 : w50.cell? ⟨gb292, 2, none⟩ = some (.slice none 0 0) := (zyk BK292.out 2).trans rfl
 have hfs56 := zyF BK292.out 2
 have hns56_0 := NB291_292.out
 have hns56_2 := NB301_292.out
 have hns56_3 := NB309_292.out
 have hms56_0 := NB292_291.out
 have hms56_2 := NB292_301.out
 have hms56_3 := NB292_309.out
 refine skip_ (w1 := ?_) (by rfl) rfl ?_ ?_
 rotate_left
 ·
  go_simp
  rfl
 refine hK.out _ _ ⟨((cell_far (p := ⟨gb292, _, none⟩) NB301_292.out _).trans (((cell_far (p := ⟨gb292, _, none⟩) NB301_292.out _).trans (((cell_far (p := ⟨gb292, _, none⟩) NB301_292.out _).trans (hHeld.1)))))), ((cell_far (p := ⟨gb292, _, none⟩) NB301_292.out _).trans (((cell_far (p := ⟨gb292, _, none⟩) NB301_292.out _).trans (((cell_far (p := ⟨gb292, _, none⟩) NB301_292.out _).trans (hHeld.2.1)))))), ((cell_far (p := ⟨gb292, _, none⟩) NB301_292.out _).trans (((cell_far (p := ⟨gb292, _, none⟩) NB301_292.out _).trans (((cell_far (p := ⟨gb292, _, none⟩) NB301_292.out _).trans (hHeld.2.2.1)))))), ((cell_far (p := ⟨gb292, _, none⟩) NB309_292.out _).trans (((cell_far (p := ⟨gb292, _, none⟩) NB309_292.out _).trans (((cell_far (p := ⟨gb292, _, none⟩) NB309_292.out _).trans (hHeld.2.2.2.1)))))), ((cell_far (p := ⟨gb292, _, none⟩) NB309_292.out _).trans (((cell_far (p := ⟨gb292, _, none⟩) NB309_292.out _).trans (((cell_far (p := ⟨gb292, _, none⟩) NB309_292.out _).trans (hHeld.2.2.2.2.1)))))), ((cell_far (p := ⟨gb292, _, none⟩) NB309_292.out _).trans (((cell_far (p := ⟨gb292, _, none⟩) NB309_292.out _).trans (((cell_far (p := ⟨gb292, _, none⟩) NB309_292.out _).trans (hHeld.2.2.2.2.2))))))⟩ (fun hHeld => ?_)
 clear hK K
 refine zP 20 (some 4) #[zt, zt, zt, zt, zt, zt, zt, zt, zt, zt, zt, zt, zt, zt, zt, zt, zt, zt, zt, zt, zt, zf] ?_ rfl rfl HT_ (Or.inl ⟨by rfl, ?_⟩) ?_ ?_ ?_
 rotate_left; · exact zqB
 rotate_left; · exact zqA
 refine zP 21 (some 5) #[zt, zt, zt, zt, zt, zt, zt, zt, zt, zt, zt, zt, zt, zt, zt, zt, zt, zt, zt, zt, zt, zt] ?_ rfl rfl HT_ (Or.inl ⟨by rfl, ?_⟩) ?_ ?_ ?_
 rotate_left; · exact zqB
 rotate_left; · exact zqA
 refine done_ (done_of HT_.out (by kernel_rfl)) ?_
 try go_wp2
 refine bodyPost_ret (results_list (rs := [.cell 2 26, .cell 3 27, .tmp 4, .tmp 5]) rfl (by simp) (.cell gb291 26 #[.int .i64 t294, .int .i64 t295, .slice Ao23 t296.length co23] (0, 0) _ rfl (by (with_reducible repeat (first | apply zN | apply zD | apply zL)); refine zye ?_ NB291_292.out _; (with_reducible repeat (first | apply zN | apply zD | apply zL)); refine zye ?_ NB291_292.out _; (with_reducible repeat (first | apply zN | apply zD | apply zL)); refine zye ?_ NB291_292.out _; (with_reducible repeat (first | apply zN | apply zD | apply zL)); refine blk_put (cs := #[.int .i64 t294, .int .i64 t295, .slice none 0 0]) ?_ 2 _ rfl; (with_reducible repeat (first | apply zN | apply zD | apply zL)); refine blk_put (cs := #[.int .i64 t294, .int .i64 0, .slice none 0 0]) ?_ 1 _ rfl; (with_reducible repeat (first | apply zN | apply zD | apply zL)); refine blk_put (cs := #[.int .i64 0, .int .i64 0, .slice none 0 0]) ?_ 0 _ rfl; (with_reducible repeat (first | apply zN | apply zD | apply zL)); exact BK291.out) Try.underlying26 rfl (by kernel_rfl) (.cell gb292 27 #[.int .i64 t302, .int .i64 t303, .slice Ao31 t304.length co31] (0, 0) _ rfl (by (with_reducible repeat (first | apply zN | apply zD | apply zL)); refine blk_put (cs := #[.int .i64 t302, .int .i64 t303, .slice none 0 0]) ?_ 2 _ rfl; (with_reducible repeat (first | apply zN | apply zD | apply zL)); refine blk_put (cs := #[.int .i64 t302, .int .i64 0, .slice none 0 0]) ?_ 1 _ rfl; (with_reducible repeat (first | apply zN | apply zD | apply zL)); refine blk_put (cs := #[.int .i64 0, .int .i64 0, .slice none 0 0]) ?_ 0 _ rfl; (with_reducible repeat (first | apply zN | apply zD | apply zL)); refine zye ?_ NB292_291.out _; (with_reducible repeat (first | apply zN | apply zD | apply zL)); refine zye ?_ NB292_291.out _; (with_reducible repeat (first | apply zN | apply zD | apply zL)); refine zye ?_ NB292_291.out _; (with_reducible repeat (first | apply zN | apply zD | apply zL)); exact BK292.out) Try.underlying27 rfl (by kernel_rfl) (.tmp (.tmp .nil))))) rfl ?_
 exact ⟨_, _, by first | rfl | (simp [errW_none, errW_some] <;> rfl) | (simp only [← hji5, ← hji10]; first | rfl | (simp [errW_none, errW_some] <;> rfl)) | (simp [*, errW_none, errW_some] <;> rfl), by (with_reducible repeat (first | apply Kd.R_alloc | apply Kd.R_drewN | apply Kd.R_drew)); exact Kd.R_mono (Kd.R_far (p := ⟨gb292, 2, none⟩) (Kd.R_far (p := ⟨gb292, 1, none⟩) (Kd.R_far (p := ⟨gb292, 0, none⟩) (Kd.R_far (p := ⟨gb291, 2, none⟩) (Kd.R_far (p := ⟨gb291, 1, none⟩) (Kd.R_far (p := ⟨gb291, 0, none⟩) (Kd.R_types (Kd.R_types HO298.out BK291.out (by decide)) BK292.out (by decide)) (fun _ hk => hk.1.2) (.int .i64 t294)) (fun _ hk => hk.1.2) (.int .i64 t295)) (fun _ hk => hk.1.2) (.slice Ao23 t296.length co23)) (fun _ hk => hk.2) (.int .i64 t302)) (fun _ hk => hk.2) (.int .i64 t303)) (fun _ hk => hk.2) (.slice Ao31 t304.length co31)) (fun _ hk => hk.1.1.1), by (with_reducible repeat (first | apply Kd.Q_alloc | apply Kd.Q_drewN | apply Kd.Q_drew)); exact Kd.Q_mono (Kd.Q_far (p := ⟨gb292, 2, none⟩) (Kd.Q_far (p := ⟨gb292, 1, none⟩) (Kd.Q_far (p := ⟨gb292, 0, none⟩) (Kd.Q_far (p := ⟨gb291, 2, none⟩) (Kd.Q_far (p := ⟨gb291, 1, none⟩) (Kd.Q_far (p := ⟨gb291, 0, none⟩) (Kd.Q_types (Kd.Q_types HO306.out BK291.out (by decide)) BK292.out (by decide)) (fun _ hk => hk.1.2) (.int .i64 t294)) (fun _ hk => hk.1.2) (.int .i64 t295)) (fun _ hk => hk.1.2) (.slice Ao23 t296.length co23)) (fun _ hk => hk.2) (.int .i64 t302)) (fun _ hk => hk.2) (.int .i64 t303)) (fun _ hk => hk.2) (.slice Ao31 t304.length co31)) (fun _ hk => hk.1.1.1), zq2⟩
end Go.Proofs.Ytfaihkhdbapjmaa.Q
