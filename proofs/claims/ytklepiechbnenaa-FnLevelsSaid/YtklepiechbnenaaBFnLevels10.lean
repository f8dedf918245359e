/- Texts of this seat, put together: Qf3. -/
import Derived.Test.YtklepiechbnenaaZFnLevels
import Derived.Test.YtklepiechbnenaaBFnLevels0
import Derived.Test.YtklepiechbnenaaBFnLevels4
import Derived.Test.YtklepiechbnenaaBFnLevels5
import Derived.Test.YtklepiechbnenaaBFnLevels6
import Derived.Test.YtklepiechbnenaaBFnLevels7
import Derived.Test.YtklepiechbnenaaBFnLevels8
import Derived.Test.YtklepiechbnenaaBFnLevels9
namespace Go.Proofs.Ytklepiechbnenaa.Q
open Go.RowKit Go.Proofs.YtklepiechbnenaaW.PrintWords Go.Proofs.YtklepiechbnenaaW.PrintLast Go.Proofs.YtklepiechbnenaaW.PrintMore
attribute [local go_sem] max2_int min2_int max_two min_two max_three min_three max_four min_four   -- for this text's walks alone
set_option linter.unusedVariables false
set_option linter.unusedSimpArgs false

/-! ### laws_FnLevels: function 3 -/
mutual
def laws_FnLevels.j0 : Nat → List Int → List (S31) → Int → Int → Int → List (S31) → Bool → Bool → Option (Bool)
 | 0, _, _, _, _, _, _, _, _ => none
 | k + 1, x0, x3, x4, x5, x6, x7, x9, x74 => if x74 = true then (none) else (if x9 = true then (laws_FnLevels.l0 k x0 x3 x4 x5 x6 x7 (-1) 0) else (laws_FnLevels.j6 k x0))
def laws_FnLevels.j6 : Nat → List Int → Option (Bool)
 | 0, _ => none
 | k + 1, x0 => (spec_DrawCancelWarning.f k x0).bind fun bt471 => ((impl_CancelWarning.f k bt471.1 bt471.2.1 bt471.2.2).bind fun bt476 => ((spec_CancelWarning.f k bt471.1 bt471.2.1 bt471.2.2).bind fun bt480 => (if (bt476.2 == bt480.2) = true then ((laws_vWarnings.f k bt476.1 bt480.1).bind fun t484 => (if t484 = true then (if bt476.2 = true then ((impl_IsConsistent.f k bt476.1).bind fun t485 => (if t485 = true then (some (decide ((bt476.1.length : Int) ≤ (bt471.1.length : Int)))) else (none))) else (some true)) else (none))) else (none))))
def laws_FnLevels.l0 : Nat → List Int → List (S31) → Int → Int → Int → List (S31) → Int → Int → Option (Bool)
 | 0, _, _, _, _, _, _, _, _ => none
 | k + 1, x0, x3, x4, x5, x6, x7, x13, x14 => if x14 < (x3.length : Int) then (if 0 ≤ x14 then (if ((rd_T31 x3 x14).f0) = x4 then (laws_FnLevels.l0 k x0 x3 x4 x5 x6 x7 x14 (wrap64 (x14 + 1))) else (laws_FnLevels.l0 k x0 x3 x4 x5 x6 x7 x13 (wrap64 (x14 + 1)))) else (none)) else (if x13 < 0 then (none) else ((impl_IsConsistent.f k x7).bind fun t458 => (laws_FnLevels.j2 k x0 x3 x5 x6 x7 x13 (!t458))))
def laws_FnLevels.j2 : Nat → List Int → List (S31) → Int → Int → List (S31) → Int → Bool → Option (Bool)
 | 0, _, _, _, _, _, _, _ => none
 | k + 1, x0, x3, x5, x6, x7, x13, x96 => if x96 = true then (none) else (if 0 ≤ x13 then (if x13 < (x3.length : Int) then (if x6 < ((rd_T31 x3 x13).f4) then (laws_FnLevels.j3 k x0 x3 x5 x6 x7 ((rd_T31 x3 x13).f4) ((rd_T31 x3 x13).f0) ((rd_T31 x3 x13).f1) ((rd_T31 x3 x13).f2) ((rd_T31 x3 x13).f3) ((rd_T31 x3 x13).f4) ((rd_T31 x3 x13).f5)) else (laws_FnLevels.j3 k x0 x3 x5 x6 x7 x6 ((rd_T31 x3 x13).f0) ((rd_T31 x3 x13).f1) ((rd_T31 x3 x13).f2) ((rd_T31 x3 x13).f3) ((rd_T31 x3 x13).f4) ((rd_T31 x3 x13).f5))) else (none)) else (none))
def laws_FnLevels.j3 : Nat → List Int → List (S31) → Int → Int → List (S31) → Int → Int → Int → Int → Int → Int → Int → Option (Bool)
 | 0, _, _, _, _, _, _, _, _, _, _, _, _ => none
 | k + 1, x0, x3, x5, x6, x7, x16, x461000, x461001, x461002, x461003, x461004, x461005 => (impl_TopicLevel.f k x7 x461001 x461003 x16).bind fun bt461 => ((impl_TopicLevel.f k x7 x461001 x461003 (wrap64 (x461005 - 1))).bind fun bt463 => (if bt461.2 = true then (if bt463.2 = true then (if bt461.1 = x5 then (laws_FnLevels.j4 k x0 x3 x6 x7 (bt463.1 != x5) x461000 x461001 x461002 x461003 x461004 x461005) else (none)) else (none)) else (none)))
def laws_FnLevels.j4 : Nat → List Int → List (S31) → Int → List (S31) → Bool → Int → Int → Int → Int → Int → Int → Option (Bool)
 | 0, _, _, _, _, _, _, _, _, _, _, _ => none
 | k + 1, x0, x3, x6, x7, x145, x461000, x461001, x461002, x461003, x461004, x461005 => if x145 = true then (none) else (if x6 > x461004 then ((impl_TopicLevel.f k x7 x461001 x461003 (wrap64 (x6 - 1))).bind fun bt465 => (if bt465.2 = true then (if bt465.1 = x461002 then (laws_FnLevels.j5 k x0 x3 x7 x461000 x461001 x461002 x461003 x461004 x461005) else (none)) else (none))) else (laws_FnLevels.j5 k x0 x3 x7 x461000 x461001 x461002 x461003 x461004 x461005))
def laws_FnLevels.j5 : Nat → List Int → List (S31) → List (S31) → Int → Int → Int → Int → Int → Int → Option (Bool)
 | 0, _, _, _, _, _, _, _, _, _ => none
 | k + 1, x0, x3, x7, x461000, x461001, x461002, x461003, x461004, x461005 => (impl_WarningHours.f k x3 x461003).bind fun bt467 => ((impl_WarningHours.f k x7 x461003).bind fun bt469 => (if bt467.2 = true then (if bt469.2 = true then (if bt467.1 = bt469.1 then (laws_FnLevels.j6 k x0) else (none)) else (none)) else (none)))
end
def laws_FnLevels.f (k : Nat) (l0 : List Int) : Option (Bool) := (laws_vBig.f l0).bind fun t439 => (if t439 = true then (some true) else ((spec_DrawChangeLevel.f k l0).bind fun bt440 => ((impl_ChangeLevel.f k bt440.1 bt440.2.1 bt440.2.2.1 bt440.2.2.2).bind fun bt446 => ((spec_ChangeLevel.f k bt440.1 bt440.2.1 bt440.2.2.1 bt440.2.2.2).bind fun bt451 => (if (bt446.2.2 != bt451.2.2) = true then (none) else (if bt446.2.1 = bt451.2.1 then ((laws_vWarnings.f k bt446.1 bt451.1).bind fun t456 => (laws_FnLevels.j0 k l0 bt440.1 bt440.2.1 bt440.2.2.1 bt440.2.2.2 bt446.1 bt446.2.2 (!t456))) else (none)))))))
theorem laws_FnLevels.mono_l : ∀ k, (∀ y0 y1 y2 y3 y4 y5 y6 y7, LeO (laws_FnLevels.j0 k y0 y1 y2 y3 y4 y5 y6 y7) (laws_FnLevels.j0 (k + 1) y0 y1 y2 y3 y4 y5 y6 y7)) ∧ (∀ y0, LeO (laws_FnLevels.j6 k y0) (laws_FnLevels.j6 (k + 1) y0)) ∧ (∀ y0 y1 y2 y3 y4 y5 y6 y7, LeO (laws_FnLevels.l0 k y0 y1 y2 y3 y4 y5 y6 y7) (laws_FnLevels.l0 (k + 1) y0 y1 y2 y3 y4 y5 y6 y7)) ∧ (∀ y0 y1 y2 y3 y4 y5 y6, LeO (laws_FnLevels.j2 k y0 y1 y2 y3 y4 y5 y6) (laws_FnLevels.j2 (k + 1) y0 y1 y2 y3 y4 y5 y6)) ∧ (∀ y0 y1 y2 y3 y4 y5 y6 y7 y8 y9 y10 y11, LeO (laws_FnLevels.j3 k y0 y1 y2 y3 y4 y5 y6 y7 y8 y9 y10 y11) (laws_FnLevels.j3 (k + 1) y0 y1 y2 y3 y4 y5 y6 y7 y8 y9 y10 y11)) ∧ (∀ y0 y1 y2 y3 y4 y5 y6 y7 y8 y9 y10, LeO (laws_FnLevels.j4 k y0 y1 y2 y3 y4 y5 y6 y7 y8 y9 y10) (laws_FnLevels.j4 (k + 1) y0 y1 y2 y3 y4 y5 y6 y7 y8 y9 y10)) ∧ (∀ y0 y1 y2 y3 y4 y5 y6 y7 y8, LeO (laws_FnLevels.j5 k y0 y1 y2 y3 y4 y5 y6 y7 y8) (laws_FnLevels.j5 (k + 1) y0 y1 y2 y3 y4 y5 y6 y7 y8))
 | 0 => ⟨fun _ _ _ _ _ _ _ _ r h => by simp [laws_FnLevels.j0] at h, fun _ r h => by simp [laws_FnLevels.j6] at h, fun _ _ _ _ _ _ _ _ r h => by simp [laws_FnLevels.l0] at h, fun _ _ _ _ _ _ _ r h => by simp [laws_FnLevels.j2] at h, fun _ _ _ _ _ _ _ _ _ _ _ _ r h => by simp [laws_FnLevels.j3] at h, fun _ _ _ _ _ _ _ _ _ _ _ r h => by simp [laws_FnLevels.j4] at h, fun _ _ _ _ _ _ _ _ _ r h => by simp [laws_FnLevels.j5] at h⟩
 | k + 1 => by
  obtain ⟨ih0, ih1, ih2, ih3, ih4, ih5, ih6⟩ := laws_FnLevels.mono_l k
  refine ⟨?_, ?_, ?_, ?_, ?_, ?_, ?_⟩
  ·
   intro y0 y1 y2 y3 y4 y5 y6 y7
   unfold laws_FnLevels.j0
   repeat' first
   | (with_reducible exact ih0 _ _ _ _ _ _ _ _)
   | (with_reducible exact ih1 _)
   | (with_reducible exact ih2 _ _ _ _ _ _ _ _)
   | (with_reducible exact ih3 _ _ _ _ _ _ _)
   | (with_reducible exact ih4 _ _ _ _ _ _ _ _ _ _ _ _)
   | (with_reducible exact ih5 _ _ _ _ _ _ _ _ _ _ _)
   | (with_reducible exact ih6 _ _ _ _ _ _ _ _ _)
   | (with_reducible exact impl_CancelWarning.mono _ _ _ _)
   | (with_reducible exact impl_ChangeLevel.mono _ _ _ _ _)
   | (with_reducible exact impl_IsConsistent.mono _ _)
   | (with_reducible exact impl_TopicLevel.mono _ _ _ _ _)
   | (with_reducible exact impl_WarningHours.mono _ _ _)
   | (with_reducible exact laws_vWarnings.mono _ _ _)
   | (with_reducible exact spec_CancelWarning.mono _ _ _ _)
   | (with_reducible exact spec_ChangeLevel.mono _ _ _ _ _)
   | (with_reducible exact spec_DrawCancelWarning.mono _ _)
   | (with_reducible exact spec_DrawChangeLevel.mono _ _)
   | (with_reducible exact LeO.refl _)
   | (with_reducible exact LeO.none _)
   | (with_reducible refine LeO.ite ?_ ?_)
   | (with_reducible refine LeO.bind ?_ (fun _ => ?_))
   | exact ih0 _ _ _ _ _ _ _ _
   | exact ih1 _
   | exact ih2 _ _ _ _ _ _ _ _
   | exact ih3 _ _ _ _ _ _ _
   | exact ih4 _ _ _ _ _ _ _ _ _ _ _ _
   | exact ih5 _ _ _ _ _ _ _ _ _ _ _
   | exact ih6 _ _ _ _ _ _ _ _ _
   | exact impl_CancelWarning.mono _ _ _ _
   | exact impl_ChangeLevel.mono _ _ _ _ _
   | exact impl_IsConsistent.mono _ _
   | exact impl_TopicLevel.mono _ _ _ _ _
   | exact impl_WarningHours.mono _ _ _
   | exact laws_vWarnings.mono _ _ _
   | exact spec_CancelWarning.mono _ _ _ _
   | exact spec_ChangeLevel.mono _ _ _ _ _
   | exact spec_DrawCancelWarning.mono _ _
   | exact spec_DrawChangeLevel.mono _ _
   | exact LeO.none _
   | refine LeO.ite ?_ ?_
   | refine LeO.bind ?_ (fun _ => ?_)
  ·
   intro y0
   unfold laws_FnLevels.j6
   repeat' first
   | (with_reducible exact ih0 _ _ _ _ _ _ _ _)
   | (with_reducible exact ih1 _)
   | (with_reducible exact ih2 _ _ _ _ _ _ _ _)
   | (with_reducible exact ih3 _ _ _ _ _ _ _)
   | (with_reducible exact ih4 _ _ _ _ _ _ _ _ _ _ _ _)
   | (with_reducible exact ih5 _ _ _ _ _ _ _ _ _ _ _)
   | (with_reducible exact ih6 _ _ _ _ _ _ _ _ _)
   | (with_reducible exact impl_CancelWarning.mono _ _ _ _)
   | (with_reducible exact impl_ChangeLevel.mono _ _ _ _ _)
   | (with_reducible exact impl_IsConsistent.mono _ _)
   | (with_reducible exact impl_TopicLevel.mono _ _ _ _ _)
   | (with_reducible exact impl_WarningHours.mono _ _ _)
   | (with_reducible exact laws_vWarnings.mono _ _ _)
   | (with_reducible exact spec_CancelWarning.mono _ _ _ _)
   | (with_reducible exact spec_ChangeLevel.mono _ _ _ _ _)
   | (with_reducible exact spec_DrawCancelWarning.mono _ _)
   | (with_reducible exact spec_DrawChangeLevel.mono _ _)
   | (with_reducible exact LeO.refl _)
   | (with_reducible exact LeO.none _)
   | (with_reducible refine LeO.ite ?_ ?_)
   | (with_reducible refine LeO.bind ?_ (fun _ => ?_))
   | exact ih0 _ _ _ _ _ _ _ _
   | exact ih1 _
   | exact ih2 _ _ _ _ _ _ _ _
   | exact ih3 _ _ _ _ _ _ _
   | exact ih4 _ _ _ _ _ _ _ _ _ _ _ _
   | exact ih5 _ _ _ _ _ _ _ _ _ _ _
   | exact ih6 _ _ _ _ _ _ _ _ _
   | exact impl_CancelWarning.mono _ _ _ _
   | exact impl_ChangeLevel.mono _ _ _ _ _
   | exact impl_IsConsistent.mono _ _
   | exact impl_TopicLevel.mono _ _ _ _ _
   | exact impl_WarningHours.mono _ _ _
   | exact laws_vWarnings.mono _ _ _
   | exact spec_CancelWarning.mono _ _ _ _
   | exact spec_ChangeLevel.mono _ _ _ _ _
   | exact spec_DrawCancelWarning.mono _ _
   | exact spec_DrawChangeLevel.mono _ _
   | exact LeO.none _
   | refine LeO.ite ?_ ?_
   | refine LeO.bind ?_ (fun _ => ?_)
  ·
   intro y0 y1 y2 y3 y4 y5 y6 y7
   unfold laws_FnLevels.l0
   repeat' first
   | (with_reducible exact ih0 _ _ _ _ _ _ _ _)
   | (with_reducible exact ih1 _)
   | (with_reducible exact ih2 _ _ _ _ _ _ _ _)
   | (with_reducible exact ih3 _ _ _ _ _ _ _)
   | (with_reducible exact ih4 _ _ _ _ _ _ _ _ _ _ _ _)
   | (with_reducible exact ih5 _ _ _ _ _ _ _ _ _ _ _)
   | (with_reducible exact ih6 _ _ _ _ _ _ _ _ _)
   | (with_reducible exact impl_CancelWarning.mono _ _ _ _)
   | (with_reducible exact impl_ChangeLevel.mono _ _ _ _ _)
   | (with_reducible exact impl_IsConsistent.mono _ _)
   | (with_reducible exact impl_TopicLevel.mono _ _ _ _ _)
   | (with_reducible exact impl_WarningHours.mono _ _ _)
   | (with_reducible exact laws_vWarnings.mono _ _ _)
   | (with_reducible exact spec_CancelWarning.mono _ _ _ _)
   | (with_reducible exact spec_ChangeLevel.mono _ _ _ _ _)
   | (with_reducible exact spec_DrawCancelWarning.mono _ _)
   | (with_reducible exact spec_DrawChangeLevel.mono _ _)
   | (with_reducible exact LeO.refl _)
   | (with_reducible exact LeO.none _)
   | (with_reducible refine LeO.ite ?_ ?_)
   | (with_reducible refine LeO.bind ?_ (fun _ => ?_))
   | exact ih0 _ _ _ _ _ _ _ _
   | exact ih1 _
   | exact ih2 _ _ _ _ _ _ _ _
   | exact ih3 _ _ _ _ _ _ _
   | exact ih4 _ _ _ _ _ _ _ _ _ _ _ _
   | exact ih5 _ _ _ _ _ _ _ _ _ _ _
   | exact ih6 _ _ _ _ _ _ _ _ _
   | exact impl_CancelWarning.mono _ _ _ _
   | exact impl_ChangeLevel.mono _ _ _ _ _
   | exact impl_IsConsistent.mono _ _
   | exact impl_TopicLevel.mono _ _ _ _ _
   | exact impl_WarningHours.mono _ _ _
   | exact laws_vWarnings.mono _ _ _
   | exact spec_CancelWarning.mono _ _ _ _
   | exact spec_ChangeLevel.mono _ _ _ _ _
   | exact spec_DrawCancelWarning.mono _ _
   | exact spec_DrawChangeLevel.mono _ _
   | exact LeO.none _
   | refine LeO.ite ?_ ?_
   | refine LeO.bind ?_ (fun _ => ?_)
  ·
   intro y0 y1 y2 y3 y4 y5 y6
   unfold laws_FnLevels.j2
   repeat' first
   | (with_reducible exact ih0 _ _ _ _ _ _ _ _)
   | (with_reducible exact ih1 _)
   | (with_reducible exact ih2 _ _ _ _ _ _ _ _)
   | (with_reducible exact ih3 _ _ _ _ _ _ _)
   | (with_reducible exact ih4 _ _ _ _ _ _ _ _ _ _ _ _)
   | (with_reducible exact ih5 _ _ _ _ _ _ _ _ _ _ _)
   | (with_reducible exact ih6 _ _ _ _ _ _ _ _ _)
   | (with_reducible exact impl_CancelWarning.mono _ _ _ _)
   | (with_reducible exact impl_ChangeLevel.mono _ _ _ _ _)
   | (with_reducible exact impl_IsConsistent.mono _ _)
   | (with_reducible exact impl_TopicLevel.mono _ _ _ _ _)
   | (with_reducible exact impl_WarningHours.mono _ _ _)
   | (with_reducible exact laws_vWarnings.mono _ _ _)
   | (with_reducible exact spec_CancelWarning.mono _ _ _ _)
   | (with_reducible exact spec_ChangeLevel.mono _ _ _ _ _)
   | (with_reducible exact spec_DrawCancelWarning.mono _ _)
   | (with_reducible exact spec_DrawChangeLevel.mono _ _)
   | (with_reducible exact LeO.refl _)
   | (with_reducible exact LeO.none _)
   | (with_reducible refine LeO.ite ?_ ?_)
   | (with_reducible refine LeO.bind ?_ (fun _ => ?_))
   | exact ih0 _ _ _ _ _ _ _ _
   | exact ih1 _
   | exact ih2 _ _ _ _ _ _ _ _
   | exact ih3 _ _ _ _ _ _ _
   | exact ih4 _ _ _ _ _ _ _ _ _ _ _ _
   | exact ih5 _ _ _ _ _ _ _ _ _ _ _
   | exact ih6 _ _ _ _ _ _ _ _ _
   | exact impl_CancelWarning.mono _ _ _ _
   | exact impl_ChangeLevel.mono _ _ _ _ _
   | exact impl_IsConsistent.mono _ _
   | exact impl_TopicLevel.mono _ _ _ _ _
   | exact impl_WarningHours.mono _ _ _
   | exact laws_vWarnings.mono _ _ _
   | exact spec_CancelWarning.mono _ _ _ _
   | exact spec_ChangeLevel.mono _ _ _ _ _
   | exact spec_DrawCancelWarning.mono _ _
   | exact spec_DrawChangeLevel.mono _ _
   | exact LeO.none _
   | refine LeO.ite ?_ ?_
   | refine LeO.bind ?_ (fun _ => ?_)
  ·
   intro y0 y1 y2 y3 y4 y5 y6 y7 y8 y9 y10 y11
   unfold laws_FnLevels.j3
   repeat' first
   | (with_reducible exact ih0 _ _ _ _ _ _ _ _)
   | (with_reducible exact ih1 _)
   | (with_reducible exact ih2 _ _ _ _ _ _ _ _)
   | (with_reducible exact ih3 _ _ _ _ _ _ _)
   | (with_reducible exact ih4 _ _ _ _ _ _ _ _ _ _ _ _)
   | (with_reducible exact ih5 _ _ _ _ _ _ _ _ _ _ _)
   | (with_reducible exact ih6 _ _ _ _ _ _ _ _ _)
   | (with_reducible exact impl_CancelWarning.mono _ _ _ _)
   | (with_reducible exact impl_ChangeLevel.mono _ _ _ _ _)
   | (with_reducible exact impl_IsConsistent.mono _ _)
   | (with_reducible exact impl_TopicLevel.mono _ _ _ _ _)
   | (with_reducible exact impl_WarningHours.mono _ _ _)
   | (with_reducible exact laws_vWarnings.mono _ _ _)
   | (with_reducible exact spec_CancelWarning.mono _ _ _ _)
   | (with_reducible exact spec_ChangeLevel.mono _ _ _ _ _)
   | (with_reducible exact spec_DrawCancelWarning.mono _ _)
   | (with_reducible exact spec_DrawChangeLevel.mono _ _)
   | (with_reducible exact LeO.refl _)
   | (with_reducible exact LeO.none _)
   | (with_reducible refine LeO.ite ?_ ?_)
   | (with_reducible refine LeO.bind ?_ (fun _ => ?_))
   | exact ih0 _ _ _ _ _ _ _ _
   | exact ih1 _
   | exact ih2 _ _ _ _ _ _ _ _
   | exact ih3 _ _ _ _ _ _ _
   | exact ih4 _ _ _ _ _ _ _ _ _ _ _ _
   | exact ih5 _ _ _ _ _ _ _ _ _ _ _
   | exact ih6 _ _ _ _ _ _ _ _ _
   | exact impl_CancelWarning.mono _ _ _ _
   | exact impl_ChangeLevel.mono _ _ _ _ _
   | exact impl_IsConsistent.mono _ _
   | exact impl_TopicLevel.mono _ _ _ _ _
   | exact impl_WarningHours.mono _ _ _
   | exact laws_vWarnings.mono _ _ _
   | exact spec_CancelWarning.mono _ _ _ _
   | exact spec_ChangeLevel.mono _ _ _ _ _
   | exact spec_DrawCancelWarning.mono _ _
   | exact spec_DrawChangeLevel.mono _ _
   | exact LeO.none _
   | refine LeO.ite ?_ ?_
   | refine LeO.bind ?_ (fun _ => ?_)
  ·
   intro y0 y1 y2 y3 y4 y5 y6 y7 y8 y9 y10
   unfold laws_FnLevels.j4
   repeat' first
   | (with_reducible exact ih0 _ _ _ _ _ _ _ _)
   | (with_reducible exact ih1 _)
   | (with_reducible exact ih2 _ _ _ _ _ _ _ _)
   | (with_reducible exact ih3 _ _ _ _ _ _ _)
   | (with_reducible exact ih4 _ _ _ _ _ _ _ _ _ _ _ _)
   | (with_reducible exact ih5 _ _ _ _ _ _ _ _ _ _ _)
   | (with_reducible exact ih6 _ _ _ _ _ _ _ _ _)
   | (with_reducible exact impl_CancelWarning.mono _ _ _ _)
   | (with_reducible exact impl_ChangeLevel.mono _ _ _ _ _)
   | (with_reducible exact impl_IsConsistent.mono _ _)
   | (with_reducible exact impl_TopicLevel.mono _ _ _ _ _)
   | (with_reducible exact impl_WarningHours.mono _ _ _)
   | (with_reducible exact laws_vWarnings.mono _ _ _)
   | (with_reducible exact spec_CancelWarning.mono _ _ _ _)
   | (with_reducible exact spec_ChangeLevel.mono _ _ _ _ _)
   | (with_reducible exact spec_DrawCancelWarning.mono _ _)
   | (with_reducible exact spec_DrawChangeLevel.mono _ _)
   | (with_reducible exact LeO.refl _)
   | (with_reducible exact LeO.none _)
   | (with_reducible refine LeO.ite ?_ ?_)
   | (with_reducible refine LeO.bind ?_ (fun _ => ?_))
   | exact ih0 _ _ _ _ _ _ _ _
   | exact ih1 _
   | exact ih2 _ _ _ _ _ _ _ _
   | exact ih3 _ _ _ _ _ _ _
   | exact ih4 _ _ _ _ _ _ _ _ _ _ _ _
   | exact ih5 _ _ _ _ _ _ _ _ _ _ _
   | exact ih6 _ _ _ _ _ _ _ _ _
   | exact impl_CancelWarning.mono _ _ _ _
   | exact impl_ChangeLevel.mono _ _ _ _ _
   | exact impl_IsConsistent.mono _ _
   | exact impl_TopicLevel.mono _ _ _ _ _
   | exact impl_WarningHours.mono _ _ _
   | exact laws_vWarnings.mono _ _ _
   | exact spec_CancelWarning.mono _ _ _ _
   | exact spec_ChangeLevel.mono _ _ _ _ _
   | exact spec_DrawCancelWarning.mono _ _
   | exact spec_DrawChangeLevel.mono _ _
   | exact LeO.none _
   | refine LeO.ite ?_ ?_
   | refine LeO.bind ?_ (fun _ => ?_)
  ·
   intro y0 y1 y2 y3 y4 y5 y6 y7 y8
   unfold laws_FnLevels.j5
   repeat' first
   | (with_reducible exact ih0 _ _ _ _ _ _ _ _)
   | (with_reducible exact ih1 _)
   | (with_reducible exact ih2 _ _ _ _ _ _ _ _)
   | (with_reducible exact ih3 _ _ _ _ _ _ _)
   | (with_reducible exact ih4 _ _ _ _ _ _ _ _ _ _ _ _)
   | (with_reducible exact ih5 _ _ _ _ _ _ _ _ _ _ _)
   | (with_reducible exact ih6 _ _ _ _ _ _ _ _ _)
   | (with_reducible exact impl_CancelWarning.mono _ _ _ _)
   | (with_reducible exact impl_ChangeLevel.mono _ _ _ _ _)
   | (with_reducible exact impl_IsConsistent.mono _ _)
   | (with_reducible exact impl_TopicLevel.mono _ _ _ _ _)
   | (with_reducible exact impl_WarningHours.mono _ _ _)
   | (with_reducible exact laws_vWarnings.mono _ _ _)
   | (with_reducible exact spec_CancelWarning.mono _ _ _ _)
   | (with_reducible exact spec_ChangeLevel.mono _ _ _ _ _)
   | (with_reducible exact spec_DrawCancelWarning.mono _ _)
   | (with_reducible exact spec_DrawChangeLevel.mono _ _)
   | (with_reducible exact LeO.refl _)
   | (with_reducible exact LeO.none _)
   | (with_reducible refine LeO.ite ?_ ?_)
   | (with_reducible refine LeO.bind ?_ (fun _ => ?_))
   | exact ih0 _ _ _ _ _ _ _ _
   | exact ih1 _
   | exact ih2 _ _ _ _ _ _ _ _
   | exact ih3 _ _ _ _ _ _ _
   | exact ih4 _ _ _ _ _ _ _ _ _ _ _ _
   | exact ih5 _ _ _ _ _ _ _ _ _ _ _
   | exact ih6 _ _ _ _ _ _ _ _ _
   | exact impl_CancelWarning.mono _ _ _ _
   | exact impl_ChangeLevel.mono _ _ _ _ _
   | exact impl_IsConsistent.mono _ _
   | exact impl_TopicLevel.mono _ _ _ _ _
   | exact impl_WarningHours.mono _ _ _
   | exact laws_vWarnings.mono _ _ _
   | exact spec_CancelWarning.mono _ _ _ _
   | exact spec_ChangeLevel.mono _ _ _ _ _
   | exact spec_DrawCancelWarning.mono _ _
   | exact spec_DrawChangeLevel.mono _ _
   | exact LeO.none _
   | refine LeO.ite ?_ ?_
   | refine LeO.bind ?_ (fun _ => ?_)
theorem laws_FnLevels.mono : ∀ a0 k, LeO (laws_FnLevels.f k a0) (laws_FnLevels.f (k + 1) a0) := by
 intro a0 k
 obtain ⟨ih0, ih1, ih2, ih3, ih4, ih5, ih6⟩ := laws_FnLevels.mono_l k
 unfold laws_FnLevels.f
 repeat' first
   | (with_reducible exact ih0 _ _ _ _ _ _ _ _)
   | (with_reducible exact ih1 _)
   | (with_reducible exact ih2 _ _ _ _ _ _ _ _)
   | (with_reducible exact ih3 _ _ _ _ _ _ _)
   | (with_reducible exact ih4 _ _ _ _ _ _ _ _ _ _ _ _)
   | (with_reducible exact ih5 _ _ _ _ _ _ _ _ _ _ _)
   | (with_reducible exact ih6 _ _ _ _ _ _ _ _ _)
   | (with_reducible exact impl_CancelWarning.mono _ _ _ _)
   | (with_reducible exact impl_ChangeLevel.mono _ _ _ _ _)
   | (with_reducible exact impl_IsConsistent.mono _ _)
   | (with_reducible exact impl_TopicLevel.mono _ _ _ _ _)
   | (with_reducible exact impl_WarningHours.mono _ _ _)
   | (with_reducible exact laws_vWarnings.mono _ _ _)
   | (with_reducible exact spec_CancelWarning.mono _ _ _ _)
   | (with_reducible exact spec_ChangeLevel.mono _ _ _ _ _)
   | (with_reducible exact spec_DrawCancelWarning.mono _ _)
   | (with_reducible exact spec_DrawChangeLevel.mono _ _)
   | (with_reducible exact LeO.refl _)
   | (with_reducible exact LeO.none _)
   | (with_reducible refine LeO.ite ?_ ?_)
   | (with_reducible refine LeO.bind ?_ (fun _ => ?_))
   | exact ih0 _ _ _ _ _ _ _ _
   | exact ih1 _
   | exact ih2 _ _ _ _ _ _ _ _
   | exact ih3 _ _ _ _ _ _ _
   | exact ih4 _ _ _ _ _ _ _ _ _ _ _ _
   | exact ih5 _ _ _ _ _ _ _ _ _ _ _
   | exact ih6 _ _ _ _ _ _ _ _ _
   | exact impl_CancelWarning.mono _ _ _ _
   | exact impl_ChangeLevel.mono _ _ _ _ _
   | exact impl_IsConsistent.mono _ _
   | exact impl_TopicLevel.mono _ _ _ _ _
   | exact impl_WarningHours.mono _ _ _
   | exact laws_vWarnings.mono _ _ _
   | exact spec_CancelWarning.mono _ _ _ _
   | exact spec_ChangeLevel.mono _ _ _ _ _
   | exact spec_DrawCancelWarning.mono _ _
   | exact spec_DrawChangeLevel.mono _ _
   | exact LeO.none _
   | refine LeO.ite ?_ ?_
   | refine LeO.bind ?_ (fun _ => ?_)
set_option maxHeartbeats 40000000 in
set_option maxRecDepth 100000 in
theorem laws_FnLevels.calls (k : Nat) (A0 : Option Addr) (c0 : Nat) (l0 : List Int) (r : Bool) (w : World) (hr0 : Kd.C (Kd.int .u8) w A0 l0.length l0) (hc0 : l0.length ≤ c0) (h : laws_FnLevels.f k l0 = some r) :
  Calls Try.prog 3 #[.slice A0 l0.length c0] w fun e w' => e = .returned (.bool r) ∧ Below w.heap.size w w' := by
 have hu31 := Try.underlying31
 have HR0 := Aside0.mk hr0
 have HC0 := Aside0.mk hc0
 clear hr0 hc0
 have HB := Aside0.mk (Below.refl w.heap.size w)
 have H : ((laws_vBig.f l0).bind fun t439 => (if t439 = true then (some true) else ((spec_DrawChangeLevel.f k l0).bind fun bt440 => ((impl_ChangeLevel.f k bt440.1 bt440.2.1 bt440.2.2.1 bt440.2.2.2).bind fun bt446 => ((spec_ChangeLevel.f k bt440.1 bt440.2.1 bt440.2.2.1 bt440.2.2.2).bind fun bt451 => (if (bt446.2.2 != bt451.2.2) = true then (none) else (if bt446.2.1 = bt451.2.1 then ((laws_vWarnings.f k bt446.1 bt451.1).bind fun t456 => (laws_FnLevels.j0 k l0 bt440.1 bt440.2.1 bt440.2.2.1 bt440.2.2.2 bt446.1 bt446.2.2 (!t456))) else (none)))))))) = some r := h
 clear h
 replace H := Option.bind_eq_some_iff.mp H
 obtain ⟨t439, A20, H⟩ := H
 replace H : (if t439 = true then (some true) else ((spec_DrawChangeLevel.f k l0).bind fun bt440 => ((impl_ChangeLevel.f k bt440.1 bt440.2.1 bt440.2.2.1 bt440.2.2.2).bind fun bt446 => ((spec_ChangeLevel.f k bt440.1 bt440.2.1 bt440.2.2.1 bt440.2.2.2).bind fun bt451 => (if (bt446.2.2 != bt451.2.2) = true then (none) else (if bt446.2.1 = bt451.2.1 then ((laws_vWarnings.f k bt446.1 bt451.1).bind fun t456 => (laws_FnLevels.j0 k l0 bt440.1 bt440.2.1 bt440.2.2.1 bt440.2.2.2 bt446.1 bt446.2.2 (!t456))) else (none))))))) = some r := H
 have A2 := Aside0.mk A20
 clear A20
 by_cases c3 : t439 = true
 ·
  subst c3
  have H1 : (some true) = some r := by rw [if_pos rfl] at H; exact H
  clear H
  have H := H1
  clear H1
  obtain rfl := Option.some.inj H
  go_enter Try.func3, Try.ntmps3
  go_wp2_with (first | ((with_reducible refine gate_callee (f := 7) rfl ?_); refine goesL_ (some 35) rfl rfl Try.func7 (by kernel_rfl) rfl #[.slice A0 l0.length c0] rfl zq1 ?_; (with_reducible refine (laws_vBig.calls _ _ l0 true _ ?side1 ?side2 A2.out).mono ?_); (case side1 => repeat (first | exact HR0.out | (with_reducible refine Kd.C_alloc ?_ _) | (with_reducible refine Kd.C_drewN ?_ _) | (with_reducible refine Kd.C_drew ?_))); (case side2 => exact HC0.out); rintro e w' ⟨rfl, ⟨nd, rfl⟩⟩; refine ⟨_, rfl, ?_⟩))
  go_ret
  exact ⟨by first | rfl | (simp [errW_none, errW_some] <;> rfl) | (simp [*, errW_none, errW_some] <;> rfl), by repeat (first | (with_reducible first | exact HB.out | apply below_alloc | apply pw_below_drewN | apply below_drew1) | exact HB.out)⟩
 ·
  replace c3 := Bool.eq_false_iff.mpr c3
  subst c3
  have H1 : ((spec_DrawChangeLevel.f k l0).bind fun bt440 => ((impl_ChangeLevel.f k bt440.1 bt440.2.1 bt440.2.2.1 bt440.2.2.2).bind fun bt446 => ((spec_ChangeLevel.f k bt440.1 bt440.2.1 bt440.2.2.1 bt440.2.2.2).bind fun bt451 => (if (bt446.2.2 != bt451.2.2) = true then (none) else (if bt446.2.1 = bt451.2.1 then ((laws_vWarnings.f k bt446.1 bt451.1).bind fun t456 => (laws_FnLevels.j0 k l0 bt440.1 bt440.2.1 bt440.2.2.1 bt440.2.2.2 bt446.1 bt446.2.2 (!t456))) else (none)))))) = some r := by rw [if_neg (show ¬ (false = true) by decide)] at H; exact H
  clear H
  have H := H1
  clear H1
  replace H := Option.bind_eq_some_iff.mp H
  obtain ⟨⟨t440, t441, t442, t443⟩, A40, H⟩ := H
  replace H : ((impl_ChangeLevel.f k t440 t441 t442 t443).bind fun bt446 => ((spec_ChangeLevel.f k t440 t441 t442 t443).bind fun bt451 => (if (bt446.2.2 != bt451.2.2) = true then (none) else (if bt446.2.1 = bt451.2.1 then ((laws_vWarnings.f k bt446.1 bt451.1).bind fun t456 => (laws_FnLevels.j0 k l0 t440 t441 t442 t443 bt446.1 bt446.2.2 (!t456))) else (none))))) = some r := H
  have A4 := Aside0.mk A40
  clear A40
  replace H := Option.bind_eq_some_iff.mp H
  obtain ⟨⟨t446, t447, t448⟩, A50, H⟩ := H
  replace H : ((spec_ChangeLevel.f k t440 t441 t442 t443).bind fun bt451 => (if (t448 != bt451.2.2) = true then (none) else (if t447 = bt451.2.1 then ((laws_vWarnings.f k t446 bt451.1).bind fun t456 => (laws_FnLevels.j0 k l0 t440 t441 t442 t443 t446 t448 (!t456))) else (none)))) = some r := H
  have A5 := Aside0.mk A50
  clear A50
  replace H := Option.bind_eq_some_iff.mp H
  obtain ⟨⟨t451, t452, t453⟩, A60, H⟩ := H
  replace H : (if (t448 != t453) = true then (none) else (if t447 = t452 then ((laws_vWarnings.f k t446 t451).bind fun t456 => (laws_FnLevels.j0 k l0 t440 t441 t442 t443 t446 t448 (!t456))) else (none))) = some r := H
  have A6 := Aside0.mk A60
  clear A60
  have HC7 := Aside0.mk H
  clear H
  go_enter Try.func3, Try.ntmps3
  go_upto_region 6 with (first | ((with_reducible refine gate_callee (f := 7) rfl ?_); refine goesL_ (some 35) rfl rfl Try.func7 (by kernel_rfl) rfl #[.slice A0 l0.length c0] rfl zq1 ?_; (with_reducible refine (laws_vBig.calls _ _ l0 false _ ?side1 ?side2 A2.out).mono ?_); (case side1 => repeat (first | exact HR0.out | (with_reducible refine Kd.C_alloc ?_ _) | (with_reducible refine Kd.C_drewN ?_ _) | (with_reducible refine Kd.C_drew ?_))); (case side2 => exact HC0.out); rintro e w' ⟨rfl, ⟨nd, rfl⟩⟩; refine ⟨_, rfl, ?_⟩) | ((with_reducible refine gate_callee (f := 8) rfl ?_); refine goesL_ (some 38) rfl rfl Try.func8 (by kernel_rfl) rfl #[.slice A0 l0.length c0] rfl zq1 ?_; (with_reducible refine (spec_DrawChangeLevel.calls k _ _ l0 t440 t441 t442 t443 _ ?side1 ?side2 A4.out).mono ?_); (case side1 => repeat (first | exact HR0.out | (with_reducible refine Kd.C_alloc ?_ _) | (with_reducible refine Kd.C_drewN ?_ _) | (with_reducible refine Kd.C_drew ?_))); (case side2 => exact HC0.out); rintro e w8 ⟨v444, rfl, ho0, hb⟩; refine ⟨_, rfl, ?_⟩; have n0_ := Aside0.mk (Kd.R_lower ho0 (below_size zq0)); have n1_ := Aside0.mk (below_step zq0 hb); clear HB; have HO445 := n0_; have HB := n1_; clear n0_ n1_; (try clear hb); (try clear hb2); (try clear hk); (try clear hi); (try clear ho0); obtain ⟨Ao9, co9, eo9⟩ := Kd.R_slice HO445.out; subst eo9) | ((with_reducible refine gate_callee (f := 9) rfl ?_); refine goesL_ (some 48) rfl rfl Try.func9 (by kernel_rfl) rfl #[.slice Ao9 t440.length co9, .int .i64 t441, .int .i64 t442, .int .i64 t443] rfl zq1 ?_; (with_reducible refine (impl_ChangeLevel.calls k _ _ t440 t441 t442 t443 t446 t447 t448 _ ?side1 ?side2 A5.out).mono ?_); (case side1 => repeat (first | exact (Kd.R_reads' HO445.out).2.2 | (with_reducible refine Kd.C_alloc ?_ _) | (with_reducible refine Kd.C_drewN ?_ _) | (with_reducible refine Kd.C_drew ?_))); (case side2 => exact (Kd.R_reads' HO445.out).2.1); rintro e w10 ⟨v449, rfl, ho0, hb⟩; refine ⟨_, rfl, ?_⟩; have n0_ := Aside0.mk (Kd.R_elder' (zqR HO445.out) (Kd.R_base ho0) hb); have n1_ := Aside0.mk (Kd.R_lower (Kd.R_new' ho0 (Kd.R_lt (zqR HO445.out))) (below_size zq0)); have n2_ := Aside0.mk (below_step zq0 hb); clear HO445; clear HB; have HO445 := n0_; have HO450 := n1_; have HB := n2_; clear n0_ n1_ n2_; (try clear hb); (try clear hb2); (try clear hk); (try clear hi); (try clear ho0)) | ((with_reducible refine gate_callee (f := 10) rfl ?_); refine goesL_ (some 57) rfl rfl Try.func10 (by kernel_rfl) rfl #[.slice Ao9 t440.length co9, .int .i64 t441, .int .i64 t442, .int .i64 t443] rfl zq1 ?_; (with_reducible refine (spec_ChangeLevel.calls k _ _ t440 t441 t442 t443 t451 t452 t453 _ ?side1 ?side2 A6.out).mono ?_); (case side1 => repeat (first | exact (Kd.R_reads' HO445.out).2.2 | (with_reducible refine Kd.C_alloc ?_ _) | (with_reducible refine Kd.C_drewN ?_ _) | (with_reducible refine Kd.C_drew ?_))); (case side2 => exact (Kd.R_reads' HO445.out).2.1); rintro e w11 ⟨v454, rfl, ho0, hb⟩; refine ⟨_, rfl, ?_⟩; have n0_ := Aside0.mk (Kd.R_elder' (zqR HO445.out) (Kd.R_base ho0) hb); have n1_ := Aside0.mk (Kd.R_elder' (zqR HO450.out) (Kd.R_base ho0) hb); have n2_ := Aside0.mk (Kd.R_lower (Kd.R_new' (Kd.R_new' ho0 (Kd.R_lt (zqR HO445.out))) (Kd.R_lt (zqR HO450.out))) (below_size zq0)); have n3_ := Aside0.mk (below_step zq0 hb); clear HO445; clear HO450; clear HB; have HO445 := n0_; have HO450 := n1_; have HO455 := n2_; have HB := n3_; clear n0_ n1_ n2_ n3_; (try clear hb); (try clear hb2); (try clear hk); (try clear hi); (try clear ho0)))
  (try simp only [Act.put, List.setIfInBounds_toArray, List.set_cons_zero, List.set_cons_succ])
  go_cut [74] (fun v74 wc => ∃ (kq : Nat) (x74_6 : Bool), v74 = .bool x74_6 ∧ Aside0 (laws_FnLevels.j0 kq l0 t440 t441 t442 t443 t446 t448 x74_6 = some r) ∧ Aside0 (kq ≤ k) ∧ Aside0 (Kd.R k31 31 wc w.heap.size (fun k_ => some k_ ≠ (v449 : Value).ownBlock) (.slice Ao9 t440.length co9) t440) ∧ Aside0 (Kd.R k31 31 wc w.heap.size (fun k_ => some k_ ≠ ((.slice Ao9 t440.length co9) : Value).ownBlock) v449 t446) ∧ Aside0 (Below w.heap.size w wc))
  case first => as_aux_lemma =>
   have H := HC7.out
   clear HC7
   by_cases c12 : (t448 != t453) = true
   ·
    rw [if_pos c12] at H
    exact absurd H (by simp)
   ·
    rw [if_neg c12] at H
    have c12b0 : (t448 != t453) = false := by simpa using c12
    (try (have c12b1 : decide (t448 = t453) = true := by simpa using c12))
    (try (have c12b2 : (t448 == t453) = true := by simpa using c12))
    clear c12
    (first | rw [c12b0] | (simp only [i64_w, i32_w]; rw [c12b0]) | rw [c12b1] | skip)
    by_cases c13 : t447 = t452
    ·
     rw [if_pos c13] at H
     have c13b0 : (t447 == t452) = true := beq_iff_eq.mpr c13
     have c13b1 : (t447 != t452) = false := bne_eq_false_iff_eq.mpr c13
     clear c13
     replace H := Option.bind_eq_some_iff.mp H
     obtain ⟨t456, A140, H⟩ := H
     replace H : (laws_FnLevels.j0 k l0 t440 t441 t442 t443 t446 t448 (!t456)) = some r := H
     have A14 := Aside0.mk A140
     clear A140
     have H' := Aside0.mk H
     clear H
     obtain ⟨Ao15, co15, eo15⟩ := Kd.R_slice HO450.out
     subst eo15
     obtain ⟨Ao16, co16, eo16⟩ := Kd.R_slice HO455.out
     subst eo16
     go_wp2_with (first | (go_at_call 11; (with_reducible refine (laws_vWarnings.calls k _ _ t446 _ _ t451 t456 _ ?side1 ?side2 ?side3 ?side4 A14.out).mono ?_); (case side1 => repeat (first | exact (Kd.R_reads' HO450.out).2.2 | (with_reducible refine Kd.C_alloc ?_ _) | (with_reducible refine Kd.C_drewN ?_ _) | (with_reducible refine Kd.C_drew ?_))); (case side2 => exact (Kd.R_reads' HO450.out).2.1); (case side3 => repeat (first | exact (Kd.R_reads' HO455.out).2.2 | (with_reducible refine Kd.C_alloc ?_ _) | (with_reducible refine Kd.C_drewN ?_ _) | (with_reducible refine Kd.C_drew ?_))); (case side4 => exact (Kd.R_reads' HO455.out).2.1); rintro e w' ⟨rfl, ⟨nd, rfl⟩⟩))
     go_meet
     case rel => exact ⟨_, (!t456), (by first | rfl | (simp; done) | (simp [*]; done)), H', ⟨by first | omega | exact Nat.le_refl _⟩, ⟨by (with_reducible repeat (first | apply Kd.R_alloc | apply Kd.R_drewN | apply Kd.R_drew)); exact Kd.R_mono HO445.out (fun _ hk => hk.1.2)⟩, ⟨by (with_reducible repeat (first | apply Kd.R_alloc | apply Kd.R_drewN | apply Kd.R_drew)); exact Kd.R_mono HO450.out (fun _ hk => hk.1.2)⟩, ⟨by repeat (first | (with_reducible first | exact HB.out | apply below_alloc | apply pw_below_drewN | apply below_drew1) | exact HB.out)⟩⟩
    ·
     rw [if_neg c13] at H
     exact absurd H (by simp)
  case rest =>
   clear HC7
   try clear c1
   try clear p2
   try clear c3
   try clear c7
   try clear c8
   try clear c9
   try clear c10
   try clear c12
   try clear c12b0
   try clear c12b1
   try clear c12b2
   try clear c13
   try clear c13b0
   try clear c13b1
   obtain ⟨kq, x74_6, rfl, HA, HJ6, HO_3, HO_7, HB⟩ := hcut
   cases kq with
   | zero => exact absurd HA.out (by simp [laws_FnLevels.j0])
   | succ kj6 =>
    have H := HA.out
    clear HA
    simp only [laws_FnLevels.j0] at H
    by_cases c17 : x74_6 = true
    ·
     subst c17
     have H1 : (none) = some r := by rw [if_pos rfl] at H; exact H
     clear H
     have H := H1
     clear H1
     exact absurd H (by simp)
    ·
     replace c17 := Bool.eq_false_iff.mpr c17
     subst c17
     have H1 : (if t448 = true then (laws_FnLevels.l0 kj6 l0 t440 t441 t442 t443 t446 (-1) 0) else (laws_FnLevels.j6 kj6 l0)) = some r := by rw [if_neg (show ¬ (false = true) by decide)] at H; exact H
     clear H
     have H := H1
     clear H1
     have HC18 := Aside0.mk H
     clear H
     go_upto_if 75 with (fail)
     go_cut [] (fun wc => ∃ (kq : Nat), Aside0 (laws_FnLevels.j6 kq l0 = some r) ∧ Aside0 (kq ≤ kj6) ∧ Aside0 (Below w.heap.size w wc))
     case first => as_aux_lemma =>
      have H := HC18.out
      clear HC18
      by_cases c19 : t448 = true
      ·
       subst c19
       have H1 : (laws_FnLevels.l0 kj6 l0 t440 t441 t442 t443 t446 (-1) 0) = some r := by rw [if_pos rfl] at H; exact H
       clear H
       have H := H1
       clear H1
       have H' := Aside0.mk H
       clear H
       go_wp2
       go_loopg [13, 14] kj6 (fun kq v13 v14 w' => ∃ (x13_2 : Int) (x14_2 : Int), v13 = .int .i64 x13_2 ∧ v14 = .int .i64 x14_2 ∧ Aside0 (laws_FnLevels.l0 kq l0 t440 t441 t442 t443 t446 x13_2 x14_2 = some r) ∧ Aside0 (kq ≤ kj6) ∧ Aside0 (Kd.R k31 31 w' w.heap.size (fun k_ => some k_ ≠ (v449 : Value).ownBlock) (.slice Ao9 t440.length co9) t440) ∧ Aside0 (Kd.R k31 31 w' w.heap.size (fun k_ => some k_ ≠ ((.slice Ao9 t440.length co9) : Value).ownBlock) v449 t446) ∧ Aside0 (Below w.heap.size w w'))
       case atStart => exact ⟨((-1)), (0), (by first | rfl | (simp; done) | (simp [*]; done)), (by first | rfl | (simp; done) | (simp [*]; done)), H', ⟨Nat.le_refl _⟩, ⟨by (with_reducible repeat (first | apply Kd.R_alloc | apply Kd.R_drewN | apply Kd.R_drew)); exact HO_3.out⟩, ⟨by (with_reducible repeat (first | apply Kd.R_alloc | apply Kd.R_drewN | apply Kd.R_drew)); exact HO_7.out⟩, ⟨by repeat (first | (with_reducible first | exact HB.out | apply below_alloc | apply pw_below_drewN | apply below_drew1) | exact HB.out)⟩⟩
       case round =>
        clear H'
        try clear c1
        try clear p2
        try clear c3
        try clear c7
        try clear c8
        try clear c9
        try clear c10
        try clear c12
        try clear c12b0
        try clear c12b1
        try clear c12b2
        try clear c13
        try clear c13b0
        try clear c13b1
        try clear c17
        try clear c19
        try clear p2
        obtain ⟨x13_2, x14_2, rfl, rfl, HA, HK2, HO_3, HO_7, HB⟩ := hrel
        cases gk with
        | zero => exact absurd HA.out (by simp [laws_FnLevels.l0])
        | succ k2 =>
         have H := HA.out
         clear HA
         simp only [laws_FnLevels.l0] at H
         by_cases c20 : x14_2 < (t440.length : Int)
         ·
          rw [if_pos c20] at H
          have c20b0 : decide (x14_2 < (t440.length : Int)) = true := decide_eq_true c20
          clear c20
          (first | rw [c20b0] | (simp only [i64_w, i32_w]; rw [c20b0]) | skip)
          by_cases c21 : 0 ≤ x14_2
          ·
           rw [if_pos c21] at H
           have c21b0 : decide (0 ≤ x14_2) = true := decide_eq_true c21
           clear c21
           by_cases c22 : ((rd_T31 t440 x14_2).f0) = t441
           ·
            rw [if_pos c22] at H
            have c22b0 : (((rd_T31 t440 x14_2).f0) == t441) = true := beq_iff_eq.mpr c22
            have c22b1 : (((rd_T31 t440 x14_2).f0) != t441) = false := bne_eq_false_iff_eq.mpr c22
            clear c22
            have H' := Aside0.mk H
            clear H
            have p457 : 0 ≤ (x14_2 : Int) := of_decide_eq_true zq2
            have q457 : x14_2 < (t440.length : Int) := of_decide_eq_true zq2
            obtain ⟨ad457, e457, hx457_0, hx457_1, hx457_2, hx457_3, hx457_4, hx457_5⟩ := at_T31 (Kd.R_reads' HO_3.out).2.2 x14_2 p457 q457
            cases e457
            replace p457 := eq_true p457
            replace q457 := eq_true q457
            go_wp2
            go_roundg k2
            case measure => have := HJ6.out; have := HK2.out; omega
            case rel => exact ⟨(x14_2), (wrap64 (x14_2 + 1)), (by first | rfl | (simp; done) | (simp [*]; done)), (by first | rfl | (simp; done) | (simp [*]; done)), H', ⟨by have := HJ6.out; have := HK2.out; omega⟩, ⟨by (with_reducible repeat (first | apply Kd.R_alloc | apply Kd.R_drewN | apply Kd.R_drew)); exact HO_3.out⟩, ⟨by (with_reducible repeat (first | apply Kd.R_alloc | apply Kd.R_drewN | apply Kd.R_drew)); exact HO_7.out⟩, ⟨by repeat (first | (with_reducible first | exact HB.out | apply below_alloc | apply pw_below_drewN | apply below_drew1) | exact HB.out)⟩⟩
           ·
            rw [if_neg c22] at H
            have c22b0 : (((rd_T31 t440 x14_2).f0) == t441) = false := beq_eq_false_iff_ne.mpr c22
            have c22b1 : (((rd_T31 t440 x14_2).f0) != t441) = true := bne_iff_ne.mpr c22
            have H' := Aside0.mk H
            clear H
            have p457 : 0 ≤ (x14_2 : Int) := of_decide_eq_true zq2
            have q457 : x14_2 < (t440.length : Int) := of_decide_eq_true zq2
            obtain ⟨ad457, e457, hx457_0, hx457_1, hx457_2, hx457_3, hx457_4, hx457_5⟩ := at_T31 (Kd.R_reads' HO_3.out).2.2 x14_2 p457 q457
            cases e457
            replace p457 := eq_true p457
            replace q457 := eq_true q457
            go_wp2
            go_roundg k2
            case measure => have := HJ6.out; have := HK2.out; omega
            case rel => exact ⟨(x13_2), (wrap64 (x14_2 + 1)), (by first | rfl | (simp; done) | (simp [*]; done)), (by first | rfl | (simp; done) | (simp [*]; done)), H', ⟨by have := HJ6.out; have := HK2.out; omega⟩, ⟨by (with_reducible repeat (first | apply Kd.R_alloc | apply Kd.R_drewN | apply Kd.R_drew)); exact HO_3.out⟩, ⟨by (with_reducible repeat (first | apply Kd.R_alloc | apply Kd.R_drewN | apply Kd.R_drew)); exact HO_7.out⟩, ⟨by repeat (first | (with_reducible first | exact HB.out | apply below_alloc | apply pw_below_drewN | apply below_drew1) | exact HB.out)⟩⟩
          ·
           rw [if_neg c21] at H
           exact absurd H (by simp)
         ·
          rw [if_neg c20] at H
          have c20b0 : decide (x14_2 < (t440.length : Int)) = false := decide_eq_false c20
          clear c20
          (first | rw [c20b0] | (simp only [i64_w, i32_w]; rw [c20b0]) | skip)
          have HC23 := Aside0.mk H
          clear H
          go_upto_region 15 with (fail)
          go_cut [96] (fun v96 wc => ∃ (kq : Nat) (x96_22 : Bool), v96 = .bool x96_22 ∧ Aside0 (laws_FnLevels.j2 kq l0 t440 t442 t443 t446 x13_2 x96_22 = some r) ∧ Aside0 (kq ≤ k2) ∧ Aside0 (Kd.R k31 31 wc w.heap.size (fun k_ => some k_ ≠ (v449 : Value).ownBlock) (.slice Ao9 t440.length co9) t440) ∧ Aside0 (Kd.R k31 31 wc w.heap.size (fun k_ => some k_ ≠ ((.slice Ao9 t440.length co9) : Value).ownBlock) v449 t446) ∧ Aside0 (Below w.heap.size w wc))
          case first => as_aux_lemma =>
           have H := HC23.out
           clear HC23
           by_cases c24 : x13_2 < 0
           ·
            rw [if_pos c24] at H
            exact absurd H (by simp)
           ·
            rw [if_neg c24] at H
            have c24b0 : decide (x13_2 < 0) = false := decide_eq_false c24
            clear c24
            (first | rw [c24b0] | (simp only [i64_w, i32_w]; rw [c24b0]) | skip)
            replace H := Option.bind_eq_some_iff.mp H
            obtain ⟨t458, A250, H⟩ := H
            replace H : (laws_FnLevels.j2 k2 l0 t440 t442 t443 t446 x13_2 (!t458)) = some r := H
            have A25 := Aside0.mk A250
            clear A250
            have H' := Aside0.mk H
            clear H
            obtain ⟨Ao26, co26, eo26⟩ := Kd.R_slice HO_7.out
            subst eo26
            go_wp2_with (first | (go_at_call 12; (with_reducible refine (impl_IsConsistent.calls k2 _ _ t446 t458 _ ?side1 ?side2 A25.out).mono ?_); (case side1 => repeat (first | exact (Kd.R_reads' HO_7.out).2.2 | (with_reducible refine Kd.C_alloc ?_ _) | (with_reducible refine Kd.C_drewN ?_ _) | (with_reducible refine Kd.C_drew ?_))); (case side2 => exact (Kd.R_reads' HO_7.out).2.1); rintro e w27 ⟨rfl, hb⟩; have n0_ := Aside0.mk (Kd.R_below (zqR HO_3.out) hb); have n1_ := Aside0.mk (Kd.R_below (zqR HO_7.out) hb); have n2_ := Aside0.mk (below_step zq0 hb); clear HO_3; clear HO_7; clear HB; have HO_3 := n0_; have HO_7 := n1_; have HB := n2_; clear n0_ n1_ n2_; (try clear hb); (try clear hb2); (try clear hk); (try clear hi)))
            go_meet
            case rel => exact ⟨_, (!t458), (by first | rfl | (simp; done) | (simp [*]; done)), H', ⟨by have := HJ6.out; have := HK2.out; first | omega | exact Nat.le_refl _⟩, ⟨by (with_reducible repeat (first | apply Kd.R_alloc | apply Kd.R_drewN | apply Kd.R_drew)); exact HO_3.out⟩, ⟨by (with_reducible repeat (first | apply Kd.R_alloc | apply Kd.R_drewN | apply Kd.R_drew)); exact HO_7.out⟩, ⟨by repeat (first | (with_reducible first | exact HB.out | apply below_alloc | apply pw_below_drewN | apply below_drew1) | exact HB.out)⟩⟩
          case rest =>
           clear HC23
           try clear c1
           try clear c2
           try clear p2
           try clear c3
           try clear p4
           try clear q4
           try clear hx4
           try clear p6
           try clear c7
           try clear c8
           try clear c9
           try clear c10
           try clear c12
           try clear c12b0
           try clear c12b1
           try clear c12b2
           try clear c13
           try clear c13b0
           try clear c13b1
           try clear c17
           try clear c19
           try clear c20
           try clear c20b0
           try clear c21
           try clear c21b0
           try clear c22
           try clear c22b0
           try clear c22b1
           try clear c24
           try clear c24b0
           try clear hx457_0
           try clear hx457_1
           try clear hx457_2
           try clear hx457_3
           try clear hx457_4
           try clear hx457_5
           try clear p2
           try clear p457
           try clear q457
           obtain ⟨kq, x96_22, rfl, HA, HJ22, HO_3, HO_7, HB⟩ := hcut
           cases kq with
           | zero => exact absurd HA.out (by simp [laws_FnLevels.j2])
           | succ kj22 =>
            have H := HA.out
            clear HA
            simp only [laws_FnLevels.j2] at H
            by_cases c28 : x96_22 = true
            ·
             subst c28
             have H1 : (none) = some r := by rw [if_pos rfl] at H; exact H
             clear H
             have H := H1
             clear H1
             exact absurd H (by simp)
            ·
             replace c28 := Bool.eq_false_iff.mpr c28
             subst c28
             have H1 : (if 0 ≤ x13_2 then (if x13_2 < (t440.length : Int) then (if t443 < ((rd_T31 t440 x13_2).f4) then (laws_FnLevels.j3 kj22 l0 t440 t442 t443 t446 ((rd_T31 t440 x13_2).f4) ((rd_T31 t440 x13_2).f0) ((rd_T31 t440 x13_2).f1) ((rd_T31 t440 x13_2).f2) ((rd_T31 t440 x13_2).f3) ((rd_T31 t440 x13_2).f4) ((rd_T31 t440 x13_2).f5)) else (laws_FnLevels.j3 kj22 l0 t440 t442 t443 t446 t443 ((rd_T31 t440 x13_2).f0) ((rd_T31 t440 x13_2).f1) ((rd_T31 t440 x13_2).f2) ((rd_T31 t440 x13_2).f3) ((rd_T31 t440 x13_2).f4) ((rd_T31 t440 x13_2).f5))) else (none)) else (none)) = some r := by rw [if_neg (show ¬ (false = true) by decide)] at H; exact H
             clear H
             have H := H1
             clear H1
             by_cases c29 : 0 ≤ x13_2
             ·
              rw [if_pos c29] at H
              have c29b0 : decide (0 ≤ x13_2) = true := decide_eq_true c29
              clear c29
              by_cases c30 : x13_2 < (t440.length : Int)
              ·
               rw [if_pos c30] at H
               have c30b0 : decide (x13_2 < (t440.length : Int)) = true := decide_eq_true c30
               clear c30
               have HC31 := Aside0.mk H
               clear H
               have p459 : 0 ≤ (x13_2 : Int) := of_decide_eq_true zq2
               have q459 : x13_2 < (t440.length : Int) := of_decide_eq_true zq2
               obtain ⟨ad459, e459, hx459_0, hx459_1, hx459_2, hx459_3, hx459_4, hx459_5⟩ := at_T31 (Kd.R_reads' HO_3.out).2.2 x13_2 p459 q459
               cases e459
               replace p459 := eq_true p459
               replace q459 := eq_true q459
               go_upto_if 105 with (first | ((with_reducible refine gate_dst (N := 15) rfl ?_); refine box_event ?hg (N := 15) ?hd (cs := #[.int .i64 0, .int .i64 0, .int .i64 0, .int .i64 0, .int .i64 0, .int .i64 0]) (t := 31) ?hr ?_; (case hd => rfl); (case hg => rfl); (case hr => first | (go_simp; done) | (go_simp; rfl)); intro gb460 hg w32 hbox hb; have n0_ := Aside0.mk (Kd.R_below (Kd.R_elderB (zqR HO_3.out) gb460 (Nat.le_of_eq hg.symm)) hb); have n1_ := Aside0.mk (Kd.R_below (Kd.R_elderB (zqR HO_7.out) gb460 (Nat.le_of_eq hg.symm)) hb); have n2_ := Aside0.mk (below_step zq0 hb); have n3_ := Aside0.mk (hbox); have n4_ := Aside0.mk ((by rw [hg]; exact (below_size zq0) : w.heap.size ≤ gb460)); have n5_ := Aside0.mk ((by rw [hg]; exact (below_size zq0) : w.heap.size ≤ gb460)); clear HO_3; clear HO_7; clear HB; have HO_3 := n0_; have HO_7 := n1_; have HB := n2_; have BK460 := n3_; have GW460 := n4_; have GE460 := n5_; clear n0_ n1_ n2_ n3_ n4_ n5_; clear hb hbox hg; have hcz33_0 : w32.cell? ⟨gb460, 0, none⟩ = some (.int .i64 0) := (blk_cell BK460.out 0).trans rfl; have hcz33_1 : w32.cell? ⟨gb460, 1, none⟩ = some (.int .i64 0) := (blk_cell BK460.out 1).trans rfl; have hcz33_2 : w32.cell? ⟨gb460, 2, none⟩ = some (.int .i64 0) := (blk_cell BK460.out 2).trans rfl; have hcz33_3 : w32.cell? ⟨gb460, 3, none⟩ = some (.int .i64 0) := (blk_cell BK460.out 3).trans rfl; have hcz33_4 : w32.cell? ⟨gb460, 4, none⟩ = some (.int .i64 0) := (blk_cell BK460.out 4).trans rfl; have hcz33_5 : w32.cell? ⟨gb460, 5, none⟩ = some (.int .i64 0) := (blk_cell BK460.out 5).trans rfl; have hfz33_0 := blk_frozen BK460.out 0; have hfz33_1 := blk_frozen BK460.out 1; have hfz33_2 := blk_frozen BK460.out 2; have hfz33_3 := blk_frozen BK460.out 3; have hfz33_4 := blk_frozen BK460.out 4; have hfz33_5 := blk_frozen BK460.out 5))
               (try simp only [Act.put, List.setIfInBounds_toArray, List.set_cons_zero, List.set_cons_succ])
               go_cut [16] (fun v16 wc => ∃ (kq : Nat) (x16_30 : Int), v16 = .int .i64 x16_30 ∧ Aside0 (laws_FnLevels.j3 kq l0 t440 t442 t443 t446 x16_30 ((rd_T31 t440 x13_2).f0) ((rd_T31 t440 x13_2).f1) ((rd_T31 t440 x13_2).f2) ((rd_T31 t440 x13_2).f3) ((rd_T31 t440 x13_2).f4) ((rd_T31 t440 x13_2).f5) = some r) ∧ Aside0 (kq ≤ kj22) ∧ Aside0 (Kd.R k31 31 wc w.heap.size (fun k_ => some k_ ≠ (v449 : Value).ownBlock ∧ k_ ≠ gb460) (.slice (some ad459) t440.length co9) t440) ∧ Aside0 (Kd.R k31 31 wc w.heap.size (fun k_ => some k_ ≠ ((.slice (some ad459) t440.length co9) : Value).ownBlock ∧ k_ ≠ gb460) v449 t446) ∧ Aside0 (wc.heap[gb460]? = some (.cells #[.int .i64 ((rd_T31 t440 x13_2).f0), .int .i64 ((rd_T31 t440 x13_2).f1), .int .i64 ((rd_T31 t440 x13_2).f2), .int .i64 ((rd_T31 t440 x13_2).f3), .int .i64 ((rd_T31 t440 x13_2).f4), .int .i64 ((rd_T31 t440 x13_2).f5)] 31 (0, 0))) ∧ Aside0 (Below w.heap.size w wc))
               case first => as_aux_lemma =>
                have H := HC31.out
                clear HC31
                by_cases c34 : t443 < ((rd_T31 t440 x13_2).f4)
                ·
                 rw [if_pos c34] at H
                 have c34b0 : decide (t443 < ((rd_T31 t440 x13_2).f4)) = true := decide_eq_true c34
                 clear c34
                 (first | rw [c34b0] | (simp only [i64_w, i32_w]; rw [c34b0]) | skip)
                 have H' := Aside0.mk H
                 clear H
                 have hcz35_0 : w32.cell? ⟨gb460, 0, none⟩ = some (.int .i64 0) := (blk_cell BK460.out 0).trans rfl
                 have hcz35_1 : w32.cell? ⟨gb460, 1, none⟩ = some (.int .i64 0) := (blk_cell BK460.out 1).trans rfl
                 have hcz35_2 : w32.cell? ⟨gb460, 2, none⟩ = some (.int .i64 0) := (blk_cell BK460.out 2).trans rfl
                 have hcz35_3 : w32.cell? ⟨gb460, 3, none⟩ = some (.int .i64 0) := (blk_cell BK460.out 3).trans rfl
                 have hcz35_4 : w32.cell? ⟨gb460, 4, none⟩ = some (.int .i64 0) := (blk_cell BK460.out 4).trans rfl
                 have hcz35_5 : w32.cell? ⟨gb460, 5, none⟩ = some (.int .i64 0) := (blk_cell BK460.out 5).trans rfl
                 have hfz35_0 := blk_frozen BK460.out 0
                 have hfz35_1 := blk_frozen BK460.out 1
                 have hfz35_2 := blk_frozen BK460.out 2
                 have hfz35_3 := blk_frozen BK460.out 3
                 have hfz35_4 := blk_frozen BK460.out 4
                 have hfz35_5 := blk_frozen BK460.out 5
                 go_wp2
                 go_meet
                 case rel => exact ⟨_, ((rd_T31 t440 x13_2).f4), (by first | rfl | (simp; done) | (simp [*]; done)), H', ⟨by have := HJ6.out; have := HK2.out; have := HJ22.out; first | omega | exact Nat.le_refl _⟩, ⟨by (with_reducible repeat (first | apply Kd.R_alloc | apply Kd.R_drewN | apply Kd.R_drew)); exact Kd.R_mono (Kd.R_far (p := ⟨gb460, 5, none⟩) (Kd.R_far (p := ⟨gb460, 4, none⟩) (Kd.R_far (p := ⟨gb460, 3, none⟩) (Kd.R_far (p := ⟨gb460, 2, none⟩) (Kd.R_far (p := ⟨gb460, 1, none⟩) (Kd.R_far (p := ⟨gb460, 0, none⟩) (Kd.R_mono HO_3.out (fun k_ hk => (⟨hk, hk.2⟩ : _ ∧ k_ ≠ gb460))) (fun _ hk => hk.2) (.int .i64 ((rd_T31 t440 x13_2).f0))) (fun _ hk => hk.2) (.int .i64 ((rd_T31 t440 x13_2).f1))) (fun _ hk => hk.2) (.int .i64 ((rd_T31 t440 x13_2).f2))) (fun _ hk => hk.2) (.int .i64 ((rd_T31 t440 x13_2).f3))) (fun _ hk => hk.2) (.int .i64 ((rd_T31 t440 x13_2).f4))) (fun _ hk => hk.2) (.int .i64 ((rd_T31 t440 x13_2).f5))) (fun _ hk => ⟨hk.1.1, hk.1.2⟩)⟩, ⟨by (with_reducible repeat (first | apply Kd.R_alloc | apply Kd.R_drewN | apply Kd.R_drew)); exact Kd.R_mono (Kd.R_far (p := ⟨gb460, 5, none⟩) (Kd.R_far (p := ⟨gb460, 4, none⟩) (Kd.R_far (p := ⟨gb460, 3, none⟩) (Kd.R_far (p := ⟨gb460, 2, none⟩) (Kd.R_far (p := ⟨gb460, 1, none⟩) (Kd.R_far (p := ⟨gb460, 0, none⟩) (Kd.R_mono HO_7.out (fun k_ hk => (⟨hk, hk.2⟩ : _ ∧ k_ ≠ gb460))) (fun _ hk => hk.2) (.int .i64 ((rd_T31 t440 x13_2).f0))) (fun _ hk => hk.2) (.int .i64 ((rd_T31 t440 x13_2).f1))) (fun _ hk => hk.2) (.int .i64 ((rd_T31 t440 x13_2).f2))) (fun _ hk => hk.2) (.int .i64 ((rd_T31 t440 x13_2).f3))) (fun _ hk => hk.2) (.int .i64 ((rd_T31 t440 x13_2).f4))) (fun _ hk => hk.2) (.int .i64 ((rd_T31 t440 x13_2).f5))) (fun _ hk => ⟨hk.1.1, hk.1.2⟩)⟩, ⟨by (with_reducible repeat (first | refine blk_drewN ?_ _ | refine blk_drew ?_ | refine blk_alloc ?_ _)); refine blk_put (cs := #[.int .i64 ((rd_T31 t440 x13_2).f0), .int .i64 ((rd_T31 t440 x13_2).f1), .int .i64 ((rd_T31 t440 x13_2).f2), .int .i64 ((rd_T31 t440 x13_2).f3), .int .i64 ((rd_T31 t440 x13_2).f4), .int .i64 0]) ?_ 5 _ rfl; (with_reducible repeat (first | refine blk_drewN ?_ _ | refine blk_drew ?_ | refine blk_alloc ?_ _)); refine blk_put (cs := #[.int .i64 ((rd_T31 t440 x13_2).f0), .int .i64 ((rd_T31 t440 x13_2).f1), .int .i64 ((rd_T31 t440 x13_2).f2), .int .i64 ((rd_T31 t440 x13_2).f3), .int .i64 0, .int .i64 0]) ?_ 4 _ rfl; (with_reducible repeat (first | refine blk_drewN ?_ _ | refine blk_drew ?_ | refine blk_alloc ?_ _)); refine blk_put (cs := #[.int .i64 ((rd_T31 t440 x13_2).f0), .int .i64 ((rd_T31 t440 x13_2).f1), .int .i64 ((rd_T31 t440 x13_2).f2), .int .i64 0, .int .i64 0, .int .i64 0]) ?_ 3 _ rfl; (with_reducible repeat (first | refine blk_drewN ?_ _ | refine blk_drew ?_ | refine blk_alloc ?_ _)); refine blk_put (cs := #[.int .i64 ((rd_T31 t440 x13_2).f0), .int .i64 ((rd_T31 t440 x13_2).f1), .int .i64 0, .int .i64 0, .int .i64 0, .int .i64 0]) ?_ 2 _ rfl; (with_reducible repeat (first | refine blk_drewN ?_ _ | refine blk_drew ?_ | refine blk_alloc ?_ _)); refine blk_put (cs := #[.int .i64 ((rd_T31 t440 x13_2).f0), .int .i64 0, .int .i64 0, .int .i64 0, .int .i64 0, .int .i64 0]) ?_ 1 _ rfl; (with_reducible repeat (first | refine blk_drewN ?_ _ | refine blk_drew ?_ | refine blk_alloc ?_ _)); refine blk_put (cs := #[.int .i64 0, .int .i64 0, .int .i64 0, .int .i64 0, .int .i64 0, .int .i64 0]) ?_ 0 _ rfl; (with_reducible repeat (first | refine blk_drewN ?_ _ | refine blk_drew ?_ | refine blk_alloc ?_ _)); exact BK460.out⟩, ⟨by repeat (first | (with_reducible first | exact HB.out | apply below_alloc | apply pw_below_drewN | apply below_drew1 | refine below_set ?_ GE460.out) | exact HB.out)⟩⟩
                ·
                 rw [if_neg c34] at H
                 have c34b0 : decide (t443 < ((rd_T31 t440 x13_2).f4)) = false := decide_eq_false c34
                 clear c34
                 (first | rw [c34b0] | (simp only [i64_w, i32_w]; rw [c34b0]) | skip)
                 have H' := Aside0.mk H
                 clear H
                 go_wp2
                 go_meet
                 case rel => exact ⟨_, (t443), (by first | rfl | (simp; done) | (simp [*]; done)), H', ⟨by have := HJ6.out; have := HK2.out; have := HJ22.out; first | omega | exact Nat.le_refl _⟩, ⟨by (with_reducible repeat (first | apply Kd.R_alloc | apply Kd.R_drewN | apply Kd.R_drew)); exact Kd.R_mono (Kd.R_far (p := ⟨gb460, 5, none⟩) (Kd.R_far (p := ⟨gb460, 4, none⟩) (Kd.R_far (p := ⟨gb460, 3, none⟩) (Kd.R_far (p := ⟨gb460, 2, none⟩) (Kd.R_far (p := ⟨gb460, 1, none⟩) (Kd.R_far (p := ⟨gb460, 0, none⟩) (Kd.R_mono HO_3.out (fun k_ hk => (⟨hk, hk.2⟩ : _ ∧ k_ ≠ gb460))) (fun _ hk => hk.2) (.int .i64 ((rd_T31 t440 x13_2).f0))) (fun _ hk => hk.2) (.int .i64 ((rd_T31 t440 x13_2).f1))) (fun _ hk => hk.2) (.int .i64 ((rd_T31 t440 x13_2).f2))) (fun _ hk => hk.2) (.int .i64 ((rd_T31 t440 x13_2).f3))) (fun _ hk => hk.2) (.int .i64 ((rd_T31 t440 x13_2).f4))) (fun _ hk => hk.2) (.int .i64 ((rd_T31 t440 x13_2).f5))) (fun _ hk => ⟨hk.1.1, hk.1.2⟩)⟩, ⟨by (with_reducible repeat (first | apply Kd.R_alloc | apply Kd.R_drewN | apply Kd.R_drew)); exact Kd.R_mono (Kd.R_far (p := ⟨gb460, 5, none⟩) (Kd.R_far (p := ⟨gb460, 4, none⟩) (Kd.R_far (p := ⟨gb460, 3, none⟩) (Kd.R_far (p := ⟨gb460, 2, none⟩) (Kd.R_far (p := ⟨gb460, 1, none⟩) (Kd.R_far (p := ⟨gb460, 0, none⟩) (Kd.R_mono HO_7.out (fun k_ hk => (⟨hk, hk.2⟩ : _ ∧ k_ ≠ gb460))) (fun _ hk => hk.2) (.int .i64 ((rd_T31 t440 x13_2).f0))) (fun _ hk => hk.2) (.int .i64 ((rd_T31 t440 x13_2).f1))) (fun _ hk => hk.2) (.int .i64 ((rd_T31 t440 x13_2).f2))) (fun _ hk => hk.2) (.int .i64 ((rd_T31 t440 x13_2).f3))) (fun _ hk => hk.2) (.int .i64 ((rd_T31 t440 x13_2).f4))) (fun _ hk => hk.2) (.int .i64 ((rd_T31 t440 x13_2).f5))) (fun _ hk => ⟨hk.1.1, hk.1.2⟩)⟩, ⟨by (with_reducible repeat (first | refine blk_drewN ?_ _ | refine blk_drew ?_ | refine blk_alloc ?_ _)); refine blk_put (cs := #[.int .i64 ((rd_T31 t440 x13_2).f0), .int .i64 ((rd_T31 t440 x13_2).f1), .int .i64 ((rd_T31 t440 x13_2).f2), .int .i64 ((rd_T31 t440 x13_2).f3), .int .i64 ((rd_T31 t440 x13_2).f4), .int .i64 0]) ?_ 5 _ rfl; (with_reducible repeat (first | refine blk_drewN ?_ _ | refine blk_drew ?_ | refine blk_alloc ?_ _)); refine blk_put (cs := #[.int .i64 ((rd_T31 t440 x13_2).f0), .int .i64 ((rd_T31 t440 x13_2).f1), .int .i64 ((rd_T31 t440 x13_2).f2), .int .i64 ((rd_T31 t440 x13_2).f3), .int .i64 0, .int .i64 0]) ?_ 4 _ rfl; (with_reducible repeat (first | refine blk_drewN ?_ _ | refine blk_drew ?_ | refine blk_alloc ?_ _)); refine blk_put (cs := #[.int .i64 ((rd_T31 t440 x13_2).f0), .int .i64 ((rd_T31 t440 x13_2).f1), .int .i64 ((rd_T31 t440 x13_2).f2), .int .i64 0, .int .i64 0, .int .i64 0]) ?_ 3 _ rfl; (with_reducible repeat (first | refine blk_drewN ?_ _ | refine blk_drew ?_ | refine blk_alloc ?_ _)); refine blk_put (cs := #[.int .i64 ((rd_T31 t440 x13_2).f0), .int .i64 ((rd_T31 t440 x13_2).f1), .int .i64 0, .int .i64 0, .int .i64 0, .int .i64 0]) ?_ 2 _ rfl; (with_reducible repeat (first | refine blk_drewN ?_ _ | refine blk_drew ?_ | refine blk_alloc ?_ _)); refine blk_put (cs := #[.int .i64 ((rd_T31 t440 x13_2).f0), .int .i64 0, .int .i64 0, .int .i64 0, .int .i64 0, .int .i64 0]) ?_ 1 _ rfl; (with_reducible repeat (first | refine blk_drewN ?_ _ | refine blk_drew ?_ | refine blk_alloc ?_ _)); refine blk_put (cs := #[.int .i64 0, .int .i64 0, .int .i64 0, .int .i64 0, .int .i64 0, .int .i64 0]) ?_ 0 _ rfl; (with_reducible repeat (first | refine blk_drewN ?_ _ | refine blk_drew ?_ | refine blk_alloc ?_ _)); exact BK460.out⟩, ⟨by repeat (first | (with_reducible first | exact HB.out | apply below_alloc | apply pw_below_drewN | apply below_drew1 | refine below_set ?_ GE460.out) | exact HB.out)⟩⟩
               case rest =>
                clear HC31
                try clear c1
                try clear c2
                try clear p2
                try clear c3
                try clear p4
                try clear q4
                try clear hx4
                try clear p6
                try clear c7
                try clear c8
                try clear c9
                try clear c10
                try clear c12
                try clear c12b0
                try clear c12b1
                try clear c12b2
                try clear c13
                try clear c13b0
                try clear c13b1
                try clear c17
                try clear c19
                try clear c20
                try clear c20b0
                try clear c21
                try clear c21b0
                try clear c22
                try clear c22b0
                try clear c22b1
                try clear c24
                try clear c24b0
                try clear c28
                try clear c29
                try clear c29b0
                try clear c30
                try clear c30b0
                try clear c34
                try clear c34b0
                try clear hcz33_0
                try clear hcz33_1
                try clear hcz33_2
                try clear hcz33_3
                try clear hcz33_4
                try clear hcz33_5
                try clear hcz35_0
                try clear hcz35_1
                try clear hcz35_2
                try clear hcz35_3
                try clear hcz35_4
                try clear hcz35_5
                try clear hfz33_0
                try clear hfz33_1
                try clear hfz33_2
                try clear hfz33_3
                try clear hfz33_4
                try clear hfz33_5
                try clear hfz35_0
                try clear hfz35_1
                try clear hfz35_2
                try clear hfz35_3
                try clear hfz35_4
                try clear hfz35_5
                try clear hx457_0
                try clear hx457_1
                try clear hx457_2
                try clear hx457_3
                try clear hx457_4
                try clear hx457_5
                try clear hx459_0
                try clear hx459_1
                try clear hx459_2
                try clear hx459_3
                try clear hx459_4
                try clear hx459_5
                try clear p2
                try clear p4
                try clear p457
                try clear p459
                try clear p6
                try clear q4
                try clear q457
                try clear q459
                obtain ⟨kq, x16_30, rfl, HA, HJ30, HO_3, HO_7, BK460, HB⟩ := hcut
                cases kq with
                | zero => exact absurd HA.out (by simp [laws_FnLevels.j3])
                | succ kj30 =>
                 have H := HA.out
                 clear HA
                 simp only [laws_FnLevels.j3] at H
                 replace H := Option.bind_eq_some_iff.mp H
                 obtain ⟨⟨t461, t462⟩, A360, H⟩ := H
                 replace H : ((impl_TopicLevel.f kj30 t446 ((rd_T31 t440 x13_2).f1) ((rd_T31 t440 x13_2).f3) (wrap64 (((rd_T31 t440 x13_2).f5) - 1))).bind fun bt463 => (if t462 = true then (if bt463.2 = true then (if t461 = t442 then (laws_FnLevels.j4 kj30 l0 t440 t443 t446 (bt463.1 != t442) ((rd_T31 t440 x13_2).f0) ((rd_T31 t440 x13_2).f1) ((rd_T31 t440 x13_2).f2) ((rd_T31 t440 x13_2).f3) ((rd_T31 t440 x13_2).f4) ((rd_T31 t440 x13_2).f5)) else (none)) else (none)) else (none))) = some r := H
                 have A36 := Aside0.mk A360
                 clear A360
                 replace H := Option.bind_eq_some_iff.mp H
                 obtain ⟨⟨t463, t464⟩, A370, H⟩ := H
                 replace H : (if t462 = true then (if t464 = true then (if t461 = t442 then (laws_FnLevels.j4 kj30 l0 t440 t443 t446 (t463 != t442) ((rd_T31 t440 x13_2).f0) ((rd_T31 t440 x13_2).f1) ((rd_T31 t440 x13_2).f2) ((rd_T31 t440 x13_2).f3) ((rd_T31 t440 x13_2).f4) ((rd_T31 t440 x13_2).f5)) else (none)) else (none)) else (none)) = some r := H
                 have A37 := Aside0.mk A370
                 clear A370
                 have HC38 := Aside0.mk H
                 clear H
                 have hcz39_0 : wc.cell? ⟨gb460, 0, none⟩ = some (.int .i64 ((rd_T31 t440 x13_2).f0)) := (blk_cell BK460.out 0).trans rfl
                 have hcz39_1 : wc.cell? ⟨gb460, 1, none⟩ = some (.int .i64 ((rd_T31 t440 x13_2).f1)) := (blk_cell BK460.out 1).trans rfl
                 have hcz39_2 : wc.cell? ⟨gb460, 2, none⟩ = some (.int .i64 ((rd_T31 t440 x13_2).f2)) := (blk_cell BK460.out 2).trans rfl
                 have hcz39_3 : wc.cell? ⟨gb460, 3, none⟩ = some (.int .i64 ((rd_T31 t440 x13_2).f3)) := (blk_cell BK460.out 3).trans rfl
                 have hcz39_4 : wc.cell? ⟨gb460, 4, none⟩ = some (.int .i64 ((rd_T31 t440 x13_2).f4)) := (blk_cell BK460.out 4).trans rfl
                 have hcz39_5 : wc.cell? ⟨gb460, 5, none⟩ = some (.int .i64 ((rd_T31 t440 x13_2).f5)) := (blk_cell BK460.out 5).trans rfl
                 have hfz39_0 := blk_frozen BK460.out 0
                 have hfz39_1 := blk_frozen BK460.out 1
                 have hfz39_2 := blk_frozen BK460.out 2
                 have hfz39_3 := blk_frozen BK460.out 3
                 have hfz39_4 := blk_frozen BK460.out 4
                 have hfz39_5 := blk_frozen BK460.out 5
                 obtain ⟨Ao40, co40, eo40⟩ := Kd.R_slice HO_7.out
                 subst eo40
                 go_upto_region 23 with (first | ((with_reducible refine gate_callee (f := 13) rfl ?_); refine goesL_ (some 115) rfl rfl Try.func13 (by kernel_rfl) rfl #[.slice Ao40 t446.length co40, .int .i64 ((rd_T31 t440 x13_2).f1), .int .i64 ((rd_T31 t440 x13_2).f3), .int .i64 x16_30] rfl zq1 ?_; (with_reducible refine (impl_TopicLevel.calls kj30 _ _ t446 ((rd_T31 t440 x13_2).f1) ((rd_T31 t440 x13_2).f3) x16_30 t461 t462 _ ?side1 ?side2 A36.out).mono ?_); (case side1 => repeat (first | exact (Kd.R_reads' HO_7.out).2.2 | (with_reducible refine Kd.C_alloc ?_ _) | (with_reducible refine Kd.C_drewN ?_ _) | (with_reducible refine Kd.C_drew ?_))); (case side2 => exact (Kd.R_reads' HO_7.out).2.1); rintro e w41 ⟨rfl, hb⟩; refine ⟨_, rfl, ?_⟩; have n0_ := Aside0.mk (Kd.R_below (zqR HO_3.out) hb); have n1_ := Aside0.mk (Kd.R_below (zqR HO_7.out) hb); have n2_ := Aside0.mk (blk_below (g := gb460) (o := .cells #[.int .i64 ((rd_T31 t440 x13_2).f0), .int .i64 ((rd_T31 t440 x13_2).f1), .int .i64 ((rd_T31 t440 x13_2).f2), .int .i64 ((rd_T31 t440 x13_2).f3), .int .i64 ((rd_T31 t440 x13_2).f4), .int .i64 ((rd_T31 t440 x13_2).f5)] 31 (0, 0)) (zqK BK460.out) hb); have n3_ := Aside0.mk (below_step zq23 hb); clear HO_3; clear HO_7; clear BK460; clear HB; have HO_3 := n0_; have HO_7 := n1_; have BK460 := n2_; have HB := n3_; clear n0_ n1_ n2_ n3_; (try clear hb); (try clear hb2); (try clear hk); (try clear hi); have hcz42_0 : w41.cell? ⟨gb460, 0, none⟩ = some (.int .i64 ((rd_T31 t440 x13_2).f0)) := (blk_cell BK460.out 0).trans rfl; have hcz42_1 : w41.cell? ⟨gb460, 1, none⟩ = some (.int .i64 ((rd_T31 t440 x13_2).f1)) := (blk_cell BK460.out 1).trans rfl; have hcz42_2 : w41.cell? ⟨gb460, 2, none⟩ = some (.int .i64 ((rd_T31 t440 x13_2).f2)) := (blk_cell BK460.out 2).trans rfl; have hcz42_3 : w41.cell? ⟨gb460, 3, none⟩ = some (.int .i64 ((rd_T31 t440 x13_2).f3)) := (blk_cell BK460.out 3).trans rfl; have hcz42_4 : w41.cell? ⟨gb460, 4, none⟩ = some (.int .i64 ((rd_T31 t440 x13_2).f4)) := (blk_cell BK460.out 4).trans rfl; have hcz42_5 : w41.cell? ⟨gb460, 5, none⟩ = some (.int .i64 ((rd_T31 t440 x13_2).f5)) := (blk_cell BK460.out 5).trans rfl; have hfz42_0 := blk_frozen BK460.out 0; have hfz42_1 := blk_frozen BK460.out 1; have hfz42_2 := blk_frozen BK460.out 2; have hfz42_3 := blk_frozen BK460.out 3; have hfz42_4 := blk_frozen BK460.out 4; have hfz42_5 := blk_frozen BK460.out 5) | ((with_reducible refine gate_callee (f := 13) rfl ?_); refine goesL_ (some 127) rfl rfl Try.func13 (by kernel_rfl) rfl #[.slice Ao40 t446.length co40, .int .i64 ((rd_T31 t440 x13_2).f1), .int .i64 ((rd_T31 t440 x13_2).f3), .int .i64 (wrap64 (((rd_T31 t440 x13_2).f5) - 1))] rfl zq1 ?_; (with_reducible refine (impl_TopicLevel.calls kj30 _ _ t446 ((rd_T31 t440 x13_2).f1) ((rd_T31 t440 x13_2).f3) (wrap64 (((rd_T31 t440 x13_2).f5) - 1)) t463 t464 _ ?side1 ?side2 A37.out).mono ?_); (case side1 => repeat (first | exact (Kd.R_reads' HO_7.out).2.2 | (with_reducible refine Kd.C_alloc ?_ _) | (with_reducible refine Kd.C_drewN ?_ _) | (with_reducible refine Kd.C_drew ?_))); (case side2 => exact (Kd.R_reads' HO_7.out).2.1); rintro e w43 ⟨rfl, hb⟩; refine ⟨_, rfl, ?_⟩; have n0_ := Aside0.mk (Kd.R_below (zqR HO_3.out) hb); have n1_ := Aside0.mk (Kd.R_below (zqR HO_7.out) hb); have n2_ := Aside0.mk (blk_below (g := gb460) (o := .cells #[.int .i64 ((rd_T31 t440 x13_2).f0), .int .i64 ((rd_T31 t440 x13_2).f1), .int .i64 ((rd_T31 t440 x13_2).f2), .int .i64 ((rd_T31 t440 x13_2).f3), .int .i64 ((rd_T31 t440 x13_2).f4), .int .i64 ((rd_T31 t440 x13_2).f5)] 31 (0, 0)) (zqK BK460.out) hb); have n3_ := Aside0.mk (below_step zq23 hb); clear HO_3; clear HO_7; clear BK460; clear HB; have HO_3 := n0_; have HO_7 := n1_; have BK460 := n2_; have HB := n3_; clear n0_ n1_ n2_ n3_; (try clear hb); (try clear hb2); (try clear hk); (try clear hi)))
                 (try simp only [Act.put, List.setIfInBounds_toArray, List.set_cons_zero, List.set_cons_succ])
                 go_cut [145] (fun v145 wc => ∃ (kq : Nat) (x145_37 : Bool), v145 = .bool x145_37 ∧ Aside0 (laws_FnLevels.j4 kq l0 t440 t443 t446 x145_37 ((rd_T31 t440 x13_2).f0) ((rd_T31 t440 x13_2).f1) ((rd_T31 t440 x13_2).f2) ((rd_T31 t440 x13_2).f3) ((rd_T31 t440 x13_2).f4) ((rd_T31 t440 x13_2).f5) = some r) ∧ Aside0 (kq ≤ kj30) ∧ Aside0 (Kd.R k31 31 wc w.heap.size (fun k_ => some k_ ≠ ((.slice Ao40 t446.length co40) : Value).ownBlock ∧ k_ ≠ gb460) (.slice (some ad459) t440.length co9) t440) ∧ Aside0 (Kd.R k31 31 wc w.heap.size (fun k_ => some k_ ≠ ((.slice (some ad459) t440.length co9) : Value).ownBlock ∧ k_ ≠ gb460) (.slice Ao40 t446.length co40) t446) ∧ Aside0 (wc.heap[gb460]? = some (.cells #[.int .i64 ((rd_T31 t440 x13_2).f0), .int .i64 ((rd_T31 t440 x13_2).f1), .int .i64 ((rd_T31 t440 x13_2).f2), .int .i64 ((rd_T31 t440 x13_2).f3), .int .i64 ((rd_T31 t440 x13_2).f4), .int .i64 ((rd_T31 t440 x13_2).f5)] 31 (0, 0))) ∧ Aside0 (Below w.heap.size w wc))
                 case first => as_aux_lemma =>
                  have H := HC38.out
                  clear HC38
                  by_cases c44 : t462 = true
                  ·
                   subst c44
                   have H1 : (if t464 = true then (if t461 = t442 then (laws_FnLevels.j4 kj30 l0 t440 t443 t446 (t463 != t442) ((rd_T31 t440 x13_2).f0) ((rd_T31 t440 x13_2).f1) ((rd_T31 t440 x13_2).f2) ((rd_T31 t440 x13_2).f3) ((rd_T31 t440 x13_2).f4) ((rd_T31 t440 x13_2).f5)) else (none)) else (none)) = some r := by rw [if_pos rfl] at H; exact H
                   clear H
                   have H := H1
                   clear H1
                   by_cases c45 : t464 = true
                   ·
                    subst c45
                    have H1 : (if t461 = t442 then (laws_FnLevels.j4 kj30 l0 t440 t443 t446 (t463 != t442) ((rd_T31 t440 x13_2).f0) ((rd_T31 t440 x13_2).f1) ((rd_T31 t440 x13_2).f2) ((rd_T31 t440 x13_2).f3) ((rd_T31 t440 x13_2).f4) ((rd_T31 t440 x13_2).f5)) else (none)) = some r := by rw [if_pos rfl] at H; exact H
                    clear H
                    have H := H1
                    clear H1
                    by_cases c46 : t461 = t442
                    ·
                     rw [if_pos c46] at H
                     have c46b0 : (t461 == t442) = true := beq_iff_eq.mpr c46
                     have c46b1 : (t461 != t442) = false := bne_eq_false_iff_eq.mpr c46
                     clear c46
                     (first | rw [c46b0] | (simp only [i64_w, i32_w]; rw [c46b0]) | rw [c46b1] | skip)
                     have H' := Aside0.mk H
                     clear H
                     go_wp2
                     go_meet
                     case rel => exact ⟨_, ((t463 != t442)), (by first | rfl | (simp; done) | (simp [*]; done)), H', ⟨by have := HJ6.out; have := HK2.out; have := HJ22.out; have := HJ30.out; first | omega | exact Nat.le_refl _⟩, ⟨by (with_reducible repeat (first | apply Kd.R_alloc | apply Kd.R_drewN | apply Kd.R_drew)); exact HO_3.out⟩, ⟨by (with_reducible repeat (first | apply Kd.R_alloc | apply Kd.R_drewN | apply Kd.R_drew)); exact HO_7.out⟩, ⟨by (with_reducible repeat (first | refine blk_drewN ?_ _ | refine blk_drew ?_ | refine blk_alloc ?_ _)); exact BK460.out⟩, ⟨by repeat (first | (with_reducible first | exact HB.out | apply below_alloc | apply pw_below_drewN | apply below_drew1 | refine below_set ?_ GE460.out) | exact HB.out)⟩⟩
                    ·
                     rw [if_neg c46] at H
                     exact absurd H (by simp)
                   ·
                    replace c45 := Bool.eq_false_iff.mpr c45
                    subst c45
                    have H1 : (none) = some r := by rw [if_neg (show ¬ (false = true) by decide)] at H; exact H
                    clear H
                    have H := H1
                    clear H1
                    exact absurd H (by simp)
                  ·
                   replace c44 := Bool.eq_false_iff.mpr c44
                   subst c44
                   have H1 : (none) = some r := by rw [if_neg (show ¬ (false = true) by decide)] at H; exact H
                   clear H
                   have H := H1
                   clear H1
                   exact absurd H (by simp)
                 case rest =>
                  clear HC38
                  try clear c1
                  try clear c2
                  try clear p2
                  try clear c3
                  try clear c4
                  try clear p4
                  try clear q4
                  try clear hx4
                  try clear p6
                  try clear c7
                  try clear c8
                  try clear c9
                  try clear c10
                  try clear c12
                  try clear c12b0
                  try clear c12b1
                  try clear c12b2
                  try clear c13
                  try clear c13b0
                  try clear c13b1
                  try clear c17
                  try clear c19
                  try clear c20
                  try clear c20b0
                  try clear c21
                  try clear c21b0
                  try clear c22
                  try clear c22b0
                  try clear c22b1
                  try clear c24
                  try clear c24b0
                  try clear c28
                  try clear c29
                  try clear c29b0
                  try clear c30
                  try clear c30b0
                  try clear c34
                  try clear c34b0
                  try clear c44
                  try clear c45
                  try clear p45
                  try clear q45
                  try clear hx45
                  try clear c46
                  try clear c46b0
                  try clear c46b1
                  try clear hcz33_0
                  try clear hcz33_1
                  try clear hcz33_2
                  try clear hcz33_3
                  try clear hcz33_4
                  try clear hcz33_5
                  try clear hcz35_0
                  try clear hcz35_1
                  try clear hcz35_2
                  try clear hcz35_3
                  try clear hcz35_4
                  try clear hcz35_5
                  try clear hcz39_0
                  try clear hcz39_1
                  try clear hcz39_2
                  try clear hcz39_3
                  try clear hcz39_4
                  try clear hcz39_5
                  try clear hcz42_0
                  try clear hcz42_1
                  try clear hcz42_2
                  try clear hcz42_3
                  try clear hcz42_4
                  try clear hcz42_5
                  try clear hfz33_0
                  try clear hfz33_1
                  try clear hfz33_2
                  try clear hfz33_3
                  try clear hfz33_4
                  try clear hfz33_5
                  try clear hfz35_0
                  try clear hfz35_1
                  try clear hfz35_2
                  try clear hfz35_3
                  try clear hfz35_4
                  try clear hfz35_5
                  try clear hfz39_0
                  try clear hfz39_1
                  try clear hfz39_2
                  try clear hfz39_3
                  try clear hfz39_4
                  try clear hfz39_5
                  try clear hfz42_0
                  try clear hfz42_1
                  try clear hfz42_2
                  try clear hfz42_3
                  try clear hfz42_4
                  try clear hfz42_5
                  try clear hx457_0
                  try clear hx457_1
                  try clear hx457_2
                  try clear hx457_3
                  try clear hx457_4
                  try clear hx457_5
                  try clear hx459_0
                  try clear hx459_1
                  try clear hx459_2
                  try clear hx459_3
                  try clear hx459_4
                  try clear hx459_5
                  try clear p2
                  try clear p4
                  try clear p457
                  try clear p459
                  try clear p6
                  try clear q4
                  try clear q457
                  try clear q459
                  obtain ⟨kq, x145_37, rfl, HA, HJ37, HO_3, HO_7, BK460, HB⟩ := hcut
                  cases kq with
                  | zero => exact absurd HA.out (by simp [laws_FnLevels.j4])
                  | succ kj37 =>
                   have H := HA.out
                   clear HA
                   simp only [laws_FnLevels.j4] at H
                   by_cases c47 : x145_37 = true
                   ·
                    subst c47
                    have H1 : (none) = some r := by rw [if_pos rfl] at H; exact H
                    clear H
                    have H := H1
                    clear H1
                    exact absurd H (by simp)
                   ·
                    replace c47 := Bool.eq_false_iff.mpr c47
                    subst c47
                    have H1 : (if t443 > ((rd_T31 t440 x13_2).f4) then ((impl_TopicLevel.f kj37 t446 ((rd_T31 t440 x13_2).f1) ((rd_T31 t440 x13_2).f3) (wrap64 (t443 - 1))).bind fun bt465 => (if bt465.2 = true then (if bt465.1 = ((rd_T31 t440 x13_2).f2) then (laws_FnLevels.j5 kj37 l0 t440 t446 ((rd_T31 t440 x13_2).f0) ((rd_T31 t440 x13_2).f1) ((rd_T31 t440 x13_2).f2) ((rd_T31 t440 x13_2).f3) ((rd_T31 t440 x13_2).f4) ((rd_T31 t440 x13_2).f5)) else (none)) else (none))) else (laws_FnLevels.j5 kj37 l0 t440 t446 ((rd_T31 t440 x13_2).f0) ((rd_T31 t440 x13_2).f1) ((rd_T31 t440 x13_2).f2) ((rd_T31 t440 x13_2).f3) ((rd_T31 t440 x13_2).f4) ((rd_T31 t440 x13_2).f5))) = some r := by rw [if_neg (show ¬ (false = true) by decide)] at H; exact H
                    clear H
                    have H := H1
                    clear H1
                    have HC48 := Aside0.mk H
                    clear H
                    have hcz49_0 : wc.cell? ⟨gb460, 0, none⟩ = some (.int .i64 ((rd_T31 t440 x13_2).f0)) := (blk_cell BK460.out 0).trans rfl
                    have hcz49_1 : wc.cell? ⟨gb460, 1, none⟩ = some (.int .i64 ((rd_T31 t440 x13_2).f1)) := (blk_cell BK460.out 1).trans rfl
                    have hcz49_2 : wc.cell? ⟨gb460, 2, none⟩ = some (.int .i64 ((rd_T31 t440 x13_2).f2)) := (blk_cell BK460.out 2).trans rfl
                    have hcz49_3 : wc.cell? ⟨gb460, 3, none⟩ = some (.int .i64 ((rd_T31 t440 x13_2).f3)) := (blk_cell BK460.out 3).trans rfl
                    have hcz49_4 : wc.cell? ⟨gb460, 4, none⟩ = some (.int .i64 ((rd_T31 t440 x13_2).f4)) := (blk_cell BK460.out 4).trans rfl
                    have hcz49_5 : wc.cell? ⟨gb460, 5, none⟩ = some (.int .i64 ((rd_T31 t440 x13_2).f5)) := (blk_cell BK460.out 5).trans rfl
                    have hfz49_0 := blk_frozen BK460.out 0
                    have hfz49_1 := blk_frozen BK460.out 1
                    have hfz49_2 := blk_frozen BK460.out 2
                    have hfz49_3 := blk_frozen BK460.out 3
                    have hfz49_4 := blk_frozen BK460.out 4
                    have hfz49_5 := blk_frozen BK460.out 5
                    go_upto_if 149 with (fail)
                    go_cut [] (fun wc => ∃ (kq : Nat), Aside0 (laws_FnLevels.j5 kq l0 t440 t446 ((rd_T31 t440 x13_2).f0) ((rd_T31 t440 x13_2).f1) ((rd_T31 t440 x13_2).f2) ((rd_T31 t440 x13_2).f3) ((rd_T31 t440 x13_2).f4) ((rd_T31 t440 x13_2).f5) = some r) ∧ Aside0 (kq ≤ kj37) ∧ Aside0 (Kd.R k31 31 wc w.heap.size (fun k_ => some k_ ≠ ((.slice Ao40 t446.length co40) : Value).ownBlock ∧ k_ ≠ gb460) (.slice (some ad459) t440.length co9) t440) ∧ Aside0 (Kd.R k31 31 wc w.heap.size (fun k_ => some k_ ≠ ((.slice (some ad459) t440.length co9) : Value).ownBlock ∧ k_ ≠ gb460) (.slice Ao40 t446.length co40) t446) ∧ Aside0 (wc.heap[gb460]? = some (.cells #[.int .i64 ((rd_T31 t440 x13_2).f0), .int .i64 ((rd_T31 t440 x13_2).f1), .int .i64 ((rd_T31 t440 x13_2).f2), .int .i64 ((rd_T31 t440 x13_2).f3), .int .i64 ((rd_T31 t440 x13_2).f4), .int .i64 ((rd_T31 t440 x13_2).f5)] 31 (0, 0))) ∧ Aside0 (Below w.heap.size w wc))
                    case first => as_aux_lemma =>
                     have H := HC48.out
                     clear HC48
                     by_cases c50 : t443 > ((rd_T31 t440 x13_2).f4)
                     ·
                      rw [if_pos c50] at H
                      have c50b0 : decide (((rd_T31 t440 x13_2).f4) < t443) = true := decide_eq_true c50
                      clear c50
                      (first | rw [c50b0] | (simp only [i64_w, i32_w]; rw [c50b0]) | skip)
                      replace H := Option.bind_eq_some_iff.mp H
                      obtain ⟨⟨t465, t466⟩, A510, H⟩ := H
                      replace H : (if t466 = true then (if t465 = ((rd_T31 t440 x13_2).f2) then (laws_FnLevels.j5 kj37 l0 t440 t446 ((rd_T31 t440 x13_2).f0) ((rd_T31 t440 x13_2).f1) ((rd_T31 t440 x13_2).f2) ((rd_T31 t440 x13_2).f3) ((rd_T31 t440 x13_2).f4) ((rd_T31 t440 x13_2).f5)) else (none)) else (none)) = some r := H
                      have A51 := Aside0.mk A510
                      clear A510
                      by_cases c52 : t466 = true
                      ·
                       subst c52
                       have H1 : (if t465 = ((rd_T31 t440 x13_2).f2) then (laws_FnLevels.j5 kj37 l0 t440 t446 ((rd_T31 t440 x13_2).f0) ((rd_T31 t440 x13_2).f1) ((rd_T31 t440 x13_2).f2) ((rd_T31 t440 x13_2).f3) ((rd_T31 t440 x13_2).f4) ((rd_T31 t440 x13_2).f5)) else (none)) = some r := by rw [if_pos rfl] at H; exact H
                       clear H
                       have H := H1
                       clear H1
                       by_cases c53 : t465 = ((rd_T31 t440 x13_2).f2)
                       ·
                        rw [if_pos c53] at H
                        have c53b0 : (t465 == ((rd_T31 t440 x13_2).f2)) = true := beq_iff_eq.mpr c53
                        have c53b1 : (t465 != ((rd_T31 t440 x13_2).f2)) = false := bne_eq_false_iff_eq.mpr c53
                        clear c53
                        have H' := Aside0.mk H
                        clear H
                        have hcz54_0 : wc.cell? ⟨gb460, 0, none⟩ = some (.int .i64 ((rd_T31 t440 x13_2).f0)) := (blk_cell BK460.out 0).trans rfl
                        have hcz54_1 : wc.cell? ⟨gb460, 1, none⟩ = some (.int .i64 ((rd_T31 t440 x13_2).f1)) := (blk_cell BK460.out 1).trans rfl
                        have hcz54_2 : wc.cell? ⟨gb460, 2, none⟩ = some (.int .i64 ((rd_T31 t440 x13_2).f2)) := (blk_cell BK460.out 2).trans rfl
                        have hcz54_3 : wc.cell? ⟨gb460, 3, none⟩ = some (.int .i64 ((rd_T31 t440 x13_2).f3)) := (blk_cell BK460.out 3).trans rfl
                        have hcz54_4 : wc.cell? ⟨gb460, 4, none⟩ = some (.int .i64 ((rd_T31 t440 x13_2).f4)) := (blk_cell BK460.out 4).trans rfl
                        have hcz54_5 : wc.cell? ⟨gb460, 5, none⟩ = some (.int .i64 ((rd_T31 t440 x13_2).f5)) := (blk_cell BK460.out 5).trans rfl
                        have hfz54_0 := blk_frozen BK460.out 0
                        have hfz54_1 := blk_frozen BK460.out 1
                        have hfz54_2 := blk_frozen BK460.out 2
                        have hfz54_3 := blk_frozen BK460.out 3
                        have hfz54_4 := blk_frozen BK460.out 4
                        have hfz54_5 := blk_frozen BK460.out 5
                        go_wp2_with (first | ((with_reducible refine gate_callee (f := 13) rfl ?_); refine goesL_ (some 158) rfl rfl Try.func13 (by kernel_rfl) rfl #[.slice Ao40 t446.length co40, .int .i64 ((rd_T31 t440 x13_2).f1), .int .i64 ((rd_T31 t440 x13_2).f3), .int .i64 (wrap64 (t443 - 1))] rfl zq1 ?_; (with_reducible refine (impl_TopicLevel.calls kj37 _ _ t446 ((rd_T31 t440 x13_2).f1) ((rd_T31 t440 x13_2).f3) (wrap64 (t443 - 1)) t465 true _ ?side1 ?side2 A51.out).mono ?_); (case side1 => repeat (first | exact (Kd.R_reads' HO_7.out).2.2 | (with_reducible refine Kd.C_alloc ?_ _) | (with_reducible refine Kd.C_drewN ?_ _) | (with_reducible refine Kd.C_drew ?_))); (case side2 => exact (Kd.R_reads' HO_7.out).2.1); rintro e w55 ⟨rfl, hb⟩; refine ⟨_, rfl, ?_⟩; have n0_ := Aside0.mk (Kd.R_below (zqR HO_3.out) hb); have n1_ := Aside0.mk (Kd.R_below (zqR HO_7.out) hb); have n2_ := Aside0.mk (blk_below (g := gb460) (o := .cells #[.int .i64 ((rd_T31 t440 x13_2).f0), .int .i64 ((rd_T31 t440 x13_2).f1), .int .i64 ((rd_T31 t440 x13_2).f2), .int .i64 ((rd_T31 t440 x13_2).f3), .int .i64 ((rd_T31 t440 x13_2).f4), .int .i64 ((rd_T31 t440 x13_2).f5)] 31 (0, 0)) (zqK BK460.out) hb); have n3_ := Aside0.mk (below_step zq23 hb); clear HO_3; clear HO_7; clear BK460; clear HB; have HO_3 := n0_; have HO_7 := n1_; have BK460 := n2_; have HB := n3_; clear n0_ n1_ n2_ n3_; (try clear hb); (try clear hb2); (try clear hk); (try clear hi); have hcz56_0 : w55.cell? ⟨gb460, 0, none⟩ = some (.int .i64 ((rd_T31 t440 x13_2).f0)) := (blk_cell BK460.out 0).trans rfl; have hcz56_1 : w55.cell? ⟨gb460, 1, none⟩ = some (.int .i64 ((rd_T31 t440 x13_2).f1)) := (blk_cell BK460.out 1).trans rfl; have hcz56_2 : w55.cell? ⟨gb460, 2, none⟩ = some (.int .i64 ((rd_T31 t440 x13_2).f2)) := (blk_cell BK460.out 2).trans rfl; have hcz56_3 : w55.cell? ⟨gb460, 3, none⟩ = some (.int .i64 ((rd_T31 t440 x13_2).f3)) := (blk_cell BK460.out 3).trans rfl; have hcz56_4 : w55.cell? ⟨gb460, 4, none⟩ = some (.int .i64 ((rd_T31 t440 x13_2).f4)) := (blk_cell BK460.out 4).trans rfl; have hcz56_5 : w55.cell? ⟨gb460, 5, none⟩ = some (.int .i64 ((rd_T31 t440 x13_2).f5)) := (blk_cell BK460.out 5).trans rfl; have hfz56_0 := blk_frozen BK460.out 0; have hfz56_1 := blk_frozen BK460.out 1; have hfz56_2 := blk_frozen BK460.out 2; have hfz56_3 := blk_frozen BK460.out 3; have hfz56_4 := blk_frozen BK460.out 4; have hfz56_5 := blk_frozen BK460.out 5))
                        go_meet
                        case rel => exact ⟨_, H', ⟨by have := HJ6.out; have := HK2.out; have := HJ22.out; have := HJ30.out; have := HJ37.out; first | omega | exact Nat.le_refl _⟩, ⟨by (with_reducible repeat (first | apply Kd.R_alloc | apply Kd.R_drewN | apply Kd.R_drew)); exact HO_3.out⟩, ⟨by (with_reducible repeat (first | apply Kd.R_alloc | apply Kd.R_drewN | apply Kd.R_drew)); exact HO_7.out⟩, ⟨by (with_reducible repeat (first | refine blk_drewN ?_ _ | refine blk_drew ?_ | refine blk_alloc ?_ _)); exact BK460.out⟩, ⟨by repeat (first | (with_reducible first | exact HB.out | apply below_alloc | apply pw_below_drewN | apply below_drew1 | refine below_set ?_ GE460.out) | exact HB.out)⟩⟩
                       ·
                        rw [if_neg c53] at H
                        exact absurd H (by simp)
                      ·
                       replace c52 := Bool.eq_false_iff.mpr c52
                       subst c52
                       have H1 : (none) = some r := by rw [if_neg (show ¬ (false = true) by decide)] at H; exact H
                       clear H
                       have H := H1
                       clear H1
                       exact absurd H (by simp)
                     ·
                      rw [if_neg c50] at H
                      have c50b0 : decide (((rd_T31 t440 x13_2).f4) < t443) = false := decide_eq_false c50
                      clear c50
                      (first | rw [c50b0] | (simp only [i64_w, i32_w]; rw [c50b0]) | skip)
                      have H' := Aside0.mk H
                      clear H
                      go_wp2
                      go_meet
                      case rel => exact ⟨_, H', ⟨by have := HJ6.out; have := HK2.out; have := HJ22.out; have := HJ30.out; have := HJ37.out; first | omega | exact Nat.le_refl _⟩, ⟨by (with_reducible repeat (first | apply Kd.R_alloc | apply Kd.R_drewN | apply Kd.R_drew)); exact HO_3.out⟩, ⟨by (with_reducible repeat (first | apply Kd.R_alloc | apply Kd.R_drewN | apply Kd.R_drew)); exact HO_7.out⟩, ⟨by (with_reducible repeat (first | refine blk_drewN ?_ _ | refine blk_drew ?_ | refine blk_alloc ?_ _)); exact BK460.out⟩, ⟨by repeat (first | (with_reducible first | exact HB.out | apply below_alloc | apply pw_below_drewN | apply below_drew1 | refine below_set ?_ GE460.out) | exact HB.out)⟩⟩
                    case rest =>
                     clear HC48
                     try clear c1
                     try clear c2
                     try clear p2
                     try clear c3
                     try clear c4
                     try clear p4
                     try clear q4
                     try clear hx4
                     try clear c5
                     try clear p6
                     try clear c7
                     try clear c8
                     try clear c9
                     try clear c10
                     try clear c12
                     try clear c12b0
                     try clear c12b1
                     try clear c12b2
                     try clear c13
                     try clear c13b0
                     try clear c13b1
                     try clear c17
                     try clear c19
                     try clear c20
                     try clear c20b0
                     try clear c21
                     try clear c21b0
                     try clear c22
                     try clear c22b0
                     try clear c22b1
                     try clear c24
                     try clear c24b0
                     try clear c28
                     try clear c29
                     try clear c29b0
                     try clear c30
                     try clear c30b0
                     try clear c34
                     try clear c34b0
                     try clear c44
                     try clear c45
                     try clear p45
                     try clear q45
                     try clear hx45
                     try clear c46
                     try clear c46b0
                     try clear c46b1
                     try clear c47
                     try clear c50
                     try clear c50b0
                     try clear c52
                     try clear c53
                     try clear c53b0
                     try clear c53b1
                     try clear hcz33_0
                     try clear hcz33_1
                     try clear hcz33_2
                     try clear hcz33_3
                     try clear hcz33_4
                     try clear hcz33_5
                     try clear hcz35_0
                     try clear hcz35_1
                     try clear hcz35_2
                     try clear hcz35_3
                     try clear hcz35_4
                     try clear hcz35_5
                     try clear hcz39_0
                     try clear hcz39_1
                     try clear hcz39_2
                     try clear hcz39_3
                     try clear hcz39_4
                     try clear hcz39_5
                     try clear hcz42_0
                     try clear hcz42_1
                     try clear hcz42_2
                     try clear hcz42_3
                     try clear hcz42_4
                     try clear hcz42_5
                     try clear hcz49_0
                     try clear hcz49_1
                     try clear hcz49_2
                     try clear hcz49_3
                     try clear hcz49_4
                     try clear hcz49_5
                     try clear hcz54_0
                     try clear hcz54_1
                     try clear hcz54_2
                     try clear hcz54_3
                     try clear hcz54_4
                     try clear hcz54_5
                     try clear hcz56_0
                     try clear hcz56_1
                     try clear hcz56_2
                     try clear hcz56_3
                     try clear hcz56_4
                     try clear hcz56_5
                     try clear hfz33_0
                     try clear hfz33_1
                     try clear hfz33_2
                     try clear hfz33_3
                     try clear hfz33_4
                     try clear hfz33_5
                     try clear hfz35_0
                     try clear hfz35_1
                     try clear hfz35_2
                     try clear hfz35_3
                     try clear hfz35_4
                     try clear hfz35_5
                     try clear hfz39_0
                     try clear hfz39_1
                     try clear hfz39_2
                     try clear hfz39_3
                     try clear hfz39_4
                     try clear hfz39_5
                     try clear hfz42_0
                     try clear hfz42_1
                     try clear hfz42_2
                     try clear hfz42_3
                     try clear hfz42_4
                     try clear hfz42_5
                     try clear hfz49_0
                     try clear hfz49_1
                     try clear hfz49_2
                     try clear hfz49_3
                     try clear hfz49_4
                     try clear hfz49_5
                     try clear hfz54_0
                     try clear hfz54_1
                     try clear hfz54_2
                     try clear hfz54_3
                     try clear hfz54_4
                     try clear hfz54_5
                     try clear hfz56_0
                     try clear hfz56_1
                     try clear hfz56_2
                     try clear hfz56_3
                     try clear hfz56_4
                     try clear hfz56_5
                     try clear hx457_0
                     try clear hx457_1
                     try clear hx457_2
                     try clear hx457_3
                     try clear hx457_4
                     try clear hx457_5
                     try clear hx459_0
                     try clear hx459_1
                     try clear hx459_2
                     try clear hx459_3
                     try clear hx459_4
                     try clear hx459_5
                     try clear p2
                     try clear p4
                     try clear p45
                     try clear p457
                     try clear p459
                     try clear p6
                     try clear q4
                     try clear q45
                     try clear q457
                     try clear q459
                     obtain ⟨kq, HA, HJ47, HO_3, HO_7, BK460, HB⟩ := hcut
                     cases kq with
                     | zero => exact absurd HA.out (by simp [laws_FnLevels.j5])
                     | succ kj47 =>
                      have H := HA.out
                      clear HA
                      simp only [laws_FnLevels.j5] at H
                      replace H := Option.bind_eq_some_iff.mp H
                      obtain ⟨⟨t467, t468⟩, A570, H⟩ := H
                      replace H : ((impl_WarningHours.f kj47 t446 ((rd_T31 t440 x13_2).f3)).bind fun bt469 => (if t468 = true then (if bt469.2 = true then (if t467 = bt469.1 then (laws_FnLevels.j6 kj47 l0) else (none)) else (none)) else (none))) = some r := H
                      have A57 := Aside0.mk A570
                      clear A570
                      replace H := Option.bind_eq_some_iff.mp H
                      obtain ⟨⟨t469, t470⟩, A580, H⟩ := H
                      replace H : (if t468 = true then (if t470 = true then (if t467 = t469 then (laws_FnLevels.j6 kj47 l0) else (none)) else (none)) else (none)) = some r := H
                      have A58 := Aside0.mk A580
                      clear A580
                      by_cases c59 : t468 = true
                      ·
                       subst c59
                       have H1 : (if t470 = true then (if t467 = t469 then (laws_FnLevels.j6 kj47 l0) else (none)) else (none)) = some r := by rw [if_pos rfl] at H; exact H
                       clear H
                       have H := H1
                       clear H1
                       by_cases c60 : t470 = true
                       ·
                        subst c60
                        have H1 : (if t467 = t469 then (laws_FnLevels.j6 kj47 l0) else (none)) = some r := by rw [if_pos rfl] at H; exact H
                        clear H
                        have H := H1
                        clear H1
                        by_cases c61 : t467 = t469
                        ·
                         rw [if_pos c61] at H
                         have c61b0 : (t467 == t469) = true := beq_iff_eq.mpr c61
                         have c61b1 : (t467 != t469) = false := bne_eq_false_iff_eq.mpr c61
                         clear c61
                         have H' := Aside0.mk H
                         clear H
                         have hcz62_0 : wc.cell? ⟨gb460, 0, none⟩ = some (.int .i64 ((rd_T31 t440 x13_2).f0)) := (blk_cell BK460.out 0).trans rfl
                         have hcz62_1 : wc.cell? ⟨gb460, 1, none⟩ = some (.int .i64 ((rd_T31 t440 x13_2).f1)) := (blk_cell BK460.out 1).trans rfl
                         have hcz62_2 : wc.cell? ⟨gb460, 2, none⟩ = some (.int .i64 ((rd_T31 t440 x13_2).f2)) := (blk_cell BK460.out 2).trans rfl
                         have hcz62_3 : wc.cell? ⟨gb460, 3, none⟩ = some (.int .i64 ((rd_T31 t440 x13_2).f3)) := (blk_cell BK460.out 3).trans rfl
                         have hcz62_4 : wc.cell? ⟨gb460, 4, none⟩ = some (.int .i64 ((rd_T31 t440 x13_2).f4)) := (blk_cell BK460.out 4).trans rfl
                         have hcz62_5 : wc.cell? ⟨gb460, 5, none⟩ = some (.int .i64 ((rd_T31 t440 x13_2).f5)) := (blk_cell BK460.out 5).trans rfl
                         have hfz62_0 := blk_frozen BK460.out 0
                         have hfz62_1 := blk_frozen BK460.out 1
                         have hfz62_2 := blk_frozen BK460.out 2
                         have hfz62_3 := blk_frozen BK460.out 3
                         have hfz62_4 := blk_frozen BK460.out 4
                         have hfz62_5 := blk_frozen BK460.out 5
                         go_wp2_with (first | ((with_reducible refine gate_callee (f := 14) rfl ?_); refine goesL_ (some 173) rfl rfl Try.func14 (by kernel_rfl) rfl #[.slice (some ad459) t440.length co9, .int .i64 ((rd_T31 t440 x13_2).f3)] rfl zq1 ?_; (with_reducible refine (impl_WarningHours.calls kj47 _ _ t440 ((rd_T31 t440 x13_2).f3) t467 true _ ?side1 ?side2 A57.out).mono ?_); (case side1 => repeat (first | exact (Kd.R_reads' HO_3.out).2.2 | (with_reducible refine Kd.C_alloc ?_ _) | (with_reducible refine Kd.C_drewN ?_ _) | (with_reducible refine Kd.C_drew ?_))); (case side2 => exact (Kd.R_reads' HO_3.out).2.1); rintro e w63 ⟨rfl, hb⟩; refine ⟨_, rfl, ?_⟩; have n0_ := Aside0.mk (Kd.R_below (zqR HO_3.out) hb); have n1_ := Aside0.mk (Kd.R_below (zqR HO_7.out) hb); have n2_ := Aside0.mk (blk_below (g := gb460) (o := .cells #[.int .i64 ((rd_T31 t440 x13_2).f0), .int .i64 ((rd_T31 t440 x13_2).f1), .int .i64 ((rd_T31 t440 x13_2).f2), .int .i64 ((rd_T31 t440 x13_2).f3), .int .i64 ((rd_T31 t440 x13_2).f4), .int .i64 ((rd_T31 t440 x13_2).f5)] 31 (0, 0)) (zqK BK460.out) hb); have n3_ := Aside0.mk (below_step zq23 hb); clear HO_3; clear HO_7; clear BK460; clear HB; have HO_3 := n0_; have HO_7 := n1_; have BK460 := n2_; have HB := n3_; clear n0_ n1_ n2_ n3_; (try clear hb); (try clear hb2); (try clear hk); (try clear hi); have hcz64_0 : w63.cell? ⟨gb460, 0, none⟩ = some (.int .i64 ((rd_T31 t440 x13_2).f0)) := (blk_cell BK460.out 0).trans rfl; have hcz64_1 : w63.cell? ⟨gb460, 1, none⟩ = some (.int .i64 ((rd_T31 t440 x13_2).f1)) := (blk_cell BK460.out 1).trans rfl; have hcz64_2 : w63.cell? ⟨gb460, 2, none⟩ = some (.int .i64 ((rd_T31 t440 x13_2).f2)) := (blk_cell BK460.out 2).trans rfl; have hcz64_3 : w63.cell? ⟨gb460, 3, none⟩ = some (.int .i64 ((rd_T31 t440 x13_2).f3)) := (blk_cell BK460.out 3).trans rfl; have hcz64_4 : w63.cell? ⟨gb460, 4, none⟩ = some (.int .i64 ((rd_T31 t440 x13_2).f4)) := (blk_cell BK460.out 4).trans rfl; have hcz64_5 : w63.cell? ⟨gb460, 5, none⟩ = some (.int .i64 ((rd_T31 t440 x13_2).f5)) := (blk_cell BK460.out 5).trans rfl; have hfz64_0 := blk_frozen BK460.out 0; have hfz64_1 := blk_frozen BK460.out 1; have hfz64_2 := blk_frozen BK460.out 2; have hfz64_3 := blk_frozen BK460.out 3; have hfz64_4 := blk_frozen BK460.out 4; have hfz64_5 := blk_frozen BK460.out 5) | ((with_reducible refine gate_callee (f := 14) rfl ?_); refine goesL_ (some 180) rfl rfl Try.func14 (by kernel_rfl) rfl #[.slice Ao40 t446.length co40, .int .i64 ((rd_T31 t440 x13_2).f3)] rfl zq1 ?_; (with_reducible refine (impl_WarningHours.calls kj47 _ _ t446 ((rd_T31 t440 x13_2).f3) t469 true _ ?side1 ?side2 A58.out).mono ?_); (case side1 => repeat (first | exact (Kd.R_reads' HO_7.out).2.2 | (with_reducible refine Kd.C_alloc ?_ _) | (with_reducible refine Kd.C_drewN ?_ _) | (with_reducible refine Kd.C_drew ?_))); (case side2 => exact (Kd.R_reads' HO_7.out).2.1); rintro e w65 ⟨rfl, hb⟩; refine ⟨_, rfl, ?_⟩; have n0_ := Aside0.mk (Kd.R_below (zqR HO_3.out) hb); have n1_ := Aside0.mk (Kd.R_below (zqR HO_7.out) hb); have n2_ := Aside0.mk (blk_below (g := gb460) (o := .cells #[.int .i64 ((rd_T31 t440 x13_2).f0), .int .i64 ((rd_T31 t440 x13_2).f1), .int .i64 ((rd_T31 t440 x13_2).f2), .int .i64 ((rd_T31 t440 x13_2).f3), .int .i64 ((rd_T31 t440 x13_2).f4), .int .i64 ((rd_T31 t440 x13_2).f5)] 31 (0, 0)) (zqK BK460.out) hb); have n3_ := Aside0.mk (below_step zq23 hb); clear HO_3; clear HO_7; clear BK460; clear HB; have HO_3 := n0_; have HO_7 := n1_; have BK460 := n2_; have HB := n3_; clear n0_ n1_ n2_ n3_; (try clear hb); (try clear hb2); (try clear hk); (try clear hi)))
                         go_meet
                         case rel => exact ⟨_, H', ⟨by have := HJ6.out; have := HK2.out; have := HJ22.out; have := HJ30.out; have := HJ37.out; have := HJ47.out; first | omega | exact Nat.le_refl _⟩, ⟨by repeat (first | (with_reducible first | exact HB.out | apply below_alloc | apply pw_below_drewN | apply below_drew1 | refine below_set ?_ GE460.out) | exact HB.out)⟩⟩
                        ·
                         rw [if_neg c61] at H
                         exact absurd H (by simp)
                       ·
                        replace c60 := Bool.eq_false_iff.mpr c60
                        subst c60
                        have H1 : (none) = some r := by rw [if_neg (show ¬ (false = true) by decide)] at H; exact H
                        clear H
                        have H := H1
                        clear H1
                        exact absurd H (by simp)
                      ·
                       replace c59 := Bool.eq_false_iff.mpr c59
                       subst c59
                       have H1 : (none) = some r := by rw [if_neg (show ¬ (false = true) by decide)] at H; exact H
                       clear H
                       have H := H1
                       clear H1
                       exact absurd H (by simp)
              ·
               rw [if_neg c30] at H
               exact absurd H (by simp)
             ·
              rw [if_neg c29] at H
              exact absurd H (by simp)
      ·
       replace c19 := Bool.eq_false_iff.mpr c19
       subst c19
       have H1 : (laws_FnLevels.j6 kj6 l0) = some r := by rw [if_neg (show ¬ (false = true) by decide)] at H; exact H
       clear H
       have H := H1
       clear H1
       have H' := Aside0.mk H
       clear H
       go_wp2
       go_meet
       case rel => exact ⟨_, H', ⟨by have := HJ6.out; first | omega | exact Nat.le_refl _⟩, ⟨by repeat (first | (with_reducible first | exact HB.out | apply below_alloc | apply pw_below_drewN | apply below_drew1) | exact HB.out)⟩⟩
     case rest =>
      clear HC18
      try clear c1
      try clear c2
      try clear p2
      try clear c3
      try clear c4
      try clear p4
      try clear q4
      try clear hx4
      try clear c5
      try clear c6
      try clear p6
      try clear c7
      try clear c8
      try clear c9
      try clear c10
      try clear c12
      try clear c12b0
      try clear c12b1
      try clear c12b2
      try clear c13
      try clear c13b0
      try clear c13b1
      try clear c14
      try clear c17
      try clear c19
      try clear c20
      try clear c20b0
      try clear c21
      try clear c21b0
      try clear c22
      try clear c22b0
      try clear c22b1
      try clear c24
      try clear c24b0
      try clear c28
      try clear c29
      try clear c29b0
      try clear c30
      try clear c30b0
      try clear c34
      try clear c34b0
      try clear c44
      try clear c45
      try clear p45
      try clear q45
      try clear hx45
      try clear c46
      try clear c46b0
      try clear c46b1
      try clear c47
      try clear c50
      try clear c50b0
      try clear c52
      try clear c53
      try clear c53b0
      try clear c53b1
      try clear c59
      try clear c60
      try clear c61
      try clear c61b0
      try clear c61b1
      try clear p64
      try clear hcz33_0
      try clear hcz33_1
      try clear hcz33_2
      try clear hcz33_3
      try clear hcz33_4
      try clear hcz33_5
      try clear hcz35_0
      try clear hcz35_1
      try clear hcz35_2
      try clear hcz35_3
      try clear hcz35_4
      try clear hcz35_5
      try clear hcz39_0
      try clear hcz39_1
      try clear hcz39_2
      try clear hcz39_3
      try clear hcz39_4
      try clear hcz39_5
      try clear hcz42_0
      try clear hcz42_1
      try clear hcz42_2
      try clear hcz42_3
      try clear hcz42_4
      try clear hcz42_5
      try clear hcz49_0
      try clear hcz49_1
      try clear hcz49_2
      try clear hcz49_3
      try clear hcz49_4
      try clear hcz49_5
      try clear hcz54_0
      try clear hcz54_1
      try clear hcz54_2
      try clear hcz54_3
      try clear hcz54_4
      try clear hcz54_5
      try clear hcz56_0
      try clear hcz56_1
      try clear hcz56_2
      try clear hcz56_3
      try clear hcz56_4
      try clear hcz56_5
      try clear hcz62_0
      try clear hcz62_1
      try clear hcz62_2
      try clear hcz62_3
      try clear hcz62_4
      try clear hcz62_5
      try clear hcz64_0
      try clear hcz64_1
      try clear hcz64_2
      try clear hcz64_3
      try clear hcz64_4
      try clear hcz64_5
      try clear hfz33_0
      try clear hfz33_1
      try clear hfz33_2
      try clear hfz33_3
      try clear hfz33_4
      try clear hfz33_5
      try clear hfz35_0
      try clear hfz35_1
      try clear hfz35_2
      try clear hfz35_3
      try clear hfz35_4
      try clear hfz35_5
      try clear hfz39_0
      try clear hfz39_1
      try clear hfz39_2
      try clear hfz39_3
      try clear hfz39_4
      try clear hfz39_5
      try clear hfz42_0
      try clear hfz42_1
      try clear hfz42_2
      try clear hfz42_3
      try clear hfz42_4
      try clear hfz42_5
      try clear hfz49_0
      try clear hfz49_1
      try clear hfz49_2
      try clear hfz49_3
      try clear hfz49_4
      try clear hfz49_5
      try clear hfz54_0
      try clear hfz54_1
      try clear hfz54_2
      try clear hfz54_3
      try clear hfz54_4
      try clear hfz54_5
      try clear hfz56_0
      try clear hfz56_1
      try clear hfz56_2
      try clear hfz56_3
      try clear hfz56_4
      try clear hfz56_5
      try clear hfz62_0
      try clear hfz62_1
      try clear hfz62_2
      try clear hfz62_3
      try clear hfz62_4
      try clear hfz62_5
      try clear hfz64_0
      try clear hfz64_1
      try clear hfz64_2
      try clear hfz64_3
      try clear hfz64_4
      try clear hfz64_5
      try clear hx457_0
      try clear hx457_1
      try clear hx457_2
      try clear hx457_3
      try clear hx457_4
      try clear hx457_5
      try clear hx459_0
      try clear hx459_1
      try clear hx459_2
      try clear hx459_3
      try clear hx459_4
      try clear hx459_5
      try clear p2
      try clear p4
      try clear p45
      try clear p457
      try clear p459
      try clear p6
      try clear q4
      try clear q45
      try clear q457
      try clear q459
      obtain ⟨kq, HA, HJ17, HB⟩ := hcut
      cases kq with
      | zero => exact absurd HA.out (by simp [laws_FnLevels.j6])
      | succ kj17 =>
       have H := HA.out
       clear HA
       simp only [laws_FnLevels.j6] at H
       replace H := Option.bind_eq_some_iff.mp H
       obtain ⟨⟨t471, t472, t473⟩, A660, H⟩ := H
       replace H : ((impl_CancelWarning.f kj17 t471 t472 t473).bind fun bt476 => ((spec_CancelWarning.f kj17 t471 t472 t473).bind fun bt480 => (if (bt476.2 == bt480.2) = true then ((laws_vWarnings.f kj17 bt476.1 bt480.1).bind fun t484 => (if t484 = true then (if bt476.2 = true then ((impl_IsConsistent.f kj17 bt476.1).bind fun t485 => (if t485 = true then (some (decide ((bt476.1.length : Int) ≤ (t471.length : Int)))) else (none))) else (some true)) else (none))) else (none)))) = some r := H
       have A66 := Aside0.mk A660
       clear A660
       replace H := Option.bind_eq_some_iff.mp H
       obtain ⟨⟨t476, t477⟩, A670, H⟩ := H
       replace H : ((spec_CancelWarning.f kj17 t471 t472 t473).bind fun bt480 => (if (t477 == bt480.2) = true then ((laws_vWarnings.f kj17 t476 bt480.1).bind fun t484 => (if t484 = true then (if t477 = true then ((impl_IsConsistent.f kj17 t476).bind fun t485 => (if t485 = true then (some (decide ((t476.length : Int) ≤ (t471.length : Int)))) else (none))) else (some true)) else (none))) else (none))) = some r := H
       have A67 := Aside0.mk A670
       clear A670
       replace H := Option.bind_eq_some_iff.mp H
       obtain ⟨⟨t480, t481⟩, A680, H⟩ := H
       replace H : (if (t477 == t481) = true then ((laws_vWarnings.f kj17 t476 t480).bind fun t484 => (if t484 = true then (if t477 = true then ((impl_IsConsistent.f kj17 t476).bind fun t485 => (if t485 = true then (some (decide ((t476.length : Int) ≤ (t471.length : Int)))) else (none))) else (some true)) else (none))) else (none)) = some r := H
       have A68 := Aside0.mk A680
       clear A680
       by_cases c69 : (t477 == t481) = true
       ·
        rw [if_pos c69] at H
        have c69b0 : (t477 == t481) = true := c69
        (try (have c69b1 : decide (t477 = t481) = true := by simpa using c69))
        (try (have c69b2 : (t477 == t481) = true := by simpa using c69))
        clear c69
        replace H := Option.bind_eq_some_iff.mp H
        obtain ⟨t484, A700, H⟩ := H
        replace H : (if t484 = true then (if t477 = true then ((impl_IsConsistent.f kj17 t476).bind fun t485 => (if t485 = true then (some (decide ((t476.length : Int) ≤ (t471.length : Int)))) else (none))) else (some true)) else (none)) = some r := H
        have A70 := Aside0.mk A700
        clear A700
        by_cases c71 : t484 = true
        ·
         subst c71
         have H1 : (if t477 = true then ((impl_IsConsistent.f kj17 t476).bind fun t485 => (if t485 = true then (some (decide ((t476.length : Int) ≤ (t471.length : Int)))) else (none))) else (some true)) = some r := by rw [if_pos rfl] at H; exact H
         clear H
         have H := H1
         clear H1
         by_cases c72 : t477 = true
         ·
          subst c72
          have H1 : ((impl_IsConsistent.f kj17 t476).bind fun t485 => (if t485 = true then (some (decide ((t476.length : Int) ≤ (t471.length : Int)))) else (none))) = some r := by rw [if_pos rfl] at H; exact H
          clear H
          have H := H1
          clear H1
          replace H := Option.bind_eq_some_iff.mp H
          obtain ⟨t485, A730, H⟩ := H
          replace H : (if t485 = true then (some (decide ((t476.length : Int) ≤ (t471.length : Int)))) else (none)) = some r := H
          have A73 := Aside0.mk A730
          clear A730
          by_cases c74 : t485 = true
          ·
           subst c74
           have H1 : (some (decide ((t476.length : Int) ≤ (t471.length : Int)))) = some r := by rw [if_pos rfl] at H; exact H
           clear H
           have H := H1
           clear H1
           obtain rfl := Option.some.inj H
           go_wp2_with (first | ((with_reducible refine gate_callee (f := 15) rfl ?_); refine goesL_ (some 196) rfl rfl Try.func15 (by kernel_rfl) rfl #[.slice A0 l0.length c0] rfl zq1 ?_; (with_reducible refine (spec_DrawCancelWarning.calls kj17 _ _ l0 t471 t472 t473 _ ?side1 ?side2 A66.out).mono ?_); (case side1 => repeat (first | exact (Kd.C_below HR0.out HB.out) | (with_reducible refine Kd.C_alloc ?_ _) | (with_reducible refine Kd.C_drewN ?_ _) | (with_reducible refine Kd.C_drew ?_))); (case side2 => exact HC0.out); rintro e w75 ⟨v474, rfl, ho0, hb⟩; refine ⟨_, rfl, ?_⟩; have n0_ := Aside0.mk (Kd.R_lower ho0 (below_size zq0)); have n1_ := Aside0.mk (below_step zq0 hb); clear HB; have HO475 := n0_; have HB := n1_; clear n0_ n1_; (try clear hb); (try clear hb2); (try clear hk); (try clear hi); (try clear ho0); obtain ⟨Ao76, co76, eo76⟩ := Kd.R_slice HO475.out; subst eo76) | ((with_reducible refine gate_callee (f := 16) rfl ?_); refine goesL_ (some 204) rfl rfl Try.func16 (by kernel_rfl) rfl #[.slice Ao76 t471.length co76, .int .i64 t472, .int .i64 t473] rfl zq1 ?_; (with_reducible refine (impl_CancelWarning.calls kj17 _ _ t471 t472 t473 t476 true _ ?side1 ?side2 A67.out).mono ?_); (case side1 => repeat (first | exact (Kd.R_reads' HO475.out).2.2 | (with_reducible refine Kd.C_alloc ?_ _) | (with_reducible refine Kd.C_drewN ?_ _) | (with_reducible refine Kd.C_drew ?_))); (case side2 => exact (Kd.R_reads' HO475.out).2.1); rintro e w77 ⟨v478, rfl, ho0, hb⟩; refine ⟨_, rfl, ?_⟩; have n0_ := Aside0.mk (Kd.R_elder' (zqR HO475.out) (Kd.R_base ho0) hb); have n1_ := Aside0.mk (Kd.R_lower (Kd.R_new' ho0 (Kd.R_lt (zqR HO475.out))) (below_size zq0)); have n2_ := Aside0.mk (below_step zq0 hb); clear HO475; clear HB; have HO475 := n0_; have HO479 := n1_; have HB := n2_; clear n0_ n1_ n2_; (try clear hb); (try clear hb2); (try clear hk); (try clear hi); (try clear ho0)) | ((with_reducible refine gate_callee (f := 17) rfl ?_); refine goesL_ (some 211) rfl rfl Try.func17 (by kernel_rfl) rfl #[.slice Ao76 t471.length co76, .int .i64 t472, .int .i64 t473] rfl zq1 ?_; (with_reducible refine (spec_CancelWarning.calls kj17 _ _ t471 t472 t473 t480 t481 _ ?side1 ?side2 A68.out).mono ?_); (case side1 => repeat (first | exact (Kd.R_reads' HO475.out).2.2 | (with_reducible refine Kd.C_alloc ?_ _) | (with_reducible refine Kd.C_drewN ?_ _) | (with_reducible refine Kd.C_drew ?_))); (case side2 => exact (Kd.R_reads' HO475.out).2.1); rintro e w78 ⟨v482, rfl, ho0, hb⟩; refine ⟨_, rfl, ?_⟩; have n0_ := Aside0.mk (Kd.R_elder' (zqR HO475.out) (Kd.R_base ho0) hb); have n1_ := Aside0.mk (Kd.R_elder' (zqR HO479.out) (Kd.R_base ho0) hb); have n2_ := Aside0.mk (Kd.R_lower (Kd.R_new' (Kd.R_new' ho0 (Kd.R_lt (zqR HO475.out))) (Kd.R_lt (zqR HO479.out))) (below_size zq0)); have n3_ := Aside0.mk (below_step zq0 hb); clear HO475; clear HO479; clear HB; have HO475 := n0_; have HO479 := n1_; have HO483 := n2_; have HB := n3_; clear n0_ n1_ n2_ n3_; (try clear hb); (try clear hb2); (try clear hk); (try clear hi); (try clear ho0); obtain ⟨Ao79, co79, eo79⟩ := Kd.R_slice HO479.out; subst eo79; obtain ⟨Ao80, co80, eo80⟩ := Kd.R_slice HO483.out; subst eo80) | (go_at_call 11; (with_reducible refine (laws_vWarnings.calls kj17 _ _ t476 _ _ t480 true _ ?side1 ?side2 ?side3 ?side4 A70.out).mono ?_); (case side1 => repeat (first | exact (Kd.R_reads' HO479.out).2.2 | (with_reducible refine Kd.C_alloc ?_ _) | (with_reducible refine Kd.C_drewN ?_ _) | (with_reducible refine Kd.C_drew ?_))); (case side2 => exact (Kd.R_reads' HO479.out).2.1); (case side3 => repeat (first | exact (Kd.R_reads' HO483.out).2.2 | (with_reducible refine Kd.C_alloc ?_ _) | (with_reducible refine Kd.C_drewN ?_ _) | (with_reducible refine Kd.C_drew ?_))); (case side4 => exact (Kd.R_reads' HO483.out).2.1); rintro e w' ⟨rfl, ⟨nd, rfl⟩⟩) | (go_at_call 12; (with_reducible refine (impl_IsConsistent.calls kj17 _ _ t476 true _ ?side1 ?side2 A73.out).mono ?_); (case side1 => repeat (first | exact (Kd.R_reads' HO479.out).2.2 | (with_reducible refine Kd.C_alloc ?_ _) | (with_reducible refine Kd.C_drewN ?_ _) | (with_reducible refine Kd.C_drew ?_))); (case side2 => exact (Kd.R_reads' HO479.out).2.1); rintro e w81 ⟨rfl, hb⟩; have n0_ := Aside0.mk (Kd.R_below (zqR HO475.out) hb); have n1_ := Aside0.mk (Kd.R_below (zqR HO479.out) hb); have n2_ := Aside0.mk (Kd.R_below (zqR HO483.out) hb); have n3_ := Aside0.mk (below_step zq0 hb); clear HO475; clear HO479; clear HO483; clear HB; have HO475 := n0_; have HO479 := n1_; have HO483 := n2_; have HB := n3_; clear n0_ n1_ n2_ n3_; (try clear hb); (try clear hb2); (try clear hk); (try clear hi)))
           go_ret
           exact ⟨by first | rfl | (simp [errW_none, errW_some] <;> rfl) | (simp [*, errW_none, errW_some] <;> rfl), by repeat (first | (with_reducible first | exact HB.out | apply below_alloc | apply pw_below_drewN | apply below_drew1) | exact HB.out)⟩
          ·
           replace c74 := Bool.eq_false_iff.mpr c74
           subst c74
           have H1 : (none) = some r := by rw [if_neg (show ¬ (false = true) by decide)] at H; exact H
           clear H
           have H := H1
           clear H1
           exact absurd H (by simp)
         ·
          replace c72 := Bool.eq_false_iff.mpr c72
          subst c72
          have H1 : (some true) = some r := by rw [if_neg (show ¬ (false = true) by decide)] at H; exact H
          clear H
          have H := H1
          clear H1
          obtain rfl := Option.some.inj H
          go_wp2_with (first | ((with_reducible refine gate_callee (f := 15) rfl ?_); refine goesL_ (some 196) rfl rfl Try.func15 (by kernel_rfl) rfl #[.slice A0 l0.length c0] rfl zq1 ?_; (with_reducible refine (spec_DrawCancelWarning.calls kj17 _ _ l0 t471 t472 t473 _ ?side1 ?side2 A66.out).mono ?_); (case side1 => repeat (first | exact (Kd.C_below HR0.out HB.out) | (with_reducible refine Kd.C_alloc ?_ _) | (with_reducible refine Kd.C_drewN ?_ _) | (with_reducible refine Kd.C_drew ?_))); (case side2 => exact HC0.out); rintro e w82 ⟨v474, rfl, ho0, hb⟩; refine ⟨_, rfl, ?_⟩; have n0_ := Aside0.mk (Kd.R_lower ho0 (below_size zq0)); have n1_ := Aside0.mk (below_step zq0 hb); clear HB; have HO475 := n0_; have HB := n1_; clear n0_ n1_; (try clear hb); (try clear hb2); (try clear hk); (try clear hi); (try clear ho0); obtain ⟨Ao83, co83, eo83⟩ := Kd.R_slice HO475.out; subst eo83) | ((with_reducible refine gate_callee (f := 16) rfl ?_); refine goesL_ (some 204) rfl rfl Try.func16 (by kernel_rfl) rfl #[.slice Ao83 t471.length co83, .int .i64 t472, .int .i64 t473] rfl zq1 ?_; (with_reducible refine (impl_CancelWarning.calls kj17 _ _ t471 t472 t473 t476 false _ ?side1 ?side2 A67.out).mono ?_); (case side1 => repeat (first | exact (Kd.R_reads' HO475.out).2.2 | (with_reducible refine Kd.C_alloc ?_ _) | (with_reducible refine Kd.C_drewN ?_ _) | (with_reducible refine Kd.C_drew ?_))); (case side2 => exact (Kd.R_reads' HO475.out).2.1); rintro e w84 ⟨v478, rfl, ho0, hb⟩; refine ⟨_, rfl, ?_⟩; have n0_ := Aside0.mk (Kd.R_elder' (zqR HO475.out) (Kd.R_base ho0) hb); have n1_ := Aside0.mk (Kd.R_lower (Kd.R_new' ho0 (Kd.R_lt (zqR HO475.out))) (below_size zq0)); have n2_ := Aside0.mk (below_step zq0 hb); clear HO475; clear HB; have HO475 := n0_; have HO479 := n1_; have HB := n2_; clear n0_ n1_ n2_; (try clear hb); (try clear hb2); (try clear hk); (try clear hi); (try clear ho0)) | ((with_reducible refine gate_callee (f := 17) rfl ?_); refine goesL_ (some 211) rfl rfl Try.func17 (by kernel_rfl) rfl #[.slice Ao83 t471.length co83, .int .i64 t472, .int .i64 t473] rfl zq1 ?_; (with_reducible refine (spec_CancelWarning.calls kj17 _ _ t471 t472 t473 t480 t481 _ ?side1 ?side2 A68.out).mono ?_); (case side1 => repeat (first | exact (Kd.R_reads' HO475.out).2.2 | (with_reducible refine Kd.C_alloc ?_ _) | (with_reducible refine Kd.C_drewN ?_ _) | (with_reducible refine Kd.C_drew ?_))); (case side2 => exact (Kd.R_reads' HO475.out).2.1); rintro e w85 ⟨v482, rfl, ho0, hb⟩; refine ⟨_, rfl, ?_⟩; have n0_ := Aside0.mk (Kd.R_elder' (zqR HO475.out) (Kd.R_base ho0) hb); have n1_ := Aside0.mk (Kd.R_elder' (zqR HO479.out) (Kd.R_base ho0) hb); have n2_ := Aside0.mk (Kd.R_lower (Kd.R_new' (Kd.R_new' ho0 (Kd.R_lt (zqR HO475.out))) (Kd.R_lt (zqR HO479.out))) (below_size zq0)); have n3_ := Aside0.mk (below_step zq0 hb); clear HO475; clear HO479; clear HB; have HO475 := n0_; have HO479 := n1_; have HO483 := n2_; have HB := n3_; clear n0_ n1_ n2_ n3_; (try clear hb); (try clear hb2); (try clear hk); (try clear hi); (try clear ho0); obtain ⟨Ao86, co86, eo86⟩ := Kd.R_slice HO479.out; subst eo86; obtain ⟨Ao87, co87, eo87⟩ := Kd.R_slice HO483.out; subst eo87) | (go_at_call 11; (with_reducible refine (laws_vWarnings.calls kj17 _ _ t476 _ _ t480 true _ ?side1 ?side2 ?side3 ?side4 A70.out).mono ?_); (case side1 => repeat (first | exact (Kd.R_reads' HO479.out).2.2 | (with_reducible refine Kd.C_alloc ?_ _) | (with_reducible refine Kd.C_drewN ?_ _) | (with_reducible refine Kd.C_drew ?_))); (case side2 => exact (Kd.R_reads' HO479.out).2.1); (case side3 => repeat (first | exact (Kd.R_reads' HO483.out).2.2 | (with_reducible refine Kd.C_alloc ?_ _) | (with_reducible refine Kd.C_drewN ?_ _) | (with_reducible refine Kd.C_drew ?_))); (case side4 => exact (Kd.R_reads' HO483.out).2.1); rintro e w' ⟨rfl, ⟨nd, rfl⟩⟩))
          go_ret
          exact ⟨by first | rfl | (simp [errW_none, errW_some] <;> rfl) | (simp [*, errW_none, errW_some] <;> rfl), by repeat (first | (with_reducible first | exact HB.out | apply below_alloc | apply pw_below_drewN | apply below_drew1) | exact HB.out)⟩
        ·
         replace c71 := Bool.eq_false_iff.mpr c71
         subst c71
         have H1 : (none) = some r := by rw [if_neg (show ¬ (false = true) by decide)] at H; exact H
         clear H
         have H := H1
         clear H1
         exact absurd H (by simp)
       ·
        rw [if_neg c69] at H
        exact absurd H (by simp)

end Go.Proofs.Ytklepiechbnenaa.Q
