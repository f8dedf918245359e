/- Texts of this seat, put together: Qf4, LaDraw, Qf32. -/
import Derived.Test.YtklepiechbnenaaZFnTimelines
import Derived.Laws.BitsLemmas
import Derived.Test.YtklepiechbnenaaBFnTimelines0
import Derived.Test.YtklepiechbnenaaBFnTimelines2
import Derived.Test.YtklepiechbnenaaBFnTimelines3
import Derived.Test.YtklepiechbnenaaBFnTimelines5
import Derived.Test.YtklepiechbnenaaBFnTimelines7
import Derived.Test.YtklepiechbnenaaBFnTimelines8
namespace Go.Proofs.Ytklepiechbnenaa.Q
open Go.RowKit Go.Proofs.YtklepiechbnenaaW.PrintWords Go.Proofs.YtklepiechbnenaaW.PrintLast Go.Proofs.YtklepiechbnenaaW.PrintMore
attribute [local go_sem] max2_int min2_int max_two min_two max_three min_three max_four min_four   -- for this text's walks alone
set_option linter.unusedVariables false
set_option linter.unusedSimpArgs false

/-! ### laws_FnTimelines: function 4 -/
mutual
def laws_FnTimelines.j0 : Nat → List Int → Int → Int → List (S50) → Bool → Bool → Option (Bool)
 | 0, _, _, _, _, _, _ => none
 | k + 1, x0, x4, x5, x6, x7, x65 => if x65 = true then (none) else (if x7 = true then ((impl_FromTimeline.f k x4 x5 x6).bind fun bt678 => (if bt678.2 = true then ((impl_TopicTimeline.f k bt678.1 x4 x5).bind fun bt682 => (if bt682.2 = true then ((laws_vStretches.f k bt682.1 x6).bind fun t686 => (if t686 = true then (if (bt678.1.length : Int) = (x6.length : Int) then (laws_FnTimelines.j1 k x0) else (none)) else (none))) else (none))) else (if (x6.length : Int) ≤ 12 then (none) else (laws_FnTimelines.j1 k x0)))) else (laws_FnTimelines.j1 k x0))
def laws_FnTimelines.j1 : Nat → List Int → Option (Bool)
 | 0, _ => none
 | k + 1, x0 => (spec_DrawAreaLevel.f k x0).bind fun bt687 => ((impl_AreaLevel.f k bt687.1 bt687.2.1 bt687.2.2).bind fun bt692 => ((spec_AreaLevel.f k bt687.1 bt687.2.1 bt687.2.2).bind fun bt694 => (if bt692.1 = bt694.1 then (laws_FnTimelines.j2 k x0 bt687.1 bt687.2.1 bt687.2.2 bt692.1 bt692.2 (bt692.2 != bt694.2)) else (none))))
def laws_FnTimelines.j2 : Nat → List Int → List (S31) → Int → Int → Int → Bool → Bool → Option (Bool)
 | 0, _, _, _, _, _, _, _ => none
 | k + 1, x0, x14, x15, x16, x17, x18, x127 => if x127 = true then (none) else (laws_FnTimelines.l0 k x0 x14 x15 x16 x17 x18 0 1)
def laws_FnTimelines.l0 : Nat → List Int → List (S31) → Int → Int → Int → Bool → Int → Int → Option (Bool)
 | 0, _, _, _, _, _, _, _, _ => none
 | k + 1, x0, x14, x15, x16, x17, x18, x21, x22 => if x22 ≤ 5 then (laws_FnTimelines.j4 k x0 x14 x15 x16 x17 x18 x21 x22 x18) else (laws_FnTimelines.j4 k x0 x14 x15 x16 x17 x18 x21 x22 false)
def laws_FnTimelines.j4 : Nat → List Int → List (S31) → Int → Int → Int → Bool → Int → Int → Bool → Option (Bool)
 | 0, _, _, _, _, _, _, _, _, _ => none
 | k + 1, x0, x14, x15, x16, x17, x18, x21, x22, x132 => if x132 = true then ((impl_TopicLevel.f k x14 x22 x15 x16).bind fun bt696 => (if bt696.2 = true then (if bt696.1 > x21 then (laws_FnTimelines.l0 k x0 x14 x15 x16 x17 x18 bt696.1 (wrap64 (x22 + 1))) else (laws_FnTimelines.l0 k x0 x14 x15 x16 x17 x18 x21 (wrap64 (x22 + 1)))) else (none))) else (if x18 = true then (laws_FnTimelines.j5 k x0 (x21 != x17)) else (laws_FnTimelines.j5 k x0 false))
def laws_FnTimelines.j5 : Nat → List Int → Bool → Option (Bool)
 | 0, _, _ => none
 | k + 1, x0, x154 => if x154 = true then (none) else ((spec_DrawAreaTimeline.f k x0).bind fun bt698 => ((impl_AreaTimeline.f k bt698.1 bt698.2).bind fun bt702 => ((spec_AreaTimeline.f k bt698.1 bt698.2).bind fun bt706 => (if (bt702.2 != bt706.2) = true then (none) else ((laws_vStretches.f k bt702.1 bt706.1).bind fun t710 => (laws_FnTimelines.j6 k bt698.1 bt698.2 bt702.1 bt702.2 (!t710)))))))
def laws_FnTimelines.j6 : Nat → List (S31) → Int → List (S50) → Bool → Bool → Option (Bool)
 | 0, _, _, _, _, _ => none
 | k + 1, x25, x26, x27, x28, x180 => if x180 = true then (none) else (laws_FnTimelines.l1 k x25 x26 x27 x28 0 0)
def laws_FnTimelines.l1 : Nat → List (S31) → Int → List (S50) → Bool → Int → Int → Option (Bool)
 | 0, _, _, _, _, _, _ => none
 | k + 1, x25, x26, x27, x28, x31, x32 => if x32 < (x27.length : Int) then (if 0 ≤ x32 then (laws_FnTimelines.l1 k x25 x26 x27 x28 (wrap64 ((wrap64 (x31 + ((rd_T50 x27 x32).f1))) - ((rd_T50 x27 x32).f0))) (wrap64 (x32 + 1))) else (none)) else ((impl_WarningHours.f k x25 x26).bind fun bt713 => (if (bt713.2 == x28) = true then (if x28 = true then (some (bt713.1 == x31)) else (some true)) else (none)))
end
def laws_FnTimelines.f (k : Nat) (l0 : List Int) : Option (Bool) := (laws_vBig.f l0).bind fun t663 => (if t663 = true then (some true) else ((spec_DrawTopicTimeline.f k l0).bind fun bt664 => ((impl_TopicTimeline.f k bt664.1 bt664.2.1 bt664.2.2).bind fun bt669 => ((spec_TopicTimeline.f k bt664.1 bt664.2.1 bt664.2.2).bind fun bt673 => (if (bt669.2 != bt673.2) = true then (none) else ((laws_vStretches.f k bt669.1 bt673.1).bind fun t677 => (laws_FnTimelines.j0 k l0 bt664.2.1 bt664.2.2 bt669.1 bt669.2 (!t677))))))))
theorem laws_FnTimelines.mono_l : ∀ k, (∀ y0 y1 y2 y3 y4 y5, LeO (laws_FnTimelines.j0 k y0 y1 y2 y3 y4 y5) (laws_FnTimelines.j0 (k + 1) y0 y1 y2 y3 y4 y5)) ∧ (∀ y0, LeO (laws_FnTimelines.j1 k y0) (laws_FnTimelines.j1 (k + 1) y0)) ∧ (∀ y0 y1 y2 y3 y4 y5 y6, LeO (laws_FnTimelines.j2 k y0 y1 y2 y3 y4 y5 y6) (laws_FnTimelines.j2 (k + 1) y0 y1 y2 y3 y4 y5 y6)) ∧ (∀ y0 y1 y2 y3 y4 y5 y6 y7, LeO (laws_FnTimelines.l0 k y0 y1 y2 y3 y4 y5 y6 y7) (laws_FnTimelines.l0 (k + 1) y0 y1 y2 y3 y4 y5 y6 y7)) ∧ (∀ y0 y1 y2 y3 y4 y5 y6 y7 y8, LeO (laws_FnTimelines.j4 k y0 y1 y2 y3 y4 y5 y6 y7 y8) (laws_FnTimelines.j4 (k + 1) y0 y1 y2 y3 y4 y5 y6 y7 y8)) ∧ (∀ y0 y1, LeO (laws_FnTimelines.j5 k y0 y1) (laws_FnTimelines.j5 (k + 1) y0 y1)) ∧ (∀ y0 y1 y2 y3 y4, LeO (laws_FnTimelines.j6 k y0 y1 y2 y3 y4) (laws_FnTimelines.j6 (k + 1) y0 y1 y2 y3 y4)) ∧ (∀ y0 y1 y2 y3 y4 y5, LeO (laws_FnTimelines.l1 k y0 y1 y2 y3 y4 y5) (laws_FnTimelines.l1 (k + 1) y0 y1 y2 y3 y4 y5))
 | 0 => ⟨fun _ _ _ _ _ _ r h => by simp [laws_FnTimelines.j0] at h, fun _ r h => by simp [laws_FnTimelines.j1] at h, fun _ _ _ _ _ _ _ r h => by simp [laws_FnTimelines.j2] at h, fun _ _ _ _ _ _ _ _ r h => by simp [laws_FnTimelines.l0] at h, fun _ _ _ _ _ _ _ _ _ r h => by simp [laws_FnTimelines.j4] at h, fun _ _ r h => by simp [laws_FnTimelines.j5] at h, fun _ _ _ _ _ r h => by simp [laws_FnTimelines.j6] at h, fun _ _ _ _ _ _ r h => by simp [laws_FnTimelines.l1] at h⟩
 | k + 1 => by
  obtain ⟨ih0, ih1, ih2, ih3, ih4, ih5, ih6, ih7⟩ := laws_FnTimelines.mono_l k
  refine ⟨?_, ?_, ?_, ?_, ?_, ?_, ?_, ?_⟩
  ·
   intro y0 y1 y2 y3 y4 y5
   unfold laws_FnTimelines.j0
   repeat' first
   | (with_reducible exact ih0 _ _ _ _ _ _)
   | (with_reducible exact ih1 _)
   | (with_reducible exact ih2 _ _ _ _ _ _ _)
   | (with_reducible exact ih3 _ _ _ _ _ _ _ _)
   | (with_reducible exact ih4 _ _ _ _ _ _ _ _ _)
   | (with_reducible exact ih5 _ _)
   | (with_reducible exact ih6 _ _ _ _ _)
   | (with_reducible exact ih7 _ _ _ _ _ _)
   | (with_reducible exact impl_AreaLevel.mono _ _ _ _)
   | (with_reducible exact impl_AreaTimeline.mono _ _ _)
   | (with_reducible exact impl_FromTimeline.mono _ _ _ _)
   | (with_reducible exact impl_TopicLevel.mono _ _ _ _ _)
   | (with_reducible exact impl_TopicTimeline.mono _ _ _ _)
   | (with_reducible exact impl_WarningHours.mono _ _ _)
   | (with_reducible exact laws_vStretches.mono _ _ _)
   | (with_reducible exact spec_AreaLevel.mono _ _ _ _)
   | (with_reducible exact spec_AreaTimeline.mono _ _ _)
   | (with_reducible exact spec_DrawAreaLevel.mono _ _)
   | (with_reducible exact spec_DrawAreaTimeline.mono _ _)
   | (with_reducible exact spec_DrawTopicTimeline.mono _ _)
   | (with_reducible exact spec_TopicTimeline.mono _ _ _ _)
   | (with_reducible exact LeO.refl _)
   | (with_reducible exact LeO.none _)
   | (with_reducible refine LeO.ite ?_ ?_)
   | (with_reducible refine LeO.bind ?_ (fun _ => ?_))
   | exact ih0 _ _ _ _ _ _
   | exact ih1 _
   | exact ih2 _ _ _ _ _ _ _
   | exact ih3 _ _ _ _ _ _ _ _
   | exact ih4 _ _ _ _ _ _ _ _ _
   | exact ih5 _ _
   | exact ih6 _ _ _ _ _
   | exact ih7 _ _ _ _ _ _
   | exact impl_AreaLevel.mono _ _ _ _
   | exact impl_AreaTimeline.mono _ _ _
   | exact impl_FromTimeline.mono _ _ _ _
   | exact impl_TopicLevel.mono _ _ _ _ _
   | exact impl_TopicTimeline.mono _ _ _ _
   | exact impl_WarningHours.mono _ _ _
   | exact laws_vStretches.mono _ _ _
   | exact spec_AreaLevel.mono _ _ _ _
   | exact spec_AreaTimeline.mono _ _ _
   | exact spec_DrawAreaLevel.mono _ _
   | exact spec_DrawAreaTimeline.mono _ _
   | exact spec_DrawTopicTimeline.mono _ _
   | exact spec_TopicTimeline.mono _ _ _ _
   | exact LeO.none _
   | refine LeO.ite ?_ ?_
   | refine LeO.bind ?_ (fun _ => ?_)
  ·
   intro y0
   unfold laws_FnTimelines.j1
   repeat' first
   | (with_reducible exact ih0 _ _ _ _ _ _)
   | (with_reducible exact ih1 _)
   | (with_reducible exact ih2 _ _ _ _ _ _ _)
   | (with_reducible exact ih3 _ _ _ _ _ _ _ _)
   | (with_reducible exact ih4 _ _ _ _ _ _ _ _ _)
   | (with_reducible exact ih5 _ _)
   | (with_reducible exact ih6 _ _ _ _ _)
   | (with_reducible exact ih7 _ _ _ _ _ _)
   | (with_reducible exact impl_AreaLevel.mono _ _ _ _)
   | (with_reducible exact impl_AreaTimeline.mono _ _ _)
   | (with_reducible exact impl_FromTimeline.mono _ _ _ _)
   | (with_reducible exact impl_TopicLevel.mono _ _ _ _ _)
   | (with_reducible exact impl_TopicTimeline.mono _ _ _ _)
   | (with_reducible exact impl_WarningHours.mono _ _ _)
   | (with_reducible exact laws_vStretches.mono _ _ _)
   | (with_reducible exact spec_AreaLevel.mono _ _ _ _)
   | (with_reducible exact spec_AreaTimeline.mono _ _ _)
   | (with_reducible exact spec_DrawAreaLevel.mono _ _)
   | (with_reducible exact spec_DrawAreaTimeline.mono _ _)
   | (with_reducible exact spec_DrawTopicTimeline.mono _ _)
   | (with_reducible exact spec_TopicTimeline.mono _ _ _ _)
   | (with_reducible exact LeO.refl _)
   | (with_reducible exact LeO.none _)
   | (with_reducible refine LeO.ite ?_ ?_)
   | (with_reducible refine LeO.bind ?_ (fun _ => ?_))
   | exact ih0 _ _ _ _ _ _
   | exact ih1 _
   | exact ih2 _ _ _ _ _ _ _
   | exact ih3 _ _ _ _ _ _ _ _
   | exact ih4 _ _ _ _ _ _ _ _ _
   | exact ih5 _ _
   | exact ih6 _ _ _ _ _
   | exact ih7 _ _ _ _ _ _
   | exact impl_AreaLevel.mono _ _ _ _
   | exact impl_AreaTimeline.mono _ _ _
   | exact impl_FromTimeline.mono _ _ _ _
   | exact impl_TopicLevel.mono _ _ _ _ _
   | exact impl_TopicTimeline.mono _ _ _ _
   | exact impl_WarningHours.mono _ _ _
   | exact laws_vStretches.mono _ _ _
   | exact spec_AreaLevel.mono _ _ _ _
   | exact spec_AreaTimeline.mono _ _ _
   | exact spec_DrawAreaLevel.mono _ _
   | exact spec_DrawAreaTimeline.mono _ _
   | exact spec_DrawTopicTimeline.mono _ _
   | exact spec_TopicTimeline.mono _ _ _ _
   | exact LeO.none _
   | refine LeO.ite ?_ ?_
   | refine LeO.bind ?_ (fun _ => ?_)
  ·
   intro y0 y1 y2 y3 y4 y5 y6
   unfold laws_FnTimelines.j2
   repeat' first
   | (with_reducible exact ih0 _ _ _ _ _ _)
   | (with_reducible exact ih1 _)
   | (with_reducible exact ih2 _ _ _ _ _ _ _)
   | (with_reducible exact ih3 _ _ _ _ _ _ _ _)
   | (with_reducible exact ih4 _ _ _ _ _ _ _ _ _)
   | (with_reducible exact ih5 _ _)
   | (with_reducible exact ih6 _ _ _ _ _)
   | (with_reducible exact ih7 _ _ _ _ _ _)
   | (with_reducible exact impl_AreaLevel.mono _ _ _ _)
   | (with_reducible exact impl_AreaTimeline.mono _ _ _)
   | (with_reducible exact impl_FromTimeline.mono _ _ _ _)
   | (with_reducible exact impl_TopicLevel.mono _ _ _ _ _)
   | (with_reducible exact impl_TopicTimeline.mono _ _ _ _)
   | (with_reducible exact impl_WarningHours.mono _ _ _)
   | (with_reducible exact laws_vStretches.mono _ _ _)
   | (with_reducible exact spec_AreaLevel.mono _ _ _ _)
   | (with_reducible exact spec_AreaTimeline.mono _ _ _)
   | (with_reducible exact spec_DrawAreaLevel.mono _ _)
   | (with_reducible exact spec_DrawAreaTimeline.mono _ _)
   | (with_reducible exact spec_DrawTopicTimeline.mono _ _)
   | (with_reducible exact spec_TopicTimeline.mono _ _ _ _)
   | (with_reducible exact LeO.refl _)
   | (with_reducible exact LeO.none _)
   | (with_reducible refine LeO.ite ?_ ?_)
   | (with_reducible refine LeO.bind ?_ (fun _ => ?_))
   | exact ih0 _ _ _ _ _ _
   | exact ih1 _
   | exact ih2 _ _ _ _ _ _ _
   | exact ih3 _ _ _ _ _ _ _ _
   | exact ih4 _ _ _ _ _ _ _ _ _
   | exact ih5 _ _
   | exact ih6 _ _ _ _ _
   | exact ih7 _ _ _ _ _ _
   | exact impl_AreaLevel.mono _ _ _ _
   | exact impl_AreaTimeline.mono _ _ _
   | exact impl_FromTimeline.mono _ _ _ _
   | exact impl_TopicLevel.mono _ _ _ _ _
   | exact impl_TopicTimeline.mono _ _ _ _
   | exact impl_WarningHours.mono _ _ _
   | exact laws_vStretches.mono _ _ _
   | exact spec_AreaLevel.mono _ _ _ _
   | exact spec_AreaTimeline.mono _ _ _
   | exact spec_DrawAreaLevel.mono _ _
   | exact spec_DrawAreaTimeline.mono _ _
   | exact spec_DrawTopicTimeline.mono _ _
   | exact spec_TopicTimeline.mono _ _ _ _
   | exact LeO.none _
   | refine LeO.ite ?_ ?_
   | refine LeO.bind ?_ (fun _ => ?_)
  ·
   intro y0 y1 y2 y3 y4 y5 y6 y7
   unfold laws_FnTimelines.l0
   repeat' first
   | (with_reducible exact ih0 _ _ _ _ _ _)
   | (with_reducible exact ih1 _)
   | (with_reducible exact ih2 _ _ _ _ _ _ _)
   | (with_reducible exact ih3 _ _ _ _ _ _ _ _)
   | (with_reducible exact ih4 _ _ _ _ _ _ _ _ _)
   | (with_reducible exact ih5 _ _)
   | (with_reducible exact ih6 _ _ _ _ _)
   | (with_reducible exact ih7 _ _ _ _ _ _)
   | (with_reducible exact impl_AreaLevel.mono _ _ _ _)
   | (with_reducible exact impl_AreaTimeline.mono _ _ _)
   | (with_reducible exact impl_FromTimeline.mono _ _ _ _)
   | (with_reducible exact impl_TopicLevel.mono _ _ _ _ _)
   | (with_reducible exact impl_TopicTimeline.mono _ _ _ _)
   | (with_reducible exact impl_WarningHours.mono _ _ _)
   | (with_reducible exact laws_vStretches.mono _ _ _)
   | (with_reducible exact spec_AreaLevel.mono _ _ _ _)
   | (with_reducible exact spec_AreaTimeline.mono _ _ _)
   | (with_reducible exact spec_DrawAreaLevel.mono _ _)
   | (with_reducible exact spec_DrawAreaTimeline.mono _ _)
   | (with_reducible exact spec_DrawTopicTimeline.mono _ _)
   | (with_reducible exact spec_TopicTimeline.mono _ _ _ _)
   | (with_reducible exact LeO.refl _)
   | (with_reducible exact LeO.none _)
   | (with_reducible refine LeO.ite ?_ ?_)
   | (with_reducible refine LeO.bind ?_ (fun _ => ?_))
   | exact ih0 _ _ _ _ _ _
   | exact ih1 _
   | exact ih2 _ _ _ _ _ _ _
   | exact ih3 _ _ _ _ _ _ _ _
   | exact ih4 _ _ _ _ _ _ _ _ _
   | exact ih5 _ _
   | exact ih6 _ _ _ _ _
   | exact ih7 _ _ _ _ _ _
   | exact impl_AreaLevel.mono _ _ _ _
   | exact impl_AreaTimeline.mono _ _ _
   | exact impl_FromTimeline.mono _ _ _ _
   | exact impl_TopicLevel.mono _ _ _ _ _
   | exact impl_TopicTimeline.mono _ _ _ _
   | exact impl_WarningHours.mono _ _ _
   | exact laws_vStretches.mono _ _ _
   | exact spec_AreaLevel.mono _ _ _ _
   | exact spec_AreaTimeline.mono _ _ _
   | exact spec_DrawAreaLevel.mono _ _
   | exact spec_DrawAreaTimeline.mono _ _
   | exact spec_DrawTopicTimeline.mono _ _
   | exact spec_TopicTimeline.mono _ _ _ _
   | exact LeO.none _
   | refine LeO.ite ?_ ?_
   | refine LeO.bind ?_ (fun _ => ?_)
  ·
   intro y0 y1 y2 y3 y4 y5 y6 y7 y8
   unfold laws_FnTimelines.j4
   repeat' first
   | (with_reducible exact ih0 _ _ _ _ _ _)
   | (with_reducible exact ih1 _)
   | (with_reducible exact ih2 _ _ _ _ _ _ _)
   | (with_reducible exact ih3 _ _ _ _ _ _ _ _)
   | (with_reducible exact ih4 _ _ _ _ _ _ _ _ _)
   | (with_reducible exact ih5 _ _)
   | (with_reducible exact ih6 _ _ _ _ _)
   | (with_reducible exact ih7 _ _ _ _ _ _)
   | (with_reducible exact impl_AreaLevel.mono _ _ _ _)
   | (with_reducible exact impl_AreaTimeline.mono _ _ _)
   | (with_reducible exact impl_FromTimeline.mono _ _ _ _)
   | (with_reducible exact impl_TopicLevel.mono _ _ _ _ _)
   | (with_reducible exact impl_TopicTimeline.mono _ _ _ _)
   | (with_reducible exact impl_WarningHours.mono _ _ _)
   | (with_reducible exact laws_vStretches.mono _ _ _)
   | (with_reducible exact spec_AreaLevel.mono _ _ _ _)
   | (with_reducible exact spec_AreaTimeline.mono _ _ _)
   | (with_reducible exact spec_DrawAreaLevel.mono _ _)
   | (with_reducible exact spec_DrawAreaTimeline.mono _ _)
   | (with_reducible exact spec_DrawTopicTimeline.mono _ _)
   | (with_reducible exact spec_TopicTimeline.mono _ _ _ _)
   | (with_reducible exact LeO.refl _)
   | (with_reducible exact LeO.none _)
   | (with_reducible refine LeO.ite ?_ ?_)
   | (with_reducible refine LeO.bind ?_ (fun _ => ?_))
   | exact ih0 _ _ _ _ _ _
   | exact ih1 _
   | exact ih2 _ _ _ _ _ _ _
   | exact ih3 _ _ _ _ _ _ _ _
   | exact ih4 _ _ _ _ _ _ _ _ _
   | exact ih5 _ _
   | exact ih6 _ _ _ _ _
   | exact ih7 _ _ _ _ _ _
   | exact impl_AreaLevel.mono _ _ _ _
   | exact impl_AreaTimeline.mono _ _ _
   | exact impl_FromTimeline.mono _ _ _ _
   | exact impl_TopicLevel.mono _ _ _ _ _
   | exact impl_TopicTimeline.mono _ _ _ _
   | exact impl_WarningHours.mono _ _ _
   | exact laws_vStretches.mono _ _ _
   | exact spec_AreaLevel.mono _ _ _ _
   | exact spec_AreaTimeline.mono _ _ _
   | exact spec_DrawAreaLevel.mono _ _
   | exact spec_DrawAreaTimeline.mono _ _
   | exact spec_DrawTopicTimeline.mono _ _
   | exact spec_TopicTimeline.mono _ _ _ _
   | exact LeO.none _
   | refine LeO.ite ?_ ?_
   | refine LeO.bind ?_ (fun _ => ?_)
  ·
   intro y0 y1
   unfold laws_FnTimelines.j5
   repeat' first
   | (with_reducible exact ih0 _ _ _ _ _ _)
   | (with_reducible exact ih1 _)
   | (with_reducible exact ih2 _ _ _ _ _ _ _)
   | (with_reducible exact ih3 _ _ _ _ _ _ _ _)
   | (with_reducible exact ih4 _ _ _ _ _ _ _ _ _)
   | (with_reducible exact ih5 _ _)
   | (with_reducible exact ih6 _ _ _ _ _)
   | (with_reducible exact ih7 _ _ _ _ _ _)
   | (with_reducible exact impl_AreaLevel.mono _ _ _ _)
   | (with_reducible exact impl_AreaTimeline.mono _ _ _)
   | (with_reducible exact impl_FromTimeline.mono _ _ _ _)
   | (with_reducible exact impl_TopicLevel.mono _ _ _ _ _)
   | (with_reducible exact impl_TopicTimeline.mono _ _ _ _)
   | (with_reducible exact impl_WarningHours.mono _ _ _)
   | (with_reducible exact laws_vStretches.mono _ _ _)
   | (with_reducible exact spec_AreaLevel.mono _ _ _ _)
   | (with_reducible exact spec_AreaTimeline.mono _ _ _)
   | (with_reducible exact spec_DrawAreaLevel.mono _ _)
   | (with_reducible exact spec_DrawAreaTimeline.mono _ _)
   | (with_reducible exact spec_DrawTopicTimeline.mono _ _)
   | (with_reducible exact spec_TopicTimeline.mono _ _ _ _)
   | (with_reducible exact LeO.refl _)
   | (with_reducible exact LeO.none _)
   | (with_reducible refine LeO.ite ?_ ?_)
   | (with_reducible refine LeO.bind ?_ (fun _ => ?_))
   | exact ih0 _ _ _ _ _ _
   | exact ih1 _
   | exact ih2 _ _ _ _ _ _ _
   | exact ih3 _ _ _ _ _ _ _ _
   | exact ih4 _ _ _ _ _ _ _ _ _
   | exact ih5 _ _
   | exact ih6 _ _ _ _ _
   | exact ih7 _ _ _ _ _ _
   | exact impl_AreaLevel.mono _ _ _ _
   | exact impl_AreaTimeline.mono _ _ _
   | exact impl_FromTimeline.mono _ _ _ _
   | exact impl_TopicLevel.mono _ _ _ _ _
   | exact impl_TopicTimeline.mono _ _ _ _
   | exact impl_WarningHours.mono _ _ _
   | exact laws_vStretches.mono _ _ _
   | exact spec_AreaLevel.mono _ _ _ _
   | exact spec_AreaTimeline.mono _ _ _
   | exact spec_DrawAreaLevel.mono _ _
   | exact spec_DrawAreaTimeline.mono _ _
   | exact spec_DrawTopicTimeline.mono _ _
   | exact spec_TopicTimeline.mono _ _ _ _
   | exact LeO.none _
   | refine LeO.ite ?_ ?_
   | refine LeO.bind ?_ (fun _ => ?_)
  ·
   intro y0 y1 y2 y3 y4
   unfold laws_FnTimelines.j6
   repeat' first
   | (with_reducible exact ih0 _ _ _ _ _ _)
   | (with_reducible exact ih1 _)
   | (with_reducible exact ih2 _ _ _ _ _ _ _)
   | (with_reducible exact ih3 _ _ _ _ _ _ _ _)
   | (with_reducible exact ih4 _ _ _ _ _ _ _ _ _)
   | (with_reducible exact ih5 _ _)
   | (with_reducible exact ih6 _ _ _ _ _)
   | (with_reducible exact ih7 _ _ _ _ _ _)
   | (with_reducible exact impl_AreaLevel.mono _ _ _ _)
   | (with_reducible exact impl_AreaTimeline.mono _ _ _)
   | (with_reducible exact impl_FromTimeline.mono _ _ _ _)
   | (with_reducible exact impl_TopicLevel.mono _ _ _ _ _)
   | (with_reducible exact impl_TopicTimeline.mono _ _ _ _)
   | (with_reducible exact impl_WarningHours.mono _ _ _)
   | (with_reducible exact laws_vStretches.mono _ _ _)
   | (with_reducible exact spec_AreaLevel.mono _ _ _ _)
   | (with_reducible exact spec_AreaTimeline.mono _ _ _)
   | (with_reducible exact spec_DrawAreaLevel.mono _ _)
   | (with_reducible exact spec_DrawAreaTimeline.mono _ _)
   | (with_reducible exact spec_DrawTopicTimeline.mono _ _)
   | (with_reducible exact spec_TopicTimeline.mono _ _ _ _)
   | (with_reducible exact LeO.refl _)
   | (with_reducible exact LeO.none _)
   | (with_reducible refine LeO.ite ?_ ?_)
   | (with_reducible refine LeO.bind ?_ (fun _ => ?_))
   | exact ih0 _ _ _ _ _ _
   | exact ih1 _
   | exact ih2 _ _ _ _ _ _ _
   | exact ih3 _ _ _ _ _ _ _ _
   | exact ih4 _ _ _ _ _ _ _ _ _
   | exact ih5 _ _
   | exact ih6 _ _ _ _ _
   | exact ih7 _ _ _ _ _ _
   | exact impl_AreaLevel.mono _ _ _ _
   | exact impl_AreaTimeline.mono _ _ _
   | exact impl_FromTimeline.mono _ _ _ _
   | exact impl_TopicLevel.mono _ _ _ _ _
   | exact impl_TopicTimeline.mono _ _ _ _
   | exact impl_WarningHours.mono _ _ _
   | exact laws_vStretches.mono _ _ _
   | exact spec_AreaLevel.mono _ _ _ _
   | exact spec_AreaTimeline.mono _ _ _
   | exact spec_DrawAreaLevel.mono _ _
   | exact spec_DrawAreaTimeline.mono _ _
   | exact spec_DrawTopicTimeline.mono _ _
   | exact spec_TopicTimeline.mono _ _ _ _
   | exact LeO.none _
   | refine LeO.ite ?_ ?_
   | refine LeO.bind ?_ (fun _ => ?_)
  ·
   intro y0 y1 y2 y3 y4 y5
   unfold laws_FnTimelines.l1
   repeat' first
   | (with_reducible exact ih0 _ _ _ _ _ _)
   | (with_reducible exact ih1 _)
   | (with_reducible exact ih2 _ _ _ _ _ _ _)
   | (with_reducible exact ih3 _ _ _ _ _ _ _ _)
   | (with_reducible exact ih4 _ _ _ _ _ _ _ _ _)
   | (with_reducible exact ih5 _ _)
   | (with_reducible exact ih6 _ _ _ _ _)
   | (with_reducible exact ih7 _ _ _ _ _ _)
   | (with_reducible exact impl_AreaLevel.mono _ _ _ _)
   | (with_reducible exact impl_AreaTimeline.mono _ _ _)
   | (with_reducible exact impl_FromTimeline.mono _ _ _ _)
   | (with_reducible exact impl_TopicLevel.mono _ _ _ _ _)
   | (with_reducible exact impl_TopicTimeline.mono _ _ _ _)
   | (with_reducible exact impl_WarningHours.mono _ _ _)
   | (with_reducible exact laws_vStretches.mono _ _ _)
   | (with_reducible exact spec_AreaLevel.mono _ _ _ _)
   | (with_reducible exact spec_AreaTimeline.mono _ _ _)
   | (with_reducible exact spec_DrawAreaLevel.mono _ _)
   | (with_reducible exact spec_DrawAreaTimeline.mono _ _)
   | (with_reducible exact spec_DrawTopicTimeline.mono _ _)
   | (with_reducible exact spec_TopicTimeline.mono _ _ _ _)
   | (with_reducible exact LeO.refl _)
   | (with_reducible exact LeO.none _)
   | (with_reducible refine LeO.ite ?_ ?_)
   | (with_reducible refine LeO.bind ?_ (fun _ => ?_))
   | exact ih0 _ _ _ _ _ _
   | exact ih1 _
   | exact ih2 _ _ _ _ _ _ _
   | exact ih3 _ _ _ _ _ _ _ _
   | exact ih4 _ _ _ _ _ _ _ _ _
   | exact ih5 _ _
   | exact ih6 _ _ _ _ _
   | exact ih7 _ _ _ _ _ _
   | exact impl_AreaLevel.mono _ _ _ _
   | exact impl_AreaTimeline.mono _ _ _
   | exact impl_FromTimeline.mono _ _ _ _
   | exact impl_TopicLevel.mono _ _ _ _ _
   | exact impl_TopicTimeline.mono _ _ _ _
   | exact impl_WarningHours.mono _ _ _
   | exact laws_vStretches.mono _ _ _
   | exact spec_AreaLevel.mono _ _ _ _
   | exact spec_AreaTimeline.mono _ _ _
   | exact spec_DrawAreaLevel.mono _ _
   | exact spec_DrawAreaTimeline.mono _ _
   | exact spec_DrawTopicTimeline.mono _ _
   | exact spec_TopicTimeline.mono _ _ _ _
   | exact LeO.none _
   | refine LeO.ite ?_ ?_
   | refine LeO.bind ?_ (fun _ => ?_)
theorem laws_FnTimelines.mono : ∀ a0 k, LeO (laws_FnTimelines.f k a0) (laws_FnTimelines.f (k + 1) a0) := by
 intro a0 k
 obtain ⟨ih0, ih1, ih2, ih3, ih4, ih5, ih6, ih7⟩ := laws_FnTimelines.mono_l k
 unfold laws_FnTimelines.f
 repeat' first
   | (with_reducible exact ih0 _ _ _ _ _ _)
   | (with_reducible exact ih1 _)
   | (with_reducible exact ih2 _ _ _ _ _ _ _)
   | (with_reducible exact ih3 _ _ _ _ _ _ _ _)
   | (with_reducible exact ih4 _ _ _ _ _ _ _ _ _)
   | (with_reducible exact ih5 _ _)
   | (with_reducible exact ih6 _ _ _ _ _)
   | (with_reducible exact ih7 _ _ _ _ _ _)
   | (with_reducible exact impl_AreaLevel.mono _ _ _ _)
   | (with_reducible exact impl_AreaTimeline.mono _ _ _)
   | (with_reducible exact impl_FromTimeline.mono _ _ _ _)
   | (with_reducible exact impl_TopicLevel.mono _ _ _ _ _)
   | (with_reducible exact impl_TopicTimeline.mono _ _ _ _)
   | (with_reducible exact impl_WarningHours.mono _ _ _)
   | (with_reducible exact laws_vStretches.mono _ _ _)
   | (with_reducible exact spec_AreaLevel.mono _ _ _ _)
   | (with_reducible exact spec_AreaTimeline.mono _ _ _)
   | (with_reducible exact spec_DrawAreaLevel.mono _ _)
   | (with_reducible exact spec_DrawAreaTimeline.mono _ _)
   | (with_reducible exact spec_DrawTopicTimeline.mono _ _)
   | (with_reducible exact spec_TopicTimeline.mono _ _ _ _)
   | (with_reducible exact LeO.refl _)
   | (with_reducible exact LeO.none _)
   | (with_reducible refine LeO.ite ?_ ?_)
   | (with_reducible refine LeO.bind ?_ (fun _ => ?_))
   | exact ih0 _ _ _ _ _ _
   | exact ih1 _
   | exact ih2 _ _ _ _ _ _ _
   | exact ih3 _ _ _ _ _ _ _ _
   | exact ih4 _ _ _ _ _ _ _ _ _
   | exact ih5 _ _
   | exact ih6 _ _ _ _ _
   | exact ih7 _ _ _ _ _ _
   | exact impl_AreaLevel.mono _ _ _ _
   | exact impl_AreaTimeline.mono _ _ _
   | exact impl_FromTimeline.mono _ _ _ _
   | exact impl_TopicLevel.mono _ _ _ _ _
   | exact impl_TopicTimeline.mono _ _ _ _
   | exact impl_WarningHours.mono _ _ _
   | exact laws_vStretches.mono _ _ _
   | exact spec_AreaLevel.mono _ _ _ _
   | exact spec_AreaTimeline.mono _ _ _
   | exact spec_DrawAreaLevel.mono _ _
   | exact spec_DrawAreaTimeline.mono _ _
   | exact spec_DrawTopicTimeline.mono _ _
   | exact spec_TopicTimeline.mono _ _ _ _
   | exact LeO.none _
   | refine LeO.ite ?_ ?_
   | refine LeO.bind ?_ (fun _ => ?_)
set_option maxHeartbeats 40000000 in
set_option maxRecDepth 100000 in
theorem laws_FnTimelines.calls (k : Nat) (A0 : Option Addr) (c0 : Nat) (l0 : List Int) (r : Bool) (w : World) (hr0 : Kd.C (Kd.int .u8) w A0 l0.length l0) (hc0 : l0.length ≤ c0) (h : laws_FnTimelines.f k l0 = some r) :
  Calls Try.prog 4 #[.slice A0 l0.length c0] w fun e w' => e = .returned (.bool r) ∧ Below w.heap.size w w' := by
 have HR0 := Aside0.mk hr0
 have HC0 := Aside0.mk hc0
 clear hr0 hc0
 have HB := Aside0.mk (Below.refl w.heap.size w)
 have H : ((laws_vBig.f l0).bind fun t663 => (if t663 = true then (some true) else ((spec_DrawTopicTimeline.f k l0).bind fun bt664 => ((impl_TopicTimeline.f k bt664.1 bt664.2.1 bt664.2.2).bind fun bt669 => ((spec_TopicTimeline.f k bt664.1 bt664.2.1 bt664.2.2).bind fun bt673 => (if (bt669.2 != bt673.2) = true then (none) else ((laws_vStretches.f k bt669.1 bt673.1).bind fun t677 => (laws_FnTimelines.j0 k l0 bt664.2.1 bt664.2.2 bt669.1 bt669.2 (!t677))))))))) = some r := h
 clear h
 replace H := Option.bind_eq_some_iff.mp H
 obtain ⟨t663, A20, H⟩ := H
 replace H : (if t663 = true then (some true) else ((spec_DrawTopicTimeline.f k l0).bind fun bt664 => ((impl_TopicTimeline.f k bt664.1 bt664.2.1 bt664.2.2).bind fun bt669 => ((spec_TopicTimeline.f k bt664.1 bt664.2.1 bt664.2.2).bind fun bt673 => (if (bt669.2 != bt673.2) = true then (none) else ((laws_vStretches.f k bt669.1 bt673.1).bind fun t677 => (laws_FnTimelines.j0 k l0 bt664.2.1 bt664.2.2 bt669.1 bt669.2 (!t677)))))))) = some r := H
 have A2 := Aside0.mk A20
 clear A20
 by_cases c3 : t663 = true
 ·
  subst c3
  have H1 : (some true) = some r := by rw [if_pos rfl] at H; exact H
  clear H
  have H := H1
  clear H1
  obtain rfl := Option.some.inj H
  go_enter Try.func4, Try.ntmps4
  go_wp2_with (first | (go_at_call 7; (with_reducible refine (laws_vBig.calls _ _ l0 true _ ?side1 ?side2 A2.out).mono ?_); (case side1 => repeat (first | exact HR0.out | (with_reducible refine Kd.C_alloc ?_ _) | (with_reducible refine Kd.C_drewN ?_ _) | (with_reducible refine Kd.C_drew ?_))); (case side2 => exact HC0.out); rintro e w' ⟨rfl, ⟨nd, rfl⟩⟩; (try first | exact ⟨rfl, _, World.drewN_drewN _ _ _⟩ | exact ⟨rfl, _, Eq.trans (World.drewN_drewN _ _ _) (congrArg (World.drewN _) (Nat.add_assoc _ _ _))⟩)))
  repeat (go_quiet (first | (go_at_call 7; (with_reducible refine (laws_vBig.calls _ _ l0 true _ ?side1 ?side2 A2.out).mono ?_); (case side1 => repeat (first | exact HR0.out | (with_reducible refine Kd.C_alloc ?_ _) | (with_reducible refine Kd.C_drewN ?_ _) | (with_reducible refine Kd.C_drew ?_))); (case side2 => exact HC0.out); rintro e w' ⟨rfl, ⟨nd, rfl⟩⟩; (try first | exact ⟨rfl, _, World.drewN_drewN _ _ _⟩ | exact ⟨rfl, _, Eq.trans (World.drewN_drewN _ _ _) (congrArg (World.drewN _) (Nat.add_assoc _ _ _))⟩))); try go_wp2_with (first | (go_at_call 7; (with_reducible refine (laws_vBig.calls _ _ l0 true _ ?side1 ?side2 A2.out).mono ?_); (case side1 => repeat (first | exact HR0.out | (with_reducible refine Kd.C_alloc ?_ _) | (with_reducible refine Kd.C_drewN ?_ _) | (with_reducible refine Kd.C_drew ?_))); (case side2 => exact HC0.out); rintro e w' ⟨rfl, ⟨nd, rfl⟩⟩; (try first | exact ⟨rfl, _, World.drewN_drewN _ _ _⟩ | exact ⟨rfl, _, Eq.trans (World.drewN_drewN _ _ _) (congrArg (World.drewN _) (Nat.add_assoc _ _ _))⟩))))
  go_ret
  exact ⟨by first | rfl | (simp [errW_none, errW_some] <;> rfl) | (simp [*, errW_none, errW_some] <;> rfl), by repeat (first | (with_reducible first | exact HB.out | apply below_alloc | apply pw_below_drewN | apply below_drew1) | exact HB.out)⟩
 ·
  replace c3 := Bool.eq_false_iff.mpr c3
  subst c3
  have H1 : ((spec_DrawTopicTimeline.f k l0).bind fun bt664 => ((impl_TopicTimeline.f k bt664.1 bt664.2.1 bt664.2.2).bind fun bt669 => ((spec_TopicTimeline.f k bt664.1 bt664.2.1 bt664.2.2).bind fun bt673 => (if (bt669.2 != bt673.2) = true then (none) else ((laws_vStretches.f k bt669.1 bt673.1).bind fun t677 => (laws_FnTimelines.j0 k l0 bt664.2.1 bt664.2.2 bt669.1 bt669.2 (!t677))))))) = some r := by rw [if_neg (show ¬ (false = true) by decide)] at H; exact H
  clear H
  have H := H1
  clear H1
  replace H := Option.bind_eq_some_iff.mp H
  obtain ⟨⟨t664, t665, t666⟩, A40, H⟩ := H
  replace H : ((impl_TopicTimeline.f k t664 t665 t666).bind fun bt669 => ((spec_TopicTimeline.f k t664 t665 t666).bind fun bt673 => (if (bt669.2 != bt673.2) = true then (none) else ((laws_vStretches.f k bt669.1 bt673.1).bind fun t677 => (laws_FnTimelines.j0 k l0 t665 t666 bt669.1 bt669.2 (!t677)))))) = some r := H
  have A4 := Aside0.mk A40
  clear A40
  replace H := Option.bind_eq_some_iff.mp H
  obtain ⟨⟨t669, t670⟩, A50, H⟩ := H
  replace H : ((spec_TopicTimeline.f k t664 t665 t666).bind fun bt673 => (if (t670 != bt673.2) = true then (none) else ((laws_vStretches.f k t669 bt673.1).bind fun t677 => (laws_FnTimelines.j0 k l0 t665 t666 t669 t670 (!t677))))) = some r := H
  have A5 := Aside0.mk A50
  clear A50
  replace H := Option.bind_eq_some_iff.mp H
  obtain ⟨⟨t673, t674⟩, A60, H⟩ := H
  replace H : (if (t670 != t674) = true then (none) else ((laws_vStretches.f k t669 t673).bind fun t677 => (laws_FnTimelines.j0 k l0 t665 t666 t669 t670 (!t677)))) = some r := H
  have A6 := Aside0.mk A60
  clear A60
  have HC7 := Aside0.mk H
  clear H
  go_enter Try.func4, Try.ntmps4
  go_upto_region 6 with (first | (go_at_call 7; (with_reducible refine (laws_vBig.calls _ _ l0 false _ ?side1 ?side2 A2.out).mono ?_); (case side1 => repeat (first | exact HR0.out | (with_reducible refine Kd.C_alloc ?_ _) | (with_reducible refine Kd.C_drewN ?_ _) | (with_reducible refine Kd.C_drew ?_))); (case side2 => exact HC0.out); rintro e w' ⟨rfl, ⟨nd, rfl⟩⟩; (try first | exact ⟨rfl, _, World.drewN_drewN _ _ _⟩ | exact ⟨rfl, _, Eq.trans (World.drewN_drewN _ _ _) (congrArg (World.drewN _) (Nat.add_assoc _ _ _))⟩)) | (go_at_call 18; (with_reducible refine (spec_DrawTopicTimeline.calls k _ _ l0 t664 t665 t666 _ ?side1 ?side2 A4.out).mono ?_); (case side1 => repeat (first | exact HR0.out | (with_reducible refine Kd.C_alloc ?_ _) | (with_reducible refine Kd.C_drewN ?_ _) | (with_reducible refine Kd.C_drew ?_))); (case side2 => exact HC0.out); rintro e w8 ⟨v667, rfl, ho0, hb⟩; have n0_ := Aside0.mk (Kd.R_lower ho0 (below_size zq0)); have n1_ := Aside0.mk (below_step zq0 hb); clear HB; have HO668 := n0_; have HB := n1_; clear n0_ n1_; (try clear hb); (try clear hb2); (try clear hk); (try clear hi); (try clear ho0); obtain ⟨Ao9, co9, eo9⟩ := Kd.R_slice HO668.out; subst eo9) | (go_at_call 19; (with_reducible refine (impl_TopicTimeline.calls k _ _ t664 t665 t666 t669 t670 _ ?side1 ?side2 A5.out).mono ?_); (case side1 => repeat (first | exact (Kd.R_reads' HO668.out).2.2 | (with_reducible refine Kd.C_alloc ?_ _) | (with_reducible refine Kd.C_drewN ?_ _) | (with_reducible refine Kd.C_drew ?_))); (case side2 => exact (Kd.R_reads' HO668.out).2.1); rintro e w10 ⟨v671, rfl, ho0, hb⟩; have n0_ := Aside0.mk (Kd.R_below (zqR HO668.out) hb); have n1_ := Aside0.mk (Kd.R_lower ho0 (below_size zq0)); have n2_ := Aside0.mk (below_step zq0 hb); clear HO668; clear HB; have HO668 := n0_; have HO672 := n1_; have HB := n2_; clear n0_ n1_ n2_; (try clear hb); (try clear hb2); (try clear hk); (try clear hi); (try clear ho0)) | (go_at_call 20; (with_reducible refine (spec_TopicTimeline.calls k _ _ t664 t665 t666 t673 t674 _ ?side1 ?side2 A6.out).mono ?_); (case side1 => repeat (first | exact (Kd.R_reads' HO668.out).2.2 | (with_reducible refine Kd.C_alloc ?_ _) | (with_reducible refine Kd.C_drewN ?_ _) | (with_reducible refine Kd.C_drew ?_))); (case side2 => exact (Kd.R_reads' HO668.out).2.1); rintro e w11 ⟨v675, rfl, ho0, hb⟩; have n0_ := Aside0.mk (Kd.R_below (zqR HO668.out) hb); have n1_ := Aside0.mk (Kd.R_elder' (zqR HO672.out) (Kd.R_base ho0) hb); have n2_ := Aside0.mk (Kd.R_lower (Kd.R_new' ho0 (Kd.R_lt (zqR HO672.out))) (below_size zq0)); have n3_ := Aside0.mk (below_step zq0 hb); clear HO668; clear HO672; clear HB; have HO668 := n0_; have HO672 := n1_; have HO676 := n2_; have HB := n3_; clear n0_ n1_ n2_ n3_; (try clear hb); (try clear hb2); (try clear hk); (try clear hi); (try clear ho0)))
  repeat (go_quiet (first | (go_at_call 7; (with_reducible refine (laws_vBig.calls _ _ l0 false _ ?side1 ?side2 A2.out).mono ?_); (case side1 => repeat (first | exact HR0.out | (with_reducible refine Kd.C_alloc ?_ _) | (with_reducible refine Kd.C_drewN ?_ _) | (with_reducible refine Kd.C_drew ?_))); (case side2 => exact HC0.out); rintro e w' ⟨rfl, ⟨nd, rfl⟩⟩; (try first | exact ⟨rfl, _, World.drewN_drewN _ _ _⟩ | exact ⟨rfl, _, Eq.trans (World.drewN_drewN _ _ _) (congrArg (World.drewN _) (Nat.add_assoc _ _ _))⟩)) | (go_at_call 18; (with_reducible refine (spec_DrawTopicTimeline.calls k _ _ l0 t664 t665 t666 _ ?side1 ?side2 A4.out).mono ?_); (case side1 => repeat (first | exact HR0.out | (with_reducible refine Kd.C_alloc ?_ _) | (with_reducible refine Kd.C_drewN ?_ _) | (with_reducible refine Kd.C_drew ?_))); (case side2 => exact HC0.out); rintro e w8 ⟨v667, rfl, ho0, hb⟩; have n0_ := Aside0.mk (Kd.R_lower ho0 (below_size zq0)); have n1_ := Aside0.mk (below_step zq0 hb); clear HB; have HO668 := n0_; have HB := n1_; clear n0_ n1_; (try clear hb); (try clear hb2); (try clear hk); (try clear hi); (try clear ho0); obtain ⟨Ao9, co9, eo9⟩ := Kd.R_slice HO668.out; subst eo9) | (go_at_call 19; (with_reducible refine (impl_TopicTimeline.calls k _ _ t664 t665 t666 t669 t670 _ ?side1 ?side2 A5.out).mono ?_); (case side1 => repeat (first | exact (Kd.R_reads' HO668.out).2.2 | (with_reducible refine Kd.C_alloc ?_ _) | (with_reducible refine Kd.C_drewN ?_ _) | (with_reducible refine Kd.C_drew ?_))); (case side2 => exact (Kd.R_reads' HO668.out).2.1); rintro e w10 ⟨v671, rfl, ho0, hb⟩; have n0_ := Aside0.mk (Kd.R_below (zqR HO668.out) hb); have n1_ := Aside0.mk (Kd.R_lower ho0 (below_size zq0)); have n2_ := Aside0.mk (below_step zq0 hb); clear HO668; clear HB; have HO668 := n0_; have HO672 := n1_; have HB := n2_; clear n0_ n1_ n2_; (try clear hb); (try clear hb2); (try clear hk); (try clear hi); (try clear ho0)) | (go_at_call 20; (with_reducible refine (spec_TopicTimeline.calls k _ _ t664 t665 t666 t673 t674 _ ?side1 ?side2 A6.out).mono ?_); (case side1 => repeat (first | exact (Kd.R_reads' HO668.out).2.2 | (with_reducible refine Kd.C_alloc ?_ _) | (with_reducible refine Kd.C_drewN ?_ _) | (with_reducible refine Kd.C_drew ?_))); (case side2 => exact (Kd.R_reads' HO668.out).2.1); rintro e w11 ⟨v675, rfl, ho0, hb⟩; have n0_ := Aside0.mk (Kd.R_below (zqR HO668.out) hb); have n1_ := Aside0.mk (Kd.R_elder' (zqR HO672.out) (Kd.R_base ho0) hb); have n2_ := Aside0.mk (Kd.R_lower (Kd.R_new' ho0 (Kd.R_lt (zqR HO672.out))) (below_size zq0)); have n3_ := Aside0.mk (below_step zq0 hb); clear HO668; clear HO672; clear HB; have HO668 := n0_; have HO672 := n1_; have HO676 := n2_; have HB := n3_; clear n0_ n1_ n2_ n3_; (try clear hb); (try clear hb2); (try clear hk); (try clear hi); (try clear ho0))); go_upto_region 6 with (first | (go_at_call 7; (with_reducible refine (laws_vBig.calls _ _ l0 false _ ?side1 ?side2 A2.out).mono ?_); (case side1 => repeat (first | exact HR0.out | (with_reducible refine Kd.C_alloc ?_ _) | (with_reducible refine Kd.C_drewN ?_ _) | (with_reducible refine Kd.C_drew ?_))); (case side2 => exact HC0.out); rintro e w' ⟨rfl, ⟨nd, rfl⟩⟩; (try first | exact ⟨rfl, _, World.drewN_drewN _ _ _⟩ | exact ⟨rfl, _, Eq.trans (World.drewN_drewN _ _ _) (congrArg (World.drewN _) (Nat.add_assoc _ _ _))⟩)) | (go_at_call 18; (with_reducible refine (spec_DrawTopicTimeline.calls k _ _ l0 t664 t665 t666 _ ?side1 ?side2 A4.out).mono ?_); (case side1 => repeat (first | exact HR0.out | (with_reducible refine Kd.C_alloc ?_ _) | (with_reducible refine Kd.C_drewN ?_ _) | (with_reducible refine Kd.C_drew ?_))); (case side2 => exact HC0.out); rintro e w8 ⟨v667, rfl, ho0, hb⟩; have n0_ := Aside0.mk (Kd.R_lower ho0 (below_size zq0)); have n1_ := Aside0.mk (below_step zq0 hb); clear HB; have HO668 := n0_; have HB := n1_; clear n0_ n1_; (try clear hb); (try clear hb2); (try clear hk); (try clear hi); (try clear ho0); obtain ⟨Ao9, co9, eo9⟩ := Kd.R_slice HO668.out; subst eo9) | (go_at_call 19; (with_reducible refine (impl_TopicTimeline.calls k _ _ t664 t665 t666 t669 t670 _ ?side1 ?side2 A5.out).mono ?_); (case side1 => repeat (first | exact (Kd.R_reads' HO668.out).2.2 | (with_reducible refine Kd.C_alloc ?_ _) | (with_reducible refine Kd.C_drewN ?_ _) | (with_reducible refine Kd.C_drew ?_))); (case side2 => exact (Kd.R_reads' HO668.out).2.1); rintro e w10 ⟨v671, rfl, ho0, hb⟩; have n0_ := Aside0.mk (Kd.R_below (zqR HO668.out) hb); have n1_ := Aside0.mk (Kd.R_lower ho0 (below_size zq0)); have n2_ := Aside0.mk (below_step zq0 hb); clear HO668; clear HB; have HO668 := n0_; have HO672 := n1_; have HB := n2_; clear n0_ n1_ n2_; (try clear hb); (try clear hb2); (try clear hk); (try clear hi); (try clear ho0)) | (go_at_call 20; (with_reducible refine (spec_TopicTimeline.calls k _ _ t664 t665 t666 t673 t674 _ ?side1 ?side2 A6.out).mono ?_); (case side1 => repeat (first | exact (Kd.R_reads' HO668.out).2.2 | (with_reducible refine Kd.C_alloc ?_ _) | (with_reducible refine Kd.C_drewN ?_ _) | (with_reducible refine Kd.C_drew ?_))); (case side2 => exact (Kd.R_reads' HO668.out).2.1); rintro e w11 ⟨v675, rfl, ho0, hb⟩; have n0_ := Aside0.mk (Kd.R_below (zqR HO668.out) hb); have n1_ := Aside0.mk (Kd.R_elder' (zqR HO672.out) (Kd.R_base ho0) hb); have n2_ := Aside0.mk (Kd.R_lower (Kd.R_new' ho0 (Kd.R_lt (zqR HO672.out))) (below_size zq0)); have n3_ := Aside0.mk (below_step zq0 hb); clear HO668; clear HO672; clear HB; have HO668 := n0_; have HO672 := n1_; have HO676 := n2_; have HB := n3_; clear n0_ n1_ n2_ n3_; (try clear hb); (try clear hb2); (try clear hk); (try clear hi); (try clear ho0))))
  (try simp only [Act.put, List.setIfInBounds_toArray, List.set_cons_zero, List.set_cons_succ])
  go_cut [65] (fun v65 wc => ∃ (kq : Nat) (x65_6 : Bool), v65 = .bool x65_6 ∧ Aside0 (laws_FnTimelines.j0 kq l0 t665 t666 t669 t670 x65_6 = some r) ∧ Aside0 (kq ≤ k) ∧ Aside0 (Kd.R k50 50 wc w.heap.size (fun _ => True) v671 t669) ∧ Aside0 (Below w.heap.size w wc))
  case first => as_aux_lemma =>
   have H := HC7.out
   clear HC7
   by_cases c12 : (t670 != t674) = true
   ·
    rw [if_pos c12] at H
    exact absurd H (by simp)
   ·
    rw [if_neg c12] at H
    have c12b0 : (t670 != t674) = false := by simpa using c12
    (try (have c12b1 : decide (t670 = t674) = true := by simpa using c12))
    (try (have c12b2 : (t670 == t674) = true := by simpa using c12))
    clear c12
    (first | rw [c12b0] | (simp only [i64_w, i32_w]; rw [c12b0]) | rw [c12b1] | skip)
    replace H := Option.bind_eq_some_iff.mp H
    obtain ⟨t677, A130, H⟩ := H
    replace H : (laws_FnTimelines.j0 k l0 t665 t666 t669 t670 (!t677)) = some r := H
    have A13 := Aside0.mk A130
    clear A130
    have H' := Aside0.mk H
    clear H
    obtain ⟨Ao14, co14, eo14⟩ := Kd.R_slice HO672.out
    subst eo14
    obtain ⟨Ao15, co15, eo15⟩ := Kd.R_slice HO676.out
    subst eo15
    go_wp2_with (first | (go_at_call 21; (with_reducible refine (laws_vStretches.calls k _ _ t669 _ _ t673 t677 _ ?side1 ?side2 ?side3 ?side4 A13.out).mono ?_); (case side1 => repeat (first | exact (Kd.R_reads' HO672.out).2.2 | (with_reducible refine Kd.C_alloc ?_ _) | (with_reducible refine Kd.C_drewN ?_ _) | (with_reducible refine Kd.C_drew ?_))); (case side2 => exact (Kd.R_reads' HO672.out).2.1); (case side3 => repeat (first | exact (Kd.R_reads' HO676.out).2.2 | (with_reducible refine Kd.C_alloc ?_ _) | (with_reducible refine Kd.C_drewN ?_ _) | (with_reducible refine Kd.C_drew ?_))); (case side4 => exact (Kd.R_reads' HO676.out).2.1); rintro e w' ⟨rfl, ⟨nd, rfl⟩⟩; (try first | exact ⟨rfl, _, World.drewN_drewN _ _ _⟩ | exact ⟨rfl, _, Eq.trans (World.drewN_drewN _ _ _) (congrArg (World.drewN _) (Nat.add_assoc _ _ _))⟩)))
    repeat (go_quiet (first | (go_at_call 21; (with_reducible refine (laws_vStretches.calls k _ _ t669 _ _ t673 t677 _ ?side1 ?side2 ?side3 ?side4 A13.out).mono ?_); (case side1 => repeat (first | exact (Kd.R_reads' HO672.out).2.2 | (with_reducible refine Kd.C_alloc ?_ _) | (with_reducible refine Kd.C_drewN ?_ _) | (with_reducible refine Kd.C_drew ?_))); (case side2 => exact (Kd.R_reads' HO672.out).2.1); (case side3 => repeat (first | exact (Kd.R_reads' HO676.out).2.2 | (with_reducible refine Kd.C_alloc ?_ _) | (with_reducible refine Kd.C_drewN ?_ _) | (with_reducible refine Kd.C_drew ?_))); (case side4 => exact (Kd.R_reads' HO676.out).2.1); rintro e w' ⟨rfl, ⟨nd, rfl⟩⟩; (try first | exact ⟨rfl, _, World.drewN_drewN _ _ _⟩ | exact ⟨rfl, _, Eq.trans (World.drewN_drewN _ _ _) (congrArg (World.drewN _) (Nat.add_assoc _ _ _))⟩))); try go_wp2_with (first | (go_at_call 21; (with_reducible refine (laws_vStretches.calls k _ _ t669 _ _ t673 t677 _ ?side1 ?side2 ?side3 ?side4 A13.out).mono ?_); (case side1 => repeat (first | exact (Kd.R_reads' HO672.out).2.2 | (with_reducible refine Kd.C_alloc ?_ _) | (with_reducible refine Kd.C_drewN ?_ _) | (with_reducible refine Kd.C_drew ?_))); (case side2 => exact (Kd.R_reads' HO672.out).2.1); (case side3 => repeat (first | exact (Kd.R_reads' HO676.out).2.2 | (with_reducible refine Kd.C_alloc ?_ _) | (with_reducible refine Kd.C_drewN ?_ _) | (with_reducible refine Kd.C_drew ?_))); (case side4 => exact (Kd.R_reads' HO676.out).2.1); rintro e w' ⟨rfl, ⟨nd, rfl⟩⟩; (try first | exact ⟨rfl, _, World.drewN_drewN _ _ _⟩ | exact ⟨rfl, _, Eq.trans (World.drewN_drewN _ _ _) (congrArg (World.drewN _) (Nat.add_assoc _ _ _))⟩))))
    go_meet
    case rel => exact ⟨_, (!t677), (by first | rfl | (simp; done) | (simp [*]; done)), H', ⟨by first | omega | exact Nat.le_refl _⟩, ⟨by (with_reducible repeat (first | apply Kd.R_alloc | apply Kd.R_drewN | apply Kd.R_drew)); exact Kd.R_mono HO672.out (fun _ hk => trivial)⟩, ⟨by repeat (first | (with_reducible first | exact HB.out | apply below_alloc | apply pw_below_drewN | apply below_drew1) | exact HB.out)⟩⟩
  case rest =>
   clear HC7
   try clear c1
   try clear p2
   try clear c3
   try clear c4
   try clear c12
   try clear c12b0
   try clear c12b1
   try clear c12b2
   obtain ⟨kq, x65_6, rfl, HA, HJ6, HO_6, HB⟩ := hcut
   cases kq with
   | zero => exact absurd HA.out (by simp [laws_FnTimelines.j0])
   | succ kj6 =>
    have H := HA.out
    clear HA
    simp only [laws_FnTimelines.j0] at H
    by_cases c16 : x65_6 = true
    ·
     subst c16
     have H1 : (none) = some r := by rw [if_pos rfl] at H; exact H
     clear H
     have H := H1
     clear H1
     exact absurd H (by simp)
    ·
     replace c16 := Bool.eq_false_iff.mpr c16
     subst c16
     have H1 : (if t670 = true then ((impl_FromTimeline.f kj6 t665 t666 t669).bind fun bt678 => (if bt678.2 = true then ((impl_TopicTimeline.f kj6 bt678.1 t665 t666).bind fun bt682 => (if bt682.2 = true then ((laws_vStretches.f kj6 bt682.1 t669).bind fun t686 => (if t686 = true then (if (bt678.1.length : Int) = (t669.length : Int) then (laws_FnTimelines.j1 kj6 l0) else (none)) else (none))) else (none))) else (if (t669.length : Int) ≤ 12 then (none) else (laws_FnTimelines.j1 kj6 l0)))) else (laws_FnTimelines.j1 kj6 l0)) = some r := by rw [if_neg (show ¬ (false = true) by decide)] at H; exact H
     clear H
     have H := H1
     clear H1
     have HC17 := Aside0.mk H
     clear H
     go_upto_if 66 with (fail)
     repeat (go_quiet (fail); go_upto_if 66 with (fail))
     go_cut [] (fun wc => ∃ (kq : Nat), Aside0 (laws_FnTimelines.j1 kq l0 = some r) ∧ Aside0 (kq ≤ kj6) ∧ Aside0 (Below w.heap.size w wc))
     case first => as_aux_lemma =>
      have H := HC17.out
      clear HC17
      by_cases c18 : t670 = true
      ·
       subst c18
       have H1 : ((impl_FromTimeline.f kj6 t665 t666 t669).bind fun bt678 => (if bt678.2 = true then ((impl_TopicTimeline.f kj6 bt678.1 t665 t666).bind fun bt682 => (if bt682.2 = true then ((laws_vStretches.f kj6 bt682.1 t669).bind fun t686 => (if t686 = true then (if (bt678.1.length : Int) = (t669.length : Int) then (laws_FnTimelines.j1 kj6 l0) else (none)) else (none))) else (none))) else (if (t669.length : Int) ≤ 12 then (none) else (laws_FnTimelines.j1 kj6 l0)))) = some r := by rw [if_pos rfl] at H; exact H
       clear H
       have H := H1
       clear H1
       replace H := Option.bind_eq_some_iff.mp H
       obtain ⟨⟨t678, t679⟩, A190, H⟩ := H
       replace H : (if t679 = true then ((impl_TopicTimeline.f kj6 t678 t665 t666).bind fun bt682 => (if bt682.2 = true then ((laws_vStretches.f kj6 bt682.1 t669).bind fun t686 => (if t686 = true then (if (t678.length : Int) = (t669.length : Int) then (laws_FnTimelines.j1 kj6 l0) else (none)) else (none))) else (none))) else (if (t669.length : Int) ≤ 12 then (none) else (laws_FnTimelines.j1 kj6 l0))) = some r := H
       have A19 := Aside0.mk A190
       clear A190
       by_cases c20 : t679 = true
       ·
        subst c20
        have H1 : ((impl_TopicTimeline.f kj6 t678 t665 t666).bind fun bt682 => (if bt682.2 = true then ((laws_vStretches.f kj6 bt682.1 t669).bind fun t686 => (if t686 = true then (if (t678.length : Int) = (t669.length : Int) then (laws_FnTimelines.j1 kj6 l0) else (none)) else (none))) else (none))) = some r := by rw [if_pos rfl] at H; exact H
        clear H
        have H := H1
        clear H1
        replace H := Option.bind_eq_some_iff.mp H
        obtain ⟨⟨t682, t683⟩, A210, H⟩ := H
        replace H : (if t683 = true then ((laws_vStretches.f kj6 t682 t669).bind fun t686 => (if t686 = true then (if (t678.length : Int) = (t669.length : Int) then (laws_FnTimelines.j1 kj6 l0) else (none)) else (none))) else (none)) = some r := H
        have A21 := Aside0.mk A210
        clear A210
        by_cases c22 : t683 = true
        ·
         subst c22
         have H1 : ((laws_vStretches.f kj6 t682 t669).bind fun t686 => (if t686 = true then (if (t678.length : Int) = (t669.length : Int) then (laws_FnTimelines.j1 kj6 l0) else (none)) else (none))) = some r := by rw [if_pos rfl] at H; exact H
         clear H
         have H := H1
         clear H1
         replace H := Option.bind_eq_some_iff.mp H
         obtain ⟨t686, A230, H⟩ := H
         replace H : (if t686 = true then (if (t678.length : Int) = (t669.length : Int) then (laws_FnTimelines.j1 kj6 l0) else (none)) else (none)) = some r := H
         have A23 := Aside0.mk A230
         clear A230
         by_cases c24 : t686 = true
         ·
          subst c24
          have H1 : (if (t678.length : Int) = (t669.length : Int) then (laws_FnTimelines.j1 kj6 l0) else (none)) = some r := by rw [if_pos rfl] at H; exact H
          clear H
          have H := H1
          clear H1
          by_cases c25 : (t678.length : Int) = (t669.length : Int)
          ·
           rw [if_pos c25] at H
           have c25b0 : ((t678.length : Int) == (t669.length : Int)) = true := beq_iff_eq.mpr c25
           have c25b1 : ((t678.length : Int) != (t669.length : Int)) = false := bne_eq_false_iff_eq.mpr c25
           have c25b2 : (t678.length == t669.length) = true := by first | simpa using c25 | (simp at c25 ⊢; omega)
           clear c25
           (first | rw [c25b0] | (simp only [i64_w, i32_w]; rw [c25b0]) | rw [c25b1] | skip)
           have H' := Aside0.mk H
           clear H
           obtain ⟨Ao26, co26, eo26⟩ := Kd.R_slice HO_6.out
           subst eo26
           go_wp2_with (first | (go_at_call 22; (with_reducible refine (impl_FromTimeline.calls kj6 t665 t666 _ _ t669 t678 true _ ?side1 ?side2 A19.out).mono ?_); (case side1 => repeat (first | exact (Kd.R_reads' HO_6.out).2.2 | (with_reducible refine Kd.C_alloc ?_ _) | (with_reducible refine Kd.C_drewN ?_ _) | (with_reducible refine Kd.C_drew ?_))); (case side2 => exact (Kd.R_reads' HO_6.out).2.1); rintro e w27 ⟨v680, rfl, ho0, hb⟩; have n0_ := Aside0.mk (Kd.R_below (zqR HO_6.out) hb); have n1_ := Aside0.mk (Kd.R_lower ho0 (below_size zq0)); have n2_ := Aside0.mk (below_step zq0 hb); clear HO_6; clear HB; have HO_6 := n0_; have HO681 := n1_; have HB := n2_; clear n0_ n1_ n2_; (try clear hb); (try clear hb2); (try clear hk); (try clear hi); (try clear ho0); obtain ⟨Ao28, co28, eo28⟩ := Kd.R_slice HO681.out; subst eo28) | (go_at_call 19; (with_reducible refine (impl_TopicTimeline.calls kj6 _ _ t678 t665 t666 t682 true _ ?side1 ?side2 A21.out).mono ?_); (case side1 => repeat (first | exact (Kd.R_reads' HO681.out).2.2 | (with_reducible refine Kd.C_alloc ?_ _) | (with_reducible refine Kd.C_drewN ?_ _) | (with_reducible refine Kd.C_drew ?_))); (case side2 => exact (Kd.R_reads' HO681.out).2.1); rintro e w29 ⟨v684, rfl, ho0, hb⟩; have n0_ := Aside0.mk (Kd.R_elder' (zqR HO_6.out) (Kd.R_base ho0) hb); have n1_ := Aside0.mk (Kd.R_below (zqR HO681.out) hb); have n2_ := Aside0.mk (Kd.R_lower (Kd.R_new' ho0 (Kd.R_lt (zqR HO_6.out))) (below_size zq0)); have n3_ := Aside0.mk (below_step zq0 hb); clear HO_6; clear HO681; clear HB; have HO_6 := n0_; have HO681 := n1_; have HO685 := n2_; have HB := n3_; clear n0_ n1_ n2_ n3_; (try clear hb); (try clear hb2); (try clear hk); (try clear hi); (try clear ho0); obtain ⟨Ao30, co30, eo30⟩ := Kd.R_slice HO685.out; subst eo30) | (go_at_call 21; (with_reducible refine (laws_vStretches.calls kj6 _ _ t682 _ _ t669 true _ ?side1 ?side2 ?side3 ?side4 A23.out).mono ?_); (case side1 => repeat (first | exact (Kd.R_reads' HO685.out).2.2 | (with_reducible refine Kd.C_alloc ?_ _) | (with_reducible refine Kd.C_drewN ?_ _) | (with_reducible refine Kd.C_drew ?_))); (case side2 => exact (Kd.R_reads' HO685.out).2.1); (case side3 => repeat (first | exact (Kd.R_reads' HO_6.out).2.2 | (with_reducible refine Kd.C_alloc ?_ _) | (with_reducible refine Kd.C_drewN ?_ _) | (with_reducible refine Kd.C_drew ?_))); (case side4 => exact (Kd.R_reads' HO_6.out).2.1); rintro e w' ⟨rfl, ⟨nd, rfl⟩⟩; (try first | exact ⟨rfl, _, World.drewN_drewN _ _ _⟩ | exact ⟨rfl, _, Eq.trans (World.drewN_drewN _ _ _) (congrArg (World.drewN _) (Nat.add_assoc _ _ _))⟩)))
           repeat (go_quiet (first | (go_at_call 22; (with_reducible refine (impl_FromTimeline.calls kj6 t665 t666 _ _ t669 t678 true _ ?side1 ?side2 A19.out).mono ?_); (case side1 => repeat (first | exact (Kd.R_reads' HO_6.out).2.2 | (with_reducible refine Kd.C_alloc ?_ _) | (with_reducible refine Kd.C_drewN ?_ _) | (with_reducible refine Kd.C_drew ?_))); (case side2 => exact (Kd.R_reads' HO_6.out).2.1); rintro e w27 ⟨v680, rfl, ho0, hb⟩; have n0_ := Aside0.mk (Kd.R_below (zqR HO_6.out) hb); have n1_ := Aside0.mk (Kd.R_lower ho0 (below_size zq0)); have n2_ := Aside0.mk (below_step zq0 hb); clear HO_6; clear HB; have HO_6 := n0_; have HO681 := n1_; have HB := n2_; clear n0_ n1_ n2_; (try clear hb); (try clear hb2); (try clear hk); (try clear hi); (try clear ho0); obtain ⟨Ao28, co28, eo28⟩ := Kd.R_slice HO681.out; subst eo28) | (go_at_call 19; (with_reducible refine (impl_TopicTimeline.calls kj6 _ _ t678 t665 t666 t682 true _ ?side1 ?side2 A21.out).mono ?_); (case side1 => repeat (first | exact (Kd.R_reads' HO681.out).2.2 | (with_reducible refine Kd.C_alloc ?_ _) | (with_reducible refine Kd.C_drewN ?_ _) | (with_reducible refine Kd.C_drew ?_))); (case side2 => exact (Kd.R_reads' HO681.out).2.1); rintro e w29 ⟨v684, rfl, ho0, hb⟩; have n0_ := Aside0.mk (Kd.R_elder' (zqR HO_6.out) (Kd.R_base ho0) hb); have n1_ := Aside0.mk (Kd.R_below (zqR HO681.out) hb); have n2_ := Aside0.mk (Kd.R_lower (Kd.R_new' ho0 (Kd.R_lt (zqR HO_6.out))) (below_size zq0)); have n3_ := Aside0.mk (below_step zq0 hb); clear HO_6; clear HO681; clear HB; have HO_6 := n0_; have HO681 := n1_; have HO685 := n2_; have HB := n3_; clear n0_ n1_ n2_ n3_; (try clear hb); (try clear hb2); (try clear hk); (try clear hi); (try clear ho0); obtain ⟨Ao30, co30, eo30⟩ := Kd.R_slice HO685.out; subst eo30) | (go_at_call 21; (with_reducible refine (laws_vStretches.calls kj6 _ _ t682 _ _ t669 true _ ?side1 ?side2 ?side3 ?side4 A23.out).mono ?_); (case side1 => repeat (first | exact (Kd.R_reads' HO685.out).2.2 | (with_reducible refine Kd.C_alloc ?_ _) | (with_reducible refine Kd.C_drewN ?_ _) | (with_reducible refine Kd.C_drew ?_))); (case side2 => exact (Kd.R_reads' HO685.out).2.1); (case side3 => repeat (first | exact (Kd.R_reads' HO_6.out).2.2 | (with_reducible refine Kd.C_alloc ?_ _) | (with_reducible refine Kd.C_drewN ?_ _) | (with_reducible refine Kd.C_drew ?_))); (case side4 => exact (Kd.R_reads' HO_6.out).2.1); rintro e w' ⟨rfl, ⟨nd, rfl⟩⟩; (try first | exact ⟨rfl, _, World.drewN_drewN _ _ _⟩ | exact ⟨rfl, _, Eq.trans (World.drewN_drewN _ _ _) (congrArg (World.drewN _) (Nat.add_assoc _ _ _))⟩))); try go_wp2_with (first | (go_at_call 22; (with_reducible refine (impl_FromTimeline.calls kj6 t665 t666 _ _ t669 t678 true _ ?side1 ?side2 A19.out).mono ?_); (case side1 => repeat (first | exact (Kd.R_reads' HO_6.out).2.2 | (with_reducible refine Kd.C_alloc ?_ _) | (with_reducible refine Kd.C_drewN ?_ _) | (with_reducible refine Kd.C_drew ?_))); (case side2 => exact (Kd.R_reads' HO_6.out).2.1); rintro e w27 ⟨v680, rfl, ho0, hb⟩; have n0_ := Aside0.mk (Kd.R_below (zqR HO_6.out) hb); have n1_ := Aside0.mk (Kd.R_lower ho0 (below_size zq0)); have n2_ := Aside0.mk (below_step zq0 hb); clear HO_6; clear HB; have HO_6 := n0_; have HO681 := n1_; have HB := n2_; clear n0_ n1_ n2_; (try clear hb); (try clear hb2); (try clear hk); (try clear hi); (try clear ho0); obtain ⟨Ao28, co28, eo28⟩ := Kd.R_slice HO681.out; subst eo28) | (go_at_call 19; (with_reducible refine (impl_TopicTimeline.calls kj6 _ _ t678 t665 t666 t682 true _ ?side1 ?side2 A21.out).mono ?_); (case side1 => repeat (first | exact (Kd.R_reads' HO681.out).2.2 | (with_reducible refine Kd.C_alloc ?_ _) | (with_reducible refine Kd.C_drewN ?_ _) | (with_reducible refine Kd.C_drew ?_))); (case side2 => exact (Kd.R_reads' HO681.out).2.1); rintro e w29 ⟨v684, rfl, ho0, hb⟩; have n0_ := Aside0.mk (Kd.R_elder' (zqR HO_6.out) (Kd.R_base ho0) hb); have n1_ := Aside0.mk (Kd.R_below (zqR HO681.out) hb); have n2_ := Aside0.mk (Kd.R_lower (Kd.R_new' ho0 (Kd.R_lt (zqR HO_6.out))) (below_size zq0)); have n3_ := Aside0.mk (below_step zq0 hb); clear HO_6; clear HO681; clear HB; have HO_6 := n0_; have HO681 := n1_; have HO685 := n2_; have HB := n3_; clear n0_ n1_ n2_ n3_; (try clear hb); (try clear hb2); (try clear hk); (try clear hi); (try clear ho0); obtain ⟨Ao30, co30, eo30⟩ := Kd.R_slice HO685.out; subst eo30) | (go_at_call 21; (with_reducible refine (laws_vStretches.calls kj6 _ _ t682 _ _ t669 true _ ?side1 ?side2 ?side3 ?side4 A23.out).mono ?_); (case side1 => repeat (first | exact (Kd.R_reads' HO685.out).2.2 | (with_reducible refine Kd.C_alloc ?_ _) | (with_reducible refine Kd.C_drewN ?_ _) | (with_reducible refine Kd.C_drew ?_))); (case side2 => exact (Kd.R_reads' HO685.out).2.1); (case side3 => repeat (first | exact (Kd.R_reads' HO_6.out).2.2 | (with_reducible refine Kd.C_alloc ?_ _) | (with_reducible refine Kd.C_drewN ?_ _) | (with_reducible refine Kd.C_drew ?_))); (case side4 => exact (Kd.R_reads' HO_6.out).2.1); rintro e w' ⟨rfl, ⟨nd, rfl⟩⟩; (try first | exact ⟨rfl, _, World.drewN_drewN _ _ _⟩ | exact ⟨rfl, _, Eq.trans (World.drewN_drewN _ _ _) (congrArg (World.drewN _) (Nat.add_assoc _ _ _))⟩))))
           go_meet
           case rel => exact ⟨_, H', ⟨by have := HJ6.out; first | omega | exact Nat.le_refl _⟩, ⟨by repeat (first | (with_reducible first | exact HB.out | apply below_alloc | apply pw_below_drewN | apply below_drew1) | exact HB.out)⟩⟩
          ·
           rw [if_neg c25] at H
           exact absurd H (by simp)
         ·
          replace c24 := Bool.eq_false_iff.mpr c24
          subst c24
          have H1 : (none) = some r := by rw [if_neg (show ¬ (false = true) by decide)] at H; exact H
          clear H
          have H := H1
          clear H1
          exact absurd H (by simp)
        ·
         replace c22 := Bool.eq_false_iff.mpr c22
         subst c22
         have H1 : (none) = some r := by rw [if_neg (show ¬ (false = true) by decide)] at H; exact H
         clear H
         have H := H1
         clear H1
         exact absurd H (by simp)
       ·
        replace c20 := Bool.eq_false_iff.mpr c20
        subst c20
        have H1 : (if (t669.length : Int) ≤ 12 then (none) else (laws_FnTimelines.j1 kj6 l0)) = some r := by rw [if_neg (show ¬ (false = true) by decide)] at H; exact H
        clear H
        have H := H1
        clear H1
        by_cases c31 : (t669.length : Int) ≤ 12
        ·
         rw [if_pos c31] at H
         exact absurd H (by simp)
        ·
         rw [if_neg c31] at H
         have c31b0 : decide ((t669.length : Int) ≤ 12) = false := decide_eq_false c31
         have c31b1 : decide (t669.length ≤ 12) = false := decide_eq_false (by omega)
         clear c31
         have H' := Aside0.mk H
         clear H
         obtain ⟨Ao32, co32, eo32⟩ := Kd.R_slice HO_6.out
         subst eo32
         go_wp2_with (first | (go_at_call 22; (with_reducible refine (impl_FromTimeline.calls kj6 t665 t666 _ _ t669 t678 false _ ?side1 ?side2 A19.out).mono ?_); (case side1 => repeat (first | exact (Kd.R_reads' HO_6.out).2.2 | (with_reducible refine Kd.C_alloc ?_ _) | (with_reducible refine Kd.C_drewN ?_ _) | (with_reducible refine Kd.C_drew ?_))); (case side2 => exact (Kd.R_reads' HO_6.out).2.1); rintro e w33 ⟨v680, rfl, ho0, hb⟩; have n0_ := Aside0.mk (Kd.R_below (zqR HO_6.out) hb); have n1_ := Aside0.mk (Kd.R_lower ho0 (below_size zq0)); have n2_ := Aside0.mk (below_step zq0 hb); clear HO_6; clear HB; have HO_6 := n0_; have HO681 := n1_; have HB := n2_; clear n0_ n1_ n2_; (try clear hb); (try clear hb2); (try clear hk); (try clear hi); (try clear ho0)))
         repeat (go_quiet (first | (go_at_call 22; (with_reducible refine (impl_FromTimeline.calls kj6 t665 t666 _ _ t669 t678 false _ ?side1 ?side2 A19.out).mono ?_); (case side1 => repeat (first | exact (Kd.R_reads' HO_6.out).2.2 | (with_reducible refine Kd.C_alloc ?_ _) | (with_reducible refine Kd.C_drewN ?_ _) | (with_reducible refine Kd.C_drew ?_))); (case side2 => exact (Kd.R_reads' HO_6.out).2.1); rintro e w33 ⟨v680, rfl, ho0, hb⟩; have n0_ := Aside0.mk (Kd.R_below (zqR HO_6.out) hb); have n1_ := Aside0.mk (Kd.R_lower ho0 (below_size zq0)); have n2_ := Aside0.mk (below_step zq0 hb); clear HO_6; clear HB; have HO_6 := n0_; have HO681 := n1_; have HB := n2_; clear n0_ n1_ n2_; (try clear hb); (try clear hb2); (try clear hk); (try clear hi); (try clear ho0))); try go_wp2_with (first | (go_at_call 22; (with_reducible refine (impl_FromTimeline.calls kj6 t665 t666 _ _ t669 t678 false _ ?side1 ?side2 A19.out).mono ?_); (case side1 => repeat (first | exact (Kd.R_reads' HO_6.out).2.2 | (with_reducible refine Kd.C_alloc ?_ _) | (with_reducible refine Kd.C_drewN ?_ _) | (with_reducible refine Kd.C_drew ?_))); (case side2 => exact (Kd.R_reads' HO_6.out).2.1); rintro e w33 ⟨v680, rfl, ho0, hb⟩; have n0_ := Aside0.mk (Kd.R_below (zqR HO_6.out) hb); have n1_ := Aside0.mk (Kd.R_lower ho0 (below_size zq0)); have n2_ := Aside0.mk (below_step zq0 hb); clear HO_6; clear HB; have HO_6 := n0_; have HO681 := n1_; have HB := n2_; clear n0_ n1_ n2_; (try clear hb); (try clear hb2); (try clear hk); (try clear hi); (try clear ho0))))
         go_meet
         case rel => exact ⟨_, H', ⟨by have := HJ6.out; first | omega | exact Nat.le_refl _⟩, ⟨by repeat (first | (with_reducible first | exact HB.out | apply below_alloc | apply pw_below_drewN | apply below_drew1) | exact HB.out)⟩⟩
      ·
       replace c18 := Bool.eq_false_iff.mpr c18
       subst c18
       have H1 : (laws_FnTimelines.j1 kj6 l0) = some r := by rw [if_neg (show ¬ (false = true) by decide)] at H; exact H
       clear H
       have H := H1
       clear H1
       have H' := Aside0.mk H
       clear H
       go_wp2
       repeat (go_quiet (fail); try go_wp2)
       go_meet
       case rel => exact ⟨_, H', ⟨by have := HJ6.out; first | omega | exact Nat.le_refl _⟩, ⟨by repeat (first | (with_reducible first | exact HB.out | apply below_alloc | apply pw_below_drewN | apply below_drew1) | exact HB.out)⟩⟩
     case rest =>
      clear HC17
      try clear c1
      try clear c2
      try clear p2
      try clear c3
      try clear c4
      try clear c12
      try clear c12b0
      try clear c12b1
      try clear c12b2
      try clear c16
      try clear c18
      try clear c20
      try clear c22
      try clear c24
      try clear c25
      try clear c25b0
      try clear c25b1
      try clear c25b2
      try clear c31
      try clear c31b0
      try clear c31b1
      try clear p2
      obtain ⟨kq, HA, HJ16, HB⟩ := hcut
      cases kq with
      | zero => exact absurd HA.out (by simp [laws_FnTimelines.j1])
      | succ kj16 =>
       have H := HA.out
       clear HA
       simp only [laws_FnTimelines.j1] at H
       replace H := Option.bind_eq_some_iff.mp H
       obtain ⟨⟨t687, t688, t689⟩, A340, H⟩ := H
       replace H : ((impl_AreaLevel.f kj16 t687 t688 t689).bind fun bt692 => ((spec_AreaLevel.f kj16 t687 t688 t689).bind fun bt694 => (if bt692.1 = bt694.1 then (laws_FnTimelines.j2 kj16 l0 t687 t688 t689 bt692.1 bt692.2 (bt692.2 != bt694.2)) else (none)))) = some r := H
       have A34 := Aside0.mk A340
       clear A340
       replace H := Option.bind_eq_some_iff.mp H
       obtain ⟨⟨t692, t693⟩, A350, H⟩ := H
       replace H : ((spec_AreaLevel.f kj16 t687 t688 t689).bind fun bt694 => (if t692 = bt694.1 then (laws_FnTimelines.j2 kj16 l0 t687 t688 t689 t692 t693 (t693 != bt694.2)) else (none))) = some r := H
       have A35 := Aside0.mk A350
       clear A350
       replace H := Option.bind_eq_some_iff.mp H
       obtain ⟨⟨t694, t695⟩, A360, H⟩ := H
       replace H : (if t692 = t694 then (laws_FnTimelines.j2 kj16 l0 t687 t688 t689 t692 t693 (t693 != t695)) else (none)) = some r := H
       have A36 := Aside0.mk A360
       clear A360
       have HC37 := Aside0.mk H
       clear H
       go_upto_region 19 with (first | (go_at_call 23; (with_reducible refine (spec_DrawAreaLevel.calls kj16 _ _ l0 t687 t688 t689 _ ?side1 ?side2 A34.out).mono ?_); (case side1 => repeat (first | exact (Kd.C_below HR0.out HB.out) | (with_reducible refine Kd.C_alloc ?_ _) | (with_reducible refine Kd.C_drewN ?_ _) | (with_reducible refine Kd.C_drew ?_))); (case side2 => exact HC0.out); rintro e w38 ⟨v690, rfl, ho0, hb⟩; have n0_ := Aside0.mk (Kd.R_lower ho0 (below_size zq0)); have n1_ := Aside0.mk (below_step zq0 hb); clear HB; have HO691 := n0_; have HB := n1_; clear n0_ n1_; (try clear hb); (try clear hb2); (try clear hk); (try clear hi); (try clear ho0); obtain ⟨Ao39, co39, eo39⟩ := Kd.R_slice HO691.out; subst eo39) | (go_at_call 24; (with_reducible refine (impl_AreaLevel.calls kj16 _ _ t687 t688 t689 t692 t693 _ ?side1 ?side2 A35.out).mono ?_); (case side1 => repeat (first | exact (Kd.R_reads' HO691.out).2.2 | (with_reducible refine Kd.C_alloc ?_ _) | (with_reducible refine Kd.C_drewN ?_ _) | (with_reducible refine Kd.C_drew ?_))); (case side2 => exact (Kd.R_reads' HO691.out).2.1); rintro e w40 ⟨rfl, hb⟩; have n0_ := Aside0.mk (Kd.R_below (zqR HO691.out) hb); have n1_ := Aside0.mk (below_step zq0 hb); clear HO691; clear HB; have HO691 := n0_; have HB := n1_; clear n0_ n1_; (try clear hb); (try clear hb2); (try clear hk); (try clear hi)) | (go_at_call 25; (with_reducible refine (spec_AreaLevel.calls kj16 _ _ t687 t688 t689 t694 t695 _ ?side1 ?side2 A36.out).mono ?_); (case side1 => repeat (first | exact (Kd.R_reads' HO691.out).2.2 | (with_reducible refine Kd.C_alloc ?_ _) | (with_reducible refine Kd.C_drewN ?_ _) | (with_reducible refine Kd.C_drew ?_))); (case side2 => exact (Kd.R_reads' HO691.out).2.1); rintro e w41 ⟨rfl, hb⟩; have n0_ := Aside0.mk (Kd.R_below (zqR HO691.out) hb); have n1_ := Aside0.mk (below_step zq0 hb); clear HO691; clear HB; have HO691 := n0_; have HB := n1_; clear n0_ n1_; (try clear hb); (try clear hb2); (try clear hk); (try clear hi)))
       repeat (go_quiet (first | (go_at_call 23; (with_reducible refine (spec_DrawAreaLevel.calls kj16 _ _ l0 t687 t688 t689 _ ?side1 ?side2 A34.out).mono ?_); (case side1 => repeat (first | exact (Kd.C_below HR0.out HB.out) | (with_reducible refine Kd.C_alloc ?_ _) | (with_reducible refine Kd.C_drewN ?_ _) | (with_reducible refine Kd.C_drew ?_))); (case side2 => exact HC0.out); rintro e w38 ⟨v690, rfl, ho0, hb⟩; have n0_ := Aside0.mk (Kd.R_lower ho0 (below_size zq0)); have n1_ := Aside0.mk (below_step zq0 hb); clear HB; have HO691 := n0_; have HB := n1_; clear n0_ n1_; (try clear hb); (try clear hb2); (try clear hk); (try clear hi); (try clear ho0); obtain ⟨Ao39, co39, eo39⟩ := Kd.R_slice HO691.out; subst eo39) | (go_at_call 24; (with_reducible refine (impl_AreaLevel.calls kj16 _ _ t687 t688 t689 t692 t693 _ ?side1 ?side2 A35.out).mono ?_); (case side1 => repeat (first | exact (Kd.R_reads' HO691.out).2.2 | (with_reducible refine Kd.C_alloc ?_ _) | (with_reducible refine Kd.C_drewN ?_ _) | (with_reducible refine Kd.C_drew ?_))); (case side2 => exact (Kd.R_reads' HO691.out).2.1); rintro e w40 ⟨rfl, hb⟩; have n0_ := Aside0.mk (Kd.R_below (zqR HO691.out) hb); have n1_ := Aside0.mk (below_step zq0 hb); clear HO691; clear HB; have HO691 := n0_; have HB := n1_; clear n0_ n1_; (try clear hb); (try clear hb2); (try clear hk); (try clear hi)) | (go_at_call 25; (with_reducible refine (spec_AreaLevel.calls kj16 _ _ t687 t688 t689 t694 t695 _ ?side1 ?side2 A36.out).mono ?_); (case side1 => repeat (first | exact (Kd.R_reads' HO691.out).2.2 | (with_reducible refine Kd.C_alloc ?_ _) | (with_reducible refine Kd.C_drewN ?_ _) | (with_reducible refine Kd.C_drew ?_))); (case side2 => exact (Kd.R_reads' HO691.out).2.1); rintro e w41 ⟨rfl, hb⟩; have n0_ := Aside0.mk (Kd.R_below (zqR HO691.out) hb); have n1_ := Aside0.mk (below_step zq0 hb); clear HO691; clear HB; have HO691 := n0_; have HB := n1_; clear n0_ n1_; (try clear hb); (try clear hb2); (try clear hk); (try clear hi))); go_upto_region 19 with (first | (go_at_call 23; (with_reducible refine (spec_DrawAreaLevel.calls kj16 _ _ l0 t687 t688 t689 _ ?side1 ?side2 A34.out).mono ?_); (case side1 => repeat (first | exact (Kd.C_below HR0.out HB.out) | (with_reducible refine Kd.C_alloc ?_ _) | (with_reducible refine Kd.C_drewN ?_ _) | (with_reducible refine Kd.C_drew ?_))); (case side2 => exact HC0.out); rintro e w38 ⟨v690, rfl, ho0, hb⟩; have n0_ := Aside0.mk (Kd.R_lower ho0 (below_size zq0)); have n1_ := Aside0.mk (below_step zq0 hb); clear HB; have HO691 := n0_; have HB := n1_; clear n0_ n1_; (try clear hb); (try clear hb2); (try clear hk); (try clear hi); (try clear ho0); obtain ⟨Ao39, co39, eo39⟩ := Kd.R_slice HO691.out; subst eo39) | (go_at_call 24; (with_reducible refine (impl_AreaLevel.calls kj16 _ _ t687 t688 t689 t692 t693 _ ?side1 ?side2 A35.out).mono ?_); (case side1 => repeat (first | exact (Kd.R_reads' HO691.out).2.2 | (with_reducible refine Kd.C_alloc ?_ _) | (with_reducible refine Kd.C_drewN ?_ _) | (with_reducible refine Kd.C_drew ?_))); (case side2 => exact (Kd.R_reads' HO691.out).2.1); rintro e w40 ⟨rfl, hb⟩; have n0_ := Aside0.mk (Kd.R_below (zqR HO691.out) hb); have n1_ := Aside0.mk (below_step zq0 hb); clear HO691; clear HB; have HO691 := n0_; have HB := n1_; clear n0_ n1_; (try clear hb); (try clear hb2); (try clear hk); (try clear hi)) | (go_at_call 25; (with_reducible refine (spec_AreaLevel.calls kj16 _ _ t687 t688 t689 t694 t695 _ ?side1 ?side2 A36.out).mono ?_); (case side1 => repeat (first | exact (Kd.R_reads' HO691.out).2.2 | (with_reducible refine Kd.C_alloc ?_ _) | (with_reducible refine Kd.C_drewN ?_ _) | (with_reducible refine Kd.C_drew ?_))); (case side2 => exact (Kd.R_reads' HO691.out).2.1); rintro e w41 ⟨rfl, hb⟩; have n0_ := Aside0.mk (Kd.R_below (zqR HO691.out) hb); have n1_ := Aside0.mk (below_step zq0 hb); clear HO691; clear HB; have HO691 := n0_; have HB := n1_; clear n0_ n1_; (try clear hb); (try clear hb2); (try clear hk); (try clear hi))))
       (try simp only [Act.put, List.setIfInBounds_toArray, List.set_cons_zero, List.set_cons_succ])
       go_cut [127] (fun v127 wc => ∃ (kq : Nat) (x127_36 : Bool), v127 = .bool x127_36 ∧ Aside0 (laws_FnTimelines.j2 kq l0 t687 t688 t689 t692 t693 x127_36 = some r) ∧ Aside0 (kq ≤ kj16) ∧ Aside0 (Kd.R k31 31 wc w.heap.size (fun _ => True) (.slice Ao39 t687.length co39) t687) ∧ Aside0 (Below w.heap.size w wc))
       case first => as_aux_lemma =>
        have H := HC37.out
        clear HC37
        by_cases c42 : t692 = t694
        ·
         rw [if_pos c42] at H
         have c42b0 : (t692 == t694) = true := beq_iff_eq.mpr c42
         have c42b1 : (t692 != t694) = false := bne_eq_false_iff_eq.mpr c42
         clear c42
         (first | rw [c42b0] | (simp only [i64_w, i32_w]; rw [c42b0]) | rw [c42b1] | skip)
         have H' := Aside0.mk H
         clear H
         go_wp2
         repeat (go_quiet (fail); try go_wp2)
         go_meet
         case rel => exact ⟨_, ((t693 != t695)), (by first | rfl | (simp; done) | (simp [*]; done)), H', ⟨by have := HJ6.out; have := HJ16.out; first | omega | exact Nat.le_refl _⟩, ⟨by (with_reducible repeat (first | apply Kd.R_alloc | apply Kd.R_drewN | apply Kd.R_drew)); exact HO691.out⟩, ⟨by repeat (first | (with_reducible first | exact HB.out | apply below_alloc | apply pw_below_drewN | apply below_drew1) | exact HB.out)⟩⟩
        ·
         rw [if_neg c42] at H
         exact absurd H (by simp)
       case rest =>
        clear HC37
        try clear c1
        try clear c2
        try clear p2
        try clear c3
        try clear c4
        try clear c12
        try clear c12b0
        try clear c12b1
        try clear c12b2
        try clear c16
        try clear c18
        try clear c20
        try clear c22
        try clear c24
        try clear c25
        try clear c25b0
        try clear c25b1
        try clear c25b2
        try clear c31
        try clear c31b0
        try clear c31b1
        try clear c42
        try clear c42b0
        try clear c42b1
        try clear p2
        obtain ⟨kq, x127_36, rfl, HA, HJ36, HO_14, HB⟩ := hcut
        cases kq with
        | zero => exact absurd HA.out (by simp [laws_FnTimelines.j2])
        | succ kj36 =>
         have H := HA.out
         clear HA
         simp only [laws_FnTimelines.j2] at H
         by_cases c43 : x127_36 = true
         ·
          subst c43
          have H1 : (none) = some r := by rw [if_pos rfl] at H; exact H
          clear H
          have H := H1
          clear H1
          exact absurd H (by simp)
         ·
          replace c43 := Bool.eq_false_iff.mpr c43
          subst c43
          have H1 : (laws_FnTimelines.l0 kj36 l0 t687 t688 t689 t692 t693 0 1) = some r := by rw [if_neg (show ¬ (false = true) by decide)] at H; exact H
          clear H
          have H := H1
          clear H1
          have H' := Aside0.mk H
          clear H
          go_wp2
          repeat (go_quiet (fail); try go_wp2)
          go_loopg [21, 22] kj36 (fun kq v21 v22 w' => ∃ (x21_4 : Int) (x22_4 : Int), v21 = .int .i64 x21_4 ∧ v22 = .int .i64 x22_4 ∧ Aside0 (laws_FnTimelines.l0 kq l0 t687 t688 t689 t692 t693 x21_4 x22_4 = some r) ∧ Aside0 (kq ≤ kj36) ∧ Aside0 (Kd.R k31 31 w' w.heap.size (fun _ => True) (.slice Ao39 t687.length co39) t687) ∧ Aside0 (Below w.heap.size w w'))
          case atStart => exact ⟨(0), (1), (by first | rfl | (simp; done) | (simp [*]; done)), (by first | rfl | (simp; done) | (simp [*]; done)), H', ⟨Nat.le_refl _⟩, ⟨by (with_reducible repeat (first | apply Kd.R_alloc | apply Kd.R_drewN | apply Kd.R_drew)); exact HO_14.out⟩, ⟨by repeat (first | (with_reducible first | exact HB.out | apply below_alloc | apply pw_below_drewN | apply below_drew1) | exact HB.out)⟩⟩
          case round =>
           clear H'
           try clear c1
           try clear c2
           try clear p2
           try clear c3
           try clear c4
           try clear c12
           try clear c12b0
           try clear c12b1
           try clear c12b2
           try clear c16
           try clear c18
           try clear c20
           try clear c22
           try clear c24
           try clear c25
           try clear c25b0
           try clear c25b1
           try clear c25b2
           try clear c31
           try clear c31b0
           try clear c31b1
           try clear c42
           try clear c42b0
           try clear c42b1
           try clear c43
           try clear p2
           obtain ⟨x21_4, x22_4, rfl, rfl, HA, HK4, HO_14, HB⟩ := hrel
           cases gk with
           | zero => exact absurd HA.out (by simp [laws_FnTimelines.l0])
           | succ k4 =>
            have H := HA.out
            clear HA
            simp only [laws_FnTimelines.l0] at H
            have HC44 := Aside0.mk H
            clear H
            go_upto_region 23 with (fail)
            repeat (go_quiet (fail); go_upto_region 23 with (fail))
            go_cut [132] (fun v132 wc => ∃ (kq : Nat) (x132_43 : Bool), v132 = .bool x132_43 ∧ Aside0 (laws_FnTimelines.j4 kq l0 t687 t688 t689 t692 t693 x21_4 x22_4 x132_43 = some r) ∧ Aside0 (kq ≤ k4) ∧ Aside0 (Kd.R k31 31 wc w.heap.size (fun _ => True) (.slice Ao39 t687.length co39) t687) ∧ Aside0 (Below w.heap.size w wc))
            case first => as_aux_lemma =>
             have H := HC44.out
             clear HC44
             by_cases c45 : x22_4 ≤ 5
             ·
              rw [if_pos c45] at H
              have c45b0 : decide (x22_4 ≤ 5) = true := decide_eq_true c45
              clear c45
              (first | rw [c45b0] | (simp only [i64_w, i32_w]; rw [c45b0]) | skip)
              have H' := Aside0.mk H
              clear H
              go_wp2
              repeat (go_quiet (fail); try go_wp2)
              go_meet
              case rel => exact ⟨_, (t693), (by first | rfl | (simp; done) | (simp [*]; done)), H', ⟨by have := HJ6.out; have := HJ16.out; have := HJ36.out; have := HK4.out; first | omega | exact Nat.le_refl _⟩, ⟨by (with_reducible repeat (first | apply Kd.R_alloc | apply Kd.R_drewN | apply Kd.R_drew)); exact HO_14.out⟩, ⟨by repeat (first | (with_reducible first | exact HB.out | apply below_alloc | apply pw_below_drewN | apply below_drew1) | exact HB.out)⟩⟩
             ·
              rw [if_neg c45] at H
              have c45b0 : decide (x22_4 ≤ 5) = false := decide_eq_false c45
              clear c45
              (first | rw [c45b0] | (simp only [i64_w, i32_w]; rw [c45b0]) | skip)
              have H' := Aside0.mk H
              clear H
              go_wp2
              repeat (go_quiet (fail); try go_wp2)
              go_meet
              case rel => exact ⟨_, (false), (by first | rfl | (simp; done) | (simp [*]; done)), H', ⟨by have := HJ6.out; have := HJ16.out; have := HJ36.out; have := HK4.out; first | omega | exact Nat.le_refl _⟩, ⟨by (with_reducible repeat (first | apply Kd.R_alloc | apply Kd.R_drewN | apply Kd.R_drew)); exact HO_14.out⟩, ⟨by repeat (first | (with_reducible first | exact HB.out | apply below_alloc | apply pw_below_drewN | apply below_drew1) | exact HB.out)⟩⟩
            case rest =>
             clear HC44
             try clear c1
             try clear c2
             try clear p2
             try clear c3
             try clear c4
             try clear c12
             try clear c12b0
             try clear c12b1
             try clear c12b2
             try clear c16
             try clear c18
             try clear c20
             try clear c22
             try clear c24
             try clear c25
             try clear c25b0
             try clear c25b1
             try clear c25b2
             try clear c31
             try clear c31b0
             try clear c31b1
             try clear c42
             try clear c42b0
             try clear c42b1
             try clear c43
             try clear c45
             try clear c45b0
             try clear p2
             obtain ⟨kq, x132_43, rfl, HA, HJ43, HO_14, HB⟩ := hcut
             cases kq with
             | zero => exact absurd HA.out (by simp [laws_FnTimelines.j4])
             | succ kj43 =>
              have H := HA.out
              clear HA
              simp only [laws_FnTimelines.j4] at H
              by_cases c46 : x132_43 = true
              ·
               subst c46
               have H1 : ((impl_TopicLevel.f kj43 t687 x22_4 t688 t689).bind fun bt696 => (if bt696.2 = true then (if bt696.1 > x21_4 then (laws_FnTimelines.l0 kj43 l0 t687 t688 t689 t692 t693 bt696.1 (wrap64 (x22_4 + 1))) else (laws_FnTimelines.l0 kj43 l0 t687 t688 t689 t692 t693 x21_4 (wrap64 (x22_4 + 1)))) else (none))) = some r := by rw [if_pos rfl] at H; exact H
               clear H
               have H := H1
               clear H1
               replace H := Option.bind_eq_some_iff.mp H
               obtain ⟨⟨t696, t697⟩, A470, H⟩ := H
               replace H : (if t697 = true then (if t696 > x21_4 then (laws_FnTimelines.l0 kj43 l0 t687 t688 t689 t692 t693 t696 (wrap64 (x22_4 + 1))) else (laws_FnTimelines.l0 kj43 l0 t687 t688 t689 t692 t693 x21_4 (wrap64 (x22_4 + 1)))) else (none)) = some r := H
               have A47 := Aside0.mk A470
               clear A470
               by_cases c48 : t697 = true
               ·
                subst c48
                have H1 : (if t696 > x21_4 then (laws_FnTimelines.l0 kj43 l0 t687 t688 t689 t692 t693 t696 (wrap64 (x22_4 + 1))) else (laws_FnTimelines.l0 kj43 l0 t687 t688 t689 t692 t693 x21_4 (wrap64 (x22_4 + 1)))) = some r := by rw [if_pos rfl] at H; exact H
                clear H
                have H := H1
                clear H1
                by_cases c49 : t696 > x21_4
                ·
                 rw [if_pos c49] at H
                 have c49b0 : decide (x21_4 < t696) = true := decide_eq_true c49
                 clear c49
                 have H' := Aside0.mk H
                 clear H
                 go_wp2_with (first | (go_at_call 13; (with_reducible refine (impl_TopicLevel.calls kj43 _ _ t687 x22_4 t688 t689 t696 true _ ?side1 ?side2 A47.out).mono ?_); (case side1 => repeat (first | exact (Kd.R_reads' HO_14.out).2.2 | (with_reducible refine Kd.C_alloc ?_ _) | (with_reducible refine Kd.C_drewN ?_ _) | (with_reducible refine Kd.C_drew ?_))); (case side2 => exact (Kd.R_reads' HO_14.out).2.1); rintro e w50 ⟨rfl, hb⟩; have n0_ := Aside0.mk (Kd.R_below (zqR HO_14.out) hb); have n1_ := Aside0.mk (below_step zq0 hb); clear HO_14; clear HB; have HO_14 := n0_; have HB := n1_; clear n0_ n1_; (try clear hb); (try clear hb2); (try clear hk); (try clear hi)))
                 repeat (go_quiet (first | (go_at_call 13; (with_reducible refine (impl_TopicLevel.calls kj43 _ _ t687 x22_4 t688 t689 t696 true _ ?side1 ?side2 A47.out).mono ?_); (case side1 => repeat (first | exact (Kd.R_reads' HO_14.out).2.2 | (with_reducible refine Kd.C_alloc ?_ _) | (with_reducible refine Kd.C_drewN ?_ _) | (with_reducible refine Kd.C_drew ?_))); (case side2 => exact (Kd.R_reads' HO_14.out).2.1); rintro e w50 ⟨rfl, hb⟩; have n0_ := Aside0.mk (Kd.R_below (zqR HO_14.out) hb); have n1_ := Aside0.mk (below_step zq0 hb); clear HO_14; clear HB; have HO_14 := n0_; have HB := n1_; clear n0_ n1_; (try clear hb); (try clear hb2); (try clear hk); (try clear hi))); try go_wp2_with (first | (go_at_call 13; (with_reducible refine (impl_TopicLevel.calls kj43 _ _ t687 x22_4 t688 t689 t696 true _ ?side1 ?side2 A47.out).mono ?_); (case side1 => repeat (first | exact (Kd.R_reads' HO_14.out).2.2 | (with_reducible refine Kd.C_alloc ?_ _) | (with_reducible refine Kd.C_drewN ?_ _) | (with_reducible refine Kd.C_drew ?_))); (case side2 => exact (Kd.R_reads' HO_14.out).2.1); rintro e w50 ⟨rfl, hb⟩; have n0_ := Aside0.mk (Kd.R_below (zqR HO_14.out) hb); have n1_ := Aside0.mk (below_step zq0 hb); clear HO_14; clear HB; have HO_14 := n0_; have HB := n1_; clear n0_ n1_; (try clear hb); (try clear hb2); (try clear hk); (try clear hi))))
                 go_roundg kj43
                 case measure => have := HJ6.out; have := HJ16.out; have := HJ36.out; have := HK4.out; have := HJ43.out; omega
                 case rel => exact ⟨(t696), (wrap64 (x22_4 + 1)), (by first | rfl | (simp; done) | (simp [*]; done)), (by first | rfl | (simp; done) | (simp [*]; done)), H', ⟨by have := HJ6.out; have := HJ16.out; have := HJ36.out; have := HK4.out; have := HJ43.out; omega⟩, ⟨by (with_reducible repeat (first | apply Kd.R_alloc | apply Kd.R_drewN | apply Kd.R_drew)); exact HO_14.out⟩, ⟨by repeat (first | (with_reducible first | exact HB.out | apply below_alloc | apply pw_below_drewN | apply below_drew1) | exact HB.out)⟩⟩
                ·
                 rw [if_neg c49] at H
                 have c49b0 : decide (x21_4 < t696) = false := decide_eq_false c49
                 clear c49
                 have H' := Aside0.mk H
                 clear H
                 go_wp2_with (first | (go_at_call 13; (with_reducible refine (impl_TopicLevel.calls kj43 _ _ t687 x22_4 t688 t689 t696 true _ ?side1 ?side2 A47.out).mono ?_); (case side1 => repeat (first | exact (Kd.R_reads' HO_14.out).2.2 | (with_reducible refine Kd.C_alloc ?_ _) | (with_reducible refine Kd.C_drewN ?_ _) | (with_reducible refine Kd.C_drew ?_))); (case side2 => exact (Kd.R_reads' HO_14.out).2.1); rintro e w51 ⟨rfl, hb⟩; have n0_ := Aside0.mk (Kd.R_below (zqR HO_14.out) hb); have n1_ := Aside0.mk (below_step zq0 hb); clear HO_14; clear HB; have HO_14 := n0_; have HB := n1_; clear n0_ n1_; (try clear hb); (try clear hb2); (try clear hk); (try clear hi)))
                 repeat (go_quiet (first | (go_at_call 13; (with_reducible refine (impl_TopicLevel.calls kj43 _ _ t687 x22_4 t688 t689 t696 true _ ?side1 ?side2 A47.out).mono ?_); (case side1 => repeat (first | exact (Kd.R_reads' HO_14.out).2.2 | (with_reducible refine Kd.C_alloc ?_ _) | (with_reducible refine Kd.C_drewN ?_ _) | (with_reducible refine Kd.C_drew ?_))); (case side2 => exact (Kd.R_reads' HO_14.out).2.1); rintro e w51 ⟨rfl, hb⟩; have n0_ := Aside0.mk (Kd.R_below (zqR HO_14.out) hb); have n1_ := Aside0.mk (below_step zq0 hb); clear HO_14; clear HB; have HO_14 := n0_; have HB := n1_; clear n0_ n1_; (try clear hb); (try clear hb2); (try clear hk); (try clear hi))); try go_wp2_with (first | (go_at_call 13; (with_reducible refine (impl_TopicLevel.calls kj43 _ _ t687 x22_4 t688 t689 t696 true _ ?side1 ?side2 A47.out).mono ?_); (case side1 => repeat (first | exact (Kd.R_reads' HO_14.out).2.2 | (with_reducible refine Kd.C_alloc ?_ _) | (with_reducible refine Kd.C_drewN ?_ _) | (with_reducible refine Kd.C_drew ?_))); (case side2 => exact (Kd.R_reads' HO_14.out).2.1); rintro e w51 ⟨rfl, hb⟩; have n0_ := Aside0.mk (Kd.R_below (zqR HO_14.out) hb); have n1_ := Aside0.mk (below_step zq0 hb); clear HO_14; clear HB; have HO_14 := n0_; have HB := n1_; clear n0_ n1_; (try clear hb); (try clear hb2); (try clear hk); (try clear hi))))
                 go_roundg kj43
                 case measure => have := HJ6.out; have := HJ16.out; have := HJ36.out; have := HK4.out; have := HJ43.out; omega
                 case rel => exact ⟨(x21_4), (wrap64 (x22_4 + 1)), (by first | rfl | (simp; done) | (simp [*]; done)), (by first | rfl | (simp; done) | (simp [*]; done)), H', ⟨by have := HJ6.out; have := HJ16.out; have := HJ36.out; have := HK4.out; have := HJ43.out; omega⟩, ⟨by (with_reducible repeat (first | apply Kd.R_alloc | apply Kd.R_drewN | apply Kd.R_drew)); exact HO_14.out⟩, ⟨by repeat (first | (with_reducible first | exact HB.out | apply below_alloc | apply pw_below_drewN | apply below_drew1) | exact HB.out)⟩⟩
               ·
                replace c48 := Bool.eq_false_iff.mpr c48
                subst c48
                have H1 : (none) = some r := by rw [if_neg (show ¬ (false = true) by decide)] at H; exact H
                clear H
                have H := H1
                clear H1
                exact absurd H (by simp)
              ·
               replace c46 := Bool.eq_false_iff.mpr c46
               subst c46
               have H1 : (if t693 = true then (laws_FnTimelines.j5 kj43 l0 (x21_4 != t692)) else (laws_FnTimelines.j5 kj43 l0 false)) = some r := by rw [if_neg (show ¬ (false = true) by decide)] at H; exact H
               clear H
               have H := H1
               clear H1
               have HC52 := Aside0.mk H
               clear H
               go_upto_region 30 with (fail)
               repeat (go_quiet (fail); go_upto_region 30 with (fail))
               go_cut [154] (fun v154 wc => ∃ (kq : Nat) (x154_51 : Bool), v154 = .bool x154_51 ∧ Aside0 (laws_FnTimelines.j5 kq l0 x154_51 = some r) ∧ Aside0 (kq ≤ kj43) ∧ Aside0 (Below w.heap.size w wc))
               case first => as_aux_lemma =>
                have H := HC52.out
                clear HC52
                by_cases c53 : t693 = true
                ·
                 subst c53
                 have H1 : (laws_FnTimelines.j5 kj43 l0 (x21_4 != t692)) = some r := by rw [if_pos rfl] at H; exact H
                 clear H
                 have H := H1
                 clear H1
                 have H' := Aside0.mk H
                 clear H
                 go_wp2
                 repeat (go_quiet (fail); try go_wp2)
                 go_meet
                 case rel => exact ⟨_, ((x21_4 != t692)), (by first | rfl | (simp; done) | (simp [*]; done)), H', ⟨by have := HJ6.out; have := HJ16.out; have := HJ36.out; have := HK4.out; have := HJ43.out; first | omega | exact Nat.le_refl _⟩, ⟨by repeat (first | (with_reducible first | exact HB.out | apply below_alloc | apply pw_below_drewN | apply below_drew1) | exact HB.out)⟩⟩
                ·
                 replace c53 := Bool.eq_false_iff.mpr c53
                 subst c53
                 have H1 : (laws_FnTimelines.j5 kj43 l0 false) = some r := by rw [if_neg (show ¬ (false = true) by decide)] at H; exact H
                 clear H
                 have H := H1
                 clear H1
                 have H' := Aside0.mk H
                 clear H
                 go_wp2
                 repeat (go_quiet (fail); try go_wp2)
                 go_meet
                 case rel => exact ⟨_, (false), (by first | rfl | (simp; done) | (simp [*]; done)), H', ⟨by have := HJ6.out; have := HJ16.out; have := HJ36.out; have := HK4.out; have := HJ43.out; first | omega | exact Nat.le_refl _⟩, ⟨by repeat (first | (with_reducible first | exact HB.out | apply below_alloc | apply pw_below_drewN | apply below_drew1) | exact HB.out)⟩⟩
               case rest =>
                clear HC52
                try clear c1
                try clear c2
                try clear p2
                try clear c3
                try clear c4
                try clear c5
                try clear p6
                try clear c12
                try clear c12b0
                try clear c12b1
                try clear c12b2
                try clear c16
                try clear c18
                try clear c20
                try clear c22
                try clear c24
                try clear c25
                try clear c25b0
                try clear c25b1
                try clear c25b2
                try clear c31
                try clear c31b0
                try clear c31b1
                try clear c42
                try clear c42b0
                try clear c42b1
                try clear c43
                try clear c45
                try clear c45b0
                try clear c46
                try clear c48
                try clear c49
                try clear c49b0
                try clear c53
                try clear p2
                obtain ⟨kq, x154_51, rfl, HA, HJ51, HB⟩ := hcut
                cases kq with
                | zero => exact absurd HA.out (by simp [laws_FnTimelines.j5])
                | succ kj51 =>
                 have H := HA.out
                 clear HA
                 simp only [laws_FnTimelines.j5] at H
                 by_cases c54 : x154_51 = true
                 ·
                  subst c54
                  have H1 : (none) = some r := by rw [if_pos rfl] at H; exact H
                  clear H
                  have H := H1
                  clear H1
                  exact absurd H (by simp)
                 ·
                  replace c54 := Bool.eq_false_iff.mpr c54
                  subst c54
                  have H1 : ((spec_DrawAreaTimeline.f kj51 l0).bind fun bt698 => ((impl_AreaTimeline.f kj51 bt698.1 bt698.2).bind fun bt702 => ((spec_AreaTimeline.f kj51 bt698.1 bt698.2).bind fun bt706 => (if (bt702.2 != bt706.2) = true then (none) else ((laws_vStretches.f kj51 bt702.1 bt706.1).bind fun t710 => (laws_FnTimelines.j6 kj51 bt698.1 bt698.2 bt702.1 bt702.2 (!t710))))))) = some r := by rw [if_neg (show ¬ (false = true) by decide)] at H; exact H
                  clear H
                  have H := H1
                  clear H1
                  replace H := Option.bind_eq_some_iff.mp H
                  obtain ⟨⟨t698, t699⟩, A550, H⟩ := H
                  replace H : ((impl_AreaTimeline.f kj51 t698 t699).bind fun bt702 => ((spec_AreaTimeline.f kj51 t698 t699).bind fun bt706 => (if (bt702.2 != bt706.2) = true then (none) else ((laws_vStretches.f kj51 bt702.1 bt706.1).bind fun t710 => (laws_FnTimelines.j6 kj51 t698 t699 bt702.1 bt702.2 (!t710)))))) = some r := H
                  have A55 := Aside0.mk A550
                  clear A550
                  replace H := Option.bind_eq_some_iff.mp H
                  obtain ⟨⟨t702, t703⟩, A560, H⟩ := H
                  replace H : ((spec_AreaTimeline.f kj51 t698 t699).bind fun bt706 => (if (t703 != bt706.2) = true then (none) else ((laws_vStretches.f kj51 t702 bt706.1).bind fun t710 => (laws_FnTimelines.j6 kj51 t698 t699 t702 t703 (!t710))))) = some r := H
                  have A56 := Aside0.mk A560
                  clear A560
                  replace H := Option.bind_eq_some_iff.mp H
                  obtain ⟨⟨t706, t707⟩, A570, H⟩ := H
                  replace H : (if (t703 != t707) = true then (none) else ((laws_vStretches.f kj51 t702 t706).bind fun t710 => (laws_FnTimelines.j6 kj51 t698 t699 t702 t703 (!t710)))) = some r := H
                  have A57 := Aside0.mk A570
                  clear A570
                  have HC58 := Aside0.mk H
                  clear H
                  go_upto_region 35 with (first | (go_at_call 26; (with_reducible refine (spec_DrawAreaTimeline.calls kj51 _ _ l0 t698 t699 _ ?side1 ?side2 A55.out).mono ?_); (case side1 => repeat (first | exact (Kd.C_below HR0.out HB.out) | (with_reducible refine Kd.C_alloc ?_ _) | (with_reducible refine Kd.C_drewN ?_ _) | (with_reducible refine Kd.C_drew ?_))); (case side2 => exact HC0.out); rintro e w59 ⟨v700, rfl, ho0, hb⟩; have n0_ := Aside0.mk (Kd.R_lower ho0 (below_size zq0)); have n1_ := Aside0.mk (below_step zq0 hb); clear HB; have HO701 := n0_; have HB := n1_; clear n0_ n1_; (try clear hb); (try clear hb2); (try clear hk); (try clear hi); (try clear ho0); obtain ⟨Ao60, co60, eo60⟩ := Kd.R_slice HO701.out; subst eo60) | (go_at_call 27; (with_reducible refine (impl_AreaTimeline.calls kj51 _ _ t698 t699 t702 t703 _ ?side1 ?side2 A56.out).mono ?_); (case side1 => repeat (first | exact (Kd.R_reads' HO701.out).2.2 | (with_reducible refine Kd.C_alloc ?_ _) | (with_reducible refine Kd.C_drewN ?_ _) | (with_reducible refine Kd.C_drew ?_))); (case side2 => exact (Kd.R_reads' HO701.out).2.1); rintro e w61 ⟨v704, rfl, ho0, hb⟩; have n0_ := Aside0.mk (Kd.R_below (zqR HO701.out) hb); have n1_ := Aside0.mk (Kd.R_lower ho0 (below_size zq0)); have n2_ := Aside0.mk (below_step zq0 hb); clear HO701; clear HB; have HO701 := n0_; have HO705 := n1_; have HB := n2_; clear n0_ n1_ n2_; (try clear hb); (try clear hb2); (try clear hk); (try clear hi); (try clear ho0)) | (go_at_call 28; (with_reducible refine (spec_AreaTimeline.calls kj51 _ _ t698 t699 t706 t707 _ ?side1 ?side2 A57.out).mono ?_); (case side1 => repeat (first | exact (Kd.R_reads' HO701.out).2.2 | (with_reducible refine Kd.C_alloc ?_ _) | (with_reducible refine Kd.C_drewN ?_ _) | (with_reducible refine Kd.C_drew ?_))); (case side2 => exact (Kd.R_reads' HO701.out).2.1); rintro e w62 ⟨v708, rfl, ho0, hb⟩; have n0_ := Aside0.mk (Kd.R_below (zqR HO701.out) hb); have n1_ := Aside0.mk (Kd.R_elder' (zqR HO705.out) (Kd.R_base ho0) hb); have n2_ := Aside0.mk (Kd.R_lower (Kd.R_new' ho0 (Kd.R_lt (zqR HO705.out))) (below_size zq0)); have n3_ := Aside0.mk (below_step zq0 hb); clear HO701; clear HO705; clear HB; have HO701 := n0_; have HO705 := n1_; have HO709 := n2_; have HB := n3_; clear n0_ n1_ n2_ n3_; (try clear hb); (try clear hb2); (try clear hk); (try clear hi); (try clear ho0)))
                  repeat (go_quiet (first | (go_at_call 26; (with_reducible refine (spec_DrawAreaTimeline.calls kj51 _ _ l0 t698 t699 _ ?side1 ?side2 A55.out).mono ?_); (case side1 => repeat (first | exact (Kd.C_below HR0.out HB.out) | (with_reducible refine Kd.C_alloc ?_ _) | (with_reducible refine Kd.C_drewN ?_ _) | (with_reducible refine Kd.C_drew ?_))); (case side2 => exact HC0.out); rintro e w59 ⟨v700, rfl, ho0, hb⟩; have n0_ := Aside0.mk (Kd.R_lower ho0 (below_size zq0)); have n1_ := Aside0.mk (below_step zq0 hb); clear HB; have HO701 := n0_; have HB := n1_; clear n0_ n1_; (try clear hb); (try clear hb2); (try clear hk); (try clear hi); (try clear ho0); obtain ⟨Ao60, co60, eo60⟩ := Kd.R_slice HO701.out; subst eo60) | (go_at_call 27; (with_reducible refine (impl_AreaTimeline.calls kj51 _ _ t698 t699 t702 t703 _ ?side1 ?side2 A56.out).mono ?_); (case side1 => repeat (first | exact (Kd.R_reads' HO701.out).2.2 | (with_reducible refine Kd.C_alloc ?_ _) | (with_reducible refine Kd.C_drewN ?_ _) | (with_reducible refine Kd.C_drew ?_))); (case side2 => exact (Kd.R_reads' HO701.out).2.1); rintro e w61 ⟨v704, rfl, ho0, hb⟩; have n0_ := Aside0.mk (Kd.R_below (zqR HO701.out) hb); have n1_ := Aside0.mk (Kd.R_lower ho0 (below_size zq0)); have n2_ := Aside0.mk (below_step zq0 hb); clear HO701; clear HB; have HO701 := n0_; have HO705 := n1_; have HB := n2_; clear n0_ n1_ n2_; (try clear hb); (try clear hb2); (try clear hk); (try clear hi); (try clear ho0)) | (go_at_call 28; (with_reducible refine (spec_AreaTimeline.calls kj51 _ _ t698 t699 t706 t707 _ ?side1 ?side2 A57.out).mono ?_); (case side1 => repeat (first | exact (Kd.R_reads' HO701.out).2.2 | (with_reducible refine Kd.C_alloc ?_ _) | (with_reducible refine Kd.C_drewN ?_ _) | (with_reducible refine Kd.C_drew ?_))); (case side2 => exact (Kd.R_reads' HO701.out).2.1); rintro e w62 ⟨v708, rfl, ho0, hb⟩; have n0_ := Aside0.mk (Kd.R_below (zqR HO701.out) hb); have n1_ := Aside0.mk (Kd.R_elder' (zqR HO705.out) (Kd.R_base ho0) hb); have n2_ := Aside0.mk (Kd.R_lower (Kd.R_new' ho0 (Kd.R_lt (zqR HO705.out))) (below_size zq0)); have n3_ := Aside0.mk (below_step zq0 hb); clear HO701; clear HO705; clear HB; have HO701 := n0_; have HO705 := n1_; have HO709 := n2_; have HB := n3_; clear n0_ n1_ n2_ n3_; (try clear hb); (try clear hb2); (try clear hk); (try clear hi); (try clear ho0))); go_upto_region 35 with (first | (go_at_call 26; (with_reducible refine (spec_DrawAreaTimeline.calls kj51 _ _ l0 t698 t699 _ ?side1 ?side2 A55.out).mono ?_); (case side1 => repeat (first | exact (Kd.C_below HR0.out HB.out) | (with_reducible refine Kd.C_alloc ?_ _) | (with_reducible refine Kd.C_drewN ?_ _) | (with_reducible refine Kd.C_drew ?_))); (case side2 => exact HC0.out); rintro e w59 ⟨v700, rfl, ho0, hb⟩; have n0_ := Aside0.mk (Kd.R_lower ho0 (below_size zq0)); have n1_ := Aside0.mk (below_step zq0 hb); clear HB; have HO701 := n0_; have HB := n1_; clear n0_ n1_; (try clear hb); (try clear hb2); (try clear hk); (try clear hi); (try clear ho0); obtain ⟨Ao60, co60, eo60⟩ := Kd.R_slice HO701.out; subst eo60) | (go_at_call 27; (with_reducible refine (impl_AreaTimeline.calls kj51 _ _ t698 t699 t702 t703 _ ?side1 ?side2 A56.out).mono ?_); (case side1 => repeat (first | exact (Kd.R_reads' HO701.out).2.2 | (with_reducible refine Kd.C_alloc ?_ _) | (with_reducible refine Kd.C_drewN ?_ _) | (with_reducible refine Kd.C_drew ?_))); (case side2 => exact (Kd.R_reads' HO701.out).2.1); rintro e w61 ⟨v704, rfl, ho0, hb⟩; have n0_ := Aside0.mk (Kd.R_below (zqR HO701.out) hb); have n1_ := Aside0.mk (Kd.R_lower ho0 (below_size zq0)); have n2_ := Aside0.mk (below_step zq0 hb); clear HO701; clear HB; have HO701 := n0_; have HO705 := n1_; have HB := n2_; clear n0_ n1_ n2_; (try clear hb); (try clear hb2); (try clear hk); (try clear hi); (try clear ho0)) | (go_at_call 28; (with_reducible refine (spec_AreaTimeline.calls kj51 _ _ t698 t699 t706 t707 _ ?side1 ?side2 A57.out).mono ?_); (case side1 => repeat (first | exact (Kd.R_reads' HO701.out).2.2 | (with_reducible refine Kd.C_alloc ?_ _) | (with_reducible refine Kd.C_drewN ?_ _) | (with_reducible refine Kd.C_drew ?_))); (case side2 => exact (Kd.R_reads' HO701.out).2.1); rintro e w62 ⟨v708, rfl, ho0, hb⟩; have n0_ := Aside0.mk (Kd.R_below (zqR HO701.out) hb); have n1_ := Aside0.mk (Kd.R_elder' (zqR HO705.out) (Kd.R_base ho0) hb); have n2_ := Aside0.mk (Kd.R_lower (Kd.R_new' ho0 (Kd.R_lt (zqR HO705.out))) (below_size zq0)); have n3_ := Aside0.mk (below_step zq0 hb); clear HO701; clear HO705; clear HB; have HO701 := n0_; have HO705 := n1_; have HO709 := n2_; have HB := n3_; clear n0_ n1_ n2_ n3_; (try clear hb); (try clear hb2); (try clear hk); (try clear hi); (try clear ho0))))
                  (try simp only [Act.put, List.setIfInBounds_toArray, List.set_cons_zero, List.set_cons_succ])
                  go_cut [180] (fun v180 wc => ∃ (kq : Nat) (x180_57 : Bool), v180 = .bool x180_57 ∧ Aside0 (laws_FnTimelines.j6 kq t698 t699 t702 t703 x180_57 = some r) ∧ Aside0 (kq ≤ kj51) ∧ Aside0 (Kd.R k31 31 wc w.heap.size (fun _ => True) (.slice Ao60 t698.length co60) t698) ∧ Aside0 (Kd.R k50 50 wc w.heap.size (fun _ => True) v704 t702) ∧ Aside0 (Below w.heap.size w wc))
                  case first => as_aux_lemma =>
                   have H := HC58.out
                   clear HC58
                   by_cases c63 : (t703 != t707) = true
                   ·
                    rw [if_pos c63] at H
                    exact absurd H (by simp)
                   ·
                    rw [if_neg c63] at H
                    have c63b0 : (t703 != t707) = false := by simpa using c63
                    (try (have c63b1 : decide (t703 = t707) = true := by simpa using c63))
                    (try (have c63b2 : (t703 == t707) = true := by simpa using c63))
                    clear c63
                    (first | rw [c63b0] | (simp only [i64_w, i32_w]; rw [c63b0]) | rw [c63b1] | skip)
                    replace H := Option.bind_eq_some_iff.mp H
                    obtain ⟨t710, A640, H⟩ := H
                    replace H : (laws_FnTimelines.j6 kj51 t698 t699 t702 t703 (!t710)) = some r := H
                    have A64 := Aside0.mk A640
                    clear A640
                    have H' := Aside0.mk H
                    clear H
                    obtain ⟨Ao65, co65, eo65⟩ := Kd.R_slice HO705.out
                    subst eo65
                    obtain ⟨Ao66, co66, eo66⟩ := Kd.R_slice HO709.out
                    subst eo66
                    go_wp2_with (first | (go_at_call 21; (with_reducible refine (laws_vStretches.calls kj51 _ _ t702 _ _ t706 t710 _ ?side1 ?side2 ?side3 ?side4 A64.out).mono ?_); (case side1 => repeat (first | exact (Kd.R_reads' HO705.out).2.2 | (with_reducible refine Kd.C_alloc ?_ _) | (with_reducible refine Kd.C_drewN ?_ _) | (with_reducible refine Kd.C_drew ?_))); (case side2 => exact (Kd.R_reads' HO705.out).2.1); (case side3 => repeat (first | exact (Kd.R_reads' HO709.out).2.2 | (with_reducible refine Kd.C_alloc ?_ _) | (with_reducible refine Kd.C_drewN ?_ _) | (with_reducible refine Kd.C_drew ?_))); (case side4 => exact (Kd.R_reads' HO709.out).2.1); rintro e w' ⟨rfl, ⟨nd, rfl⟩⟩; (try first | exact ⟨rfl, _, World.drewN_drewN _ _ _⟩ | exact ⟨rfl, _, Eq.trans (World.drewN_drewN _ _ _) (congrArg (World.drewN _) (Nat.add_assoc _ _ _))⟩)))
                    repeat (go_quiet (first | (go_at_call 21; (with_reducible refine (laws_vStretches.calls kj51 _ _ t702 _ _ t706 t710 _ ?side1 ?side2 ?side3 ?side4 A64.out).mono ?_); (case side1 => repeat (first | exact (Kd.R_reads' HO705.out).2.2 | (with_reducible refine Kd.C_alloc ?_ _) | (with_reducible refine Kd.C_drewN ?_ _) | (with_reducible refine Kd.C_drew ?_))); (case side2 => exact (Kd.R_reads' HO705.out).2.1); (case side3 => repeat (first | exact (Kd.R_reads' HO709.out).2.2 | (with_reducible refine Kd.C_alloc ?_ _) | (with_reducible refine Kd.C_drewN ?_ _) | (with_reducible refine Kd.C_drew ?_))); (case side4 => exact (Kd.R_reads' HO709.out).2.1); rintro e w' ⟨rfl, ⟨nd, rfl⟩⟩; (try first | exact ⟨rfl, _, World.drewN_drewN _ _ _⟩ | exact ⟨rfl, _, Eq.trans (World.drewN_drewN _ _ _) (congrArg (World.drewN _) (Nat.add_assoc _ _ _))⟩))); try go_wp2_with (first | (go_at_call 21; (with_reducible refine (laws_vStretches.calls kj51 _ _ t702 _ _ t706 t710 _ ?side1 ?side2 ?side3 ?side4 A64.out).mono ?_); (case side1 => repeat (first | exact (Kd.R_reads' HO705.out).2.2 | (with_reducible refine Kd.C_alloc ?_ _) | (with_reducible refine Kd.C_drewN ?_ _) | (with_reducible refine Kd.C_drew ?_))); (case side2 => exact (Kd.R_reads' HO705.out).2.1); (case side3 => repeat (first | exact (Kd.R_reads' HO709.out).2.2 | (with_reducible refine Kd.C_alloc ?_ _) | (with_reducible refine Kd.C_drewN ?_ _) | (with_reducible refine Kd.C_drew ?_))); (case side4 => exact (Kd.R_reads' HO709.out).2.1); rintro e w' ⟨rfl, ⟨nd, rfl⟩⟩; (try first | exact ⟨rfl, _, World.drewN_drewN _ _ _⟩ | exact ⟨rfl, _, Eq.trans (World.drewN_drewN _ _ _) (congrArg (World.drewN _) (Nat.add_assoc _ _ _))⟩))))
                    go_meet
                    case rel => exact ⟨_, (!t710), (by first | rfl | (simp; done) | (simp [*]; done)), H', ⟨by have := HJ6.out; have := HJ16.out; have := HJ36.out; have := HK4.out; have := HJ43.out; have := HJ51.out; first | omega | exact Nat.le_refl _⟩, ⟨by (with_reducible repeat (first | apply Kd.R_alloc | apply Kd.R_drewN | apply Kd.R_drew)); exact HO701.out⟩, ⟨by (with_reducible repeat (first | apply Kd.R_alloc | apply Kd.R_drewN | apply Kd.R_drew)); exact Kd.R_mono HO705.out (fun _ hk => trivial)⟩, ⟨by repeat (first | (with_reducible first | exact HB.out | apply below_alloc | apply pw_below_drewN | apply below_drew1) | exact HB.out)⟩⟩
                  case rest =>
                   clear HC58
                   try clear c1
                   try clear c2
                   try clear p2
                   try clear c3
                   try clear c4
                   try clear c5
                   try clear c6
                   try clear p6
                   try clear c12
                   try clear c12b0
                   try clear c12b1
                   try clear c12b2
                   try clear c16
                   try clear c18
                   try clear c20
                   try clear c22
                   try clear c24
                   try clear c25
                   try clear c25b0
                   try clear c25b1
                   try clear c25b2
                   try clear c31
                   try clear c31b0
                   try clear c31b1
                   try clear c42
                   try clear c42b0
                   try clear c42b1
                   try clear c43
                   try clear c45
                   try clear c45b0
                   try clear c46
                   try clear c48
                   try clear c49
                   try clear c49b0
                   try clear c53
                   try clear c54
                   try clear c63
                   try clear c63b0
                   try clear c63b1
                   try clear c63b2
                   try clear p64
                   try clear p2
                   try clear p6
                   obtain ⟨kq, x180_57, rfl, HA, HJ57, HO_25, HO_27, HB⟩ := hcut
                   cases kq with
                   | zero => exact absurd HA.out (by simp [laws_FnTimelines.j6])
                   | succ kj57 =>
                    have H := HA.out
                    clear HA
                    simp only [laws_FnTimelines.j6] at H
                    by_cases c67 : x180_57 = true
                    ·
                     subst c67
                     have H1 : (none) = some r := by rw [if_pos rfl] at H; exact H
                     clear H
                     have H := H1
                     clear H1
                     exact absurd H (by simp)
                    ·
                     replace c67 := Bool.eq_false_iff.mpr c67
                     subst c67
                     have H1 : (laws_FnTimelines.l1 kj57 t698 t699 t702 t703 0 0) = some r := by rw [if_neg (show ¬ (false = true) by decide)] at H; exact H
                     clear H
                     have H := H1
                     clear H1
                     have H' := Aside0.mk H
                     clear H
                     go_wp2
                     repeat (go_quiet (fail); try go_wp2)
                     go_loopg [31, 32] kj57 (fun kq v31 v32 w' => ∃ (x31_8 : Int) (x32_8 : Int), v31 = .int .i64 x31_8 ∧ v32 = .int .i64 x32_8 ∧ Aside0 (laws_FnTimelines.l1 kq t698 t699 t702 t703 x31_8 x32_8 = some r) ∧ Aside0 (kq ≤ kj57) ∧ Aside0 (Kd.R k31 31 w' w.heap.size (fun _ => True) (.slice Ao60 t698.length co60) t698) ∧ Aside0 (Kd.R k50 50 w' w.heap.size (fun _ => True) v704 t702) ∧ Aside0 (Below w.heap.size w w'))
                     case atStart => exact ⟨(0), (0), (by first | rfl | (simp; done) | (simp [*]; done)), (by first | rfl | (simp; done) | (simp [*]; done)), H', ⟨Nat.le_refl _⟩, ⟨by (with_reducible repeat (first | apply Kd.R_alloc | apply Kd.R_drewN | apply Kd.R_drew)); exact HO_25.out⟩, ⟨by (with_reducible repeat (first | apply Kd.R_alloc | apply Kd.R_drewN | apply Kd.R_drew)); exact HO_27.out⟩, ⟨by repeat (first | (with_reducible first | exact HB.out | apply below_alloc | apply pw_below_drewN | apply below_drew1) | exact HB.out)⟩⟩
                     case round =>
                      clear H'
                      try clear c1
                      try clear c2
                      try clear p2
                      try clear c3
                      try clear c4
                      try clear c5
                      try clear c6
                      try clear p6
                      try clear c12
                      try clear c12b0
                      try clear c12b1
                      try clear c12b2
                      try clear c16
                      try clear c18
                      try clear c20
                      try clear c22
                      try clear c24
                      try clear c25
                      try clear c25b0
                      try clear c25b1
                      try clear c25b2
                      try clear c31
                      try clear c31b0
                      try clear c31b1
                      try clear c42
                      try clear c42b0
                      try clear c42b1
                      try clear c43
                      try clear c45
                      try clear c45b0
                      try clear c46
                      try clear c48
                      try clear c49
                      try clear c49b0
                      try clear c53
                      try clear c54
                      try clear c63
                      try clear c63b0
                      try clear c63b1
                      try clear c63b2
                      try clear p64
                      try clear c67
                      try clear p2
                      try clear p6
                      try clear p64
                      obtain ⟨x31_8, x32_8, rfl, rfl, HA, HK8, HO_25, HO_27, HB⟩ := hrel
                      cases gk with
                      | zero => exact absurd HA.out (by simp [laws_FnTimelines.l1])
                      | succ k8 =>
                       have H := HA.out
                       clear HA
                       simp only [laws_FnTimelines.l1] at H
                       by_cases c68 : x32_8 < (t702.length : Int)
                       ·
                        rw [if_pos c68] at H
                        have c68b0 : decide (x32_8 < (t702.length : Int)) = true := decide_eq_true c68
                        clear c68
                        by_cases c69 : 0 ≤ x32_8
                        ·
                         rw [if_pos c69] at H
                         have c69b0 : decide (0 ≤ x32_8) = true := decide_eq_true c69
                         clear c69
                         have H' := Aside0.mk H
                         clear H
                         obtain ⟨Ao70, co70, eo70⟩ := Kd.R_slice HO_27.out
                         subst eo70
                         have p711 : 0 ≤ (x32_8 : Int) := of_decide_eq_true zq3
                         have q711 : x32_8 < (t702.length : Int) := of_decide_eq_true zq3
                         obtain ⟨ad711, e711, hx711_0, hx711_1, hx711_2⟩ := at_T50 (Kd.R_reads' HO_27.out).2.2 x32_8 p711 q711
                         cases e711
                         replace p711 := eq_true p711
                         replace q711 := eq_true q711
                         have p712 : 0 ≤ (x32_8 : Int) := of_decide_eq_true zq3
                         have q712 : x32_8 < (t702.length : Int) := of_decide_eq_true zq3
                         obtain ⟨ad712, e712, hx712_0, hx712_1, hx712_2⟩ := at_T50 (Kd.R_reads' HO_27.out).2.2 x32_8 p712 q712
                         obtain rfl : ad711 = ad712 := (by injection e712)
                         replace p712 := eq_true p712
                         replace q712 := eq_true q712
                         go_wp2
                         repeat (go_quiet (fail); try go_wp2)
                         go_roundg k8
                         case measure => have := HJ6.out; have := HJ16.out; have := HJ36.out; have := HK4.out; have := HJ43.out; have := HJ51.out; have := HJ57.out; have := HK8.out; omega
                         case rel => exact ⟨(wrap64 ((wrap64 (x31_8 + ((rd_T50 t702 x32_8).f1))) - ((rd_T50 t702 x32_8).f0))), (wrap64 (x32_8 + 1)), (by first | rfl | (simp; done) | (simp [*]; done)), (by first | rfl | (simp; done) | (simp [*]; done)), H', ⟨by have := HJ6.out; have := HJ16.out; have := HJ36.out; have := HK4.out; have := HJ43.out; have := HJ51.out; have := HJ57.out; have := HK8.out; omega⟩, ⟨by (with_reducible repeat (first | apply Kd.R_alloc | apply Kd.R_drewN | apply Kd.R_drew)); exact HO_25.out⟩, ⟨by (with_reducible repeat (first | apply Kd.R_alloc | apply Kd.R_drewN | apply Kd.R_drew)); exact HO_27.out⟩, ⟨by repeat (first | (with_reducible first | exact HB.out | apply below_alloc | apply pw_below_drewN | apply below_drew1) | exact HB.out)⟩⟩
                        ·
                         rw [if_neg c69] at H
                         exact absurd H (by simp)
                       ·
                        rw [if_neg c68] at H
                        have c68b0 : decide (x32_8 < (t702.length : Int)) = false := decide_eq_false c68
                        clear c68
                        replace H := Option.bind_eq_some_iff.mp H
                        obtain ⟨⟨t713, t714⟩, A710, H⟩ := H
                        replace H : (if (t714 == t703) = true then (if t703 = true then (some (t713 == x31_8)) else (some true)) else (none)) = some r := H
                        have A71 := Aside0.mk A710
                        clear A710
                        by_cases c72 : (t714 == t703) = true
                        ·
                         rw [if_pos c72] at H
                         have c72b0 : (t714 == t703) = true := c72
                         (try (have c72b1 : decide (t714 = t703) = true := by simpa using c72))
                         (try (have c72b2 : (t714 == t703) = true := by simpa using c72))
                         clear c72
                         by_cases c73 : t703 = true
                         ·
                          subst c73
                          have H1 : (some (t713 == x31_8)) = some r := by rw [if_pos rfl] at H; exact H
                          clear H
                          have H := H1
                          clear H1
                          obtain rfl := Option.some.inj H
                          obtain ⟨Ao74, co74, eo74⟩ := Kd.R_slice HO_27.out
                          subst eo74
                          go_wp2_with (first | (go_at_call 14; (with_reducible refine (impl_WarningHours.calls k8 _ _ t698 t699 t713 t714 _ ?side1 ?side2 A71.out).mono ?_); (case side1 => repeat (first | exact (Kd.R_reads' HO_25.out).2.2 | (with_reducible refine Kd.C_alloc ?_ _) | (with_reducible refine Kd.C_drewN ?_ _) | (with_reducible refine Kd.C_drew ?_))); (case side2 => exact (Kd.R_reads' HO_25.out).2.1); rintro e w75 ⟨rfl, hb⟩; have n0_ := Aside0.mk (Kd.R_below (zqR HO_25.out) hb); have n1_ := Aside0.mk (Kd.R_below (zqR HO_27.out) hb); have n2_ := Aside0.mk (below_step zq0 hb); clear HO_25; clear HO_27; clear HB; have HO_25 := n0_; have HO_27 := n1_; have HB := n2_; clear n0_ n1_ n2_; (try clear hb); (try clear hb2); (try clear hk); (try clear hi)))
                          repeat (go_quiet (first | (go_at_call 14; (with_reducible refine (impl_WarningHours.calls k8 _ _ t698 t699 t713 t714 _ ?side1 ?side2 A71.out).mono ?_); (case side1 => repeat (first | exact (Kd.R_reads' HO_25.out).2.2 | (with_reducible refine Kd.C_alloc ?_ _) | (with_reducible refine Kd.C_drewN ?_ _) | (with_reducible refine Kd.C_drew ?_))); (case side2 => exact (Kd.R_reads' HO_25.out).2.1); rintro e w75 ⟨rfl, hb⟩; have n0_ := Aside0.mk (Kd.R_below (zqR HO_25.out) hb); have n1_ := Aside0.mk (Kd.R_below (zqR HO_27.out) hb); have n2_ := Aside0.mk (below_step zq0 hb); clear HO_25; clear HO_27; clear HB; have HO_25 := n0_; have HO_27 := n1_; have HB := n2_; clear n0_ n1_ n2_; (try clear hb); (try clear hb2); (try clear hk); (try clear hi))); try go_wp2_with (first | (go_at_call 14; (with_reducible refine (impl_WarningHours.calls k8 _ _ t698 t699 t713 t714 _ ?side1 ?side2 A71.out).mono ?_); (case side1 => repeat (first | exact (Kd.R_reads' HO_25.out).2.2 | (with_reducible refine Kd.C_alloc ?_ _) | (with_reducible refine Kd.C_drewN ?_ _) | (with_reducible refine Kd.C_drew ?_))); (case side2 => exact (Kd.R_reads' HO_25.out).2.1); rintro e w75 ⟨rfl, hb⟩; have n0_ := Aside0.mk (Kd.R_below (zqR HO_25.out) hb); have n1_ := Aside0.mk (Kd.R_below (zqR HO_27.out) hb); have n2_ := Aside0.mk (below_step zq0 hb); clear HO_25; clear HO_27; clear HB; have HO_25 := n0_; have HO_27 := n1_; have HB := n2_; clear n0_ n1_ n2_; (try clear hb); (try clear hb2); (try clear hk); (try clear hi))))
                          go_ret
                          exact ⟨by first | rfl | (simp [errW_none, errW_some] <;> rfl) | (simp [*, errW_none, errW_some] <;> rfl), by repeat (first | (with_reducible first | exact HB.out | apply below_alloc | apply pw_below_drewN | apply below_drew1) | exact HB.out)⟩
                         ·
                          replace c73 := Bool.eq_false_iff.mpr c73
                          subst c73
                          have H1 : (some true) = some r := by rw [if_neg (show ¬ (false = true) by decide)] at H; exact H
                          clear H
                          have H := H1
                          clear H1
                          obtain rfl := Option.some.inj H
                          obtain ⟨Ao76, co76, eo76⟩ := Kd.R_slice HO_27.out
                          subst eo76
                          go_wp2_with (first | (go_at_call 14; (with_reducible refine (impl_WarningHours.calls k8 _ _ t698 t699 t713 t714 _ ?side1 ?side2 A71.out).mono ?_); (case side1 => repeat (first | exact (Kd.R_reads' HO_25.out).2.2 | (with_reducible refine Kd.C_alloc ?_ _) | (with_reducible refine Kd.C_drewN ?_ _) | (with_reducible refine Kd.C_drew ?_))); (case side2 => exact (Kd.R_reads' HO_25.out).2.1); rintro e w77 ⟨rfl, hb⟩; have n0_ := Aside0.mk (Kd.R_below (zqR HO_25.out) hb); have n1_ := Aside0.mk (Kd.R_below (zqR HO_27.out) hb); have n2_ := Aside0.mk (below_step zq0 hb); clear HO_25; clear HO_27; clear HB; have HO_25 := n0_; have HO_27 := n1_; have HB := n2_; clear n0_ n1_ n2_; (try clear hb); (try clear hb2); (try clear hk); (try clear hi)))
                          repeat (go_quiet (first | (go_at_call 14; (with_reducible refine (impl_WarningHours.calls k8 _ _ t698 t699 t713 t714 _ ?side1 ?side2 A71.out).mono ?_); (case side1 => repeat (first | exact (Kd.R_reads' HO_25.out).2.2 | (with_reducible refine Kd.C_alloc ?_ _) | (with_reducible refine Kd.C_drewN ?_ _) | (with_reducible refine Kd.C_drew ?_))); (case side2 => exact (Kd.R_reads' HO_25.out).2.1); rintro e w77 ⟨rfl, hb⟩; have n0_ := Aside0.mk (Kd.R_below (zqR HO_25.out) hb); have n1_ := Aside0.mk (Kd.R_below (zqR HO_27.out) hb); have n2_ := Aside0.mk (below_step zq0 hb); clear HO_25; clear HO_27; clear HB; have HO_25 := n0_; have HO_27 := n1_; have HB := n2_; clear n0_ n1_ n2_; (try clear hb); (try clear hb2); (try clear hk); (try clear hi))); try go_wp2_with (first | (go_at_call 14; (with_reducible refine (impl_WarningHours.calls k8 _ _ t698 t699 t713 t714 _ ?side1 ?side2 A71.out).mono ?_); (case side1 => repeat (first | exact (Kd.R_reads' HO_25.out).2.2 | (with_reducible refine Kd.C_alloc ?_ _) | (with_reducible refine Kd.C_drewN ?_ _) | (with_reducible refine Kd.C_drew ?_))); (case side2 => exact (Kd.R_reads' HO_25.out).2.1); rintro e w77 ⟨rfl, hb⟩; have n0_ := Aside0.mk (Kd.R_below (zqR HO_25.out) hb); have n1_ := Aside0.mk (Kd.R_below (zqR HO_27.out) hb); have n2_ := Aside0.mk (below_step zq0 hb); clear HO_25; clear HO_27; clear HB; have HO_25 := n0_; have HO_27 := n1_; have HB := n2_; clear n0_ n1_ n2_; (try clear hb); (try clear hb2); (try clear hk); (try clear hi))))
                          go_ret
                          exact ⟨by first | rfl | (simp [errW_none, errW_some] <;> rfl) | (simp [*, errW_none, errW_some] <;> rfl), by repeat (first | (with_reducible first | exact HB.out | apply below_alloc | apply pw_below_drewN | apply below_drew1) | exact HB.out)⟩
                        ·
                         rw [if_neg c72] at H
                         exact absurd H (by simp)

end Go.Proofs.Ytklepiechbnenaa.Q
/- Drawn input: each draw comes to an end (no program's answer is told of, only that there is one, and its bounds). -/
namespace Go.Proofs.Ytklepiechbnenaa.Q
open Go.RowKit Go.Proofs.YtklepiechbnenaaW.PrintWords Go.Proofs.Ytklepiechbnenaa.Gen
set_option linter.unusedVariables false
set_option linter.unusedSimpArgs false
/-- The bytes that a draw reads. -/
def Cod (l : List Int) : Prop := l.length ≤ 1000000 ∧ ∀ x ∈ l, 0 ≤ x ∧ x ≤ 255
theorem and_u64 (X : Int) : 0 ≤ Go.bits .and .u64 ((IntKind.u64.wrap X) / 1099511627776) 255 ∧ Go.bits .and .u64 ((IntKind.u64.wrap X) / 1099511627776) 255 ≤ 255 := by
  have hw : IntKind.u64.wrap X = X % 18446744073709551616 := by simp [IntKind.wrap, IntKind.bits, IntKind.signed]
  have h1 : 0 ≤ X % 18446744073709551616 := by omega
  have h2 : X % 18446744073709551616 < 18446744073709551616 := by omega
  rw [hw]
  generalize X % 18446744073709551616 = Y at h1 h2
  have key := bits_mask .u64 32 (by decide) (fun n h0 h1 => by
    have e : IntKind.u64.wrap n = n % 18446744073709551616 := by simp [IntKind.wrap, IntKind.bits, IntKind.signed]
    rw [e]; omega) 8 (by decide) (Y / 1099511627776) (by omega) (by omega)
  rw [show (2 : Int) ^ 8 - 1 = 255 from rfl] at key
  rw [key]
  omega
theorem next_ok {l : List Int} (h : Cod l) (s q : Int) (h0 : 0 ≤ s) (h1 : s ≤ 1000000000) : ∃ b q', spec_l1Cur_next.f l s q = some (b, s + 1, q') ∧ 0 ≤ b ∧ b ≤ 255 := by
  unfold spec_l1Cur_next.f
  rw [show wrap64 (s + 1) = s + 1 from by unfold wrap64; omega]
  by_cases c : s < (l.length : Int)
  · rw [if_pos c, if_pos h0, if_pos (by omega)]
    have hb : 0 ≤ rd l s ∧ rd l s ≤ 255 := by
      show 0 ≤ l.getD s.toNat 0 ∧ l.getD s.toNat 0 ≤ 255
      rw [getD_lt l 0 s.toNat (by omega)]
      exact h.2 _ (List.getElem_mem _)
    exact ⟨_, _, rfl, by unfold wrap64; omega, by unfold wrap64; omega⟩
  · rw [if_neg c, if_neg (by omega)]
    refine ⟨_, _, rfl, ?_⟩
    have := and_u64 ((IntKind.u64.wrap ((IntKind.u64.wrap (q * 6364136223846793005)) + 0)) + 889889)
    generalize Go.bits .and .u64 ((IntKind.u64.wrap ((IntKind.u64.wrap ((IntKind.u64.wrap (q * 6364136223846793005)) + 0)) + 889889)) / 1099511627776) 255 = z at this ⊢
    unfold wrap64; omega
theorem pick_ok {l : List Int} (h : Cod l) (s q : Int) (h0 : 0 ≤ s) (h1 : s ≤ 999999998) (n : Int) : ∃ x s' q', spec_l1Cur_pick.f l s q n = some (x, s', q') ∧ 0 ≤ x ∧ (x < n ∨ x = 0) ∧ s ≤ s' ∧ s' ≤ s + 2 := by
  unfold spec_l1Cur_pick.f
  by_cases c : n ≤ 1
  · rw [if_pos c]
    exact ⟨0, s, q, rfl, by omega, .inr rfl, by omega, by omega⟩
  · rw [if_neg c]
    obtain ⟨b, q1, e1, b0, b1⟩ := next_ok h s q h0 (by omega)
    rw [e1, Option.bind_some]
    dsimp only
    by_cases c2 : n > 200
    · rw [if_pos c2]
      obtain ⟨d, q2, e2, d0, d1⟩ := next_ok h (s + 1) q1 (by omega) (by omega)
      rw [e2, Option.bind_some]
      dsimp only
      rw [if_neg (by omega), show wrap64 (wrap64 (b * 256) + d) = b * 256 + d from by unfold wrap64; omega]
      exact ⟨_, _, _, rfl, Int.tmod_nonneg _ (by omega), .inl (Int.tmod_lt_of_pos _ (by omega)), by omega, by omega⟩
    · rw [if_neg c2, if_neg (by omega)]
      exact ⟨_, _, _, rfl, Int.tmod_nonneg _ b0, .inl (Int.tmod_lt_of_pos _ (by omega)), by omega, by omega⟩
theorem among_ok {l : List Int} (h : Cod l) (s q : Int) (h0 : 0 ≤ s) (h1 : s ≤ 999999998) (L : List Int) (hL : 0 < L.length) : ∃ x s' q', spec_l1Cur_among.f l s q L = some (x, s', q') ∧ x ∈ L ∧ s ≤ s' ∧ s' ≤ s + 2 := by
  unfold spec_l1Cur_among.f
  obtain ⟨x, s1, q1, e1, x0, x1, s0, s2⟩ := pick_ok h s q h0 h1 (L.length : Int)
  rw [e1, Option.bind_some]
  dsimp only
  rw [if_pos x0, if_pos (by omega)]
  refine ⟨_, _, _, rfl, ?_, s0, s2⟩
  show L.getD x.toNat 0 ∈ L
  rw [getD_lt L 0 x.toNat (by omega)]
  exact List.getElem_mem _
theorem one_ok {l : List Int} (h : Cod l) (s q : Int) (h0 : 0 ≤ s) (h1 : s ≤ 999999998) (n : Int) : ∃ b s' q', spec_l1Cur_one.f l s q n = some (b, s', q') ∧ s ≤ s' ∧ s' ≤ s + 2 := by
  unfold spec_l1Cur_one.f
  obtain ⟨x, s1, q1, e1, _, _, s0, s2⟩ := pick_ok h s q h0 h1 n
  rw [e1, Option.bind_some]
  exact ⟨_, _, _, rfl, s0, s2⟩
end Go.Proofs.Ytklepiechbnenaa.Q
namespace Go.Proofs.Ytklepiechbnenaa.Q
open Go.RowKit Go.Proofs.YtklepiechbnenaaW.PrintWords Go.Proofs.YtklepiechbnenaaW.PrintLast Go.Proofs.YtklepiechbnenaaW.PrintMore
attribute [local go_sem] max2_int min2_int max_two min_two max_three min_three max_four min_four   -- for this text's walks alone
set_option linter.unusedVariables false
set_option linter.unusedSimpArgs false

/-! ### spec_IsConsistent: function 32 -/
def spec_IsConsistent.f (k : Nat) (l0 : List (S31)) : Option (Bool) := (spec_l14List.f k l0).bind fun t760 => (some t760)
theorem spec_IsConsistent.mono : ∀ a0 k, LeO (spec_IsConsistent.f k a0) (spec_IsConsistent.f (k + 1) a0) := by
 intro a0 k
 unfold spec_IsConsistent.f
 repeat' first
   | (with_reducible exact spec_l14List.mono _ _)
   | (with_reducible exact LeO.refl _)
   | (with_reducible exact LeO.none _)
   | (with_reducible refine LeO.ite ?_ ?_)
   | (with_reducible refine LeO.bind ?_ (fun _ => ?_))
   | exact spec_l14List.mono _ _
   | exact LeO.none _
   | refine LeO.ite ?_ ?_
   | refine LeO.bind ?_ (fun _ => ?_)
set_option maxHeartbeats 8000000 in
set_option maxRecDepth 100000 in
theorem spec_IsConsistent.calls (k : Nat) (A0 : Option Addr) (c0 : Nat) (l0 : List (S31)) (r : Bool) (w : World) (hr0 : Kd.C k31 w A0 l0.length l0) (hc0 : l0.length ≤ c0) (h : spec_IsConsistent.f k l0 = some r) :
  Calls Try.prog 32 #[.slice A0 l0.length c0] w fun e w' => e = .returned (.bool r) ∧ Below w.heap.size w w' := by
 have HR0 := Aside0.mk hr0
 have HC0 := Aside0.mk hc0
 clear hr0 hc0
 have HB := Aside0.mk (Below.refl w.heap.size w)
 have H : ((spec_l14List.f k l0).bind fun t760 => (some t760)) = some r := h
 clear h
 replace H := Option.bind_eq_some_iff.mp H
 obtain ⟨t760, A20, H⟩ := H
 replace H : (some t760) = some r := H
 have A2 := Aside0.mk A20
 clear A20
 obtain rfl := Option.some.inj H
 go_enter Try.func32, Try.ntmps32
 go_wp2_with (first | ((with_reducible refine gate_callee (f := 63) rfl ?_); refine goesL_ (some 4) rfl rfl Try.func63 (by kernel_rfl) rfl #[.slice A0 l0.length c0] rfl zq1 ?_; (with_reducible refine (spec_l14List.calls k _ _ l0 t760 _ ?side1 ?side2 A2.out).mono ?_); (case side1 => repeat (first | exact HR0.out | (with_reducible refine Kd.C_alloc ?_ _) | (with_reducible refine Kd.C_drewN ?_ _) | (with_reducible refine Kd.C_drew ?_))); (case side2 => exact HC0.out); rintro e w3 ⟨rfl, hb⟩; refine ⟨_, rfl, ?_⟩; have n0_ := Aside0.mk (below_step zq0 hb); clear HB; have HB := n0_; clear n0_; (try clear hb); (try clear hb2); (try clear hk); (try clear hi)))
 go_ret
 exact ⟨by first | rfl | (simp [errW_none, errW_some] <;> rfl) | (simp [*, errW_none, errW_some] <;> rfl), by repeat (first | (with_reducible first | exact HB.out | apply below_alloc | apply pw_below_drewN | apply below_drew1) | exact HB.out)⟩

end Go.Proofs.Ytklepiechbnenaa.Q
