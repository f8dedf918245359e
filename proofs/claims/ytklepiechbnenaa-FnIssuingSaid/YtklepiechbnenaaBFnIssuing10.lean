/- Texts of this seat, put together: Qf5, LaDraw, LaW. -/
import Derived.Test.YtklepiechbnenaaZFnIssuing
import Derived.Laws.BitsLemmas
import Derived.Test.YtklepiechbnenaaBFnIssuing0
import Derived.Test.YtklepiechbnenaaBFnIssuing1
import Derived.Test.YtklepiechbnenaaBFnIssuing2
import Derived.Test.YtklepiechbnenaaBFnIssuing3
import Derived.Test.YtklepiechbnenaaBFnIssuing7
import Derived.Test.YtklepiechbnenaaBFnIssuing8
import Derived.Test.YtklepiechbnenaaBFnIssuing9
namespace Go.Proofs.Ytklepiechbnenaa.Q
open Go.RowKit Go.Proofs.YtklepiechbnenaaW.PrintWords Go.Proofs.YtklepiechbnenaaW.PrintLast Go.Proofs.YtklepiechbnenaaW.PrintMore
attribute [local go_sem] max2_int min2_int max_two min_two max_three min_three max_four min_four   -- for this text's walks alone
set_option linter.unusedVariables false
set_option linter.unusedSimpArgs false

/-! ### laws_FnIssuing: function 5 -/
mutual
def laws_FnIssuing.j0 : Nat → List Int → List (S31) → List (S31) → Int → Bool → Bool → Int → Int → Int → Int → Int → Int → Option (Bool)
 | 0, _, _, _, _, _, _, _, _, _, _, _, _ => none
 | k + 1, x0, x3, x5, x6, x7, x69, x856000, x856001, x856002, x856003, x856004, x856005 => if x69 = true then (none) else (if x7 = true then ((impl_CancelWarning.f k x5 x6 x856004).bind fun bt869 => ((impl_ActiveAt.f k x5 x856004).bind fun bt873 => ((impl_IsConsistent.f k x5).bind fun t877 => (if t877 = true then (if bt869.2 = true then ((laws_vWarnings.f k bt869.1 x3).bind fun t878 => (if t878 = true then (if bt873.2 = true then ((laws_vHas.f k bt873.1 x6).bind fun t879 => (if t879 = true then (laws_FnIssuing.j1 k x0) else (none))) else (none)) else (none))) else (none)) else (none))))) else (laws_FnIssuing.j1 k x0))
def laws_FnIssuing.j1 : Nat → List Int → Option (Bool)
 | 0, _ => none
 | k + 1, x0 => (spec_DrawMeetingWarnings.f k x0).bind fun bt880 => ((impl_MeetingWarnings.f k bt880.1 bt880.2.1 bt880.2.2.1 bt880.2.2.2.1 bt880.2.2.2.2.1 bt880.2.2.2.2.2.1 bt880.2.2.2.2.2.2).bind fun bt890 => ((spec_MeetingWarnings.f k bt880.1 bt880.2.1 bt880.2.2.1 bt880.2.2.2.1 bt880.2.2.2.2.1 bt880.2.2.2.2.2.1 bt880.2.2.2.2.2.2).bind fun bt894 => (if (bt890.2 != bt894.2) = true then (none) else ((laws_vInts.f k bt890.1 bt894.1).bind fun t898 => (if t898 = true then (if bt890.2 = true then ((impl_IsValidWarning.f bt880.2.1 bt880.2.2.1 bt880.2.2.2.1 bt880.2.2.2.2.1 bt880.2.2.2.2.2.1 bt880.2.2.2.2.2.2).bind fun t899 => (laws_FnIssuing.j2 k x0 (!t899))) else (laws_FnIssuing.j2 k x0 false)) else (none))))))
def laws_FnIssuing.j2 : Nat → List Int → Bool → Option (Bool)
 | 0, _, _ => none
 | k + 1, x0, x142 => if x142 = true then (none) else ((spec_DrawExtendWarning.f k x0).bind fun bt900 => ((impl_ExtendWarning.f k bt900.1 bt900.2.1 bt900.2.2).bind fun bt905 => ((spec_ExtendWarning.f k bt900.1 bt900.2.1 bt900.2.2).bind fun bt909 => (if (bt905.2 != bt909.2) = true then (none) else ((laws_vWarnings.f k bt905.1 bt909.1).bind fun t913 => (if t913 = true then (if bt905.2 = true then ((impl_IsConsistent.f k bt905.1).bind fun t914 => (if t914 = true then (some ((bt905.1.length : Int) == (bt900.1.length : Int))) else (none))) else (some true)) else (none)))))))
end
def laws_FnIssuing.f (k : Nat) (l0 : List Int) : Option (Bool) := (laws_vBig.f l0).bind fun t845 => (if t845 = true then (some true) else ((spec_DrawIssueWarning.f k l0).bind fun bt846 => ((impl_IssueWarning.f k bt846.1 bt846.2.1 bt846.2.2.1 bt846.2.2.2.1 bt846.2.2.2.2.1 bt846.2.2.2.2.2.1 bt846.2.2.2.2.2.2).bind fun bt856 => ((spec_IssueWarning.f k bt846.1 bt846.2.1 bt846.2.2.1 bt846.2.2.2.1 bt846.2.2.2.2.1 bt846.2.2.2.2.2.1 bt846.2.2.2.2.2.2).bind fun bt861 => (if (bt856.2.2 != bt861.2.2) = true then (none) else (if bt856.2.1 = bt861.2.1 then ((laws_vWarnings.f k bt856.1 bt861.1).bind fun t866 => (if t866 = true then ((impl_IsConsistent.f k bt846.1).bind fun t867 => ((spec_IsConsistent.f k bt846.1).bind fun t868 => (laws_FnIssuing.j0 k l0 bt846.1 bt856.1 bt856.2.1 bt856.2.2 (t867 != t868) bt846.2.1 bt846.2.2.1 bt846.2.2.2.1 bt846.2.2.2.2.1 bt846.2.2.2.2.2.1 bt846.2.2.2.2.2.2))) else (none))) else (none)))))))
theorem laws_FnIssuing.mono_l : ∀ k, (∀ y0 y1 y2 y3 y4 y5 y6 y7 y8 y9 y10 y11, LeO (laws_FnIssuing.j0 k y0 y1 y2 y3 y4 y5 y6 y7 y8 y9 y10 y11) (laws_FnIssuing.j0 (k + 1) y0 y1 y2 y3 y4 y5 y6 y7 y8 y9 y10 y11)) ∧ (∀ y0, LeO (laws_FnIssuing.j1 k y0) (laws_FnIssuing.j1 (k + 1) y0)) ∧ (∀ y0 y1, LeO (laws_FnIssuing.j2 k y0 y1) (laws_FnIssuing.j2 (k + 1) y0 y1))
 | 0 => ⟨fun _ _ _ _ _ _ _ _ _ _ _ _ r h => by simp [laws_FnIssuing.j0] at h, fun _ r h => by simp [laws_FnIssuing.j1] at h, fun _ _ r h => by simp [laws_FnIssuing.j2] at h⟩
 | k + 1 => by
  obtain ⟨ih0, ih1, ih2⟩ := laws_FnIssuing.mono_l k
  refine ⟨?_, ?_, ?_⟩
  ·
   intro y0 y1 y2 y3 y4 y5 y6 y7 y8 y9 y10 y11
   unfold laws_FnIssuing.j0
   repeat' first
   | (with_reducible exact ih0 _ _ _ _ _ _ _ _ _ _ _ _)
   | (with_reducible exact ih1 _)
   | (with_reducible exact ih2 _ _)
   | (with_reducible exact impl_ActiveAt.mono _ _ _)
   | (with_reducible exact impl_CancelWarning.mono _ _ _ _)
   | (with_reducible exact impl_ExtendWarning.mono _ _ _ _)
   | (with_reducible exact impl_IsConsistent.mono _ _)
   | (with_reducible exact impl_IssueWarning.mono _ _ _ _ _ _ _ _)
   | (with_reducible exact impl_MeetingWarnings.mono _ _ _ _ _ _ _ _)
   | (with_reducible exact laws_vHas.mono _ _ _)
   | (with_reducible exact laws_vInts.mono _ _ _)
   | (with_reducible exact laws_vWarnings.mono _ _ _)
   | (with_reducible exact spec_DrawExtendWarning.mono _ _)
   | (with_reducible exact spec_DrawIssueWarning.mono _ _)
   | (with_reducible exact spec_DrawMeetingWarnings.mono _ _)
   | (with_reducible exact spec_ExtendWarning.mono _ _ _ _)
   | (with_reducible exact spec_IsConsistent.mono _ _)
   | (with_reducible exact spec_IssueWarning.mono _ _ _ _ _ _ _ _)
   | (with_reducible exact spec_MeetingWarnings.mono _ _ _ _ _ _ _ _)
   | (with_reducible exact LeO.refl _)
   | (with_reducible exact LeO.none _)
   | (with_reducible refine LeO.ite ?_ ?_)
   | (with_reducible refine LeO.bind ?_ (fun _ => ?_))
   | exact ih0 _ _ _ _ _ _ _ _ _ _ _ _
   | exact ih1 _
   | exact ih2 _ _
   | exact impl_ActiveAt.mono _ _ _
   | exact impl_CancelWarning.mono _ _ _ _
   | exact impl_ExtendWarning.mono _ _ _ _
   | exact impl_IsConsistent.mono _ _
   | exact impl_IssueWarning.mono _ _ _ _ _ _ _ _
   | exact impl_MeetingWarnings.mono _ _ _ _ _ _ _ _
   | exact laws_vHas.mono _ _ _
   | exact laws_vInts.mono _ _ _
   | exact laws_vWarnings.mono _ _ _
   | exact spec_DrawExtendWarning.mono _ _
   | exact spec_DrawIssueWarning.mono _ _
   | exact spec_DrawMeetingWarnings.mono _ _
   | exact spec_ExtendWarning.mono _ _ _ _
   | exact spec_IsConsistent.mono _ _
   | exact spec_IssueWarning.mono _ _ _ _ _ _ _ _
   | exact spec_MeetingWarnings.mono _ _ _ _ _ _ _ _
   | exact LeO.none _
   | refine LeO.ite ?_ ?_
   | refine LeO.bind ?_ (fun _ => ?_)
  ·
   intro y0
   unfold laws_FnIssuing.j1
   repeat' first
   | (with_reducible exact ih0 _ _ _ _ _ _ _ _ _ _ _ _)
   | (with_reducible exact ih1 _)
   | (with_reducible exact ih2 _ _)
   | (with_reducible exact impl_ActiveAt.mono _ _ _)
   | (with_reducible exact impl_CancelWarning.mono _ _ _ _)
   | (with_reducible exact impl_ExtendWarning.mono _ _ _ _)
   | (with_reducible exact impl_IsConsistent.mono _ _)
   | (with_reducible exact impl_IssueWarning.mono _ _ _ _ _ _ _ _)
   | (with_reducible exact impl_MeetingWarnings.mono _ _ _ _ _ _ _ _)
   | (with_reducible exact laws_vHas.mono _ _ _)
   | (with_reducible exact laws_vInts.mono _ _ _)
   | (with_reducible exact laws_vWarnings.mono _ _ _)
   | (with_reducible exact spec_DrawExtendWarning.mono _ _)
   | (with_reducible exact spec_DrawIssueWarning.mono _ _)
   | (with_reducible exact spec_DrawMeetingWarnings.mono _ _)
   | (with_reducible exact spec_ExtendWarning.mono _ _ _ _)
   | (with_reducible exact spec_IsConsistent.mono _ _)
   | (with_reducible exact spec_IssueWarning.mono _ _ _ _ _ _ _ _)
   | (with_reducible exact spec_MeetingWarnings.mono _ _ _ _ _ _ _ _)
   | (with_reducible exact LeO.refl _)
   | (with_reducible exact LeO.none _)
   | (with_reducible refine LeO.ite ?_ ?_)
   | (with_reducible refine LeO.bind ?_ (fun _ => ?_))
   | exact ih0 _ _ _ _ _ _ _ _ _ _ _ _
   | exact ih1 _
   | exact ih2 _ _
   | exact impl_ActiveAt.mono _ _ _
   | exact impl_CancelWarning.mono _ _ _ _
   | exact impl_ExtendWarning.mono _ _ _ _
   | exact impl_IsConsistent.mono _ _
   | exact impl_IssueWarning.mono _ _ _ _ _ _ _ _
   | exact impl_MeetingWarnings.mono _ _ _ _ _ _ _ _
   | exact laws_vHas.mono _ _ _
   | exact laws_vInts.mono _ _ _
   | exact laws_vWarnings.mono _ _ _
   | exact spec_DrawExtendWarning.mono _ _
   | exact spec_DrawIssueWarning.mono _ _
   | exact spec_DrawMeetingWarnings.mono _ _
   | exact spec_ExtendWarning.mono _ _ _ _
   | exact spec_IsConsistent.mono _ _
   | exact spec_IssueWarning.mono _ _ _ _ _ _ _ _
   | exact spec_MeetingWarnings.mono _ _ _ _ _ _ _ _
   | exact LeO.none _
   | refine LeO.ite ?_ ?_
   | refine LeO.bind ?_ (fun _ => ?_)
  ·
   intro y0 y1
   unfold laws_FnIssuing.j2
   repeat' first
   | (with_reducible exact ih0 _ _ _ _ _ _ _ _ _ _ _ _)
   | (with_reducible exact ih1 _)
   | (with_reducible exact ih2 _ _)
   | (with_reducible exact impl_ActiveAt.mono _ _ _)
   | (with_reducible exact impl_CancelWarning.mono _ _ _ _)
   | (with_reducible exact impl_ExtendWarning.mono _ _ _ _)
   | (with_reducible exact impl_IsConsistent.mono _ _)
   | (with_reducible exact impl_IssueWarning.mono _ _ _ _ _ _ _ _)
   | (with_reducible exact impl_MeetingWarnings.mono _ _ _ _ _ _ _ _)
   | (with_reducible exact laws_vHas.mono _ _ _)
   | (with_reducible exact laws_vInts.mono _ _ _)
   | (with_reducible exact laws_vWarnings.mono _ _ _)
   | (with_reducible exact spec_DrawExtendWarning.mono _ _)
   | (with_reducible exact spec_DrawIssueWarning.mono _ _)
   | (with_reducible exact spec_DrawMeetingWarnings.mono _ _)
   | (with_reducible exact spec_ExtendWarning.mono _ _ _ _)
   | (with_reducible exact spec_IsConsistent.mono _ _)
   | (with_reducible exact spec_IssueWarning.mono _ _ _ _ _ _ _ _)
   | (with_reducible exact spec_MeetingWarnings.mono _ _ _ _ _ _ _ _)
   | (with_reducible exact LeO.refl _)
   | (with_reducible exact LeO.none _)
   | (with_reducible refine LeO.ite ?_ ?_)
   | (with_reducible refine LeO.bind ?_ (fun _ => ?_))
   | exact ih0 _ _ _ _ _ _ _ _ _ _ _ _
   | exact ih1 _
   | exact ih2 _ _
   | exact impl_ActiveAt.mono _ _ _
   | exact impl_CancelWarning.mono _ _ _ _
   | exact impl_ExtendWarning.mono _ _ _ _
   | exact impl_IsConsistent.mono _ _
   | exact impl_IssueWarning.mono _ _ _ _ _ _ _ _
   | exact impl_MeetingWarnings.mono _ _ _ _ _ _ _ _
   | exact laws_vHas.mono _ _ _
   | exact laws_vInts.mono _ _ _
   | exact laws_vWarnings.mono _ _ _
   | exact spec_DrawExtendWarning.mono _ _
   | exact spec_DrawIssueWarning.mono _ _
   | exact spec_DrawMeetingWarnings.mono _ _
   | exact spec_ExtendWarning.mono _ _ _ _
   | exact spec_IsConsistent.mono _ _
   | exact spec_IssueWarning.mono _ _ _ _ _ _ _ _
   | exact spec_MeetingWarnings.mono _ _ _ _ _ _ _ _
   | exact LeO.none _
   | refine LeO.ite ?_ ?_
   | refine LeO.bind ?_ (fun _ => ?_)
theorem laws_FnIssuing.mono : ∀ a0 k, LeO (laws_FnIssuing.f k a0) (laws_FnIssuing.f (k + 1) a0) := by
 intro a0 k
 obtain ⟨ih0, ih1, ih2⟩ := laws_FnIssuing.mono_l k
 unfold laws_FnIssuing.f
 repeat' first
   | (with_reducible exact ih0 _ _ _ _ _ _ _ _ _ _ _ _)
   | (with_reducible exact ih1 _)
   | (with_reducible exact ih2 _ _)
   | (with_reducible exact impl_ActiveAt.mono _ _ _)
   | (with_reducible exact impl_CancelWarning.mono _ _ _ _)
   | (with_reducible exact impl_ExtendWarning.mono _ _ _ _)
   | (with_reducible exact impl_IsConsistent.mono _ _)
   | (with_reducible exact impl_IssueWarning.mono _ _ _ _ _ _ _ _)
   | (with_reducible exact impl_MeetingWarnings.mono _ _ _ _ _ _ _ _)
   | (with_reducible exact laws_vHas.mono _ _ _)
   | (with_reducible exact laws_vInts.mono _ _ _)
   | (with_reducible exact laws_vWarnings.mono _ _ _)
   | (with_reducible exact spec_DrawExtendWarning.mono _ _)
   | (with_reducible exact spec_DrawIssueWarning.mono _ _)
   | (with_reducible exact spec_DrawMeetingWarnings.mono _ _)
   | (with_reducible exact spec_ExtendWarning.mono _ _ _ _)
   | (with_reducible exact spec_IsConsistent.mono _ _)
   | (with_reducible exact spec_IssueWarning.mono _ _ _ _ _ _ _ _)
   | (with_reducible exact spec_MeetingWarnings.mono _ _ _ _ _ _ _ _)
   | (with_reducible exact LeO.refl _)
   | (with_reducible exact LeO.none _)
   | (with_reducible refine LeO.ite ?_ ?_)
   | (with_reducible refine LeO.bind ?_ (fun _ => ?_))
   | exact ih0 _ _ _ _ _ _ _ _ _ _ _ _
   | exact ih1 _
   | exact ih2 _ _
   | exact impl_ActiveAt.mono _ _ _
   | exact impl_CancelWarning.mono _ _ _ _
   | exact impl_ExtendWarning.mono _ _ _ _
   | exact impl_IsConsistent.mono _ _
   | exact impl_IssueWarning.mono _ _ _ _ _ _ _ _
   | exact impl_MeetingWarnings.mono _ _ _ _ _ _ _ _
   | exact laws_vHas.mono _ _ _
   | exact laws_vInts.mono _ _ _
   | exact laws_vWarnings.mono _ _ _
   | exact spec_DrawExtendWarning.mono _ _
   | exact spec_DrawIssueWarning.mono _ _
   | exact spec_DrawMeetingWarnings.mono _ _
   | exact spec_ExtendWarning.mono _ _ _ _
   | exact spec_IsConsistent.mono _ _
   | exact spec_IssueWarning.mono _ _ _ _ _ _ _ _
   | exact spec_MeetingWarnings.mono _ _ _ _ _ _ _ _
   | exact LeO.none _
   | refine LeO.ite ?_ ?_
   | refine LeO.bind ?_ (fun _ => ?_)
set_option maxHeartbeats 8000000 in
set_option maxRecDepth 100000 in
theorem laws_FnIssuing.calls (k : Nat) (A0 : Option Addr) (c0 : Nat) (l0 : List Int) (r : Bool) (w : World) (hr0 : Kd.C (Kd.int .u8) w A0 l0.length l0) (hc0 : l0.length ≤ c0) (h : laws_FnIssuing.f k l0 = some r) :
  Calls Try.prog 5 #[.slice A0 l0.length c0] w fun e w' => e = .returned (.bool r) ∧ Below w.heap.size w w' := by
 have hu31 := Try.underlying31
 have HR0 := Aside0.mk hr0
 have HC0 := Aside0.mk hc0
 clear hr0 hc0
 have HB := Aside0.mk (Below.refl w.heap.size w)
 have H : ((laws_vBig.f l0).bind fun t845 => (if t845 = true then (some true) else ((spec_DrawIssueWarning.f k l0).bind fun bt846 => ((impl_IssueWarning.f k bt846.1 bt846.2.1 bt846.2.2.1 bt846.2.2.2.1 bt846.2.2.2.2.1 bt846.2.2.2.2.2.1 bt846.2.2.2.2.2.2).bind fun bt856 => ((spec_IssueWarning.f k bt846.1 bt846.2.1 bt846.2.2.1 bt846.2.2.2.1 bt846.2.2.2.2.1 bt846.2.2.2.2.2.1 bt846.2.2.2.2.2.2).bind fun bt861 => (if (bt856.2.2 != bt861.2.2) = true then (none) else (if bt856.2.1 = bt861.2.1 then ((laws_vWarnings.f k bt856.1 bt861.1).bind fun t866 => (if t866 = true then ((impl_IsConsistent.f k bt846.1).bind fun t867 => ((spec_IsConsistent.f k bt846.1).bind fun t868 => (laws_FnIssuing.j0 k l0 bt846.1 bt856.1 bt856.2.1 bt856.2.2 (t867 != t868) bt846.2.1 bt846.2.2.1 bt846.2.2.2.1 bt846.2.2.2.2.1 bt846.2.2.2.2.2.1 bt846.2.2.2.2.2.2))) else (none))) else (none)))))))) = some r := h
 clear h
 replace H := Option.bind_eq_some_iff.mp H
 obtain ⟨t845, A20, H⟩ := H
 replace H : (if t845 = true then (some true) else ((spec_DrawIssueWarning.f k l0).bind fun bt846 => ((impl_IssueWarning.f k bt846.1 bt846.2.1 bt846.2.2.1 bt846.2.2.2.1 bt846.2.2.2.2.1 bt846.2.2.2.2.2.1 bt846.2.2.2.2.2.2).bind fun bt856 => ((spec_IssueWarning.f k bt846.1 bt846.2.1 bt846.2.2.1 bt846.2.2.2.1 bt846.2.2.2.2.1 bt846.2.2.2.2.2.1 bt846.2.2.2.2.2.2).bind fun bt861 => (if (bt856.2.2 != bt861.2.2) = true then (none) else (if bt856.2.1 = bt861.2.1 then ((laws_vWarnings.f k bt856.1 bt861.1).bind fun t866 => (if t866 = true then ((impl_IsConsistent.f k bt846.1).bind fun t867 => ((spec_IsConsistent.f k bt846.1).bind fun t868 => (laws_FnIssuing.j0 k l0 bt846.1 bt856.1 bt856.2.1 bt856.2.2 (t867 != t868) bt846.2.1 bt846.2.2.1 bt846.2.2.2.1 bt846.2.2.2.2.1 bt846.2.2.2.2.2.1 bt846.2.2.2.2.2.2))) else (none))) else (none))))))) = some r := H
 have A2 := Aside0.mk A20
 clear A20
 by_cases c3 : t845 = true
 ·
  subst c3
  have H1 : (some true) = some r := by rw [if_pos rfl] at H; exact H
  clear H
  have H := H1
  clear H1
  obtain rfl := Option.some.inj H
  go_enter Try.func5, Try.ntmps5
  go_wp2_with (first | ((with_reducible refine gate_callee (f := 7) rfl ?_); refine goesL_ (some 29) rfl rfl Try.func7 (by kernel_rfl) rfl #[.slice A0 l0.length c0] rfl zq1 ?_; (with_reducible refine (laws_vBig.calls _ _ l0 true _ ?side1 ?side2 A2.out).mono ?_); (case side1 => repeat (first | exact HR0.out | (with_reducible refine Kd.C_alloc ?_ _) | (with_reducible refine Kd.C_drewN ?_ _) | (with_reducible refine Kd.C_drew ?_))); (case side2 => exact HC0.out); rintro e w' ⟨rfl, ⟨nd, rfl⟩⟩; refine ⟨_, rfl, ?_⟩))
  go_ret
  exact ⟨by first | rfl | (simp [errW_none, errW_some] <;> rfl) | (simp [*, errW_none, errW_some] <;> rfl), by repeat (first | (with_reducible first | exact HB.out | apply below_alloc | apply pw_below_drewN | apply below_drew1) | exact HB.out)⟩
 ·
  replace c3 := Bool.eq_false_iff.mpr c3
  subst c3
  have H1 : ((spec_DrawIssueWarning.f k l0).bind fun bt846 => ((impl_IssueWarning.f k bt846.1 bt846.2.1 bt846.2.2.1 bt846.2.2.2.1 bt846.2.2.2.2.1 bt846.2.2.2.2.2.1 bt846.2.2.2.2.2.2).bind fun bt856 => ((spec_IssueWarning.f k bt846.1 bt846.2.1 bt846.2.2.1 bt846.2.2.2.1 bt846.2.2.2.2.1 bt846.2.2.2.2.2.1 bt846.2.2.2.2.2.2).bind fun bt861 => (if (bt856.2.2 != bt861.2.2) = true then (none) else (if bt856.2.1 = bt861.2.1 then ((laws_vWarnings.f k bt856.1 bt861.1).bind fun t866 => (if t866 = true then ((impl_IsConsistent.f k bt846.1).bind fun t867 => ((spec_IsConsistent.f k bt846.1).bind fun t868 => (laws_FnIssuing.j0 k l0 bt846.1 bt856.1 bt856.2.1 bt856.2.2 (t867 != t868) bt846.2.1 bt846.2.2.1 bt846.2.2.2.1 bt846.2.2.2.2.1 bt846.2.2.2.2.2.1 bt846.2.2.2.2.2.2))) else (none))) else (none)))))) = some r := by rw [if_neg (show ¬ (false = true) by decide)] at H; exact H
  clear H
  have H := H1
  clear H1
  replace H := Option.bind_eq_some_iff.mp H
  obtain ⟨⟨t846, t849, t850, t851, t852, t853, t854⟩, A40, H⟩ := H
  replace H : ((impl_IssueWarning.f k t846 t849 t850 t851 t852 t853 t854).bind fun bt856 => ((spec_IssueWarning.f k t846 t849 t850 t851 t852 t853 t854).bind fun bt861 => (if (bt856.2.2 != bt861.2.2) = true then (none) else (if bt856.2.1 = bt861.2.1 then ((laws_vWarnings.f k bt856.1 bt861.1).bind fun t866 => (if t866 = true then ((impl_IsConsistent.f k t846).bind fun t867 => ((spec_IsConsistent.f k t846).bind fun t868 => (laws_FnIssuing.j0 k l0 t846 bt856.1 bt856.2.1 bt856.2.2 (t867 != t868) t849 t850 t851 t852 t853 t854))) else (none))) else (none))))) = some r := H
  have A4 := Aside0.mk A40
  clear A40
  replace H := Option.bind_eq_some_iff.mp H
  obtain ⟨⟨t856, t859, t860⟩, A50, H⟩ := H
  replace H : ((spec_IssueWarning.f k t846 t849 t850 t851 t852 t853 t854).bind fun bt861 => (if (t860 != bt861.2.2) = true then (none) else (if t859 = bt861.2.1 then ((laws_vWarnings.f k t856 bt861.1).bind fun t866 => (if t866 = true then ((impl_IsConsistent.f k t846).bind fun t867 => ((spec_IsConsistent.f k t846).bind fun t868 => (laws_FnIssuing.j0 k l0 t846 t856 t859 t860 (t867 != t868) t849 t850 t851 t852 t853 t854))) else (none))) else (none)))) = some r := H
  have A5 := Aside0.mk A50
  clear A50
  replace H := Option.bind_eq_some_iff.mp H
  obtain ⟨⟨t861, t864, t865⟩, A60, H⟩ := H
  replace H : (if (t860 != t865) = true then (none) else (if t859 = t864 then ((laws_vWarnings.f k t856 t861).bind fun t866 => (if t866 = true then ((impl_IsConsistent.f k t846).bind fun t867 => ((spec_IsConsistent.f k t846).bind fun t868 => (laws_FnIssuing.j0 k l0 t846 t856 t859 t860 (t867 != t868) t849 t850 t851 t852 t853 t854))) else (none))) else (none))) = some r := H
  have A6 := Aside0.mk A60
  clear A60
  have HC7 := Aside0.mk H
  clear H
  go_enter Try.func5, Try.ntmps5
  go_upto_region 6 with (first | ((with_reducible refine gate_callee (f := 7) rfl ?_); refine goesL_ (some 29) rfl rfl Try.func7 (by kernel_rfl) rfl #[.slice A0 l0.length c0] rfl zq1 ?_; (with_reducible refine (laws_vBig.calls _ _ l0 false _ ?side1 ?side2 A2.out).mono ?_); (case side1 => repeat (first | exact HR0.out | (with_reducible refine Kd.C_alloc ?_ _) | (with_reducible refine Kd.C_drewN ?_ _) | (with_reducible refine Kd.C_drew ?_))); (case side2 => exact HC0.out); rintro e w' ⟨rfl, ⟨nd, rfl⟩⟩; refine ⟨_, rfl, ?_⟩) | ((with_reducible refine gate_callee (f := 29) rfl ?_); refine goesL_ (some 32) rfl rfl Try.func29 (by kernel_rfl) rfl #[.slice A0 l0.length c0] rfl zq1 ?_; (with_reducible refine (spec_DrawIssueWarning.calls k _ _ l0 t846 t849 t850 t851 t852 t853 t854 _ ?side1 ?side2 A4.out).mono ?_); (case side1 => repeat (first | exact HR0.out | (with_reducible refine Kd.C_alloc ?_ _) | (with_reducible refine Kd.C_drewN ?_ _) | (with_reducible refine Kd.C_drew ?_))); (case side2 => exact HC0.out); rintro e w8 ⟨v847, rfl, ho0, hb⟩; refine ⟨_, rfl, ?_⟩; have n0_ := Aside0.mk (Kd.R_lower ho0 (below_size zq0)); have n1_ := Aside0.mk (below_step zq0 hb); clear HB; have HO848 := n0_; have HB := n1_; clear n0_ n1_; (try clear hb); (try clear hb2); (try clear hk); (try clear hi); (try clear ho0)) | ((with_reducible refine gate_dst (N := 4) rfl ?_); refine box_event ?hg (N := 4) ?hd (cs := #[.int .i64 0, .int .i64 0, .int .i64 0, .int .i64 0, .int .i64 0, .int .i64 0]) (t := 31) ?hr ?_; (case hd => rfl); (case hg => rfl); (case hr => first | (go_simp; done) | (go_simp; rfl)); intro gb855 hg w9 hbox hb; have n0_ := Aside0.mk (Kd.R_below (Kd.R_elderB (zqR HO848.out) gb855 (Nat.le_of_eq hg.symm)) hb); have n1_ := Aside0.mk (below_step zq0 hb); have n2_ := Aside0.mk (hbox); have n3_ := Aside0.mk ((by rw [hg]; exact (below_size zq0) : w.heap.size ≤ gb855)); have n4_ := Aside0.mk ((by rw [hg]; exact (below_size zq0) : w.heap.size ≤ gb855)); clear HO848; clear HB; have HO848 := n0_; have HB := n1_; have BK855 := n2_; have GW855 := n3_; have GE855 := n4_; clear n0_ n1_ n2_ n3_ n4_; clear hb hbox hg; have hcz10_0 : w9.cell? ⟨gb855, 0, none⟩ = some (.int .i64 0) := (blk_cell BK855.out 0).trans rfl; have hcz10_1 : w9.cell? ⟨gb855, 1, none⟩ = some (.int .i64 0) := (blk_cell BK855.out 1).trans rfl; have hcz10_2 : w9.cell? ⟨gb855, 2, none⟩ = some (.int .i64 0) := (blk_cell BK855.out 2).trans rfl; have hcz10_3 : w9.cell? ⟨gb855, 3, none⟩ = some (.int .i64 0) := (blk_cell BK855.out 3).trans rfl; have hcz10_4 : w9.cell? ⟨gb855, 4, none⟩ = some (.int .i64 0) := (blk_cell BK855.out 4).trans rfl; have hcz10_5 : w9.cell? ⟨gb855, 5, none⟩ = some (.int .i64 0) := (blk_cell BK855.out 5).trans rfl; have hfz10_0 := blk_frozen BK855.out 0; have hfz10_1 := blk_frozen BK855.out 1; have hfz10_2 := blk_frozen BK855.out 2; have hfz10_3 := blk_frozen BK855.out 3; have hfz10_4 := blk_frozen BK855.out 4; have hfz10_5 := blk_frozen BK855.out 5; obtain ⟨Ao11, co11, eo11⟩ := Kd.R_slice HO848.out; subst eo11) | ((with_reducible refine gate_callee (f := 30) rfl ?_); refine goesL_ (some 38) rfl rfl Try.func30 (by kernel_rfl) rfl #[.slice Ao11 t846.length co11, .agg #[.int .i64 t849, .int .i64 t850, .int .i64 t851, .int .i64 t852, .int .i64 t853, .int .i64 t854]] rfl zq1 ?_; (with_reducible refine (impl_IssueWarning.calls k _ _ t846 t849 t850 t851 t852 t853 t854 t856 t859 t860 _ ?side1 ?side2 A5.out).mono ?_); (case side1 => refine (Kd.R_reads' (e := 31) (base := w.heap.size) (ok := fun k_ => (True ∧ k_ ≠ gb855)) (n := t846.length) (c := co11) ?_).2.2; exact zq23); (case side2 => exact (Kd.R_reads' HO848.out).2.1); rintro e w12 ⟨v857, rfl, ho0, hb⟩; refine ⟨_, rfl, ?_⟩; have n0_ := Aside0.mk (Kd.R_elder' zq23 (Kd.R_base ho0) hb); have n1_ := Aside0.mk (Kd.R_lower (Kd.R_newB (Kd.R_new' ho0 (Kd.R_lt zq23)) (g := gb855) (o := .cells #[.int .i64 t849, .int .i64 t850, .int .i64 t851, .int .i64 t852, .int .i64 t853, .int .i64 t854] 31 (0, 0)) zq19) (below_size zq9)); have n2_ := Aside0.mk (blk_below (g := gb855) (o := .cells #[.int .i64 t849, .int .i64 t850, .int .i64 t851, .int .i64 t852, .int .i64 t853, .int .i64 t854] 31 (0, 0)) zq19 hb); have n3_ := Aside0.mk (below_step zq9 hb); clear HO848; clear BK855; clear HB; have HO848 := n0_; have HO858 := n1_; have BK855 := n2_; have HB := n3_; clear n0_ n1_ n2_ n3_; (try clear hb); (try clear hb2); (try clear hk); (try clear hi); (try clear ho0); have hcz13_0 : w12.cell? ⟨gb855, 0, none⟩ = some (.int .i64 t849) := (blk_cell BK855.out 0).trans rfl; have hcz13_1 : w12.cell? ⟨gb855, 1, none⟩ = some (.int .i64 t850) := (blk_cell BK855.out 1).trans rfl; have hcz13_2 : w12.cell? ⟨gb855, 2, none⟩ = some (.int .i64 t851) := (blk_cell BK855.out 2).trans rfl; have hcz13_3 : w12.cell? ⟨gb855, 3, none⟩ = some (.int .i64 t852) := (blk_cell BK855.out 3).trans rfl; have hcz13_4 : w12.cell? ⟨gb855, 4, none⟩ = some (.int .i64 t853) := (blk_cell BK855.out 4).trans rfl; have hcz13_5 : w12.cell? ⟨gb855, 5, none⟩ = some (.int .i64 t854) := (blk_cell BK855.out 5).trans rfl; have hfz13_0 := blk_frozen BK855.out 0; have hfz13_1 := blk_frozen BK855.out 1; have hfz13_2 := blk_frozen BK855.out 2; have hfz13_3 := blk_frozen BK855.out 3; have hfz13_4 := blk_frozen BK855.out 4; have hfz13_5 := blk_frozen BK855.out 5) | ((with_reducible refine gate_callee (f := 31) rfl ?_); refine goesL_ (some 45) rfl rfl Try.func31 (by kernel_rfl) rfl #[.slice Ao11 t846.length co11, .agg #[.int .i64 t849, .int .i64 t850, .int .i64 t851, .int .i64 t852, .int .i64 t853, .int .i64 t854]] rfl zq1 ?_; (with_reducible refine (spec_IssueWarning.calls k _ _ t846 t849 t850 t851 t852 t853 t854 t861 t864 t865 _ ?side1 ?side2 A6.out).mono ?_); (case side1 => repeat (first | exact (Kd.R_reads' HO848.out).2.2 | (with_reducible refine Kd.C_alloc ?_ _) | (with_reducible refine Kd.C_drewN ?_ _) | (with_reducible refine Kd.C_drew ?_))); (case side2 => exact (Kd.R_reads' HO848.out).2.1); rintro e w14 ⟨v862, rfl, ho0, hb⟩; refine ⟨_, rfl, ?_⟩; have n0_ := Aside0.mk (Kd.R_elder' (zqR HO848.out) (Kd.R_base ho0) hb); have n1_ := Aside0.mk (Kd.R_elder' (zqR HO858.out) (Kd.R_base ho0) hb); have n2_ := Aside0.mk (Kd.R_lower (Kd.R_newB (Kd.R_new' (Kd.R_new' ho0 (Kd.R_lt (zqR HO848.out))) (Kd.R_lt (zqR HO858.out))) (g := gb855) (o := .cells #[.int .i64 t849, .int .i64 t850, .int .i64 t851, .int .i64 t852, .int .i64 t853, .int .i64 t854] 31 (0, 0)) (zqK BK855.out)) (below_size zq9)); have n3_ := Aside0.mk (blk_below (g := gb855) (o := .cells #[.int .i64 t849, .int .i64 t850, .int .i64 t851, .int .i64 t852, .int .i64 t853, .int .i64 t854] 31 (0, 0)) (zqK BK855.out) hb); have n4_ := Aside0.mk (below_step zq9 hb); clear HO848; clear HO858; clear BK855; clear HB; have HO848 := n0_; have HO858 := n1_; have HO863 := n2_; have BK855 := n3_; have HB := n4_; clear n0_ n1_ n2_ n3_ n4_; (try clear hb); (try clear hb2); (try clear hk); (try clear hi); (try clear ho0)))
  (try simp only [Act.put, List.setIfInBounds_toArray, List.set_cons_zero, List.set_cons_succ])
  go_cut [69] (fun v69 wc => ∃ (kq : Nat) (x69_6 : Bool), v69 = .bool x69_6 ∧ Aside0 (laws_FnIssuing.j0 kq l0 t846 t856 t859 t860 x69_6 t849 t850 t851 t852 t853 t854 = some r) ∧ Aside0 (kq ≤ k) ∧ Aside0 (Kd.R k31 31 wc w.heap.size (fun k_ => some k_ ≠ (v857 : Value).ownBlock ∧ k_ ≠ gb855) (.slice Ao11 t846.length co11) t846) ∧ Aside0 (Kd.R k31 31 wc w.heap.size (fun k_ => some k_ ≠ ((.slice Ao11 t846.length co11) : Value).ownBlock ∧ k_ ≠ gb855) v857 t856) ∧ Aside0 (wc.heap[gb855]? = some (.cells #[.int .i64 t849, .int .i64 t850, .int .i64 t851, .int .i64 t852, .int .i64 t853, .int .i64 t854] 31 (0, 0))) ∧ Aside0 (Below w.heap.size w wc))
  case first =>
   have H := HC7.out
   clear HC7
   by_cases c15 : (t860 != t865) = true
   ·
    rw [if_pos c15] at H
    exact absurd H (by simp)
   ·
    rw [if_neg c15] at H
    have c15b0 : (t860 != t865) = false := by simpa using c15
    (try (have c15b1 : decide (t860 = t865) = true := by simpa using c15))
    (try (have c15b2 : (t860 == t865) = true := by simpa using c15))
    clear c15
    (first | rw [c15b0] | (simp only [i64_w, i32_w]; rw [c15b0]) | rw [c15b1] | skip)
    by_cases c16 : t859 = t864
    ·
     rw [if_pos c16] at H
     have c16b0 : (t859 == t864) = true := beq_iff_eq.mpr c16
     have c16b1 : (t859 != t864) = false := bne_eq_false_iff_eq.mpr c16
     clear c16
     replace H := Option.bind_eq_some_iff.mp H
     obtain ⟨t866, A170, H⟩ := H
     replace H : (if t866 = true then ((impl_IsConsistent.f k t846).bind fun t867 => ((spec_IsConsistent.f k t846).bind fun t868 => (laws_FnIssuing.j0 k l0 t846 t856 t859 t860 (t867 != t868) t849 t850 t851 t852 t853 t854))) else (none)) = some r := H
     have A17 := Aside0.mk A170
     clear A170
     by_cases c18 : t866 = true
     ·
      subst c18
      have H1 : ((impl_IsConsistent.f k t846).bind fun t867 => ((spec_IsConsistent.f k t846).bind fun t868 => (laws_FnIssuing.j0 k l0 t846 t856 t859 t860 (t867 != t868) t849 t850 t851 t852 t853 t854))) = some r := by rw [if_pos rfl] at H; exact H
      clear H
      have H := H1
      clear H1
      replace H := Option.bind_eq_some_iff.mp H
      obtain ⟨t867, A190, H⟩ := H
      replace H : ((spec_IsConsistent.f k t846).bind fun t868 => (laws_FnIssuing.j0 k l0 t846 t856 t859 t860 (t867 != t868) t849 t850 t851 t852 t853 t854)) = some r := H
      have A19 := Aside0.mk A190
      clear A190
      replace H := Option.bind_eq_some_iff.mp H
      obtain ⟨t868, A200, H⟩ := H
      replace H : (laws_FnIssuing.j0 k l0 t846 t856 t859 t860 (t867 != t868) t849 t850 t851 t852 t853 t854) = some r := H
      have A20 := Aside0.mk A200
      clear A200
      have H' := Aside0.mk H
      clear H
      obtain ⟨Ao21, co21, eo21⟩ := Kd.R_slice HO858.out
      subst eo21
      obtain ⟨Ao22, co22, eo22⟩ := Kd.R_slice HO863.out
      subst eo22
      go_wp2_with (first | (go_at_call 11; (with_reducible refine (laws_vWarnings.calls k _ _ t856 _ _ t861 true _ ?side1 ?side2 ?side3 ?side4 A17.out).mono ?_); (case side1 => repeat (first | exact (Kd.R_reads' HO858.out).2.2 | (with_reducible refine Kd.C_alloc ?_ _) | (with_reducible refine Kd.C_drewN ?_ _) | (with_reducible refine Kd.C_drew ?_))); (case side2 => exact (Kd.R_reads' HO858.out).2.1); (case side3 => repeat (first | exact (Kd.R_reads' HO863.out).2.2 | (with_reducible refine Kd.C_alloc ?_ _) | (with_reducible refine Kd.C_drewN ?_ _) | (with_reducible refine Kd.C_drew ?_))); (case side4 => exact (Kd.R_reads' HO863.out).2.1); rintro e w' ⟨rfl, ⟨nd, rfl⟩⟩) | (go_at_call 12; (with_reducible refine (impl_IsConsistent.calls k _ _ t846 t867 _ ?side1 ?side2 A19.out).mono ?_); (case side1 => repeat (first | exact (Kd.R_reads' HO848.out).2.2 | (with_reducible refine Kd.C_alloc ?_ _) | (with_reducible refine Kd.C_drewN ?_ _) | (with_reducible refine Kd.C_drew ?_))); (case side2 => exact (Kd.R_reads' HO848.out).2.1); rintro e w23 ⟨rfl, hb⟩; have n0_ := Aside0.mk (Kd.R_below (zqR HO848.out) hb); have n1_ := Aside0.mk (Kd.R_below (zqR HO858.out) hb); have n2_ := Aside0.mk (Kd.R_below (zqR HO863.out) hb); have n3_ := Aside0.mk (blk_below (g := gb855) (o := .cells #[.int .i64 t849, .int .i64 t850, .int .i64 t851, .int .i64 t852, .int .i64 t853, .int .i64 t854] 31 (0, 0)) (zqK BK855.out) hb); have n4_ := Aside0.mk (below_step zq9 hb); clear HO848; clear HO858; clear HO863; clear BK855; clear HB; have HO848 := n0_; have HO858 := n1_; have HO863 := n2_; have BK855 := n3_; have HB := n4_; clear n0_ n1_ n2_ n3_ n4_; (try clear hb); (try clear hb2); (try clear hk); (try clear hi)) | (go_at_call 32; (with_reducible refine (spec_IsConsistent.calls k _ _ t846 t868 _ ?side1 ?side2 A20.out).mono ?_); (case side1 => repeat (first | exact (Kd.R_reads' HO848.out).2.2 | (with_reducible refine Kd.C_alloc ?_ _) | (with_reducible refine Kd.C_drewN ?_ _) | (with_reducible refine Kd.C_drew ?_))); (case side2 => exact (Kd.R_reads' HO848.out).2.1); rintro e w24 ⟨rfl, hb⟩; have n0_ := Aside0.mk (Kd.R_below (zqR HO848.out) hb); have n1_ := Aside0.mk (Kd.R_below (zqR HO858.out) hb); have n2_ := Aside0.mk (Kd.R_below (zqR HO863.out) hb); have n3_ := Aside0.mk (blk_below (g := gb855) (o := .cells #[.int .i64 t849, .int .i64 t850, .int .i64 t851, .int .i64 t852, .int .i64 t853, .int .i64 t854] 31 (0, 0)) (zqK BK855.out) hb); have n4_ := Aside0.mk (below_step zq9 hb); clear HO848; clear HO858; clear HO863; clear BK855; clear HB; have HO848 := n0_; have HO858 := n1_; have HO863 := n2_; have BK855 := n3_; have HB := n4_; clear n0_ n1_ n2_ n3_ n4_; (try clear hb); (try clear hb2); (try clear hk); (try clear hi)))
      go_meet
      case rel => exact ⟨_, ((t867 != t868)), (by first | rfl | (simp; done) | (simp [*]; done)), H', ⟨by first | omega | exact Nat.le_refl _⟩, ⟨by (with_reducible repeat (first | apply Kd.R_alloc | apply Kd.R_drewN | apply Kd.R_drew)); exact Kd.R_mono HO848.out (fun _ hk => ⟨hk.1.2, hk.1.1.2⟩)⟩, ⟨by (with_reducible repeat (first | apply Kd.R_alloc | apply Kd.R_drewN | apply Kd.R_drew)); exact Kd.R_mono HO858.out (fun _ hk => ⟨hk.1.1.2, hk.1.2⟩)⟩, ⟨by (with_reducible repeat (first | refine blk_drewN ?_ _ | refine blk_drew ?_ | refine blk_alloc ?_ _)); exact BK855.out⟩, ⟨by repeat (first | (with_reducible first | exact HB.out | apply below_alloc | apply pw_below_drewN | apply below_drew1 | refine below_set ?_ GE855.out) | exact HB.out)⟩⟩
     ·
      replace c18 := Bool.eq_false_iff.mpr c18
      subst c18
      have H1 : (none) = some r := by rw [if_neg (show ¬ (false = true) by decide)] at H; exact H
      clear H
      have H := H1
      clear H1
      exact absurd H (by simp)
    ·
     rw [if_neg c16] at H
     exact absurd H (by simp)
  case rest =>
   clear HC7
   try clear c1
   try clear c2
   try clear p2
   try clear c3
   try clear c5
   try clear c7
   try clear c15
   try clear c15b0
   try clear c15b1
   try clear c15b2
   try clear c16
   try clear c16b0
   try clear c16b1
   try clear c18
   try clear hcz10_0
   try clear hcz10_1
   try clear hcz10_2
   try clear hcz10_3
   try clear hcz10_4
   try clear hcz10_5
   try clear hcz13_0
   try clear hcz13_1
   try clear hcz13_2
   try clear hcz13_3
   try clear hcz13_4
   try clear hcz13_5
   try clear hfz10_0
   try clear hfz10_1
   try clear hfz10_2
   try clear hfz10_3
   try clear hfz10_4
   try clear hfz10_5
   try clear hfz13_0
   try clear hfz13_1
   try clear hfz13_2
   try clear hfz13_3
   try clear hfz13_4
   try clear hfz13_5
   obtain ⟨kq, x69_6, rfl, HA, HJ6, HO_3, HO_5, BK855, HB⟩ := hcut
   cases kq with
   | zero => exact absurd HA.out (by simp [laws_FnIssuing.j0])
   | succ kj6 =>
    have H := HA.out
    clear HA
    simp only [laws_FnIssuing.j0] at H
    by_cases c25 : x69_6 = true
    ·
     subst c25
     have H1 : (none) = some r := by rw [if_pos rfl] at H; exact H
     clear H
     have H := H1
     clear H1
     exact absurd H (by simp)
    ·
     replace c25 := Bool.eq_false_iff.mpr c25
     subst c25
     have H1 : (if t860 = true then ((impl_CancelWarning.f kj6 t856 t859 t853).bind fun bt869 => ((impl_ActiveAt.f kj6 t856 t853).bind fun bt873 => ((impl_IsConsistent.f kj6 t856).bind fun t877 => (if t877 = true then (if bt869.2 = true then ((laws_vWarnings.f kj6 bt869.1 t846).bind fun t878 => (if t878 = true then (if bt873.2 = true then ((laws_vHas.f kj6 bt873.1 t859).bind fun t879 => (if t879 = true then (laws_FnIssuing.j1 kj6 l0) else (none))) else (none)) else (none))) else (none)) else (none))))) else (laws_FnIssuing.j1 kj6 l0)) = some r := by rw [if_neg (show ¬ (false = true) by decide)] at H; exact H
     clear H
     have H := H1
     clear H1
     have HC26 := Aside0.mk H
     clear H
     go_upto_if 70 with (fail)
     go_cut [] (fun wc => ∃ (kq : Nat), Aside0 (laws_FnIssuing.j1 kq l0 = some r) ∧ Aside0 (kq ≤ kj6) ∧ Aside0 (wc.heap[gb855]? = some (.cells #[.int .i64 t849, .int .i64 t850, .int .i64 t851, .int .i64 t852, .int .i64 t853, .int .i64 t854] 31 (0, 0))) ∧ Aside0 (Below w.heap.size w wc))
     case first =>
      have H := HC26.out
      clear HC26
      by_cases c27 : t860 = true
      ·
       subst c27
       have H1 : ((impl_CancelWarning.f kj6 t856 t859 t853).bind fun bt869 => ((impl_ActiveAt.f kj6 t856 t853).bind fun bt873 => ((impl_IsConsistent.f kj6 t856).bind fun t877 => (if t877 = true then (if bt869.2 = true then ((laws_vWarnings.f kj6 bt869.1 t846).bind fun t878 => (if t878 = true then (if bt873.2 = true then ((laws_vHas.f kj6 bt873.1 t859).bind fun t879 => (if t879 = true then (laws_FnIssuing.j1 kj6 l0) else (none))) else (none)) else (none))) else (none)) else (none))))) = some r := by rw [if_pos rfl] at H; exact H
       clear H
       have H := H1
       clear H1
       replace H := Option.bind_eq_some_iff.mp H
       obtain ⟨⟨t869, t870⟩, A280, H⟩ := H
       replace H : ((impl_ActiveAt.f kj6 t856 t853).bind fun bt873 => ((impl_IsConsistent.f kj6 t856).bind fun t877 => (if t877 = true then (if t870 = true then ((laws_vWarnings.f kj6 t869 t846).bind fun t878 => (if t878 = true then (if bt873.2 = true then ((laws_vHas.f kj6 bt873.1 t859).bind fun t879 => (if t879 = true then (laws_FnIssuing.j1 kj6 l0) else (none))) else (none)) else (none))) else (none)) else (none)))) = some r := H
       have A28 := Aside0.mk A280
       clear A280
       replace H := Option.bind_eq_some_iff.mp H
       obtain ⟨⟨t873, t874⟩, A290, H⟩ := H
       replace H : ((impl_IsConsistent.f kj6 t856).bind fun t877 => (if t877 = true then (if t870 = true then ((laws_vWarnings.f kj6 t869 t846).bind fun t878 => (if t878 = true then (if t874 = true then ((laws_vHas.f kj6 t873 t859).bind fun t879 => (if t879 = true then (laws_FnIssuing.j1 kj6 l0) else (none))) else (none)) else (none))) else (none)) else (none))) = some r := H
       have A29 := Aside0.mk A290
       clear A290
       replace H := Option.bind_eq_some_iff.mp H
       obtain ⟨t877, A300, H⟩ := H
       replace H : (if t877 = true then (if t870 = true then ((laws_vWarnings.f kj6 t869 t846).bind fun t878 => (if t878 = true then (if t874 = true then ((laws_vHas.f kj6 t873 t859).bind fun t879 => (if t879 = true then (laws_FnIssuing.j1 kj6 l0) else (none))) else (none)) else (none))) else (none)) else (none)) = some r := H
       have A30 := Aside0.mk A300
       clear A300
       by_cases c31 : t877 = true
       ·
        subst c31
        have H1 : (if t870 = true then ((laws_vWarnings.f kj6 t869 t846).bind fun t878 => (if t878 = true then (if t874 = true then ((laws_vHas.f kj6 t873 t859).bind fun t879 => (if t879 = true then (laws_FnIssuing.j1 kj6 l0) else (none))) else (none)) else (none))) else (none)) = some r := by rw [if_pos rfl] at H; exact H
        clear H
        have H := H1
        clear H1
        by_cases c32 : t870 = true
        ·
         subst c32
         have H1 : ((laws_vWarnings.f kj6 t869 t846).bind fun t878 => (if t878 = true then (if t874 = true then ((laws_vHas.f kj6 t873 t859).bind fun t879 => (if t879 = true then (laws_FnIssuing.j1 kj6 l0) else (none))) else (none)) else (none))) = some r := by rw [if_pos rfl] at H; exact H
         clear H
         have H := H1
         clear H1
         replace H := Option.bind_eq_some_iff.mp H
         obtain ⟨t878, A330, H⟩ := H
         replace H : (if t878 = true then (if t874 = true then ((laws_vHas.f kj6 t873 t859).bind fun t879 => (if t879 = true then (laws_FnIssuing.j1 kj6 l0) else (none))) else (none)) else (none)) = some r := H
         have A33 := Aside0.mk A330
         clear A330
         by_cases c34 : t878 = true
         ·
          subst c34
          have H1 : (if t874 = true then ((laws_vHas.f kj6 t873 t859).bind fun t879 => (if t879 = true then (laws_FnIssuing.j1 kj6 l0) else (none))) else (none)) = some r := by rw [if_pos rfl] at H; exact H
          clear H
          have H := H1
          clear H1
          by_cases c35 : t874 = true
          ·
           subst c35
           have H1 : ((laws_vHas.f kj6 t873 t859).bind fun t879 => (if t879 = true then (laws_FnIssuing.j1 kj6 l0) else (none))) = some r := by rw [if_pos rfl] at H; exact H
           clear H
           have H := H1
           clear H1
           replace H := Option.bind_eq_some_iff.mp H
           obtain ⟨t879, A360, H⟩ := H
           replace H : (if t879 = true then (laws_FnIssuing.j1 kj6 l0) else (none)) = some r := H
           have A36 := Aside0.mk A360
           clear A360
           by_cases c37 : t879 = true
           ·
            subst c37
            have H1 : (laws_FnIssuing.j1 kj6 l0) = some r := by rw [if_pos rfl] at H; exact H
            clear H
            have H := H1
            clear H1
            have H' := Aside0.mk H
            clear H
            have hcz38_0 : wc.cell? ⟨gb855, 0, none⟩ = some (.int .i64 t849) := (blk_cell BK855.out 0).trans rfl
            have hcz38_1 : wc.cell? ⟨gb855, 1, none⟩ = some (.int .i64 t850) := (blk_cell BK855.out 1).trans rfl
            have hcz38_2 : wc.cell? ⟨gb855, 2, none⟩ = some (.int .i64 t851) := (blk_cell BK855.out 2).trans rfl
            have hcz38_3 : wc.cell? ⟨gb855, 3, none⟩ = some (.int .i64 t852) := (blk_cell BK855.out 3).trans rfl
            have hcz38_4 : wc.cell? ⟨gb855, 4, none⟩ = some (.int .i64 t853) := (blk_cell BK855.out 4).trans rfl
            have hcz38_5 : wc.cell? ⟨gb855, 5, none⟩ = some (.int .i64 t854) := (blk_cell BK855.out 5).trans rfl
            have hfz38_0 := blk_frozen BK855.out 0
            have hfz38_1 := blk_frozen BK855.out 1
            have hfz38_2 := blk_frozen BK855.out 2
            have hfz38_3 := blk_frozen BK855.out 3
            have hfz38_4 := blk_frozen BK855.out 4
            have hfz38_5 := blk_frozen BK855.out 5
            obtain ⟨Ao39, co39, eo39⟩ := Kd.R_slice HO_5.out
            subst eo39
            go_wp2_with (first | ((with_reducible refine gate_callee (f := 16) rfl ?_); refine goesL_ (some 76) rfl rfl Try.func16 (by kernel_rfl) rfl #[.slice Ao39 t856.length co39, .int .i64 t859, .int .i64 t853] rfl zq1 ?_; (with_reducible refine (impl_CancelWarning.calls kj6 _ _ t856 t859 t853 t869 true _ ?side1 ?side2 A28.out).mono ?_); (case side1 => repeat (first | exact (Kd.R_reads' HO_5.out).2.2 | (with_reducible refine Kd.C_alloc ?_ _) | (with_reducible refine Kd.C_drewN ?_ _) | (with_reducible refine Kd.C_drew ?_))); (case side2 => exact (Kd.R_reads' HO_5.out).2.1); rintro e w40 ⟨v871, rfl, ho0, hb⟩; refine ⟨_, rfl, ?_⟩; have n0_ := Aside0.mk (Kd.R_elder' (zqR HO_3.out) (Kd.R_base ho0) hb); have n1_ := Aside0.mk (Kd.R_elder' (zqR HO_5.out) (Kd.R_base ho0) hb); have n2_ := Aside0.mk (Kd.R_lower (Kd.R_newB (Kd.R_new' (Kd.R_new' ho0 (Kd.R_lt (zqR HO_3.out))) (Kd.R_lt (zqR HO_5.out))) (g := gb855) (o := .cells #[.int .i64 t849, .int .i64 t850, .int .i64 t851, .int .i64 t852, .int .i64 t853, .int .i64 t854] 31 (0, 0)) (zqK BK855.out)) (below_size zq9)); have n3_ := Aside0.mk (blk_below (g := gb855) (o := .cells #[.int .i64 t849, .int .i64 t850, .int .i64 t851, .int .i64 t852, .int .i64 t853, .int .i64 t854] 31 (0, 0)) (zqK BK855.out) hb); have n4_ := Aside0.mk (below_step zq9 hb); clear HO_3; clear HO_5; clear BK855; clear HB; have HO_3 := n0_; have HO_5 := n1_; have HO872 := n2_; have BK855 := n3_; have HB := n4_; clear n0_ n1_ n2_ n3_ n4_; (try clear hb); (try clear hb2); (try clear hk); (try clear hi); (try clear ho0); have hcz41_0 : w40.cell? ⟨gb855, 0, none⟩ = some (.int .i64 t849) := (blk_cell BK855.out 0).trans rfl; have hcz41_1 : w40.cell? ⟨gb855, 1, none⟩ = some (.int .i64 t850) := (blk_cell BK855.out 1).trans rfl; have hcz41_2 : w40.cell? ⟨gb855, 2, none⟩ = some (.int .i64 t851) := (blk_cell BK855.out 2).trans rfl; have hcz41_3 : w40.cell? ⟨gb855, 3, none⟩ = some (.int .i64 t852) := (blk_cell BK855.out 3).trans rfl; have hcz41_4 : w40.cell? ⟨gb855, 4, none⟩ = some (.int .i64 t853) := (blk_cell BK855.out 4).trans rfl; have hcz41_5 : w40.cell? ⟨gb855, 5, none⟩ = some (.int .i64 t854) := (blk_cell BK855.out 5).trans rfl; have hfz41_0 := blk_frozen BK855.out 0; have hfz41_1 := blk_frozen BK855.out 1; have hfz41_2 := blk_frozen BK855.out 2; have hfz41_3 := blk_frozen BK855.out 3; have hfz41_4 := blk_frozen BK855.out 4; have hfz41_5 := blk_frozen BK855.out 5) | ((with_reducible refine gate_callee (f := 33) rfl ?_); refine goesL_ (some 83) rfl rfl Try.func33 (by kernel_rfl) rfl #[.slice Ao39 t856.length co39, .int .i64 t853] rfl zq1 ?_; (with_reducible refine (impl_ActiveAt.calls kj6 _ _ t856 t853 t873 true _ ?side1 ?side2 A29.out).mono ?_); (case side1 => repeat (first | exact (Kd.R_reads' HO_5.out).2.2 | (with_reducible refine Kd.C_alloc ?_ _) | (with_reducible refine Kd.C_drewN ?_ _) | (with_reducible refine Kd.C_drew ?_))); (case side2 => exact (Kd.R_reads' HO_5.out).2.1); rintro e w42 ⟨v875, rfl, ho0, hb⟩; refine ⟨_, rfl, ?_⟩; have n0_ := Aside0.mk (Kd.R_below (zqR HO_3.out) hb); have n1_ := Aside0.mk (Kd.R_below (zqR HO_5.out) hb); have n2_ := Aside0.mk (Kd.R_below (zqR HO872.out) hb); have n3_ := Aside0.mk (Kd.R_lower ho0 (below_size zq9)); have n4_ := Aside0.mk (blk_below (g := gb855) (o := .cells #[.int .i64 t849, .int .i64 t850, .int .i64 t851, .int .i64 t852, .int .i64 t853, .int .i64 t854] 31 (0, 0)) (zqK BK855.out) hb); have n5_ := Aside0.mk (below_step zq9 hb); clear HO_3; clear HO_5; clear HO872; clear BK855; clear HB; have HO_3 := n0_; have HO_5 := n1_; have HO872 := n2_; have HO876 := n3_; have BK855 := n4_; have HB := n5_; clear n0_ n1_ n2_ n3_ n4_ n5_; (try clear hb); (try clear hb2); (try clear hk); (try clear hi); (try clear ho0)) | ((with_reducible refine gate_callee (f := 12) rfl ?_); refine goesL_ (some 87) rfl rfl Try.func12 (by kernel_rfl) rfl #[.slice Ao39 t856.length co39] rfl zq1 ?_; (with_reducible refine (impl_IsConsistent.calls kj6 _ _ t856 true _ ?side1 ?side2 A30.out).mono ?_); (case side1 => repeat (first | exact (Kd.R_reads' HO_5.out).2.2 | (with_reducible refine Kd.C_alloc ?_ _) | (with_reducible refine Kd.C_drewN ?_ _) | (with_reducible refine Kd.C_drew ?_))); (case side2 => exact (Kd.R_reads' HO_5.out).2.1); rintro e w43 ⟨rfl, hb⟩; refine ⟨_, rfl, ?_⟩; have n0_ := Aside0.mk (Kd.R_below (zqR HO_3.out) hb); have n1_ := Aside0.mk (Kd.R_below (zqR HO_5.out) hb); have n2_ := Aside0.mk (Kd.R_below (zqR HO872.out) hb); have n3_ := Aside0.mk (Kd.R_below (zqR HO876.out) hb); have n4_ := Aside0.mk (blk_below (g := gb855) (o := .cells #[.int .i64 t849, .int .i64 t850, .int .i64 t851, .int .i64 t852, .int .i64 t853, .int .i64 t854] 31 (0, 0)) (zqK BK855.out) hb); have n5_ := Aside0.mk (below_step zq9 hb); clear HO_3; clear HO_5; clear HO872; clear HO876; clear BK855; clear HB; have HO_3 := n0_; have HO_5 := n1_; have HO872 := n2_; have HO876 := n3_; have BK855 := n4_; have HB := n5_; clear n0_ n1_ n2_ n3_ n4_ n5_; (try clear hb); (try clear hb2); (try clear hk); (try clear hi); obtain ⟨Ao44, co44, eo44⟩ := Kd.R_slice HO872.out; subst eo44) | (go_at_call 11; (with_reducible refine (laws_vWarnings.calls kj6 _ _ t869 _ _ t846 true _ ?side1 ?side2 ?side3 ?side4 A33.out).mono ?_); (case side1 => repeat (first | exact (Kd.R_reads' HO872.out).2.2 | (with_reducible refine Kd.C_alloc ?_ _) | (with_reducible refine Kd.C_drewN ?_ _) | (with_reducible refine Kd.C_drew ?_))); (case side2 => exact (Kd.R_reads' HO872.out).2.1); (case side3 => repeat (first | exact (Kd.R_reads' HO_3.out).2.2 | (with_reducible refine Kd.C_alloc ?_ _) | (with_reducible refine Kd.C_drewN ?_ _) | (with_reducible refine Kd.C_drew ?_))); (case side4 => exact (Kd.R_reads' HO_3.out).2.1); rintro e w' ⟨rfl, ⟨nd, rfl⟩⟩; obtain ⟨Ao45, co45, eo45⟩ := Kd.R_slice HO876.out; subst eo45) | (go_at_call 34; (with_reducible refine (laws_vHas.calls kj6 _ _ t873 t859 true _ ?side1 ?side2 A36.out).mono ?_); (case side1 => repeat (first | exact (Kd.R_reads' HO876.out).2.2 | (with_reducible refine Kd.C_alloc ?_ _) | (with_reducible refine Kd.C_drewN ?_ _) | (with_reducible refine Kd.C_drew ?_))); (case side2 => exact (Kd.R_reads' HO876.out).2.1); rintro e w' ⟨rfl, ⟨nd, rfl⟩⟩))
            go_meet
            case rel => exact ⟨_, H', ⟨by have := HJ6.out; first | omega | exact Nat.le_refl _⟩, ⟨by (with_reducible repeat (first | refine blk_drewN ?_ _ | refine blk_drew ?_ | refine blk_alloc ?_ _)); exact BK855.out⟩, ⟨by repeat (first | (with_reducible first | exact HB.out | apply below_alloc | apply pw_below_drewN | apply below_drew1 | refine below_set ?_ GE855.out) | exact HB.out)⟩⟩
           ·
            replace c37 := Bool.eq_false_iff.mpr c37
            subst c37
            have H1 : (none) = some r := by rw [if_neg (show ¬ (false = true) by decide)] at H; exact H
            clear H
            have H := H1
            clear H1
            exact absurd H (by simp)
          ·
           replace c35 := Bool.eq_false_iff.mpr c35
           subst c35
           have H1 : (none) = some r := by rw [if_neg (show ¬ (false = true) by decide)] at H; exact H
           clear H
           have H := H1
           clear H1
           exact absurd H (by simp)
         ·
          replace c34 := Bool.eq_false_iff.mpr c34
          subst c34
          have H1 : (none) = some r := by rw [if_neg (show ¬ (false = true) by decide)] at H; exact H
          clear H
          have H := H1
          clear H1
          exact absurd H (by simp)
        ·
         replace c32 := Bool.eq_false_iff.mpr c32
         subst c32
         have H1 : (none) = some r := by rw [if_neg (show ¬ (false = true) by decide)] at H; exact H
         clear H
         have H := H1
         clear H1
         exact absurd H (by simp)
       ·
        replace c31 := Bool.eq_false_iff.mpr c31
        subst c31
        have H1 : (none) = some r := by rw [if_neg (show ¬ (false = true) by decide)] at H; exact H
        clear H
        have H := H1
        clear H1
        exact absurd H (by simp)
      ·
       replace c27 := Bool.eq_false_iff.mpr c27
       subst c27
       have H1 : (laws_FnIssuing.j1 kj6 l0) = some r := by rw [if_neg (show ¬ (false = true) by decide)] at H; exact H
       clear H
       have H := H1
       clear H1
       have H' := Aside0.mk H
       clear H
       go_wp2
       go_meet
       case rel => exact ⟨_, H', ⟨by have := HJ6.out; first | omega | exact Nat.le_refl _⟩, ⟨by (with_reducible repeat (first | refine blk_drewN ?_ _ | refine blk_drew ?_ | refine blk_alloc ?_ _)); exact BK855.out⟩, ⟨by repeat (first | (with_reducible first | exact HB.out | apply below_alloc | apply pw_below_drewN | apply below_drew1 | refine below_set ?_ GE855.out) | exact HB.out)⟩⟩
     case rest =>
      clear HC26
      try clear c1
      try clear c2
      try clear p2
      try clear c3
      try clear c5
      try clear c7
      try clear c12
      try clear c15
      try clear c15b0
      try clear c15b1
      try clear c15b2
      try clear c16
      try clear c16b0
      try clear c16b1
      try clear c18
      try clear c25
      try clear c27
      try clear c29
      try clear c30
      try clear c31
      try clear c32
      try clear c33
      try clear c34
      try clear c35
      try clear c37
      try clear hcz10_0
      try clear hcz10_1
      try clear hcz10_2
      try clear hcz10_3
      try clear hcz10_4
      try clear hcz10_5
      try clear hcz13_0
      try clear hcz13_1
      try clear hcz13_2
      try clear hcz13_3
      try clear hcz13_4
      try clear hcz13_5
      try clear hcz38_0
      try clear hcz38_1
      try clear hcz38_2
      try clear hcz38_3
      try clear hcz38_4
      try clear hcz38_5
      try clear hcz41_0
      try clear hcz41_1
      try clear hcz41_2
      try clear hcz41_3
      try clear hcz41_4
      try clear hcz41_5
      try clear hfz10_0
      try clear hfz10_1
      try clear hfz10_2
      try clear hfz10_3
      try clear hfz10_4
      try clear hfz10_5
      try clear hfz13_0
      try clear hfz13_1
      try clear hfz13_2
      try clear hfz13_3
      try clear hfz13_4
      try clear hfz13_5
      try clear hfz38_0
      try clear hfz38_1
      try clear hfz38_2
      try clear hfz38_3
      try clear hfz38_4
      try clear hfz38_5
      try clear hfz41_0
      try clear hfz41_1
      try clear hfz41_2
      try clear hfz41_3
      try clear hfz41_4
      try clear hfz41_5
      try clear p2
      obtain ⟨kq, HA, HJ25, BK855, HB⟩ := hcut
      cases kq with
      | zero => exact absurd HA.out (by simp [laws_FnIssuing.j1])
      | succ kj25 =>
       have H := HA.out
       clear HA
       simp only [laws_FnIssuing.j1] at H
       replace H := Option.bind_eq_some_iff.mp H
       obtain ⟨⟨t880, t883, t884, t885, t886, t887, t888⟩, A460, H⟩ := H
       replace H : ((impl_MeetingWarnings.f kj25 t880 t883 t884 t885 t886 t887 t888).bind fun bt890 => ((spec_MeetingWarnings.f kj25 t880 t883 t884 t885 t886 t887 t888).bind fun bt894 => (if (bt890.2 != bt894.2) = true then (none) else ((laws_vInts.f kj25 bt890.1 bt894.1).bind fun t898 => (if t898 = true then (if bt890.2 = true then ((impl_IsValidWarning.f t883 t884 t885 t886 t887 t888).bind fun t899 => (laws_FnIssuing.j2 kj25 l0 (!t899))) else (laws_FnIssuing.j2 kj25 l0 false)) else (none)))))) = some r := H
       have A46 := Aside0.mk A460
       clear A460
       replace H := Option.bind_eq_some_iff.mp H
       obtain ⟨⟨t890, t893⟩, A470, H⟩ := H
       replace H : ((spec_MeetingWarnings.f kj25 t880 t883 t884 t885 t886 t887 t888).bind fun bt894 => (if (t893 != bt894.2) = true then (none) else ((laws_vInts.f kj25 t890 bt894.1).bind fun t898 => (if t898 = true then (if t893 = true then ((impl_IsValidWarning.f t883 t884 t885 t886 t887 t888).bind fun t899 => (laws_FnIssuing.j2 kj25 l0 (!t899))) else (laws_FnIssuing.j2 kj25 l0 false)) else (none))))) = some r := H
       have A47 := Aside0.mk A470
       clear A470
       replace H := Option.bind_eq_some_iff.mp H
       obtain ⟨⟨t894, t897⟩, A480, H⟩ := H
       replace H : (if (t893 != t897) = true then (none) else ((laws_vInts.f kj25 t890 t894).bind fun t898 => (if t898 = true then (if t893 = true then ((impl_IsValidWarning.f t883 t884 t885 t886 t887 t888).bind fun t899 => (laws_FnIssuing.j2 kj25 l0 (!t899))) else (laws_FnIssuing.j2 kj25 l0 false)) else (none)))) = some r := H
       have A48 := Aside0.mk A480
       clear A480
       have HC49 := Aside0.mk H
       clear H
       go_upto_region 16 with (first | ((with_reducible refine gate_callee (f := 35) rfl ?_); refine goesL_ (some 111) rfl rfl Try.func35 (by kernel_rfl) rfl #[.slice A0 l0.length c0] rfl zq1 ?_; (with_reducible refine (spec_DrawMeetingWarnings.calls kj25 _ _ l0 t880 t883 t884 t885 t886 t887 t888 _ ?side1 ?side2 A46.out).mono ?_); (case side1 => repeat (first | exact (Kd.C_below HR0.out HB.out) | (with_reducible refine Kd.C_alloc ?_ _) | (with_reducible refine Kd.C_drewN ?_ _) | (with_reducible refine Kd.C_drew ?_))); (case side2 => exact HC0.out); rintro e w50 ⟨v881, rfl, ho0, hb⟩; refine ⟨_, rfl, ?_⟩; have n0_ := Aside0.mk (Kd.R_lower (Kd.R_newB ho0 (g := gb855) (o := .cells #[.int .i64 t849, .int .i64 t850, .int .i64 t851, .int .i64 t852, .int .i64 t853, .int .i64 t854] 31 (0, 0)) (zqK BK855.out)) (below_size zq9)); have n1_ := Aside0.mk (blk_below (g := gb855) (o := .cells #[.int .i64 t849, .int .i64 t850, .int .i64 t851, .int .i64 t852, .int .i64 t853, .int .i64 t854] 31 (0, 0)) (zqK BK855.out) hb); have n2_ := Aside0.mk (below_step zq9 hb); clear BK855; clear HB; have HO882 := n0_; have BK855 := n1_; have HB := n2_; clear n0_ n1_ n2_; (try clear hb); (try clear hb2); (try clear hk); (try clear hi); (try clear ho0)) | ((with_reducible refine gate_dst (N := 16) rfl ?_); refine box_event ?hg (N := 16) ?hd (cs := #[.int .i64 0, .int .i64 0, .int .i64 0, .int .i64 0, .int .i64 0, .int .i64 0]) (t := 31) ?hr ?_; (case hd => rfl); (case hg => rfl); (case hr => first | (go_simp; done) | (go_simp; rfl)); intro gb889 hg w51 hbox hb; have n0_ := Aside0.mk (Kd.R_below (Kd.R_elderB (zqR HO882.out) gb889 (Nat.le_of_eq hg.symm)) hb); have n1_ := Aside0.mk (blk_below (g := gb855) (o := .cells #[.int .i64 t849, .int .i64 t850, .int .i64 t851, .int .i64 t852, .int .i64 t853, .int .i64 t854] 31 (0, 0)) (zqK BK855.out) hb); have n2_ := Aside0.mk (below_step zq9 hb); have n3_ := Aside0.mk (hbox); have n4_ := Aside0.mk ((by rw [hg]; exact (below_size zq9) : w.heap.size ≤ gb889)); have n5_ := Aside0.mk ((by rw [hg]; exact (below_size zq9) : w.heap.size ≤ gb889)); have n6_ := Aside0.mk ((by rw [hg]; exact Nat.ne_of_lt (blk_lt (g := gb855) (o := .cells #[.int .i64 t849, .int .i64 t850, .int .i64 t851, .int .i64 t852, .int .i64 t853, .int .i64 t854] 31 (0, 0)) (zqK BK855.out)) : gb855 ≠ gb889)); have n7_ := Aside0.mk ((by rw [hg]; exact Nat.ne_of_gt (blk_lt (g := gb855) (o := .cells #[.int .i64 t849, .int .i64 t850, .int .i64 t851, .int .i64 t852, .int .i64 t853, .int .i64 t854] 31 (0, 0)) (zqK BK855.out)) : gb889 ≠ gb855)); clear HO882; clear BK855; clear HB; have HO882 := n0_; have BK855 := n1_; have HB := n2_; have BK889 := n3_; have GW889 := n4_; have GE889 := n5_; have NB855_889 := n6_; have NB889_855 := n7_; clear n0_ n1_ n2_ n3_ n4_ n5_ n6_ n7_; clear hb hbox hg; have hnb52 := NB889_855.out; have hnc52 := NB855_889.out; have hcz53_0 : w51.cell? ⟨gb889, 0, none⟩ = some (.int .i64 0) := (blk_cell BK889.out 0).trans rfl; have hcz53_1 : w51.cell? ⟨gb889, 1, none⟩ = some (.int .i64 0) := (blk_cell BK889.out 1).trans rfl; have hcz53_2 : w51.cell? ⟨gb889, 2, none⟩ = some (.int .i64 0) := (blk_cell BK889.out 2).trans rfl; have hcz53_3 : w51.cell? ⟨gb889, 3, none⟩ = some (.int .i64 0) := (blk_cell BK889.out 3).trans rfl; have hcz53_4 : w51.cell? ⟨gb889, 4, none⟩ = some (.int .i64 0) := (blk_cell BK889.out 4).trans rfl; have hcz53_5 : w51.cell? ⟨gb889, 5, none⟩ = some (.int .i64 0) := (blk_cell BK889.out 5).trans rfl; have hfz53_0 := blk_frozen BK889.out 0; have hfz53_1 := blk_frozen BK889.out 1; have hfz53_2 := blk_frozen BK889.out 2; have hfz53_3 := blk_frozen BK889.out 3; have hfz53_4 := blk_frozen BK889.out 4; have hfz53_5 := blk_frozen BK889.out 5; obtain ⟨Ao54, co54, eo54⟩ := Kd.R_slice HO882.out; subst eo54) | ((with_reducible refine gate_callee (f := 36) rfl ?_); refine goesL_ (some 117) rfl rfl Try.func36 (by kernel_rfl) rfl #[.slice Ao54 t880.length co54, .agg #[.int .i64 t883, .int .i64 t884, .int .i64 t885, .int .i64 t886, .int .i64 t887, .int .i64 t888]] rfl zq1 ?_; (with_reducible refine (impl_MeetingWarnings.calls kj25 _ _ t880 t883 t884 t885 t886 t887 t888 t890 t893 _ ?side1 ?side2 A47.out).mono ?_); (case side1 => refine (Kd.R_reads' (e := 31) (base := w.heap.size) (ok := fun k_ => ((True ∧ k_ ≠ gb855) ∧ k_ ≠ gb889)) (n := t880.length) (c := co54) ?_).2.2; exact zq31); (case side2 => exact (Kd.R_reads' HO882.out).2.1); rintro e w55 ⟨v891, rfl, ho0, hb⟩; refine ⟨_, rfl, ?_⟩; have n0_ := Aside0.mk (Kd.R_below zq31 hb); have n1_ := Aside0.mk (Kd.R_lower ho0 (below_size zq5)); have n2_ := Aside0.mk (blk_below (g := gb855) (o := .cells #[.int .i64 t849, .int .i64 t850, .int .i64 t851, .int .i64 t852, .int .i64 t853, .int .i64 t854] 31 (0, 0)) (by (with_reducible repeat (first | refine blk_drewN ?_ _ | refine blk_drew ?_ | refine blk_alloc ?_ _)); refine blk_far ?_ NB855_889.out _; (with_reducible repeat (first | refine blk_drewN ?_ _ | refine blk_drew ?_ | refine blk_alloc ?_ _)); refine blk_far ?_ NB855_889.out _; (with_reducible repeat (first | refine blk_drewN ?_ _ | refine blk_drew ?_ | refine blk_alloc ?_ _)); refine blk_far ?_ NB855_889.out _; (with_reducible repeat (first | refine blk_drewN ?_ _ | refine blk_drew ?_ | refine blk_alloc ?_ _)); refine blk_far ?_ NB855_889.out _; (with_reducible repeat (first | refine blk_drewN ?_ _ | refine blk_drew ?_ | refine blk_alloc ?_ _)); refine blk_far ?_ NB855_889.out _; (with_reducible repeat (first | refine blk_drewN ?_ _ | refine blk_drew ?_ | refine blk_alloc ?_ _)); refine blk_far ?_ NB855_889.out _; (with_reducible repeat (first | refine blk_drewN ?_ _ | refine blk_drew ?_ | refine blk_alloc ?_ _)); exact BK855.out) hb); have n3_ := Aside0.mk (blk_below (g := gb889) (o := .cells #[.int .i64 t883, .int .i64 t884, .int .i64 t885, .int .i64 t886, .int .i64 t887, .int .i64 t888] 31 (0, 0)) (by (with_reducible repeat (first | refine blk_drewN ?_ _ | refine blk_drew ?_ | refine blk_alloc ?_ _)); refine blk_put (cs := #[.int .i64 t883, .int .i64 t884, .int .i64 t885, .int .i64 t886, .int .i64 t887, .int .i64 0]) ?_ 5 _ rfl; (with_reducible repeat (first | refine blk_drewN ?_ _ | refine blk_drew ?_ | refine blk_alloc ?_ _)); refine blk_put (cs := #[.int .i64 t883, .int .i64 t884, .int .i64 t885, .int .i64 t886, .int .i64 0, .int .i64 0]) ?_ 4 _ rfl; (with_reducible repeat (first | refine blk_drewN ?_ _ | refine blk_drew ?_ | refine blk_alloc ?_ _)); refine blk_put (cs := #[.int .i64 t883, .int .i64 t884, .int .i64 t885, .int .i64 0, .int .i64 0, .int .i64 0]) ?_ 3 _ rfl; (with_reducible repeat (first | refine blk_drewN ?_ _ | refine blk_drew ?_ | refine blk_alloc ?_ _)); refine blk_put (cs := #[.int .i64 t883, .int .i64 t884, .int .i64 0, .int .i64 0, .int .i64 0, .int .i64 0]) ?_ 2 _ rfl; (with_reducible repeat (first | refine blk_drewN ?_ _ | refine blk_drew ?_ | refine blk_alloc ?_ _)); refine blk_put (cs := #[.int .i64 t883, .int .i64 0, .int .i64 0, .int .i64 0, .int .i64 0, .int .i64 0]) ?_ 1 _ rfl; (with_reducible repeat (first | refine blk_drewN ?_ _ | refine blk_drew ?_ | refine blk_alloc ?_ _)); refine blk_put (cs := #[.int .i64 0, .int .i64 0, .int .i64 0, .int .i64 0, .int .i64 0, .int .i64 0]) ?_ 0 _ rfl; (with_reducible repeat (first | refine blk_drewN ?_ _ | refine blk_drew ?_ | refine blk_alloc ?_ _)); exact BK889.out) hb); have n4_ := Aside0.mk (below_step zq5 hb); clear HO882; clear BK855; clear BK889; clear HB; have HO882 := n0_; have HO892 := n1_; have BK855 := n2_; have BK889 := n3_; have HB := n4_; clear n0_ n1_ n2_ n3_ n4_; (try clear hb); (try clear hb2); (try clear hk); (try clear hi); (try clear ho0); have hcz56_0 : w55.cell? ⟨gb889, 0, none⟩ = some (.int .i64 t883) := (blk_cell BK889.out 0).trans rfl; have hcz56_1 : w55.cell? ⟨gb889, 1, none⟩ = some (.int .i64 t884) := (blk_cell BK889.out 1).trans rfl; have hcz56_2 : w55.cell? ⟨gb889, 2, none⟩ = some (.int .i64 t885) := (blk_cell BK889.out 2).trans rfl; have hcz56_3 : w55.cell? ⟨gb889, 3, none⟩ = some (.int .i64 t886) := (blk_cell BK889.out 3).trans rfl; have hcz56_4 : w55.cell? ⟨gb889, 4, none⟩ = some (.int .i64 t887) := (blk_cell BK889.out 4).trans rfl; have hcz56_5 : w55.cell? ⟨gb889, 5, none⟩ = some (.int .i64 t888) := (blk_cell BK889.out 5).trans rfl; have hfz56_0 := blk_frozen BK889.out 0; have hfz56_1 := blk_frozen BK889.out 1; have hfz56_2 := blk_frozen BK889.out 2; have hfz56_3 := blk_frozen BK889.out 3; have hfz56_4 := blk_frozen BK889.out 4; have hfz56_5 := blk_frozen BK889.out 5) | ((with_reducible refine gate_callee (f := 37) rfl ?_); refine goesL_ (some 123) rfl rfl Try.func37 (by kernel_rfl) rfl #[.slice Ao54 t880.length co54, .agg #[.int .i64 t883, .int .i64 t884, .int .i64 t885, .int .i64 t886, .int .i64 t887, .int .i64 t888]] rfl zq1 ?_; (with_reducible refine (spec_MeetingWarnings.calls kj25 _ _ t880 t883 t884 t885 t886 t887 t888 t894 t897 _ ?side1 ?side2 A48.out).mono ?_); (case side1 => repeat (first | exact (Kd.R_reads' HO882.out).2.2 | (with_reducible refine Kd.C_alloc ?_ _) | (with_reducible refine Kd.C_drewN ?_ _) | (with_reducible refine Kd.C_drew ?_))); (case side2 => exact (Kd.R_reads' HO882.out).2.1); rintro e w57 ⟨v895, rfl, ho0, hb⟩; refine ⟨_, rfl, ?_⟩; have n0_ := Aside0.mk (Kd.R_below (zqR HO882.out) hb); have n1_ := Aside0.mk (Kd.R_elder' (zqR HO892.out) (Kd.R_base ho0) hb); have n2_ := Aside0.mk (Kd.R_lower (Kd.R_new' ho0 (Kd.R_lt (zqR HO892.out))) (below_size zq5)); have n3_ := Aside0.mk (blk_below (g := gb855) (o := .cells #[.int .i64 t849, .int .i64 t850, .int .i64 t851, .int .i64 t852, .int .i64 t853, .int .i64 t854] 31 (0, 0)) (zqK BK855.out) hb); have n4_ := Aside0.mk (blk_below (g := gb889) (o := .cells #[.int .i64 t883, .int .i64 t884, .int .i64 t885, .int .i64 t886, .int .i64 t887, .int .i64 t888] 31 (0, 0)) (zqK BK889.out) hb); have n5_ := Aside0.mk (below_step zq5 hb); clear HO882; clear HO892; clear BK855; clear BK889; clear HB; have HO882 := n0_; have HO892 := n1_; have HO896 := n2_; have BK855 := n3_; have BK889 := n4_; have HB := n5_; clear n0_ n1_ n2_ n3_ n4_ n5_; (try clear hb); (try clear hb2); (try clear hk); (try clear hi); (try clear ho0)))
       (try simp only [Act.put, List.setIfInBounds_toArray, List.set_cons_zero, List.set_cons_succ])
       go_cut [142] (fun v142 wc => ∃ (kq : Nat) (x142_48 : Bool), v142 = .bool x142_48 ∧ Aside0 (laws_FnIssuing.j2 kq l0 x142_48 = some r) ∧ Aside0 (kq ≤ kj25) ∧ Aside0 (wc.heap[gb855]? = some (.cells #[.int .i64 t849, .int .i64 t850, .int .i64 t851, .int .i64 t852, .int .i64 t853, .int .i64 t854] 31 (0, 0))) ∧ Aside0 (wc.heap[gb889]? = some (.cells #[.int .i64 t883, .int .i64 t884, .int .i64 t885, .int .i64 t886, .int .i64 t887, .int .i64 t888] 31 (0, 0))) ∧ Aside0 (Below w.heap.size w wc))
       case first =>
        have H := HC49.out
        clear HC49
        by_cases c58 : (t893 != t897) = true
        ·
         rw [if_pos c58] at H
         exact absurd H (by simp)
        ·
         rw [if_neg c58] at H
         have c58b0 : (t893 != t897) = false := by simpa using c58
         (try (have c58b1 : decide (t893 = t897) = true := by simpa using c58))
         (try (have c58b2 : (t893 == t897) = true := by simpa using c58))
         clear c58
         (first | rw [c58b0] | (simp only [i64_w, i32_w]; rw [c58b0]) | rw [c58b1] | skip)
         replace H := Option.bind_eq_some_iff.mp H
         obtain ⟨t898, A590, H⟩ := H
         replace H : (if t898 = true then (if t893 = true then ((impl_IsValidWarning.f t883 t884 t885 t886 t887 t888).bind fun t899 => (laws_FnIssuing.j2 kj25 l0 (!t899))) else (laws_FnIssuing.j2 kj25 l0 false)) else (none)) = some r := H
         have A59 := Aside0.mk A590
         clear A590
         by_cases c60 : t898 = true
         ·
          subst c60
          have H1 : (if t893 = true then ((impl_IsValidWarning.f t883 t884 t885 t886 t887 t888).bind fun t899 => (laws_FnIssuing.j2 kj25 l0 (!t899))) else (laws_FnIssuing.j2 kj25 l0 false)) = some r := by rw [if_pos rfl] at H; exact H
          clear H
          have H := H1
          clear H1
          by_cases c61 : t893 = true
          ·
           subst c61
           have H1 : ((impl_IsValidWarning.f t883 t884 t885 t886 t887 t888).bind fun t899 => (laws_FnIssuing.j2 kj25 l0 (!t899))) = some r := by rw [if_pos rfl] at H; exact H
           clear H
           have H := H1
           clear H1
           replace H := Option.bind_eq_some_iff.mp H
           obtain ⟨t899, A620, H⟩ := H
           replace H : (laws_FnIssuing.j2 kj25 l0 (!t899)) = some r := H
           have A62 := Aside0.mk A620
           clear A620
           have H' := Aside0.mk H
           clear H
           obtain ⟨Ao63, co63, eo63⟩ := Kd.R_slice HO892.out
           subst eo63
           obtain ⟨Ao64, co64, eo64⟩ := Kd.R_slice HO896.out
           subst eo64
           go_wp2_with (first | (go_at_call 38; (with_reducible refine (laws_vInts.calls kj25 _ _ t890 _ _ t894 true _ ?side1 ?side2 ?side3 ?side4 A59.out).mono ?_); (case side1 => repeat (first | exact (Kd.R_reads' HO892.out).2.2 | (with_reducible refine Kd.C_alloc ?_ _) | (with_reducible refine Kd.C_drewN ?_ _) | (with_reducible refine Kd.C_drew ?_))); (case side2 => exact (Kd.R_reads' HO892.out).2.1); (case side3 => repeat (first | exact (Kd.R_reads' HO896.out).2.2 | (with_reducible refine Kd.C_alloc ?_ _) | (with_reducible refine Kd.C_drewN ?_ _) | (with_reducible refine Kd.C_drew ?_))); (case side4 => exact (Kd.R_reads' HO896.out).2.1); rintro e w' ⟨rfl, ⟨nd, rfl⟩⟩; have hnb65 := NB889_855.out; have hnc65 := NB855_889.out; have hcz66_0 : w57.cell? ⟨gb889, 0, none⟩ = some (.int .i64 t883) := (blk_cell BK889.out 0).trans rfl; have hcz66_1 : w57.cell? ⟨gb889, 1, none⟩ = some (.int .i64 t884) := (blk_cell BK889.out 1).trans rfl; have hcz66_2 : w57.cell? ⟨gb889, 2, none⟩ = some (.int .i64 t885) := (blk_cell BK889.out 2).trans rfl; have hcz66_3 : w57.cell? ⟨gb889, 3, none⟩ = some (.int .i64 t886) := (blk_cell BK889.out 3).trans rfl; have hcz66_4 : w57.cell? ⟨gb889, 4, none⟩ = some (.int .i64 t887) := (blk_cell BK889.out 4).trans rfl; have hcz66_5 : w57.cell? ⟨gb889, 5, none⟩ = some (.int .i64 t888) := (blk_cell BK889.out 5).trans rfl; have hfz66_0 := blk_frozen BK889.out 0; have hfz66_1 := blk_frozen BK889.out 1; have hfz66_2 := blk_frozen BK889.out 2; have hfz66_3 := blk_frozen BK889.out 3; have hfz66_4 := blk_frozen BK889.out 4; have hfz66_5 := blk_frozen BK889.out 5) | (go_at_call 39; (with_reducible refine (impl_IsValidWarning.calls t883 t884 t885 t886 t887 t888 t899 _ A62.out).mono ?_); rintro e w67 ⟨rfl, hb⟩; have n0_ := Aside0.mk (Kd.R_below (zqR HO882.out) hb); have n1_ := Aside0.mk (Kd.R_below (zqR HO892.out) hb); have n2_ := Aside0.mk (Kd.R_below (zqR HO896.out) hb); have n3_ := Aside0.mk (blk_below (g := gb855) (o := .cells #[.int .i64 t849, .int .i64 t850, .int .i64 t851, .int .i64 t852, .int .i64 t853, .int .i64 t854] 31 (0, 0)) (zqK BK855.out) hb); have n4_ := Aside0.mk (blk_below (g := gb889) (o := .cells #[.int .i64 t883, .int .i64 t884, .int .i64 t885, .int .i64 t886, .int .i64 t887, .int .i64 t888] 31 (0, 0)) (zqK BK889.out) hb); have n5_ := Aside0.mk (below_step zq5 hb); clear HO882; clear HO892; clear HO896; clear BK855; clear BK889; clear HB; have HO882 := n0_; have HO892 := n1_; have HO896 := n2_; have BK855 := n3_; have BK889 := n4_; have HB := n5_; clear n0_ n1_ n2_ n3_ n4_ n5_; (try clear hb); (try clear hb2); (try clear hk); (try clear hi)))
           go_meet
           case rel => exact ⟨_, (!t899), (by first | rfl | (simp; done) | (simp [*]; done)), H', ⟨by have := HJ6.out; have := HJ25.out; first | omega | exact Nat.le_refl _⟩, ⟨by (with_reducible repeat (first | refine blk_drewN ?_ _ | refine blk_drew ?_ | refine blk_alloc ?_ _)); exact BK855.out⟩, ⟨by (with_reducible repeat (first | refine blk_drewN ?_ _ | refine blk_drew ?_ | refine blk_alloc ?_ _)); exact BK889.out⟩, ⟨by repeat (first | (with_reducible first | exact HB.out | apply below_alloc | apply pw_below_drewN | apply below_drew1 | refine below_set ?_ GE855.out | refine below_set ?_ GE889.out) | exact HB.out)⟩⟩
          ·
           replace c61 := Bool.eq_false_iff.mpr c61
           subst c61
           have H1 : (laws_FnIssuing.j2 kj25 l0 false) = some r := by rw [if_neg (show ¬ (false = true) by decide)] at H; exact H
           clear H
           have H := H1
           clear H1
           have H' := Aside0.mk H
           clear H
           obtain ⟨Ao68, co68, eo68⟩ := Kd.R_slice HO892.out
           subst eo68
           obtain ⟨Ao69, co69, eo69⟩ := Kd.R_slice HO896.out
           subst eo69
           go_wp2_with (first | (go_at_call 38; (with_reducible refine (laws_vInts.calls kj25 _ _ t890 _ _ t894 true _ ?side1 ?side2 ?side3 ?side4 A59.out).mono ?_); (case side1 => repeat (first | exact (Kd.R_reads' HO892.out).2.2 | (with_reducible refine Kd.C_alloc ?_ _) | (with_reducible refine Kd.C_drewN ?_ _) | (with_reducible refine Kd.C_drew ?_))); (case side2 => exact (Kd.R_reads' HO892.out).2.1); (case side3 => repeat (first | exact (Kd.R_reads' HO896.out).2.2 | (with_reducible refine Kd.C_alloc ?_ _) | (with_reducible refine Kd.C_drewN ?_ _) | (with_reducible refine Kd.C_drew ?_))); (case side4 => exact (Kd.R_reads' HO896.out).2.1); rintro e w' ⟨rfl, ⟨nd, rfl⟩⟩))
           go_meet
           case rel => exact ⟨_, (false), (by first | rfl | (simp; done) | (simp [*]; done)), H', ⟨by have := HJ6.out; have := HJ25.out; first | omega | exact Nat.le_refl _⟩, ⟨by (with_reducible repeat (first | refine blk_drewN ?_ _ | refine blk_drew ?_ | refine blk_alloc ?_ _)); exact BK855.out⟩, ⟨by (with_reducible repeat (first | refine blk_drewN ?_ _ | refine blk_drew ?_ | refine blk_alloc ?_ _)); exact BK889.out⟩, ⟨by repeat (first | (with_reducible first | exact HB.out | apply below_alloc | apply pw_below_drewN | apply below_drew1 | refine below_set ?_ GE855.out | refine below_set ?_ GE889.out) | exact HB.out)⟩⟩
         ·
          replace c60 := Bool.eq_false_iff.mpr c60
          subst c60
          have H1 : (none) = some r := by rw [if_neg (show ¬ (false = true) by decide)] at H; exact H
          clear H
          have H := H1
          clear H1
          exact absurd H (by simp)
       case rest =>
        clear HC49
        try clear c1
        try clear c2
        try clear p2
        try clear c3
        try clear c5
        try clear c6
        try clear c7
        try clear c12
        try clear c15
        try clear c15b0
        try clear c15b1
        try clear c15b2
        try clear c16
        try clear c16b0
        try clear c16b1
        try clear c18
        try clear c25
        try clear c27
        try clear c29
        try clear c30
        try clear c31
        try clear c32
        try clear c33
        try clear c34
        try clear c35
        try clear c36
        try clear c37
        try clear c52
        try clear c58
        try clear c58b0
        try clear c58b1
        try clear c58b2
        try clear c60
        try clear c61
        try clear c65
        try clear hcz10_0
        try clear hcz10_1
        try clear hcz10_2
        try clear hcz10_3
        try clear hcz10_4
        try clear hcz10_5
        try clear hcz13_0
        try clear hcz13_1
        try clear hcz13_2
        try clear hcz13_3
        try clear hcz13_4
        try clear hcz13_5
        try clear hcz38_0
        try clear hcz38_1
        try clear hcz38_2
        try clear hcz38_3
        try clear hcz38_4
        try clear hcz38_5
        try clear hcz41_0
        try clear hcz41_1
        try clear hcz41_2
        try clear hcz41_3
        try clear hcz41_4
        try clear hcz41_5
        try clear hcz53_0
        try clear hcz53_1
        try clear hcz53_2
        try clear hcz53_3
        try clear hcz53_4
        try clear hcz53_5
        try clear hcz56_0
        try clear hcz56_1
        try clear hcz56_2
        try clear hcz56_3
        try clear hcz56_4
        try clear hcz56_5
        try clear hcz66_0
        try clear hcz66_1
        try clear hcz66_2
        try clear hcz66_3
        try clear hcz66_4
        try clear hcz66_5
        try clear hfz10_0
        try clear hfz10_1
        try clear hfz10_2
        try clear hfz10_3
        try clear hfz10_4
        try clear hfz10_5
        try clear hfz13_0
        try clear hfz13_1
        try clear hfz13_2
        try clear hfz13_3
        try clear hfz13_4
        try clear hfz13_5
        try clear hfz38_0
        try clear hfz38_1
        try clear hfz38_2
        try clear hfz38_3
        try clear hfz38_4
        try clear hfz38_5
        try clear hfz41_0
        try clear hfz41_1
        try clear hfz41_2
        try clear hfz41_3
        try clear hfz41_4
        try clear hfz41_5
        try clear hfz53_0
        try clear hfz53_1
        try clear hfz53_2
        try clear hfz53_3
        try clear hfz53_4
        try clear hfz53_5
        try clear hfz56_0
        try clear hfz56_1
        try clear hfz56_2
        try clear hfz56_3
        try clear hfz56_4
        try clear hfz56_5
        try clear hfz66_0
        try clear hfz66_1
        try clear hfz66_2
        try clear hfz66_3
        try clear hfz66_4
        try clear hfz66_5
        try clear p2
        obtain ⟨kq, x142_48, rfl, HA, HJ48, BK855, BK889, HB⟩ := hcut
        cases kq with
        | zero => exact absurd HA.out (by simp [laws_FnIssuing.j2])
        | succ kj48 =>
         have H := HA.out
         clear HA
         simp only [laws_FnIssuing.j2] at H
         by_cases c70 : x142_48 = true
         ·
          subst c70
          have H1 : (none) = some r := by rw [if_pos rfl] at H; exact H
          clear H
          have H := H1
          clear H1
          exact absurd H (by simp)
         ·
          replace c70 := Bool.eq_false_iff.mpr c70
          subst c70
          have H1 : ((spec_DrawExtendWarning.f kj48 l0).bind fun bt900 => ((impl_ExtendWarning.f kj48 bt900.1 bt900.2.1 bt900.2.2).bind fun bt905 => ((spec_ExtendWarning.f kj48 bt900.1 bt900.2.1 bt900.2.2).bind fun bt909 => (if (bt905.2 != bt909.2) = true then (none) else ((laws_vWarnings.f kj48 bt905.1 bt909.1).bind fun t913 => (if t913 = true then (if bt905.2 = true then ((impl_IsConsistent.f kj48 bt905.1).bind fun t914 => (if t914 = true then (some ((bt905.1.length : Int) == (bt900.1.length : Int))) else (none))) else (some true)) else (none))))))) = some r := by rw [if_neg (show ¬ (false = true) by decide)] at H; exact H
          clear H
          have H := H1
          clear H1
          replace H := Option.bind_eq_some_iff.mp H
          obtain ⟨⟨t900, t901, t902⟩, A710, H⟩ := H
          replace H : ((impl_ExtendWarning.f kj48 t900 t901 t902).bind fun bt905 => ((spec_ExtendWarning.f kj48 t900 t901 t902).bind fun bt909 => (if (bt905.2 != bt909.2) = true then (none) else ((laws_vWarnings.f kj48 bt905.1 bt909.1).bind fun t913 => (if t913 = true then (if bt905.2 = true then ((impl_IsConsistent.f kj48 bt905.1).bind fun t914 => (if t914 = true then (some ((bt905.1.length : Int) == (t900.length : Int))) else (none))) else (some true)) else (none)))))) = some r := H
          have A71 := Aside0.mk A710
          clear A710
          replace H := Option.bind_eq_some_iff.mp H
          obtain ⟨⟨t905, t906⟩, A720, H⟩ := H
          replace H : ((spec_ExtendWarning.f kj48 t900 t901 t902).bind fun bt909 => (if (t906 != bt909.2) = true then (none) else ((laws_vWarnings.f kj48 t905 bt909.1).bind fun t913 => (if t913 = true then (if t906 = true then ((impl_IsConsistent.f kj48 t905).bind fun t914 => (if t914 = true then (some ((t905.length : Int) == (t900.length : Int))) else (none))) else (some true)) else (none))))) = some r := H
          have A72 := Aside0.mk A720
          clear A720
          replace H := Option.bind_eq_some_iff.mp H
          obtain ⟨⟨t909, t910⟩, A730, H⟩ := H
          replace H : (if (t906 != t910) = true then (none) else ((laws_vWarnings.f kj48 t905 t909).bind fun t913 => (if t913 = true then (if t906 = true then ((impl_IsConsistent.f kj48 t905).bind fun t914 => (if t914 = true then (some ((t905.length : Int) == (t900.length : Int))) else (none))) else (some true)) else (none)))) = some r := H
          have A73 := Aside0.mk A730
          clear A730
          by_cases c74 : (t906 != t910) = true
          ·
           rw [if_pos c74] at H
           exact absurd H (by simp)
          ·
           rw [if_neg c74] at H
           have c74b0 : (t906 != t910) = false := by simpa using c74
           (try (have c74b1 : decide (t906 = t910) = true := by simpa using c74))
           (try (have c74b2 : (t906 == t910) = true := by simpa using c74))
           clear c74
           replace H := Option.bind_eq_some_iff.mp H
           obtain ⟨t913, A750, H⟩ := H
           replace H : (if t913 = true then (if t906 = true then ((impl_IsConsistent.f kj48 t905).bind fun t914 => (if t914 = true then (some ((t905.length : Int) == (t900.length : Int))) else (none))) else (some true)) else (none)) = some r := H
           have A75 := Aside0.mk A750
           clear A750
           by_cases c76 : t913 = true
           ·
            subst c76
            have H1 : (if t906 = true then ((impl_IsConsistent.f kj48 t905).bind fun t914 => (if t914 = true then (some ((t905.length : Int) == (t900.length : Int))) else (none))) else (some true)) = some r := by rw [if_pos rfl] at H; exact H
            clear H
            have H := H1
            clear H1
            by_cases c77 : t906 = true
            ·
             subst c77
             have H1 : ((impl_IsConsistent.f kj48 t905).bind fun t914 => (if t914 = true then (some ((t905.length : Int) == (t900.length : Int))) else (none))) = some r := by rw [if_pos rfl] at H; exact H
             clear H
             have H := H1
             clear H1
             replace H := Option.bind_eq_some_iff.mp H
             obtain ⟨t914, A780, H⟩ := H
             replace H : (if t914 = true then (some ((t905.length : Int) == (t900.length : Int))) else (none)) = some r := H
             have A78 := Aside0.mk A780
             clear A780
             by_cases c79 : t914 = true
             ·
              subst c79
              have H1 : (some ((t905.length : Int) == (t900.length : Int))) = some r := by rw [if_pos rfl] at H; exact H
              clear H
              have H := H1
              clear H1
              obtain rfl := Option.some.inj H
              go_wp2_with (first | ((with_reducible refine gate_callee (f := 40) rfl ?_); refine goesL_ (some 145) rfl rfl Try.func40 (by kernel_rfl) rfl #[.slice A0 l0.length c0] rfl zq1 ?_; (with_reducible refine (spec_DrawExtendWarning.calls kj48 _ _ l0 t900 t901 t902 _ ?side1 ?side2 A71.out).mono ?_); (case side1 => repeat (first | exact (Kd.C_below HR0.out HB.out) | (with_reducible refine Kd.C_alloc ?_ _) | (with_reducible refine Kd.C_drewN ?_ _) | (with_reducible refine Kd.C_drew ?_))); (case side2 => exact HC0.out); rintro e w80 ⟨v903, rfl, ho0, hb⟩; refine ⟨_, rfl, ?_⟩; have n0_ := Aside0.mk (Kd.R_lower (Kd.R_newB (Kd.R_newB ho0 (g := gb855) (o := .cells #[.int .i64 t849, .int .i64 t850, .int .i64 t851, .int .i64 t852, .int .i64 t853, .int .i64 t854] 31 (0, 0)) (zqK BK855.out)) (g := gb889) (o := .cells #[.int .i64 t883, .int .i64 t884, .int .i64 t885, .int .i64 t886, .int .i64 t887, .int .i64 t888] 31 (0, 0)) (zqK BK889.out)) (below_size zq5)); have n1_ := Aside0.mk (blk_below (g := gb855) (o := .cells #[.int .i64 t849, .int .i64 t850, .int .i64 t851, .int .i64 t852, .int .i64 t853, .int .i64 t854] 31 (0, 0)) (zqK BK855.out) hb); have n2_ := Aside0.mk (blk_below (g := gb889) (o := .cells #[.int .i64 t883, .int .i64 t884, .int .i64 t885, .int .i64 t886, .int .i64 t887, .int .i64 t888] 31 (0, 0)) (zqK BK889.out) hb); have n3_ := Aside0.mk (below_step zq5 hb); clear BK855; clear BK889; clear HB; have HO904 := n0_; have BK855 := n1_; have BK889 := n2_; have HB := n3_; clear n0_ n1_ n2_ n3_; (try clear hb); (try clear hb2); (try clear hk); (try clear hi); (try clear ho0); obtain ⟨Ao81, co81, eo81⟩ := Kd.R_slice HO904.out; subst eo81) | ((with_reducible refine gate_callee (f := 41) rfl ?_); refine goesL_ (some 153) rfl rfl Try.func41 (by kernel_rfl) rfl #[.slice Ao81 t900.length co81, .int .i64 t901, .int .i64 t902] rfl zq1 ?_; (with_reducible refine (impl_ExtendWarning.calls kj48 _ _ t900 t901 t902 t905 true _ ?side1 ?side2 A72.out).mono ?_); (case side1 => repeat (first | exact (Kd.R_reads' HO904.out).2.2 | (with_reducible refine Kd.C_alloc ?_ _) | (with_reducible refine Kd.C_drewN ?_ _) | (with_reducible refine Kd.C_drew ?_))); (case side2 => exact (Kd.R_reads' HO904.out).2.1); rintro e w82 ⟨v907, rfl, ho0, hb⟩; refine ⟨_, rfl, ?_⟩; have n0_ := Aside0.mk (Kd.R_elder' (zqR HO904.out) (Kd.R_base ho0) hb); have n1_ := Aside0.mk (Kd.R_lower (Kd.R_newB (Kd.R_newB (Kd.R_new' ho0 (Kd.R_lt (zqR HO904.out))) (g := gb855) (o := .cells #[.int .i64 t849, .int .i64 t850, .int .i64 t851, .int .i64 t852, .int .i64 t853, .int .i64 t854] 31 (0, 0)) (zqK BK855.out)) (g := gb889) (o := .cells #[.int .i64 t883, .int .i64 t884, .int .i64 t885, .int .i64 t886, .int .i64 t887, .int .i64 t888] 31 (0, 0)) (zqK BK889.out)) (below_size zq5)); have n2_ := Aside0.mk (blk_below (g := gb855) (o := .cells #[.int .i64 t849, .int .i64 t850, .int .i64 t851, .int .i64 t852, .int .i64 t853, .int .i64 t854] 31 (0, 0)) (zqK BK855.out) hb); have n3_ := Aside0.mk (blk_below (g := gb889) (o := .cells #[.int .i64 t883, .int .i64 t884, .int .i64 t885, .int .i64 t886, .int .i64 t887, .int .i64 t888] 31 (0, 0)) (zqK BK889.out) hb); have n4_ := Aside0.mk (below_step zq5 hb); clear HO904; clear BK855; clear BK889; clear HB; have HO904 := n0_; have HO908 := n1_; have BK855 := n2_; have BK889 := n3_; have HB := n4_; clear n0_ n1_ n2_ n3_ n4_; (try clear hb); (try clear hb2); (try clear hk); (try clear hi); (try clear ho0)) | ((with_reducible refine gate_callee (f := 42) rfl ?_); refine goesL_ (some 160) rfl rfl Try.func42 (by kernel_rfl) rfl #[.slice Ao81 t900.length co81, .int .i64 t901, .int .i64 t902] rfl zq1 ?_; (with_reducible refine (spec_ExtendWarning.calls kj48 _ _ t900 t901 t902 t909 t910 _ ?side1 ?side2 A73.out).mono ?_); (case side1 => repeat (first | exact (Kd.R_reads' HO904.out).2.2 | (with_reducible refine Kd.C_alloc ?_ _) | (with_reducible refine Kd.C_drewN ?_ _) | (with_reducible refine Kd.C_drew ?_))); (case side2 => exact (Kd.R_reads' HO904.out).2.1); rintro e w83 ⟨v911, rfl, ho0, hb⟩; refine ⟨_, rfl, ?_⟩; have n0_ := Aside0.mk (Kd.R_elder' (zqR HO904.out) (Kd.R_base ho0) hb); have n1_ := Aside0.mk (Kd.R_elder' (zqR HO908.out) (Kd.R_base ho0) hb); have n2_ := Aside0.mk (Kd.R_lower (Kd.R_newB (Kd.R_newB (Kd.R_new' (Kd.R_new' ho0 (Kd.R_lt (zqR HO904.out))) (Kd.R_lt (zqR HO908.out))) (g := gb855) (o := .cells #[.int .i64 t849, .int .i64 t850, .int .i64 t851, .int .i64 t852, .int .i64 t853, .int .i64 t854] 31 (0, 0)) (zqK BK855.out)) (g := gb889) (o := .cells #[.int .i64 t883, .int .i64 t884, .int .i64 t885, .int .i64 t886, .int .i64 t887, .int .i64 t888] 31 (0, 0)) (zqK BK889.out)) (below_size zq5)); have n3_ := Aside0.mk (blk_below (g := gb855) (o := .cells #[.int .i64 t849, .int .i64 t850, .int .i64 t851, .int .i64 t852, .int .i64 t853, .int .i64 t854] 31 (0, 0)) (zqK BK855.out) hb); have n4_ := Aside0.mk (blk_below (g := gb889) (o := .cells #[.int .i64 t883, .int .i64 t884, .int .i64 t885, .int .i64 t886, .int .i64 t887, .int .i64 t888] 31 (0, 0)) (zqK BK889.out) hb); have n5_ := Aside0.mk (below_step zq5 hb); clear HO904; clear HO908; clear BK855; clear BK889; clear HB; have HO904 := n0_; have HO908 := n1_; have HO912 := n2_; have BK855 := n3_; have BK889 := n4_; have HB := n5_; clear n0_ n1_ n2_ n3_ n4_ n5_; (try clear hb); (try clear hb2); (try clear hk); (try clear hi); (try clear ho0); obtain ⟨Ao84, co84, eo84⟩ := Kd.R_slice HO908.out; subst eo84; obtain ⟨Ao85, co85, eo85⟩ := Kd.R_slice HO912.out; subst eo85) | (go_at_call 11; (with_reducible refine (laws_vWarnings.calls kj48 _ _ t905 _ _ t909 true _ ?side1 ?side2 ?side3 ?side4 A75.out).mono ?_); (case side1 => repeat (first | exact (Kd.R_reads' HO908.out).2.2 | (with_reducible refine Kd.C_alloc ?_ _) | (with_reducible refine Kd.C_drewN ?_ _) | (with_reducible refine Kd.C_drew ?_))); (case side2 => exact (Kd.R_reads' HO908.out).2.1); (case side3 => repeat (first | exact (Kd.R_reads' HO912.out).2.2 | (with_reducible refine Kd.C_alloc ?_ _) | (with_reducible refine Kd.C_drewN ?_ _) | (with_reducible refine Kd.C_drew ?_))); (case side4 => exact (Kd.R_reads' HO912.out).2.1); rintro e w' ⟨rfl, ⟨nd, rfl⟩⟩) | (go_at_call 12; (with_reducible refine (impl_IsConsistent.calls kj48 _ _ t905 true _ ?side1 ?side2 A78.out).mono ?_); (case side1 => repeat (first | exact (Kd.R_reads' HO908.out).2.2 | (with_reducible refine Kd.C_alloc ?_ _) | (with_reducible refine Kd.C_drewN ?_ _) | (with_reducible refine Kd.C_drew ?_))); (case side2 => exact (Kd.R_reads' HO908.out).2.1); rintro e w86 ⟨rfl, hb⟩; have n0_ := Aside0.mk (Kd.R_below (zqR HO904.out) hb); have n1_ := Aside0.mk (Kd.R_below (zqR HO908.out) hb); have n2_ := Aside0.mk (Kd.R_below (zqR HO912.out) hb); have n3_ := Aside0.mk (blk_below (g := gb855) (o := .cells #[.int .i64 t849, .int .i64 t850, .int .i64 t851, .int .i64 t852, .int .i64 t853, .int .i64 t854] 31 (0, 0)) (zqK BK855.out) hb); have n4_ := Aside0.mk (blk_below (g := gb889) (o := .cells #[.int .i64 t883, .int .i64 t884, .int .i64 t885, .int .i64 t886, .int .i64 t887, .int .i64 t888] 31 (0, 0)) (zqK BK889.out) hb); have n5_ := Aside0.mk (below_step zq5 hb); clear HO904; clear HO908; clear HO912; clear BK855; clear BK889; clear HB; have HO904 := n0_; have HO908 := n1_; have HO912 := n2_; have BK855 := n3_; have BK889 := n4_; have HB := n5_; clear n0_ n1_ n2_ n3_ n4_ n5_; (try clear hb); (try clear hb2); (try clear hk); (try clear hi)))
              go_ret
              exact ⟨by first | rfl | (simp [errW_none, errW_some] <;> rfl) | (simp [*, errW_none, errW_some] <;> rfl), by repeat (first | (with_reducible first | exact HB.out | apply below_alloc | apply pw_below_drewN | apply below_drew1 | refine below_set ?_ GE855.out | refine below_set ?_ GE889.out) | exact HB.out)⟩
             ·
              replace c79 := Bool.eq_false_iff.mpr c79
              subst c79
              have H1 : (none) = some r := by rw [if_neg (show ¬ (false = true) by decide)] at H; exact H
              clear H
              have H := H1
              clear H1
              exact absurd H (by simp)
            ·
             replace c77 := Bool.eq_false_iff.mpr c77
             subst c77
             have H1 : (some true) = some r := by rw [if_neg (show ¬ (false = true) by decide)] at H; exact H
             clear H
             have H := H1
             clear H1
             obtain rfl := Option.some.inj H
             go_wp2_with (first | ((with_reducible refine gate_callee (f := 40) rfl ?_); refine goesL_ (some 145) rfl rfl Try.func40 (by kernel_rfl) rfl #[.slice A0 l0.length c0] rfl zq1 ?_; (with_reducible refine (spec_DrawExtendWarning.calls kj48 _ _ l0 t900 t901 t902 _ ?side1 ?side2 A71.out).mono ?_); (case side1 => repeat (first | exact (Kd.C_below HR0.out HB.out) | (with_reducible refine Kd.C_alloc ?_ _) | (with_reducible refine Kd.C_drewN ?_ _) | (with_reducible refine Kd.C_drew ?_))); (case side2 => exact HC0.out); rintro e w87 ⟨v903, rfl, ho0, hb⟩; refine ⟨_, rfl, ?_⟩; have n0_ := Aside0.mk (Kd.R_lower (Kd.R_newB (Kd.R_newB ho0 (g := gb855) (o := .cells #[.int .i64 t849, .int .i64 t850, .int .i64 t851, .int .i64 t852, .int .i64 t853, .int .i64 t854] 31 (0, 0)) (zqK BK855.out)) (g := gb889) (o := .cells #[.int .i64 t883, .int .i64 t884, .int .i64 t885, .int .i64 t886, .int .i64 t887, .int .i64 t888] 31 (0, 0)) (zqK BK889.out)) (below_size zq5)); have n1_ := Aside0.mk (blk_below (g := gb855) (o := .cells #[.int .i64 t849, .int .i64 t850, .int .i64 t851, .int .i64 t852, .int .i64 t853, .int .i64 t854] 31 (0, 0)) (zqK BK855.out) hb); have n2_ := Aside0.mk (blk_below (g := gb889) (o := .cells #[.int .i64 t883, .int .i64 t884, .int .i64 t885, .int .i64 t886, .int .i64 t887, .int .i64 t888] 31 (0, 0)) (zqK BK889.out) hb); have n3_ := Aside0.mk (below_step zq5 hb); clear BK855; clear BK889; clear HB; have HO904 := n0_; have BK855 := n1_; have BK889 := n2_; have HB := n3_; clear n0_ n1_ n2_ n3_; (try clear hb); (try clear hb2); (try clear hk); (try clear hi); (try clear ho0); obtain ⟨Ao88, co88, eo88⟩ := Kd.R_slice HO904.out; subst eo88) | ((with_reducible refine gate_callee (f := 41) rfl ?_); refine goesL_ (some 153) rfl rfl Try.func41 (by kernel_rfl) rfl #[.slice Ao88 t900.length co88, .int .i64 t901, .int .i64 t902] rfl zq1 ?_; (with_reducible refine (impl_ExtendWarning.calls kj48 _ _ t900 t901 t902 t905 false _ ?side1 ?side2 A72.out).mono ?_); (case side1 => repeat (first | exact (Kd.R_reads' HO904.out).2.2 | (with_reducible refine Kd.C_alloc ?_ _) | (with_reducible refine Kd.C_drewN ?_ _) | (with_reducible refine Kd.C_drew ?_))); (case side2 => exact (Kd.R_reads' HO904.out).2.1); rintro e w89 ⟨v907, rfl, ho0, hb⟩; refine ⟨_, rfl, ?_⟩; have n0_ := Aside0.mk (Kd.R_elder' (zqR HO904.out) (Kd.R_base ho0) hb); have n1_ := Aside0.mk (Kd.R_lower (Kd.R_newB (Kd.R_newB (Kd.R_new' ho0 (Kd.R_lt (zqR HO904.out))) (g := gb855) (o := .cells #[.int .i64 t849, .int .i64 t850, .int .i64 t851, .int .i64 t852, .int .i64 t853, .int .i64 t854] 31 (0, 0)) (zqK BK855.out)) (g := gb889) (o := .cells #[.int .i64 t883, .int .i64 t884, .int .i64 t885, .int .i64 t886, .int .i64 t887, .int .i64 t888] 31 (0, 0)) (zqK BK889.out)) (below_size zq5)); have n2_ := Aside0.mk (blk_below (g := gb855) (o := .cells #[.int .i64 t849, .int .i64 t850, .int .i64 t851, .int .i64 t852, .int .i64 t853, .int .i64 t854] 31 (0, 0)) (zqK BK855.out) hb); have n3_ := Aside0.mk (blk_below (g := gb889) (o := .cells #[.int .i64 t883, .int .i64 t884, .int .i64 t885, .int .i64 t886, .int .i64 t887, .int .i64 t888] 31 (0, 0)) (zqK BK889.out) hb); have n4_ := Aside0.mk (below_step zq5 hb); clear HO904; clear BK855; clear BK889; clear HB; have HO904 := n0_; have HO908 := n1_; have BK855 := n2_; have BK889 := n3_; have HB := n4_; clear n0_ n1_ n2_ n3_ n4_; (try clear hb); (try clear hb2); (try clear hk); (try clear hi); (try clear ho0)) | ((with_reducible refine gate_callee (f := 42) rfl ?_); refine goesL_ (some 160) rfl rfl Try.func42 (by kernel_rfl) rfl #[.slice Ao88 t900.length co88, .int .i64 t901, .int .i64 t902] rfl zq1 ?_; (with_reducible refine (spec_ExtendWarning.calls kj48 _ _ t900 t901 t902 t909 t910 _ ?side1 ?side2 A73.out).mono ?_); (case side1 => repeat (first | exact (Kd.R_reads' HO904.out).2.2 | (with_reducible refine Kd.C_alloc ?_ _) | (with_reducible refine Kd.C_drewN ?_ _) | (with_reducible refine Kd.C_drew ?_))); (case side2 => exact (Kd.R_reads' HO904.out).2.1); rintro e w90 ⟨v911, rfl, ho0, hb⟩; refine ⟨_, rfl, ?_⟩; have n0_ := Aside0.mk (Kd.R_elder' (zqR HO904.out) (Kd.R_base ho0) hb); have n1_ := Aside0.mk (Kd.R_elder' (zqR HO908.out) (Kd.R_base ho0) hb); have n2_ := Aside0.mk (Kd.R_lower (Kd.R_newB (Kd.R_newB (Kd.R_new' (Kd.R_new' ho0 (Kd.R_lt (zqR HO904.out))) (Kd.R_lt (zqR HO908.out))) (g := gb855) (o := .cells #[.int .i64 t849, .int .i64 t850, .int .i64 t851, .int .i64 t852, .int .i64 t853, .int .i64 t854] 31 (0, 0)) (zqK BK855.out)) (g := gb889) (o := .cells #[.int .i64 t883, .int .i64 t884, .int .i64 t885, .int .i64 t886, .int .i64 t887, .int .i64 t888] 31 (0, 0)) (zqK BK889.out)) (below_size zq5)); have n3_ := Aside0.mk (blk_below (g := gb855) (o := .cells #[.int .i64 t849, .int .i64 t850, .int .i64 t851, .int .i64 t852, .int .i64 t853, .int .i64 t854] 31 (0, 0)) (zqK BK855.out) hb); have n4_ := Aside0.mk (blk_below (g := gb889) (o := .cells #[.int .i64 t883, .int .i64 t884, .int .i64 t885, .int .i64 t886, .int .i64 t887, .int .i64 t888] 31 (0, 0)) (zqK BK889.out) hb); have n5_ := Aside0.mk (below_step zq5 hb); clear HO904; clear HO908; clear BK855; clear BK889; clear HB; have HO904 := n0_; have HO908 := n1_; have HO912 := n2_; have BK855 := n3_; have BK889 := n4_; have HB := n5_; clear n0_ n1_ n2_ n3_ n4_ n5_; (try clear hb); (try clear hb2); (try clear hk); (try clear hi); (try clear ho0); obtain ⟨Ao91, co91, eo91⟩ := Kd.R_slice HO908.out; subst eo91; obtain ⟨Ao92, co92, eo92⟩ := Kd.R_slice HO912.out; subst eo92) | (go_at_call 11; (with_reducible refine (laws_vWarnings.calls kj48 _ _ t905 _ _ t909 true _ ?side1 ?side2 ?side3 ?side4 A75.out).mono ?_); (case side1 => repeat (first | exact (Kd.R_reads' HO908.out).2.2 | (with_reducible refine Kd.C_alloc ?_ _) | (with_reducible refine Kd.C_drewN ?_ _) | (with_reducible refine Kd.C_drew ?_))); (case side2 => exact (Kd.R_reads' HO908.out).2.1); (case side3 => repeat (first | exact (Kd.R_reads' HO912.out).2.2 | (with_reducible refine Kd.C_alloc ?_ _) | (with_reducible refine Kd.C_drewN ?_ _) | (with_reducible refine Kd.C_drew ?_))); (case side4 => exact (Kd.R_reads' HO912.out).2.1); rintro e w' ⟨rfl, ⟨nd, rfl⟩⟩))
             go_ret
             exact ⟨by first | rfl | (simp [errW_none, errW_some] <;> rfl) | (simp [*, errW_none, errW_some] <;> rfl), by repeat (first | (with_reducible first | exact HB.out | apply below_alloc | apply pw_below_drewN | apply below_drew1 | refine below_set ?_ GE855.out | refine below_set ?_ GE889.out) | exact HB.out)⟩
           ·
            replace c76 := Bool.eq_false_iff.mpr c76
            subst c76
            have H1 : (none) = some r := by rw [if_neg (show ¬ (false = true) by decide)] at H; exact H
            clear H
            have H := H1
            clear H1
            exact absurd H (by simp)

end Go.Proofs.Ytklepiechbnenaa.Q
/- Drawn input: each draw comes to an end (no program's answer is told of, only that there is one, and its bounds). -/
namespace Go.Proofs.Ytklepiechbnenaa.Q
open Go.RowKit Go.Proofs.YtklepiechbnenaaW.PrintWords Go.Proofs.Ytklepiechbnenaa.Gen
set_option linter.unusedVariables false
set_option linter.unusedSimpArgs false
/-- The bytes that a draw reads. -/
def Cod (l : List Int) : Prop := l.length ≤ 1000000 ∧ ∀ x ∈ l, 0 ≤ x ∧ x ≤ 255
theorem and_u64 (X : Int) : 0 ≤ Go.bits .and .u64 ((IntKind.u64.wrap X) / 1099511627776) 255 ∧ Go.bits .and .u64 ((IntKind.u64.wrap X) / 1099511627776) 255 ≤ 255 := by
  have hw : IntKind.u64.wrap X = X % 18446744073709551616 := by simp [IntKind.wrap, IntKind.bits, IntKind.signed]
  have h1 : 0 ≤ X % 18446744073709551616 := by omega
  have h2 : X % 18446744073709551616 < 18446744073709551616 := by omega
  rw [hw]
  generalize X % 18446744073709551616 = Y at h1 h2
  have key := bits_mask .u64 32 (by decide) (fun n h0 h1 => by
    have e : IntKind.u64.wrap n = n % 18446744073709551616 := by simp [IntKind.wrap, IntKind.bits, IntKind.signed]
    rw [e]; omega) 8 (by decide) (Y / 1099511627776) (by omega) (by omega)
  rw [show (2 : Int) ^ 8 - 1 = 255 from rfl] at key
  rw [key]
  omega
theorem next_ok {l : List Int} (h : Cod l) (s q : Int) (h0 : 0 ≤ s) (h1 : s ≤ 1000000000) : ∃ b q', spec_l1Cur_next.f l s q = some (b, s + 1, q') ∧ 0 ≤ b ∧ b ≤ 255 := by
  unfold spec_l1Cur_next.f
  rw [show wrap64 (s + 1) = s + 1 from by unfold wrap64; omega]
  by_cases c : s < (l.length : Int)
  · rw [if_pos c, if_pos h0, if_pos (by omega)]
    have hb : 0 ≤ rd l s ∧ rd l s ≤ 255 := by
      show 0 ≤ l.getD s.toNat 0 ∧ l.getD s.toNat 0 ≤ 255
      rw [getD_lt l 0 s.toNat (by omega)]
      exact h.2 _ (List.getElem_mem _)
    exact ⟨_, _, rfl, by unfold wrap64; omega, by unfold wrap64; omega⟩
  · rw [if_neg c, if_neg (by omega)]
    refine ⟨_, _, rfl, ?_⟩
    have := and_u64 ((IntKind.u64.wrap ((IntKind.u64.wrap (q * 6364136223846793005)) + 0)) + 889889)
    generalize Go.bits .and .u64 ((IntKind.u64.wrap ((IntKind.u64.wrap ((IntKind.u64.wrap (q * 6364136223846793005)) + 0)) + 889889)) / 1099511627776) 255 = z at this ⊢
    unfold wrap64; omega
theorem pick_ok {l : List Int} (h : Cod l) (s q : Int) (h0 : 0 ≤ s) (h1 : s ≤ 999999998) (n : Int) : ∃ x s' q', spec_l1Cur_pick.f l s q n = some (x, s', q') ∧ 0 ≤ x ∧ (x < n ∨ x = 0) ∧ s ≤ s' ∧ s' ≤ s + 2 := by
  unfold spec_l1Cur_pick.f
  by_cases c : n ≤ 1
  · rw [if_pos c]
    exact ⟨0, s, q, rfl, by omega, .inr rfl, by omega, by omega⟩
  · rw [if_neg c]
    obtain ⟨b, q1, e1, b0, b1⟩ := next_ok h s q h0 (by omega)
    rw [e1, Option.bind_some]
    dsimp only
    by_cases c2 : n > 200
    · rw [if_pos c2]
      obtain ⟨d, q2, e2, d0, d1⟩ := next_ok h (s + 1) q1 (by omega) (by omega)
      rw [e2, Option.bind_some]
      dsimp only
      rw [if_neg (by omega), show wrap64 (wrap64 (b * 256) + d) = b * 256 + d from by unfold wrap64; omega]
      exact ⟨_, _, _, rfl, Int.tmod_nonneg _ (by omega), .inl (Int.tmod_lt_of_pos _ (by omega)), by omega, by omega⟩
    · rw [if_neg c2, if_neg (by omega)]
      exact ⟨_, _, _, rfl, Int.tmod_nonneg _ b0, .inl (Int.tmod_lt_of_pos _ (by omega)), by omega, by omega⟩
theorem among_ok {l : List Int} (h : Cod l) (s q : Int) (h0 : 0 ≤ s) (h1 : s ≤ 999999998) (L : List Int) (hL : 0 < L.length) : ∃ x s' q', spec_l1Cur_among.f l s q L = some (x, s', q') ∧ x ∈ L ∧ s ≤ s' ∧ s' ≤ s + 2 := by
  unfold spec_l1Cur_among.f
  obtain ⟨x, s1, q1, e1, x0, x1, s0, s2⟩ := pick_ok h s q h0 h1 (L.length : Int)
  rw [e1, Option.bind_some]
  dsimp only
  rw [if_pos x0, if_pos (by omega)]
  refine ⟨_, _, _, rfl, ?_, s0, s2⟩
  show L.getD x.toNat 0 ∈ L
  rw [getD_lt L 0 x.toNat (by omega)]
  exact List.getElem_mem _
theorem one_ok {l : List Int} (h : Cod l) (s q : Int) (h0 : 0 ≤ s) (h1 : s ≤ 999999998) (n : Int) : ∃ b s' q', spec_l1Cur_one.f l s q n = some (b, s', q') ∧ s ≤ s' ∧ s' ≤ s + 2 := by
  unfold spec_l1Cur_one.f
  obtain ⟨x, s1, q1, e1, _, _, s0, s2⟩ := pick_ok h s q h0 h1 n
  rw [e1, Option.bind_some]
  exact ⟨_, _, _, rfl, s0, s2⟩
end Go.Proofs.Ytklepiechbnenaa.Q
/- Lists of warnings in plain words: which are valid, which lists are consistent; what both programs say of it. -/
namespace Go.Proofs.Ytklepiechbnenaa.Q
open Go.RowKit Go.Proofs.YtklepiechbnenaaW.PrintWords Go.Proofs.Ytklepiechbnenaa.Gen Go.Proofs.Ytklepiechbnenaa.Tells
set_option linter.unusedVariables false
set_option linter.unusedSimpArgs false

def okW (x : S31) : Bool := decide (1 ≤ x.f0 ∧ x.f0 ≤ 999 ∧ 1 ≤ x.f1 ∧ x.f1 ≤ 5 ∧ 1 ≤ x.f2 ∧ x.f2 ≤ 3 ∧ 1 ≤ x.f3 ∧ x.f3 ≤ 9 ∧ 0 ≤ x.f4 ∧ x.f4 < x.f5 ∧ x.f5 ≤ 240)
theorem l1In_f (a b c : Int) : spec_l1In.f a b c = some (decide (b ≤ a ∧ a ≤ c)) := by
  unfold spec_l1In.f
  by_cases h1 : a ≥ b <;> by_cases h2 : a ≤ c <;> simp [h1, h2] <;> omega
theorem l14Good_f (x : S31) : spec_l14Good.f x.f0 x.f1 x.f2 x.f3 x.f4 x.f5 = some (okW x) := by
  unfold spec_l14Good.f okW
  simp only [l1In_f, Option.bind_some, decide_eq_true_eq]
  repeat' split
  all_goals (congr 1; first | (apply decide_eq_decide.2; unfold wrap64; omega) | (symm; apply decide_eq_false; omega))
theorem isValidW_f (x : S31) : impl_IsValidWarning.f x.f0 x.f1 x.f2 x.f3 x.f4 x.f5 = some (okW x) := by
  unfold impl_IsValidWarning.f okW
  simp only [within_f, Option.bind_some, decide_eq_true_eq]
  repeat' split
  all_goals (congr 1; first | (apply decide_eq_decide.2; omega) | (symm; apply decide_eq_false; omega))
theorem l14Meet_f (a b : S31) : spec_l14Meet.f a.f0 a.f1 a.f2 a.f3 a.f4 a.f5 b.f0 b.f1 b.f2 b.f3 b.f4 b.f5 = some (meetB a b) := by
  unfold spec_l14Meet.f meetB
  by_cases h1 : a.f1 = b.f1 <;> by_cases h2 : a.f3 = b.f3 <;> by_cases h3 : a.f4 < b.f5 <;> simp [h1, h2, h3]
theorem meetB_comm (a b : S31) : meetB a b = meetB b a := by
  unfold meetB
  rw [Bool.eq_iff_iff]
  simp only [Bool.and_eq_true, decide_eq_true_eq]
  constructor <;> (rintro ⟨h1, h2, h3, h4⟩; exact ⟨h1.symm, h2.symm, h4, h3⟩)
theorem rdW (l : List S31) (i : Nat) : rd_T31 l (i : Int) = l.getD i z31 := rfl

/-- The warning at place i is valid and its number is greater than the one before. -/
def stepB (l : List S31) (i : Nat) : Bool := okW (l.getD i z31) && (i == 0 || decide ((l.getD (i - 1) z31).f0 < (l.getD i z31).f0))
def clearB (l : List S31) (i : Nat) : Bool := !((l.take i).any fun o => meetB (l.getD i z31) o)
/-- A consistent list of warnings. -/
def consB (l : List S31) : Bool := decide (l.length ≤ 12) && decide (∀ j, j < l.length → (stepB l j && clearB l j) = true)

theorem any_take (l : List S31) (q : S31 → Bool) (i : Nat) (hi : i ≤ l.length) : (l.take i).any q = decide (∃ j, j < i ∧ q (l.getD j z31) = true) := by
  rw [Bool.eq_iff_iff, List.any_eq_true, decide_eq_true_eq]
  constructor
  · rintro ⟨x, hx, hq⟩
    obtain ⟨j, hj, rfl⟩ := List.getElem_of_mem hx
    have hj' : j < i := by rw [List.length_take] at hj; omega
    refine ⟨j, hj', ?_⟩
    rw [getD_lt l _ j (by omega)]
    simpa using hq
  · rintro ⟨j, hj, hq⟩
    refine ⟨l.getD j z31, ?_, hq⟩
    rw [getD_lt l _ j (by omega)]
    exact List.mem_take_iff_getElem.2 ⟨j, by omega, rfl⟩

/-- The inner loop of the reference: does a warning before place i meet it? -/
theorem ev_l14_l1 (l : List S31) (hl : l.length ≤ 12) (i : Nat) (hi : i < l.length) (r : Bool) (hr : Ev (fun k => spec_l14List.l0 k l ((i + 1 : Nat) : Int)) r) :
    Ev (fun k => spec_l14List.l1 k l (i : Int) 0) (if clearB l i = true then r else false) := by
  have key := ev_run (fun k (_ : Unit) j => spec_l14List.l1 k l (i : Int) j) i (fun j _ => if (!(meetB (l.getD j z31) (l.getD i z31))) = true then .inr () else .inl false) (fun _ => r) (fun _ _ => True)
    (by
      intro j s b hj _ h
      have hm : meetB (l.getD j z31) (l.getD i z31) = true := by
        cases hm : meetB (l.getD j z31) (l.getD i z31)
        · rw [hm] at h; simp at h
        · rfl
      have hb : b = false := by rw [hm] at h; simp at h; exact h
      subst hb
      refine Ev.eq_now fun k => ?_
      simp only [spec_l14List.l1]
      rw [if_pos (by omega), if_pos (by omega), if_pos (by omega), if_pos (by omega), if_pos (by omega), rdW, rdW, l14Meet_f, hm]
      rfl)
    (by
      intro j s s' r' hj _ h
      have hm : meetB (l.getD j z31) (l.getD i z31) = false := by
        cases hm : meetB (l.getD j z31) (l.getD i z31)
        · rfl
        · rw [hm] at h; simp at h
      refine ⟨trivial, fun he => ?_⟩
      refine Ev.congr (fun k => ?_) he
      simp only [spec_l14List.l1]
      rw [if_pos (by omega), if_pos (by omega), if_pos (by omega), if_pos (by omega), if_pos (by omega), rdW, rdW, l14Meet_f, hm, wrapS j (by omega)]
      rfl)
    (by
      intro s _
      refine Ev.congr (fun k => ?_) hr
      simp only [spec_l14List.l1]
      rw [if_neg (by omega), wrapS i (by omega)])
    i 0 () (by omega) trivial
  rw [run_all (fun j => !(meetB (l.getD j z31) (l.getD i z31))) false r i i 0 (by omega)] at key
  have e : (∀ j, j < i → 0 ≤ j → (!(meetB (l.getD j z31) (l.getD i z31))) = true) ↔ clearB l i = true := by
    unfold clearB
    rw [any_take l _ i (by omega)]
    simp only [Bool.not_eq_true', decide_eq_false_iff_not, not_exists, not_and, Bool.not_eq_true]
    constructor
    · intro h j hj; rw [meetB_comm]; exact h j hj (Nat.zero_le _)
    · intro h j hj _; rw [meetB_comm]; exact h j hj
  by_cases hc : clearB l i = true
  · rw [if_pos hc]; rw [if_pos (e.2 hc)] at key; exact key
  · rw [if_neg hc]; rw [if_neg (fun h => hc (e.1 h))] at key; exact key

theorem l14_round (l : List S31) (hl : l.length ≤ 12) (i : Nat) (hi : i < l.length) (k : Nat) : spec_l14List.l0 (k + 1) l (i : Int) = spec_l14List.j1 k l (i : Int) (!stepB l i) := by
  simp only [spec_l14List.l0]
  rw [if_pos (by omega), if_pos (by omega), rdW, l14Good_f]
  simp only [Option.bind_some]
  unfold stepB
  cases hg : okW (l.getD i z31) with
  | false => rfl
  | true =>
    rw [if_pos rfl]
    by_cases h0 : i = 0
    · subst h0
      rw [if_neg (by omega)]
      rfl
    · rw [if_pos (by omega), wrapP i (by omega) (by omega), if_pos (by omega), if_pos (by omega), rdW]
      congr 1
      rw [show (i == 0) = false from by simpa using h0]
      by_cases hlt : (l.getD (i - 1) z31).f0 < (l.getD i z31).f0
      · rw [decide_eq_false (by omega), decide_eq_true hlt]; rfl
      · rw [decide_eq_true (by omega), decide_eq_false hlt]; rfl

theorem ev_l14List (l : List S31) : Ev (fun k => spec_l14List.f k l) (consB l) := by
  unfold spec_l14List.f consB
  by_cases hl : l.length ≤ 12
  · refine Ev.congr (f := fun k => spec_l14List.l0 k l ((0 : Nat) : Int)) (fun k => by rw [if_neg (by omega)]; rfl) ?_
    have key := ev_run (fun k (_ : Unit) i => spec_l14List.l0 k l i) l.length (fun j _ => if (stepB l j && clearB l j) = true then .inr () else .inl false) (fun _ => true) (fun _ _ => True)
      (by
        intro i s b hi _ h
        have hm : (stepB l i && clearB l i) = false := by
          cases hm : (stepB l i && clearB l i)
          · rfl
          · rw [hm] at h; simp at h
        have hb : b = false := by rw [hm] at h; simp at h; exact h
        subst hb
        refine Ev.congr (l14_round l hl i hi) (Ev.unr ?_)
        cases hs : stepB l i with
        | false => exact Ev.eq_now fun k => by simp only [spec_l14List.j1]; rfl
        | true =>
          refine Ev.congr (f := fun k => spec_l14List.l1 k l (i : Int) 0) (fun k => by simp only [spec_l14List.j1]; rfl) ?_
          have hc : clearB l i = false := by rw [hs] at hm; simpa using hm
          obtain ⟨K, hK⟩ : ∃ K : Nat, True := ⟨0, trivial⟩
          have key := ev_run (fun k (_ : Unit) j => spec_l14List.l1 k l (i : Int) j) i (fun j _ => if (!(meetB (l.getD j z31) (l.getD i z31))) = true then .inr () else .inl false) (fun _ => false) (fun j _ => ∃ q, j ≤ q ∧ q < i ∧ meetB (l.getD q z31) (l.getD i z31) = true)
            (by
              intro j s b hj _ h
              have hm : meetB (l.getD j z31) (l.getD i z31) = true := by
                cases hm : meetB (l.getD j z31) (l.getD i z31)
                · rw [hm] at h; simp at h
                · rfl
              have hb : b = false := by rw [hm] at h; simp at h; exact h
              subst hb
              refine Ev.eq_now fun k => ?_
              simp only [spec_l14List.l1]
              rw [if_pos (by omega), if_pos (by omega), if_pos (by omega), if_pos (by omega), if_pos (by omega), rdW, rdW, l14Meet_f, hm]
              rfl)
            (by
              intro j s s' r' hj hI h
              have hm : meetB (l.getD j z31) (l.getD i z31) = false := by
                cases hm : meetB (l.getD j z31) (l.getD i z31)
                · rfl
                · rw [hm] at h; simp at h
              obtain ⟨q, h1, h2, h3⟩ := hI
              refine ⟨⟨q, ?_, h2, h3⟩, fun he => ?_⟩
              · have : q ≠ j := by rintro rfl; rw [hm] at h3; cases h3
                omega
              refine Ev.congr (fun k => ?_) he
              simp only [spec_l14List.l1]
              rw [if_pos (by omega), if_pos (by omega), if_pos (by omega), if_pos (by omega), if_pos (by omega), rdW, rdW, l14Meet_f, hm, wrapS j (by omega)]
              rfl)
            (by
              rintro s ⟨q, h1, h2, _⟩
              omega)
            i 0 () (by omega) (by
              unfold clearB at hc
              rw [any_take l _ i (by omega)] at hc
              simp only [Bool.not_eq_false', decide_eq_true_eq] at hc
              obtain ⟨q, h1, h2⟩ := hc
              exact ⟨q, Nat.zero_le _, h1, by rw [meetB_comm]; exact h2⟩)
          have hv : run (fun j (_ : Unit) => if (!(meetB (l.getD j z31) (l.getD i z31))) = true then .inr () else .inl false) (fun _ => false) i 0 () = false :=
            run_inv (n := i) (fun _ _ => True) (fun b => b = false) (fun j s b _ _ h => by
              split at h
              · cases h
              · exact (Sum.inl.inj h).symm) (fun _ _ _ _ _ _ => trivial) (fun _ _ => rfl) i 0 () (by omega) trivial
          rw [hv] at key
          exact key)
      (by
        intro i s s' r hi _ h
        have hm : stepB l i = true ∧ clearB l i = true := by
          cases h1 : stepB l i <;> cases h2 : clearB l i <;> simp [h1, h2] at h <;> simp
        refine ⟨trivial, fun he => Ev.congr (l14_round l hl i hi) (Ev.unr ?_)⟩
        rw [hm.1]
        refine Ev.congr (f := fun k => spec_l14List.l1 k l (i : Int) 0) (fun k => by simp only [spec_l14List.j1]; rfl) ?_
        have key := ev_l14_l1 l hl i hi r he
        rw [if_pos hm.2] at key
        exact key)
      (by
        intro s _
        refine Ev.eq_now fun k => ?_
        simp only [spec_l14List.l0]
        rw [if_neg (by omega)])
      l.length 0 () (by omega) trivial
    rw [run_all (fun j => stepB l j && clearB l j) false true l.length l.length 0 (by omega)] at key
    rw [decide_eq_true hl, Bool.true_and]
    by_cases hp : ∀ j, j < l.length → (stepB l j && clearB l j) = true
    · rw [decide_eq_true hp]
      rw [if_pos (fun j hj _ => hp j hj)] at key
      exact key
    · rw [decide_eq_false hp]
      rw [if_neg (fun h => hp (fun j hj => h j hj (Nat.zero_le _)))] at key
      exact key
  · refine Ev.eq_now fun k => ?_
    rw [if_pos (by omega), decide_eq_false hl]
    rfl

theorem areW_round (l : List S31) (hl : l.length ≤ 4611686018427387904) (i : Nat) (hi : i < l.length) (k : Nat) : impl_areWarnings.l0 (k + 1) l l (l.length : Int) (i : Int) = if stepB l i = true then impl_areWarnings.l0 k l l (l.length : Int) ((i + 1 : Nat) : Int) else some false := by
  simp only [impl_areWarnings.l0]
  rw [if_pos (by omega), if_pos (by omega), if_pos (by omega), rdW, isValidW_f, wrapS i (by omega)]
  simp only [Option.bind_some]
  unfold stepB
  cases hg : okW (l.getD i z31) with
  | false => rfl
  | true =>
    rw [if_pos rfl]
    by_cases h0 : i = 0
    · subst h0
      rw [if_neg (by omega)]
      rfl
    · rw [if_pos (by omega), wrapP i (by omega) (by omega), if_pos (by omega), if_pos (by omega), rdW]
      rw [show (i == 0) = false from by simpa using h0]
      by_cases hlt : (l.getD (i - 1) z31).f0 < (l.getD i z31).f0
      · rw [if_neg (by omega), decide_eq_true hlt]; rfl
      · rw [if_pos (by omega), decide_eq_false hlt]; rfl
theorem ev_areWarnings (l : List S31) (hb : l.length ≤ 4611686018427387904) : Ev (fun k => impl_areWarnings.f k l) (decide (l.length ≤ 12) && decide (∀ j, j < l.length → stepB l j = true)) := by
  unfold impl_areWarnings.f
  have key := ev_run (fun k (_ : Unit) i => impl_areWarnings.l0 k l l (l.length : Int) i) l.length (fun j _ => if stepB l j = true then .inr () else .inl false) (fun _ => decide (l.length ≤ 12)) (fun _ _ => True)
    (by
      intro i s b hi _ h
      refine Ev.eq_now fun k => ?_
      rw [areW_round l hb i hi]
      cases hs : stepB l i <;> simp [hs] at h ⊢
      exact h)
    (by
      intro i s s' r hi _ h
      refine ⟨trivial, fun he => Ev.congr (fun k => ?_) he⟩
      rw [areW_round l hb i hi]
      cases hs : stepB l i <;> simp [hs] at h ⊢)
    (by
      intro s _
      refine Ev.eq_now fun k => ?_
      simp only [impl_areWarnings.l0]
      rw [if_neg (by omega)]
      congr 1
      exact decide_eq_decide.2 (by omega))
    l.length 0 () (by omega) trivial
  rw [run_all (fun j => stepB l j) false (decide (l.length ≤ 12)) l.length l.length 0 (by omega)] at key
  by_cases hp : ∀ j, j < l.length → stepB l j = true
  · rw [decide_eq_true hp, Bool.and_true]
    rw [if_pos (fun j hj _ => hp j hj)] at key
    exact key
  · rw [decide_eq_false hp, Bool.and_false]
    rw [if_neg (fun h => hp (fun j hj => h j hj (Nat.zero_le _)))] at key
    exact key

theorem ev_IsConsistent (l : List S31) (hb : l.length ≤ 4611686018427387904) : Ev (fun k => impl_IsConsistent.f k l) (consB l) := by
  unfold impl_IsConsistent.f
  refine Ev.bind (f := fun _ t => some (t && apartB l)) (ev_areWarnings l hb) (Ev.eq_now fun k => ?_)
  congr 1
  unfold consB apartB
  rw [Bool.and_assoc]
  congr 1
  rw [Bool.eq_iff_iff]
  simp only [Bool.and_eq_true, decide_eq_true_eq, List.all_eq_true, List.mem_range]
  constructor
  · rintro ⟨h1, h2⟩ j hj
    exact ⟨h1 j hj, h2 j hj⟩
  · intro h
    exact ⟨fun j hj => (h j hj).1, fun j hj => (h j hj).2⟩

theorem ev_specCons (l : List S31) : Ev (fun k => spec_IsConsistent.f k l) (consB l) := by
  unfold spec_IsConsistent.f
  exact Ev.bind (f := fun _ t => some t) (ev_l14List l) (Ev.now _)
end Go.Proofs.Ytklepiechbnenaa.Q
