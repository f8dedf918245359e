-- Printed by a program of this session (wip/tools/seatprint.py) that runs over the kit's print.
import Derived.Test.YtfemneoahkglmaaQ0
import Derived.Test.YtfemneoahkglmaaQf9
import Derived.Test.YtfemneoahkglmaaQf12
import Derived.Test.YtfemneoahkglmaaQf13
import Derived.Test.YtfemneoahkglmaaQf17
import Derived.Test.YtfemneoahkglmaaQf18
import Derived.Test.YtfemneoahkglmaaQf19
import Derived.Test.YtfemneoahkglmaaQf21
import Derived.Test.YtfemneoahkglmaaQf22
import Derived.Test.YtfemneoahkglmaaQf23
import Derived.Test.YtfemneoahkglmaaQf24
namespace Go.Proofs.Ytfemneoahkglmaa.Q
open Go.RowKit Go.Proofs.YtfemneoahkglmaaW.PrintWords Go.Proofs.YtfemneoahkglmaaW.PrintLast Go.Proofs.YtfemneoahkglmaaW.PrintMore
attribute [local go_sem] max2_int min2_int max_two min_two max_three min_three max_four min_four   -- for this text's walks alone
set_option linter.unusedVariables false
set_option linter.unusedSimpArgs false

/-! ### laws_FnEveryWarning: function 5 -/
mutual
def laws_FnEveryWarning.j0 : Nat → List (S37) → List (S37) → Bool → List (S37) → Bool → List (S37) → Bool → List (S37) → Bool → Bool → Option (Bool)
 | 0, _, _, _, _, _, _, _, _, _, _ => none
 | k + 1, x0, x11, x13, x14, x15, x16, x18, x19, x20, x116 => if x116 = true then (none) else ((impl_IsConsistent.f k x0).bind fun t617 => (if t617 = true then ((laws_tdOnce.f k x0).bind fun t618 => (laws_FnEveryWarning.j1 k x0 x11 x13 x14 x15 x16 x18 x19 x20 (!t618))) else (laws_FnEveryWarning.j1 k x0 x11 x13 x14 x15 x16 x18 x19 x20 false)))
def laws_FnEveryWarning.j1 : Nat → List (S37) → List (S37) → Bool → List (S37) → Bool → List (S37) → Bool → List (S37) → Bool → Bool → Option (Bool)
 | 0, _, _, _, _, _, _, _, _, _, _ => none
 | k + 1, x0, x11, x13, x14, x15, x16, x18, x19, x20, x123 => if x123 = true then (none) else (if x13 = true then ((laws_tdOnce.f k x11).bind fun t619 => (if t619 = true then (if (x11.length : Int) = (wrap64 ((x0.length : Int) + 1)) then (if x15 = true then ((laws_tdOnce.f k x14).bind fun t620 => (if t620 = true then (if x18 = true then ((laws_tdOnce.f k x16).bind fun t621 => (if t621 = true then (if x20 = true then ((laws_tdOnce.f k x19).bind fun t622 => (some t622)) else (some true)) else (none))) else (if x20 = true then ((laws_tdOnce.f k x19).bind fun t623 => (some t623)) else (some true))) else (none))) else (if x18 = true then ((laws_tdOnce.f k x16).bind fun t624 => (if t624 = true then (if x20 = true then ((laws_tdOnce.f k x19).bind fun t625 => (some t625)) else (some true)) else (none))) else (if x20 = true then ((laws_tdOnce.f k x19).bind fun t626 => (some t626)) else (some true)))) else (none)) else (none))) else (if x15 = true then ((laws_tdOnce.f k x14).bind fun t627 => (if t627 = true then (if x18 = true then ((laws_tdOnce.f k x16).bind fun t628 => (if t628 = true then (if x20 = true then ((laws_tdOnce.f k x19).bind fun t629 => (some t629)) else (some true)) else (none))) else (if x20 = true then ((laws_tdOnce.f k x19).bind fun t630 => (some t630)) else (some true))) else (none))) else (if x18 = true then ((laws_tdOnce.f k x16).bind fun t631 => (if t631 = true then (if x20 = true then ((laws_tdOnce.f k x19).bind fun t632 => (some t632)) else (some true)) else (none))) else (if x20 = true then ((laws_tdOnce.f k x19).bind fun t633 => (some t633)) else (some true)))))
end
def laws_FnEveryWarning.f (k : Nat) (l0 : List (S37)) (a1_0 : Int) (a1_1 : Int) (a1_2 : Int) (a1_3 : Int) (a1_4 : Int) (a1_5 : Int) (a2 : Int) (a3 : Int) (a4 : Int) : Option (Bool) := if (l0.length : Int) > 4096 then (some true) else ((impl_IsConsistent.f k l0).bind fun t579 => ((spec_IsConsistent.f k l0).bind fun t580 => (if (t579 != t580) = true then (none) else ((impl_IssueWarning.f k l0 a1_0 a1_1 a1_2 a1_3 a1_4 a1_5).bind fun bt581 => ((impl_ExtendWarning.f k l0 a2 a4).bind fun bt586 => ((impl_ChangeLevel.f k l0 a2 a3 a4).bind fun bt590 => ((impl_CancelWarning.f k l0 a2 a4).bind fun bt595 => ((spec_IssueWarning.f k l0 a1_0 a1_1 a1_2 a1_3 a1_4 a1_5).bind fun bt599 => ((spec_ExtendWarning.f k l0 a2 a4).bind fun bt604 => ((spec_ChangeLevel.f k l0 a2 a3 a4).bind fun bt608 => ((spec_CancelWarning.f k l0 a2 a4).bind fun bt613 => (if (bt581.2.2 != bt599.2.2) = true then (none) else (if (bt586.2 != bt604.2) = true then (none) else (if (bt590.2.2 != bt608.2.2) = true then (none) else (laws_FnEveryWarning.j0 k l0 bt581.1 bt581.2.2 bt586.1 bt586.2 bt590.1 bt590.2.2 bt595.1 bt595.2 (bt595.2 != bt613.2))))))))))))))))
theorem laws_FnEveryWarning.mono_l : ∀ k, (∀ y0 y1 y2 y3 y4 y5 y6 y7 y8 y9, LeO (laws_FnEveryWarning.j0 k y0 y1 y2 y3 y4 y5 y6 y7 y8 y9) (laws_FnEveryWarning.j0 (k + 1) y0 y1 y2 y3 y4 y5 y6 y7 y8 y9)) ∧ (∀ y0 y1 y2 y3 y4 y5 y6 y7 y8 y9, LeO (laws_FnEveryWarning.j1 k y0 y1 y2 y3 y4 y5 y6 y7 y8 y9) (laws_FnEveryWarning.j1 (k + 1) y0 y1 y2 y3 y4 y5 y6 y7 y8 y9))
 | 0 => ⟨fun _ _ _ _ _ _ _ _ _ _ r h => by simp [laws_FnEveryWarning.j0] at h, fun _ _ _ _ _ _ _ _ _ _ r h => by simp [laws_FnEveryWarning.j1] at h⟩
 | k + 1 => by
  obtain ⟨ih0, ih1⟩ := laws_FnEveryWarning.mono_l k
  refine ⟨?_, ?_⟩
  ·
   intro y0 y1 y2 y3 y4 y5 y6 y7 y8 y9
   unfold laws_FnEveryWarning.j0
   repeat' first
   | (with_reducible exact ih0 _ _ _ _ _ _ _ _ _ _)
   | (with_reducible exact ih1 _ _ _ _ _ _ _ _ _ _)
   | (with_reducible exact impl_CancelWarning.mono _ _ _ _)
   | (with_reducible exact impl_ChangeLevel.mono _ _ _ _ _)
   | (with_reducible exact impl_ExtendWarning.mono _ _ _ _)
   | (with_reducible exact impl_IsConsistent.mono _ _)
   | (with_reducible exact impl_IssueWarning.mono _ _ _ _ _ _ _ _)
   | (with_reducible exact laws_tdOnce.mono _ _)
   | (with_reducible exact spec_CancelWarning.mono _ _ _ _)
   | (with_reducible exact spec_ChangeLevel.mono _ _ _ _ _)
   | (with_reducible exact spec_ExtendWarning.mono _ _ _ _)
   | (with_reducible exact spec_IsConsistent.mono _ _)
   | (with_reducible exact spec_IssueWarning.mono _ _ _ _ _ _ _ _)
   | (with_reducible exact LeO.refl _)
   | (with_reducible exact LeO.none _)
   | (with_reducible refine LeO.ite ?_ ?_)
   | (with_reducible refine LeO.bind ?_ (fun _ => ?_))
   | exact ih0 _ _ _ _ _ _ _ _ _ _
   | exact ih1 _ _ _ _ _ _ _ _ _ _
   | exact impl_CancelWarning.mono _ _ _ _
   | exact impl_ChangeLevel.mono _ _ _ _ _
   | exact impl_ExtendWarning.mono _ _ _ _
   | exact impl_IsConsistent.mono _ _
   | exact impl_IssueWarning.mono _ _ _ _ _ _ _ _
   | exact laws_tdOnce.mono _ _
   | exact spec_CancelWarning.mono _ _ _ _
   | exact spec_ChangeLevel.mono _ _ _ _ _
   | exact spec_ExtendWarning.mono _ _ _ _
   | exact spec_IsConsistent.mono _ _
   | exact spec_IssueWarning.mono _ _ _ _ _ _ _ _
   | exact LeO.none _
   | refine LeO.ite ?_ ?_
   | refine LeO.bind ?_ (fun _ => ?_)
  ·
   intro y0 y1 y2 y3 y4 y5 y6 y7 y8 y9
   unfold laws_FnEveryWarning.j1
   repeat' first
   | (with_reducible exact ih0 _ _ _ _ _ _ _ _ _ _)
   | (with_reducible exact ih1 _ _ _ _ _ _ _ _ _ _)
   | (with_reducible exact impl_CancelWarning.mono _ _ _ _)
   | (with_reducible exact impl_ChangeLevel.mono _ _ _ _ _)
   | (with_reducible exact impl_ExtendWarning.mono _ _ _ _)
   | (with_reducible exact impl_IsConsistent.mono _ _)
   | (with_reducible exact impl_IssueWarning.mono _ _ _ _ _ _ _ _)
   | (with_reducible exact laws_tdOnce.mono _ _)
   | (with_reducible exact spec_CancelWarning.mono _ _ _ _)
   | (with_reducible exact spec_ChangeLevel.mono _ _ _ _ _)
   | (with_reducible exact spec_ExtendWarning.mono _ _ _ _)
   | (with_reducible exact spec_IsConsistent.mono _ _)
   | (with_reducible exact spec_IssueWarning.mono _ _ _ _ _ _ _ _)
   | (with_reducible exact LeO.refl _)
   | (with_reducible exact LeO.none _)
   | (with_reducible refine LeO.ite ?_ ?_)
   | (with_reducible refine LeO.bind ?_ (fun _ => ?_))
   | exact ih0 _ _ _ _ _ _ _ _ _ _
   | exact ih1 _ _ _ _ _ _ _ _ _ _
   | exact impl_CancelWarning.mono _ _ _ _
   | exact impl_ChangeLevel.mono _ _ _ _ _
   | exact impl_ExtendWarning.mono _ _ _ _
   | exact impl_IsConsistent.mono _ _
   | exact impl_IssueWarning.mono _ _ _ _ _ _ _ _
   | exact laws_tdOnce.mono _ _
   | exact spec_CancelWarning.mono _ _ _ _
   | exact spec_ChangeLevel.mono _ _ _ _ _
   | exact spec_ExtendWarning.mono _ _ _ _
   | exact spec_IsConsistent.mono _ _
   | exact spec_IssueWarning.mono _ _ _ _ _ _ _ _
   | exact LeO.none _
   | refine LeO.ite ?_ ?_
   | refine LeO.bind ?_ (fun _ => ?_)
theorem laws_FnEveryWarning.mono : ∀ a0 a1 a2 a3 a4 a5 a6 a7 a8 a9 k, LeO (laws_FnEveryWarning.f k a0 a1 a2 a3 a4 a5 a6 a7 a8 a9) (laws_FnEveryWarning.f (k + 1) a0 a1 a2 a3 a4 a5 a6 a7 a8 a9) := by
 intro a0 a1 a2 a3 a4 a5 a6 a7 a8 a9 k
 obtain ⟨ih0, ih1⟩ := laws_FnEveryWarning.mono_l k
 unfold laws_FnEveryWarning.f
 repeat' first
   | (with_reducible exact ih0 _ _ _ _ _ _ _ _ _ _)
   | (with_reducible exact ih1 _ _ _ _ _ _ _ _ _ _)
   | (with_reducible exact impl_CancelWarning.mono _ _ _ _)
   | (with_reducible exact impl_ChangeLevel.mono _ _ _ _ _)
   | (with_reducible exact impl_ExtendWarning.mono _ _ _ _)
   | (with_reducible exact impl_IsConsistent.mono _ _)
   | (with_reducible exact impl_IssueWarning.mono _ _ _ _ _ _ _ _)
   | (with_reducible exact laws_tdOnce.mono _ _)
   | (with_reducible exact spec_CancelWarning.mono _ _ _ _)
   | (with_reducible exact spec_ChangeLevel.mono _ _ _ _ _)
   | (with_reducible exact spec_ExtendWarning.mono _ _ _ _)
   | (with_reducible exact spec_IsConsistent.mono _ _)
   | (with_reducible exact spec_IssueWarning.mono _ _ _ _ _ _ _ _)
   | (with_reducible exact LeO.refl _)
   | (with_reducible exact LeO.none _)
   | (with_reducible refine LeO.ite ?_ ?_)
   | (with_reducible refine LeO.bind ?_ (fun _ => ?_))
   | exact ih0 _ _ _ _ _ _ _ _ _ _
   | exact ih1 _ _ _ _ _ _ _ _ _ _
   | exact impl_CancelWarning.mono _ _ _ _
   | exact impl_ChangeLevel.mono _ _ _ _ _
   | exact impl_ExtendWarning.mono _ _ _ _
   | exact impl_IsConsistent.mono _ _
   | exact impl_IssueWarning.mono _ _ _ _ _ _ _ _
   | exact laws_tdOnce.mono _ _
   | exact spec_CancelWarning.mono _ _ _ _
   | exact spec_ChangeLevel.mono _ _ _ _ _
   | exact spec_ExtendWarning.mono _ _ _ _
   | exact spec_IsConsistent.mono _ _
   | exact spec_IssueWarning.mono _ _ _ _ _ _ _ _
   | exact LeO.none _
   | refine LeO.ite ?_ ?_
   | refine LeO.bind ?_ (fun _ => ?_)
set_option maxHeartbeats 8000000 in
set_option maxRecDepth 100000 in
theorem laws_FnEveryWarning.calls (k : Nat) (A0 : Option Addr) (c0 : Nat) (l0 : List (S37)) (a1_0 : Int) (a1_1 : Int) (a1_2 : Int) (a1_3 : Int) (a1_4 : Int) (a1_5 : Int) (a2 : Int) (a3 : Int) (a4 : Int) (r : Bool) (w : World) (hr0 : Kd.C k37 w A0 l0.length l0) (hc0 : l0.length ≤ c0) (h : laws_FnEveryWarning.f k l0 a1_0 a1_1 a1_2 a1_3 a1_4 a1_5 a2 a3 a4 = some r) :
  Calls Try.prog 5 #[.slice A0 l0.length c0, .agg #[.int .i64 a1_0, .int .i64 a1_1, .int .i64 a1_2, .int .i64 a1_3, .int .i64 a1_4, .int .i64 a1_5], .int .i64 a2, .int .i64 a3, .int .i64 a4] w fun e w' => e = .returned (.bool r) ∧ Below w.heap.size w w' := by
 have hu37 := Try.underlying37
 have HR0 := Aside0.mk hr0
 have HC0 := Aside0.mk hc0
 clear hr0 hc0
 have HB := Aside0.mk (Below.refl w.heap.size w)
 have H : (if (l0.length : Int) > 4096 then (some true) else ((impl_IsConsistent.f k l0).bind fun t579 => ((spec_IsConsistent.f k l0).bind fun t580 => (if (t579 != t580) = true then (none) else ((impl_IssueWarning.f k l0 a1_0 a1_1 a1_2 a1_3 a1_4 a1_5).bind fun bt581 => ((impl_ExtendWarning.f k l0 a2 a4).bind fun bt586 => ((impl_ChangeLevel.f k l0 a2 a3 a4).bind fun bt590 => ((impl_CancelWarning.f k l0 a2 a4).bind fun bt595 => ((spec_IssueWarning.f k l0 a1_0 a1_1 a1_2 a1_3 a1_4 a1_5).bind fun bt599 => ((spec_ExtendWarning.f k l0 a2 a4).bind fun bt604 => ((spec_ChangeLevel.f k l0 a2 a3 a4).bind fun bt608 => ((spec_CancelWarning.f k l0 a2 a4).bind fun bt613 => (if (bt581.2.2 != bt599.2.2) = true then (none) else (if (bt586.2 != bt604.2) = true then (none) else (if (bt590.2.2 != bt608.2.2) = true then (none) else (laws_FnEveryWarning.j0 k l0 bt581.1 bt581.2.2 bt586.1 bt586.2 bt590.1 bt590.2.2 bt595.1 bt595.2 (bt595.2 != bt613.2))))))))))))))))) = some r := h
 clear h
 by_cases c6 : (l0.length : Int) > 4096
 ·
  rw [if_pos c6] at H
  have c6b0 : decide (4096 < (l0.length : Int)) = true := decide_eq_true c6
  have c6b1 : decide (4096 < l0.length) = true := decide_eq_true (by omega)
  clear c6
  obtain rfl := Option.some.inj H
  go_enter Try.func5, Try.ntmps5
  go_wp2_with (first | ((with_reducible refine gate_dst (N := 6) rfl ?_); refine box_event ?hg (N := 6) ?hd (cs := #[.int .i64 a1_0, .int .i64 a1_1, .int .i64 a1_2, .int .i64 a1_3, .int .i64 a1_4, .int .i64 a1_5]) (t := 37) ?hr ?_; (case hd => rfl); (case hg => rfl); (case hr => first | (go_simp; done) | (go_simp; rfl)); intro gb578 hg w7 hbox hb; have n0_ := Aside0.mk (below_step (by repeat (first | (with_reducible first | exact HB.out | apply below_alloc | apply pw_below_drewN | apply below_drew1) | exact HB.out)) hb); have n1_ := Aside0.mk (hbox); have n2_ := Aside0.mk ((by rw [hg]; exact (below_size (by repeat (first | (with_reducible first | exact HB.out | apply below_alloc | apply pw_below_drewN | apply below_drew1) | exact HB.out))) : w.heap.size ≤ gb578)); have n3_ := Aside0.mk ((by rw [hg]; exact (below_size (by repeat (first | (with_reducible first | exact HB.out | apply below_alloc | apply pw_below_drewN | apply below_drew1) | exact HB.out))) : w.heap.size ≤ gb578)); clear HB; have HB := n0_; have BK578 := n1_; have GW578 := n2_; have GE578 := n3_; clear n0_ n1_ n2_ n3_; clear hb hbox hg))
  go_ret
  exact ⟨by first | rfl | (simp [errW_none, errW_some] <;> rfl) | (simp [*, errW_none, errW_some] <;> rfl), by repeat (first | (with_reducible first | exact HB.out | apply below_alloc | apply pw_below_drewN | apply below_drew1 | refine below_set ?_ GE578.out) | exact HB.out)⟩
 ·
  rw [if_neg c6] at H
  have c6b0 : decide (4096 < (l0.length : Int)) = false := decide_eq_false c6
  have c6b1 : decide (4096 < l0.length) = false := decide_eq_false (by omega)
  clear c6
  replace H := Option.bind_eq_some_iff.mp H
  obtain ⟨t579, A80, H⟩ := H
  replace H : ((spec_IsConsistent.f k l0).bind fun t580 => (if (t579 != t580) = true then (none) else ((impl_IssueWarning.f k l0 a1_0 a1_1 a1_2 a1_3 a1_4 a1_5).bind fun bt581 => ((impl_ExtendWarning.f k l0 a2 a4).bind fun bt586 => ((impl_ChangeLevel.f k l0 a2 a3 a4).bind fun bt590 => ((impl_CancelWarning.f k l0 a2 a4).bind fun bt595 => ((spec_IssueWarning.f k l0 a1_0 a1_1 a1_2 a1_3 a1_4 a1_5).bind fun bt599 => ((spec_ExtendWarning.f k l0 a2 a4).bind fun bt604 => ((spec_ChangeLevel.f k l0 a2 a3 a4).bind fun bt608 => ((spec_CancelWarning.f k l0 a2 a4).bind fun bt613 => (if (bt581.2.2 != bt599.2.2) = true then (none) else (if (bt586.2 != bt604.2) = true then (none) else (if (bt590.2.2 != bt608.2.2) = true then (none) else (laws_FnEveryWarning.j0 k l0 bt581.1 bt581.2.2 bt586.1 bt586.2 bt590.1 bt590.2.2 bt595.1 bt595.2 (bt595.2 != bt613.2))))))))))))))) = some r := H
  have A8 := Aside0.mk A80
  clear A80
  replace H := Option.bind_eq_some_iff.mp H
  obtain ⟨t580, A90, H⟩ := H
  replace H : (if (t579 != t580) = true then (none) else ((impl_IssueWarning.f k l0 a1_0 a1_1 a1_2 a1_3 a1_4 a1_5).bind fun bt581 => ((impl_ExtendWarning.f k l0 a2 a4).bind fun bt586 => ((impl_ChangeLevel.f k l0 a2 a3 a4).bind fun bt590 => ((impl_CancelWarning.f k l0 a2 a4).bind fun bt595 => ((spec_IssueWarning.f k l0 a1_0 a1_1 a1_2 a1_3 a1_4 a1_5).bind fun bt599 => ((spec_ExtendWarning.f k l0 a2 a4).bind fun bt604 => ((spec_ChangeLevel.f k l0 a2 a3 a4).bind fun bt608 => ((spec_CancelWarning.f k l0 a2 a4).bind fun bt613 => (if (bt581.2.2 != bt599.2.2) = true then (none) else (if (bt586.2 != bt604.2) = true then (none) else (if (bt590.2.2 != bt608.2.2) = true then (none) else (laws_FnEveryWarning.j0 k l0 bt581.1 bt581.2.2 bt586.1 bt586.2 bt590.1 bt590.2.2 bt595.1 bt595.2 (bt595.2 != bt613.2)))))))))))))) = some r := H
  have A9 := Aside0.mk A90
  clear A90
  by_cases c10 : (t579 != t580) = true
  ·
   rw [if_pos c10] at H
   exact absurd H (by simp)
  ·
   rw [if_neg c10] at H
   have c10b0 : (t579 != t580) = false := by simpa using c10
   (try (have c10b1 : decide (t579 = t580) = true := by simpa using c10))
   (try (have c10b2 : (t579 == t580) = true := by simpa using c10))
   clear c10
   replace H := Option.bind_eq_some_iff.mp H
   obtain ⟨⟨t581, t584, t585⟩, A110, H⟩ := H
   replace H : ((impl_ExtendWarning.f k l0 a2 a4).bind fun bt586 => ((impl_ChangeLevel.f k l0 a2 a3 a4).bind fun bt590 => ((impl_CancelWarning.f k l0 a2 a4).bind fun bt595 => ((spec_IssueWarning.f k l0 a1_0 a1_1 a1_2 a1_3 a1_4 a1_5).bind fun bt599 => ((spec_ExtendWarning.f k l0 a2 a4).bind fun bt604 => ((spec_ChangeLevel.f k l0 a2 a3 a4).bind fun bt608 => ((spec_CancelWarning.f k l0 a2 a4).bind fun bt613 => (if (t585 != bt599.2.2) = true then (none) else (if (bt586.2 != bt604.2) = true then (none) else (if (bt590.2.2 != bt608.2.2) = true then (none) else (laws_FnEveryWarning.j0 k l0 t581 t585 bt586.1 bt586.2 bt590.1 bt590.2.2 bt595.1 bt595.2 (bt595.2 != bt613.2)))))))))))) = some r := H
   have A11 := Aside0.mk A110
   clear A110
   replace H := Option.bind_eq_some_iff.mp H
   obtain ⟨⟨t586, t587⟩, A120, H⟩ := H
   replace H : ((impl_ChangeLevel.f k l0 a2 a3 a4).bind fun bt590 => ((impl_CancelWarning.f k l0 a2 a4).bind fun bt595 => ((spec_IssueWarning.f k l0 a1_0 a1_1 a1_2 a1_3 a1_4 a1_5).bind fun bt599 => ((spec_ExtendWarning.f k l0 a2 a4).bind fun bt604 => ((spec_ChangeLevel.f k l0 a2 a3 a4).bind fun bt608 => ((spec_CancelWarning.f k l0 a2 a4).bind fun bt613 => (if (t585 != bt599.2.2) = true then (none) else (if (t587 != bt604.2) = true then (none) else (if (bt590.2.2 != bt608.2.2) = true then (none) else (laws_FnEveryWarning.j0 k l0 t581 t585 t586 t587 bt590.1 bt590.2.2 bt595.1 bt595.2 (bt595.2 != bt613.2))))))))))) = some r := H
   have A12 := Aside0.mk A120
   clear A120
   replace H := Option.bind_eq_some_iff.mp H
   obtain ⟨⟨t590, t591, t592⟩, A130, H⟩ := H
   replace H : ((impl_CancelWarning.f k l0 a2 a4).bind fun bt595 => ((spec_IssueWarning.f k l0 a1_0 a1_1 a1_2 a1_3 a1_4 a1_5).bind fun bt599 => ((spec_ExtendWarning.f k l0 a2 a4).bind fun bt604 => ((spec_ChangeLevel.f k l0 a2 a3 a4).bind fun bt608 => ((spec_CancelWarning.f k l0 a2 a4).bind fun bt613 => (if (t585 != bt599.2.2) = true then (none) else (if (t587 != bt604.2) = true then (none) else (if (t592 != bt608.2.2) = true then (none) else (laws_FnEveryWarning.j0 k l0 t581 t585 t586 t587 t590 t592 bt595.1 bt595.2 (bt595.2 != bt613.2)))))))))) = some r := H
   have A13 := Aside0.mk A130
   clear A130
   replace H := Option.bind_eq_some_iff.mp H
   obtain ⟨⟨t595, t596⟩, A140, H⟩ := H
   replace H : ((spec_IssueWarning.f k l0 a1_0 a1_1 a1_2 a1_3 a1_4 a1_5).bind fun bt599 => ((spec_ExtendWarning.f k l0 a2 a4).bind fun bt604 => ((spec_ChangeLevel.f k l0 a2 a3 a4).bind fun bt608 => ((spec_CancelWarning.f k l0 a2 a4).bind fun bt613 => (if (t585 != bt599.2.2) = true then (none) else (if (t587 != bt604.2) = true then (none) else (if (t592 != bt608.2.2) = true then (none) else (laws_FnEveryWarning.j0 k l0 t581 t585 t586 t587 t590 t592 t595 t596 (t596 != bt613.2))))))))) = some r := H
   have A14 := Aside0.mk A140
   clear A140
   replace H := Option.bind_eq_some_iff.mp H
   obtain ⟨⟨t599, t602, t603⟩, A150, H⟩ := H
   replace H : ((spec_ExtendWarning.f k l0 a2 a4).bind fun bt604 => ((spec_ChangeLevel.f k l0 a2 a3 a4).bind fun bt608 => ((spec_CancelWarning.f k l0 a2 a4).bind fun bt613 => (if (t585 != t603) = true then (none) else (if (t587 != bt604.2) = true then (none) else (if (t592 != bt608.2.2) = true then (none) else (laws_FnEveryWarning.j0 k l0 t581 t585 t586 t587 t590 t592 t595 t596 (t596 != bt613.2)))))))) = some r := H
   have A15 := Aside0.mk A150
   clear A150
   replace H := Option.bind_eq_some_iff.mp H
   obtain ⟨⟨t604, t605⟩, A160, H⟩ := H
   replace H : ((spec_ChangeLevel.f k l0 a2 a3 a4).bind fun bt608 => ((spec_CancelWarning.f k l0 a2 a4).bind fun bt613 => (if (t585 != t603) = true then (none) else (if (t587 != t605) = true then (none) else (if (t592 != bt608.2.2) = true then (none) else (laws_FnEveryWarning.j0 k l0 t581 t585 t586 t587 t590 t592 t595 t596 (t596 != bt613.2))))))) = some r := H
   have A16 := Aside0.mk A160
   clear A160
   replace H := Option.bind_eq_some_iff.mp H
   obtain ⟨⟨t608, t609, t610⟩, A170, H⟩ := H
   replace H : ((spec_CancelWarning.f k l0 a2 a4).bind fun bt613 => (if (t585 != t603) = true then (none) else (if (t587 != t605) = true then (none) else (if (t592 != t610) = true then (none) else (laws_FnEveryWarning.j0 k l0 t581 t585 t586 t587 t590 t592 t595 t596 (t596 != bt613.2)))))) = some r := H
   have A17 := Aside0.mk A170
   clear A170
   replace H := Option.bind_eq_some_iff.mp H
   obtain ⟨⟨t613, t614⟩, A180, H⟩ := H
   replace H : (if (t585 != t603) = true then (none) else (if (t587 != t605) = true then (none) else (if (t592 != t610) = true then (none) else (laws_FnEveryWarning.j0 k l0 t581 t585 t586 t587 t590 t592 t595 t596 (t596 != t614))))) = some r := H
   have A18 := Aside0.mk A180
   clear A180
   have HC19 := Aside0.mk H
   clear H
   go_enter Try.func5, Try.ntmps5
   go_upto_region 13 with (first | ((with_reducible refine gate_dst (N := 6) rfl ?_); refine box_event ?hg (N := 6) ?hd (cs := #[.int .i64 a1_0, .int .i64 a1_1, .int .i64 a1_2, .int .i64 a1_3, .int .i64 a1_4, .int .i64 a1_5]) (t := 37) ?hr ?_; (case hd => rfl); (case hg => rfl); (case hr => first | (go_simp; done) | (go_simp; rfl)); intro gb578 hg w20 hbox hb; have n0_ := Aside0.mk (below_step (by repeat (first | (with_reducible first | exact HB.out | apply below_alloc | apply pw_below_drewN | apply below_drew1) | exact HB.out)) hb); have n1_ := Aside0.mk (hbox); have n2_ := Aside0.mk ((by rw [hg]; exact (below_size (by repeat (first | (with_reducible first | exact HB.out | apply below_alloc | apply pw_below_drewN | apply below_drew1) | exact HB.out))) : w.heap.size ≤ gb578)); have n3_ := Aside0.mk ((by rw [hg]; exact (below_size (by repeat (first | (with_reducible first | exact HB.out | apply below_alloc | apply pw_below_drewN | apply below_drew1) | exact HB.out))) : w.heap.size ≤ gb578)); clear HB; have HB := n0_; have BK578 := n1_; have GW578 := n2_; have GE578 := n3_; clear n0_ n1_ n2_ n3_; clear hb hbox hg) | ((with_reducible refine gate_callee (f := 9) rfl ?_); refine goesL_ (some 35) rfl rfl Try.func9 (by kernel_rfl) rfl #[.slice A0 l0.length c0] rfl (by (try simp only [List.map_toArray, List.map_cons, List.map_nil]); first | done | rfl | (simp only [List.length_drop, List.length_take]; rfl)) ?_; (with_reducible refine (impl_IsConsistent.calls k _ _ l0 t579 _ ?side1 ?side2 A8.out).mono ?_); (case side1 => repeat (first | exact (Kd.C_below HR0.out HB.out) | (with_reducible refine Kd.C_alloc ?_ _) | (with_reducible refine Kd.C_drewN ?_ _) | (with_reducible refine Kd.C_drew ?_))); (case side2 => exact HC0.out); rintro e w21 ⟨rfl, hb⟩; refine ⟨_, rfl, ?_⟩; have n0_ := Aside0.mk (blk_below (g := gb578) (o := .cells #[.int .i64 a1_0, .int .i64 a1_1, .int .i64 a1_2, .int .i64 a1_3, .int .i64 a1_4, .int .i64 a1_5] 37 (0, 0)) (by (with_reducible repeat (first | refine blk_drewN ?_ _ | refine blk_drew ?_ | refine blk_alloc ?_ _)); exact BK578.out) hb); have n1_ := Aside0.mk (below_step (by repeat (first | (with_reducible first | exact HB.out | apply below_alloc | apply pw_below_drewN | apply below_drew1 | refine below_set ?_ GE578.out) | exact HB.out)) hb); clear BK578; clear HB; have BK578 := n0_; have HB := n1_; clear n0_ n1_; (try clear hb); (try clear hb2); (try clear hk); (try clear hi)) | ((with_reducible refine gate_callee (f := 19) rfl ?_); refine goesL_ (some 37) rfl rfl Try.func19 (by kernel_rfl) rfl #[.slice A0 l0.length c0] rfl (by (try simp only [List.map_toArray, List.map_cons, List.map_nil]); first | done | rfl | (simp only [List.length_drop, List.length_take]; rfl)) ?_; (with_reducible refine (spec_IsConsistent.calls k _ _ l0 t580 _ ?side1 ?side2 A9.out).mono ?_); (case side1 => repeat (first | exact (Kd.C_below HR0.out HB.out) | (with_reducible refine Kd.C_alloc ?_ _) | (with_reducible refine Kd.C_drewN ?_ _) | (with_reducible refine Kd.C_drew ?_))); (case side2 => exact HC0.out); rintro e w22 ⟨rfl, hb⟩; refine ⟨_, rfl, ?_⟩; have n0_ := Aside0.mk (blk_below (g := gb578) (o := .cells #[.int .i64 a1_0, .int .i64 a1_1, .int .i64 a1_2, .int .i64 a1_3, .int .i64 a1_4, .int .i64 a1_5] 37 (0, 0)) (by (with_reducible repeat (first | refine blk_drewN ?_ _ | refine blk_drew ?_ | refine blk_alloc ?_ _)); exact BK578.out) hb); have n1_ := Aside0.mk (below_step (by repeat (first | (with_reducible first | exact HB.out | apply below_alloc | apply pw_below_drewN | apply below_drew1 | refine below_set ?_ GE578.out) | exact HB.out)) hb); clear BK578; clear HB; have BK578 := n0_; have HB := n1_; clear n0_ n1_; (try clear hb); (try clear hb2); (try clear hk); (try clear hi); have hcz23_0 : w22.cell? ⟨gb578, 0, none⟩ = some (.int .i64 a1_0) := (blk_cell BK578.out 0).trans rfl; have hcz23_1 : w22.cell? ⟨gb578, 1, none⟩ = some (.int .i64 a1_1) := (blk_cell BK578.out 1).trans rfl; have hcz23_2 : w22.cell? ⟨gb578, 2, none⟩ = some (.int .i64 a1_2) := (blk_cell BK578.out 2).trans rfl; have hcz23_3 : w22.cell? ⟨gb578, 3, none⟩ = some (.int .i64 a1_3) := (blk_cell BK578.out 3).trans rfl; have hcz23_4 : w22.cell? ⟨gb578, 4, none⟩ = some (.int .i64 a1_4) := (blk_cell BK578.out 4).trans rfl; have hcz23_5 : w22.cell? ⟨gb578, 5, none⟩ = some (.int .i64 a1_5) := (blk_cell BK578.out 5).trans rfl; have hfz23_0 := blk_frozen BK578.out 0; have hfz23_1 := blk_frozen BK578.out 1; have hfz23_2 := blk_frozen BK578.out 2; have hfz23_3 := blk_frozen BK578.out 3; have hfz23_4 := blk_frozen BK578.out 4; have hfz23_5 := blk_frozen BK578.out 5) | ((with_reducible refine gate_callee (f := 20) rfl ?_); refine goesL_ (some 42) rfl rfl Try.func20 (by kernel_rfl) rfl #[.slice A0 l0.length c0, .agg #[.int .i64 a1_0, .int .i64 a1_1, .int .i64 a1_2, .int .i64 a1_3, .int .i64 a1_4, .int .i64 a1_5]] rfl (by (try simp only [List.map_toArray, List.map_cons, List.map_nil]); first | done | rfl | (simp only [List.length_drop, List.length_take]; rfl)) ?_; (with_reducible refine (impl_IssueWarning.calls k _ _ l0 a1_0 a1_1 a1_2 a1_3 a1_4 a1_5 t581 t584 t585 _ ?side1 ?side2 A11.out).mono ?_); (case side1 => repeat (first | exact (Kd.C_below HR0.out HB.out) | (with_reducible refine Kd.C_alloc ?_ _) | (with_reducible refine Kd.C_drewN ?_ _) | (with_reducible refine Kd.C_drew ?_))); (case side2 => exact HC0.out); rintro e w24 ⟨v582, rfl, ho0, hb⟩; refine ⟨_, rfl, ?_⟩; have n0_ := Aside0.mk (Kd.R_lower (Kd.R_newB ho0 (g := gb578) (o := .cells #[.int .i64 a1_0, .int .i64 a1_1, .int .i64 a1_2, .int .i64 a1_3, .int .i64 a1_4, .int .i64 a1_5] 37 (0, 0)) (by (with_reducible repeat (first | refine blk_drewN ?_ _ | refine blk_drew ?_ | refine blk_alloc ?_ _)); exact BK578.out)) (below_size (by repeat (first | (with_reducible first | exact HB.out | apply below_alloc | apply pw_below_drewN | apply below_drew1 | refine below_set ?_ GE578.out) | exact HB.out)))); have n1_ := Aside0.mk (blk_below (g := gb578) (o := .cells #[.int .i64 a1_0, .int .i64 a1_1, .int .i64 a1_2, .int .i64 a1_3, .int .i64 a1_4, .int .i64 a1_5] 37 (0, 0)) (by (with_reducible repeat (first | refine blk_drewN ?_ _ | refine blk_drew ?_ | refine blk_alloc ?_ _)); exact BK578.out) hb); have n2_ := Aside0.mk (below_step (by repeat (first | (with_reducible first | exact HB.out | apply below_alloc | apply pw_below_drewN | apply below_drew1 | refine below_set ?_ GE578.out) | exact HB.out)) hb); clear BK578; clear HB; have HO583 := n0_; have BK578 := n1_; have HB := n2_; clear n0_ n1_ n2_; (try clear hb); (try clear hb2); (try clear hk); (try clear hi); (try clear ho0)) | ((with_reducible refine gate_callee (f := 21) rfl ?_); refine goesL_ (some 50) rfl rfl Try.func21 (by kernel_rfl) rfl #[.slice A0 l0.length c0, .int .i64 a2, .int .i64 a4] rfl (by (try simp only [List.map_toArray, List.map_cons, List.map_nil]); first | done | rfl | (simp only [List.length_drop, List.length_take]; rfl)) ?_; (with_reducible refine (impl_ExtendWarning.calls k _ _ l0 a2 a4 t586 t587 _ ?side1 ?side2 A12.out).mono ?_); (case side1 => repeat (first | exact (Kd.C_below HR0.out HB.out) | (with_reducible refine Kd.C_alloc ?_ _) | (with_reducible refine Kd.C_drewN ?_ _) | (with_reducible refine Kd.C_drew ?_))); (case side2 => exact HC0.out); rintro e w25 ⟨v588, rfl, ho0, hb⟩; refine ⟨_, rfl, ?_⟩; have n0_ := Aside0.mk (Kd.R_elder' (by (with_reducible repeat (first | apply Kd.R_alloc | apply Kd.R_drewN | apply Kd.R_drew)); exact HO583.out) (Kd.R_base ho0) hb); have n1_ := Aside0.mk (Kd.R_lower (Kd.R_newB (Kd.R_new' ho0 (Kd.R_lt (by (with_reducible repeat (first | apply Kd.R_alloc | apply Kd.R_drewN | apply Kd.R_drew)); exact HO583.out))) (g := gb578) (o := .cells #[.int .i64 a1_0, .int .i64 a1_1, .int .i64 a1_2, .int .i64 a1_3, .int .i64 a1_4, .int .i64 a1_5] 37 (0, 0)) (by (with_reducible repeat (first | refine blk_drewN ?_ _ | refine blk_drew ?_ | refine blk_alloc ?_ _)); exact BK578.out)) (below_size (by repeat (first | (with_reducible first | exact HB.out | apply below_alloc | apply pw_below_drewN | apply below_drew1 | refine below_set ?_ GE578.out) | exact HB.out)))); have n2_ := Aside0.mk (blk_below (g := gb578) (o := .cells #[.int .i64 a1_0, .int .i64 a1_1, .int .i64 a1_2, .int .i64 a1_3, .int .i64 a1_4, .int .i64 a1_5] 37 (0, 0)) (by (with_reducible repeat (first | refine blk_drewN ?_ _ | refine blk_drew ?_ | refine blk_alloc ?_ _)); exact BK578.out) hb); have n3_ := Aside0.mk (below_step (by repeat (first | (with_reducible first | exact HB.out | apply below_alloc | apply pw_below_drewN | apply below_drew1 | refine below_set ?_ GE578.out) | exact HB.out)) hb); clear HO583; clear BK578; clear HB; have HO583 := n0_; have HO589 := n1_; have BK578 := n2_; have HB := n3_; clear n0_ n1_ n2_ n3_; (try clear hb); (try clear hb2); (try clear hk); (try clear hi); (try clear ho0)) | ((with_reducible refine gate_callee (f := 12) rfl ?_); refine goesL_ (some 58) rfl rfl Try.func12 (by kernel_rfl) rfl #[.slice A0 l0.length c0, .int .i64 a2, .int .i64 a3, .int .i64 a4] rfl (by (try simp only [List.map_toArray, List.map_cons, List.map_nil]); first | done | rfl | (simp only [List.length_drop, List.length_take]; rfl)) ?_; (with_reducible refine (impl_ChangeLevel.calls k _ _ l0 a2 a3 a4 t590 t591 t592 _ ?side1 ?side2 A13.out).mono ?_); (case side1 => repeat (first | exact (Kd.C_below HR0.out HB.out) | (with_reducible refine Kd.C_alloc ?_ _) | (with_reducible refine Kd.C_drewN ?_ _) | (with_reducible refine Kd.C_drew ?_))); (case side2 => exact HC0.out); rintro e w26 ⟨v593, rfl, ho0, hb⟩; refine ⟨_, rfl, ?_⟩; have n0_ := Aside0.mk (Kd.R_elder' (by (with_reducible repeat (first | apply Kd.R_alloc | apply Kd.R_drewN | apply Kd.R_drew)); exact HO583.out) (Kd.R_base ho0) hb); have n1_ := Aside0.mk (Kd.R_elder' (by (with_reducible repeat (first | apply Kd.R_alloc | apply Kd.R_drewN | apply Kd.R_drew)); exact HO589.out) (Kd.R_base ho0) hb); have n2_ := Aside0.mk (Kd.R_lower (Kd.R_newB (Kd.R_new' (Kd.R_new' ho0 (Kd.R_lt (by (with_reducible repeat (first | apply Kd.R_alloc | apply Kd.R_drewN | apply Kd.R_drew)); exact HO583.out))) (Kd.R_lt (by (with_reducible repeat (first | apply Kd.R_alloc | apply Kd.R_drewN | apply Kd.R_drew)); exact HO589.out))) (g := gb578) (o := .cells #[.int .i64 a1_0, .int .i64 a1_1, .int .i64 a1_2, .int .i64 a1_3, .int .i64 a1_4, .int .i64 a1_5] 37 (0, 0)) (by (with_reducible repeat (first | refine blk_drewN ?_ _ | refine blk_drew ?_ | refine blk_alloc ?_ _)); exact BK578.out)) (below_size (by repeat (first | (with_reducible first | exact HB.out | apply below_alloc | apply pw_below_drewN | apply below_drew1 | refine below_set ?_ GE578.out) | exact HB.out)))); have n3_ := Aside0.mk (blk_below (g := gb578) (o := .cells #[.int .i64 a1_0, .int .i64 a1_1, .int .i64 a1_2, .int .i64 a1_3, .int .i64 a1_4, .int .i64 a1_5] 37 (0, 0)) (by (with_reducible repeat (first | refine blk_drewN ?_ _ | refine blk_drew ?_ | refine blk_alloc ?_ _)); exact BK578.out) hb); have n4_ := Aside0.mk (below_step (by repeat (first | (with_reducible first | exact HB.out | apply below_alloc | apply pw_below_drewN | apply below_drew1 | refine below_set ?_ GE578.out) | exact HB.out)) hb); clear HO583; clear HO589; clear BK578; clear HB; have HO583 := n0_; have HO589 := n1_; have HO594 := n2_; have BK578 := n3_; have HB := n4_; clear n0_ n1_ n2_ n3_ n4_; (try clear hb); (try clear hb2); (try clear hk); (try clear hi); (try clear ho0)) | ((with_reducible refine gate_callee (f := 17) rfl ?_); refine goesL_ (some 66) rfl rfl Try.func17 (by kernel_rfl) rfl #[.slice A0 l0.length c0, .int .i64 a2, .int .i64 a4] rfl (by (try simp only [List.map_toArray, List.map_cons, List.map_nil]); first | done | rfl | (simp only [List.length_drop, List.length_take]; rfl)) ?_; (with_reducible refine (impl_CancelWarning.calls k _ _ l0 a2 a4 t595 t596 _ ?side1 ?side2 A14.out).mono ?_); (case side1 => repeat (first | exact (Kd.C_below HR0.out HB.out) | (with_reducible refine Kd.C_alloc ?_ _) | (with_reducible refine Kd.C_drewN ?_ _) | (with_reducible refine Kd.C_drew ?_))); (case side2 => exact HC0.out); rintro e w27 ⟨v597, rfl, ho0, hb⟩; refine ⟨_, rfl, ?_⟩; have n0_ := Aside0.mk (Kd.R_elder' (by (with_reducible repeat (first | apply Kd.R_alloc | apply Kd.R_drewN | apply Kd.R_drew)); exact HO583.out) (Kd.R_base ho0) hb); have n1_ := Aside0.mk (Kd.R_elder' (by (with_reducible repeat (first | apply Kd.R_alloc | apply Kd.R_drewN | apply Kd.R_drew)); exact HO589.out) (Kd.R_base ho0) hb); have n2_ := Aside0.mk (Kd.R_elder' (by (with_reducible repeat (first | apply Kd.R_alloc | apply Kd.R_drewN | apply Kd.R_drew)); exact HO594.out) (Kd.R_base ho0) hb); have n3_ := Aside0.mk (Kd.R_lower (Kd.R_newB (Kd.R_new' (Kd.R_new' (Kd.R_new' ho0 (Kd.R_lt (by (with_reducible repeat (first | apply Kd.R_alloc | apply Kd.R_drewN | apply Kd.R_drew)); exact HO583.out))) (Kd.R_lt (by (with_reducible repeat (first | apply Kd.R_alloc | apply Kd.R_drewN | apply Kd.R_drew)); exact HO589.out))) (Kd.R_lt (by (with_reducible repeat (first | apply Kd.R_alloc | apply Kd.R_drewN | apply Kd.R_drew)); exact HO594.out))) (g := gb578) (o := .cells #[.int .i64 a1_0, .int .i64 a1_1, .int .i64 a1_2, .int .i64 a1_3, .int .i64 a1_4, .int .i64 a1_5] 37 (0, 0)) (by (with_reducible repeat (first | refine blk_drewN ?_ _ | refine blk_drew ?_ | refine blk_alloc ?_ _)); exact BK578.out)) (below_size (by repeat (first | (with_reducible first | exact HB.out | apply below_alloc | apply pw_below_drewN | apply below_drew1 | refine below_set ?_ GE578.out) | exact HB.out)))); have n4_ := Aside0.mk (blk_below (g := gb578) (o := .cells #[.int .i64 a1_0, .int .i64 a1_1, .int .i64 a1_2, .int .i64 a1_3, .int .i64 a1_4, .int .i64 a1_5] 37 (0, 0)) (by (with_reducible repeat (first | refine blk_drewN ?_ _ | refine blk_drew ?_ | refine blk_alloc ?_ _)); exact BK578.out) hb); have n5_ := Aside0.mk (below_step (by repeat (first | (with_reducible first | exact HB.out | apply below_alloc | apply pw_below_drewN | apply below_drew1 | refine below_set ?_ GE578.out) | exact HB.out)) hb); clear HO583; clear HO589; clear HO594; clear BK578; clear HB; have HO583 := n0_; have HO589 := n1_; have HO594 := n2_; have HO598 := n3_; have BK578 := n4_; have HB := n5_; clear n0_ n1_ n2_ n3_ n4_ n5_; (try clear hb); (try clear hb2); (try clear hk); (try clear hi); (try clear ho0); have hcz28_0 : w27.cell? ⟨gb578, 0, none⟩ = some (.int .i64 a1_0) := (blk_cell BK578.out 0).trans rfl; have hcz28_1 : w27.cell? ⟨gb578, 1, none⟩ = some (.int .i64 a1_1) := (blk_cell BK578.out 1).trans rfl; have hcz28_2 : w27.cell? ⟨gb578, 2, none⟩ = some (.int .i64 a1_2) := (blk_cell BK578.out 2).trans rfl; have hcz28_3 : w27.cell? ⟨gb578, 3, none⟩ = some (.int .i64 a1_3) := (blk_cell BK578.out 3).trans rfl; have hcz28_4 : w27.cell? ⟨gb578, 4, none⟩ = some (.int .i64 a1_4) := (blk_cell BK578.out 4).trans rfl; have hcz28_5 : w27.cell? ⟨gb578, 5, none⟩ = some (.int .i64 a1_5) := (blk_cell BK578.out 5).trans rfl; have hfz28_0 := blk_frozen BK578.out 0; have hfz28_1 := blk_frozen BK578.out 1; have hfz28_2 := blk_frozen BK578.out 2; have hfz28_3 := blk_frozen BK578.out 3; have hfz28_4 := blk_frozen BK578.out 4; have hfz28_5 := blk_frozen BK578.out 5) | ((with_reducible refine gate_callee (f := 22) rfl ?_); refine goesL_ (some 72) rfl rfl Try.func22 (by kernel_rfl) rfl #[.slice A0 l0.length c0, .agg #[.int .i64 a1_0, .int .i64 a1_1, .int .i64 a1_2, .int .i64 a1_3, .int .i64 a1_4, .int .i64 a1_5]] rfl (by (try simp only [List.map_toArray, List.map_cons, List.map_nil]); first | done | rfl | (simp only [List.length_drop, List.length_take]; rfl)) ?_; (with_reducible refine (spec_IssueWarning.calls k _ _ l0 a1_0 a1_1 a1_2 a1_3 a1_4 a1_5 t599 t602 t603 _ ?side1 ?side2 A15.out).mono ?_); (case side1 => repeat (first | exact (Kd.C_below HR0.out HB.out) | (with_reducible refine Kd.C_alloc ?_ _) | (with_reducible refine Kd.C_drewN ?_ _) | (with_reducible refine Kd.C_drew ?_))); (case side2 => exact HC0.out); rintro e w29 ⟨v600, rfl, ho0, hb⟩; refine ⟨_, rfl, ?_⟩; have n0_ := Aside0.mk (Kd.R_elder' (by (with_reducible repeat (first | apply Kd.R_alloc | apply Kd.R_drewN | apply Kd.R_drew)); exact HO583.out) (Kd.R_base ho0) hb); have n1_ := Aside0.mk (Kd.R_elder' (by (with_reducible repeat (first | apply Kd.R_alloc | apply Kd.R_drewN | apply Kd.R_drew)); exact HO589.out) (Kd.R_base ho0) hb); have n2_ := Aside0.mk (Kd.R_elder' (by (with_reducible repeat (first | apply Kd.R_alloc | apply Kd.R_drewN | apply Kd.R_drew)); exact HO594.out) (Kd.R_base ho0) hb); have n3_ := Aside0.mk (Kd.R_elder' (by (with_reducible repeat (first | apply Kd.R_alloc | apply Kd.R_drewN | apply Kd.R_drew)); exact HO598.out) (Kd.R_base ho0) hb); have n4_ := Aside0.mk (Kd.R_lower (Kd.R_newB (Kd.R_new' (Kd.R_new' (Kd.R_new' (Kd.R_new' ho0 (Kd.R_lt (by (with_reducible repeat (first | apply Kd.R_alloc | apply Kd.R_drewN | apply Kd.R_drew)); exact HO583.out))) (Kd.R_lt (by (with_reducible repeat (first | apply Kd.R_alloc | apply Kd.R_drewN | apply Kd.R_drew)); exact HO589.out))) (Kd.R_lt (by (with_reducible repeat (first | apply Kd.R_alloc | apply Kd.R_drewN | apply Kd.R_drew)); exact HO594.out))) (Kd.R_lt (by (with_reducible repeat (first | apply Kd.R_alloc | apply Kd.R_drewN | apply Kd.R_drew)); exact HO598.out))) (g := gb578) (o := .cells #[.int .i64 a1_0, .int .i64 a1_1, .int .i64 a1_2, .int .i64 a1_3, .int .i64 a1_4, .int .i64 a1_5] 37 (0, 0)) (by (with_reducible repeat (first | refine blk_drewN ?_ _ | refine blk_drew ?_ | refine blk_alloc ?_ _)); exact BK578.out)) (below_size (by repeat (first | (with_reducible first | exact HB.out | apply below_alloc | apply pw_below_drewN | apply below_drew1 | refine below_set ?_ GE578.out) | exact HB.out)))); have n5_ := Aside0.mk (blk_below (g := gb578) (o := .cells #[.int .i64 a1_0, .int .i64 a1_1, .int .i64 a1_2, .int .i64 a1_3, .int .i64 a1_4, .int .i64 a1_5] 37 (0, 0)) (by (with_reducible repeat (first | refine blk_drewN ?_ _ | refine blk_drew ?_ | refine blk_alloc ?_ _)); exact BK578.out) hb); have n6_ := Aside0.mk (below_step (by repeat (first | (with_reducible first | exact HB.out | apply below_alloc | apply pw_below_drewN | apply below_drew1 | refine below_set ?_ GE578.out) | exact HB.out)) hb); clear HO583; clear HO589; clear HO594; clear HO598; clear BK578; clear HB; have HO583 := n0_; have HO589 := n1_; have HO594 := n2_; have HO598 := n3_; have HO601 := n4_; have BK578 := n5_; have HB := n6_; clear n0_ n1_ n2_ n3_ n4_ n5_ n6_; (try clear hb); (try clear hb2); (try clear hk); (try clear hi); (try clear ho0)) | ((with_reducible refine gate_callee (f := 23) rfl ?_); refine goesL_ (some 80) rfl rfl Try.func23 (by kernel_rfl) rfl #[.slice A0 l0.length c0, .int .i64 a2, .int .i64 a4] rfl (by (try simp only [List.map_toArray, List.map_cons, List.map_nil]); first | done | rfl | (simp only [List.length_drop, List.length_take]; rfl)) ?_; (with_reducible refine (spec_ExtendWarning.calls k _ _ l0 a2 a4 t604 t605 _ ?side1 ?side2 A16.out).mono ?_); (case side1 => repeat (first | exact (Kd.C_below HR0.out HB.out) | (with_reducible refine Kd.C_alloc ?_ _) | (with_reducible refine Kd.C_drewN ?_ _) | (with_reducible refine Kd.C_drew ?_))); (case side2 => exact HC0.out); rintro e w30 ⟨v606, rfl, ho0, hb⟩; refine ⟨_, rfl, ?_⟩; have n0_ := Aside0.mk (Kd.R_elder' (by (with_reducible repeat (first | apply Kd.R_alloc | apply Kd.R_drewN | apply Kd.R_drew)); exact HO583.out) (Kd.R_base ho0) hb); have n1_ := Aside0.mk (Kd.R_elder' (by (with_reducible repeat (first | apply Kd.R_alloc | apply Kd.R_drewN | apply Kd.R_drew)); exact HO589.out) (Kd.R_base ho0) hb); have n2_ := Aside0.mk (Kd.R_elder' (by (with_reducible repeat (first | apply Kd.R_alloc | apply Kd.R_drewN | apply Kd.R_drew)); exact HO594.out) (Kd.R_base ho0) hb); have n3_ := Aside0.mk (Kd.R_elder' (by (with_reducible repeat (first | apply Kd.R_alloc | apply Kd.R_drewN | apply Kd.R_drew)); exact HO598.out) (Kd.R_base ho0) hb); have n4_ := Aside0.mk (Kd.R_elder' (by (with_reducible repeat (first | apply Kd.R_alloc | apply Kd.R_drewN | apply Kd.R_drew)); exact HO601.out) (Kd.R_base ho0) hb); have n5_ := Aside0.mk (Kd.R_lower (Kd.R_newB (Kd.R_new' (Kd.R_new' (Kd.R_new' (Kd.R_new' (Kd.R_new' ho0 (Kd.R_lt (by (with_reducible repeat (first | apply Kd.R_alloc | apply Kd.R_drewN | apply Kd.R_drew)); exact HO583.out))) (Kd.R_lt (by (with_reducible repeat (first | apply Kd.R_alloc | apply Kd.R_drewN | apply Kd.R_drew)); exact HO589.out))) (Kd.R_lt (by (with_reducible repeat (first | apply Kd.R_alloc | apply Kd.R_drewN | apply Kd.R_drew)); exact HO594.out))) (Kd.R_lt (by (with_reducible repeat (first | apply Kd.R_alloc | apply Kd.R_drewN | apply Kd.R_drew)); exact HO598.out))) (Kd.R_lt (by (with_reducible repeat (first | apply Kd.R_alloc | apply Kd.R_drewN | apply Kd.R_drew)); exact HO601.out))) (g := gb578) (o := .cells #[.int .i64 a1_0, .int .i64 a1_1, .int .i64 a1_2, .int .i64 a1_3, .int .i64 a1_4, .int .i64 a1_5] 37 (0, 0)) (by (with_reducible repeat (first | refine blk_drewN ?_ _ | refine blk_drew ?_ | refine blk_alloc ?_ _)); exact BK578.out)) (below_size (by repeat (first | (with_reducible first | exact HB.out | apply below_alloc | apply pw_below_drewN | apply below_drew1 | refine below_set ?_ GE578.out) | exact HB.out)))); have n6_ := Aside0.mk (blk_below (g := gb578) (o := .cells #[.int .i64 a1_0, .int .i64 a1_1, .int .i64 a1_2, .int .i64 a1_3, .int .i64 a1_4, .int .i64 a1_5] 37 (0, 0)) (by (with_reducible repeat (first | refine blk_drewN ?_ _ | refine blk_drew ?_ | refine blk_alloc ?_ _)); exact BK578.out) hb); have n7_ := Aside0.mk (below_step (by repeat (first | (with_reducible first | exact HB.out | apply below_alloc | apply pw_below_drewN | apply below_drew1 | refine below_set ?_ GE578.out) | exact HB.out)) hb); clear HO583; clear HO589; clear HO594; clear HO598; clear HO601; clear BK578; clear HB; have HO583 := n0_; have HO589 := n1_; have HO594 := n2_; have HO598 := n3_; have HO601 := n4_; have HO607 := n5_; have BK578 := n6_; have HB := n7_; clear n0_ n1_ n2_ n3_ n4_ n5_ n6_ n7_; (try clear hb); (try clear hb2); (try clear hk); (try clear hi); (try clear ho0)) | ((with_reducible refine gate_callee (f := 13) rfl ?_); refine goesL_ (some 88) rfl rfl Try.func13 (by kernel_rfl) rfl #[.slice A0 l0.length c0, .int .i64 a2, .int .i64 a3, .int .i64 a4] rfl (by (try simp only [List.map_toArray, List.map_cons, List.map_nil]); first | done | rfl | (simp only [List.length_drop, List.length_take]; rfl)) ?_; (with_reducible refine (spec_ChangeLevel.calls k _ _ l0 a2 a3 a4 t608 t609 t610 _ ?side1 ?side2 A17.out).mono ?_); (case side1 => repeat (first | exact (Kd.C_below HR0.out HB.out) | (with_reducible refine Kd.C_alloc ?_ _) | (with_reducible refine Kd.C_drewN ?_ _) | (with_reducible refine Kd.C_drew ?_))); (case side2 => exact HC0.out); rintro e w31 ⟨v611, rfl, ho0, hb⟩; refine ⟨_, rfl, ?_⟩; have n0_ := Aside0.mk (Kd.R_elder' (by (with_reducible repeat (first | apply Kd.R_alloc | apply Kd.R_drewN | apply Kd.R_drew)); exact HO583.out) (Kd.R_base ho0) hb); have n1_ := Aside0.mk (Kd.R_elder' (by (with_reducible repeat (first | apply Kd.R_alloc | apply Kd.R_drewN | apply Kd.R_drew)); exact HO589.out) (Kd.R_base ho0) hb); have n2_ := Aside0.mk (Kd.R_elder' (by (with_reducible repeat (first | apply Kd.R_alloc | apply Kd.R_drewN | apply Kd.R_drew)); exact HO594.out) (Kd.R_base ho0) hb); have n3_ := Aside0.mk (Kd.R_elder' (by (with_reducible repeat (first | apply Kd.R_alloc | apply Kd.R_drewN | apply Kd.R_drew)); exact HO598.out) (Kd.R_base ho0) hb); have n4_ := Aside0.mk (Kd.R_elder' (by (with_reducible repeat (first | apply Kd.R_alloc | apply Kd.R_drewN | apply Kd.R_drew)); exact HO601.out) (Kd.R_base ho0) hb); have n5_ := Aside0.mk (Kd.R_elder' (by (with_reducible repeat (first | apply Kd.R_alloc | apply Kd.R_drewN | apply Kd.R_drew)); exact HO607.out) (Kd.R_base ho0) hb); have n6_ := Aside0.mk (Kd.R_lower (Kd.R_newB (Kd.R_new' (Kd.R_new' (Kd.R_new' (Kd.R_new' (Kd.R_new' (Kd.R_new' ho0 (Kd.R_lt (by (with_reducible repeat (first | apply Kd.R_alloc | apply Kd.R_drewN | apply Kd.R_drew)); exact HO583.out))) (Kd.R_lt (by (with_reducible repeat (first | apply Kd.R_alloc | apply Kd.R_drewN | apply Kd.R_drew)); exact HO589.out))) (Kd.R_lt (by (with_reducible repeat (first | apply Kd.R_alloc | apply Kd.R_drewN | apply Kd.R_drew)); exact HO594.out))) (Kd.R_lt (by (with_reducible repeat (first | apply Kd.R_alloc | apply Kd.R_drewN | apply Kd.R_drew)); exact HO598.out))) (Kd.R_lt (by (with_reducible repeat (first | apply Kd.R_alloc | apply Kd.R_drewN | apply Kd.R_drew)); exact HO601.out))) (Kd.R_lt (by (with_reducible repeat (first | apply Kd.R_alloc | apply Kd.R_drewN | apply Kd.R_drew)); exact HO607.out))) (g := gb578) (o := .cells #[.int .i64 a1_0, .int .i64 a1_1, .int .i64 a1_2, .int .i64 a1_3, .int .i64 a1_4, .int .i64 a1_5] 37 (0, 0)) (by (with_reducible repeat (first | refine blk_drewN ?_ _ | refine blk_drew ?_ | refine blk_alloc ?_ _)); exact BK578.out)) (below_size (by repeat (first | (with_reducible first | exact HB.out | apply below_alloc | apply pw_below_drewN | apply below_drew1 | refine below_set ?_ GE578.out) | exact HB.out)))); have n7_ := Aside0.mk (blk_below (g := gb578) (o := .cells #[.int .i64 a1_0, .int .i64 a1_1, .int .i64 a1_2, .int .i64 a1_3, .int .i64 a1_4, .int .i64 a1_5] 37 (0, 0)) (by (with_reducible repeat (first | refine blk_drewN ?_ _ | refine blk_drew ?_ | refine blk_alloc ?_ _)); exact BK578.out) hb); have n8_ := Aside0.mk (below_step (by repeat (first | (with_reducible first | exact HB.out | apply below_alloc | apply pw_below_drewN | apply below_drew1 | refine below_set ?_ GE578.out) | exact HB.out)) hb); clear HO583; clear HO589; clear HO594; clear HO598; clear HO601; clear HO607; clear BK578; clear HB; have HO583 := n0_; have HO589 := n1_; have HO594 := n2_; have HO598 := n3_; have HO601 := n4_; have HO607 := n5_; have HO612 := n6_; have BK578 := n7_; have HB := n8_; clear n0_ n1_ n2_ n3_ n4_ n5_ n6_ n7_ n8_; (try clear hb); (try clear hb2); (try clear hk); (try clear hi); (try clear ho0)) | ((with_reducible refine gate_callee (f := 18) rfl ?_); refine goesL_ (some 96) rfl rfl Try.func18 (by kernel_rfl) rfl #[.slice A0 l0.length c0, .int .i64 a2, .int .i64 a4] rfl (by (try simp only [List.map_toArray, List.map_cons, List.map_nil]); first | done | rfl | (simp only [List.length_drop, List.length_take]; rfl)) ?_; (with_reducible refine (spec_CancelWarning.calls k _ _ l0 a2 a4 t613 t614 _ ?side1 ?side2 A18.out).mono ?_); (case side1 => repeat (first | exact (Kd.C_below HR0.out HB.out) | (with_reducible refine Kd.C_alloc ?_ _) | (with_reducible refine Kd.C_drewN ?_ _) | (with_reducible refine Kd.C_drew ?_))); (case side2 => exact HC0.out); rintro e w32 ⟨v615, rfl, ho0, hb⟩; refine ⟨_, rfl, ?_⟩; have n0_ := Aside0.mk (Kd.R_elder' (by (with_reducible repeat (first | apply Kd.R_alloc | apply Kd.R_drewN | apply Kd.R_drew)); exact HO583.out) (Kd.R_base ho0) hb); have n1_ := Aside0.mk (Kd.R_elder' (by (with_reducible repeat (first | apply Kd.R_alloc | apply Kd.R_drewN | apply Kd.R_drew)); exact HO589.out) (Kd.R_base ho0) hb); have n2_ := Aside0.mk (Kd.R_elder' (by (with_reducible repeat (first | apply Kd.R_alloc | apply Kd.R_drewN | apply Kd.R_drew)); exact HO594.out) (Kd.R_base ho0) hb); have n3_ := Aside0.mk (Kd.R_elder' (by (with_reducible repeat (first | apply Kd.R_alloc | apply Kd.R_drewN | apply Kd.R_drew)); exact HO598.out) (Kd.R_base ho0) hb); have n4_ := Aside0.mk (Kd.R_elder' (by (with_reducible repeat (first | apply Kd.R_alloc | apply Kd.R_drewN | apply Kd.R_drew)); exact HO601.out) (Kd.R_base ho0) hb); have n5_ := Aside0.mk (Kd.R_elder' (by (with_reducible repeat (first | apply Kd.R_alloc | apply Kd.R_drewN | apply Kd.R_drew)); exact HO607.out) (Kd.R_base ho0) hb); have n6_ := Aside0.mk (Kd.R_elder' (by (with_reducible repeat (first | apply Kd.R_alloc | apply Kd.R_drewN | apply Kd.R_drew)); exact HO612.out) (Kd.R_base ho0) hb); have n7_ := Aside0.mk (Kd.R_lower (Kd.R_newB (Kd.R_new' (Kd.R_new' (Kd.R_new' (Kd.R_new' (Kd.R_new' (Kd.R_new' (Kd.R_new' ho0 (Kd.R_lt (by (with_reducible repeat (first | apply Kd.R_alloc | apply Kd.R_drewN | apply Kd.R_drew)); exact HO583.out))) (Kd.R_lt (by (with_reducible repeat (first | apply Kd.R_alloc | apply Kd.R_drewN | apply Kd.R_drew)); exact HO589.out))) (Kd.R_lt (by (with_reducible repeat (first | apply Kd.R_alloc | apply Kd.R_drewN | apply Kd.R_drew)); exact HO594.out))) (Kd.R_lt (by (with_reducible repeat (first | apply Kd.R_alloc | apply Kd.R_drewN | apply Kd.R_drew)); exact HO598.out))) (Kd.R_lt (by (with_reducible repeat (first | apply Kd.R_alloc | apply Kd.R_drewN | apply Kd.R_drew)); exact HO601.out))) (Kd.R_lt (by (with_reducible repeat (first | apply Kd.R_alloc | apply Kd.R_drewN | apply Kd.R_drew)); exact HO607.out))) (Kd.R_lt (by (with_reducible repeat (first | apply Kd.R_alloc | apply Kd.R_drewN | apply Kd.R_drew)); exact HO612.out))) (g := gb578) (o := .cells #[.int .i64 a1_0, .int .i64 a1_1, .int .i64 a1_2, .int .i64 a1_3, .int .i64 a1_4, .int .i64 a1_5] 37 (0, 0)) (by (with_reducible repeat (first | refine blk_drewN ?_ _ | refine blk_drew ?_ | refine blk_alloc ?_ _)); exact BK578.out)) (below_size (by repeat (first | (with_reducible first | exact HB.out | apply below_alloc | apply pw_below_drewN | apply below_drew1 | refine below_set ?_ GE578.out) | exact HB.out)))); have n8_ := Aside0.mk (blk_below (g := gb578) (o := .cells #[.int .i64 a1_0, .int .i64 a1_1, .int .i64 a1_2, .int .i64 a1_3, .int .i64 a1_4, .int .i64 a1_5] 37 (0, 0)) (by (with_reducible repeat (first | refine blk_drewN ?_ _ | refine blk_drew ?_ | refine blk_alloc ?_ _)); exact BK578.out) hb); have n9_ := Aside0.mk (below_step (by repeat (first | (with_reducible first | exact HB.out | apply below_alloc | apply pw_below_drewN | apply below_drew1 | refine below_set ?_ GE578.out) | exact HB.out)) hb); clear HO583; clear HO589; clear HO594; clear HO598; clear HO601; clear HO607; clear HO612; clear BK578; clear HB; have HO583 := n0_; have HO589 := n1_; have HO594 := n2_; have HO598 := n3_; have HO601 := n4_; have HO607 := n5_; have HO612 := n6_; have HO616 := n7_; have BK578 := n8_; have HB := n9_; clear n0_ n1_ n2_ n3_ n4_ n5_ n6_ n7_ n8_ n9_; (try clear hb); (try clear hb2); (try clear hk); (try clear hi); (try clear ho0)))
   (try simp only [Act.put, List.setIfInBounds_toArray, List.set_cons_zero, List.set_cons_succ])
   go_cut [116] (fun v116 wc => ∃ (kq : Nat) (x116_18 : Bool), v116 = .bool x116_18 ∧ Aside0 (laws_FnEveryWarning.j0 kq l0 t581 t585 t586 t587 t590 t592 t595 t596 x116_18 = some r) ∧ Aside0 (kq ≤ k) ∧ Aside0 (Kd.R k37 37 wc w.heap.size (fun k_ => some k_ ≠ (v588 : Value).ownBlock ∧ some k_ ≠ (v593 : Value).ownBlock ∧ some k_ ≠ (v597 : Value).ownBlock ∧ k_ ≠ gb578) v582 t581) ∧ Aside0 (Kd.R k37 37 wc w.heap.size (fun k_ => some k_ ≠ (v582 : Value).ownBlock ∧ some k_ ≠ (v593 : Value).ownBlock ∧ some k_ ≠ (v597 : Value).ownBlock ∧ k_ ≠ gb578) v588 t586) ∧ Aside0 (Kd.R k37 37 wc w.heap.size (fun k_ => some k_ ≠ (v582 : Value).ownBlock ∧ some k_ ≠ (v588 : Value).ownBlock ∧ some k_ ≠ (v597 : Value).ownBlock ∧ k_ ≠ gb578) v593 t590) ∧ Aside0 (Kd.R k37 37 wc w.heap.size (fun k_ => some k_ ≠ (v582 : Value).ownBlock ∧ some k_ ≠ (v588 : Value).ownBlock ∧ some k_ ≠ (v593 : Value).ownBlock ∧ k_ ≠ gb578) v597 t595) ∧ Aside0 (wc.heap[gb578]? = some (.cells #[.int .i64 a1_0, .int .i64 a1_1, .int .i64 a1_2, .int .i64 a1_3, .int .i64 a1_4, .int .i64 a1_5] 37 (0, 0))) ∧ Aside0 (Below w.heap.size w wc))
   case first =>
    have H := HC19.out
    clear HC19
    by_cases c33 : (t585 != t603) = true
    ·
     rw [if_pos c33] at H
     exact absurd H (by simp)
    ·
     rw [if_neg c33] at H
     have c33b0 : (t585 != t603) = false := by simpa using c33
     (try (have c33b1 : decide (t585 = t603) = true := by simpa using c33))
     (try (have c33b2 : (t585 == t603) = true := by simpa using c33))
     clear c33
     (first | rw [c33b0] | (simp only [i64_w, i32_w]; rw [c33b0]) | rw [c33b1] | skip)
     by_cases c34 : (t587 != t605) = true
     ·
      rw [if_pos c34] at H
      exact absurd H (by simp)
     ·
      rw [if_neg c34] at H
      have c34b0 : (t587 != t605) = false := by simpa using c34
      (try (have c34b1 : decide (t587 = t605) = true := by simpa using c34))
      (try (have c34b2 : (t587 == t605) = true := by simpa using c34))
      clear c34
      by_cases c35 : (t592 != t610) = true
      ·
       rw [if_pos c35] at H
       exact absurd H (by simp)
      ·
       rw [if_neg c35] at H
       have c35b0 : (t592 != t610) = false := by simpa using c35
       (try (have c35b1 : decide (t592 = t610) = true := by simpa using c35))
       (try (have c35b2 : (t592 == t610) = true := by simpa using c35))
       clear c35
       have H' := Aside0.mk H
       clear H
       go_wp2
       go_meet
       case rel => exact ⟨_, ((t596 != t614)), (by first | rfl | (simp; done) | (simp [*]; done)), H', ⟨by first | omega | exact Nat.le_refl _⟩, ⟨by (with_reducible repeat (first | apply Kd.R_alloc | apply Kd.R_drewN | apply Kd.R_drew)); exact Kd.R_mono HO583.out (fun _ hk => ⟨hk.1.1.1.1.1.1.2, ⟨hk.1.1.1.1.1.2, ⟨hk.1.1.1.1.2, hk.1.1.1.1.1.1.1.2⟩⟩⟩)⟩, ⟨by (with_reducible repeat (first | apply Kd.R_alloc | apply Kd.R_drewN | apply Kd.R_drew)); exact Kd.R_mono HO589.out (fun _ hk => ⟨hk.1.1.1.1.1.1.1.2, ⟨hk.1.1.1.1.1.2, ⟨hk.1.1.1.1.2, hk.1.1.1.1.1.1.2⟩⟩⟩)⟩, ⟨by (with_reducible repeat (first | apply Kd.R_alloc | apply Kd.R_drewN | apply Kd.R_drew)); exact Kd.R_mono HO594.out (fun _ hk => ⟨hk.1.1.1.1.1.1.1.2, ⟨hk.1.1.1.1.1.1.2, ⟨hk.1.1.1.1.2, hk.1.1.1.1.1.2⟩⟩⟩)⟩, ⟨by (with_reducible repeat (first | apply Kd.R_alloc | apply Kd.R_drewN | apply Kd.R_drew)); exact Kd.R_mono HO598.out (fun _ hk => ⟨hk.1.1.1.1.1.1.1.2, ⟨hk.1.1.1.1.1.1.2, ⟨hk.1.1.1.1.1.2, hk.1.1.1.1.2⟩⟩⟩)⟩, ⟨by (with_reducible repeat (first | refine blk_drewN ?_ _ | refine blk_drew ?_ | refine blk_alloc ?_ _)); exact BK578.out⟩, ⟨by repeat (first | (with_reducible first | exact HB.out | apply below_alloc | apply pw_below_drewN | apply below_drew1 | refine below_set ?_ GE578.out) | exact HB.out)⟩⟩
   case rest =>
    clear HC19
    try clear c1
    try clear c2
    try clear p2
    try clear c3
    try clear c5
    try clear c6
    try clear c6b0
    try clear c6b1
    try clear c9
    try clear c10
    try clear c10b0
    try clear c10b1
    try clear c10b2
    try clear c12
    try clear c13
    try clear c17
    try clear c18
    try clear c19
    try clear c20
    try clear c21
    try clear c22
    try clear c23
    try clear c33
    try clear c33b0
    try clear c33b1
    try clear c33b2
    try clear c34
    try clear c34b0
    try clear c34b1
    try clear c34b2
    try clear c35
    try clear c35b0
    try clear c35b1
    try clear c35b2
    try clear hcz23_0
    try clear hcz23_1
    try clear hcz23_2
    try clear hcz23_3
    try clear hcz23_4
    try clear hcz23_5
    try clear hcz28_0
    try clear hcz28_1
    try clear hcz28_2
    try clear hcz28_3
    try clear hcz28_4
    try clear hcz28_5
    try clear hfz23_0
    try clear hfz23_1
    try clear hfz23_2
    try clear hfz23_3
    try clear hfz23_4
    try clear hfz23_5
    try clear hfz28_0
    try clear hfz28_1
    try clear hfz28_2
    try clear hfz28_3
    try clear hfz28_4
    try clear hfz28_5
    obtain ⟨kq, x116_18, rfl, HA, HJ18, HO_11, HO_14, HO_16, HO_19, BK578, HB⟩ := hcut
    cases kq with
    | zero => exact absurd HA.out (by simp [laws_FnEveryWarning.j0])
    | succ kj18 =>
     have H := HA.out
     clear HA
     simp only [laws_FnEveryWarning.j0] at H
     by_cases c36 : x116_18 = true
     ·
      subst c36
      have H1 : (none) = some r := by rw [if_pos rfl] at H; exact H
      clear H
      have H := H1
      clear H1
      exact absurd H (by simp)
     ·
      replace c36 := Bool.eq_false_iff.mpr c36
      subst c36
      have H1 : ((impl_IsConsistent.f kj18 l0).bind fun t617 => (if t617 = true then ((laws_tdOnce.f kj18 l0).bind fun t618 => (laws_FnEveryWarning.j1 kj18 l0 t581 t585 t586 t587 t590 t592 t595 t596 (!t618))) else (laws_FnEveryWarning.j1 kj18 l0 t581 t585 t586 t587 t590 t592 t595 t596 false))) = some r := by rw [if_neg (show ¬ (false = true) by decide)] at H; exact H
      clear H
      have H := H1
      clear H1
      have HC37 := Aside0.mk H
      clear H
      go_upto_region 15 with (fail)
      go_cut [123] (fun v123 wc => ∃ (kq : Nat) (x123_36 : Bool), v123 = .bool x123_36 ∧ Aside0 (laws_FnEveryWarning.j1 kq l0 t581 t585 t586 t587 t590 t592 t595 t596 x123_36 = some r) ∧ Aside0 (kq ≤ kj18) ∧ Aside0 (Kd.R k37 37 wc w.heap.size (fun k_ => some k_ ≠ (v588 : Value).ownBlock ∧ some k_ ≠ (v593 : Value).ownBlock ∧ some k_ ≠ (v597 : Value).ownBlock ∧ k_ ≠ gb578) v582 t581) ∧ Aside0 (Kd.R k37 37 wc w.heap.size (fun k_ => some k_ ≠ (v582 : Value).ownBlock ∧ some k_ ≠ (v593 : Value).ownBlock ∧ some k_ ≠ (v597 : Value).ownBlock ∧ k_ ≠ gb578) v588 t586) ∧ Aside0 (Kd.R k37 37 wc w.heap.size (fun k_ => some k_ ≠ (v582 : Value).ownBlock ∧ some k_ ≠ (v588 : Value).ownBlock ∧ some k_ ≠ (v597 : Value).ownBlock ∧ k_ ≠ gb578) v593 t590) ∧ Aside0 (Kd.R k37 37 wc w.heap.size (fun k_ => some k_ ≠ (v582 : Value).ownBlock ∧ some k_ ≠ (v588 : Value).ownBlock ∧ some k_ ≠ (v593 : Value).ownBlock ∧ k_ ≠ gb578) v597 t595) ∧ Aside0 (wc.heap[gb578]? = some (.cells #[.int .i64 a1_0, .int .i64 a1_1, .int .i64 a1_2, .int .i64 a1_3, .int .i64 a1_4, .int .i64 a1_5] 37 (0, 0))) ∧ Aside0 (Below w.heap.size w wc))
      case first =>
       have H := HC37.out
       clear HC37
       replace H := Option.bind_eq_some_iff.mp H
       obtain ⟨t617, A380, H⟩ := H
       replace H : (if t617 = true then ((laws_tdOnce.f kj18 l0).bind fun t618 => (laws_FnEveryWarning.j1 kj18 l0 t581 t585 t586 t587 t590 t592 t595 t596 (!t618))) else (laws_FnEveryWarning.j1 kj18 l0 t581 t585 t586 t587 t590 t592 t595 t596 false)) = some r := H
       have A38 := Aside0.mk A380
       clear A380
       by_cases c39 : t617 = true
       ·
        subst c39
        have H1 : ((laws_tdOnce.f kj18 l0).bind fun t618 => (laws_FnEveryWarning.j1 kj18 l0 t581 t585 t586 t587 t590 t592 t595 t596 (!t618))) = some r := by rw [if_pos rfl] at H; exact H
        clear H
        have H := H1
        clear H1
        replace H := Option.bind_eq_some_iff.mp H
        obtain ⟨t618, A400, H⟩ := H
        replace H : (laws_FnEveryWarning.j1 kj18 l0 t581 t585 t586 t587 t590 t592 t595 t596 (!t618)) = some r := H
        have A40 := Aside0.mk A400
        clear A400
        have H' := Aside0.mk H
        clear H
        go_wp2_with (first | ((with_reducible refine gate_callee (f := 9) rfl ?_); refine goesL_ (some 118) rfl rfl Try.func9 (by kernel_rfl) rfl #[.slice A0 l0.length c0] rfl (by (try simp only [List.map_toArray, List.map_cons, List.map_nil]); first | done | rfl | (simp only [List.length_drop, List.length_take]; rfl)) ?_; (with_reducible refine (impl_IsConsistent.calls kj18 _ _ l0 true _ ?side1 ?side2 A38.out).mono ?_); (case side1 => repeat (first | exact (Kd.C_below HR0.out HB.out) | (with_reducible refine Kd.C_alloc ?_ _) | (with_reducible refine Kd.C_drewN ?_ _) | (with_reducible refine Kd.C_drew ?_))); (case side2 => exact HC0.out); rintro e w41 ⟨rfl, hb⟩; refine ⟨_, rfl, ?_⟩; have n0_ := Aside0.mk (Kd.R_below (by (with_reducible repeat (first | apply Kd.R_alloc | apply Kd.R_drewN | apply Kd.R_drew)); exact HO_11.out) hb); have n1_ := Aside0.mk (Kd.R_below (by (with_reducible repeat (first | apply Kd.R_alloc | apply Kd.R_drewN | apply Kd.R_drew)); exact HO_14.out) hb); have n2_ := Aside0.mk (Kd.R_below (by (with_reducible repeat (first | apply Kd.R_alloc | apply Kd.R_drewN | apply Kd.R_drew)); exact HO_16.out) hb); have n3_ := Aside0.mk (Kd.R_below (by (with_reducible repeat (first | apply Kd.R_alloc | apply Kd.R_drewN | apply Kd.R_drew)); exact HO_19.out) hb); have n4_ := Aside0.mk (blk_below (g := gb578) (o := .cells #[.int .i64 a1_0, .int .i64 a1_1, .int .i64 a1_2, .int .i64 a1_3, .int .i64 a1_4, .int .i64 a1_5] 37 (0, 0)) (by (with_reducible repeat (first | refine blk_drewN ?_ _ | refine blk_drew ?_ | refine blk_alloc ?_ _)); exact BK578.out) hb); have n5_ := Aside0.mk (below_step (by repeat (first | (with_reducible first | exact HB.out | apply below_alloc | apply pw_below_drewN | apply below_drew1 | refine below_set ?_ GE578.out) | exact HB.out)) hb); clear HO_11; clear HO_14; clear HO_16; clear HO_19; clear BK578; clear HB; have HO_11 := n0_; have HO_14 := n1_; have HO_16 := n2_; have HO_19 := n3_; have BK578 := n4_; have HB := n5_; clear n0_ n1_ n2_ n3_ n4_ n5_; (try clear hb); (try clear hb2); (try clear hk); (try clear hi)) | (go_at_call 24; (with_reducible refine (laws_tdOnce.calls kj18 _ _ l0 t618 _ ?side1 ?side2 A40.out).mono ?_); (case side1 => repeat (first | exact (Kd.C_below HR0.out HB.out) | (with_reducible refine Kd.C_alloc ?_ _) | (with_reducible refine Kd.C_drewN ?_ _) | (with_reducible refine Kd.C_drew ?_))); (case side2 => exact HC0.out); rintro e w42 ⟨rfl, hb⟩; have n0_ := Aside0.mk (Kd.R_below (by (with_reducible repeat (first | apply Kd.R_alloc | apply Kd.R_drewN | apply Kd.R_drew)); exact HO_11.out) hb); have n1_ := Aside0.mk (Kd.R_below (by (with_reducible repeat (first | apply Kd.R_alloc | apply Kd.R_drewN | apply Kd.R_drew)); exact HO_14.out) hb); have n2_ := Aside0.mk (Kd.R_below (by (with_reducible repeat (first | apply Kd.R_alloc | apply Kd.R_drewN | apply Kd.R_drew)); exact HO_16.out) hb); have n3_ := Aside0.mk (Kd.R_below (by (with_reducible repeat (first | apply Kd.R_alloc | apply Kd.R_drewN | apply Kd.R_drew)); exact HO_19.out) hb); have n4_ := Aside0.mk (blk_below (g := gb578) (o := .cells #[.int .i64 a1_0, .int .i64 a1_1, .int .i64 a1_2, .int .i64 a1_3, .int .i64 a1_4, .int .i64 a1_5] 37 (0, 0)) (by (with_reducible repeat (first | refine blk_drewN ?_ _ | refine blk_drew ?_ | refine blk_alloc ?_ _)); exact BK578.out) hb); have n5_ := Aside0.mk (below_step (by repeat (first | (with_reducible first | exact HB.out | apply below_alloc | apply pw_below_drewN | apply below_drew1 | refine below_set ?_ GE578.out) | exact HB.out)) hb); clear HO_11; clear HO_14; clear HO_16; clear HO_19; clear BK578; clear HB; have HO_11 := n0_; have HO_14 := n1_; have HO_16 := n2_; have HO_19 := n3_; have BK578 := n4_; have HB := n5_; clear n0_ n1_ n2_ n3_ n4_ n5_; (try clear hb); (try clear hb2); (try clear hk); (try clear hi)))
        go_meet
        case rel => exact ⟨_, (!t618), (by first | rfl | (simp; done) | (simp [*]; done)), H', ⟨by have := HJ18.out; first | omega | exact Nat.le_refl _⟩, ⟨by (with_reducible repeat (first | apply Kd.R_alloc | apply Kd.R_drewN | apply Kd.R_drew)); exact HO_11.out⟩, ⟨by (with_reducible repeat (first | apply Kd.R_alloc | apply Kd.R_drewN | apply Kd.R_drew)); exact HO_14.out⟩, ⟨by (with_reducible repeat (first | apply Kd.R_alloc | apply Kd.R_drewN | apply Kd.R_drew)); exact HO_16.out⟩, ⟨by (with_reducible repeat (first | apply Kd.R_alloc | apply Kd.R_drewN | apply Kd.R_drew)); exact HO_19.out⟩, ⟨by (with_reducible repeat (first | refine blk_drewN ?_ _ | refine blk_drew ?_ | refine blk_alloc ?_ _)); exact BK578.out⟩, ⟨by repeat (first | (with_reducible first | exact HB.out | apply below_alloc | apply pw_below_drewN | apply below_drew1 | refine below_set ?_ GE578.out) | exact HB.out)⟩⟩
       ·
        replace c39 := Bool.eq_false_iff.mpr c39
        subst c39
        have H1 : (laws_FnEveryWarning.j1 kj18 l0 t581 t585 t586 t587 t590 t592 t595 t596 false) = some r := by rw [if_neg (show ¬ (false = true) by decide)] at H; exact H
        clear H
        have H := H1
        clear H1
        have H' := Aside0.mk H
        clear H
        go_wp2_with (first | ((with_reducible refine gate_callee (f := 9) rfl ?_); refine goesL_ (some 118) rfl rfl Try.func9 (by kernel_rfl) rfl #[.slice A0 l0.length c0] rfl (by (try simp only [List.map_toArray, List.map_cons, List.map_nil]); first | done | rfl | (simp only [List.length_drop, List.length_take]; rfl)) ?_; (with_reducible refine (impl_IsConsistent.calls kj18 _ _ l0 false _ ?side1 ?side2 A38.out).mono ?_); (case side1 => repeat (first | exact (Kd.C_below HR0.out HB.out) | (with_reducible refine Kd.C_alloc ?_ _) | (with_reducible refine Kd.C_drewN ?_ _) | (with_reducible refine Kd.C_drew ?_))); (case side2 => exact HC0.out); rintro e w43 ⟨rfl, hb⟩; refine ⟨_, rfl, ?_⟩; have n0_ := Aside0.mk (Kd.R_below (by (with_reducible repeat (first | apply Kd.R_alloc | apply Kd.R_drewN | apply Kd.R_drew)); exact HO_11.out) hb); have n1_ := Aside0.mk (Kd.R_below (by (with_reducible repeat (first | apply Kd.R_alloc | apply Kd.R_drewN | apply Kd.R_drew)); exact HO_14.out) hb); have n2_ := Aside0.mk (Kd.R_below (by (with_reducible repeat (first | apply Kd.R_alloc | apply Kd.R_drewN | apply Kd.R_drew)); exact HO_16.out) hb); have n3_ := Aside0.mk (Kd.R_below (by (with_reducible repeat (first | apply Kd.R_alloc | apply Kd.R_drewN | apply Kd.R_drew)); exact HO_19.out) hb); have n4_ := Aside0.mk (blk_below (g := gb578) (o := .cells #[.int .i64 a1_0, .int .i64 a1_1, .int .i64 a1_2, .int .i64 a1_3, .int .i64 a1_4, .int .i64 a1_5] 37 (0, 0)) (by (with_reducible repeat (first | refine blk_drewN ?_ _ | refine blk_drew ?_ | refine blk_alloc ?_ _)); exact BK578.out) hb); have n5_ := Aside0.mk (below_step (by repeat (first | (with_reducible first | exact HB.out | apply below_alloc | apply pw_below_drewN | apply below_drew1 | refine below_set ?_ GE578.out) | exact HB.out)) hb); clear HO_11; clear HO_14; clear HO_16; clear HO_19; clear BK578; clear HB; have HO_11 := n0_; have HO_14 := n1_; have HO_16 := n2_; have HO_19 := n3_; have BK578 := n4_; have HB := n5_; clear n0_ n1_ n2_ n3_ n4_ n5_; (try clear hb); (try clear hb2); (try clear hk); (try clear hi)))
        go_meet
        case rel => exact ⟨_, (false), (by first | rfl | (simp; done) | (simp [*]; done)), H', ⟨by have := HJ18.out; first | omega | exact Nat.le_refl _⟩, ⟨by (with_reducible repeat (first | apply Kd.R_alloc | apply Kd.R_drewN | apply Kd.R_drew)); exact HO_11.out⟩, ⟨by (with_reducible repeat (first | apply Kd.R_alloc | apply Kd.R_drewN | apply Kd.R_drew)); exact HO_14.out⟩, ⟨by (with_reducible repeat (first | apply Kd.R_alloc | apply Kd.R_drewN | apply Kd.R_drew)); exact HO_16.out⟩, ⟨by (with_reducible repeat (first | apply Kd.R_alloc | apply Kd.R_drewN | apply Kd.R_drew)); exact HO_19.out⟩, ⟨by (with_reducible repeat (first | refine blk_drewN ?_ _ | refine blk_drew ?_ | refine blk_alloc ?_ _)); exact BK578.out⟩, ⟨by repeat (first | (with_reducible first | exact HB.out | apply below_alloc | apply pw_below_drewN | apply below_drew1 | refine below_set ?_ GE578.out) | exact HB.out)⟩⟩
      case rest =>
       clear HC37
       try clear c1
       try clear c2
       try clear p2
       try clear c3
       try clear c5
       try clear c6
       try clear c6b0
       try clear c6b1
       try clear c9
       try clear c10
       try clear c10b0
       try clear c10b1
       try clear c10b2
       try clear c12
       try clear c13
       try clear c17
       try clear c18
       try clear c19
       try clear c20
       try clear c21
       try clear c22
       try clear c23
       try clear c33
       try clear c33b0
       try clear c33b1
       try clear c33b2
       try clear c34
       try clear c34b0
       try clear c34b1
       try clear c34b2
       try clear c35
       try clear c35b0
       try clear c35b1
       try clear c35b2
       try clear c36
       try clear c39
       try clear hcz23_0
       try clear hcz23_1
       try clear hcz23_2
       try clear hcz23_3
       try clear hcz23_4
       try clear hcz23_5
       try clear hcz28_0
       try clear hcz28_1
       try clear hcz28_2
       try clear hcz28_3
       try clear hcz28_4
       try clear hcz28_5
       try clear hfz23_0
       try clear hfz23_1
       try clear hfz23_2
       try clear hfz23_3
       try clear hfz23_4
       try clear hfz23_5
       try clear hfz28_0
       try clear hfz28_1
       try clear hfz28_2
       try clear hfz28_3
       try clear hfz28_4
       try clear hfz28_5
       try clear p2
       obtain ⟨kq, x123_36, rfl, HA, HJ36, HO_11, HO_14, HO_16, HO_19, BK578, HB⟩ := hcut
       cases kq with
       | zero => exact absurd HA.out (by simp [laws_FnEveryWarning.j1])
       | succ kj36 =>
        have H := HA.out
        clear HA
        simp only [laws_FnEveryWarning.j1] at H
        by_cases c44 : x123_36 = true
        ·
         subst c44
         have H1 : (none) = some r := by rw [if_pos rfl] at H; exact H
         clear H
         have H := H1
         clear H1
         exact absurd H (by simp)
        ·
         replace c44 := Bool.eq_false_iff.mpr c44
         subst c44
         have H1 : (if t585 = true then ((laws_tdOnce.f kj36 t581).bind fun t619 => (if t619 = true then (if (t581.length : Int) = (wrap64 ((l0.length : Int) + 1)) then (if t587 = true then ((laws_tdOnce.f kj36 t586).bind fun t620 => (if t620 = true then (if t592 = true then ((laws_tdOnce.f kj36 t590).bind fun t621 => (if t621 = true then (if t596 = true then ((laws_tdOnce.f kj36 t595).bind fun t622 => (some t622)) else (some true)) else (none))) else (if t596 = true then ((laws_tdOnce.f kj36 t595).bind fun t623 => (some t623)) else (some true))) else (none))) else (if t592 = true then ((laws_tdOnce.f kj36 t590).bind fun t624 => (if t624 = true then (if t596 = true then ((laws_tdOnce.f kj36 t595).bind fun t625 => (some t625)) else (some true)) else (none))) else (if t596 = true then ((laws_tdOnce.f kj36 t595).bind fun t626 => (some t626)) else (some true)))) else (none)) else (none))) else (if t587 = true then ((laws_tdOnce.f kj36 t586).bind fun t627 => (if t627 = true then (if t592 = true then ((laws_tdOnce.f kj36 t590).bind fun t628 => (if t628 = true then (if t596 = true then ((laws_tdOnce.f kj36 t595).bind fun t629 => (some t629)) else (some true)) else (none))) else (if t596 = true then ((laws_tdOnce.f kj36 t595).bind fun t630 => (some t630)) else (some true))) else (none))) else (if t592 = true then ((laws_tdOnce.f kj36 t590).bind fun t631 => (if t631 = true then (if t596 = true then ((laws_tdOnce.f kj36 t595).bind fun t632 => (some t632)) else (some true)) else (none))) else (if t596 = true then ((laws_tdOnce.f kj36 t595).bind fun t633 => (some t633)) else (some true))))) = some r := by rw [if_neg (show ¬ (false = true) by decide)] at H; exact H
         clear H
         have H := H1
         clear H1
         by_cases c45 : t585 = true
         ·
          subst c45
          have H1 : ((laws_tdOnce.f kj36 t581).bind fun t619 => (if t619 = true then (if (t581.length : Int) = (wrap64 ((l0.length : Int) + 1)) then (if t587 = true then ((laws_tdOnce.f kj36 t586).bind fun t620 => (if t620 = true then (if t592 = true then ((laws_tdOnce.f kj36 t590).bind fun t621 => (if t621 = true then (if t596 = true then ((laws_tdOnce.f kj36 t595).bind fun t622 => (some t622)) else (some true)) else (none))) else (if t596 = true then ((laws_tdOnce.f kj36 t595).bind fun t623 => (some t623)) else (some true))) else (none))) else (if t592 = true then ((laws_tdOnce.f kj36 t590).bind fun t624 => (if t624 = true then (if t596 = true then ((laws_tdOnce.f kj36 t595).bind fun t625 => (some t625)) else (some true)) else (none))) else (if t596 = true then ((laws_tdOnce.f kj36 t595).bind fun t626 => (some t626)) else (some true)))) else (none)) else (none))) = some r := by rw [if_pos rfl] at H; exact H
          clear H
          have H := H1
          clear H1
          replace H := Option.bind_eq_some_iff.mp H
          obtain ⟨t619, A460, H⟩ := H
          replace H : (if t619 = true then (if (t581.length : Int) = (wrap64 ((l0.length : Int) + 1)) then (if t587 = true then ((laws_tdOnce.f kj36 t586).bind fun t620 => (if t620 = true then (if t592 = true then ((laws_tdOnce.f kj36 t590).bind fun t621 => (if t621 = true then (if t596 = true then ((laws_tdOnce.f kj36 t595).bind fun t622 => (some t622)) else (some true)) else (none))) else (if t596 = true then ((laws_tdOnce.f kj36 t595).bind fun t623 => (some t623)) else (some true))) else (none))) else (if t592 = true then ((laws_tdOnce.f kj36 t590).bind fun t624 => (if t624 = true then (if t596 = true then ((laws_tdOnce.f kj36 t595).bind fun t625 => (some t625)) else (some true)) else (none))) else (if t596 = true then ((laws_tdOnce.f kj36 t595).bind fun t626 => (some t626)) else (some true)))) else (none)) else (none)) = some r := H
          have A46 := Aside0.mk A460
          clear A460
          by_cases c47 : t619 = true
          ·
           subst c47
           have H1 : (if (t581.length : Int) = (wrap64 ((l0.length : Int) + 1)) then (if t587 = true then ((laws_tdOnce.f kj36 t586).bind fun t620 => (if t620 = true then (if t592 = true then ((laws_tdOnce.f kj36 t590).bind fun t621 => (if t621 = true then (if t596 = true then ((laws_tdOnce.f kj36 t595).bind fun t622 => (some t622)) else (some true)) else (none))) else (if t596 = true then ((laws_tdOnce.f kj36 t595).bind fun t623 => (some t623)) else (some true))) else (none))) else (if t592 = true then ((laws_tdOnce.f kj36 t590).bind fun t624 => (if t624 = true then (if t596 = true then ((laws_tdOnce.f kj36 t595).bind fun t625 => (some t625)) else (some true)) else (none))) else (if t596 = true then ((laws_tdOnce.f kj36 t595).bind fun t626 => (some t626)) else (some true)))) else (none)) = some r := by rw [if_pos rfl] at H; exact H
           clear H
           have H := H1
           clear H1
           by_cases c48 : (t581.length : Int) = (wrap64 ((l0.length : Int) + 1))
           ·
            rw [if_pos c48] at H
            have c48b0 : ((t581.length : Int) == (wrap64 ((l0.length : Int) + 1))) = true := beq_iff_eq.mpr c48
            have c48b1 : ((t581.length : Int) != (wrap64 ((l0.length : Int) + 1))) = false := bne_eq_false_iff_eq.mpr c48
            clear c48
            by_cases c49 : t587 = true
            ·
             subst c49
             have H1 : ((laws_tdOnce.f kj36 t586).bind fun t620 => (if t620 = true then (if t592 = true then ((laws_tdOnce.f kj36 t590).bind fun t621 => (if t621 = true then (if t596 = true then ((laws_tdOnce.f kj36 t595).bind fun t622 => (some t622)) else (some true)) else (none))) else (if t596 = true then ((laws_tdOnce.f kj36 t595).bind fun t623 => (some t623)) else (some true))) else (none))) = some r := by rw [if_pos rfl] at H; exact H
             clear H
             have H := H1
             clear H1
             replace H := Option.bind_eq_some_iff.mp H
             obtain ⟨t620, A500, H⟩ := H
             replace H : (if t620 = true then (if t592 = true then ((laws_tdOnce.f kj36 t590).bind fun t621 => (if t621 = true then (if t596 = true then ((laws_tdOnce.f kj36 t595).bind fun t622 => (some t622)) else (some true)) else (none))) else (if t596 = true then ((laws_tdOnce.f kj36 t595).bind fun t623 => (some t623)) else (some true))) else (none)) = some r := H
             have A50 := Aside0.mk A500
             clear A500
             by_cases c51 : t620 = true
             ·
              subst c51
              have H1 : (if t592 = true then ((laws_tdOnce.f kj36 t590).bind fun t621 => (if t621 = true then (if t596 = true then ((laws_tdOnce.f kj36 t595).bind fun t622 => (some t622)) else (some true)) else (none))) else (if t596 = true then ((laws_tdOnce.f kj36 t595).bind fun t623 => (some t623)) else (some true))) = some r := by rw [if_pos rfl] at H; exact H
              clear H
              have H := H1
              clear H1
              by_cases c52 : t592 = true
              ·
               subst c52
               have H1 : ((laws_tdOnce.f kj36 t590).bind fun t621 => (if t621 = true then (if t596 = true then ((laws_tdOnce.f kj36 t595).bind fun t622 => (some t622)) else (some true)) else (none))) = some r := by rw [if_pos rfl] at H; exact H
               clear H
               have H := H1
               clear H1
               replace H := Option.bind_eq_some_iff.mp H
               obtain ⟨t621, A530, H⟩ := H
               replace H : (if t621 = true then (if t596 = true then ((laws_tdOnce.f kj36 t595).bind fun t622 => (some t622)) else (some true)) else (none)) = some r := H
               have A53 := Aside0.mk A530
               clear A530
               by_cases c54 : t621 = true
               ·
                subst c54
                have H1 : (if t596 = true then ((laws_tdOnce.f kj36 t595).bind fun t622 => (some t622)) else (some true)) = some r := by rw [if_pos rfl] at H; exact H
                clear H
                have H := H1
                clear H1
                by_cases c55 : t596 = true
                ·
                 subst c55
                 have H1 : ((laws_tdOnce.f kj36 t595).bind fun t622 => (some t622)) = some r := by rw [if_pos rfl] at H; exact H
                 clear H
                 have H := H1
                 clear H1
                 replace H := Option.bind_eq_some_iff.mp H
                 obtain ⟨t622, A560, H⟩ := H
                 replace H : (some t622) = some r := H
                 have A56 := Aside0.mk A560
                 clear A560
                 obtain rfl := Option.some.inj H
                 obtain ⟨Ao57, co57, eo57⟩ := Kd.R_slice HO_11.out
                 subst eo57
                 go_wp2_with (first | (go_at_call 24; (with_reducible refine (laws_tdOnce.calls kj36 _ _ t581 true _ ?side1 ?side2 A46.out).mono ?_); (case side1 => repeat (first | exact (Kd.R_reads' HO_11.out).2.2 | (with_reducible refine Kd.C_alloc ?_ _) | (with_reducible refine Kd.C_drewN ?_ _) | (with_reducible refine Kd.C_drew ?_))); (case side2 => exact (Kd.R_reads' HO_11.out).2.1); rintro e w58 ⟨rfl, hb⟩; have n0_ := Aside0.mk (Kd.R_below (by (with_reducible repeat (first | apply Kd.R_alloc | apply Kd.R_drewN | apply Kd.R_drew)); exact HO_11.out) hb); have n1_ := Aside0.mk (Kd.R_below (by (with_reducible repeat (first | apply Kd.R_alloc | apply Kd.R_drewN | apply Kd.R_drew)); exact HO_14.out) hb); have n2_ := Aside0.mk (Kd.R_below (by (with_reducible repeat (first | apply Kd.R_alloc | apply Kd.R_drewN | apply Kd.R_drew)); exact HO_16.out) hb); have n3_ := Aside0.mk (Kd.R_below (by (with_reducible repeat (first | apply Kd.R_alloc | apply Kd.R_drewN | apply Kd.R_drew)); exact HO_19.out) hb); have n4_ := Aside0.mk (blk_below (g := gb578) (o := .cells #[.int .i64 a1_0, .int .i64 a1_1, .int .i64 a1_2, .int .i64 a1_3, .int .i64 a1_4, .int .i64 a1_5] 37 (0, 0)) (by (with_reducible repeat (first | refine blk_drewN ?_ _ | refine blk_drew ?_ | refine blk_alloc ?_ _)); exact BK578.out) hb); have n5_ := Aside0.mk (below_step (by repeat (first | (with_reducible first | exact HB.out | apply below_alloc | apply pw_below_drewN | apply below_drew1 | refine below_set ?_ GE578.out) | exact HB.out)) hb); clear HO_11; clear HO_14; clear HO_16; clear HO_19; clear BK578; clear HB; have HO_11 := n0_; have HO_14 := n1_; have HO_16 := n2_; have HO_19 := n3_; have BK578 := n4_; have HB := n5_; clear n0_ n1_ n2_ n3_ n4_ n5_; (try clear hb); (try clear hb2); (try clear hk); (try clear hi); obtain ⟨Ao59, co59, eo59⟩ := Kd.R_slice HO_14.out; subst eo59) | (go_at_call 24; (with_reducible refine (laws_tdOnce.calls kj36 _ _ t586 true _ ?side1 ?side2 A50.out).mono ?_); (case side1 => repeat (first | exact (Kd.R_reads' HO_14.out).2.2 | (with_reducible refine Kd.C_alloc ?_ _) | (with_reducible refine Kd.C_drewN ?_ _) | (with_reducible refine Kd.C_drew ?_))); (case side2 => exact (Kd.R_reads' HO_14.out).2.1); rintro e w60 ⟨rfl, hb⟩; have n0_ := Aside0.mk (Kd.R_below (by (with_reducible repeat (first | apply Kd.R_alloc | apply Kd.R_drewN | apply Kd.R_drew)); exact HO_11.out) hb); have n1_ := Aside0.mk (Kd.R_below (by (with_reducible repeat (first | apply Kd.R_alloc | apply Kd.R_drewN | apply Kd.R_drew)); exact HO_14.out) hb); have n2_ := Aside0.mk (Kd.R_below (by (with_reducible repeat (first | apply Kd.R_alloc | apply Kd.R_drewN | apply Kd.R_drew)); exact HO_16.out) hb); have n3_ := Aside0.mk (Kd.R_below (by (with_reducible repeat (first | apply Kd.R_alloc | apply Kd.R_drewN | apply Kd.R_drew)); exact HO_19.out) hb); have n4_ := Aside0.mk (blk_below (g := gb578) (o := .cells #[.int .i64 a1_0, .int .i64 a1_1, .int .i64 a1_2, .int .i64 a1_3, .int .i64 a1_4, .int .i64 a1_5] 37 (0, 0)) (by (with_reducible repeat (first | refine blk_drewN ?_ _ | refine blk_drew ?_ | refine blk_alloc ?_ _)); exact BK578.out) hb); have n5_ := Aside0.mk (below_step (by repeat (first | (with_reducible first | exact HB.out | apply below_alloc | apply pw_below_drewN | apply below_drew1 | refine below_set ?_ GE578.out) | exact HB.out)) hb); clear HO_11; clear HO_14; clear HO_16; clear HO_19; clear BK578; clear HB; have HO_11 := n0_; have HO_14 := n1_; have HO_16 := n2_; have HO_19 := n3_; have BK578 := n4_; have HB := n5_; clear n0_ n1_ n2_ n3_ n4_ n5_; (try clear hb); (try clear hb2); (try clear hk); (try clear hi); obtain ⟨Ao61, co61, eo61⟩ := Kd.R_slice HO_16.out; subst eo61) | (go_at_call 24; (with_reducible refine (laws_tdOnce.calls kj36 _ _ t590 true _ ?side1 ?side2 A53.out).mono ?_); (case side1 => repeat (first | exact (Kd.R_reads' HO_16.out).2.2 | (with_reducible refine Kd.C_alloc ?_ _) | (with_reducible refine Kd.C_drewN ?_ _) | (with_reducible refine Kd.C_drew ?_))); (case side2 => exact (Kd.R_reads' HO_16.out).2.1); rintro e w62 ⟨rfl, hb⟩; have n0_ := Aside0.mk (Kd.R_below (by (with_reducible repeat (first | apply Kd.R_alloc | apply Kd.R_drewN | apply Kd.R_drew)); exact HO_11.out) hb); have n1_ := Aside0.mk (Kd.R_below (by (with_reducible repeat (first | apply Kd.R_alloc | apply Kd.R_drewN | apply Kd.R_drew)); exact HO_14.out) hb); have n2_ := Aside0.mk (Kd.R_below (by (with_reducible repeat (first | apply Kd.R_alloc | apply Kd.R_drewN | apply Kd.R_drew)); exact HO_16.out) hb); have n3_ := Aside0.mk (Kd.R_below (by (with_reducible repeat (first | apply Kd.R_alloc | apply Kd.R_drewN | apply Kd.R_drew)); exact HO_19.out) hb); have n4_ := Aside0.mk (blk_below (g := gb578) (o := .cells #[.int .i64 a1_0, .int .i64 a1_1, .int .i64 a1_2, .int .i64 a1_3, .int .i64 a1_4, .int .i64 a1_5] 37 (0, 0)) (by (with_reducible repeat (first | refine blk_drewN ?_ _ | refine blk_drew ?_ | refine blk_alloc ?_ _)); exact BK578.out) hb); have n5_ := Aside0.mk (below_step (by repeat (first | (with_reducible first | exact HB.out | apply below_alloc | apply pw_below_drewN | apply below_drew1 | refine below_set ?_ GE578.out) | exact HB.out)) hb); clear HO_11; clear HO_14; clear HO_16; clear HO_19; clear BK578; clear HB; have HO_11 := n0_; have HO_14 := n1_; have HO_16 := n2_; have HO_19 := n3_; have BK578 := n4_; have HB := n5_; clear n0_ n1_ n2_ n3_ n4_ n5_; (try clear hb); (try clear hb2); (try clear hk); (try clear hi); obtain ⟨Ao63, co63, eo63⟩ := Kd.R_slice HO_19.out; subst eo63) | (go_at_call 24; (with_reducible refine (laws_tdOnce.calls kj36 _ _ t595 t622 _ ?side1 ?side2 A56.out).mono ?_); (case side1 => repeat (first | exact (Kd.R_reads' HO_19.out).2.2 | (with_reducible refine Kd.C_alloc ?_ _) | (with_reducible refine Kd.C_drewN ?_ _) | (with_reducible refine Kd.C_drew ?_))); (case side2 => exact (Kd.R_reads' HO_19.out).2.1); rintro e w64 ⟨rfl, hb⟩; have n0_ := Aside0.mk (Kd.R_below (by (with_reducible repeat (first | apply Kd.R_alloc | apply Kd.R_drewN | apply Kd.R_drew)); exact HO_11.out) hb); have n1_ := Aside0.mk (Kd.R_below (by (with_reducible repeat (first | apply Kd.R_alloc | apply Kd.R_drewN | apply Kd.R_drew)); exact HO_14.out) hb); have n2_ := Aside0.mk (Kd.R_below (by (with_reducible repeat (first | apply Kd.R_alloc | apply Kd.R_drewN | apply Kd.R_drew)); exact HO_16.out) hb); have n3_ := Aside0.mk (Kd.R_below (by (with_reducible repeat (first | apply Kd.R_alloc | apply Kd.R_drewN | apply Kd.R_drew)); exact HO_19.out) hb); have n4_ := Aside0.mk (blk_below (g := gb578) (o := .cells #[.int .i64 a1_0, .int .i64 a1_1, .int .i64 a1_2, .int .i64 a1_3, .int .i64 a1_4, .int .i64 a1_5] 37 (0, 0)) (by (with_reducible repeat (first | refine blk_drewN ?_ _ | refine blk_drew ?_ | refine blk_alloc ?_ _)); exact BK578.out) hb); have n5_ := Aside0.mk (below_step (by repeat (first | (with_reducible first | exact HB.out | apply below_alloc | apply pw_below_drewN | apply below_drew1 | refine below_set ?_ GE578.out) | exact HB.out)) hb); clear HO_11; clear HO_14; clear HO_16; clear HO_19; clear BK578; clear HB; have HO_11 := n0_; have HO_14 := n1_; have HO_16 := n2_; have HO_19 := n3_; have BK578 := n4_; have HB := n5_; clear n0_ n1_ n2_ n3_ n4_ n5_; (try clear hb); (try clear hb2); (try clear hk); (try clear hi)))
                 go_ret
                 exact ⟨by first | rfl | (simp [errW_none, errW_some] <;> rfl) | (simp [*, errW_none, errW_some] <;> rfl), by repeat (first | (with_reducible first | exact HB.out | apply below_alloc | apply pw_below_drewN | apply below_drew1 | refine below_set ?_ GE578.out) | exact HB.out)⟩
                ·
                 replace c55 := Bool.eq_false_iff.mpr c55
                 subst c55
                 have H1 : (some true) = some r := by rw [if_neg (show ¬ (false = true) by decide)] at H; exact H
                 clear H
                 have H := H1
                 clear H1
                 obtain rfl := Option.some.inj H
                 obtain ⟨Ao65, co65, eo65⟩ := Kd.R_slice HO_11.out
                 subst eo65
                 go_wp2_with (first | (go_at_call 24; (with_reducible refine (laws_tdOnce.calls kj36 _ _ t581 true _ ?side1 ?side2 A46.out).mono ?_); (case side1 => repeat (first | exact (Kd.R_reads' HO_11.out).2.2 | (with_reducible refine Kd.C_alloc ?_ _) | (with_reducible refine Kd.C_drewN ?_ _) | (with_reducible refine Kd.C_drew ?_))); (case side2 => exact (Kd.R_reads' HO_11.out).2.1); rintro e w66 ⟨rfl, hb⟩; have n0_ := Aside0.mk (Kd.R_below (by (with_reducible repeat (first | apply Kd.R_alloc | apply Kd.R_drewN | apply Kd.R_drew)); exact HO_11.out) hb); have n1_ := Aside0.mk (Kd.R_below (by (with_reducible repeat (first | apply Kd.R_alloc | apply Kd.R_drewN | apply Kd.R_drew)); exact HO_14.out) hb); have n2_ := Aside0.mk (Kd.R_below (by (with_reducible repeat (first | apply Kd.R_alloc | apply Kd.R_drewN | apply Kd.R_drew)); exact HO_16.out) hb); have n3_ := Aside0.mk (Kd.R_below (by (with_reducible repeat (first | apply Kd.R_alloc | apply Kd.R_drewN | apply Kd.R_drew)); exact HO_19.out) hb); have n4_ := Aside0.mk (blk_below (g := gb578) (o := .cells #[.int .i64 a1_0, .int .i64 a1_1, .int .i64 a1_2, .int .i64 a1_3, .int .i64 a1_4, .int .i64 a1_5] 37 (0, 0)) (by (with_reducible repeat (first | refine blk_drewN ?_ _ | refine blk_drew ?_ | refine blk_alloc ?_ _)); exact BK578.out) hb); have n5_ := Aside0.mk (below_step (by repeat (first | (with_reducible first | exact HB.out | apply below_alloc | apply pw_below_drewN | apply below_drew1 | refine below_set ?_ GE578.out) | exact HB.out)) hb); clear HO_11; clear HO_14; clear HO_16; clear HO_19; clear BK578; clear HB; have HO_11 := n0_; have HO_14 := n1_; have HO_16 := n2_; have HO_19 := n3_; have BK578 := n4_; have HB := n5_; clear n0_ n1_ n2_ n3_ n4_ n5_; (try clear hb); (try clear hb2); (try clear hk); (try clear hi); obtain ⟨Ao67, co67, eo67⟩ := Kd.R_slice HO_14.out; subst eo67) | (go_at_call 24; (with_reducible refine (laws_tdOnce.calls kj36 _ _ t586 true _ ?side1 ?side2 A50.out).mono ?_); (case side1 => repeat (first | exact (Kd.R_reads' HO_14.out).2.2 | (with_reducible refine Kd.C_alloc ?_ _) | (with_reducible refine Kd.C_drewN ?_ _) | (with_reducible refine Kd.C_drew ?_))); (case side2 => exact (Kd.R_reads' HO_14.out).2.1); rintro e w68 ⟨rfl, hb⟩; have n0_ := Aside0.mk (Kd.R_below (by (with_reducible repeat (first | apply Kd.R_alloc | apply Kd.R_drewN | apply Kd.R_drew)); exact HO_11.out) hb); have n1_ := Aside0.mk (Kd.R_below (by (with_reducible repeat (first | apply Kd.R_alloc | apply Kd.R_drewN | apply Kd.R_drew)); exact HO_14.out) hb); have n2_ := Aside0.mk (Kd.R_below (by (with_reducible repeat (first | apply Kd.R_alloc | apply Kd.R_drewN | apply Kd.R_drew)); exact HO_16.out) hb); have n3_ := Aside0.mk (Kd.R_below (by (with_reducible repeat (first | apply Kd.R_alloc | apply Kd.R_drewN | apply Kd.R_drew)); exact HO_19.out) hb); have n4_ := Aside0.mk (blk_below (g := gb578) (o := .cells #[.int .i64 a1_0, .int .i64 a1_1, .int .i64 a1_2, .int .i64 a1_3, .int .i64 a1_4, .int .i64 a1_5] 37 (0, 0)) (by (with_reducible repeat (first | refine blk_drewN ?_ _ | refine blk_drew ?_ | refine blk_alloc ?_ _)); exact BK578.out) hb); have n5_ := Aside0.mk (below_step (by repeat (first | (with_reducible first | exact HB.out | apply below_alloc | apply pw_below_drewN | apply below_drew1 | refine below_set ?_ GE578.out) | exact HB.out)) hb); clear HO_11; clear HO_14; clear HO_16; clear HO_19; clear BK578; clear HB; have HO_11 := n0_; have HO_14 := n1_; have HO_16 := n2_; have HO_19 := n3_; have BK578 := n4_; have HB := n5_; clear n0_ n1_ n2_ n3_ n4_ n5_; (try clear hb); (try clear hb2); (try clear hk); (try clear hi); obtain ⟨Ao69, co69, eo69⟩ := Kd.R_slice HO_16.out; subst eo69) | (go_at_call 24; (with_reducible refine (laws_tdOnce.calls kj36 _ _ t590 true _ ?side1 ?side2 A53.out).mono ?_); (case side1 => repeat (first | exact (Kd.R_reads' HO_16.out).2.2 | (with_reducible refine Kd.C_alloc ?_ _) | (with_reducible refine Kd.C_drewN ?_ _) | (with_reducible refine Kd.C_drew ?_))); (case side2 => exact (Kd.R_reads' HO_16.out).2.1); rintro e w70 ⟨rfl, hb⟩; have n0_ := Aside0.mk (Kd.R_below (by (with_reducible repeat (first | apply Kd.R_alloc | apply Kd.R_drewN | apply Kd.R_drew)); exact HO_11.out) hb); have n1_ := Aside0.mk (Kd.R_below (by (with_reducible repeat (first | apply Kd.R_alloc | apply Kd.R_drewN | apply Kd.R_drew)); exact HO_14.out) hb); have n2_ := Aside0.mk (Kd.R_below (by (with_reducible repeat (first | apply Kd.R_alloc | apply Kd.R_drewN | apply Kd.R_drew)); exact HO_16.out) hb); have n3_ := Aside0.mk (Kd.R_below (by (with_reducible repeat (first | apply Kd.R_alloc | apply Kd.R_drewN | apply Kd.R_drew)); exact HO_19.out) hb); have n4_ := Aside0.mk (blk_below (g := gb578) (o := .cells #[.int .i64 a1_0, .int .i64 a1_1, .int .i64 a1_2, .int .i64 a1_3, .int .i64 a1_4, .int .i64 a1_5] 37 (0, 0)) (by (with_reducible repeat (first | refine blk_drewN ?_ _ | refine blk_drew ?_ | refine blk_alloc ?_ _)); exact BK578.out) hb); have n5_ := Aside0.mk (below_step (by repeat (first | (with_reducible first | exact HB.out | apply below_alloc | apply pw_below_drewN | apply below_drew1 | refine below_set ?_ GE578.out) | exact HB.out)) hb); clear HO_11; clear HO_14; clear HO_16; clear HO_19; clear BK578; clear HB; have HO_11 := n0_; have HO_14 := n1_; have HO_16 := n2_; have HO_19 := n3_; have BK578 := n4_; have HB := n5_; clear n0_ n1_ n2_ n3_ n4_ n5_; (try clear hb); (try clear hb2); (try clear hk); (try clear hi)))
                 go_ret
                 exact ⟨by first | rfl | (simp [errW_none, errW_some] <;> rfl) | (simp [*, errW_none, errW_some] <;> rfl), by repeat (first | (with_reducible first | exact HB.out | apply below_alloc | apply pw_below_drewN | apply below_drew1 | refine below_set ?_ GE578.out) | exact HB.out)⟩
               ·
                replace c54 := Bool.eq_false_iff.mpr c54
                subst c54
                have H1 : (none) = some r := by rw [if_neg (show ¬ (false = true) by decide)] at H; exact H
                clear H
                have H := H1
                clear H1
                exact absurd H (by simp)
              ·
               replace c52 := Bool.eq_false_iff.mpr c52
               subst c52
               have H1 : (if t596 = true then ((laws_tdOnce.f kj36 t595).bind fun t623 => (some t623)) else (some true)) = some r := by rw [if_neg (show ¬ (false = true) by decide)] at H; exact H
               clear H
               have H := H1
               clear H1
               by_cases c71 : t596 = true
               ·
                subst c71
                have H1 : ((laws_tdOnce.f kj36 t595).bind fun t623 => (some t623)) = some r := by rw [if_pos rfl] at H; exact H
                clear H
                have H := H1
                clear H1
                replace H := Option.bind_eq_some_iff.mp H
                obtain ⟨t623, A720, H⟩ := H
                replace H : (some t623) = some r := H
                have A72 := Aside0.mk A720
                clear A720
                obtain rfl := Option.some.inj H
                obtain ⟨Ao73, co73, eo73⟩ := Kd.R_slice HO_11.out
                subst eo73
                go_wp2_with (first | (go_at_call 24; (with_reducible refine (laws_tdOnce.calls kj36 _ _ t581 true _ ?side1 ?side2 A46.out).mono ?_); (case side1 => repeat (first | exact (Kd.R_reads' HO_11.out).2.2 | (with_reducible refine Kd.C_alloc ?_ _) | (with_reducible refine Kd.C_drewN ?_ _) | (with_reducible refine Kd.C_drew ?_))); (case side2 => exact (Kd.R_reads' HO_11.out).2.1); rintro e w74 ⟨rfl, hb⟩; have n0_ := Aside0.mk (Kd.R_below (by (with_reducible repeat (first | apply Kd.R_alloc | apply Kd.R_drewN | apply Kd.R_drew)); exact HO_11.out) hb); have n1_ := Aside0.mk (Kd.R_below (by (with_reducible repeat (first | apply Kd.R_alloc | apply Kd.R_drewN | apply Kd.R_drew)); exact HO_14.out) hb); have n2_ := Aside0.mk (Kd.R_below (by (with_reducible repeat (first | apply Kd.R_alloc | apply Kd.R_drewN | apply Kd.R_drew)); exact HO_16.out) hb); have n3_ := Aside0.mk (Kd.R_below (by (with_reducible repeat (first | apply Kd.R_alloc | apply Kd.R_drewN | apply Kd.R_drew)); exact HO_19.out) hb); have n4_ := Aside0.mk (blk_below (g := gb578) (o := .cells #[.int .i64 a1_0, .int .i64 a1_1, .int .i64 a1_2, .int .i64 a1_3, .int .i64 a1_4, .int .i64 a1_5] 37 (0, 0)) (by (with_reducible repeat (first | refine blk_drewN ?_ _ | refine blk_drew ?_ | refine blk_alloc ?_ _)); exact BK578.out) hb); have n5_ := Aside0.mk (below_step (by repeat (first | (with_reducible first | exact HB.out | apply below_alloc | apply pw_below_drewN | apply below_drew1 | refine below_set ?_ GE578.out) | exact HB.out)) hb); clear HO_11; clear HO_14; clear HO_16; clear HO_19; clear BK578; clear HB; have HO_11 := n0_; have HO_14 := n1_; have HO_16 := n2_; have HO_19 := n3_; have BK578 := n4_; have HB := n5_; clear n0_ n1_ n2_ n3_ n4_ n5_; (try clear hb); (try clear hb2); (try clear hk); (try clear hi); obtain ⟨Ao75, co75, eo75⟩ := Kd.R_slice HO_14.out; subst eo75) | (go_at_call 24; (with_reducible refine (laws_tdOnce.calls kj36 _ _ t586 true _ ?side1 ?side2 A50.out).mono ?_); (case side1 => repeat (first | exact (Kd.R_reads' HO_14.out).2.2 | (with_reducible refine Kd.C_alloc ?_ _) | (with_reducible refine Kd.C_drewN ?_ _) | (with_reducible refine Kd.C_drew ?_))); (case side2 => exact (Kd.R_reads' HO_14.out).2.1); rintro e w76 ⟨rfl, hb⟩; have n0_ := Aside0.mk (Kd.R_below (by (with_reducible repeat (first | apply Kd.R_alloc | apply Kd.R_drewN | apply Kd.R_drew)); exact HO_11.out) hb); have n1_ := Aside0.mk (Kd.R_below (by (with_reducible repeat (first | apply Kd.R_alloc | apply Kd.R_drewN | apply Kd.R_drew)); exact HO_14.out) hb); have n2_ := Aside0.mk (Kd.R_below (by (with_reducible repeat (first | apply Kd.R_alloc | apply Kd.R_drewN | apply Kd.R_drew)); exact HO_16.out) hb); have n3_ := Aside0.mk (Kd.R_below (by (with_reducible repeat (first | apply Kd.R_alloc | apply Kd.R_drewN | apply Kd.R_drew)); exact HO_19.out) hb); have n4_ := Aside0.mk (blk_below (g := gb578) (o := .cells #[.int .i64 a1_0, .int .i64 a1_1, .int .i64 a1_2, .int .i64 a1_3, .int .i64 a1_4, .int .i64 a1_5] 37 (0, 0)) (by (with_reducible repeat (first | refine blk_drewN ?_ _ | refine blk_drew ?_ | refine blk_alloc ?_ _)); exact BK578.out) hb); have n5_ := Aside0.mk (below_step (by repeat (first | (with_reducible first | exact HB.out | apply below_alloc | apply pw_below_drewN | apply below_drew1 | refine below_set ?_ GE578.out) | exact HB.out)) hb); clear HO_11; clear HO_14; clear HO_16; clear HO_19; clear BK578; clear HB; have HO_11 := n0_; have HO_14 := n1_; have HO_16 := n2_; have HO_19 := n3_; have BK578 := n4_; have HB := n5_; clear n0_ n1_ n2_ n3_ n4_ n5_; (try clear hb); (try clear hb2); (try clear hk); (try clear hi); obtain ⟨Ao77, co77, eo77⟩ := Kd.R_slice HO_19.out; subst eo77) | (go_at_call 24; (with_reducible refine (laws_tdOnce.calls kj36 _ _ t595 t623 _ ?side1 ?side2 A72.out).mono ?_); (case side1 => repeat (first | exact (Kd.R_reads' HO_19.out).2.2 | (with_reducible refine Kd.C_alloc ?_ _) | (with_reducible refine Kd.C_drewN ?_ _) | (with_reducible refine Kd.C_drew ?_))); (case side2 => exact (Kd.R_reads' HO_19.out).2.1); rintro e w78 ⟨rfl, hb⟩; have n0_ := Aside0.mk (Kd.R_below (by (with_reducible repeat (first | apply Kd.R_alloc | apply Kd.R_drewN | apply Kd.R_drew)); exact HO_11.out) hb); have n1_ := Aside0.mk (Kd.R_below (by (with_reducible repeat (first | apply Kd.R_alloc | apply Kd.R_drewN | apply Kd.R_drew)); exact HO_14.out) hb); have n2_ := Aside0.mk (Kd.R_below (by (with_reducible repeat (first | apply Kd.R_alloc | apply Kd.R_drewN | apply Kd.R_drew)); exact HO_16.out) hb); have n3_ := Aside0.mk (Kd.R_below (by (with_reducible repeat (first | apply Kd.R_alloc | apply Kd.R_drewN | apply Kd.R_drew)); exact HO_19.out) hb); have n4_ := Aside0.mk (blk_below (g := gb578) (o := .cells #[.int .i64 a1_0, .int .i64 a1_1, .int .i64 a1_2, .int .i64 a1_3, .int .i64 a1_4, .int .i64 a1_5] 37 (0, 0)) (by (with_reducible repeat (first | refine blk_drewN ?_ _ | refine blk_drew ?_ | refine blk_alloc ?_ _)); exact BK578.out) hb); have n5_ := Aside0.mk (below_step (by repeat (first | (with_reducible first | exact HB.out | apply below_alloc | apply pw_below_drewN | apply below_drew1 | refine below_set ?_ GE578.out) | exact HB.out)) hb); clear HO_11; clear HO_14; clear HO_16; clear HO_19; clear BK578; clear HB; have HO_11 := n0_; have HO_14 := n1_; have HO_16 := n2_; have HO_19 := n3_; have BK578 := n4_; have HB := n5_; clear n0_ n1_ n2_ n3_ n4_ n5_; (try clear hb); (try clear hb2); (try clear hk); (try clear hi)))
                go_ret
                exact ⟨by first | rfl | (simp [errW_none, errW_some] <;> rfl) | (simp [*, errW_none, errW_some] <;> rfl), by repeat (first | (with_reducible first | exact HB.out | apply below_alloc | apply pw_below_drewN | apply below_drew1 | refine below_set ?_ GE578.out) | exact HB.out)⟩
               ·
                replace c71 := Bool.eq_false_iff.mpr c71
                subst c71
                have H1 : (some true) = some r := by rw [if_neg (show ¬ (false = true) by decide)] at H; exact H
                clear H
                have H := H1
                clear H1
                obtain rfl := Option.some.inj H
                obtain ⟨Ao79, co79, eo79⟩ := Kd.R_slice HO_11.out
                subst eo79
                go_wp2_with (first | (go_at_call 24; (with_reducible refine (laws_tdOnce.calls kj36 _ _ t581 true _ ?side1 ?side2 A46.out).mono ?_); (case side1 => repeat (first | exact (Kd.R_reads' HO_11.out).2.2 | (with_reducible refine Kd.C_alloc ?_ _) | (with_reducible refine Kd.C_drewN ?_ _) | (with_reducible refine Kd.C_drew ?_))); (case side2 => exact (Kd.R_reads' HO_11.out).2.1); rintro e w80 ⟨rfl, hb⟩; have n0_ := Aside0.mk (Kd.R_below (by (with_reducible repeat (first | apply Kd.R_alloc | apply Kd.R_drewN | apply Kd.R_drew)); exact HO_11.out) hb); have n1_ := Aside0.mk (Kd.R_below (by (with_reducible repeat (first | apply Kd.R_alloc | apply Kd.R_drewN | apply Kd.R_drew)); exact HO_14.out) hb); have n2_ := Aside0.mk (Kd.R_below (by (with_reducible repeat (first | apply Kd.R_alloc | apply Kd.R_drewN | apply Kd.R_drew)); exact HO_16.out) hb); have n3_ := Aside0.mk (Kd.R_below (by (with_reducible repeat (first | apply Kd.R_alloc | apply Kd.R_drewN | apply Kd.R_drew)); exact HO_19.out) hb); have n4_ := Aside0.mk (blk_below (g := gb578) (o := .cells #[.int .i64 a1_0, .int .i64 a1_1, .int .i64 a1_2, .int .i64 a1_3, .int .i64 a1_4, .int .i64 a1_5] 37 (0, 0)) (by (with_reducible repeat (first | refine blk_drewN ?_ _ | refine blk_drew ?_ | refine blk_alloc ?_ _)); exact BK578.out) hb); have n5_ := Aside0.mk (below_step (by repeat (first | (with_reducible first | exact HB.out | apply below_alloc | apply pw_below_drewN | apply below_drew1 | refine below_set ?_ GE578.out) | exact HB.out)) hb); clear HO_11; clear HO_14; clear HO_16; clear HO_19; clear BK578; clear HB; have HO_11 := n0_; have HO_14 := n1_; have HO_16 := n2_; have HO_19 := n3_; have BK578 := n4_; have HB := n5_; clear n0_ n1_ n2_ n3_ n4_ n5_; (try clear hb); (try clear hb2); (try clear hk); (try clear hi); obtain ⟨Ao81, co81, eo81⟩ := Kd.R_slice HO_14.out; subst eo81) | (go_at_call 24; (with_reducible refine (laws_tdOnce.calls kj36 _ _ t586 true _ ?side1 ?side2 A50.out).mono ?_); (case side1 => repeat (first | exact (Kd.R_reads' HO_14.out).2.2 | (with_reducible refine Kd.C_alloc ?_ _) | (with_reducible refine Kd.C_drewN ?_ _) | (with_reducible refine Kd.C_drew ?_))); (case side2 => exact (Kd.R_reads' HO_14.out).2.1); rintro e w82 ⟨rfl, hb⟩; have n0_ := Aside0.mk (Kd.R_below (by (with_reducible repeat (first | apply Kd.R_alloc | apply Kd.R_drewN | apply Kd.R_drew)); exact HO_11.out) hb); have n1_ := Aside0.mk (Kd.R_below (by (with_reducible repeat (first | apply Kd.R_alloc | apply Kd.R_drewN | apply Kd.R_drew)); exact HO_14.out) hb); have n2_ := Aside0.mk (Kd.R_below (by (with_reducible repeat (first | apply Kd.R_alloc | apply Kd.R_drewN | apply Kd.R_drew)); exact HO_16.out) hb); have n3_ := Aside0.mk (Kd.R_below (by (with_reducible repeat (first | apply Kd.R_alloc | apply Kd.R_drewN | apply Kd.R_drew)); exact HO_19.out) hb); have n4_ := Aside0.mk (blk_below (g := gb578) (o := .cells #[.int .i64 a1_0, .int .i64 a1_1, .int .i64 a1_2, .int .i64 a1_3, .int .i64 a1_4, .int .i64 a1_5] 37 (0, 0)) (by (with_reducible repeat (first | refine blk_drewN ?_ _ | refine blk_drew ?_ | refine blk_alloc ?_ _)); exact BK578.out) hb); have n5_ := Aside0.mk (below_step (by repeat (first | (with_reducible first | exact HB.out | apply below_alloc | apply pw_below_drewN | apply below_drew1 | refine below_set ?_ GE578.out) | exact HB.out)) hb); clear HO_11; clear HO_14; clear HO_16; clear HO_19; clear BK578; clear HB; have HO_11 := n0_; have HO_14 := n1_; have HO_16 := n2_; have HO_19 := n3_; have BK578 := n4_; have HB := n5_; clear n0_ n1_ n2_ n3_ n4_ n5_; (try clear hb); (try clear hb2); (try clear hk); (try clear hi)))
                go_ret
                exact ⟨by first | rfl | (simp [errW_none, errW_some] <;> rfl) | (simp [*, errW_none, errW_some] <;> rfl), by repeat (first | (with_reducible first | exact HB.out | apply below_alloc | apply pw_below_drewN | apply below_drew1 | refine below_set ?_ GE578.out) | exact HB.out)⟩
             ·
              replace c51 := Bool.eq_false_iff.mpr c51
              subst c51
              have H1 : (none) = some r := by rw [if_neg (show ¬ (false = true) by decide)] at H; exact H
              clear H
              have H := H1
              clear H1
              exact absurd H (by simp)
            ·
             replace c49 := Bool.eq_false_iff.mpr c49
             subst c49
             have H1 : (if t592 = true then ((laws_tdOnce.f kj36 t590).bind fun t624 => (if t624 = true then (if t596 = true then ((laws_tdOnce.f kj36 t595).bind fun t625 => (some t625)) else (some true)) else (none))) else (if t596 = true then ((laws_tdOnce.f kj36 t595).bind fun t626 => (some t626)) else (some true))) = some r := by rw [if_neg (show ¬ (false = true) by decide)] at H; exact H
             clear H
             have H := H1
             clear H1
             by_cases c83 : t592 = true
             ·
              subst c83
              have H1 : ((laws_tdOnce.f kj36 t590).bind fun t624 => (if t624 = true then (if t596 = true then ((laws_tdOnce.f kj36 t595).bind fun t625 => (some t625)) else (some true)) else (none))) = some r := by rw [if_pos rfl] at H; exact H
              clear H
              have H := H1
              clear H1
              replace H := Option.bind_eq_some_iff.mp H
              obtain ⟨t624, A840, H⟩ := H
              replace H : (if t624 = true then (if t596 = true then ((laws_tdOnce.f kj36 t595).bind fun t625 => (some t625)) else (some true)) else (none)) = some r := H
              have A84 := Aside0.mk A840
              clear A840
              by_cases c85 : t624 = true
              ·
               subst c85
               have H1 : (if t596 = true then ((laws_tdOnce.f kj36 t595).bind fun t625 => (some t625)) else (some true)) = some r := by rw [if_pos rfl] at H; exact H
               clear H
               have H := H1
               clear H1
               by_cases c86 : t596 = true
               ·
                subst c86
                have H1 : ((laws_tdOnce.f kj36 t595).bind fun t625 => (some t625)) = some r := by rw [if_pos rfl] at H; exact H
                clear H
                have H := H1
                clear H1
                replace H := Option.bind_eq_some_iff.mp H
                obtain ⟨t625, A870, H⟩ := H
                replace H : (some t625) = some r := H
                have A87 := Aside0.mk A870
                clear A870
                obtain rfl := Option.some.inj H
                obtain ⟨Ao88, co88, eo88⟩ := Kd.R_slice HO_11.out
                subst eo88
                go_wp2_with (first | (go_at_call 24; (with_reducible refine (laws_tdOnce.calls kj36 _ _ t581 true _ ?side1 ?side2 A46.out).mono ?_); (case side1 => repeat (first | exact (Kd.R_reads' HO_11.out).2.2 | (with_reducible refine Kd.C_alloc ?_ _) | (with_reducible refine Kd.C_drewN ?_ _) | (with_reducible refine Kd.C_drew ?_))); (case side2 => exact (Kd.R_reads' HO_11.out).2.1); rintro e w89 ⟨rfl, hb⟩; have n0_ := Aside0.mk (Kd.R_below (by (with_reducible repeat (first | apply Kd.R_alloc | apply Kd.R_drewN | apply Kd.R_drew)); exact HO_11.out) hb); have n1_ := Aside0.mk (Kd.R_below (by (with_reducible repeat (first | apply Kd.R_alloc | apply Kd.R_drewN | apply Kd.R_drew)); exact HO_14.out) hb); have n2_ := Aside0.mk (Kd.R_below (by (with_reducible repeat (first | apply Kd.R_alloc | apply Kd.R_drewN | apply Kd.R_drew)); exact HO_16.out) hb); have n3_ := Aside0.mk (Kd.R_below (by (with_reducible repeat (first | apply Kd.R_alloc | apply Kd.R_drewN | apply Kd.R_drew)); exact HO_19.out) hb); have n4_ := Aside0.mk (blk_below (g := gb578) (o := .cells #[.int .i64 a1_0, .int .i64 a1_1, .int .i64 a1_2, .int .i64 a1_3, .int .i64 a1_4, .int .i64 a1_5] 37 (0, 0)) (by (with_reducible repeat (first | refine blk_drewN ?_ _ | refine blk_drew ?_ | refine blk_alloc ?_ _)); exact BK578.out) hb); have n5_ := Aside0.mk (below_step (by repeat (first | (with_reducible first | exact HB.out | apply below_alloc | apply pw_below_drewN | apply below_drew1 | refine below_set ?_ GE578.out) | exact HB.out)) hb); clear HO_11; clear HO_14; clear HO_16; clear HO_19; clear BK578; clear HB; have HO_11 := n0_; have HO_14 := n1_; have HO_16 := n2_; have HO_19 := n3_; have BK578 := n4_; have HB := n5_; clear n0_ n1_ n2_ n3_ n4_ n5_; (try clear hb); (try clear hb2); (try clear hk); (try clear hi); obtain ⟨Ao90, co90, eo90⟩ := Kd.R_slice HO_16.out; subst eo90) | (go_at_call 24; (with_reducible refine (laws_tdOnce.calls kj36 _ _ t590 true _ ?side1 ?side2 A84.out).mono ?_); (case side1 => repeat (first | exact (Kd.R_reads' HO_16.out).2.2 | (with_reducible refine Kd.C_alloc ?_ _) | (with_reducible refine Kd.C_drewN ?_ _) | (with_reducible refine Kd.C_drew ?_))); (case side2 => exact (Kd.R_reads' HO_16.out).2.1); rintro e w91 ⟨rfl, hb⟩; have n0_ := Aside0.mk (Kd.R_below (by (with_reducible repeat (first | apply Kd.R_alloc | apply Kd.R_drewN | apply Kd.R_drew)); exact HO_11.out) hb); have n1_ := Aside0.mk (Kd.R_below (by (with_reducible repeat (first | apply Kd.R_alloc | apply Kd.R_drewN | apply Kd.R_drew)); exact HO_14.out) hb); have n2_ := Aside0.mk (Kd.R_below (by (with_reducible repeat (first | apply Kd.R_alloc | apply Kd.R_drewN | apply Kd.R_drew)); exact HO_16.out) hb); have n3_ := Aside0.mk (Kd.R_below (by (with_reducible repeat (first | apply Kd.R_alloc | apply Kd.R_drewN | apply Kd.R_drew)); exact HO_19.out) hb); have n4_ := Aside0.mk (blk_below (g := gb578) (o := .cells #[.int .i64 a1_0, .int .i64 a1_1, .int .i64 a1_2, .int .i64 a1_3, .int .i64 a1_4, .int .i64 a1_5] 37 (0, 0)) (by (with_reducible repeat (first | refine blk_drewN ?_ _ | refine blk_drew ?_ | refine blk_alloc ?_ _)); exact BK578.out) hb); have n5_ := Aside0.mk (below_step (by repeat (first | (with_reducible first | exact HB.out | apply below_alloc | apply pw_below_drewN | apply below_drew1 | refine below_set ?_ GE578.out) | exact HB.out)) hb); clear HO_11; clear HO_14; clear HO_16; clear HO_19; clear BK578; clear HB; have HO_11 := n0_; have HO_14 := n1_; have HO_16 := n2_; have HO_19 := n3_; have BK578 := n4_; have HB := n5_; clear n0_ n1_ n2_ n3_ n4_ n5_; (try clear hb); (try clear hb2); (try clear hk); (try clear hi); obtain ⟨Ao92, co92, eo92⟩ := Kd.R_slice HO_19.out; subst eo92) | (go_at_call 24; (with_reducible refine (laws_tdOnce.calls kj36 _ _ t595 t625 _ ?side1 ?side2 A87.out).mono ?_); (case side1 => repeat (first | exact (Kd.R_reads' HO_19.out).2.2 | (with_reducible refine Kd.C_alloc ?_ _) | (with_reducible refine Kd.C_drewN ?_ _) | (with_reducible refine Kd.C_drew ?_))); (case side2 => exact (Kd.R_reads' HO_19.out).2.1); rintro e w93 ⟨rfl, hb⟩; have n0_ := Aside0.mk (Kd.R_below (by (with_reducible repeat (first | apply Kd.R_alloc | apply Kd.R_drewN | apply Kd.R_drew)); exact HO_11.out) hb); have n1_ := Aside0.mk (Kd.R_below (by (with_reducible repeat (first | apply Kd.R_alloc | apply Kd.R_drewN | apply Kd.R_drew)); exact HO_14.out) hb); have n2_ := Aside0.mk (Kd.R_below (by (with_reducible repeat (first | apply Kd.R_alloc | apply Kd.R_drewN | apply Kd.R_drew)); exact HO_16.out) hb); have n3_ := Aside0.mk (Kd.R_below (by (with_reducible repeat (first | apply Kd.R_alloc | apply Kd.R_drewN | apply Kd.R_drew)); exact HO_19.out) hb); have n4_ := Aside0.mk (blk_below (g := gb578) (o := .cells #[.int .i64 a1_0, .int .i64 a1_1, .int .i64 a1_2, .int .i64 a1_3, .int .i64 a1_4, .int .i64 a1_5] 37 (0, 0)) (by (with_reducible repeat (first | refine blk_drewN ?_ _ | refine blk_drew ?_ | refine blk_alloc ?_ _)); exact BK578.out) hb); have n5_ := Aside0.mk (below_step (by repeat (first | (with_reducible first | exact HB.out | apply below_alloc | apply pw_below_drewN | apply below_drew1 | refine below_set ?_ GE578.out) | exact HB.out)) hb); clear HO_11; clear HO_14; clear HO_16; clear HO_19; clear BK578; clear HB; have HO_11 := n0_; have HO_14 := n1_; have HO_16 := n2_; have HO_19 := n3_; have BK578 := n4_; have HB := n5_; clear n0_ n1_ n2_ n3_ n4_ n5_; (try clear hb); (try clear hb2); (try clear hk); (try clear hi)))
                go_ret
                exact ⟨by first | rfl | (simp [errW_none, errW_some] <;> rfl) | (simp [*, errW_none, errW_some] <;> rfl), by repeat (first | (with_reducible first | exact HB.out | apply below_alloc | apply pw_below_drewN | apply below_drew1 | refine below_set ?_ GE578.out) | exact HB.out)⟩
               ·
                replace c86 := Bool.eq_false_iff.mpr c86
                subst c86
                have H1 : (some true) = some r := by rw [if_neg (show ¬ (false = true) by decide)] at H; exact H
                clear H
                have H := H1
                clear H1
                obtain rfl := Option.some.inj H
                obtain ⟨Ao94, co94, eo94⟩ := Kd.R_slice HO_11.out
                subst eo94
                go_wp2_with (first | (go_at_call 24; (with_reducible refine (laws_tdOnce.calls kj36 _ _ t581 true _ ?side1 ?side2 A46.out).mono ?_); (case side1 => repeat (first | exact (Kd.R_reads' HO_11.out).2.2 | (with_reducible refine Kd.C_alloc ?_ _) | (with_reducible refine Kd.C_drewN ?_ _) | (with_reducible refine Kd.C_drew ?_))); (case side2 => exact (Kd.R_reads' HO_11.out).2.1); rintro e w95 ⟨rfl, hb⟩; have n0_ := Aside0.mk (Kd.R_below (by (with_reducible repeat (first | apply Kd.R_alloc | apply Kd.R_drewN | apply Kd.R_drew)); exact HO_11.out) hb); have n1_ := Aside0.mk (Kd.R_below (by (with_reducible repeat (first | apply Kd.R_alloc | apply Kd.R_drewN | apply Kd.R_drew)); exact HO_14.out) hb); have n2_ := Aside0.mk (Kd.R_below (by (with_reducible repeat (first | apply Kd.R_alloc | apply Kd.R_drewN | apply Kd.R_drew)); exact HO_16.out) hb); have n3_ := Aside0.mk (Kd.R_below (by (with_reducible repeat (first | apply Kd.R_alloc | apply Kd.R_drewN | apply Kd.R_drew)); exact HO_19.out) hb); have n4_ := Aside0.mk (blk_below (g := gb578) (o := .cells #[.int .i64 a1_0, .int .i64 a1_1, .int .i64 a1_2, .int .i64 a1_3, .int .i64 a1_4, .int .i64 a1_5] 37 (0, 0)) (by (with_reducible repeat (first | refine blk_drewN ?_ _ | refine blk_drew ?_ | refine blk_alloc ?_ _)); exact BK578.out) hb); have n5_ := Aside0.mk (below_step (by repeat (first | (with_reducible first | exact HB.out | apply below_alloc | apply pw_below_drewN | apply below_drew1 | refine below_set ?_ GE578.out) | exact HB.out)) hb); clear HO_11; clear HO_14; clear HO_16; clear HO_19; clear BK578; clear HB; have HO_11 := n0_; have HO_14 := n1_; have HO_16 := n2_; have HO_19 := n3_; have BK578 := n4_; have HB := n5_; clear n0_ n1_ n2_ n3_ n4_ n5_; (try clear hb); (try clear hb2); (try clear hk); (try clear hi); obtain ⟨Ao96, co96, eo96⟩ := Kd.R_slice HO_16.out; subst eo96) | (go_at_call 24; (with_reducible refine (laws_tdOnce.calls kj36 _ _ t590 true _ ?side1 ?side2 A84.out).mono ?_); (case side1 => repeat (first | exact (Kd.R_reads' HO_16.out).2.2 | (with_reducible refine Kd.C_alloc ?_ _) | (with_reducible refine Kd.C_drewN ?_ _) | (with_reducible refine Kd.C_drew ?_))); (case side2 => exact (Kd.R_reads' HO_16.out).2.1); rintro e w97 ⟨rfl, hb⟩; have n0_ := Aside0.mk (Kd.R_below (by (with_reducible repeat (first | apply Kd.R_alloc | apply Kd.R_drewN | apply Kd.R_drew)); exact HO_11.out) hb); have n1_ := Aside0.mk (Kd.R_below (by (with_reducible repeat (first | apply Kd.R_alloc | apply Kd.R_drewN | apply Kd.R_drew)); exact HO_14.out) hb); have n2_ := Aside0.mk (Kd.R_below (by (with_reducible repeat (first | apply Kd.R_alloc | apply Kd.R_drewN | apply Kd.R_drew)); exact HO_16.out) hb); have n3_ := Aside0.mk (Kd.R_below (by (with_reducible repeat (first | apply Kd.R_alloc | apply Kd.R_drewN | apply Kd.R_drew)); exact HO_19.out) hb); have n4_ := Aside0.mk (blk_below (g := gb578) (o := .cells #[.int .i64 a1_0, .int .i64 a1_1, .int .i64 a1_2, .int .i64 a1_3, .int .i64 a1_4, .int .i64 a1_5] 37 (0, 0)) (by (with_reducible repeat (first | refine blk_drewN ?_ _ | refine blk_drew ?_ | refine blk_alloc ?_ _)); exact BK578.out) hb); have n5_ := Aside0.mk (below_step (by repeat (first | (with_reducible first | exact HB.out | apply below_alloc | apply pw_below_drewN | apply below_drew1 | refine below_set ?_ GE578.out) | exact HB.out)) hb); clear HO_11; clear HO_14; clear HO_16; clear HO_19; clear BK578; clear HB; have HO_11 := n0_; have HO_14 := n1_; have HO_16 := n2_; have HO_19 := n3_; have BK578 := n4_; have HB := n5_; clear n0_ n1_ n2_ n3_ n4_ n5_; (try clear hb); (try clear hb2); (try clear hk); (try clear hi)))
                go_ret
                exact ⟨by first | rfl | (simp [errW_none, errW_some] <;> rfl) | (simp [*, errW_none, errW_some] <;> rfl), by repeat (first | (with_reducible first | exact HB.out | apply below_alloc | apply pw_below_drewN | apply below_drew1 | refine below_set ?_ GE578.out) | exact HB.out)⟩
              ·
               replace c85 := Bool.eq_false_iff.mpr c85
               subst c85
               have H1 : (none) = some r := by rw [if_neg (show ¬ (false = true) by decide)] at H; exact H
               clear H
               have H := H1
               clear H1
               exact absurd H (by simp)
             ·
              replace c83 := Bool.eq_false_iff.mpr c83
              subst c83
              have H1 : (if t596 = true then ((laws_tdOnce.f kj36 t595).bind fun t626 => (some t626)) else (some true)) = some r := by rw [if_neg (show ¬ (false = true) by decide)] at H; exact H
              clear H
              have H := H1
              clear H1
              by_cases c98 : t596 = true
              ·
               subst c98
               have H1 : ((laws_tdOnce.f kj36 t595).bind fun t626 => (some t626)) = some r := by rw [if_pos rfl] at H; exact H
               clear H
               have H := H1
               clear H1
               replace H := Option.bind_eq_some_iff.mp H
               obtain ⟨t626, A990, H⟩ := H
               replace H : (some t626) = some r := H
               have A99 := Aside0.mk A990
               clear A990
               obtain rfl := Option.some.inj H
               obtain ⟨Ao100, co100, eo100⟩ := Kd.R_slice HO_11.out
               subst eo100
               go_wp2_with (first | (go_at_call 24; (with_reducible refine (laws_tdOnce.calls kj36 _ _ t581 true _ ?side1 ?side2 A46.out).mono ?_); (case side1 => repeat (first | exact (Kd.R_reads' HO_11.out).2.2 | (with_reducible refine Kd.C_alloc ?_ _) | (with_reducible refine Kd.C_drewN ?_ _) | (with_reducible refine Kd.C_drew ?_))); (case side2 => exact (Kd.R_reads' HO_11.out).2.1); rintro e w101 ⟨rfl, hb⟩; have n0_ := Aside0.mk (Kd.R_below (by (with_reducible repeat (first | apply Kd.R_alloc | apply Kd.R_drewN | apply Kd.R_drew)); exact HO_11.out) hb); have n1_ := Aside0.mk (Kd.R_below (by (with_reducible repeat (first | apply Kd.R_alloc | apply Kd.R_drewN | apply Kd.R_drew)); exact HO_14.out) hb); have n2_ := Aside0.mk (Kd.R_below (by (with_reducible repeat (first | apply Kd.R_alloc | apply Kd.R_drewN | apply Kd.R_drew)); exact HO_16.out) hb); have n3_ := Aside0.mk (Kd.R_below (by (with_reducible repeat (first | apply Kd.R_alloc | apply Kd.R_drewN | apply Kd.R_drew)); exact HO_19.out) hb); have n4_ := Aside0.mk (blk_below (g := gb578) (o := .cells #[.int .i64 a1_0, .int .i64 a1_1, .int .i64 a1_2, .int .i64 a1_3, .int .i64 a1_4, .int .i64 a1_5] 37 (0, 0)) (by (with_reducible repeat (first | refine blk_drewN ?_ _ | refine blk_drew ?_ | refine blk_alloc ?_ _)); exact BK578.out) hb); have n5_ := Aside0.mk (below_step (by repeat (first | (with_reducible first | exact HB.out | apply below_alloc | apply pw_below_drewN | apply below_drew1 | refine below_set ?_ GE578.out) | exact HB.out)) hb); clear HO_11; clear HO_14; clear HO_16; clear HO_19; clear BK578; clear HB; have HO_11 := n0_; have HO_14 := n1_; have HO_16 := n2_; have HO_19 := n3_; have BK578 := n4_; have HB := n5_; clear n0_ n1_ n2_ n3_ n4_ n5_; (try clear hb); (try clear hb2); (try clear hk); (try clear hi); obtain ⟨Ao102, co102, eo102⟩ := Kd.R_slice HO_19.out; subst eo102) | (go_at_call 24; (with_reducible refine (laws_tdOnce.calls kj36 _ _ t595 t626 _ ?side1 ?side2 A99.out).mono ?_); (case side1 => repeat (first | exact (Kd.R_reads' HO_19.out).2.2 | (with_reducible refine Kd.C_alloc ?_ _) | (with_reducible refine Kd.C_drewN ?_ _) | (with_reducible refine Kd.C_drew ?_))); (case side2 => exact (Kd.R_reads' HO_19.out).2.1); rintro e w103 ⟨rfl, hb⟩; have n0_ := Aside0.mk (Kd.R_below (by (with_reducible repeat (first | apply Kd.R_alloc | apply Kd.R_drewN | apply Kd.R_drew)); exact HO_11.out) hb); have n1_ := Aside0.mk (Kd.R_below (by (with_reducible repeat (first | apply Kd.R_alloc | apply Kd.R_drewN | apply Kd.R_drew)); exact HO_14.out) hb); have n2_ := Aside0.mk (Kd.R_below (by (with_reducible repeat (first | apply Kd.R_alloc | apply Kd.R_drewN | apply Kd.R_drew)); exact HO_16.out) hb); have n3_ := Aside0.mk (Kd.R_below (by (with_reducible repeat (first | apply Kd.R_alloc | apply Kd.R_drewN | apply Kd.R_drew)); exact HO_19.out) hb); have n4_ := Aside0.mk (blk_below (g := gb578) (o := .cells #[.int .i64 a1_0, .int .i64 a1_1, .int .i64 a1_2, .int .i64 a1_3, .int .i64 a1_4, .int .i64 a1_5] 37 (0, 0)) (by (with_reducible repeat (first | refine blk_drewN ?_ _ | refine blk_drew ?_ | refine blk_alloc ?_ _)); exact BK578.out) hb); have n5_ := Aside0.mk (below_step (by repeat (first | (with_reducible first | exact HB.out | apply below_alloc | apply pw_below_drewN | apply below_drew1 | refine below_set ?_ GE578.out) | exact HB.out)) hb); clear HO_11; clear HO_14; clear HO_16; clear HO_19; clear BK578; clear HB; have HO_11 := n0_; have HO_14 := n1_; have HO_16 := n2_; have HO_19 := n3_; have BK578 := n4_; have HB := n5_; clear n0_ n1_ n2_ n3_ n4_ n5_; (try clear hb); (try clear hb2); (try clear hk); (try clear hi)))
               go_ret
               exact ⟨by first | rfl | (simp [errW_none, errW_some] <;> rfl) | (simp [*, errW_none, errW_some] <;> rfl), by repeat (first | (with_reducible first | exact HB.out | apply below_alloc | apply pw_below_drewN | apply below_drew1 | refine below_set ?_ GE578.out) | exact HB.out)⟩
              ·
               replace c98 := Bool.eq_false_iff.mpr c98
               subst c98
               have H1 : (some true) = some r := by rw [if_neg (show ¬ (false = true) by decide)] at H; exact H
               clear H
               have H := H1
               clear H1
               obtain rfl := Option.some.inj H
               obtain ⟨Ao104, co104, eo104⟩ := Kd.R_slice HO_11.out
               subst eo104
               go_wp2_with (first | (go_at_call 24; (with_reducible refine (laws_tdOnce.calls kj36 _ _ t581 true _ ?side1 ?side2 A46.out).mono ?_); (case side1 => repeat (first | exact (Kd.R_reads' HO_11.out).2.2 | (with_reducible refine Kd.C_alloc ?_ _) | (with_reducible refine Kd.C_drewN ?_ _) | (with_reducible refine Kd.C_drew ?_))); (case side2 => exact (Kd.R_reads' HO_11.out).2.1); rintro e w105 ⟨rfl, hb⟩; have n0_ := Aside0.mk (Kd.R_below (by (with_reducible repeat (first | apply Kd.R_alloc | apply Kd.R_drewN | apply Kd.R_drew)); exact HO_11.out) hb); have n1_ := Aside0.mk (Kd.R_below (by (with_reducible repeat (first | apply Kd.R_alloc | apply Kd.R_drewN | apply Kd.R_drew)); exact HO_14.out) hb); have n2_ := Aside0.mk (Kd.R_below (by (with_reducible repeat (first | apply Kd.R_alloc | apply Kd.R_drewN | apply Kd.R_drew)); exact HO_16.out) hb); have n3_ := Aside0.mk (Kd.R_below (by (with_reducible repeat (first | apply Kd.R_alloc | apply Kd.R_drewN | apply Kd.R_drew)); exact HO_19.out) hb); have n4_ := Aside0.mk (blk_below (g := gb578) (o := .cells #[.int .i64 a1_0, .int .i64 a1_1, .int .i64 a1_2, .int .i64 a1_3, .int .i64 a1_4, .int .i64 a1_5] 37 (0, 0)) (by (with_reducible repeat (first | refine blk_drewN ?_ _ | refine blk_drew ?_ | refine blk_alloc ?_ _)); exact BK578.out) hb); have n5_ := Aside0.mk (below_step (by repeat (first | (with_reducible first | exact HB.out | apply below_alloc | apply pw_below_drewN | apply below_drew1 | refine below_set ?_ GE578.out) | exact HB.out)) hb); clear HO_11; clear HO_14; clear HO_16; clear HO_19; clear BK578; clear HB; have HO_11 := n0_; have HO_14 := n1_; have HO_16 := n2_; have HO_19 := n3_; have BK578 := n4_; have HB := n5_; clear n0_ n1_ n2_ n3_ n4_ n5_; (try clear hb); (try clear hb2); (try clear hk); (try clear hi)))
               go_ret
               exact ⟨by first | rfl | (simp [errW_none, errW_some] <;> rfl) | (simp [*, errW_none, errW_some] <;> rfl), by repeat (first | (with_reducible first | exact HB.out | apply below_alloc | apply pw_below_drewN | apply below_drew1 | refine below_set ?_ GE578.out) | exact HB.out)⟩
           ·
            rw [if_neg c48] at H
            exact absurd H (by simp)
          ·
           replace c47 := Bool.eq_false_iff.mpr c47
           subst c47
           have H1 : (none) = some r := by rw [if_neg (show ¬ (false = true) by decide)] at H; exact H
           clear H
           have H := H1
           clear H1
           exact absurd H (by simp)
         ·
          replace c45 := Bool.eq_false_iff.mpr c45
          subst c45
          have H1 : (if t587 = true then ((laws_tdOnce.f kj36 t586).bind fun t627 => (if t627 = true then (if t592 = true then ((laws_tdOnce.f kj36 t590).bind fun t628 => (if t628 = true then (if t596 = true then ((laws_tdOnce.f kj36 t595).bind fun t629 => (some t629)) else (some true)) else (none))) else (if t596 = true then ((laws_tdOnce.f kj36 t595).bind fun t630 => (some t630)) else (some true))) else (none))) else (if t592 = true then ((laws_tdOnce.f kj36 t590).bind fun t631 => (if t631 = true then (if t596 = true then ((laws_tdOnce.f kj36 t595).bind fun t632 => (some t632)) else (some true)) else (none))) else (if t596 = true then ((laws_tdOnce.f kj36 t595).bind fun t633 => (some t633)) else (some true)))) = some r := by rw [if_neg (show ¬ (false = true) by decide)] at H; exact H
          clear H
          have H := H1
          clear H1
          by_cases c106 : t587 = true
          ·
           subst c106
           have H1 : ((laws_tdOnce.f kj36 t586).bind fun t627 => (if t627 = true then (if t592 = true then ((laws_tdOnce.f kj36 t590).bind fun t628 => (if t628 = true then (if t596 = true then ((laws_tdOnce.f kj36 t595).bind fun t629 => (some t629)) else (some true)) else (none))) else (if t596 = true then ((laws_tdOnce.f kj36 t595).bind fun t630 => (some t630)) else (some true))) else (none))) = some r := by rw [if_pos rfl] at H; exact H
           clear H
           have H := H1
           clear H1
           replace H := Option.bind_eq_some_iff.mp H
           obtain ⟨t627, A1070, H⟩ := H
           replace H : (if t627 = true then (if t592 = true then ((laws_tdOnce.f kj36 t590).bind fun t628 => (if t628 = true then (if t596 = true then ((laws_tdOnce.f kj36 t595).bind fun t629 => (some t629)) else (some true)) else (none))) else (if t596 = true then ((laws_tdOnce.f kj36 t595).bind fun t630 => (some t630)) else (some true))) else (none)) = some r := H
           have A107 := Aside0.mk A1070
           clear A1070
           by_cases c108 : t627 = true
           ·
            subst c108
            have H1 : (if t592 = true then ((laws_tdOnce.f kj36 t590).bind fun t628 => (if t628 = true then (if t596 = true then ((laws_tdOnce.f kj36 t595).bind fun t629 => (some t629)) else (some true)) else (none))) else (if t596 = true then ((laws_tdOnce.f kj36 t595).bind fun t630 => (some t630)) else (some true))) = some r := by rw [if_pos rfl] at H; exact H
            clear H
            have H := H1
            clear H1
            by_cases c109 : t592 = true
            ·
             subst c109
             have H1 : ((laws_tdOnce.f kj36 t590).bind fun t628 => (if t628 = true then (if t596 = true then ((laws_tdOnce.f kj36 t595).bind fun t629 => (some t629)) else (some true)) else (none))) = some r := by rw [if_pos rfl] at H; exact H
             clear H
             have H := H1
             clear H1
             replace H := Option.bind_eq_some_iff.mp H
             obtain ⟨t628, A1100, H⟩ := H
             replace H : (if t628 = true then (if t596 = true then ((laws_tdOnce.f kj36 t595).bind fun t629 => (some t629)) else (some true)) else (none)) = some r := H
             have A110 := Aside0.mk A1100
             clear A1100
             by_cases c111 : t628 = true
             ·
              subst c111
              have H1 : (if t596 = true then ((laws_tdOnce.f kj36 t595).bind fun t629 => (some t629)) else (some true)) = some r := by rw [if_pos rfl] at H; exact H
              clear H
              have H := H1
              clear H1
              by_cases c112 : t596 = true
              ·
               subst c112
               have H1 : ((laws_tdOnce.f kj36 t595).bind fun t629 => (some t629)) = some r := by rw [if_pos rfl] at H; exact H
               clear H
               have H := H1
               clear H1
               replace H := Option.bind_eq_some_iff.mp H
               obtain ⟨t629, A1130, H⟩ := H
               replace H : (some t629) = some r := H
               have A113 := Aside0.mk A1130
               clear A1130
               obtain rfl := Option.some.inj H
               obtain ⟨Ao114, co114, eo114⟩ := Kd.R_slice HO_14.out
               subst eo114
               go_wp2_with (first | (go_at_call 24; (with_reducible refine (laws_tdOnce.calls kj36 _ _ t586 true _ ?side1 ?side2 A107.out).mono ?_); (case side1 => repeat (first | exact (Kd.R_reads' HO_14.out).2.2 | (with_reducible refine Kd.C_alloc ?_ _) | (with_reducible refine Kd.C_drewN ?_ _) | (with_reducible refine Kd.C_drew ?_))); (case side2 => exact (Kd.R_reads' HO_14.out).2.1); rintro e w115 ⟨rfl, hb⟩; have n0_ := Aside0.mk (Kd.R_below (by (with_reducible repeat (first | apply Kd.R_alloc | apply Kd.R_drewN | apply Kd.R_drew)); exact HO_11.out) hb); have n1_ := Aside0.mk (Kd.R_below (by (with_reducible repeat (first | apply Kd.R_alloc | apply Kd.R_drewN | apply Kd.R_drew)); exact HO_14.out) hb); have n2_ := Aside0.mk (Kd.R_below (by (with_reducible repeat (first | apply Kd.R_alloc | apply Kd.R_drewN | apply Kd.R_drew)); exact HO_16.out) hb); have n3_ := Aside0.mk (Kd.R_below (by (with_reducible repeat (first | apply Kd.R_alloc | apply Kd.R_drewN | apply Kd.R_drew)); exact HO_19.out) hb); have n4_ := Aside0.mk (blk_below (g := gb578) (o := .cells #[.int .i64 a1_0, .int .i64 a1_1, .int .i64 a1_2, .int .i64 a1_3, .int .i64 a1_4, .int .i64 a1_5] 37 (0, 0)) (by (with_reducible repeat (first | refine blk_drewN ?_ _ | refine blk_drew ?_ | refine blk_alloc ?_ _)); exact BK578.out) hb); have n5_ := Aside0.mk (below_step (by repeat (first | (with_reducible first | exact HB.out | apply below_alloc | apply pw_below_drewN | apply below_drew1 | refine below_set ?_ GE578.out) | exact HB.out)) hb); clear HO_11; clear HO_14; clear HO_16; clear HO_19; clear BK578; clear HB; have HO_11 := n0_; have HO_14 := n1_; have HO_16 := n2_; have HO_19 := n3_; have BK578 := n4_; have HB := n5_; clear n0_ n1_ n2_ n3_ n4_ n5_; (try clear hb); (try clear hb2); (try clear hk); (try clear hi); obtain ⟨Ao116, co116, eo116⟩ := Kd.R_slice HO_16.out; subst eo116) | (go_at_call 24; (with_reducible refine (laws_tdOnce.calls kj36 _ _ t590 true _ ?side1 ?side2 A110.out).mono ?_); (case side1 => repeat (first | exact (Kd.R_reads' HO_16.out).2.2 | (with_reducible refine Kd.C_alloc ?_ _) | (with_reducible refine Kd.C_drewN ?_ _) | (with_reducible refine Kd.C_drew ?_))); (case side2 => exact (Kd.R_reads' HO_16.out).2.1); rintro e w117 ⟨rfl, hb⟩; have n0_ := Aside0.mk (Kd.R_below (by (with_reducible repeat (first | apply Kd.R_alloc | apply Kd.R_drewN | apply Kd.R_drew)); exact HO_11.out) hb); have n1_ := Aside0.mk (Kd.R_below (by (with_reducible repeat (first | apply Kd.R_alloc | apply Kd.R_drewN | apply Kd.R_drew)); exact HO_14.out) hb); have n2_ := Aside0.mk (Kd.R_below (by (with_reducible repeat (first | apply Kd.R_alloc | apply Kd.R_drewN | apply Kd.R_drew)); exact HO_16.out) hb); have n3_ := Aside0.mk (Kd.R_below (by (with_reducible repeat (first | apply Kd.R_alloc | apply Kd.R_drewN | apply Kd.R_drew)); exact HO_19.out) hb); have n4_ := Aside0.mk (blk_below (g := gb578) (o := .cells #[.int .i64 a1_0, .int .i64 a1_1, .int .i64 a1_2, .int .i64 a1_3, .int .i64 a1_4, .int .i64 a1_5] 37 (0, 0)) (by (with_reducible repeat (first | refine blk_drewN ?_ _ | refine blk_drew ?_ | refine blk_alloc ?_ _)); exact BK578.out) hb); have n5_ := Aside0.mk (below_step (by repeat (first | (with_reducible first | exact HB.out | apply below_alloc | apply pw_below_drewN | apply below_drew1 | refine below_set ?_ GE578.out) | exact HB.out)) hb); clear HO_11; clear HO_14; clear HO_16; clear HO_19; clear BK578; clear HB; have HO_11 := n0_; have HO_14 := n1_; have HO_16 := n2_; have HO_19 := n3_; have BK578 := n4_; have HB := n5_; clear n0_ n1_ n2_ n3_ n4_ n5_; (try clear hb); (try clear hb2); (try clear hk); (try clear hi); obtain ⟨Ao118, co118, eo118⟩ := Kd.R_slice HO_19.out; subst eo118) | (go_at_call 24; (with_reducible refine (laws_tdOnce.calls kj36 _ _ t595 t629 _ ?side1 ?side2 A113.out).mono ?_); (case side1 => repeat (first | exact (Kd.R_reads' HO_19.out).2.2 | (with_reducible refine Kd.C_alloc ?_ _) | (with_reducible refine Kd.C_drewN ?_ _) | (with_reducible refine Kd.C_drew ?_))); (case side2 => exact (Kd.R_reads' HO_19.out).2.1); rintro e w119 ⟨rfl, hb⟩; have n0_ := Aside0.mk (Kd.R_below (by (with_reducible repeat (first | apply Kd.R_alloc | apply Kd.R_drewN | apply Kd.R_drew)); exact HO_11.out) hb); have n1_ := Aside0.mk (Kd.R_below (by (with_reducible repeat (first | apply Kd.R_alloc | apply Kd.R_drewN | apply Kd.R_drew)); exact HO_14.out) hb); have n2_ := Aside0.mk (Kd.R_below (by (with_reducible repeat (first | apply Kd.R_alloc | apply Kd.R_drewN | apply Kd.R_drew)); exact HO_16.out) hb); have n3_ := Aside0.mk (Kd.R_below (by (with_reducible repeat (first | apply Kd.R_alloc | apply Kd.R_drewN | apply Kd.R_drew)); exact HO_19.out) hb); have n4_ := Aside0.mk (blk_below (g := gb578) (o := .cells #[.int .i64 a1_0, .int .i64 a1_1, .int .i64 a1_2, .int .i64 a1_3, .int .i64 a1_4, .int .i64 a1_5] 37 (0, 0)) (by (with_reducible repeat (first | refine blk_drewN ?_ _ | refine blk_drew ?_ | refine blk_alloc ?_ _)); exact BK578.out) hb); have n5_ := Aside0.mk (below_step (by repeat (first | (with_reducible first | exact HB.out | apply below_alloc | apply pw_below_drewN | apply below_drew1 | refine below_set ?_ GE578.out) | exact HB.out)) hb); clear HO_11; clear HO_14; clear HO_16; clear HO_19; clear BK578; clear HB; have HO_11 := n0_; have HO_14 := n1_; have HO_16 := n2_; have HO_19 := n3_; have BK578 := n4_; have HB := n5_; clear n0_ n1_ n2_ n3_ n4_ n5_; (try clear hb); (try clear hb2); (try clear hk); (try clear hi)))
               go_ret
               exact ⟨by first | rfl | (simp [errW_none, errW_some] <;> rfl) | (simp [*, errW_none, errW_some] <;> rfl), by repeat (first | (with_reducible first | exact HB.out | apply below_alloc | apply pw_below_drewN | apply below_drew1 | refine below_set ?_ GE578.out) | exact HB.out)⟩
              ·
               replace c112 := Bool.eq_false_iff.mpr c112
               subst c112
               have H1 : (some true) = some r := by rw [if_neg (show ¬ (false = true) by decide)] at H; exact H
               clear H
               have H := H1
               clear H1
               obtain rfl := Option.some.inj H
               obtain ⟨Ao120, co120, eo120⟩ := Kd.R_slice HO_14.out
               subst eo120
               go_wp2_with (first | (go_at_call 24; (with_reducible refine (laws_tdOnce.calls kj36 _ _ t586 true _ ?side1 ?side2 A107.out).mono ?_); (case side1 => repeat (first | exact (Kd.R_reads' HO_14.out).2.2 | (with_reducible refine Kd.C_alloc ?_ _) | (with_reducible refine Kd.C_drewN ?_ _) | (with_reducible refine Kd.C_drew ?_))); (case side2 => exact (Kd.R_reads' HO_14.out).2.1); rintro e w121 ⟨rfl, hb⟩; have n0_ := Aside0.mk (Kd.R_below (by (with_reducible repeat (first | apply Kd.R_alloc | apply Kd.R_drewN | apply Kd.R_drew)); exact HO_11.out) hb); have n1_ := Aside0.mk (Kd.R_below (by (with_reducible repeat (first | apply Kd.R_alloc | apply Kd.R_drewN | apply Kd.R_drew)); exact HO_14.out) hb); have n2_ := Aside0.mk (Kd.R_below (by (with_reducible repeat (first | apply Kd.R_alloc | apply Kd.R_drewN | apply Kd.R_drew)); exact HO_16.out) hb); have n3_ := Aside0.mk (Kd.R_below (by (with_reducible repeat (first | apply Kd.R_alloc | apply Kd.R_drewN | apply Kd.R_drew)); exact HO_19.out) hb); have n4_ := Aside0.mk (blk_below (g := gb578) (o := .cells #[.int .i64 a1_0, .int .i64 a1_1, .int .i64 a1_2, .int .i64 a1_3, .int .i64 a1_4, .int .i64 a1_5] 37 (0, 0)) (by (with_reducible repeat (first | refine blk_drewN ?_ _ | refine blk_drew ?_ | refine blk_alloc ?_ _)); exact BK578.out) hb); have n5_ := Aside0.mk (below_step (by repeat (first | (with_reducible first | exact HB.out | apply below_alloc | apply pw_below_drewN | apply below_drew1 | refine below_set ?_ GE578.out) | exact HB.out)) hb); clear HO_11; clear HO_14; clear HO_16; clear HO_19; clear BK578; clear HB; have HO_11 := n0_; have HO_14 := n1_; have HO_16 := n2_; have HO_19 := n3_; have BK578 := n4_; have HB := n5_; clear n0_ n1_ n2_ n3_ n4_ n5_; (try clear hb); (try clear hb2); (try clear hk); (try clear hi); obtain ⟨Ao122, co122, eo122⟩ := Kd.R_slice HO_16.out; subst eo122) | (go_at_call 24; (with_reducible refine (laws_tdOnce.calls kj36 _ _ t590 true _ ?side1 ?side2 A110.out).mono ?_); (case side1 => repeat (first | exact (Kd.R_reads' HO_16.out).2.2 | (with_reducible refine Kd.C_alloc ?_ _) | (with_reducible refine Kd.C_drewN ?_ _) | (with_reducible refine Kd.C_drew ?_))); (case side2 => exact (Kd.R_reads' HO_16.out).2.1); rintro e w123 ⟨rfl, hb⟩; have n0_ := Aside0.mk (Kd.R_below (by (with_reducible repeat (first | apply Kd.R_alloc | apply Kd.R_drewN | apply Kd.R_drew)); exact HO_11.out) hb); have n1_ := Aside0.mk (Kd.R_below (by (with_reducible repeat (first | apply Kd.R_alloc | apply Kd.R_drewN | apply Kd.R_drew)); exact HO_14.out) hb); have n2_ := Aside0.mk (Kd.R_below (by (with_reducible repeat (first | apply Kd.R_alloc | apply Kd.R_drewN | apply Kd.R_drew)); exact HO_16.out) hb); have n3_ := Aside0.mk (Kd.R_below (by (with_reducible repeat (first | apply Kd.R_alloc | apply Kd.R_drewN | apply Kd.R_drew)); exact HO_19.out) hb); have n4_ := Aside0.mk (blk_below (g := gb578) (o := .cells #[.int .i64 a1_0, .int .i64 a1_1, .int .i64 a1_2, .int .i64 a1_3, .int .i64 a1_4, .int .i64 a1_5] 37 (0, 0)) (by (with_reducible repeat (first | refine blk_drewN ?_ _ | refine blk_drew ?_ | refine blk_alloc ?_ _)); exact BK578.out) hb); have n5_ := Aside0.mk (below_step (by repeat (first | (with_reducible first | exact HB.out | apply below_alloc | apply pw_below_drewN | apply below_drew1 | refine below_set ?_ GE578.out) | exact HB.out)) hb); clear HO_11; clear HO_14; clear HO_16; clear HO_19; clear BK578; clear HB; have HO_11 := n0_; have HO_14 := n1_; have HO_16 := n2_; have HO_19 := n3_; have BK578 := n4_; have HB := n5_; clear n0_ n1_ n2_ n3_ n4_ n5_; (try clear hb); (try clear hb2); (try clear hk); (try clear hi)))
               go_ret
               exact ⟨by first | rfl | (simp [errW_none, errW_some] <;> rfl) | (simp [*, errW_none, errW_some] <;> rfl), by repeat (first | (with_reducible first | exact HB.out | apply below_alloc | apply pw_below_drewN | apply below_drew1 | refine below_set ?_ GE578.out) | exact HB.out)⟩
             ·
              replace c111 := Bool.eq_false_iff.mpr c111
              subst c111
              have H1 : (none) = some r := by rw [if_neg (show ¬ (false = true) by decide)] at H; exact H
              clear H
              have H := H1
              clear H1
              exact absurd H (by simp)
            ·
             replace c109 := Bool.eq_false_iff.mpr c109
             subst c109
             have H1 : (if t596 = true then ((laws_tdOnce.f kj36 t595).bind fun t630 => (some t630)) else (some true)) = some r := by rw [if_neg (show ¬ (false = true) by decide)] at H; exact H
             clear H
             have H := H1
             clear H1
             by_cases c124 : t596 = true
             ·
              subst c124
              have H1 : ((laws_tdOnce.f kj36 t595).bind fun t630 => (some t630)) = some r := by rw [if_pos rfl] at H; exact H
              clear H
              have H := H1
              clear H1
              replace H := Option.bind_eq_some_iff.mp H
              obtain ⟨t630, A1250, H⟩ := H
              replace H : (some t630) = some r := H
              have A125 := Aside0.mk A1250
              clear A1250
              obtain rfl := Option.some.inj H
              obtain ⟨Ao126, co126, eo126⟩ := Kd.R_slice HO_14.out
              subst eo126
              go_wp2_with (first | (go_at_call 24; (with_reducible refine (laws_tdOnce.calls kj36 _ _ t586 true _ ?side1 ?side2 A107.out).mono ?_); (case side1 => repeat (first | exact (Kd.R_reads' HO_14.out).2.2 | (with_reducible refine Kd.C_alloc ?_ _) | (with_reducible refine Kd.C_drewN ?_ _) | (with_reducible refine Kd.C_drew ?_))); (case side2 => exact (Kd.R_reads' HO_14.out).2.1); rintro e w127 ⟨rfl, hb⟩; have n0_ := Aside0.mk (Kd.R_below (by (with_reducible repeat (first | apply Kd.R_alloc | apply Kd.R_drewN | apply Kd.R_drew)); exact HO_11.out) hb); have n1_ := Aside0.mk (Kd.R_below (by (with_reducible repeat (first | apply Kd.R_alloc | apply Kd.R_drewN | apply Kd.R_drew)); exact HO_14.out) hb); have n2_ := Aside0.mk (Kd.R_below (by (with_reducible repeat (first | apply Kd.R_alloc | apply Kd.R_drewN | apply Kd.R_drew)); exact HO_16.out) hb); have n3_ := Aside0.mk (Kd.R_below (by (with_reducible repeat (first | apply Kd.R_alloc | apply Kd.R_drewN | apply Kd.R_drew)); exact HO_19.out) hb); have n4_ := Aside0.mk (blk_below (g := gb578) (o := .cells #[.int .i64 a1_0, .int .i64 a1_1, .int .i64 a1_2, .int .i64 a1_3, .int .i64 a1_4, .int .i64 a1_5] 37 (0, 0)) (by (with_reducible repeat (first | refine blk_drewN ?_ _ | refine blk_drew ?_ | refine blk_alloc ?_ _)); exact BK578.out) hb); have n5_ := Aside0.mk (below_step (by repeat (first | (with_reducible first | exact HB.out | apply below_alloc | apply pw_below_drewN | apply below_drew1 | refine below_set ?_ GE578.out) | exact HB.out)) hb); clear HO_11; clear HO_14; clear HO_16; clear HO_19; clear BK578; clear HB; have HO_11 := n0_; have HO_14 := n1_; have HO_16 := n2_; have HO_19 := n3_; have BK578 := n4_; have HB := n5_; clear n0_ n1_ n2_ n3_ n4_ n5_; (try clear hb); (try clear hb2); (try clear hk); (try clear hi); obtain ⟨Ao128, co128, eo128⟩ := Kd.R_slice HO_19.out; subst eo128) | (go_at_call 24; (with_reducible refine (laws_tdOnce.calls kj36 _ _ t595 t630 _ ?side1 ?side2 A125.out).mono ?_); (case side1 => repeat (first | exact (Kd.R_reads' HO_19.out).2.2 | (with_reducible refine Kd.C_alloc ?_ _) | (with_reducible refine Kd.C_drewN ?_ _) | (with_reducible refine Kd.C_drew ?_))); (case side2 => exact (Kd.R_reads' HO_19.out).2.1); rintro e w129 ⟨rfl, hb⟩; have n0_ := Aside0.mk (Kd.R_below (by (with_reducible repeat (first | apply Kd.R_alloc | apply Kd.R_drewN | apply Kd.R_drew)); exact HO_11.out) hb); have n1_ := Aside0.mk (Kd.R_below (by (with_reducible repeat (first | apply Kd.R_alloc | apply Kd.R_drewN | apply Kd.R_drew)); exact HO_14.out) hb); have n2_ := Aside0.mk (Kd.R_below (by (with_reducible repeat (first | apply Kd.R_alloc | apply Kd.R_drewN | apply Kd.R_drew)); exact HO_16.out) hb); have n3_ := Aside0.mk (Kd.R_below (by (with_reducible repeat (first | apply Kd.R_alloc | apply Kd.R_drewN | apply Kd.R_drew)); exact HO_19.out) hb); have n4_ := Aside0.mk (blk_below (g := gb578) (o := .cells #[.int .i64 a1_0, .int .i64 a1_1, .int .i64 a1_2, .int .i64 a1_3, .int .i64 a1_4, .int .i64 a1_5] 37 (0, 0)) (by (with_reducible repeat (first | refine blk_drewN ?_ _ | refine blk_drew ?_ | refine blk_alloc ?_ _)); exact BK578.out) hb); have n5_ := Aside0.mk (below_step (by repeat (first | (with_reducible first | exact HB.out | apply below_alloc | apply pw_below_drewN | apply below_drew1 | refine below_set ?_ GE578.out) | exact HB.out)) hb); clear HO_11; clear HO_14; clear HO_16; clear HO_19; clear BK578; clear HB; have HO_11 := n0_; have HO_14 := n1_; have HO_16 := n2_; have HO_19 := n3_; have BK578 := n4_; have HB := n5_; clear n0_ n1_ n2_ n3_ n4_ n5_; (try clear hb); (try clear hb2); (try clear hk); (try clear hi)))
              go_ret
              exact ⟨by first | rfl | (simp [errW_none, errW_some] <;> rfl) | (simp [*, errW_none, errW_some] <;> rfl), by repeat (first | (with_reducible first | exact HB.out | apply below_alloc | apply pw_below_drewN | apply below_drew1 | refine below_set ?_ GE578.out) | exact HB.out)⟩
             ·
              replace c124 := Bool.eq_false_iff.mpr c124
              subst c124
              have H1 : (some true) = some r := by rw [if_neg (show ¬ (false = true) by decide)] at H; exact H
              clear H
              have H := H1
              clear H1
              obtain rfl := Option.some.inj H
              obtain ⟨Ao130, co130, eo130⟩ := Kd.R_slice HO_14.out
              subst eo130
              go_wp2_with (first | (go_at_call 24; (with_reducible refine (laws_tdOnce.calls kj36 _ _ t586 true _ ?side1 ?side2 A107.out).mono ?_); (case side1 => repeat (first | exact (Kd.R_reads' HO_14.out).2.2 | (with_reducible refine Kd.C_alloc ?_ _) | (with_reducible refine Kd.C_drewN ?_ _) | (with_reducible refine Kd.C_drew ?_))); (case side2 => exact (Kd.R_reads' HO_14.out).2.1); rintro e w131 ⟨rfl, hb⟩; have n0_ := Aside0.mk (Kd.R_below (by (with_reducible repeat (first | apply Kd.R_alloc | apply Kd.R_drewN | apply Kd.R_drew)); exact HO_11.out) hb); have n1_ := Aside0.mk (Kd.R_below (by (with_reducible repeat (first | apply Kd.R_alloc | apply Kd.R_drewN | apply Kd.R_drew)); exact HO_14.out) hb); have n2_ := Aside0.mk (Kd.R_below (by (with_reducible repeat (first | apply Kd.R_alloc | apply Kd.R_drewN | apply Kd.R_drew)); exact HO_16.out) hb); have n3_ := Aside0.mk (Kd.R_below (by (with_reducible repeat (first | apply Kd.R_alloc | apply Kd.R_drewN | apply Kd.R_drew)); exact HO_19.out) hb); have n4_ := Aside0.mk (blk_below (g := gb578) (o := .cells #[.int .i64 a1_0, .int .i64 a1_1, .int .i64 a1_2, .int .i64 a1_3, .int .i64 a1_4, .int .i64 a1_5] 37 (0, 0)) (by (with_reducible repeat (first | refine blk_drewN ?_ _ | refine blk_drew ?_ | refine blk_alloc ?_ _)); exact BK578.out) hb); have n5_ := Aside0.mk (below_step (by repeat (first | (with_reducible first | exact HB.out | apply below_alloc | apply pw_below_drewN | apply below_drew1 | refine below_set ?_ GE578.out) | exact HB.out)) hb); clear HO_11; clear HO_14; clear HO_16; clear HO_19; clear BK578; clear HB; have HO_11 := n0_; have HO_14 := n1_; have HO_16 := n2_; have HO_19 := n3_; have BK578 := n4_; have HB := n5_; clear n0_ n1_ n2_ n3_ n4_ n5_; (try clear hb); (try clear hb2); (try clear hk); (try clear hi)))
              go_ret
              exact ⟨by first | rfl | (simp [errW_none, errW_some] <;> rfl) | (simp [*, errW_none, errW_some] <;> rfl), by repeat (first | (with_reducible first | exact HB.out | apply below_alloc | apply pw_below_drewN | apply below_drew1 | refine below_set ?_ GE578.out) | exact HB.out)⟩
           ·
            replace c108 := Bool.eq_false_iff.mpr c108
            subst c108
            have H1 : (none) = some r := by rw [if_neg (show ¬ (false = true) by decide)] at H; exact H
            clear H
            have H := H1
            clear H1
            exact absurd H (by simp)
          ·
           replace c106 := Bool.eq_false_iff.mpr c106
           subst c106
           have H1 : (if t592 = true then ((laws_tdOnce.f kj36 t590).bind fun t631 => (if t631 = true then (if t596 = true then ((laws_tdOnce.f kj36 t595).bind fun t632 => (some t632)) else (some true)) else (none))) else (if t596 = true then ((laws_tdOnce.f kj36 t595).bind fun t633 => (some t633)) else (some true))) = some r := by rw [if_neg (show ¬ (false = true) by decide)] at H; exact H
           clear H
           have H := H1
           clear H1
           by_cases c132 : t592 = true
           ·
            subst c132
            have H1 : ((laws_tdOnce.f kj36 t590).bind fun t631 => (if t631 = true then (if t596 = true then ((laws_tdOnce.f kj36 t595).bind fun t632 => (some t632)) else (some true)) else (none))) = some r := by rw [if_pos rfl] at H; exact H
            clear H
            have H := H1
            clear H1
            replace H := Option.bind_eq_some_iff.mp H
            obtain ⟨t631, A1330, H⟩ := H
            replace H : (if t631 = true then (if t596 = true then ((laws_tdOnce.f kj36 t595).bind fun t632 => (some t632)) else (some true)) else (none)) = some r := H
            have A133 := Aside0.mk A1330
            clear A1330
            by_cases c134 : t631 = true
            ·
             subst c134
             have H1 : (if t596 = true then ((laws_tdOnce.f kj36 t595).bind fun t632 => (some t632)) else (some true)) = some r := by rw [if_pos rfl] at H; exact H
             clear H
             have H := H1
             clear H1
             by_cases c135 : t596 = true
             ·
              subst c135
              have H1 : ((laws_tdOnce.f kj36 t595).bind fun t632 => (some t632)) = some r := by rw [if_pos rfl] at H; exact H
              clear H
              have H := H1
              clear H1
              replace H := Option.bind_eq_some_iff.mp H
              obtain ⟨t632, A1360, H⟩ := H
              replace H : (some t632) = some r := H
              have A136 := Aside0.mk A1360
              clear A1360
              obtain rfl := Option.some.inj H
              obtain ⟨Ao137, co137, eo137⟩ := Kd.R_slice HO_16.out
              subst eo137
              go_wp2_with (first | (go_at_call 24; (with_reducible refine (laws_tdOnce.calls kj36 _ _ t590 true _ ?side1 ?side2 A133.out).mono ?_); (case side1 => repeat (first | exact (Kd.R_reads' HO_16.out).2.2 | (with_reducible refine Kd.C_alloc ?_ _) | (with_reducible refine Kd.C_drewN ?_ _) | (with_reducible refine Kd.C_drew ?_))); (case side2 => exact (Kd.R_reads' HO_16.out).2.1); rintro e w138 ⟨rfl, hb⟩; have n0_ := Aside0.mk (Kd.R_below (by (with_reducible repeat (first | apply Kd.R_alloc | apply Kd.R_drewN | apply Kd.R_drew)); exact HO_11.out) hb); have n1_ := Aside0.mk (Kd.R_below (by (with_reducible repeat (first | apply Kd.R_alloc | apply Kd.R_drewN | apply Kd.R_drew)); exact HO_14.out) hb); have n2_ := Aside0.mk (Kd.R_below (by (with_reducible repeat (first | apply Kd.R_alloc | apply Kd.R_drewN | apply Kd.R_drew)); exact HO_16.out) hb); have n3_ := Aside0.mk (Kd.R_below (by (with_reducible repeat (first | apply Kd.R_alloc | apply Kd.R_drewN | apply Kd.R_drew)); exact HO_19.out) hb); have n4_ := Aside0.mk (blk_below (g := gb578) (o := .cells #[.int .i64 a1_0, .int .i64 a1_1, .int .i64 a1_2, .int .i64 a1_3, .int .i64 a1_4, .int .i64 a1_5] 37 (0, 0)) (by (with_reducible repeat (first | refine blk_drewN ?_ _ | refine blk_drew ?_ | refine blk_alloc ?_ _)); exact BK578.out) hb); have n5_ := Aside0.mk (below_step (by repeat (first | (with_reducible first | exact HB.out | apply below_alloc | apply pw_below_drewN | apply below_drew1 | refine below_set ?_ GE578.out) | exact HB.out)) hb); clear HO_11; clear HO_14; clear HO_16; clear HO_19; clear BK578; clear HB; have HO_11 := n0_; have HO_14 := n1_; have HO_16 := n2_; have HO_19 := n3_; have BK578 := n4_; have HB := n5_; clear n0_ n1_ n2_ n3_ n4_ n5_; (try clear hb); (try clear hb2); (try clear hk); (try clear hi); obtain ⟨Ao139, co139, eo139⟩ := Kd.R_slice HO_19.out; subst eo139) | (go_at_call 24; (with_reducible refine (laws_tdOnce.calls kj36 _ _ t595 t632 _ ?side1 ?side2 A136.out).mono ?_); (case side1 => repeat (first | exact (Kd.R_reads' HO_19.out).2.2 | (with_reducible refine Kd.C_alloc ?_ _) | (with_reducible refine Kd.C_drewN ?_ _) | (with_reducible refine Kd.C_drew ?_))); (case side2 => exact (Kd.R_reads' HO_19.out).2.1); rintro e w140 ⟨rfl, hb⟩; have n0_ := Aside0.mk (Kd.R_below (by (with_reducible repeat (first | apply Kd.R_alloc | apply Kd.R_drewN | apply Kd.R_drew)); exact HO_11.out) hb); have n1_ := Aside0.mk (Kd.R_below (by (with_reducible repeat (first | apply Kd.R_alloc | apply Kd.R_drewN | apply Kd.R_drew)); exact HO_14.out) hb); have n2_ := Aside0.mk (Kd.R_below (by (with_reducible repeat (first | apply Kd.R_alloc | apply Kd.R_drewN | apply Kd.R_drew)); exact HO_16.out) hb); have n3_ := Aside0.mk (Kd.R_below (by (with_reducible repeat (first | apply Kd.R_alloc | apply Kd.R_drewN | apply Kd.R_drew)); exact HO_19.out) hb); have n4_ := Aside0.mk (blk_below (g := gb578) (o := .cells #[.int .i64 a1_0, .int .i64 a1_1, .int .i64 a1_2, .int .i64 a1_3, .int .i64 a1_4, .int .i64 a1_5] 37 (0, 0)) (by (with_reducible repeat (first | refine blk_drewN ?_ _ | refine blk_drew ?_ | refine blk_alloc ?_ _)); exact BK578.out) hb); have n5_ := Aside0.mk (below_step (by repeat (first | (with_reducible first | exact HB.out | apply below_alloc | apply pw_below_drewN | apply below_drew1 | refine below_set ?_ GE578.out) | exact HB.out)) hb); clear HO_11; clear HO_14; clear HO_16; clear HO_19; clear BK578; clear HB; have HO_11 := n0_; have HO_14 := n1_; have HO_16 := n2_; have HO_19 := n3_; have BK578 := n4_; have HB := n5_; clear n0_ n1_ n2_ n3_ n4_ n5_; (try clear hb); (try clear hb2); (try clear hk); (try clear hi)))
              go_ret
              exact ⟨by first | rfl | (simp [errW_none, errW_some] <;> rfl) | (simp [*, errW_none, errW_some] <;> rfl), by repeat (first | (with_reducible first | exact HB.out | apply below_alloc | apply pw_below_drewN | apply below_drew1 | refine below_set ?_ GE578.out) | exact HB.out)⟩
             ·
              replace c135 := Bool.eq_false_iff.mpr c135
              subst c135
              have H1 : (some true) = some r := by rw [if_neg (show ¬ (false = true) by decide)] at H; exact H
              clear H
              have H := H1
              clear H1
              obtain rfl := Option.some.inj H
              obtain ⟨Ao141, co141, eo141⟩ := Kd.R_slice HO_16.out
              subst eo141
              go_wp2_with (first | (go_at_call 24; (with_reducible refine (laws_tdOnce.calls kj36 _ _ t590 true _ ?side1 ?side2 A133.out).mono ?_); (case side1 => repeat (first | exact (Kd.R_reads' HO_16.out).2.2 | (with_reducible refine Kd.C_alloc ?_ _) | (with_reducible refine Kd.C_drewN ?_ _) | (with_reducible refine Kd.C_drew ?_))); (case side2 => exact (Kd.R_reads' HO_16.out).2.1); rintro e w142 ⟨rfl, hb⟩; have n0_ := Aside0.mk (Kd.R_below (by (with_reducible repeat (first | apply Kd.R_alloc | apply Kd.R_drewN | apply Kd.R_drew)); exact HO_11.out) hb); have n1_ := Aside0.mk (Kd.R_below (by (with_reducible repeat (first | apply Kd.R_alloc | apply Kd.R_drewN | apply Kd.R_drew)); exact HO_14.out) hb); have n2_ := Aside0.mk (Kd.R_below (by (with_reducible repeat (first | apply Kd.R_alloc | apply Kd.R_drewN | apply Kd.R_drew)); exact HO_16.out) hb); have n3_ := Aside0.mk (Kd.R_below (by (with_reducible repeat (first | apply Kd.R_alloc | apply Kd.R_drewN | apply Kd.R_drew)); exact HO_19.out) hb); have n4_ := Aside0.mk (blk_below (g := gb578) (o := .cells #[.int .i64 a1_0, .int .i64 a1_1, .int .i64 a1_2, .int .i64 a1_3, .int .i64 a1_4, .int .i64 a1_5] 37 (0, 0)) (by (with_reducible repeat (first | refine blk_drewN ?_ _ | refine blk_drew ?_ | refine blk_alloc ?_ _)); exact BK578.out) hb); have n5_ := Aside0.mk (below_step (by repeat (first | (with_reducible first | exact HB.out | apply below_alloc | apply pw_below_drewN | apply below_drew1 | refine below_set ?_ GE578.out) | exact HB.out)) hb); clear HO_11; clear HO_14; clear HO_16; clear HO_19; clear BK578; clear HB; have HO_11 := n0_; have HO_14 := n1_; have HO_16 := n2_; have HO_19 := n3_; have BK578 := n4_; have HB := n5_; clear n0_ n1_ n2_ n3_ n4_ n5_; (try clear hb); (try clear hb2); (try clear hk); (try clear hi)))
              go_ret
              exact ⟨by first | rfl | (simp [errW_none, errW_some] <;> rfl) | (simp [*, errW_none, errW_some] <;> rfl), by repeat (first | (with_reducible first | exact HB.out | apply below_alloc | apply pw_below_drewN | apply below_drew1 | refine below_set ?_ GE578.out) | exact HB.out)⟩
            ·
             replace c134 := Bool.eq_false_iff.mpr c134
             subst c134
             have H1 : (none) = some r := by rw [if_neg (show ¬ (false = true) by decide)] at H; exact H
             clear H
             have H := H1
             clear H1
             exact absurd H (by simp)
           ·
            replace c132 := Bool.eq_false_iff.mpr c132
            subst c132
            have H1 : (if t596 = true then ((laws_tdOnce.f kj36 t595).bind fun t633 => (some t633)) else (some true)) = some r := by rw [if_neg (show ¬ (false = true) by decide)] at H; exact H
            clear H
            have H := H1
            clear H1
            by_cases c143 : t596 = true
            ·
             subst c143
             have H1 : ((laws_tdOnce.f kj36 t595).bind fun t633 => (some t633)) = some r := by rw [if_pos rfl] at H; exact H
             clear H
             have H := H1
             clear H1
             replace H := Option.bind_eq_some_iff.mp H
             obtain ⟨t633, A1440, H⟩ := H
             replace H : (some t633) = some r := H
             have A144 := Aside0.mk A1440
             clear A1440
             obtain rfl := Option.some.inj H
             obtain ⟨Ao145, co145, eo145⟩ := Kd.R_slice HO_19.out
             subst eo145
             go_wp2_with (first | (go_at_call 24; (with_reducible refine (laws_tdOnce.calls kj36 _ _ t595 t633 _ ?side1 ?side2 A144.out).mono ?_); (case side1 => repeat (first | exact (Kd.R_reads' HO_19.out).2.2 | (with_reducible refine Kd.C_alloc ?_ _) | (with_reducible refine Kd.C_drewN ?_ _) | (with_reducible refine Kd.C_drew ?_))); (case side2 => exact (Kd.R_reads' HO_19.out).2.1); rintro e w146 ⟨rfl, hb⟩; have n0_ := Aside0.mk (Kd.R_below (by (with_reducible repeat (first | apply Kd.R_alloc | apply Kd.R_drewN | apply Kd.R_drew)); exact HO_11.out) hb); have n1_ := Aside0.mk (Kd.R_below (by (with_reducible repeat (first | apply Kd.R_alloc | apply Kd.R_drewN | apply Kd.R_drew)); exact HO_14.out) hb); have n2_ := Aside0.mk (Kd.R_below (by (with_reducible repeat (first | apply Kd.R_alloc | apply Kd.R_drewN | apply Kd.R_drew)); exact HO_16.out) hb); have n3_ := Aside0.mk (Kd.R_below (by (with_reducible repeat (first | apply Kd.R_alloc | apply Kd.R_drewN | apply Kd.R_drew)); exact HO_19.out) hb); have n4_ := Aside0.mk (blk_below (g := gb578) (o := .cells #[.int .i64 a1_0, .int .i64 a1_1, .int .i64 a1_2, .int .i64 a1_3, .int .i64 a1_4, .int .i64 a1_5] 37 (0, 0)) (by (with_reducible repeat (first | refine blk_drewN ?_ _ | refine blk_drew ?_ | refine blk_alloc ?_ _)); exact BK578.out) hb); have n5_ := Aside0.mk (below_step (by repeat (first | (with_reducible first | exact HB.out | apply below_alloc | apply pw_below_drewN | apply below_drew1 | refine below_set ?_ GE578.out) | exact HB.out)) hb); clear HO_11; clear HO_14; clear HO_16; clear HO_19; clear BK578; clear HB; have HO_11 := n0_; have HO_14 := n1_; have HO_16 := n2_; have HO_19 := n3_; have BK578 := n4_; have HB := n5_; clear n0_ n1_ n2_ n3_ n4_ n5_; (try clear hb); (try clear hb2); (try clear hk); (try clear hi)))
             go_ret
             exact ⟨by first | rfl | (simp [errW_none, errW_some] <;> rfl) | (simp [*, errW_none, errW_some] <;> rfl), by repeat (first | (with_reducible first | exact HB.out | apply below_alloc | apply pw_below_drewN | apply below_drew1 | refine below_set ?_ GE578.out) | exact HB.out)⟩
            ·
             replace c143 := Bool.eq_false_iff.mpr c143
             subst c143
             have H1 : (some true) = some r := by rw [if_neg (show ¬ (false = true) by decide)] at H; exact H
             clear H
             have H := H1
             clear H1
             obtain rfl := Option.some.inj H
             go_wp2
             go_ret
             exact ⟨by first | rfl | (simp [errW_none, errW_some] <;> rfl) | (simp [*, errW_none, errW_some] <;> rfl), by repeat (first | (with_reducible first | exact HB.out | apply below_alloc | apply pw_below_drewN | apply below_drew1 | refine below_set ?_ GE578.out) | exact HB.out)⟩

end Go.Proofs.Ytfemneoahkglmaa.Q
