/- Texts of this seat, put together: Qf35, Qf32, Qf34, Qf36. -/
import Derived.Test.YtklepiechbnenaaZFnIssuing
import Derived.Test.YtklepiechbnenaaBFnIssuing0
import Derived.Test.YtklepiechbnenaaBFnIssuing1
import Derived.Test.YtklepiechbnenaaBFnIssuing3
import Derived.Test.YtklepiechbnenaaBFnIssuing4
import Derived.Test.YtklepiechbnenaaBFnIssuing5
import Derived.Test.YtklepiechbnenaaBFnIssuing6
namespace Go.Proofs.Ytklepiechbnenaa.Q
open Go.RowKit Go.Proofs.YtklepiechbnenaaW.PrintWords Go.Proofs.YtklepiechbnenaaW.PrintLast Go.Proofs.YtklepiechbnenaaW.PrintMore
attribute [local go_sem] max2_int min2_int max_two min_two max_three min_three max_four min_four   -- for this text's walks alone
set_option linter.unusedVariables false
set_option linter.unusedSimpArgs false

/-! ### spec_DrawMeetingWarnings: function 35 -/
def spec_DrawMeetingWarnings.f (k : Nat) (l0 : List Int) : Option ((List (S31)) × Int × Int × Int × Int × Int × Int) := (spec_l1Cur_warnings.f k l0 0 0).bind fun bt724 => ((spec_l1Cur_warning.f k l0 bt724.2.1 bt724.2.2).bind fun bt729 => (some (bt724.1, bt729.1, bt729.2.1, bt729.2.2.1, bt729.2.2.2.1, bt729.2.2.2.2.1, bt729.2.2.2.2.2.1)))
theorem spec_DrawMeetingWarnings.mono : ∀ a0 k, LeO (spec_DrawMeetingWarnings.f k a0) (spec_DrawMeetingWarnings.f (k + 1) a0) := by
 intro a0 k
 unfold spec_DrawMeetingWarnings.f
 repeat' first
   | (with_reducible exact spec_l1Cur_warning.mono _ _ _ _)
   | (with_reducible exact spec_l1Cur_warnings.mono _ _ _ _)
   | (with_reducible exact LeO.refl _)
   | (with_reducible exact LeO.none _)
   | (with_reducible refine LeO.ite ?_ ?_)
   | (with_reducible refine LeO.bind ?_ (fun _ => ?_))
   | exact spec_l1Cur_warning.mono _ _ _ _
   | exact spec_l1Cur_warnings.mono _ _ _ _
   | exact LeO.none _
   | refine LeO.ite ?_ ?_
   | refine LeO.bind ?_ (fun _ => ?_)
set_option maxHeartbeats 8000000 in
set_option maxRecDepth 100000 in
theorem spec_DrawMeetingWarnings.calls (k : Nat) (A0 : Option Addr) (c0 : Nat) (l0 : List Int) (r1 : List (S31)) (r2 : Int) (r3 : Int) (r4 : Int) (r5 : Int) (r6 : Int) (r7 : Int) (w : World) (hr0 : Kd.C (Kd.int .u8) w A0 l0.length l0) (hc0 : l0.length ≤ c0) (h : spec_DrawMeetingWarnings.f k l0 = some (r1, r2, r3, r4, r5, r6, r7)) :
  Calls Try.prog 35 #[.slice A0 l0.length c0] w fun e w' => ∃ v0_ : Value, e = .returned (.tuple #[v0_, .agg #[.int .i64 r2, .int .i64 r3, .int .i64 r4, .int .i64 r5, .int .i64 r6, .int .i64 r7]]) ∧ Kd.R k31 31 w' w.heap.size (fun _ => True) v0_ r1 ∧ Below w.heap.size w w' := by
 have hu31 := Try.underlying31
 have hu72 := Try.underlying72
 have HR0 := Aside0.mk hr0
 have HC0 := Aside0.mk hc0
 clear hr0 hc0
 have HB := Aside0.mk (Below.refl w.heap.size w)
 have H : ((spec_l1Cur_warnings.f k l0 0 0).bind fun bt724 => ((spec_l1Cur_warning.f k l0 bt724.2.1 bt724.2.2).bind fun bt729 => (some (bt724.1, bt729.1, bt729.2.1, bt729.2.2.1, bt729.2.2.2.1, bt729.2.2.2.2.1, bt729.2.2.2.2.2.1)))) = some (r1, r2, r3, r4, r5, r6, r7) := h
 clear h
 replace H := Option.bind_eq_some_iff.mp H
 obtain ⟨⟨t724, t727, t728⟩, A20, H⟩ := H
 replace H : ((spec_l1Cur_warning.f k l0 t727 t728).bind fun bt729 => (some (t724, bt729.1, bt729.2.1, bt729.2.2.1, bt729.2.2.2.1, bt729.2.2.2.2.1, bt729.2.2.2.2.2.1))) = some (r1, r2, r3, r4, r5, r6, r7) := H
 have A2 := Aside0.mk A20
 clear A20
 replace H := Option.bind_eq_some_iff.mp H
 obtain ⟨⟨t729, t730, t731, t732, t733, t734, t735, t736⟩, A30, H⟩ := H
 replace H : (some (t724, t729, t730, t731, t732, t733, t734)) = some (r1, r2, r3, r4, r5, r6, r7) := H
 have A3 := Aside0.mk A30
 clear A30
 simp only [Option.some.injEq, Prod.mk.injEq] at H
 obtain ⟨rfl, rfl, rfl, rfl, rfl, rfl, rfl⟩ := H
 go_enter Try.func35, Try.ntmps35
 go_wp2_with (first | ((with_reducible refine gate_dst (N := 3) rfl ?_); refine box_event ?hg (N := 3) ?hd (cs := #[.int .i64 0, .int .i64 0, .int .i64 0, .int .i64 0, .int .i64 0, .int .i64 0]) (t := 31) ?hr ?_; (case hd => rfl); (case hg => rfl); (case hr => first | (go_simp; done) | (go_simp; rfl)); intro gb722 hg w4 hbox hb; have n0_ := Aside0.mk (below_step zq0 hb); have n1_ := Aside0.mk (hbox); have n2_ := Aside0.mk ((by rw [hg]; exact (below_size zq0) : w.heap.size ≤ gb722)); have n3_ := Aside0.mk ((by rw [hg]; exact (below_size zq0) : w.heap.size ≤ gb722)); clear HB; have HB := n0_; have BK722 := n1_; have GW722 := n2_; have GE722 := n3_; clear n0_ n1_ n2_ n3_; clear hb hbox hg) | ((with_reducible refine gate_dst (N := 7) rfl ?_); refine box_event ?hg (N := 7) ?hd (cs := #[.slice A0 l0.length c0, .int .i64 0, .int .u64 0]) (t := 72) ?hr ?_; (case hd => rfl); (case hg => rfl); (case hr => first | (go_simp; done) | (go_simp; rfl)); intro gb723 hg w5 hbox hb; have n0_ := Aside0.mk (blk_below (g := gb722) (o := .cells #[.int .i64 0, .int .i64 0, .int .i64 0, .int .i64 0, .int .i64 0, .int .i64 0] 31 (0, 0)) (zqK BK722.out) hb); have n1_ := Aside0.mk (below_step zq35 hb); have n2_ := Aside0.mk ((show IsS72 w w5 gb723 l0 0 0 from ⟨_, _, hbox, (by rw [hg]; exact (below_size zq35) : w.heap.size ≤ gb723), HR0.out⟩)); have n3_ := Aside0.mk ((by rw [hg]; exact (below_size zq35) : w.heap.size ≤ gb723)); have n4_ := Aside0.mk ((by rw [hg]; exact (below_size zq35) : w.heap.size ≤ gb723)); have n5_ := Aside0.mk ((by rw [hg]; exact Nat.ne_of_lt (blk_lt (g := gb722) (o := .cells #[.int .i64 0, .int .i64 0, .int .i64 0, .int .i64 0, .int .i64 0, .int .i64 0] 31 (0, 0)) (zqK BK722.out)) : gb722 ≠ gb723)); have n6_ := Aside0.mk ((by rw [hg]; exact Nat.ne_of_gt (blk_lt (g := gb722) (o := .cells #[.int .i64 0, .int .i64 0, .int .i64 0, .int .i64 0, .int .i64 0, .int .i64 0] 31 (0, 0)) (zqK BK722.out)) : gb723 ≠ gb722)); clear BK722; clear HB; have BK722 := n0_; have HB := n1_; have HI723 := n2_; have GW723 := n3_; have GE723 := n4_; have NB722_723 := n5_; have NB723_722 := n6_; clear n0_ n1_ n2_ n3_ n4_ n5_ n6_; clear hb hbox hg) | ((with_reducible refine gate_callee (f := 54) rfl ?_); refine goesL_ (some 9) rfl rfl Try.func54 (by kernel_rfl) rfl #[.pointer (some ⟨gb723, 0, none⟩)] rfl zq1 ?_; (with_reducible refine (spec_l1Cur_warnings.calls k gb723 l0 0 0 t724 t727 t728 w _ ?side1 ?side2 A2.out).mono ?_); (case side1 => repeat (first | (with_reducible first | exact HI723.out | apply IsS72.alloc | apply IsS72.drewN | apply IsS72.drew | apply IsS72.set_1 | apply IsS72.set_2 | refine IsS72.far ?_ NB723_722.out _) | exact HI723.out)); (case side2 => repeat (first | (with_reducible first | exact HB.out | apply below_alloc | apply pw_below_drewN | apply below_drew1 | refine below_set ?_ (IsS72.ge HI723.out) | refine below_set ?_ GE722.out) | exact HB.out)); rintro e w6 ⟨v725, rfl, ho0, hi, hb, hk⟩; refine ⟨_, rfl, ?_⟩; have n0_ := Aside0.mk (KeepBut.blk hk (g' := gb722) (o := .cells #[.int .i64 0, .int .i64 0, .int .i64 0, .int .i64 0, .int .i64 0, .int .i64 0] 31 (0, 0)) (zqK BK722.out) NB722_723.out (by simp)); have n1_ := Aside0.mk (Kd.R_lower (Kd.R_newB ho0 (g := gb722) (o := .cells #[.int .i64 0, .int .i64 0, .int .i64 0, .int .i64 0, .int .i64 0, .int .i64 0] 31 (0, 0)) (zqK BK722.out)) (below_size (by repeat (first | (with_reducible first | exact HB.out | apply below_alloc | apply pw_below_drewN | apply below_drew1 | refine below_set ?_ (IsS72.ge HI723.out) | refine below_set ?_ GE722.out) | exact HB.out)))); have n2_ := Aside0.mk (hb); have n3_ := Aside0.mk (hi); clear BK722; clear HB; clear HI723; have BK722 := n0_; have HO726 := n1_; have HB := n2_; have HI723 := n3_; clear n0_ n1_ n2_ n3_; (try clear hb); (try clear hb2); (try clear hk); (try clear hi); (try clear ho0)) | ((with_reducible refine gate_callee (f := 90) rfl ?_); refine goesL_ (some 11) rfl rfl Try.func90 (by kernel_rfl) rfl #[.pointer (some ⟨gb723, 0, none⟩)] rfl zq1 ?_; (with_reducible refine (spec_l1Cur_warning.calls k gb723 l0 t727 t728 t729 t730 t731 t732 t733 t734 t735 t736 w _ ?side1 ?side2 A3.out).mono ?_); (case side1 => repeat (first | (with_reducible first | exact HI723.out | apply IsS72.alloc | apply IsS72.drewN | apply IsS72.drew | apply IsS72.set_1 | apply IsS72.set_2 | refine IsS72.far ?_ NB723_722.out _) | exact HI723.out)); (case side2 => repeat (first | (with_reducible first | exact HB.out | apply below_alloc | apply pw_below_drewN | apply below_drew1 | refine below_set ?_ (IsS72.ge HI723.out) | refine below_set ?_ GE722.out) | exact HB.out)); rintro e w7 ⟨rfl, hi, hb, hk⟩; refine ⟨_, rfl, ?_⟩; have n0_ := Aside0.mk (KeepBut.blk hk (g' := gb722) (o := .cells #[.int .i64 0, .int .i64 0, .int .i64 0, .int .i64 0, .int .i64 0, .int .i64 0] 31 (0, 0)) (zqK BK722.out) NB722_723.out (by simp)); have n1_ := Aside0.mk (Kd.R_mono (Kd.R_keep (IsS72.apart (show IsS72 w _ gb723 l0 t727 t728 from by repeat (first | (with_reducible first | exact HI723.out | apply IsS72.alloc | apply IsS72.drewN | apply IsS72.drew | apply IsS72.set_1 | apply IsS72.set_2 | refine IsS72.far ?_ NB723_722.out _) | exact HI723.out)) (zqR HO726.out) (by decide)) hk (fun _ h => h.2)) (fun _ h => h.1)); have n2_ := Aside0.mk (hb); have n3_ := Aside0.mk (hi); clear BK722; clear HO726; clear HB; clear HI723; have BK722 := n0_; have HO726 := n1_; have HB := n2_; have HI723 := n3_; clear n0_ n1_ n2_ n3_; (try clear hb); (try clear hb2); (try clear hk); (try clear hi); have hnb8 := NB722_723.out; have hnc8 := NB723_722.out; have hcz9_0 : w7.cell? ⟨gb722, 0, none⟩ = some (.int .i64 0) := (blk_cell BK722.out 0).trans rfl; have hcz9_1 : w7.cell? ⟨gb722, 1, none⟩ = some (.int .i64 0) := (blk_cell BK722.out 1).trans rfl; have hcz9_2 : w7.cell? ⟨gb722, 2, none⟩ = some (.int .i64 0) := (blk_cell BK722.out 2).trans rfl; have hcz9_3 : w7.cell? ⟨gb722, 3, none⟩ = some (.int .i64 0) := (blk_cell BK722.out 3).trans rfl; have hcz9_4 : w7.cell? ⟨gb722, 4, none⟩ = some (.int .i64 0) := (blk_cell BK722.out 4).trans rfl; have hcz9_5 : w7.cell? ⟨gb722, 5, none⟩ = some (.int .i64 0) := (blk_cell BK722.out 5).trans rfl; have hfz9_0 := blk_frozen BK722.out 0; have hfz9_1 := blk_frozen BK722.out 1; have hfz9_2 := blk_frozen BK722.out 2; have hfz9_3 := blk_frozen BK722.out 3; have hfz9_4 := blk_frozen BK722.out 4; have hfz9_5 := blk_frozen BK722.out 5))
 refine bodyPost_ret (results_tc rfl _ _ gb722 31 #[.int .i64 t729, .int .i64 t730, .int .i64 t731, .int .i64 t732, .int .i64 t733, .int .i64 t734] (0, 0) _ rfl (by (with_reducible repeat (first | refine blk_drewN ?_ _ | refine blk_drew ?_ | refine blk_alloc ?_ _)); refine blk_put (cs := #[.int .i64 t729, .int .i64 t730, .int .i64 t731, .int .i64 t732, .int .i64 t733, .int .i64 0]) ?_ 5 _ rfl; (with_reducible repeat (first | refine blk_drewN ?_ _ | refine blk_drew ?_ | refine blk_alloc ?_ _)); refine blk_put (cs := #[.int .i64 t729, .int .i64 t730, .int .i64 t731, .int .i64 t732, .int .i64 0, .int .i64 0]) ?_ 4 _ rfl; (with_reducible repeat (first | refine blk_drewN ?_ _ | refine blk_drew ?_ | refine blk_alloc ?_ _)); refine blk_put (cs := #[.int .i64 t729, .int .i64 t730, .int .i64 t731, .int .i64 0, .int .i64 0, .int .i64 0]) ?_ 3 _ rfl; (with_reducible repeat (first | refine blk_drewN ?_ _ | refine blk_drew ?_ | refine blk_alloc ?_ _)); refine blk_put (cs := #[.int .i64 t729, .int .i64 t730, .int .i64 0, .int .i64 0, .int .i64 0, .int .i64 0]) ?_ 2 _ rfl; (with_reducible repeat (first | refine blk_drewN ?_ _ | refine blk_drew ?_ | refine blk_alloc ?_ _)); refine blk_put (cs := #[.int .i64 t729, .int .i64 0, .int .i64 0, .int .i64 0, .int .i64 0, .int .i64 0]) ?_ 1 _ rfl; (with_reducible repeat (first | refine blk_drewN ?_ _ | refine blk_drew ?_ | refine blk_alloc ?_ _)); refine blk_put (cs := #[.int .i64 0, .int .i64 0, .int .i64 0, .int .i64 0, .int .i64 0, .int .i64 0]) ?_ 0 _ rfl; (with_reducible repeat (first | refine blk_drewN ?_ _ | refine blk_drew ?_ | refine blk_alloc ?_ _)); exact BK722.out) Try.underlying31 rfl (by kernel_rfl)) rfl ?_
 exact ⟨_, by first | rfl | (simp [errW_none, errW_some] <;> rfl) | (simp [*, errW_none, errW_some] <;> rfl), by (with_reducible repeat (first | apply Kd.R_alloc | apply Kd.R_drewN | apply Kd.R_drew)); exact Kd.R_mono (Kd.R_far (p := ⟨gb722, 5, none⟩) (Kd.R_far (p := ⟨gb722, 4, none⟩) (Kd.R_far (p := ⟨gb722, 3, none⟩) (Kd.R_far (p := ⟨gb722, 2, none⟩) (Kd.R_far (p := ⟨gb722, 1, none⟩) (Kd.R_far (p := ⟨gb722, 0, none⟩) (Kd.R_mono HO726.out (fun k_ hk => (⟨hk, hk.2⟩ : _ ∧ k_ ≠ gb722))) (fun _ hk => hk.2) (.int .i64 t729)) (fun _ hk => hk.2) (.int .i64 t730)) (fun _ hk => hk.2) (.int .i64 t731)) (fun _ hk => hk.2) (.int .i64 t732)) (fun _ hk => hk.2) (.int .i64 t733)) (fun _ hk => hk.2) (.int .i64 t734)) (fun _ hk => trivial), by repeat (first | (with_reducible first | exact HB.out | apply below_alloc | apply pw_below_drewN | apply below_drew1 | refine below_set ?_ (IsS72.ge HI723.out) | refine below_set ?_ GE722.out) | exact HB.out)⟩

/-! ### spec_DrawIssueWarning: function 29 -/
def spec_DrawIssueWarning.f (k : Nat) (l0 : List Int) : Option ((List (S31)) × Int × Int × Int × Int × Int × Int) := (spec_DrawMeetingWarnings.f k l0).bind fun bt738 => (some (bt738.1, bt738.2.1, bt738.2.2.1, bt738.2.2.2.1, bt738.2.2.2.2.1, bt738.2.2.2.2.2.1, bt738.2.2.2.2.2.2))
theorem spec_DrawIssueWarning.mono : ∀ a0 k, LeO (spec_DrawIssueWarning.f k a0) (spec_DrawIssueWarning.f (k + 1) a0) := by
 intro a0 k
 unfold spec_DrawIssueWarning.f
 repeat' first
   | (with_reducible exact spec_DrawMeetingWarnings.mono _ _)
   | (with_reducible exact LeO.refl _)
   | (with_reducible exact LeO.none _)
   | (with_reducible refine LeO.ite ?_ ?_)
   | (with_reducible refine LeO.bind ?_ (fun _ => ?_))
   | exact spec_DrawMeetingWarnings.mono _ _
   | exact LeO.none _
   | refine LeO.ite ?_ ?_
   | refine LeO.bind ?_ (fun _ => ?_)
set_option maxHeartbeats 8000000 in
set_option maxRecDepth 100000 in
theorem spec_DrawIssueWarning.calls (k : Nat) (A0 : Option Addr) (c0 : Nat) (l0 : List Int) (r1 : List (S31)) (r2 : Int) (r3 : Int) (r4 : Int) (r5 : Int) (r6 : Int) (r7 : Int) (w : World) (hr0 : Kd.C (Kd.int .u8) w A0 l0.length l0) (hc0 : l0.length ≤ c0) (h : spec_DrawIssueWarning.f k l0 = some (r1, r2, r3, r4, r5, r6, r7)) :
  Calls Try.prog 29 #[.slice A0 l0.length c0] w fun e w' => ∃ v0_ : Value, e = .returned (.tuple #[v0_, .agg #[.int .i64 r2, .int .i64 r3, .int .i64 r4, .int .i64 r5, .int .i64 r6, .int .i64 r7]]) ∧ Kd.R k31 31 w' w.heap.size (fun _ => True) v0_ r1 ∧ Below w.heap.size w w' := by
 have hu31 := Try.underlying31
 have HR0 := Aside0.mk hr0
 have HC0 := Aside0.mk hc0
 clear hr0 hc0
 have HB := Aside0.mk (Below.refl w.heap.size w)
 have H : ((spec_DrawMeetingWarnings.f k l0).bind fun bt738 => (some (bt738.1, bt738.2.1, bt738.2.2.1, bt738.2.2.2.1, bt738.2.2.2.2.1, bt738.2.2.2.2.2.1, bt738.2.2.2.2.2.2))) = some (r1, r2, r3, r4, r5, r6, r7) := h
 clear h
 replace H := Option.bind_eq_some_iff.mp H
 obtain ⟨⟨t738, t741, t742, t743, t744, t745, t746⟩, A20, H⟩ := H
 replace H : (some (t738, t741, t742, t743, t744, t745, t746)) = some (r1, r2, r3, r4, r5, r6, r7) := H
 have A2 := Aside0.mk A20
 clear A20
 simp only [Option.some.injEq, Prod.mk.injEq] at H
 obtain ⟨rfl, rfl, rfl, rfl, rfl, rfl, rfl⟩ := H
 go_enter Try.func29, Try.ntmps29
 go_wp2_with (first | ((with_reducible refine gate_dst (N := 3) rfl ?_); refine box_event ?hg (N := 3) ?hd (cs := #[.int .i64 0, .int .i64 0, .int .i64 0, .int .i64 0, .int .i64 0, .int .i64 0]) (t := 31) ?hr ?_; (case hd => rfl); (case hg => rfl); (case hr => first | (go_simp; done) | (go_simp; rfl)); intro gb737 hg w3 hbox hb; have n0_ := Aside0.mk (below_step zq0 hb); have n1_ := Aside0.mk (hbox); have n2_ := Aside0.mk ((by rw [hg]; exact (below_size zq0) : w.heap.size ≤ gb737)); have n3_ := Aside0.mk ((by rw [hg]; exact (below_size zq0) : w.heap.size ≤ gb737)); clear HB; have HB := n0_; have BK737 := n1_; have GW737 := n2_; have GE737 := n3_; clear n0_ n1_ n2_ n3_; clear hb hbox hg) | ((with_reducible refine gate_callee (f := 35) rfl ?_); refine goesL_ (some 5) rfl rfl Try.func35 (by kernel_rfl) rfl #[.slice A0 l0.length c0] rfl zq1 ?_; (with_reducible refine (spec_DrawMeetingWarnings.calls k _ _ l0 t738 t741 t742 t743 t744 t745 t746 _ ?side1 ?side2 A2.out).mono ?_); (case side1 => repeat (first | exact (Kd.C_below HR0.out HB.out) | (with_reducible refine Kd.C_alloc ?_ _) | (with_reducible refine Kd.C_drewN ?_ _) | (with_reducible refine Kd.C_drew ?_))); (case side2 => exact HC0.out); rintro e w4 ⟨v739, rfl, ho0, hb⟩; refine ⟨_, rfl, ?_⟩; have n0_ := Aside0.mk (Kd.R_lower (Kd.R_newB ho0 (g := gb737) (o := .cells #[.int .i64 0, .int .i64 0, .int .i64 0, .int .i64 0, .int .i64 0, .int .i64 0] 31 (0, 0)) (zqK BK737.out)) (below_size (by repeat (first | (with_reducible first | exact HB.out | apply below_alloc | apply pw_below_drewN | apply below_drew1 | refine below_set ?_ GE737.out) | exact HB.out)))); have n1_ := Aside0.mk (blk_below (g := gb737) (o := .cells #[.int .i64 0, .int .i64 0, .int .i64 0, .int .i64 0, .int .i64 0, .int .i64 0] 31 (0, 0)) (zqK BK737.out) hb); have n2_ := Aside0.mk (below_step (by repeat (first | (with_reducible first | exact HB.out | apply below_alloc | apply pw_below_drewN | apply below_drew1 | refine below_set ?_ GE737.out) | exact HB.out)) hb); clear BK737; clear HB; have HO740 := n0_; have BK737 := n1_; have HB := n2_; clear n0_ n1_ n2_; (try clear hb); (try clear hb2); (try clear hk); (try clear hi); (try clear ho0); have hcz5_0 : w4.cell? ⟨gb737, 0, none⟩ = some (.int .i64 0) := (blk_cell BK737.out 0).trans rfl; have hcz5_1 : w4.cell? ⟨gb737, 1, none⟩ = some (.int .i64 0) := (blk_cell BK737.out 1).trans rfl; have hcz5_2 : w4.cell? ⟨gb737, 2, none⟩ = some (.int .i64 0) := (blk_cell BK737.out 2).trans rfl; have hcz5_3 : w4.cell? ⟨gb737, 3, none⟩ = some (.int .i64 0) := (blk_cell BK737.out 3).trans rfl; have hcz5_4 : w4.cell? ⟨gb737, 4, none⟩ = some (.int .i64 0) := (blk_cell BK737.out 4).trans rfl; have hcz5_5 : w4.cell? ⟨gb737, 5, none⟩ = some (.int .i64 0) := (blk_cell BK737.out 5).trans rfl; have hfz5_0 := blk_frozen BK737.out 0; have hfz5_1 := blk_frozen BK737.out 1; have hfz5_2 := blk_frozen BK737.out 2; have hfz5_3 := blk_frozen BK737.out 3; have hfz5_4 := blk_frozen BK737.out 4; have hfz5_5 := blk_frozen BK737.out 5))
 refine bodyPost_ret (results_tc rfl _ _ gb737 31 #[.int .i64 t741, .int .i64 t742, .int .i64 t743, .int .i64 t744, .int .i64 t745, .int .i64 t746] (0, 0) _ rfl (by (with_reducible repeat (first | refine blk_drewN ?_ _ | refine blk_drew ?_ | refine blk_alloc ?_ _)); refine blk_put (cs := #[.int .i64 t741, .int .i64 t742, .int .i64 t743, .int .i64 t744, .int .i64 t745, .int .i64 0]) ?_ 5 _ rfl; (with_reducible repeat (first | refine blk_drewN ?_ _ | refine blk_drew ?_ | refine blk_alloc ?_ _)); refine blk_put (cs := #[.int .i64 t741, .int .i64 t742, .int .i64 t743, .int .i64 t744, .int .i64 0, .int .i64 0]) ?_ 4 _ rfl; (with_reducible repeat (first | refine blk_drewN ?_ _ | refine blk_drew ?_ | refine blk_alloc ?_ _)); refine blk_put (cs := #[.int .i64 t741, .int .i64 t742, .int .i64 t743, .int .i64 0, .int .i64 0, .int .i64 0]) ?_ 3 _ rfl; (with_reducible repeat (first | refine blk_drewN ?_ _ | refine blk_drew ?_ | refine blk_alloc ?_ _)); refine blk_put (cs := #[.int .i64 t741, .int .i64 t742, .int .i64 0, .int .i64 0, .int .i64 0, .int .i64 0]) ?_ 2 _ rfl; (with_reducible repeat (first | refine blk_drewN ?_ _ | refine blk_drew ?_ | refine blk_alloc ?_ _)); refine blk_put (cs := #[.int .i64 t741, .int .i64 0, .int .i64 0, .int .i64 0, .int .i64 0, .int .i64 0]) ?_ 1 _ rfl; (with_reducible repeat (first | refine blk_drewN ?_ _ | refine blk_drew ?_ | refine blk_alloc ?_ _)); refine blk_put (cs := #[.int .i64 0, .int .i64 0, .int .i64 0, .int .i64 0, .int .i64 0, .int .i64 0]) ?_ 0 _ rfl; (with_reducible repeat (first | refine blk_drewN ?_ _ | refine blk_drew ?_ | refine blk_alloc ?_ _)); exact BK737.out) Try.underlying31 rfl (by kernel_rfl)) rfl ?_
 exact ⟨_, by first | rfl | (simp [errW_none, errW_some] <;> rfl) | (simp [*, errW_none, errW_some] <;> rfl), by (with_reducible repeat (first | apply Kd.R_alloc | apply Kd.R_drewN | apply Kd.R_drew)); exact Kd.R_mono (Kd.R_far (p := ⟨gb737, 5, none⟩) (Kd.R_far (p := ⟨gb737, 4, none⟩) (Kd.R_far (p := ⟨gb737, 3, none⟩) (Kd.R_far (p := ⟨gb737, 2, none⟩) (Kd.R_far (p := ⟨gb737, 1, none⟩) (Kd.R_far (p := ⟨gb737, 0, none⟩) (Kd.R_mono HO740.out (fun k_ hk => (⟨hk, hk.2⟩ : _ ∧ k_ ≠ gb737))) (fun _ hk => hk.2) (.int .i64 t741)) (fun _ hk => hk.2) (.int .i64 t742)) (fun _ hk => hk.2) (.int .i64 t743)) (fun _ hk => hk.2) (.int .i64 t744)) (fun _ hk => hk.2) (.int .i64 t745)) (fun _ hk => hk.2) (.int .i64 t746)) (fun _ hk => trivial), by repeat (first | (with_reducible first | exact HB.out | apply below_alloc | apply pw_below_drewN | apply below_drew1 | refine below_set ?_ GE737.out) | exact HB.out)⟩

/-! ### impl_IssueWarning: function 30 -/
def impl_IssueWarning.f (k : Nat) (l0 : List (S31)) (a1_0 : Int) (a1_1 : Int) (a1_2 : Int) (a1_3 : Int) (a1_4 : Int) (a1_5 : Int) : Option ((List (S31)) × Int × Bool) := (impl_IsConsistent.f k l0).bind fun t748 => (if t748 = true then ((impl_issued.f k l0 a1_0 a1_1 a1_2 a1_3 a1_4 a1_5).bind fun bt749 => (some (bt749.1, bt749.2.1, bt749.2.2))) else (some (([] : List (S31)), 0, false)))
theorem impl_IssueWarning.mono : ∀ a0 a1 a2 a3 a4 a5 a6 k, LeO (impl_IssueWarning.f k a0 a1 a2 a3 a4 a5 a6) (impl_IssueWarning.f (k + 1) a0 a1 a2 a3 a4 a5 a6) := by
 intro a0 a1 a2 a3 a4 a5 a6 k
 unfold impl_IssueWarning.f
 repeat' first
   | (with_reducible exact impl_IsConsistent.mono _ _)
   | (with_reducible exact impl_issued.mono _ _ _ _ _ _ _ _)
   | (with_reducible exact LeO.refl _)
   | (with_reducible exact LeO.none _)
   | (with_reducible refine LeO.ite ?_ ?_)
   | (with_reducible refine LeO.bind ?_ (fun _ => ?_))
   | exact impl_IsConsistent.mono _ _
   | exact impl_issued.mono _ _ _ _ _ _ _ _
   | exact LeO.none _
   | refine LeO.ite ?_ ?_
   | refine LeO.bind ?_ (fun _ => ?_)
set_option maxHeartbeats 8000000 in
set_option maxRecDepth 100000 in
theorem impl_IssueWarning.calls (k : Nat) (A0 : Option Addr) (c0 : Nat) (l0 : List (S31)) (a1_0 : Int) (a1_1 : Int) (a1_2 : Int) (a1_3 : Int) (a1_4 : Int) (a1_5 : Int) (r1 : List (S31)) (r2 : Int) (r3 : Bool) (w : World) (hr0 : Kd.C k31 w A0 l0.length l0) (hc0 : l0.length ≤ c0) (h : impl_IssueWarning.f k l0 a1_0 a1_1 a1_2 a1_3 a1_4 a1_5 = some (r1, r2, r3)) :
  Calls Try.prog 30 #[.slice A0 l0.length c0, .agg #[.int .i64 a1_0, .int .i64 a1_1, .int .i64 a1_2, .int .i64 a1_3, .int .i64 a1_4, .int .i64 a1_5]] w fun e w' => ∃ v0_ : Value, e = .returned (.tuple #[v0_, .int .i64 r2, .bool r3]) ∧ Kd.R k31 31 w' w.heap.size (fun _ => True) v0_ r1 ∧ Below w.heap.size w w' := by
 have hu31 := Try.underlying31
 have HR0 := Aside0.mk hr0
 have HC0 := Aside0.mk hc0
 clear hr0 hc0
 have HB := Aside0.mk (Below.refl w.heap.size w)
 have H : ((impl_IsConsistent.f k l0).bind fun t748 => (if t748 = true then ((impl_issued.f k l0 a1_0 a1_1 a1_2 a1_3 a1_4 a1_5).bind fun bt749 => (some (bt749.1, bt749.2.1, bt749.2.2))) else (some (([] : List (S31)), 0, false)))) = some (r1, r2, r3) := h
 clear h
 replace H := Option.bind_eq_some_iff.mp H
 obtain ⟨t748, A30, H⟩ := H
 replace H : (if t748 = true then ((impl_issued.f k l0 a1_0 a1_1 a1_2 a1_3 a1_4 a1_5).bind fun bt749 => (some (bt749.1, bt749.2.1, bt749.2.2))) else (some (([] : List (S31)), 0, false))) = some (r1, r2, r3) := H
 have A3 := Aside0.mk A30
 clear A30
 by_cases c4 : t748 = true
 ·
  subst c4
  have H1 : ((impl_issued.f k l0 a1_0 a1_1 a1_2 a1_3 a1_4 a1_5).bind fun bt749 => (some (bt749.1, bt749.2.1, bt749.2.2))) = some (r1, r2, r3) := by rw [if_pos rfl] at H; exact H
  clear H
  have H := H1
  clear H1
  replace H := Option.bind_eq_some_iff.mp H
  obtain ⟨⟨t749, t752, t753⟩, A50, H⟩ := H
  replace H : (some (t749, t752, t753)) = some (r1, r2, r3) := H
  have A5 := Aside0.mk A50
  clear A50
  simp only [Option.some.injEq, Prod.mk.injEq] at H
  obtain ⟨rfl, rfl, rfl⟩ := H
  go_enter Try.func30, Try.ntmps30
  go_wp2_with (first | ((with_reducible refine gate_dst (N := 3) rfl ?_); refine box_event ?hg (N := 3) ?hd (cs := #[.int .i64 a1_0, .int .i64 a1_1, .int .i64 a1_2, .int .i64 a1_3, .int .i64 a1_4, .int .i64 a1_5]) (t := 31) ?hr ?_; (case hd => rfl); (case hg => rfl); (case hr => first | (go_simp; done) | (go_simp; rfl)); intro gb747 hg w6 hbox hb; have n0_ := Aside0.mk (below_step zq0 hb); have n1_ := Aside0.mk (hbox); have n2_ := Aside0.mk ((by rw [hg]; exact (below_size zq0) : w.heap.size ≤ gb747)); have n3_ := Aside0.mk ((by rw [hg]; exact (below_size zq0) : w.heap.size ≤ gb747)); clear HB; have HB := n0_; have BK747 := n1_; have GW747 := n2_; have GE747 := n3_; clear n0_ n1_ n2_ n3_; clear hb hbox hg) | ((with_reducible refine gate_callee (f := 12) rfl ?_); refine goesL_ (some 8) rfl rfl Try.func12 (by kernel_rfl) rfl #[.slice A0 l0.length c0] rfl zq1 ?_; (with_reducible refine (impl_IsConsistent.calls k _ _ l0 true _ ?side1 ?side2 A3.out).mono ?_); (case side1 => repeat (first | exact (Kd.C_below HR0.out HB.out) | (with_reducible refine Kd.C_alloc ?_ _) | (with_reducible refine Kd.C_drewN ?_ _) | (with_reducible refine Kd.C_drew ?_))); (case side2 => exact HC0.out); rintro e w7 ⟨rfl, hb⟩; refine ⟨_, rfl, ?_⟩; have n0_ := Aside0.mk (blk_below (g := gb747) (o := .cells #[.int .i64 a1_0, .int .i64 a1_1, .int .i64 a1_2, .int .i64 a1_3, .int .i64 a1_4, .int .i64 a1_5] 31 (0, 0)) (zqK BK747.out) hb); have n1_ := Aside0.mk (below_step zq36 hb); clear BK747; clear HB; have BK747 := n0_; have HB := n1_; clear n0_ n1_; (try clear hb); (try clear hb2); (try clear hk); (try clear hi); have hcz8_0 : w7.cell? ⟨gb747, 0, none⟩ = some (.int .i64 a1_0) := (blk_cell BK747.out 0).trans rfl; have hcz8_1 : w7.cell? ⟨gb747, 1, none⟩ = some (.int .i64 a1_1) := (blk_cell BK747.out 1).trans rfl; have hcz8_2 : w7.cell? ⟨gb747, 2, none⟩ = some (.int .i64 a1_2) := (blk_cell BK747.out 2).trans rfl; have hcz8_3 : w7.cell? ⟨gb747, 3, none⟩ = some (.int .i64 a1_3) := (blk_cell BK747.out 3).trans rfl; have hcz8_4 : w7.cell? ⟨gb747, 4, none⟩ = some (.int .i64 a1_4) := (blk_cell BK747.out 4).trans rfl; have hcz8_5 : w7.cell? ⟨gb747, 5, none⟩ = some (.int .i64 a1_5) := (blk_cell BK747.out 5).trans rfl; have hfz8_0 := blk_frozen BK747.out 0; have hfz8_1 := blk_frozen BK747.out 1; have hfz8_2 := blk_frozen BK747.out 2; have hfz8_3 := blk_frozen BK747.out 3; have hfz8_4 := blk_frozen BK747.out 4; have hfz8_5 := blk_frozen BK747.out 5) | ((with_reducible refine gate_callee (f := 62) rfl ?_); refine goesL_ (some 12) rfl rfl Try.func62 (by kernel_rfl) rfl #[.slice A0 l0.length c0, .agg #[.int .i64 a1_0, .int .i64 a1_1, .int .i64 a1_2, .int .i64 a1_3, .int .i64 a1_4, .int .i64 a1_5]] rfl zq1 ?_; (with_reducible refine (impl_issued.calls k _ _ l0 a1_0 a1_1 a1_2 a1_3 a1_4 a1_5 t749 t752 t753 _ ?side1 ?side2 A5.out).mono ?_); (case side1 => repeat (first | exact (Kd.C_below HR0.out HB.out) | (with_reducible refine Kd.C_alloc ?_ _) | (with_reducible refine Kd.C_drewN ?_ _) | (with_reducible refine Kd.C_drew ?_))); (case side2 => exact HC0.out); rintro e w9 ⟨v750, rfl, ho0, hb⟩; refine ⟨_, rfl, ?_⟩; have n0_ := Aside0.mk (Kd.R_lower (Kd.R_newB ho0 (g := gb747) (o := .cells #[.int .i64 a1_0, .int .i64 a1_1, .int .i64 a1_2, .int .i64 a1_3, .int .i64 a1_4, .int .i64 a1_5] 31 (0, 0)) (zqK BK747.out)) (below_size zq36)); have n1_ := Aside0.mk (blk_below (g := gb747) (o := .cells #[.int .i64 a1_0, .int .i64 a1_1, .int .i64 a1_2, .int .i64 a1_3, .int .i64 a1_4, .int .i64 a1_5] 31 (0, 0)) (zqK BK747.out) hb); have n2_ := Aside0.mk (below_step zq36 hb); clear BK747; clear HB; have HO751 := n0_; have BK747 := n1_; have HB := n2_; clear n0_ n1_ n2_; (try clear hb); (try clear hb2); (try clear hk); (try clear hi); (try clear ho0)))
  go_ret3
  exact ⟨_, by first | rfl | (simp [errW_none, errW_some] <;> rfl) | (simp [*, errW_none, errW_some] <;> rfl), by (with_reducible repeat (first | apply Kd.R_alloc | apply Kd.R_drewN | apply Kd.R_drew)); exact Kd.R_mono HO751.out (fun _ hk => trivial), by repeat (first | (with_reducible first | exact HB.out | apply below_alloc | apply pw_below_drewN | apply below_drew1 | refine below_set ?_ GE747.out) | exact HB.out)⟩
 ·
  replace c4 := Bool.eq_false_iff.mpr c4
  subst c4
  have H1 : (some (([] : List (S31)), 0, false)) = some (r1, r2, r3) := by rw [if_neg (show ¬ (false = true) by decide)] at H; exact H
  clear H
  have H := H1
  clear H1
  simp only [Option.some.injEq, Prod.mk.injEq] at H
  obtain ⟨rfl, rfl, rfl⟩ := H
  go_enter Try.func30, Try.ntmps30
  go_wp2_with (first | ((with_reducible refine gate_dst (N := 3) rfl ?_); refine box_event ?hg (N := 3) ?hd (cs := #[.int .i64 a1_0, .int .i64 a1_1, .int .i64 a1_2, .int .i64 a1_3, .int .i64 a1_4, .int .i64 a1_5]) (t := 31) ?hr ?_; (case hd => rfl); (case hg => rfl); (case hr => first | (go_simp; done) | (go_simp; rfl)); intro gb747 hg w10 hbox hb; have n0_ := Aside0.mk (below_step zq0 hb); have n1_ := Aside0.mk (hbox); have n2_ := Aside0.mk ((by rw [hg]; exact (below_size zq0) : w.heap.size ≤ gb747)); have n3_ := Aside0.mk ((by rw [hg]; exact (below_size zq0) : w.heap.size ≤ gb747)); clear HB; have HB := n0_; have BK747 := n1_; have GW747 := n2_; have GE747 := n3_; clear n0_ n1_ n2_ n3_; clear hb hbox hg) | ((with_reducible refine gate_callee (f := 12) rfl ?_); refine goesL_ (some 8) rfl rfl Try.func12 (by kernel_rfl) rfl #[.slice A0 l0.length c0] rfl zq1 ?_; (with_reducible refine (impl_IsConsistent.calls k _ _ l0 false _ ?side1 ?side2 A3.out).mono ?_); (case side1 => repeat (first | exact (Kd.C_below HR0.out HB.out) | (with_reducible refine Kd.C_alloc ?_ _) | (with_reducible refine Kd.C_drewN ?_ _) | (with_reducible refine Kd.C_drew ?_))); (case side2 => exact HC0.out); rintro e w11 ⟨rfl, hb⟩; refine ⟨_, rfl, ?_⟩; have n0_ := Aside0.mk (blk_below (g := gb747) (o := .cells #[.int .i64 a1_0, .int .i64 a1_1, .int .i64 a1_2, .int .i64 a1_3, .int .i64 a1_4, .int .i64 a1_5] 31 (0, 0)) (zqK BK747.out) hb); have n1_ := Aside0.mk (below_step zq36 hb); clear BK747; clear HB; have BK747 := n0_; have HB := n1_; clear n0_ n1_; (try clear hb); (try clear hb2); (try clear hk); (try clear hi)))
  go_ret3
  exact ⟨_, by first | rfl | (simp [errW_none, errW_some] <;> rfl) | (simp [*, errW_none, errW_some] <;> rfl), by first | exact Kd.R_nil _ _ _ _ _ | exact Kd.N_nil _ _ _ _ _ | exact Kd.V_nil _ _ _ _ _ | exact Kd.Q_nil _ _ _ _ _ | exact Kd.S_nil _ _ _ _ _, by repeat (first | (with_reducible first | exact HB.out | apply below_alloc | apply pw_below_drewN | apply below_drew1 | refine below_set ?_ GE747.out) | exact HB.out)⟩

/-! ### spec_IssueWarning: function 31 -/
def spec_IssueWarning.f (k : Nat) (l0 : List (S31)) (a1_0 : Int) (a1_1 : Int) (a1_2 : Int) (a1_3 : Int) (a1_4 : Int) (a1_5 : Int) : Option ((List (S31)) × Int × Bool) := (spec_l14List.f k l0).bind fun t755 => (if t755 = true then ((spec_l14Issue.f k l0 a1_0 a1_1 a1_2 a1_3 a1_4 a1_5).bind fun bt759 => ((spec_l14List.f k bt759.1).bind fun t763 => (if t763 = true then (some (bt759.1, bt759.2, true)) else (some ((([] : List (S31))), 0, false))))) else (some ((([] : List (S31))), 0, false)))
theorem spec_IssueWarning.mono : ∀ a0 a1 a2 a3 a4 a5 a6 k, LeO (spec_IssueWarning.f k a0 a1 a2 a3 a4 a5 a6) (spec_IssueWarning.f (k + 1) a0 a1 a2 a3 a4 a5 a6) := by
 intro a0 a1 a2 a3 a4 a5 a6 k
 unfold spec_IssueWarning.f
 repeat' first
   | (with_reducible exact spec_l14Issue.mono _ _ _ _ _ _ _ _)
   | (with_reducible exact spec_l14List.mono _ _)
   | (with_reducible exact LeO.refl _)
   | (with_reducible exact LeO.none _)
   | (with_reducible refine LeO.ite ?_ ?_)
   | (with_reducible refine LeO.bind ?_ (fun _ => ?_))
   | exact spec_l14Issue.mono _ _ _ _ _ _ _ _
   | exact spec_l14List.mono _ _
   | exact LeO.none _
   | refine LeO.ite ?_ ?_
   | refine LeO.bind ?_ (fun _ => ?_)
set_option maxHeartbeats 8000000 in
set_option maxRecDepth 100000 in
theorem spec_IssueWarning.calls (k : Nat) (A0 : Option Addr) (c0 : Nat) (l0 : List (S31)) (a1_0 : Int) (a1_1 : Int) (a1_2 : Int) (a1_3 : Int) (a1_4 : Int) (a1_5 : Int) (r1 : List (S31)) (r2 : Int) (r3 : Bool) (w : World) (hr0 : Kd.C k31 w A0 l0.length l0) (hc0 : l0.length ≤ c0) (h : spec_IssueWarning.f k l0 a1_0 a1_1 a1_2 a1_3 a1_4 a1_5 = some (r1, r2, r3)) :
  Calls Try.prog 31 #[.slice A0 l0.length c0, .agg #[.int .i64 a1_0, .int .i64 a1_1, .int .i64 a1_2, .int .i64 a1_3, .int .i64 a1_4, .int .i64 a1_5]] w fun e w' => ∃ v0_ : Value, e = .returned (.tuple #[v0_, .int .i64 r2, .bool r3]) ∧ Kd.R k31 31 w' w.heap.size (fun _ => True) v0_ r1 ∧ Below w.heap.size w w' := by
 have hu31 := Try.underlying31
 have HR0 := Aside0.mk hr0
 have HC0 := Aside0.mk hc0
 clear hr0 hc0
 have HB := Aside0.mk (Below.refl w.heap.size w)
 have H : ((spec_l14List.f k l0).bind fun t755 => (if t755 = true then ((spec_l14Issue.f k l0 a1_0 a1_1 a1_2 a1_3 a1_4 a1_5).bind fun bt759 => ((spec_l14List.f k bt759.1).bind fun t763 => (if t763 = true then (some (bt759.1, bt759.2, true)) else (some ((([] : List (S31))), 0, false))))) else (some ((([] : List (S31))), 0, false)))) = some (r1, r2, r3) := h
 clear h
 replace H := Option.bind_eq_some_iff.mp H
 obtain ⟨t755, A30, H⟩ := H
 replace H : (if t755 = true then ((spec_l14Issue.f k l0 a1_0 a1_1 a1_2 a1_3 a1_4 a1_5).bind fun bt759 => ((spec_l14List.f k bt759.1).bind fun t763 => (if t763 = true then (some (bt759.1, bt759.2, true)) else (some ((([] : List (S31))), 0, false))))) else (some ((([] : List (S31))), 0, false))) = some (r1, r2, r3) := H
 have A3 := Aside0.mk A30
 clear A30
 by_cases c4 : t755 = true
 ·
  subst c4
  have H1 : ((spec_l14Issue.f k l0 a1_0 a1_1 a1_2 a1_3 a1_4 a1_5).bind fun bt759 => ((spec_l14List.f k bt759.1).bind fun t763 => (if t763 = true then (some (bt759.1, bt759.2, true)) else (some ((([] : List (S31))), 0, false))))) = some (r1, r2, r3) := by rw [if_pos rfl] at H; exact H
  clear H
  have H := H1
  clear H1
  replace H := Option.bind_eq_some_iff.mp H
  obtain ⟨⟨t759, t762⟩, A50, H⟩ := H
  replace H : ((spec_l14List.f k t759).bind fun t763 => (if t763 = true then (some (t759, t762, true)) else (some ((([] : List (S31))), 0, false)))) = some (r1, r2, r3) := H
  have A5 := Aside0.mk A50
  clear A50
  replace H := Option.bind_eq_some_iff.mp H
  obtain ⟨t763, A60, H⟩ := H
  replace H : (if t763 = true then (some (t759, t762, true)) else (some ((([] : List (S31))), 0, false))) = some (r1, r2, r3) := H
  have A6 := Aside0.mk A60
  clear A60
  by_cases c7 : t763 = true
  ·
   subst c7
   have H1 : (some (t759, t762, true)) = some (r1, r2, r3) := by rw [if_pos rfl] at H; exact H
   clear H
   have H := H1
   clear H1
   simp only [Option.some.injEq, Prod.mk.injEq] at H
   obtain ⟨rfl, rfl, rfl⟩ := H
   go_enter Try.func31, Try.ntmps31
   go_wp2_with (first | ((with_reducible refine gate_dst (N := 3) rfl ?_); refine box_event ?hg (N := 3) ?hd (cs := #[.int .i64 a1_0, .int .i64 a1_1, .int .i64 a1_2, .int .i64 a1_3, .int .i64 a1_4, .int .i64 a1_5]) (t := 31) ?hr ?_; (case hd => rfl); (case hg => rfl); (case hr => first | (go_simp; done) | (go_simp; rfl)); intro gb754 hg w8 hbox hb; have n0_ := Aside0.mk (below_step zq0 hb); have n1_ := Aside0.mk (hbox); have n2_ := Aside0.mk ((by rw [hg]; exact (below_size zq0) : w.heap.size ≤ gb754)); have n3_ := Aside0.mk ((by rw [hg]; exact (below_size zq0) : w.heap.size ≤ gb754)); clear HB; have HB := n0_; have BK754 := n1_; have GW754 := n2_; have GE754 := n3_; clear n0_ n1_ n2_ n3_; clear hb hbox hg) | ((with_reducible refine gate_callee (f := 63) rfl ?_); refine goesL_ (some 10) rfl rfl Try.func63 (by kernel_rfl) rfl #[.slice A0 l0.length c0] rfl zq1 ?_; (with_reducible refine (spec_l14List.calls k _ _ l0 true _ ?side1 ?side2 A3.out).mono ?_); (case side1 => repeat (first | exact (Kd.C_below HR0.out HB.out) | (with_reducible refine Kd.C_alloc ?_ _) | (with_reducible refine Kd.C_drewN ?_ _) | (with_reducible refine Kd.C_drew ?_))); (case side2 => exact HC0.out); rintro e w9 ⟨rfl, hb⟩; refine ⟨_, rfl, ?_⟩; have n0_ := Aside0.mk (blk_below (g := gb754) (o := .cells #[.int .i64 a1_0, .int .i64 a1_1, .int .i64 a1_2, .int .i64 a1_3, .int .i64 a1_4, .int .i64 a1_5] 31 (0, 0)) (zqK BK754.out) hb); have n1_ := Aside0.mk (below_step zq13 hb); clear BK754; clear HB; have BK754 := n0_; have HB := n1_; clear n0_ n1_; (try clear hb); (try clear hb2); (try clear hk); (try clear hi); have hcz10_0 : w9.cell? ⟨gb754, 0, none⟩ = some (.int .i64 a1_0) := (blk_cell BK754.out 0).trans rfl; have hcz10_1 : w9.cell? ⟨gb754, 1, none⟩ = some (.int .i64 a1_1) := (blk_cell BK754.out 1).trans rfl; have hcz10_2 : w9.cell? ⟨gb754, 2, none⟩ = some (.int .i64 a1_2) := (blk_cell BK754.out 2).trans rfl; have hcz10_3 : w9.cell? ⟨gb754, 3, none⟩ = some (.int .i64 a1_3) := (blk_cell BK754.out 3).trans rfl; have hcz10_4 : w9.cell? ⟨gb754, 4, none⟩ = some (.int .i64 a1_4) := (blk_cell BK754.out 4).trans rfl; have hcz10_5 : w9.cell? ⟨gb754, 5, none⟩ = some (.int .i64 a1_5) := (blk_cell BK754.out 5).trans rfl; have hfz10_0 := blk_frozen BK754.out 0; have hfz10_1 := blk_frozen BK754.out 1; have hfz10_2 := blk_frozen BK754.out 2; have hfz10_3 := blk_frozen BK754.out 3; have hfz10_4 := blk_frozen BK754.out 4; have hfz10_5 := blk_frozen BK754.out 5) | ((with_reducible refine gate_callee (f := 65) rfl ?_); refine goesL_ (some 16) rfl rfl Try.func65 (by kernel_rfl) rfl #[.slice A0 l0.length c0, .agg #[.int .i64 a1_0, .int .i64 a1_1, .int .i64 a1_2, .int .i64 a1_3, .int .i64 a1_4, .int .i64 a1_5]] rfl zq1 ?_; (with_reducible refine (spec_l14Issue.calls k _ _ l0 a1_0 a1_1 a1_2 a1_3 a1_4 a1_5 t759 t762 _ ?side1 ?side2 A5.out).mono ?_); (case side1 => repeat (first | exact (Kd.C_below HR0.out HB.out) | (with_reducible refine Kd.C_alloc ?_ _) | (with_reducible refine Kd.C_drewN ?_ _) | (with_reducible refine Kd.C_drew ?_))); (case side2 => exact HC0.out); rintro e w11 ⟨v760, rfl, ho0, hb⟩; refine ⟨_, rfl, ?_⟩; have n0_ := Aside0.mk (Kd.R_lower (Kd.R_newB ho0 (g := gb754) (o := .cells #[.int .i64 a1_0, .int .i64 a1_1, .int .i64 a1_2, .int .i64 a1_3, .int .i64 a1_4, .int .i64 a1_5] 31 (0, 0)) (zqK BK754.out)) (below_size zq13)); have n1_ := Aside0.mk (blk_below (g := gb754) (o := .cells #[.int .i64 a1_0, .int .i64 a1_1, .int .i64 a1_2, .int .i64 a1_3, .int .i64 a1_4, .int .i64 a1_5] 31 (0, 0)) (zqK BK754.out) hb); have n2_ := Aside0.mk (below_step zq13 hb); clear BK754; clear HB; have HO761 := n0_; have BK754 := n1_; have HB := n2_; clear n0_ n1_ n2_; (try clear hb); (try clear hb2); (try clear hk); (try clear hi); (try clear ho0); obtain ⟨Ao12, co12, eo12⟩ := Kd.R_slice HO761.out; subst eo12) | ((with_reducible refine gate_callee (f := 63) rfl ?_); refine goesL_ (some 20) rfl rfl Try.func63 (by kernel_rfl) rfl #[.slice Ao12 t759.length co12] rfl zq1 ?_; (with_reducible refine (spec_l14List.calls k _ _ t759 true _ ?side1 ?side2 A6.out).mono ?_); (case side1 => repeat (first | exact (Kd.R_reads' HO761.out).2.2 | (with_reducible refine Kd.C_alloc ?_ _) | (with_reducible refine Kd.C_drewN ?_ _) | (with_reducible refine Kd.C_drew ?_))); (case side2 => exact (Kd.R_reads' HO761.out).2.1); rintro e w13 ⟨rfl, hb⟩; refine ⟨_, rfl, ?_⟩; have n0_ := Aside0.mk (Kd.R_below (zqR HO761.out) hb); have n1_ := Aside0.mk (blk_below (g := gb754) (o := .cells #[.int .i64 a1_0, .int .i64 a1_1, .int .i64 a1_2, .int .i64 a1_3, .int .i64 a1_4, .int .i64 a1_5] 31 (0, 0)) (zqK BK754.out) hb); have n2_ := Aside0.mk (below_step zq13 hb); clear HO761; clear BK754; clear HB; have HO761 := n0_; have BK754 := n1_; have HB := n2_; clear n0_ n1_ n2_; (try clear hb); (try clear hb2); (try clear hk); (try clear hi)))
   go_ret3
   exact ⟨_, by first | rfl | (simp [errW_none, errW_some] <;> rfl) | (simp [*, errW_none, errW_some] <;> rfl), by (with_reducible repeat (first | apply Kd.R_alloc | apply Kd.R_drewN | apply Kd.R_drew)); exact Kd.R_mono HO761.out (fun _ hk => trivial), by repeat (first | (with_reducible first | exact HB.out | apply below_alloc | apply pw_below_drewN | apply below_drew1 | refine below_set ?_ GE754.out) | exact HB.out)⟩
  ·
   replace c7 := Bool.eq_false_iff.mpr c7
   subst c7
   have H1 : (some ((([] : List (S31))), 0, false)) = some (r1, r2, r3) := by rw [if_neg (show ¬ (false = true) by decide)] at H; exact H
   clear H
   have H := H1
   clear H1
   obtain ⟨y764, hy764⟩ : ∃ y_ : List (S31), y_ = (([] : List (S31))) := ⟨_, rfl⟩
   replace H : (some (y764, 0, false)) = some (r1, r2, r3) := by first | (rw [hy764]; with_reducible exact H) | (have H2_ := (Option.bind_some _ _).symm.trans H; rw [hy764]; with_reducible exact H2_) | (have H2_ := (Option.bind_some _ _).symm.trans H; with_reducible exact H2_) | with_reducible exact H | (rw [hy764]; exact H) | exact H
   have Ny764 := Aside0.mk hy764
   clear hy764
   simp only [Option.some.injEq, Prod.mk.injEq] at H
   obtain ⟨rfl, rfl, rfl⟩ := H
   go_enter Try.func31, Try.ntmps31
   go_wp2_with (first | ((with_reducible refine gate_dst (N := 3) rfl ?_); refine box_event ?hg (N := 3) ?hd (cs := #[.int .i64 a1_0, .int .i64 a1_1, .int .i64 a1_2, .int .i64 a1_3, .int .i64 a1_4, .int .i64 a1_5]) (t := 31) ?hr ?_; (case hd => rfl); (case hg => rfl); (case hr => first | (go_simp; done) | (go_simp; rfl)); intro gb754 hg w14 hbox hb; have n0_ := Aside0.mk (below_step zq0 hb); have n1_ := Aside0.mk (hbox); have n2_ := Aside0.mk ((by rw [hg]; exact (below_size zq0) : w.heap.size ≤ gb754)); have n3_ := Aside0.mk ((by rw [hg]; exact (below_size zq0) : w.heap.size ≤ gb754)); clear HB; have HB := n0_; have BK754 := n1_; have GW754 := n2_; have GE754 := n3_; clear n0_ n1_ n2_ n3_; clear hb hbox hg) | ((with_reducible refine gate_callee (f := 63) rfl ?_); refine goesL_ (some 10) rfl rfl Try.func63 (by kernel_rfl) rfl #[.slice A0 l0.length c0] rfl zq1 ?_; (with_reducible refine (spec_l14List.calls k _ _ l0 true _ ?side1 ?side2 A3.out).mono ?_); (case side1 => repeat (first | exact (Kd.C_below HR0.out HB.out) | (with_reducible refine Kd.C_alloc ?_ _) | (with_reducible refine Kd.C_drewN ?_ _) | (with_reducible refine Kd.C_drew ?_))); (case side2 => exact HC0.out); rintro e w15 ⟨rfl, hb⟩; refine ⟨_, rfl, ?_⟩; have n0_ := Aside0.mk (blk_below (g := gb754) (o := .cells #[.int .i64 a1_0, .int .i64 a1_1, .int .i64 a1_2, .int .i64 a1_3, .int .i64 a1_4, .int .i64 a1_5] 31 (0, 0)) (zqK BK754.out) hb); have n1_ := Aside0.mk (below_step zq13 hb); clear BK754; clear HB; have BK754 := n0_; have HB := n1_; clear n0_ n1_; (try clear hb); (try clear hb2); (try clear hk); (try clear hi); have hcz16_0 : w15.cell? ⟨gb754, 0, none⟩ = some (.int .i64 a1_0) := (blk_cell BK754.out 0).trans rfl; have hcz16_1 : w15.cell? ⟨gb754, 1, none⟩ = some (.int .i64 a1_1) := (blk_cell BK754.out 1).trans rfl; have hcz16_2 : w15.cell? ⟨gb754, 2, none⟩ = some (.int .i64 a1_2) := (blk_cell BK754.out 2).trans rfl; have hcz16_3 : w15.cell? ⟨gb754, 3, none⟩ = some (.int .i64 a1_3) := (blk_cell BK754.out 3).trans rfl; have hcz16_4 : w15.cell? ⟨gb754, 4, none⟩ = some (.int .i64 a1_4) := (blk_cell BK754.out 4).trans rfl; have hcz16_5 : w15.cell? ⟨gb754, 5, none⟩ = some (.int .i64 a1_5) := (blk_cell BK754.out 5).trans rfl; have hfz16_0 := blk_frozen BK754.out 0; have hfz16_1 := blk_frozen BK754.out 1; have hfz16_2 := blk_frozen BK754.out 2; have hfz16_3 := blk_frozen BK754.out 3; have hfz16_4 := blk_frozen BK754.out 4; have hfz16_5 := blk_frozen BK754.out 5) | ((with_reducible refine gate_callee (f := 65) rfl ?_); refine goesL_ (some 16) rfl rfl Try.func65 (by kernel_rfl) rfl #[.slice A0 l0.length c0, .agg #[.int .i64 a1_0, .int .i64 a1_1, .int .i64 a1_2, .int .i64 a1_3, .int .i64 a1_4, .int .i64 a1_5]] rfl zq1 ?_; (with_reducible refine (spec_l14Issue.calls k _ _ l0 a1_0 a1_1 a1_2 a1_3 a1_4 a1_5 t759 t762 _ ?side1 ?side2 A5.out).mono ?_); (case side1 => repeat (first | exact (Kd.C_below HR0.out HB.out) | (with_reducible refine Kd.C_alloc ?_ _) | (with_reducible refine Kd.C_drewN ?_ _) | (with_reducible refine Kd.C_drew ?_))); (case side2 => exact HC0.out); rintro e w17 ⟨v760, rfl, ho0, hb⟩; refine ⟨_, rfl, ?_⟩; have n0_ := Aside0.mk (Kd.R_lower (Kd.R_newB ho0 (g := gb754) (o := .cells #[.int .i64 a1_0, .int .i64 a1_1, .int .i64 a1_2, .int .i64 a1_3, .int .i64 a1_4, .int .i64 a1_5] 31 (0, 0)) (zqK BK754.out)) (below_size zq13)); have n1_ := Aside0.mk (blk_below (g := gb754) (o := .cells #[.int .i64 a1_0, .int .i64 a1_1, .int .i64 a1_2, .int .i64 a1_3, .int .i64 a1_4, .int .i64 a1_5] 31 (0, 0)) (zqK BK754.out) hb); have n2_ := Aside0.mk (below_step zq13 hb); clear BK754; clear HB; have HO761 := n0_; have BK754 := n1_; have HB := n2_; clear n0_ n1_ n2_; (try clear hb); (try clear hb2); (try clear hk); (try clear hi); (try clear ho0); obtain ⟨Ao18, co18, eo18⟩ := Kd.R_slice HO761.out; subst eo18) | ((with_reducible refine gate_callee (f := 63) rfl ?_); refine goesL_ (some 20) rfl rfl Try.func63 (by kernel_rfl) rfl #[.slice Ao18 t759.length co18] rfl zq1 ?_; (with_reducible refine (spec_l14List.calls k _ _ t759 false _ ?side1 ?side2 A6.out).mono ?_); (case side1 => repeat (first | exact (Kd.R_reads' HO761.out).2.2 | (with_reducible refine Kd.C_alloc ?_ _) | (with_reducible refine Kd.C_drewN ?_ _) | (with_reducible refine Kd.C_drew ?_))); (case side2 => exact (Kd.R_reads' HO761.out).2.1); rintro e w19 ⟨rfl, hb⟩; refine ⟨_, rfl, ?_⟩; have n0_ := Aside0.mk (Kd.R_below (zqR HO761.out) hb); have n1_ := Aside0.mk (blk_below (g := gb754) (o := .cells #[.int .i64 a1_0, .int .i64 a1_1, .int .i64 a1_2, .int .i64 a1_3, .int .i64 a1_4, .int .i64 a1_5] 31 (0, 0)) (zqK BK754.out) hb); have n2_ := Aside0.mk (below_step zq13 hb); clear HO761; clear BK754; clear HB; have HO761 := n0_; have BK754 := n1_; have HB := n2_; clear n0_ n1_ n2_; (try clear hb); (try clear hb2); (try clear hk); (try clear hi)) | ((with_reducible refine gate_dst (N := 22) rfl ?_); refine Kd.R_lit k31 _ 31 ?hg (N := 22) ?hd (xs := ([] : List (S31))) (inner := []) (ok := fun _ => True) (okp := fun _ => True) ?hr ?hp (fun _ hk => hk) trivial (Below.refl _ _) (Nat.le_refl _) (by simp) ?_; (case hd => rfl); (case hg => rfl); (case hr => first | (go_simp; done) | (go_simp; rfl)); (case hp => exact (Reps.none _ _)); intro v765 w20 ho21 hb hg_ hnew_; clear hg_ hnew_; (first | rw [← Ny764.out] at ho21 | (simp only [Int.reduceToNat] at ho21; rw [← Ny764.out] at ho21)); have n0_ := Aside0.mk (Kd.R_elder' (zqR HO761.out) (Kd.R_base ho21) hb); have n1_ := Aside0.mk (Kd.R_lower (Kd.R_newB (Kd.R_new' ho21 (Kd.R_lt (zqR HO761.out))) (g := gb754) (o := .cells #[.int .i64 a1_0, .int .i64 a1_1, .int .i64 a1_2, .int .i64 a1_3, .int .i64 a1_4, .int .i64 a1_5] 31 (0, 0)) (zqK BK754.out)) (below_size zq13)); have n2_ := Aside0.mk (blk_below (g := gb754) (o := .cells #[.int .i64 a1_0, .int .i64 a1_1, .int .i64 a1_2, .int .i64 a1_3, .int .i64 a1_4, .int .i64 a1_5] 31 (0, 0)) (zqK BK754.out) hb); have n3_ := Aside0.mk (below_step zq13 hb); clear HO761; clear BK754; clear HB; have HO761 := n0_; have HO766 := n1_; have BK754 := n2_; have HB := n3_; clear n0_ n1_ n2_ n3_; clear hb ho21))
   go_ret3
   exact ⟨_, by first | rfl | (simp [errW_none, errW_some] <;> rfl) | (simp [*, errW_none, errW_some] <;> rfl), by (with_reducible repeat (first | apply Kd.R_alloc | apply Kd.R_drewN | apply Kd.R_drew)); exact Kd.R_mono HO766.out (fun _ hk => trivial), by repeat (first | (with_reducible first | exact HB.out | apply below_alloc | apply pw_below_drewN | apply below_drew1 | refine below_set ?_ GE754.out) | exact HB.out)⟩
 ·
  replace c4 := Bool.eq_false_iff.mpr c4
  subst c4
  have H1 : (some ((([] : List (S31))), 0, false)) = some (r1, r2, r3) := by rw [if_neg (show ¬ (false = true) by decide)] at H; exact H
  clear H
  have H := H1
  clear H1
  obtain ⟨y756, hy756⟩ : ∃ y_ : List (S31), y_ = (([] : List (S31))) := ⟨_, rfl⟩
  replace H : (some (y756, 0, false)) = some (r1, r2, r3) := by first | (rw [hy756]; with_reducible exact H) | (have H2_ := (Option.bind_some _ _).symm.trans H; rw [hy756]; with_reducible exact H2_) | (have H2_ := (Option.bind_some _ _).symm.trans H; with_reducible exact H2_) | with_reducible exact H | (rw [hy756]; exact H) | exact H
  have Ny756 := Aside0.mk hy756
  clear hy756
  simp only [Option.some.injEq, Prod.mk.injEq] at H
  obtain ⟨rfl, rfl, rfl⟩ := H
  go_enter Try.func31, Try.ntmps31
  go_wp2_with (first | ((with_reducible refine gate_dst (N := 3) rfl ?_); refine box_event ?hg (N := 3) ?hd (cs := #[.int .i64 a1_0, .int .i64 a1_1, .int .i64 a1_2, .int .i64 a1_3, .int .i64 a1_4, .int .i64 a1_5]) (t := 31) ?hr ?_; (case hd => rfl); (case hg => rfl); (case hr => first | (go_simp; done) | (go_simp; rfl)); intro gb754 hg w22 hbox hb; have n0_ := Aside0.mk (below_step zq0 hb); have n1_ := Aside0.mk (hbox); have n2_ := Aside0.mk ((by rw [hg]; exact (below_size zq0) : w.heap.size ≤ gb754)); have n3_ := Aside0.mk ((by rw [hg]; exact (below_size zq0) : w.heap.size ≤ gb754)); clear HB; have HB := n0_; have BK754 := n1_; have GW754 := n2_; have GE754 := n3_; clear n0_ n1_ n2_ n3_; clear hb hbox hg) | ((with_reducible refine gate_callee (f := 63) rfl ?_); refine goesL_ (some 10) rfl rfl Try.func63 (by kernel_rfl) rfl #[.slice A0 l0.length c0] rfl zq1 ?_; (with_reducible refine (spec_l14List.calls k _ _ l0 false _ ?side1 ?side2 A3.out).mono ?_); (case side1 => repeat (first | exact (Kd.C_below HR0.out HB.out) | (with_reducible refine Kd.C_alloc ?_ _) | (with_reducible refine Kd.C_drewN ?_ _) | (with_reducible refine Kd.C_drew ?_))); (case side2 => exact HC0.out); rintro e w23 ⟨rfl, hb⟩; refine ⟨_, rfl, ?_⟩; have n0_ := Aside0.mk (blk_below (g := gb754) (o := .cells #[.int .i64 a1_0, .int .i64 a1_1, .int .i64 a1_2, .int .i64 a1_3, .int .i64 a1_4, .int .i64 a1_5] 31 (0, 0)) (zqK BK754.out) hb); have n1_ := Aside0.mk (below_step zq13 hb); clear BK754; clear HB; have BK754 := n0_; have HB := n1_; clear n0_ n1_; (try clear hb); (try clear hb2); (try clear hk); (try clear hi)) | ((with_reducible refine gate_dst (N := 12) rfl ?_); refine Kd.R_lit k31 _ 31 ?hg (N := 12) ?hd (xs := ([] : List (S31))) (inner := []) (ok := fun _ => True) (okp := fun _ => True) ?hr ?hp (fun _ hk => hk) trivial (Below.refl _ _) (Nat.le_refl _) (by simp) ?_; (case hd => rfl); (case hg => rfl); (case hr => first | (go_simp; done) | (go_simp; rfl)); (case hp => exact (Reps.none _ _)); intro v757 w24 ho25 hb hg_ hnew_; clear hg_ hnew_; (first | rw [← Ny756.out] at ho25 | (simp only [Int.reduceToNat] at ho25; rw [← Ny756.out] at ho25)); have n0_ := Aside0.mk (Kd.R_lower (Kd.R_newB ho25 (g := gb754) (o := .cells #[.int .i64 a1_0, .int .i64 a1_1, .int .i64 a1_2, .int .i64 a1_3, .int .i64 a1_4, .int .i64 a1_5] 31 (0, 0)) (zqK BK754.out)) (below_size zq13)); have n1_ := Aside0.mk (blk_below (g := gb754) (o := .cells #[.int .i64 a1_0, .int .i64 a1_1, .int .i64 a1_2, .int .i64 a1_3, .int .i64 a1_4, .int .i64 a1_5] 31 (0, 0)) (zqK BK754.out) hb); have n2_ := Aside0.mk (below_step zq13 hb); clear BK754; clear HB; have HO758 := n0_; have BK754 := n1_; have HB := n2_; clear n0_ n1_ n2_; clear hb ho25))
  go_ret3
  exact ⟨_, by first | rfl | (simp [errW_none, errW_some] <;> rfl) | (simp [*, errW_none, errW_some] <;> rfl), by (with_reducible repeat (first | apply Kd.R_alloc | apply Kd.R_drewN | apply Kd.R_drew)); exact Kd.R_mono HO758.out (fun _ hk => trivial), by repeat (first | (with_reducible first | exact HB.out | apply below_alloc | apply pw_below_drewN | apply below_drew1 | refine below_set ?_ GE754.out) | exact HB.out)⟩

end Go.Proofs.Ytklepiechbnenaa.Q
namespace Go.Proofs.Ytklepiechbnenaa.Q
open Go.RowKit Go.Proofs.YtklepiechbnenaaW.PrintWords Go.Proofs.YtklepiechbnenaaW.PrintLast Go.Proofs.YtklepiechbnenaaW.PrintMore
attribute [local go_sem] max2_int min2_int max_two min_two max_three min_three max_four min_four   -- for this text's walks alone
set_option linter.unusedVariables false
set_option linter.unusedSimpArgs false

/-! ### spec_IsConsistent: function 32 -/
def spec_IsConsistent.f (k : Nat) (l0 : List (S31)) : Option (Bool) := (spec_l14List.f k l0).bind fun t767 => (some t767)
theorem spec_IsConsistent.mono : ∀ a0 k, LeO (spec_IsConsistent.f k a0) (spec_IsConsistent.f (k + 1) a0) := by
 intro a0 k
 unfold spec_IsConsistent.f
 repeat' first
   | (with_reducible exact spec_l14List.mono _ _)
   | (with_reducible exact LeO.refl _)
   | (with_reducible exact LeO.none _)
   | (with_reducible refine LeO.ite ?_ ?_)
   | (with_reducible refine LeO.bind ?_ (fun _ => ?_))
   | exact spec_l14List.mono _ _
   | exact LeO.none _
   | refine LeO.ite ?_ ?_
   | refine LeO.bind ?_ (fun _ => ?_)
set_option maxHeartbeats 8000000 in
set_option maxRecDepth 100000 in
theorem spec_IsConsistent.calls (k : Nat) (A0 : Option Addr) (c0 : Nat) (l0 : List (S31)) (r : Bool) (w : World) (hr0 : Kd.C k31 w A0 l0.length l0) (hc0 : l0.length ≤ c0) (h : spec_IsConsistent.f k l0 = some r) :
  Calls Try.prog 32 #[.slice A0 l0.length c0] w fun e w' => e = .returned (.bool r) ∧ Below w.heap.size w w' := by
 have HR0 := Aside0.mk hr0
 have HC0 := Aside0.mk hc0
 clear hr0 hc0
 have HB := Aside0.mk (Below.refl w.heap.size w)
 have H : ((spec_l14List.f k l0).bind fun t767 => (some t767)) = some r := h
 clear h
 replace H := Option.bind_eq_some_iff.mp H
 obtain ⟨t767, A20, H⟩ := H
 replace H : (some t767) = some r := H
 have A2 := Aside0.mk A20
 clear A20
 obtain rfl := Option.some.inj H
 go_enter Try.func32, Try.ntmps32
 go_wp2_with (first | ((with_reducible refine gate_callee (f := 63) rfl ?_); refine goesL_ (some 4) rfl rfl Try.func63 (by kernel_rfl) rfl #[.slice A0 l0.length c0] rfl zq1 ?_; (with_reducible refine (spec_l14List.calls k _ _ l0 t767 _ ?side1 ?side2 A2.out).mono ?_); (case side1 => repeat (first | exact HR0.out | (with_reducible refine Kd.C_alloc ?_ _) | (with_reducible refine Kd.C_drewN ?_ _) | (with_reducible refine Kd.C_drew ?_))); (case side2 => exact HC0.out); rintro e w3 ⟨rfl, hb⟩; refine ⟨_, rfl, ?_⟩; have n0_ := Aside0.mk (below_step zq0 hb); clear HB; have HB := n0_; clear n0_; (try clear hb); (try clear hb2); (try clear hk); (try clear hi)))
 go_ret
 exact ⟨by first | rfl | (simp [errW_none, errW_some] <;> rfl) | (simp [*, errW_none, errW_some] <;> rfl), by repeat (first | (with_reducible first | exact HB.out | apply below_alloc | apply pw_below_drewN | apply below_drew1) | exact HB.out)⟩

/-! ### impl_ActiveAt: function 33 -/
def impl_ActiveAt.l0 : Nat → Int → List Int → List (S31) → Int → Int → Option (List Int × Bool)
 | 0, _, _, _, _, _ => none
 | k + 1, x1, x6, x12, x13, x14 => if x14 < x13 then (if 0 ≤ x14 then (if x14 < (x12.length : Int) then ((impl_within.f x1 ((rd_T31 x12 x14).f4) (wrap64 (((rd_T31 x12 x14).f5) - 1))).bind fun t771 => (if t771 = true then (if x6.length < 17592186044416 then (impl_ActiveAt.l0 k x1 (x6 ++ [(rd_T31 x12 x14).f0]) x12 x13 (wrap64 (x14 + 1))) else (none)) else (impl_ActiveAt.l0 k x1 x6 x12 x13 (wrap64 (x14 + 1))))) else (none)) else (none)) else (some (x6, true))
def impl_ActiveAt.f (k : Nat) (l0 : List (S31)) (a1 : Int) : Option (List Int × Bool) := (impl_IsConsistent.f k l0).bind fun t768 => (if t768 = true then (impl_ActiveAt.l0 k a1 ([] : List Int) l0 (l0.length : Int) 0) else (some (([] : List Int), false)))
theorem impl_ActiveAt.mono_l : ∀ k, (∀ y0 y1 y2 y3 y4, LeO (impl_ActiveAt.l0 k y0 y1 y2 y3 y4) (impl_ActiveAt.l0 (k + 1) y0 y1 y2 y3 y4))
 | 0 => fun _ _ _ _ _ r h => by simp [impl_ActiveAt.l0] at h
 | k + 1 => by
  have ih0 := impl_ActiveAt.mono_l k
  ·
   intro y0 y1 y2 y3 y4
   unfold impl_ActiveAt.l0
   repeat' first
   | (with_reducible exact ih0 _ _ _ _ _)
   | (with_reducible exact impl_IsConsistent.mono _ _)
   | (with_reducible exact LeO.refl _)
   | (with_reducible exact LeO.none _)
   | (with_reducible refine LeO.ite ?_ ?_)
   | (with_reducible refine LeO.bind ?_ (fun _ => ?_))
   | exact ih0 _ _ _ _ _
   | exact impl_IsConsistent.mono _ _
   | exact LeO.none _
   | refine LeO.ite ?_ ?_
   | refine LeO.bind ?_ (fun _ => ?_)
theorem impl_ActiveAt.mono : ∀ a0 a1 k, LeO (impl_ActiveAt.f k a0 a1) (impl_ActiveAt.f (k + 1) a0 a1) := by
 intro a0 a1 k
 have ih0 := impl_ActiveAt.mono_l k
 unfold impl_ActiveAt.f
 repeat' first
   | (with_reducible exact ih0 _ _ _ _ _)
   | (with_reducible exact impl_IsConsistent.mono _ _)
   | (with_reducible exact LeO.refl _)
   | (with_reducible exact LeO.none _)
   | (with_reducible refine LeO.ite ?_ ?_)
   | (with_reducible refine LeO.bind ?_ (fun _ => ?_))
   | exact ih0 _ _ _ _ _
   | exact impl_IsConsistent.mono _ _
   | exact LeO.none _
   | refine LeO.ite ?_ ?_
   | refine LeO.bind ?_ (fun _ => ?_)
set_option maxHeartbeats 8000000 in
set_option maxRecDepth 100000 in
theorem impl_ActiveAt.calls (k : Nat) (A0 : Option Addr) (c0 : Nat) (l0 : List (S31)) (a1 : Int) (r1 : List Int) (r2 : Bool) (w : World) (hr0 : Kd.C k31 w A0 l0.length l0) (hc0 : l0.length ≤ c0) (h : impl_ActiveAt.f k l0 a1 = some (r1, r2)) :
  Calls Try.prog 33 #[.slice A0 l0.length c0, .int .i64 a1] w fun e w' => ∃ v0_ : Value, e = .returned (.tuple #[v0_, .bool r2]) ∧ Kd.R (Kd.int .i64) 3 w' w.heap.size (fun _ => True) v0_ r1 ∧ Below w.heap.size w w' := by
 have hu31 := Try.underlying31
 have HR0 := Aside0.mk hr0
 have HC0 := Aside0.mk hc0
 clear hr0 hc0
 have HB := Aside0.mk (Below.refl w.heap.size w)
 have H : ((impl_IsConsistent.f k l0).bind fun t768 => (if t768 = true then (impl_ActiveAt.l0 k a1 ([] : List Int) l0 (l0.length : Int) 0) else (some (([] : List Int), false)))) = some (r1, r2) := h
 clear h
 replace H := Option.bind_eq_some_iff.mp H
 obtain ⟨t768, A30, H⟩ := H
 replace H : (if t768 = true then (impl_ActiveAt.l0 k a1 ([] : List Int) l0 (l0.length : Int) 0) else (some (([] : List Int), false))) = some (r1, r2) := H
 have A3 := Aside0.mk A30
 clear A30
 by_cases c4 : t768 = true
 ·
  subst c4
  have H1 : (impl_ActiveAt.l0 k a1 ([] : List Int) l0 (l0.length : Int) 0) = some (r1, r2) := by rw [if_pos rfl] at H; exact H
  clear H
  have H := H1
  clear H1
  have H' := Aside0.mk H
  clear H
  go_enter Try.func33, Try.ntmps33
  go_wp2_with (first | ((with_reducible refine gate_callee (f := 12) rfl ?_); refine goesL_ (some 10) rfl rfl Try.func12 (by kernel_rfl) rfl #[.slice A0 l0.length c0] rfl zq1 ?_; (with_reducible refine (impl_IsConsistent.calls k _ _ l0 true _ ?side1 ?side2 A3.out).mono ?_); (case side1 => repeat (first | exact HR0.out | (with_reducible refine Kd.C_alloc ?_ _) | (with_reducible refine Kd.C_drewN ?_ _) | (with_reducible refine Kd.C_drew ?_))); (case side2 => exact HC0.out); rintro e w5 ⟨rfl, hb⟩; refine ⟨_, rfl, ?_⟩; have n0_ := Aside0.mk (below_step zq0 hb); clear HB; have HB := n0_; clear n0_; (try clear hb); (try clear hb2); (try clear hk); (try clear hi)))
  go_loopg [6, 14] k (fun kq v6 v14 w' => ∃ (x6_1 : List Int) (x14_1 : Int), v14 = .int .i64 x14_1 ∧ Aside0 (impl_ActiveAt.l0 kq a1 x6_1 l0 (l0.length : Int) x14_1 = some (r1, r2)) ∧ Aside0 (kq ≤ k) ∧ Aside0 (Kd.R (Kd.int .i64) 3 w' w.heap.size (fun _ => True) v6 x6_1) ∧ Aside0 (Below w.heap.size w w'))
  case atStart => exact ⟨(([] : List Int)), (0), (by first | rfl | (simp; done) | (simp [*]; done)), H', ⟨Nat.le_refl _⟩, ⟨by first | exact Kd.R_nil _ _ _ _ _ | exact Kd.N_nil _ _ _ _ _ | exact Kd.V_nil _ _ _ _ _ | exact Kd.Q_nil _ _ _ _ _ | exact Kd.S_nil _ _ _ _ _⟩, ⟨by repeat (first | (with_reducible first | exact HB.out | apply below_alloc | apply pw_below_drewN | apply below_drew1) | exact HB.out)⟩⟩
  case round =>
   clear H'
   try clear c1
   try clear p2
   try clear c3
   try clear c4
   obtain ⟨x6_1, x14_1, rfl, HA, HK1, HO_6, HB⟩ := hrel
   cases gk with
   | zero => exact absurd HA.out (by simp [impl_ActiveAt.l0])
   | succ k1 =>
    have H := HA.out
    clear HA
    simp only [impl_ActiveAt.l0] at H
    by_cases c6 : x14_1 < (l0.length : Int)
    ·
     rw [if_pos c6] at H
     have c6b0 : decide (x14_1 < (l0.length : Int)) = true := decide_eq_true c6
     clear c6
     by_cases c7 : 0 ≤ x14_1
     ·
      rw [if_pos c7] at H
      have c7b0 : decide (0 ≤ x14_1) = true := decide_eq_true c7
      clear c7
      by_cases c8 : x14_1 < (l0.length : Int)
      ·
       rw [if_pos c8] at H
       have c8b0 : decide (x14_1 < (l0.length : Int)) = true := decide_eq_true c8
       clear c8
       replace H := Option.bind_eq_some_iff.mp H
       obtain ⟨t771, A90, H⟩ := H
       replace H : (if t771 = true then (if x6_1.length < 17592186044416 then (impl_ActiveAt.l0 k1 a1 (x6_1 ++ [(rd_T31 l0 x14_1).f0]) l0 (l0.length : Int) (wrap64 (x14_1 + 1))) else (none)) else (impl_ActiveAt.l0 k1 a1 x6_1 l0 (l0.length : Int) (wrap64 (x14_1 + 1)))) = some (r1, r2) := H
       have A9 := Aside0.mk A90
       clear A90
       by_cases c10 : t771 = true
       ·
        subst c10
        have H1 : (if x6_1.length < 17592186044416 then (impl_ActiveAt.l0 k1 a1 (x6_1 ++ [(rd_T31 l0 x14_1).f0]) l0 (l0.length : Int) (wrap64 (x14_1 + 1))) else (none)) = some (r1, r2) := by rw [if_pos rfl] at H; exact H
        clear H
        have H := H1
        clear H1
        by_cases c11 : x6_1.length < 17592186044416
        ·
         rw [if_pos c11] at H
         have LMc11 := Aside0.mk c11
         clear c11
         obtain ⟨y772, hy772⟩ : ∃ y_ : List Int, y_ = (x6_1 ++ [(rd_T31 l0 x14_1).f0]) := ⟨_, rfl⟩
         replace H : (impl_ActiveAt.l0 k1 a1 y772 l0 (l0.length : Int) (wrap64 (x14_1 + 1))) = some (r1, r2) := by first | (rw [hy772]; with_reducible exact H) | (have H2_ := (Option.bind_some _ _).symm.trans H; rw [hy772]; with_reducible exact H2_) | (have H2_ := (Option.bind_some _ _).symm.trans H; with_reducible exact H2_) | with_reducible exact H | (rw [hy772]; exact H) | exact H
         have Ny772 := Aside0.mk hy772
         clear hy772
         have H' := Aside0.mk H
         clear H
         have p769 : 0 ≤ (x14_1 : Int) := of_decide_eq_true zq2
         have q769 : x14_1 < (l0.length : Int) := of_decide_eq_true zq2
         obtain ⟨ad769, e769, hx769_0, hx769_1, hx769_2, hx769_3, hx769_4, hx769_5⟩ := at_T31 HR0.out x14_1 p769 q769
         cases e769
         replace hx769_0 := (HB.out.cell (World.block_lt_of_cell? w _ hx769_0)).trans hx769_0
         replace hx769_1 := (HB.out.cell (World.block_lt_of_cell? w _ hx769_1)).trans hx769_1
         replace hx769_2 := (HB.out.cell (World.block_lt_of_cell? w _ hx769_2)).trans hx769_2
         replace hx769_3 := (HB.out.cell (World.block_lt_of_cell? w _ hx769_3)).trans hx769_3
         replace hx769_4 := (HB.out.cell (World.block_lt_of_cell? w _ hx769_4)).trans hx769_4
         replace hx769_5 := (HB.out.cell (World.block_lt_of_cell? w _ hx769_5)).trans hx769_5
         replace p769 := eq_true p769
         replace q769 := eq_true q769
         go_wp2_with (first | ((with_reducible refine gate_dst (N := 8) rfl ?_); refine box_event ?hg (N := 8) ?hd (cs := #[.int .i64 0, .int .i64 0, .int .i64 0, .int .i64 0, .int .i64 0, .int .i64 0]) (t := 31) ?hr ?_; (case hd => rfl); (case hg => rfl); (case hr => first | (go_simp; done) | (go_simp; rfl)); intro gb770 hg w12 hbox hb; have n0_ := Aside0.mk (Kd.R_below (zqR HO_6.out) hb); have n1_ := Aside0.mk (below_step zq0 hb); have n2_ := Aside0.mk (hbox); have n3_ := Aside0.mk ((by rw [hg]; exact (below_size zq0) : w.heap.size ≤ gb770)); have n4_ := Aside0.mk ((by rw [hg]; exact (below_size zq0) : w.heap.size ≤ gb770)); clear HO_6; clear HB; have HO_6 := n0_; have HB := n1_; have BK770 := n2_; have GW770 := n3_; have GE770 := n4_; clear n0_ n1_ n2_ n3_ n4_; clear hb hbox hg; have hcz13_0 : w12.cell? ⟨gb770, 0, none⟩ = some (.int .i64 0) := (blk_cell BK770.out 0).trans rfl; have hcz13_1 : w12.cell? ⟨gb770, 1, none⟩ = some (.int .i64 0) := (blk_cell BK770.out 1).trans rfl; have hcz13_2 : w12.cell? ⟨gb770, 2, none⟩ = some (.int .i64 0) := (blk_cell BK770.out 2).trans rfl; have hcz13_3 : w12.cell? ⟨gb770, 3, none⟩ = some (.int .i64 0) := (blk_cell BK770.out 3).trans rfl; have hcz13_4 : w12.cell? ⟨gb770, 4, none⟩ = some (.int .i64 0) := (blk_cell BK770.out 4).trans rfl; have hcz13_5 : w12.cell? ⟨gb770, 5, none⟩ = some (.int .i64 0) := (blk_cell BK770.out 5).trans rfl; have hfz13_0 := blk_frozen BK770.out 0; have hfz13_1 := blk_frozen BK770.out 1; have hfz13_2 := blk_frozen BK770.out 2; have hfz13_3 := blk_frozen BK770.out 3; have hfz13_4 := blk_frozen BK770.out 4; have hfz13_5 := blk_frozen BK770.out 5) | ((with_reducible refine gate_callee (f := 60) rfl ?_); refine goesL_ (some 24) rfl rfl Try.func60 (by kernel_rfl) rfl #[.int .i64 a1, .int .i64 ((rd_T31 l0 x14_1).f4), .int .i64 (wrap64 (((rd_T31 l0 x14_1).f5) - 1))] rfl zq1 ?_; (with_reducible refine (impl_within.calls a1 ((rd_T31 l0 x14_1).f4) (wrap64 (((rd_T31 l0 x14_1).f5) - 1)) true _ A9.out).mono ?_); rintro e w' ⟨rfl, ⟨nd, rfl⟩⟩; refine ⟨_, rfl, ?_⟩) | ((with_reducible refine gate_builtin (b := .append) (xs := #[.tmp 25, .tmp 28]) rfl ?_); at_builtin; refine Kd.R_append (Kd.int .i64) (w0 := w) w.heap.size rfl (.tmp 25) (.tmp 28) 54 3 (.int .i64 0) 8 rfl Try.underlying54 info3 rfl (by decide) (by omega) u6 x6_1 ((rd_T31 l0 x14_1).f0) [.int .i64 ((rd_T31 l0 x14_1).f0)] (fun _ => True) (fun _ => False) rfl (by first | (go_simp; done) | (go_simp; rfl)) ?aP (fun _ hk => hk.elim) ?aF ?aO ?aB ?aS ?aL ?_; (case aP => exact rfl); (case aB => exact (by repeat (first | (with_reducible first | exact HB.out | apply below_alloc | apply pw_below_drewN | apply below_drew1 | refine below_set ?_ GE770.out) | exact HB.out))); (case aF => exact (fun _ _ => trivial)); (case aO => exact (by (with_reducible repeat (first | apply Kd.R_alloc | apply Kd.R_drewN | apply Kd.R_drew)); exact Kd.R_mono (Kd.R_far (p := ⟨gb770, 5, none⟩) (Kd.R_far (p := ⟨gb770, 4, none⟩) (Kd.R_far (p := ⟨gb770, 3, none⟩) (Kd.R_far (p := ⟨gb770, 2, none⟩) (Kd.R_far (p := ⟨gb770, 1, none⟩) (Kd.R_far (p := ⟨gb770, 0, none⟩) (Kd.R_types HO_6.out BK770.out (by decide)) (fun _ hk => hk.2) (.int .i64 ((rd_T31 l0 x14_1).f0))) (fun _ hk => hk.2) (.int .i64 ((rd_T31 l0 x14_1).f1))) (fun _ hk => hk.2) (.int .i64 ((rd_T31 l0 x14_1).f2))) (fun _ hk => hk.2) (.int .i64 ((rd_T31 l0 x14_1).f3))) (fun _ hk => hk.2) (.int .i64 ((rd_T31 l0 x14_1).f4))) (fun _ hk => hk.2) (.int .i64 ((rd_T31 l0 x14_1).f5))) (fun _ hk => trivial))); (case aS => exact (below_size (by repeat (first | (with_reducible first | exact HB.out | apply below_alloc | apply pw_below_drewN | apply below_drew1 | refine below_set ?_ GE770.out) | exact HB.out)))); (case aL => have := LMc11.out; omega); intro v773 w14 ho hb hg hat; rw [← Ny772.out] at ho; have n0_ := Aside0.mk (blk_grown (g := gb770) (o := .cells #[.int .i64 ((rd_T31 l0 x14_1).f0), .int .i64 ((rd_T31 l0 x14_1).f1), .int .i64 ((rd_T31 l0 x14_1).f2), .int .i64 ((rd_T31 l0 x14_1).f3), .int .i64 ((rd_T31 l0 x14_1).f4), .int .i64 ((rd_T31 l0 x14_1).f5)] 31 (0, 0)) (by (with_reducible repeat (first | refine blk_drewN ?_ _ | refine blk_drew ?_ | refine blk_alloc ?_ _)); refine blk_put (cs := #[.int .i64 ((rd_T31 l0 x14_1).f0), .int .i64 ((rd_T31 l0 x14_1).f1), .int .i64 ((rd_T31 l0 x14_1).f2), .int .i64 ((rd_T31 l0 x14_1).f3), .int .i64 ((rd_T31 l0 x14_1).f4), .int .i64 0]) ?_ 5 _ rfl; (with_reducible repeat (first | refine blk_drewN ?_ _ | refine blk_drew ?_ | refine blk_alloc ?_ _)); refine blk_put (cs := #[.int .i64 ((rd_T31 l0 x14_1).f0), .int .i64 ((rd_T31 l0 x14_1).f1), .int .i64 ((rd_T31 l0 x14_1).f2), .int .i64 ((rd_T31 l0 x14_1).f3), .int .i64 0, .int .i64 0]) ?_ 4 _ rfl; (with_reducible repeat (first | refine blk_drewN ?_ _ | refine blk_drew ?_ | refine blk_alloc ?_ _)); refine blk_put (cs := #[.int .i64 ((rd_T31 l0 x14_1).f0), .int .i64 ((rd_T31 l0 x14_1).f1), .int .i64 ((rd_T31 l0 x14_1).f2), .int .i64 0, .int .i64 0, .int .i64 0]) ?_ 3 _ rfl; (with_reducible repeat (first | refine blk_drewN ?_ _ | refine blk_drew ?_ | refine blk_alloc ?_ _)); refine blk_put (cs := #[.int .i64 ((rd_T31 l0 x14_1).f0), .int .i64 ((rd_T31 l0 x14_1).f1), .int .i64 0, .int .i64 0, .int .i64 0, .int .i64 0]) ?_ 2 _ rfl; (with_reducible repeat (first | refine blk_drewN ?_ _ | refine blk_drew ?_ | refine blk_alloc ?_ _)); refine blk_put (cs := #[.int .i64 ((rd_T31 l0 x14_1).f0), .int .i64 0, .int .i64 0, .int .i64 0, .int .i64 0, .int .i64 0]) ?_ 1 _ rfl; (with_reducible repeat (first | refine blk_drewN ?_ _ | refine blk_drew ?_ | refine blk_alloc ?_ _)); refine blk_put (cs := #[.int .i64 0, .int .i64 0, .int .i64 0, .int .i64 0, .int .i64 0, .int .i64 0]) ?_ 0 _ rfl; (with_reducible repeat (first | refine blk_drewN ?_ _ | refine blk_drew ?_ | refine blk_alloc ?_ _)); exact BK770.out) hg (Kd.R_ne HO_6.out BK770.out (by decide))); have n1_ := Aside0.mk (hb); have n2_ := Aside0.mk (ho); clear BK770; clear HB; clear HO_6; have BK770 := n0_; have HB := n1_; have HO774 := n2_; clear n0_ n1_ n2_; clear ho hb hg hat))
         go_roundg k1
         case measure => have := HK1.out; omega
         case rel => exact ⟨(y772), (wrap64 (x14_1 + 1)), (by first | rfl | (simp; done) | (simp [*]; done)), H', ⟨by have := HK1.out; omega⟩, ⟨by (with_reducible repeat (first | apply Kd.R_alloc | apply Kd.R_drewN | apply Kd.R_drew)); exact HO774.out⟩, ⟨by repeat (first | (with_reducible first | exact HB.out | apply below_alloc | apply pw_below_drewN | apply below_drew1 | refine below_set ?_ GE770.out) | exact HB.out)⟩⟩
        ·
         rw [if_neg c11] at H
         exact absurd H (by simp)
       ·
        replace c10 := Bool.eq_false_iff.mpr c10
        subst c10
        have H1 : (impl_ActiveAt.l0 k1 a1 x6_1 l0 (l0.length : Int) (wrap64 (x14_1 + 1))) = some (r1, r2) := by rw [if_neg (show ¬ (false = true) by decide)] at H; exact H
        clear H
        have H := H1
        clear H1
        have H' := Aside0.mk H
        clear H
        have p769 : 0 ≤ (x14_1 : Int) := of_decide_eq_true zq2
        have q769 : x14_1 < (l0.length : Int) := of_decide_eq_true zq2
        obtain ⟨ad769, e769, hx769_0, hx769_1, hx769_2, hx769_3, hx769_4, hx769_5⟩ := at_T31 HR0.out x14_1 p769 q769
        cases e769
        replace hx769_0 := (HB.out.cell (World.block_lt_of_cell? w _ hx769_0)).trans hx769_0
        replace hx769_1 := (HB.out.cell (World.block_lt_of_cell? w _ hx769_1)).trans hx769_1
        replace hx769_2 := (HB.out.cell (World.block_lt_of_cell? w _ hx769_2)).trans hx769_2
        replace hx769_3 := (HB.out.cell (World.block_lt_of_cell? w _ hx769_3)).trans hx769_3
        replace hx769_4 := (HB.out.cell (World.block_lt_of_cell? w _ hx769_4)).trans hx769_4
        replace hx769_5 := (HB.out.cell (World.block_lt_of_cell? w _ hx769_5)).trans hx769_5
        replace p769 := eq_true p769
        replace q769 := eq_true q769
        go_wp2_with (first | ((with_reducible refine gate_dst (N := 8) rfl ?_); refine box_event ?hg (N := 8) ?hd (cs := #[.int .i64 0, .int .i64 0, .int .i64 0, .int .i64 0, .int .i64 0, .int .i64 0]) (t := 31) ?hr ?_; (case hd => rfl); (case hg => rfl); (case hr => first | (go_simp; done) | (go_simp; rfl)); intro gb770 hg w15 hbox hb; have n0_ := Aside0.mk (Kd.R_below (zqR HO_6.out) hb); have n1_ := Aside0.mk (below_step zq0 hb); have n2_ := Aside0.mk (hbox); have n3_ := Aside0.mk ((by rw [hg]; exact (below_size zq0) : w.heap.size ≤ gb770)); have n4_ := Aside0.mk ((by rw [hg]; exact (below_size zq0) : w.heap.size ≤ gb770)); clear HO_6; clear HB; have HO_6 := n0_; have HB := n1_; have BK770 := n2_; have GW770 := n3_; have GE770 := n4_; clear n0_ n1_ n2_ n3_ n4_; clear hb hbox hg; have hcz16_0 : w15.cell? ⟨gb770, 0, none⟩ = some (.int .i64 0) := (blk_cell BK770.out 0).trans rfl; have hcz16_1 : w15.cell? ⟨gb770, 1, none⟩ = some (.int .i64 0) := (blk_cell BK770.out 1).trans rfl; have hcz16_2 : w15.cell? ⟨gb770, 2, none⟩ = some (.int .i64 0) := (blk_cell BK770.out 2).trans rfl; have hcz16_3 : w15.cell? ⟨gb770, 3, none⟩ = some (.int .i64 0) := (blk_cell BK770.out 3).trans rfl; have hcz16_4 : w15.cell? ⟨gb770, 4, none⟩ = some (.int .i64 0) := (blk_cell BK770.out 4).trans rfl; have hcz16_5 : w15.cell? ⟨gb770, 5, none⟩ = some (.int .i64 0) := (blk_cell BK770.out 5).trans rfl; have hfz16_0 := blk_frozen BK770.out 0; have hfz16_1 := blk_frozen BK770.out 1; have hfz16_2 := blk_frozen BK770.out 2; have hfz16_3 := blk_frozen BK770.out 3; have hfz16_4 := blk_frozen BK770.out 4; have hfz16_5 := blk_frozen BK770.out 5) | ((with_reducible refine gate_callee (f := 60) rfl ?_); refine goesL_ (some 24) rfl rfl Try.func60 (by kernel_rfl) rfl #[.int .i64 a1, .int .i64 ((rd_T31 l0 x14_1).f4), .int .i64 (wrap64 (((rd_T31 l0 x14_1).f5) - 1))] rfl zq1 ?_; (with_reducible refine (impl_within.calls a1 ((rd_T31 l0 x14_1).f4) (wrap64 (((rd_T31 l0 x14_1).f5) - 1)) false _ A9.out).mono ?_); rintro e w' ⟨rfl, ⟨nd, rfl⟩⟩; refine ⟨_, rfl, ?_⟩))
        go_roundg k1
        case measure => have := HK1.out; omega
        case rel => exact ⟨(x6_1), (wrap64 (x14_1 + 1)), (by first | rfl | (simp; done) | (simp [*]; done)), H', ⟨by have := HK1.out; omega⟩, ⟨by (with_reducible repeat (first | apply Kd.R_alloc | apply Kd.R_drewN | apply Kd.R_drew)); exact Kd.R_mono (Kd.R_far (p := ⟨gb770, 5, none⟩) (Kd.R_far (p := ⟨gb770, 4, none⟩) (Kd.R_far (p := ⟨gb770, 3, none⟩) (Kd.R_far (p := ⟨gb770, 2, none⟩) (Kd.R_far (p := ⟨gb770, 1, none⟩) (Kd.R_far (p := ⟨gb770, 0, none⟩) (Kd.R_types HO_6.out BK770.out (by decide)) (fun _ hk => hk.2) (.int .i64 ((rd_T31 l0 x14_1).f0))) (fun _ hk => hk.2) (.int .i64 ((rd_T31 l0 x14_1).f1))) (fun _ hk => hk.2) (.int .i64 ((rd_T31 l0 x14_1).f2))) (fun _ hk => hk.2) (.int .i64 ((rd_T31 l0 x14_1).f3))) (fun _ hk => hk.2) (.int .i64 ((rd_T31 l0 x14_1).f4))) (fun _ hk => hk.2) (.int .i64 ((rd_T31 l0 x14_1).f5))) (fun _ hk => trivial)⟩, ⟨by repeat (first | (with_reducible first | exact HB.out | apply below_alloc | apply pw_below_drewN | apply below_drew1 | refine below_set ?_ GE770.out) | exact HB.out)⟩⟩
      ·
       rw [if_neg c8] at H
       exact absurd H (by simp)
     ·
      rw [if_neg c7] at H
      exact absurd H (by simp)
    ·
     rw [if_neg c6] at H
     have c6b0 : decide (x14_1 < (l0.length : Int)) = false := decide_eq_false c6
     clear c6
     simp only [Option.some.injEq, Prod.mk.injEq] at H
     obtain ⟨rfl, rfl⟩ := H
     go_wp2
     go_ret2
     exact ⟨_, by first | rfl | (simp [errW_none, errW_some] <;> rfl) | (simp [*, errW_none, errW_some] <;> rfl), by (with_reducible repeat (first | apply Kd.R_alloc | apply Kd.R_drewN | apply Kd.R_drew)); exact HO_6.out, by repeat (first | (with_reducible first | exact HB.out | apply below_alloc | apply pw_below_drewN | apply below_drew1) | exact HB.out)⟩
 ·
  replace c4 := Bool.eq_false_iff.mpr c4
  subst c4
  have H1 : (some (([] : List Int), false)) = some (r1, r2) := by rw [if_neg (show ¬ (false = true) by decide)] at H; exact H
  clear H
  have H := H1
  clear H1
  simp only [Option.some.injEq, Prod.mk.injEq] at H
  obtain ⟨rfl, rfl⟩ := H
  go_enter Try.func33, Try.ntmps33
  go_wp2_with (first | ((with_reducible refine gate_callee (f := 12) rfl ?_); refine goesL_ (some 10) rfl rfl Try.func12 (by kernel_rfl) rfl #[.slice A0 l0.length c0] rfl zq1 ?_; (with_reducible refine (impl_IsConsistent.calls k _ _ l0 false _ ?side1 ?side2 A3.out).mono ?_); (case side1 => repeat (first | exact HR0.out | (with_reducible refine Kd.C_alloc ?_ _) | (with_reducible refine Kd.C_drewN ?_ _) | (with_reducible refine Kd.C_drew ?_))); (case side2 => exact HC0.out); rintro e w17 ⟨rfl, hb⟩; refine ⟨_, rfl, ?_⟩; have n0_ := Aside0.mk (below_step zq0 hb); clear HB; have HB := n0_; clear n0_; (try clear hb); (try clear hb2); (try clear hk); (try clear hi)))
  go_ret2
  exact ⟨_, by first | rfl | (simp [errW_none, errW_some] <;> rfl) | (simp [*, errW_none, errW_some] <;> rfl), by first | exact Kd.R_nil _ _ _ _ _ | exact Kd.N_nil _ _ _ _ _ | exact Kd.V_nil _ _ _ _ _ | exact Kd.Q_nil _ _ _ _ _ | exact Kd.S_nil _ _ _ _ _, by repeat (first | (with_reducible first | exact HB.out | apply below_alloc | apply pw_below_drewN | apply below_drew1) | exact HB.out)⟩

end Go.Proofs.Ytklepiechbnenaa.Q
namespace Go.Proofs.Ytklepiechbnenaa.Q
open Go.RowKit Go.Proofs.YtklepiechbnenaaW.PrintWords Go.Proofs.YtklepiechbnenaaW.PrintLast Go.Proofs.YtklepiechbnenaaW.PrintMore
attribute [local go_sem] max2_int min2_int max_two min_two max_three min_three max_four min_four   -- for this text's walks alone
set_option linter.unusedVariables false
set_option linter.unusedSimpArgs false

/-! ### laws_vHas: function 34 -/
def laws_vHas.l0 : Nat → List Int → Int → Int → Option (Bool)
 | 0, _, _, _ => none
 | k + 1, x0, x1, x5 => if x5 < (x0.length : Int) then (if 0 ≤ x5 then (if (rd x0 x5) = x1 then (some true) else (laws_vHas.l0 k x0 x1 (wrap64 (x5 + 1)))) else (none)) else (some false)
def laws_vHas.f (k : Nat) (l0 : List Int) (a1 : Int) : Option (Bool) := laws_vHas.l0 k l0 a1 0
theorem laws_vHas.mono_l : ∀ k, (∀ y0 y1 y2, LeO (laws_vHas.l0 k y0 y1 y2) (laws_vHas.l0 (k + 1) y0 y1 y2))
 | 0 => fun _ _ _ r h => by simp [laws_vHas.l0] at h
 | k + 1 => by
  have ih0 := laws_vHas.mono_l k
  ·
   intro y0 y1 y2
   unfold laws_vHas.l0
   repeat' first
   | (with_reducible exact ih0 _ _ _)
   | (with_reducible exact LeO.refl _)
   | (with_reducible exact LeO.none _)
   | (with_reducible refine LeO.ite ?_ ?_)
   | (with_reducible refine LeO.bind ?_ (fun _ => ?_))
   | exact ih0 _ _ _
   | exact LeO.none _
   | refine LeO.ite ?_ ?_
   | refine LeO.bind ?_ (fun _ => ?_)
theorem laws_vHas.mono : ∀ a0 a1 k, LeO (laws_vHas.f k a0 a1) (laws_vHas.f (k + 1) a0 a1) := by
 intro a0 a1 k
 have ih0 := laws_vHas.mono_l k
 unfold laws_vHas.f
 repeat' first
   | (with_reducible exact ih0 _ _ _)
   | (with_reducible exact LeO.refl _)
   | (with_reducible exact LeO.none _)
   | (with_reducible refine LeO.ite ?_ ?_)
   | (with_reducible refine LeO.bind ?_ (fun _ => ?_))
   | exact ih0 _ _ _
   | exact LeO.none _
   | refine LeO.ite ?_ ?_
   | refine LeO.bind ?_ (fun _ => ?_)
set_option maxHeartbeats 8000000 in
set_option maxRecDepth 100000 in
theorem laws_vHas.calls (k : Nat) (A0 : Option Addr) (c0 : Nat) (l0 : List Int) (a1 : Int) (r : Bool) (w : World) (hr0 : Kd.C (Kd.int .i64) w A0 l0.length l0) (hc0 : l0.length ≤ c0) (h : laws_vHas.f k l0 a1 = some r) :
  Calls Try.prog 34 #[.slice A0 l0.length c0, .int .i64 a1] w fun e w' => e = .returned (.bool r) ∧ Drawn0 w w' := by
 have HR0 := Aside0.mk hr0
 have HC0 := Aside0.mk hc0
 clear hr0 hc0
 have H : (laws_vHas.l0 k l0 a1 0) = some r := h
 clear h
 have H' := Aside0.mk H
 clear H
 go_enter Try.func34, Try.ntmps34
 go_wp2
 go_loopg [5] k (fun kq v5 w' => ∃ (x5_1 : Int), v5 = .int .i64 x5_1 ∧ Aside0 (laws_vHas.l0 kq l0 a1 x5_1 = some r) ∧ Aside0 (kq ≤ k) ∧ Drawn0 w w')
 case atStart => exact ⟨(0), (by first | rfl | (simp; done) | (simp [*]; done)), H', ⟨Nat.le_refl _⟩, by repeat (first | exact Drawn0.refl _ | apply Drawn0.step)⟩
 case round =>
  clear H'
  try clear p2
  obtain ⟨x5_1, rfl, HA, HK1, ⟨m1, rfl⟩⟩ := hrel
  cases gk with
  | zero => exact absurd HA.out (by simp [laws_vHas.l0])
  | succ k1 =>
   have H := HA.out
   clear HA
   simp only [laws_vHas.l0] at H
   by_cases c3 : x5_1 < (l0.length : Int)
   ·
    rw [if_pos c3] at H
    have c3b0 : decide (x5_1 < (l0.length : Int)) = true := decide_eq_true c3
    clear c3
    by_cases c4 : 0 ≤ x5_1
    ·
     rw [if_pos c4] at H
     have c4b0 : decide (0 ≤ x5_1) = true := decide_eq_true c4
     clear c4
     by_cases c5 : (rd l0 x5_1) = a1
     ·
      rw [if_pos c5] at H
      have c5b0 : ((rd l0 x5_1) == a1) = true := beq_iff_eq.mpr c5
      have c5b1 : ((rd l0 x5_1) != a1) = false := bne_eq_false_iff_eq.mpr c5
      clear c5
      obtain rfl := Option.some.inj H
      have p775 : 0 ≤ (x5_1 : Int) := of_decide_eq_true zq2
      have q775 : x5_1 < (l0.length : Int) := of_decide_eq_true zq2
      obtain ⟨ad775, e775, hx775_0⟩ := Kd.at_int HR0.out x5_1 p775 q775
      cases e775
      replace p775 := eq_true p775
      replace q775 := eq_true q775
      go_wp2
      go_ret
      exact ⟨by first | rfl | (simp; done) | (simp [*]; done), by repeat (first | exact Drawn0.refl _ | apply Drawn0.step)⟩
     ·
      rw [if_neg c5] at H
      have c5b0 : ((rd l0 x5_1) == a1) = false := beq_eq_false_iff_ne.mpr c5
      have c5b1 : ((rd l0 x5_1) != a1) = true := bne_iff_ne.mpr c5
      have H' := Aside0.mk H
      clear H
      have p775 : 0 ≤ (x5_1 : Int) := of_decide_eq_true zq2
      have q775 : x5_1 < (l0.length : Int) := of_decide_eq_true zq2
      obtain ⟨ad775, e775, hx775_0⟩ := Kd.at_int HR0.out x5_1 p775 q775
      cases e775
      replace p775 := eq_true p775
      replace q775 := eq_true q775
      go_wp2
      go_roundg k1
      case measure => have := HK1.out; omega
      case rel => exact ⟨(wrap64 (x5_1 + 1)), (by first | rfl | (simp; done) | (simp [*]; done)), H', ⟨by have := HK1.out; omega⟩, by repeat (first | exact Drawn0.refl _ | apply Drawn0.step)⟩
    ·
     rw [if_neg c4] at H
     exact absurd H (by simp)
   ·
    rw [if_neg c3] at H
    have c3b0 : decide (x5_1 < (l0.length : Int)) = false := decide_eq_false c3
    clear c3
    obtain rfl := Option.some.inj H
    go_wp2
    go_ret
    exact ⟨by first | rfl | (simp; done) | (simp [*]; done), by repeat (first | exact Drawn0.refl _ | apply Drawn0.step)⟩

end Go.Proofs.Ytklepiechbnenaa.Q
namespace Go.Proofs.Ytklepiechbnenaa.Q
open Go.RowKit Go.Proofs.YtklepiechbnenaaW.PrintWords Go.Proofs.YtklepiechbnenaaW.PrintLast Go.Proofs.YtklepiechbnenaaW.PrintMore
attribute [local go_sem] max2_int min2_int max_two min_two max_three min_three max_four min_four   -- for this text's walks alone
set_option linter.unusedVariables false
set_option linter.unusedSimpArgs false

/-! ### impl_MeetingWarnings: function 36 -/
mutual
def impl_MeetingWarnings.j0 : Nat → List (S31) → Bool → Int → Int → Int → Int → Int → Int → Option (List Int × Bool)
 | 0, _, _, _, _, _, _, _, _ => none
 | k + 1, x0, x16, x777000, x777001, x777002, x777003, x777004, x777005 => if x16 = true then (some (([] : List Int), false)) else (impl_MeetingWarnings.l0 k ([] : List Int) x0 (x0.length : Int) 0 x777000 x777001 x777002 x777003 x777004 x777005)
def impl_MeetingWarnings.l0 : Nat → List Int → List (S31) → Int → Int → Int → Int → Int → Int → Int → Int → Option (List Int × Bool)
 | 0, _, _, _, _, _, _, _, _, _, _ => none
 | k + 1, x6, x17, x18, x19, x777000, x777001, x777002, x777003, x777004, x777005 => if x19 < x18 then (if 0 ≤ x19 then (if x19 < (x17.length : Int) then (if ((rd_T31 x17 x19).f0) = x777000 then (impl_MeetingWarnings.l0 k x6 x17 x18 (wrap64 (x19 + 1)) x777000 x777001 x777002 x777003 x777004 x777005) else ((impl_doMeet.f x777000 x777001 x777002 x777003 x777004 x777005 ((rd_T31 x17 x19).f0) ((rd_T31 x17 x19).f1) ((rd_T31 x17 x19).f2) ((rd_T31 x17 x19).f3) ((rd_T31 x17 x19).f4) ((rd_T31 x17 x19).f5)).bind fun t781 => (if t781 = true then (if x6.length < 17592186044416 then (impl_MeetingWarnings.l0 k (x6 ++ [(rd_T31 x17 x19).f0]) x17 x18 (wrap64 (x19 + 1)) x777000 x777001 x777002 x777003 x777004 x777005) else (none)) else (impl_MeetingWarnings.l0 k x6 x17 x18 (wrap64 (x19 + 1)) x777000 x777001 x777002 x777003 x777004 x777005)))) else (none)) else (none)) else (some (x6, true))
end
def impl_MeetingWarnings.f (k : Nat) (l0 : List (S31)) (a1_0 : Int) (a1_1 : Int) (a1_2 : Int) (a1_3 : Int) (a1_4 : Int) (a1_5 : Int) : Option (List Int × Bool) := (impl_IsConsistent.f k l0).bind fun t777 => (if t777 = true then ((impl_IsValidWarning.f a1_0 a1_1 a1_2 a1_3 a1_4 a1_5).bind fun t778 => (impl_MeetingWarnings.j0 k l0 (!t778) a1_0 a1_1 a1_2 a1_3 a1_4 a1_5)) else (impl_MeetingWarnings.j0 k l0 true a1_0 a1_1 a1_2 a1_3 a1_4 a1_5))
theorem impl_MeetingWarnings.mono_l : ∀ k, (∀ y0 y1 y2 y3 y4 y5 y6 y7, LeO (impl_MeetingWarnings.j0 k y0 y1 y2 y3 y4 y5 y6 y7) (impl_MeetingWarnings.j0 (k + 1) y0 y1 y2 y3 y4 y5 y6 y7)) ∧ (∀ y0 y1 y2 y3 y4 y5 y6 y7 y8 y9, LeO (impl_MeetingWarnings.l0 k y0 y1 y2 y3 y4 y5 y6 y7 y8 y9) (impl_MeetingWarnings.l0 (k + 1) y0 y1 y2 y3 y4 y5 y6 y7 y8 y9))
 | 0 => ⟨fun _ _ _ _ _ _ _ _ r h => by simp [impl_MeetingWarnings.j0] at h, fun _ _ _ _ _ _ _ _ _ _ r h => by simp [impl_MeetingWarnings.l0] at h⟩
 | k + 1 => by
  obtain ⟨ih0, ih1⟩ := impl_MeetingWarnings.mono_l k
  refine ⟨?_, ?_⟩
  ·
   intro y0 y1 y2 y3 y4 y5 y6 y7
   unfold impl_MeetingWarnings.j0
   repeat' first
   | (with_reducible exact ih0 _ _ _ _ _ _ _ _)
   | (with_reducible exact ih1 _ _ _ _ _ _ _ _ _ _)
   | (with_reducible exact impl_IsConsistent.mono _ _)
   | (with_reducible exact LeO.refl _)
   | (with_reducible exact LeO.none _)
   | (with_reducible refine LeO.ite ?_ ?_)
   | (with_reducible refine LeO.bind ?_ (fun _ => ?_))
   | exact ih0 _ _ _ _ _ _ _ _
   | exact ih1 _ _ _ _ _ _ _ _ _ _
   | exact impl_IsConsistent.mono _ _
   | exact LeO.none _
   | refine LeO.ite ?_ ?_
   | refine LeO.bind ?_ (fun _ => ?_)
  ·
   intro y0 y1 y2 y3 y4 y5 y6 y7 y8 y9
   unfold impl_MeetingWarnings.l0
   repeat' first
   | (with_reducible exact ih0 _ _ _ _ _ _ _ _)
   | (with_reducible exact ih1 _ _ _ _ _ _ _ _ _ _)
   | (with_reducible exact impl_IsConsistent.mono _ _)
   | (with_reducible exact LeO.refl _)
   | (with_reducible exact LeO.none _)
   | (with_reducible refine LeO.ite ?_ ?_)
   | (with_reducible refine LeO.bind ?_ (fun _ => ?_))
   | exact ih0 _ _ _ _ _ _ _ _
   | exact ih1 _ _ _ _ _ _ _ _ _ _
   | exact impl_IsConsistent.mono _ _
   | exact LeO.none _
   | refine LeO.ite ?_ ?_
   | refine LeO.bind ?_ (fun _ => ?_)
theorem impl_MeetingWarnings.mono : ∀ a0 a1 a2 a3 a4 a5 a6 k, LeO (impl_MeetingWarnings.f k a0 a1 a2 a3 a4 a5 a6) (impl_MeetingWarnings.f (k + 1) a0 a1 a2 a3 a4 a5 a6) := by
 intro a0 a1 a2 a3 a4 a5 a6 k
 obtain ⟨ih0, ih1⟩ := impl_MeetingWarnings.mono_l k
 unfold impl_MeetingWarnings.f
 repeat' first
   | (with_reducible exact ih0 _ _ _ _ _ _ _ _)
   | (with_reducible exact ih1 _ _ _ _ _ _ _ _ _ _)
   | (with_reducible exact impl_IsConsistent.mono _ _)
   | (with_reducible exact LeO.refl _)
   | (with_reducible exact LeO.none _)
   | (with_reducible refine LeO.ite ?_ ?_)
   | (with_reducible refine LeO.bind ?_ (fun _ => ?_))
   | exact ih0 _ _ _ _ _ _ _ _
   | exact ih1 _ _ _ _ _ _ _ _ _ _
   | exact impl_IsConsistent.mono _ _
   | exact LeO.none _
   | refine LeO.ite ?_ ?_
   | refine LeO.bind ?_ (fun _ => ?_)
set_option maxHeartbeats 8000000 in
set_option maxRecDepth 100000 in
theorem impl_MeetingWarnings.calls (k : Nat) (A0 : Option Addr) (c0 : Nat) (l0 : List (S31)) (a1_0 : Int) (a1_1 : Int) (a1_2 : Int) (a1_3 : Int) (a1_4 : Int) (a1_5 : Int) (r1 : List Int) (r2 : Bool) (w : World) (hr0 : Kd.C k31 w A0 l0.length l0) (hc0 : l0.length ≤ c0) (h : impl_MeetingWarnings.f k l0 a1_0 a1_1 a1_2 a1_3 a1_4 a1_5 = some (r1, r2)) :
  Calls Try.prog 36 #[.slice A0 l0.length c0, .agg #[.int .i64 a1_0, .int .i64 a1_1, .int .i64 a1_2, .int .i64 a1_3, .int .i64 a1_4, .int .i64 a1_5]] w fun e w' => ∃ v0_ : Value, e = .returned (.tuple #[v0_, .bool r2]) ∧ Kd.R (Kd.int .i64) 3 w' w.heap.size (fun _ => True) v0_ r1 ∧ Below w.heap.size w w' := by
 have hu31 := Try.underlying31
 have HR0 := Aside0.mk hr0
 have HC0 := Aside0.mk hc0
 clear hr0 hc0
 have HB := Aside0.mk (Below.refl w.heap.size w)
 have H : ((impl_IsConsistent.f k l0).bind fun t777 => (if t777 = true then ((impl_IsValidWarning.f a1_0 a1_1 a1_2 a1_3 a1_4 a1_5).bind fun t778 => (impl_MeetingWarnings.j0 k l0 (!t778) a1_0 a1_1 a1_2 a1_3 a1_4 a1_5)) else (impl_MeetingWarnings.j0 k l0 true a1_0 a1_1 a1_2 a1_3 a1_4 a1_5))) = some (r1, r2) := h
 clear h
 have HC3 := Aside0.mk H
 clear H
 go_enter Try.func36, Try.ntmps36
 go_upto_region 1 with (first | ((with_reducible refine gate_dst (N := 3) rfl ?_); refine box_event ?hg (N := 3) ?hd (cs := #[.int .i64 a1_0, .int .i64 a1_1, .int .i64 a1_2, .int .i64 a1_3, .int .i64 a1_4, .int .i64 a1_5]) (t := 31) ?hr ?_; (case hd => rfl); (case hg => rfl); (case hr => first | (go_simp; done) | (go_simp; rfl)); intro gb776 hg w4 hbox hb; have n0_ := Aside0.mk (below_step zq0 hb); have n1_ := Aside0.mk (hbox); have n2_ := Aside0.mk ((by rw [hg]; exact (below_size zq0) : w.heap.size ≤ gb776)); have n3_ := Aside0.mk ((by rw [hg]; exact (below_size zq0) : w.heap.size ≤ gb776)); clear HB; have HB := n0_; have BK776 := n1_; have GW776 := n2_; have GE776 := n3_; clear n0_ n1_ n2_ n3_; clear hb hbox hg))
 (try simp only [Act.put, List.setIfInBounds_toArray, List.set_cons_zero, List.set_cons_succ])
 go_cut [16] (fun v16 wc => ∃ (kq : Nat) (x16_2 : Bool), v16 = .bool x16_2 ∧ Aside0 (impl_MeetingWarnings.j0 kq l0 x16_2 a1_0 a1_1 a1_2 a1_3 a1_4 a1_5 = some (r1, r2)) ∧ Aside0 (kq ≤ k) ∧ Aside0 (wc.heap[gb776]? = some (.cells #[.int .i64 a1_0, .int .i64 a1_1, .int .i64 a1_2, .int .i64 a1_3, .int .i64 a1_4, .int .i64 a1_5] 31 (0, 0))) ∧ Aside0 (Below w.heap.size w wc))
 case first =>
  have H := HC3.out
  clear HC3
  replace H := Option.bind_eq_some_iff.mp H
  obtain ⟨t777, A50, H⟩ := H
  replace H : (if t777 = true then ((impl_IsValidWarning.f a1_0 a1_1 a1_2 a1_3 a1_4 a1_5).bind fun t778 => (impl_MeetingWarnings.j0 k l0 (!t778) a1_0 a1_1 a1_2 a1_3 a1_4 a1_5)) else (impl_MeetingWarnings.j0 k l0 true a1_0 a1_1 a1_2 a1_3 a1_4 a1_5)) = some (r1, r2) := H
  have A5 := Aside0.mk A50
  clear A50
  by_cases c6 : t777 = true
  ·
   subst c6
   have H1 : ((impl_IsValidWarning.f a1_0 a1_1 a1_2 a1_3 a1_4 a1_5).bind fun t778 => (impl_MeetingWarnings.j0 k l0 (!t778) a1_0 a1_1 a1_2 a1_3 a1_4 a1_5)) = some (r1, r2) := by rw [if_pos rfl] at H; exact H
   clear H
   have H := H1
   clear H1
   replace H := Option.bind_eq_some_iff.mp H
   obtain ⟨t778, A70, H⟩ := H
   replace H : (impl_MeetingWarnings.j0 k l0 (!t778) a1_0 a1_1 a1_2 a1_3 a1_4 a1_5) = some (r1, r2) := H
   have A7 := Aside0.mk A70
   clear A70
   have H' := Aside0.mk H
   clear H
   go_wp2_with (first | ((with_reducible refine gate_callee (f := 12) rfl ?_); refine goesL_ (some 10) rfl rfl Try.func12 (by kernel_rfl) rfl #[.slice A0 l0.length c0] rfl zq1 ?_; (with_reducible refine (impl_IsConsistent.calls k _ _ l0 true _ ?side1 ?side2 A5.out).mono ?_); (case side1 => repeat (first | exact (Kd.C_below HR0.out HB.out) | (with_reducible refine Kd.C_alloc ?_ _) | (with_reducible refine Kd.C_drewN ?_ _) | (with_reducible refine Kd.C_drew ?_))); (case side2 => exact HC0.out); rintro e w8 ⟨rfl, hb⟩; refine ⟨_, rfl, ?_⟩; have n0_ := Aside0.mk (blk_below (g := gb776) (o := .cells #[.int .i64 a1_0, .int .i64 a1_1, .int .i64 a1_2, .int .i64 a1_3, .int .i64 a1_4, .int .i64 a1_5] 31 (0, 0)) (zqK BK776.out) hb); have n1_ := Aside0.mk (below_step zq17 hb); clear BK776; clear HB; have BK776 := n0_; have HB := n1_; clear n0_ n1_; (try clear hb); (try clear hb2); (try clear hk); (try clear hi); have hcz9_0 : w8.cell? ⟨gb776, 0, none⟩ = some (.int .i64 a1_0) := (blk_cell BK776.out 0).trans rfl; have hcz9_1 : w8.cell? ⟨gb776, 1, none⟩ = some (.int .i64 a1_1) := (blk_cell BK776.out 1).trans rfl; have hcz9_2 : w8.cell? ⟨gb776, 2, none⟩ = some (.int .i64 a1_2) := (blk_cell BK776.out 2).trans rfl; have hcz9_3 : w8.cell? ⟨gb776, 3, none⟩ = some (.int .i64 a1_3) := (blk_cell BK776.out 3).trans rfl; have hcz9_4 : w8.cell? ⟨gb776, 4, none⟩ = some (.int .i64 a1_4) := (blk_cell BK776.out 4).trans rfl; have hcz9_5 : w8.cell? ⟨gb776, 5, none⟩ = some (.int .i64 a1_5) := (blk_cell BK776.out 5).trans rfl; have hfz9_0 := blk_frozen BK776.out 0; have hfz9_1 := blk_frozen BK776.out 1; have hfz9_2 := blk_frozen BK776.out 2; have hfz9_3 := blk_frozen BK776.out 3; have hfz9_4 := blk_frozen BK776.out 4; have hfz9_5 := blk_frozen BK776.out 5) | (go_at_call 39; (with_reducible refine (impl_IsValidWarning.calls a1_0 a1_1 a1_2 a1_3 a1_4 a1_5 t778 _ A7.out).mono ?_); rintro e w10 ⟨rfl, hb⟩; have n0_ := Aside0.mk (blk_below (g := gb776) (o := .cells #[.int .i64 a1_0, .int .i64 a1_1, .int .i64 a1_2, .int .i64 a1_3, .int .i64 a1_4, .int .i64 a1_5] 31 (0, 0)) (zqK BK776.out) hb); have n1_ := Aside0.mk (below_step zq17 hb); clear BK776; clear HB; have BK776 := n0_; have HB := n1_; clear n0_ n1_; (try clear hb); (try clear hb2); (try clear hk); (try clear hi)))
   go_meet
   case rel => exact ⟨_, (!t778), (by first | rfl | (simp; done) | (simp [*]; done)), H', ⟨by first | omega | exact Nat.le_refl _⟩, ⟨by (with_reducible repeat (first | refine blk_drewN ?_ _ | refine blk_drew ?_ | refine blk_alloc ?_ _)); exact BK776.out⟩, ⟨by repeat (first | (with_reducible first | exact HB.out | apply below_alloc | apply pw_below_drewN | apply below_drew1 | refine below_set ?_ GE776.out) | exact HB.out)⟩⟩
  ·
   replace c6 := Bool.eq_false_iff.mpr c6
   subst c6
   have H1 : (impl_MeetingWarnings.j0 k l0 true a1_0 a1_1 a1_2 a1_3 a1_4 a1_5) = some (r1, r2) := by rw [if_neg (show ¬ (false = true) by decide)] at H; exact H
   clear H
   have H := H1
   clear H1
   have H' := Aside0.mk H
   clear H
   go_wp2_with (first | ((with_reducible refine gate_callee (f := 12) rfl ?_); refine goesL_ (some 10) rfl rfl Try.func12 (by kernel_rfl) rfl #[.slice A0 l0.length c0] rfl zq1 ?_; (with_reducible refine (impl_IsConsistent.calls k _ _ l0 false _ ?side1 ?side2 A5.out).mono ?_); (case side1 => repeat (first | exact (Kd.C_below HR0.out HB.out) | (with_reducible refine Kd.C_alloc ?_ _) | (with_reducible refine Kd.C_drewN ?_ _) | (with_reducible refine Kd.C_drew ?_))); (case side2 => exact HC0.out); rintro e w11 ⟨rfl, hb⟩; refine ⟨_, rfl, ?_⟩; have n0_ := Aside0.mk (blk_below (g := gb776) (o := .cells #[.int .i64 a1_0, .int .i64 a1_1, .int .i64 a1_2, .int .i64 a1_3, .int .i64 a1_4, .int .i64 a1_5] 31 (0, 0)) (zqK BK776.out) hb); have n1_ := Aside0.mk (below_step zq17 hb); clear BK776; clear HB; have BK776 := n0_; have HB := n1_; clear n0_ n1_; (try clear hb); (try clear hb2); (try clear hk); (try clear hi)))
   go_meet
   case rel => exact ⟨_, (true), (by first | rfl | (simp; done) | (simp [*]; done)), H', ⟨by first | omega | exact Nat.le_refl _⟩, ⟨by (with_reducible repeat (first | refine blk_drewN ?_ _ | refine blk_drew ?_ | refine blk_alloc ?_ _)); exact BK776.out⟩, ⟨by repeat (first | (with_reducible first | exact HB.out | apply below_alloc | apply pw_below_drewN | apply below_drew1 | refine below_set ?_ GE776.out) | exact HB.out)⟩⟩
 case rest =>
  clear HC3
  try clear c1
  try clear p2
  try clear c3
  try clear c6
  try clear hcz9_0
  try clear hcz9_1
  try clear hcz9_2
  try clear hcz9_3
  try clear hcz9_4
  try clear hcz9_5
  try clear hfz9_0
  try clear hfz9_1
  try clear hfz9_2
  try clear hfz9_3
  try clear hfz9_4
  try clear hfz9_5
  obtain ⟨kq, x16_2, rfl, HA, HJ2, BK776, HB⟩ := hcut
  cases kq with
  | zero => exact absurd HA.out (by simp [impl_MeetingWarnings.j0])
  | succ kj2 =>
   have H := HA.out
   clear HA
   simp only [impl_MeetingWarnings.j0] at H
   by_cases c12 : x16_2 = true
   ·
    subst c12
    have H1 : (some (([] : List Int), false)) = some (r1, r2) := by rw [if_pos rfl] at H; exact H
    clear H
    have H := H1
    clear H1
    simp only [Option.some.injEq, Prod.mk.injEq] at H
    obtain ⟨rfl, rfl⟩ := H
    go_wp2
    go_ret2
    exact ⟨_, by first | rfl | (simp [errW_none, errW_some] <;> rfl) | (simp [*, errW_none, errW_some] <;> rfl), by first | exact Kd.R_nil _ _ _ _ _ | exact Kd.N_nil _ _ _ _ _ | exact Kd.V_nil _ _ _ _ _ | exact Kd.Q_nil _ _ _ _ _ | exact Kd.S_nil _ _ _ _ _, by repeat (first | (with_reducible first | exact HB.out | apply below_alloc | apply pw_below_drewN | apply below_drew1 | refine below_set ?_ GE776.out) | exact HB.out)⟩
   ·
    replace c12 := Bool.eq_false_iff.mpr c12
    subst c12
    have H1 : (impl_MeetingWarnings.l0 kj2 ([] : List Int) l0 (l0.length : Int) 0 a1_0 a1_1 a1_2 a1_3 a1_4 a1_5) = some (r1, r2) := by rw [if_neg (show ¬ (false = true) by decide)] at H; exact H
    clear H
    have H := H1
    clear H1
    have H' := Aside0.mk H
    clear H
    go_wp2
    go_loopg [6, 19] kj2 (fun kq v6 v19 w' => ∃ (x6_2 : List Int) (x19_2 : Int), v19 = .int .i64 x19_2 ∧ Aside0 (impl_MeetingWarnings.l0 kq x6_2 l0 (l0.length : Int) x19_2 a1_0 a1_1 a1_2 a1_3 a1_4 a1_5 = some (r1, r2)) ∧ Aside0 (kq ≤ kj2) ∧ Aside0 (Kd.R (Kd.int .i64) 3 w' w.heap.size (fun _ => True) v6 x6_2) ∧ Aside0 (w'.heap[gb776]? = some (.cells #[.int .i64 a1_0, .int .i64 a1_1, .int .i64 a1_2, .int .i64 a1_3, .int .i64 a1_4, .int .i64 a1_5] 31 (0, 0))) ∧ Aside0 (Below w.heap.size w w'))
    case atStart => exact ⟨(([] : List Int)), (0), (by first | rfl | (simp; done) | (simp [*]; done)), H', ⟨Nat.le_refl _⟩, ⟨by first | exact Kd.R_nil _ _ _ _ _ | exact Kd.N_nil _ _ _ _ _ | exact Kd.V_nil _ _ _ _ _ | exact Kd.Q_nil _ _ _ _ _ | exact Kd.S_nil _ _ _ _ _⟩, ⟨by (with_reducible repeat (first | refine blk_drewN ?_ _ | refine blk_drew ?_ | refine blk_alloc ?_ _)); exact BK776.out⟩, ⟨by repeat (first | (with_reducible first | exact HB.out | apply below_alloc | apply pw_below_drewN | apply below_drew1 | refine below_set ?_ GE776.out) | exact HB.out)⟩⟩
    case round =>
     clear H'
     try clear c1
     try clear p2
     try clear c3
     try clear c6
     try clear c12
     try clear hcz9_0
     try clear hcz9_1
     try clear hcz9_2
     try clear hcz9_3
     try clear hcz9_4
     try clear hcz9_5
     try clear hfz9_0
     try clear hfz9_1
     try clear hfz9_2
     try clear hfz9_3
     try clear hfz9_4
     try clear hfz9_5
     try clear p2
     obtain ⟨x6_2, x19_2, rfl, HA, HK2, HO_6, BK776, HB⟩ := hrel
     cases gk with
     | zero => exact absurd HA.out (by simp [impl_MeetingWarnings.l0])
     | succ k2 =>
      have H := HA.out
      clear HA
      simp only [impl_MeetingWarnings.l0] at H
      by_cases c13 : x19_2 < (l0.length : Int)
      ·
       rw [if_pos c13] at H
       have c13b0 : decide (x19_2 < (l0.length : Int)) = true := decide_eq_true c13
       clear c13
       by_cases c14 : 0 ≤ x19_2
       ·
        rw [if_pos c14] at H
        have c14b0 : decide (0 ≤ x19_2) = true := decide_eq_true c14
        clear c14
        by_cases c15 : x19_2 < (l0.length : Int)
        ·
         rw [if_pos c15] at H
         have c15b0 : decide (x19_2 < (l0.length : Int)) = true := decide_eq_true c15
         clear c15
         by_cases c16 : ((rd_T31 l0 x19_2).f0) = a1_0
         ·
          rw [if_pos c16] at H
          have c16b0 : (((rd_T31 l0 x19_2).f0) == a1_0) = true := beq_iff_eq.mpr c16
          have c16b1 : (((rd_T31 l0 x19_2).f0) != a1_0) = false := bne_eq_false_iff_eq.mpr c16
          clear c16
          have H' := Aside0.mk H
          clear H
          have p779 : 0 ≤ (x19_2 : Int) := of_decide_eq_true zq2
          have q779 : x19_2 < (l0.length : Int) := of_decide_eq_true zq2
          obtain ⟨ad779, e779, hx779_0, hx779_1, hx779_2, hx779_3, hx779_4, hx779_5⟩ := at_T31 HR0.out x19_2 p779 q779
          cases e779
          replace hx779_0 := (HB.out.cell (World.block_lt_of_cell? w _ hx779_0)).trans hx779_0
          replace hx779_1 := (HB.out.cell (World.block_lt_of_cell? w _ hx779_1)).trans hx779_1
          replace hx779_2 := (HB.out.cell (World.block_lt_of_cell? w _ hx779_2)).trans hx779_2
          replace hx779_3 := (HB.out.cell (World.block_lt_of_cell? w _ hx779_3)).trans hx779_3
          replace hx779_4 := (HB.out.cell (World.block_lt_of_cell? w _ hx779_4)).trans hx779_4
          replace hx779_5 := (HB.out.cell (World.block_lt_of_cell? w _ hx779_5)).trans hx779_5
          replace p779 := eq_true p779
          replace q779 := eq_true q779
          go_wp2_with (first | ((with_reducible refine gate_dst (N := 8) rfl ?_); refine box_event ?hg (N := 8) ?hd (cs := #[.int .i64 0, .int .i64 0, .int .i64 0, .int .i64 0, .int .i64 0, .int .i64 0]) (t := 31) ?hr ?_; (case hd => rfl); (case hg => rfl); (case hr => first | (go_simp; done) | (go_simp; rfl)); intro gb780 hg w17 hbox hb; have n0_ := Aside0.mk (Kd.R_below (zqR HO_6.out) hb); have n1_ := Aside0.mk (blk_below (g := gb776) (o := .cells #[.int .i64 a1_0, .int .i64 a1_1, .int .i64 a1_2, .int .i64 a1_3, .int .i64 a1_4, .int .i64 a1_5] 31 (0, 0)) (zqK BK776.out) hb); have n2_ := Aside0.mk (below_step zq17 hb); have n3_ := Aside0.mk (hbox); have n4_ := Aside0.mk ((by rw [hg]; exact (below_size zq17) : w.heap.size ≤ gb780)); have n5_ := Aside0.mk ((by rw [hg]; exact (below_size zq17) : w.heap.size ≤ gb780)); have n6_ := Aside0.mk ((by rw [hg]; exact Nat.ne_of_lt (blk_lt (g := gb776) (o := .cells #[.int .i64 a1_0, .int .i64 a1_1, .int .i64 a1_2, .int .i64 a1_3, .int .i64 a1_4, .int .i64 a1_5] 31 (0, 0)) (zqK BK776.out)) : gb776 ≠ gb780)); have n7_ := Aside0.mk ((by rw [hg]; exact Nat.ne_of_gt (blk_lt (g := gb776) (o := .cells #[.int .i64 a1_0, .int .i64 a1_1, .int .i64 a1_2, .int .i64 a1_3, .int .i64 a1_4, .int .i64 a1_5] 31 (0, 0)) (zqK BK776.out)) : gb780 ≠ gb776)); clear HO_6; clear BK776; clear HB; have HO_6 := n0_; have BK776 := n1_; have HB := n2_; have BK780 := n3_; have GW780 := n4_; have GE780 := n5_; have NB776_780 := n6_; have NB780_776 := n7_; clear n0_ n1_ n2_ n3_ n4_ n5_ n6_ n7_; clear hb hbox hg; have hnb18 := NB780_776.out; have hnc18 := NB776_780.out; have hcz19_0 : w17.cell? ⟨gb780, 0, none⟩ = some (.int .i64 0) := (blk_cell BK780.out 0).trans rfl; have hcz19_1 : w17.cell? ⟨gb780, 1, none⟩ = some (.int .i64 0) := (blk_cell BK780.out 1).trans rfl; have hcz19_2 : w17.cell? ⟨gb780, 2, none⟩ = some (.int .i64 0) := (blk_cell BK780.out 2).trans rfl; have hcz19_3 : w17.cell? ⟨gb780, 3, none⟩ = some (.int .i64 0) := (blk_cell BK780.out 3).trans rfl; have hcz19_4 : w17.cell? ⟨gb780, 4, none⟩ = some (.int .i64 0) := (blk_cell BK780.out 4).trans rfl; have hcz19_5 : w17.cell? ⟨gb780, 5, none⟩ = some (.int .i64 0) := (blk_cell BK780.out 5).trans rfl; have hfz19_0 := blk_frozen BK780.out 0; have hfz19_1 := blk_frozen BK780.out 1; have hfz19_2 := blk_frozen BK780.out 2; have hfz19_3 := blk_frozen BK780.out 3; have hfz19_4 := blk_frozen BK780.out 4; have hfz19_5 := blk_frozen BK780.out 5; have hcz20_0 : w17.cell? ⟨gb776, 0, none⟩ = some (.int .i64 a1_0) := (blk_cell BK776.out 0).trans rfl; have hcz20_1 : w17.cell? ⟨gb776, 1, none⟩ = some (.int .i64 a1_1) := (blk_cell BK776.out 1).trans rfl; have hcz20_2 : w17.cell? ⟨gb776, 2, none⟩ = some (.int .i64 a1_2) := (blk_cell BK776.out 2).trans rfl; have hcz20_3 : w17.cell? ⟨gb776, 3, none⟩ = some (.int .i64 a1_3) := (blk_cell BK776.out 3).trans rfl; have hcz20_4 : w17.cell? ⟨gb776, 4, none⟩ = some (.int .i64 a1_4) := (blk_cell BK776.out 4).trans rfl; have hcz20_5 : w17.cell? ⟨gb776, 5, none⟩ = some (.int .i64 a1_5) := (blk_cell BK776.out 5).trans rfl; have hfz20_0 := blk_frozen BK776.out 0; have hfz20_1 := blk_frozen BK776.out 1; have hfz20_2 := blk_frozen BK776.out 2; have hfz20_3 := blk_frozen BK776.out 3; have hfz20_4 := blk_frozen BK776.out 4; have hfz20_5 := blk_frozen BK776.out 5))
          go_roundg k2
          case measure => have := HJ2.out; have := HK2.out; omega
          case rel => exact ⟨(x6_2), (wrap64 (x19_2 + 1)), (by first | rfl | (simp; done) | (simp [*]; done)), H', ⟨by have := HJ2.out; have := HK2.out; omega⟩, ⟨by (with_reducible repeat (first | apply Kd.R_alloc | apply Kd.R_drewN | apply Kd.R_drew)); exact Kd.R_mono (Kd.R_far (p := ⟨gb780, 5, none⟩) (Kd.R_far (p := ⟨gb780, 4, none⟩) (Kd.R_far (p := ⟨gb780, 3, none⟩) (Kd.R_far (p := ⟨gb780, 2, none⟩) (Kd.R_far (p := ⟨gb780, 1, none⟩) (Kd.R_far (p := ⟨gb780, 0, none⟩) (Kd.R_types HO_6.out BK780.out (by decide)) (fun _ hk => hk.2) (.int .i64 ((rd_T31 l0 x19_2).f0))) (fun _ hk => hk.2) (.int .i64 ((rd_T31 l0 x19_2).f1))) (fun _ hk => hk.2) (.int .i64 ((rd_T31 l0 x19_2).f2))) (fun _ hk => hk.2) (.int .i64 ((rd_T31 l0 x19_2).f3))) (fun _ hk => hk.2) (.int .i64 ((rd_T31 l0 x19_2).f4))) (fun _ hk => hk.2) (.int .i64 ((rd_T31 l0 x19_2).f5))) (fun _ hk => trivial)⟩, ⟨by (with_reducible repeat (first | refine blk_drewN ?_ _ | refine blk_drew ?_ | refine blk_alloc ?_ _)); refine blk_far ?_ NB776_780.out _; (with_reducible repeat (first | refine blk_drewN ?_ _ | refine blk_drew ?_ | refine blk_alloc ?_ _)); refine blk_far ?_ NB776_780.out _; (with_reducible repeat (first | refine blk_drewN ?_ _ | refine blk_drew ?_ | refine blk_alloc ?_ _)); refine blk_far ?_ NB776_780.out _; (with_reducible repeat (first | refine blk_drewN ?_ _ | refine blk_drew ?_ | refine blk_alloc ?_ _)); refine blk_far ?_ NB776_780.out _; (with_reducible repeat (first | refine blk_drewN ?_ _ | refine blk_drew ?_ | refine blk_alloc ?_ _)); refine blk_far ?_ NB776_780.out _; (with_reducible repeat (first | refine blk_drewN ?_ _ | refine blk_drew ?_ | refine blk_alloc ?_ _)); refine blk_far ?_ NB776_780.out _; (with_reducible repeat (first | refine blk_drewN ?_ _ | refine blk_drew ?_ | refine blk_alloc ?_ _)); exact BK776.out⟩, ⟨by repeat (first | (with_reducible first | exact HB.out | apply below_alloc | apply pw_below_drewN | apply below_drew1 | refine below_set ?_ GE776.out | refine below_set ?_ GE780.out) | exact HB.out)⟩⟩
         ·
          rw [if_neg c16] at H
          have c16b0 : (((rd_T31 l0 x19_2).f0) == a1_0) = false := beq_eq_false_iff_ne.mpr c16
          have c16b1 : (((rd_T31 l0 x19_2).f0) != a1_0) = true := bne_iff_ne.mpr c16
          replace H := Option.bind_eq_some_iff.mp H
          obtain ⟨t781, A210, H⟩ := H
          replace H : (if t781 = true then (if x6_2.length < 17592186044416 then (impl_MeetingWarnings.l0 k2 (x6_2 ++ [(rd_T31 l0 x19_2).f0]) l0 (l0.length : Int) (wrap64 (x19_2 + 1)) a1_0 a1_1 a1_2 a1_3 a1_4 a1_5) else (none)) else (impl_MeetingWarnings.l0 k2 x6_2 l0 (l0.length : Int) (wrap64 (x19_2 + 1)) a1_0 a1_1 a1_2 a1_3 a1_4 a1_5)) = some (r1, r2) := H
          have A21 := Aside0.mk A210
          clear A210
          by_cases c22 : t781 = true
          ·
           subst c22
           have H1 : (if x6_2.length < 17592186044416 then (impl_MeetingWarnings.l0 k2 (x6_2 ++ [(rd_T31 l0 x19_2).f0]) l0 (l0.length : Int) (wrap64 (x19_2 + 1)) a1_0 a1_1 a1_2 a1_3 a1_4 a1_5) else (none)) = some (r1, r2) := by rw [if_pos rfl] at H; exact H
           clear H
           have H := H1
           clear H1
           by_cases c23 : x6_2.length < 17592186044416
           ·
            rw [if_pos c23] at H
            have LMc23 := Aside0.mk c23
            clear c23
            obtain ⟨y782, hy782⟩ : ∃ y_ : List Int, y_ = (x6_2 ++ [(rd_T31 l0 x19_2).f0]) := ⟨_, rfl⟩
            replace H : (impl_MeetingWarnings.l0 k2 y782 l0 (l0.length : Int) (wrap64 (x19_2 + 1)) a1_0 a1_1 a1_2 a1_3 a1_4 a1_5) = some (r1, r2) := by first | (rw [hy782]; with_reducible exact H) | (have H2_ := (Option.bind_some _ _).symm.trans H; rw [hy782]; with_reducible exact H2_) | (have H2_ := (Option.bind_some _ _).symm.trans H; with_reducible exact H2_) | with_reducible exact H | (rw [hy782]; exact H) | exact H
            have Ny782 := Aside0.mk hy782
            clear hy782
            have H' := Aside0.mk H
            clear H
            have p779 : 0 ≤ (x19_2 : Int) := of_decide_eq_true zq2
            have q779 : x19_2 < (l0.length : Int) := of_decide_eq_true zq2
            obtain ⟨ad779, e779, hx779_0, hx779_1, hx779_2, hx779_3, hx779_4, hx779_5⟩ := at_T31 HR0.out x19_2 p779 q779
            cases e779
            replace hx779_0 := (HB.out.cell (World.block_lt_of_cell? w _ hx779_0)).trans hx779_0
            replace hx779_1 := (HB.out.cell (World.block_lt_of_cell? w _ hx779_1)).trans hx779_1
            replace hx779_2 := (HB.out.cell (World.block_lt_of_cell? w _ hx779_2)).trans hx779_2
            replace hx779_3 := (HB.out.cell (World.block_lt_of_cell? w _ hx779_3)).trans hx779_3
            replace hx779_4 := (HB.out.cell (World.block_lt_of_cell? w _ hx779_4)).trans hx779_4
            replace hx779_5 := (HB.out.cell (World.block_lt_of_cell? w _ hx779_5)).trans hx779_5
            replace p779 := eq_true p779
            replace q779 := eq_true q779
            go_wp2_with (first | ((with_reducible refine gate_dst (N := 8) rfl ?_); refine box_event ?hg (N := 8) ?hd (cs := #[.int .i64 0, .int .i64 0, .int .i64 0, .int .i64 0, .int .i64 0, .int .i64 0]) (t := 31) ?hr ?_; (case hd => rfl); (case hg => rfl); (case hr => first | (go_simp; done) | (go_simp; rfl)); intro gb780 hg w24 hbox hb; have n0_ := Aside0.mk (Kd.R_below (zqR HO_6.out) hb); have n1_ := Aside0.mk (blk_below (g := gb776) (o := .cells #[.int .i64 a1_0, .int .i64 a1_1, .int .i64 a1_2, .int .i64 a1_3, .int .i64 a1_4, .int .i64 a1_5] 31 (0, 0)) (zqK BK776.out) hb); have n2_ := Aside0.mk (below_step zq17 hb); have n3_ := Aside0.mk (hbox); have n4_ := Aside0.mk ((by rw [hg]; exact (below_size zq17) : w.heap.size ≤ gb780)); have n5_ := Aside0.mk ((by rw [hg]; exact (below_size zq17) : w.heap.size ≤ gb780)); have n6_ := Aside0.mk ((by rw [hg]; exact Nat.ne_of_lt (blk_lt (g := gb776) (o := .cells #[.int .i64 a1_0, .int .i64 a1_1, .int .i64 a1_2, .int .i64 a1_3, .int .i64 a1_4, .int .i64 a1_5] 31 (0, 0)) (zqK BK776.out)) : gb776 ≠ gb780)); have n7_ := Aside0.mk ((by rw [hg]; exact Nat.ne_of_gt (blk_lt (g := gb776) (o := .cells #[.int .i64 a1_0, .int .i64 a1_1, .int .i64 a1_2, .int .i64 a1_3, .int .i64 a1_4, .int .i64 a1_5] 31 (0, 0)) (zqK BK776.out)) : gb780 ≠ gb776)); clear HO_6; clear BK776; clear HB; have HO_6 := n0_; have BK776 := n1_; have HB := n2_; have BK780 := n3_; have GW780 := n4_; have GE780 := n5_; have NB776_780 := n6_; have NB780_776 := n7_; clear n0_ n1_ n2_ n3_ n4_ n5_ n6_ n7_; clear hb hbox hg; have hnb25 := NB780_776.out; have hnc25 := NB776_780.out; have hcz26_0 : w24.cell? ⟨gb780, 0, none⟩ = some (.int .i64 0) := (blk_cell BK780.out 0).trans rfl; have hcz26_1 : w24.cell? ⟨gb780, 1, none⟩ = some (.int .i64 0) := (blk_cell BK780.out 1).trans rfl; have hcz26_2 : w24.cell? ⟨gb780, 2, none⟩ = some (.int .i64 0) := (blk_cell BK780.out 2).trans rfl; have hcz26_3 : w24.cell? ⟨gb780, 3, none⟩ = some (.int .i64 0) := (blk_cell BK780.out 3).trans rfl; have hcz26_4 : w24.cell? ⟨gb780, 4, none⟩ = some (.int .i64 0) := (blk_cell BK780.out 4).trans rfl; have hcz26_5 : w24.cell? ⟨gb780, 5, none⟩ = some (.int .i64 0) := (blk_cell BK780.out 5).trans rfl; have hfz26_0 := blk_frozen BK780.out 0; have hfz26_1 := blk_frozen BK780.out 1; have hfz26_2 := blk_frozen BK780.out 2; have hfz26_3 := blk_frozen BK780.out 3; have hfz26_4 := blk_frozen BK780.out 4; have hfz26_5 := blk_frozen BK780.out 5; have hcz27_0 : w24.cell? ⟨gb776, 0, none⟩ = some (.int .i64 a1_0) := (blk_cell BK776.out 0).trans rfl; have hcz27_1 : w24.cell? ⟨gb776, 1, none⟩ = some (.int .i64 a1_1) := (blk_cell BK776.out 1).trans rfl; have hcz27_2 : w24.cell? ⟨gb776, 2, none⟩ = some (.int .i64 a1_2) := (blk_cell BK776.out 2).trans rfl; have hcz27_3 : w24.cell? ⟨gb776, 3, none⟩ = some (.int .i64 a1_3) := (blk_cell BK776.out 3).trans rfl; have hcz27_4 : w24.cell? ⟨gb776, 4, none⟩ = some (.int .i64 a1_4) := (blk_cell BK776.out 4).trans rfl; have hcz27_5 : w24.cell? ⟨gb776, 5, none⟩ = some (.int .i64 a1_5) := (blk_cell BK776.out 5).trans rfl; have hfz27_0 := blk_frozen BK776.out 0; have hfz27_1 := blk_frozen BK776.out 1; have hfz27_2 := blk_frozen BK776.out 2; have hfz27_3 := blk_frozen BK776.out 3; have hfz27_4 := blk_frozen BK776.out 4; have hfz27_5 := blk_frozen BK776.out 5) | (go_at_call 69; (with_reducible refine (impl_doMeet.calls a1_0 a1_1 a1_2 a1_3 a1_4 a1_5 ((rd_T31 l0 x19_2).f0) ((rd_T31 l0 x19_2).f1) ((rd_T31 l0 x19_2).f2) ((rd_T31 l0 x19_2).f3) ((rd_T31 l0 x19_2).f4) ((rd_T31 l0 x19_2).f5) true _ A21.out).mono ?_); rintro e w28 ⟨rfl, hb⟩; have n0_ := Aside0.mk (Kd.R_below zq29 hb); have n1_ := Aside0.mk (blk_below (g := gb776) (o := .cells #[.int .i64 a1_0, .int .i64 a1_1, .int .i64 a1_2, .int .i64 a1_3, .int .i64 a1_4, .int .i64 a1_5] 31 (0, 0)) zq28 hb); have n2_ := Aside0.mk (blk_below (g := gb780) (o := .cells #[.int .i64 ((rd_T31 l0 x19_2).f0), .int .i64 ((rd_T31 l0 x19_2).f1), .int .i64 ((rd_T31 l0 x19_2).f2), .int .i64 ((rd_T31 l0 x19_2).f3), .int .i64 ((rd_T31 l0 x19_2).f4), .int .i64 ((rd_T31 l0 x19_2).f5)] 31 (0, 0)) zq18 hb); have n3_ := Aside0.mk (below_step zq32 hb); clear HO_6; clear BK776; clear BK780; clear HB; have HO_6 := n0_; have BK776 := n1_; have BK780 := n2_; have HB := n3_; clear n0_ n1_ n2_ n3_; (try clear hb); (try clear hb2); (try clear hk); (try clear hi); have hcz29_0 : w28.cell? ⟨gb780, 0, none⟩ = some (.int .i64 ((rd_T31 l0 x19_2).f0)) := (blk_cell BK780.out 0).trans rfl; have hcz29_1 : w28.cell? ⟨gb780, 1, none⟩ = some (.int .i64 ((rd_T31 l0 x19_2).f1)) := (blk_cell BK780.out 1).trans rfl; have hcz29_2 : w28.cell? ⟨gb780, 2, none⟩ = some (.int .i64 ((rd_T31 l0 x19_2).f2)) := (blk_cell BK780.out 2).trans rfl; have hcz29_3 : w28.cell? ⟨gb780, 3, none⟩ = some (.int .i64 ((rd_T31 l0 x19_2).f3)) := (blk_cell BK780.out 3).trans rfl; have hcz29_4 : w28.cell? ⟨gb780, 4, none⟩ = some (.int .i64 ((rd_T31 l0 x19_2).f4)) := (blk_cell BK780.out 4).trans rfl; have hcz29_5 : w28.cell? ⟨gb780, 5, none⟩ = some (.int .i64 ((rd_T31 l0 x19_2).f5)) := (blk_cell BK780.out 5).trans rfl; have hfz29_0 := blk_frozen BK780.out 0; have hfz29_1 := blk_frozen BK780.out 1; have hfz29_2 := blk_frozen BK780.out 2; have hfz29_3 := blk_frozen BK780.out 3; have hfz29_4 := blk_frozen BK780.out 4; have hfz29_5 := blk_frozen BK780.out 5) | ((with_reducible refine gate_builtin (b := .append) (xs := #[.tmp 33, .tmp 36]) rfl ?_); at_builtin; refine Kd.R_append (Kd.int .i64) (w0 := w) w.heap.size rfl (.tmp 33) (.tmp 36) 54 3 (.int .i64 0) 8 rfl Try.underlying54 info3 rfl (by decide) (by omega) u6 x6_2 ((rd_T31 l0 x19_2).f0) [.int .i64 ((rd_T31 l0 x19_2).f0)] (fun _ => True) (fun _ => False) rfl rfl ?aP (fun _ hk => hk.elim) ?aF ?aO ?aB ?aS ?aL ?_; (case aP => exact rfl); (case aB => exact zq32); (case aF => exact (fun _ _ => trivial)); (case aO => exact (zqR HO_6.out)); (case aS => exact (below_size zq32)); (case aL => have := LMc23.out; omega); intro v783 w30 ho hb hg hat; rw [← Ny782.out] at ho; have n0_ := Aside0.mk (blk_grown (g := gb776) (o := .cells #[.int .i64 a1_0, .int .i64 a1_1, .int .i64 a1_2, .int .i64 a1_3, .int .i64 a1_4, .int .i64 a1_5] 31 (0, 0)) (zqK BK776.out) hg (Kd.R_ne HO_6.out BK776.out (by decide))); have n1_ := Aside0.mk (blk_grown (g := gb780) (o := .cells #[.int .i64 ((rd_T31 l0 x19_2).f0), .int .i64 ((rd_T31 l0 x19_2).f1), .int .i64 ((rd_T31 l0 x19_2).f2), .int .i64 ((rd_T31 l0 x19_2).f3), .int .i64 ((rd_T31 l0 x19_2).f4), .int .i64 ((rd_T31 l0 x19_2).f5)] 31 (0, 0)) (zqK BK780.out) hg (Kd.R_ne HO_6.out BK780.out (by decide))); have n2_ := Aside0.mk (hb); have n3_ := Aside0.mk (ho); clear BK776; clear BK780; clear HB; clear HO_6; have BK776 := n0_; have BK780 := n1_; have HB := n2_; have HO784 := n3_; clear n0_ n1_ n2_ n3_; clear ho hb hg hat))
            go_roundg k2
            case measure => have := HJ2.out; have := HK2.out; omega
            case rel => exact ⟨(y782), (wrap64 (x19_2 + 1)), (by first | rfl | (simp; done) | (simp [*]; done)), H', ⟨by have := HJ2.out; have := HK2.out; omega⟩, ⟨by (with_reducible repeat (first | apply Kd.R_alloc | apply Kd.R_drewN | apply Kd.R_drew)); exact HO784.out⟩, ⟨by (with_reducible repeat (first | refine blk_drewN ?_ _ | refine blk_drew ?_ | refine blk_alloc ?_ _)); exact BK776.out⟩, ⟨by repeat (first | (with_reducible first | exact HB.out | apply below_alloc | apply pw_below_drewN | apply below_drew1 | refine below_set ?_ GE776.out | refine below_set ?_ GE780.out) | exact HB.out)⟩⟩
           ·
            rw [if_neg c23] at H
            exact absurd H (by simp)
          ·
           replace c22 := Bool.eq_false_iff.mpr c22
           subst c22
           have H1 : (impl_MeetingWarnings.l0 k2 x6_2 l0 (l0.length : Int) (wrap64 (x19_2 + 1)) a1_0 a1_1 a1_2 a1_3 a1_4 a1_5) = some (r1, r2) := by rw [if_neg (show ¬ (false = true) by decide)] at H; exact H
           clear H
           have H := H1
           clear H1
           have H' := Aside0.mk H
           clear H
           have p779 : 0 ≤ (x19_2 : Int) := of_decide_eq_true zq2
           have q779 : x19_2 < (l0.length : Int) := of_decide_eq_true zq2
           obtain ⟨ad779, e779, hx779_0, hx779_1, hx779_2, hx779_3, hx779_4, hx779_5⟩ := at_T31 HR0.out x19_2 p779 q779
           cases e779
           replace hx779_0 := (HB.out.cell (World.block_lt_of_cell? w _ hx779_0)).trans hx779_0
           replace hx779_1 := (HB.out.cell (World.block_lt_of_cell? w _ hx779_1)).trans hx779_1
           replace hx779_2 := (HB.out.cell (World.block_lt_of_cell? w _ hx779_2)).trans hx779_2
           replace hx779_3 := (HB.out.cell (World.block_lt_of_cell? w _ hx779_3)).trans hx779_3
           replace hx779_4 := (HB.out.cell (World.block_lt_of_cell? w _ hx779_4)).trans hx779_4
           replace hx779_5 := (HB.out.cell (World.block_lt_of_cell? w _ hx779_5)).trans hx779_5
           replace p779 := eq_true p779
           replace q779 := eq_true q779
           go_wp2_with (first | ((with_reducible refine gate_dst (N := 8) rfl ?_); refine box_event ?hg (N := 8) ?hd (cs := #[.int .i64 0, .int .i64 0, .int .i64 0, .int .i64 0, .int .i64 0, .int .i64 0]) (t := 31) ?hr ?_; (case hd => rfl); (case hg => rfl); (case hr => first | (go_simp; done) | (go_simp; rfl)); intro gb780 hg w31 hbox hb; have n0_ := Aside0.mk (Kd.R_below (zqR HO_6.out) hb); have n1_ := Aside0.mk (blk_below (g := gb776) (o := .cells #[.int .i64 a1_0, .int .i64 a1_1, .int .i64 a1_2, .int .i64 a1_3, .int .i64 a1_4, .int .i64 a1_5] 31 (0, 0)) (zqK BK776.out) hb); have n2_ := Aside0.mk (below_step zq17 hb); have n3_ := Aside0.mk (hbox); have n4_ := Aside0.mk ((by rw [hg]; exact (below_size zq17) : w.heap.size ≤ gb780)); have n5_ := Aside0.mk ((by rw [hg]; exact (below_size zq17) : w.heap.size ≤ gb780)); have n6_ := Aside0.mk ((by rw [hg]; exact Nat.ne_of_lt (blk_lt (g := gb776) (o := .cells #[.int .i64 a1_0, .int .i64 a1_1, .int .i64 a1_2, .int .i64 a1_3, .int .i64 a1_4, .int .i64 a1_5] 31 (0, 0)) (zqK BK776.out)) : gb776 ≠ gb780)); have n7_ := Aside0.mk ((by rw [hg]; exact Nat.ne_of_gt (blk_lt (g := gb776) (o := .cells #[.int .i64 a1_0, .int .i64 a1_1, .int .i64 a1_2, .int .i64 a1_3, .int .i64 a1_4, .int .i64 a1_5] 31 (0, 0)) (zqK BK776.out)) : gb780 ≠ gb776)); clear HO_6; clear BK776; clear HB; have HO_6 := n0_; have BK776 := n1_; have HB := n2_; have BK780 := n3_; have GW780 := n4_; have GE780 := n5_; have NB776_780 := n6_; have NB780_776 := n7_; clear n0_ n1_ n2_ n3_ n4_ n5_ n6_ n7_; clear hb hbox hg; have hnb32 := NB780_776.out; have hnc32 := NB776_780.out; have hcz33_0 : w31.cell? ⟨gb780, 0, none⟩ = some (.int .i64 0) := (blk_cell BK780.out 0).trans rfl; have hcz33_1 : w31.cell? ⟨gb780, 1, none⟩ = some (.int .i64 0) := (blk_cell BK780.out 1).trans rfl; have hcz33_2 : w31.cell? ⟨gb780, 2, none⟩ = some (.int .i64 0) := (blk_cell BK780.out 2).trans rfl; have hcz33_3 : w31.cell? ⟨gb780, 3, none⟩ = some (.int .i64 0) := (blk_cell BK780.out 3).trans rfl; have hcz33_4 : w31.cell? ⟨gb780, 4, none⟩ = some (.int .i64 0) := (blk_cell BK780.out 4).trans rfl; have hcz33_5 : w31.cell? ⟨gb780, 5, none⟩ = some (.int .i64 0) := (blk_cell BK780.out 5).trans rfl; have hfz33_0 := blk_frozen BK780.out 0; have hfz33_1 := blk_frozen BK780.out 1; have hfz33_2 := blk_frozen BK780.out 2; have hfz33_3 := blk_frozen BK780.out 3; have hfz33_4 := blk_frozen BK780.out 4; have hfz33_5 := blk_frozen BK780.out 5; have hcz34_0 : w31.cell? ⟨gb776, 0, none⟩ = some (.int .i64 a1_0) := (blk_cell BK776.out 0).trans rfl; have hcz34_1 : w31.cell? ⟨gb776, 1, none⟩ = some (.int .i64 a1_1) := (blk_cell BK776.out 1).trans rfl; have hcz34_2 : w31.cell? ⟨gb776, 2, none⟩ = some (.int .i64 a1_2) := (blk_cell BK776.out 2).trans rfl; have hcz34_3 : w31.cell? ⟨gb776, 3, none⟩ = some (.int .i64 a1_3) := (blk_cell BK776.out 3).trans rfl; have hcz34_4 : w31.cell? ⟨gb776, 4, none⟩ = some (.int .i64 a1_4) := (blk_cell BK776.out 4).trans rfl; have hcz34_5 : w31.cell? ⟨gb776, 5, none⟩ = some (.int .i64 a1_5) := (blk_cell BK776.out 5).trans rfl; have hfz34_0 := blk_frozen BK776.out 0; have hfz34_1 := blk_frozen BK776.out 1; have hfz34_2 := blk_frozen BK776.out 2; have hfz34_3 := blk_frozen BK776.out 3; have hfz34_4 := blk_frozen BK776.out 4; have hfz34_5 := blk_frozen BK776.out 5) | (go_at_call 69; (with_reducible refine (impl_doMeet.calls a1_0 a1_1 a1_2 a1_3 a1_4 a1_5 ((rd_T31 l0 x19_2).f0) ((rd_T31 l0 x19_2).f1) ((rd_T31 l0 x19_2).f2) ((rd_T31 l0 x19_2).f3) ((rd_T31 l0 x19_2).f4) ((rd_T31 l0 x19_2).f5) false _ A21.out).mono ?_); rintro e w35 ⟨rfl, hb⟩; have n0_ := Aside0.mk (Kd.R_below zq29 hb); have n1_ := Aside0.mk (blk_below (g := gb776) (o := .cells #[.int .i64 a1_0, .int .i64 a1_1, .int .i64 a1_2, .int .i64 a1_3, .int .i64 a1_4, .int .i64 a1_5] 31 (0, 0)) zq28 hb); have n2_ := Aside0.mk (blk_below (g := gb780) (o := .cells #[.int .i64 ((rd_T31 l0 x19_2).f0), .int .i64 ((rd_T31 l0 x19_2).f1), .int .i64 ((rd_T31 l0 x19_2).f2), .int .i64 ((rd_T31 l0 x19_2).f3), .int .i64 ((rd_T31 l0 x19_2).f4), .int .i64 ((rd_T31 l0 x19_2).f5)] 31 (0, 0)) zq18 hb); have n3_ := Aside0.mk (below_step zq32 hb); clear HO_6; clear BK776; clear BK780; clear HB; have HO_6 := n0_; have BK776 := n1_; have BK780 := n2_; have HB := n3_; clear n0_ n1_ n2_ n3_; (try clear hb); (try clear hb2); (try clear hk); (try clear hi)))
           go_roundg k2
           case measure => have := HJ2.out; have := HK2.out; omega
           case rel => exact ⟨(x6_2), (wrap64 (x19_2 + 1)), (by first | rfl | (simp; done) | (simp [*]; done)), H', ⟨by have := HJ2.out; have := HK2.out; omega⟩, ⟨by (with_reducible repeat (first | apply Kd.R_alloc | apply Kd.R_drewN | apply Kd.R_drew)); exact HO_6.out⟩, ⟨by (with_reducible repeat (first | refine blk_drewN ?_ _ | refine blk_drew ?_ | refine blk_alloc ?_ _)); exact BK776.out⟩, ⟨by repeat (first | (with_reducible first | exact HB.out | apply below_alloc | apply pw_below_drewN | apply below_drew1 | refine below_set ?_ GE776.out | refine below_set ?_ GE780.out) | exact HB.out)⟩⟩
        ·
         rw [if_neg c15] at H
         exact absurd H (by simp)
       ·
        rw [if_neg c14] at H
        exact absurd H (by simp)
      ·
       rw [if_neg c13] at H
       have c13b0 : decide (x19_2 < (l0.length : Int)) = false := decide_eq_false c13
       clear c13
       simp only [Option.some.injEq, Prod.mk.injEq] at H
       obtain ⟨rfl, rfl⟩ := H
       go_wp2
       go_ret2
       exact ⟨_, by first | rfl | (simp [errW_none, errW_some] <;> rfl) | (simp [*, errW_none, errW_some] <;> rfl), by (with_reducible repeat (first | apply Kd.R_alloc | apply Kd.R_drewN | apply Kd.R_drew)); exact HO_6.out, by repeat (first | (with_reducible first | exact HB.out | apply below_alloc | apply pw_below_drewN | apply below_drew1 | refine below_set ?_ GE776.out) | exact HB.out)⟩

end Go.Proofs.Ytklepiechbnenaa.Q
