/- Texts of this seat, put together: Qf22, Qf86, Qf23, Qf24, Qf87, Qf96, Qf88, Qf25, Qf26, Qf27, Qf28. -/
import Derived.Test.YtklepiechbnenaaZFnTimelines
import Derived.Test.YtklepiechbnenaaBFnTimelines0
import Derived.Test.YtklepiechbnenaaBFnTimelines1
import Derived.Test.YtklepiechbnenaaBFnTimelines2
import Derived.Test.YtklepiechbnenaaBFnTimelines3
import Derived.Test.YtklepiechbnenaaBFnTimelines5
import Derived.Test.YtklepiechbnenaaBFnTimelines6
import Derived.Test.YtklepiechbnenaaBFnTimelines7
namespace Go.Proofs.Ytklepiechbnenaa.Q
open Go.RowKit Go.Proofs.YtklepiechbnenaaW.PrintWords Go.Proofs.YtklepiechbnenaaW.PrintLast Go.Proofs.YtklepiechbnenaaW.PrintMore
attribute [local go_sem] max2_int min2_int max_two min_two max_three min_three max_four min_four   -- for this text's walks alone
set_option linter.unusedVariables false
set_option linter.unusedSimpArgs false

/-! ### impl_FromTimeline: function 22 -/
mutual
def impl_FromTimeline.j0 : Nat → Int → Int → List (S50) → Bool → Option ((List (S31)) × Bool)
 | 0, _, _, _, _ => none
 | k + 1, x0, x1, x2, x19 => if x19 = true then (some (([] : List (S31)), false)) else (impl_FromTimeline.l0 k x0 x1 x2 ([] : List (S31)) x2 (x2.length : Int) 0)
def impl_FromTimeline.l0 : Nat → Int → Int → List (S50) → List (S31) → List (S50) → Int → Int → Option ((List (S31)) × Bool)
 | 0, _, _, _, _, _, _, _ => none
 | k + 1, x0, x1, x2, x8, x20, x21, x22 => if x22 < x21 then (if 0 ≤ x22 then (if x22 < (x20.length : Int) then (if x22 > 0 then (if 0 ≤ (wrap64 (x22 - 1)) then (if (wrap64 (x22 - 1)) < (x2.length : Int) then (impl_FromTimeline.j2 k x0 x1 x2 x8 x22 x20 x21 x22 (decide (((rd_T50 x2 (wrap64 (x22 - 1))).f1) > ((rd_T50 x20 x22).f0))) ((rd_T50 x20 x22).f0) ((rd_T50 x20 x22).f1) ((rd_T50 x20 x22).f2)) else (none)) else (none)) else (impl_FromTimeline.j2 k x0 x1 x2 x8 x22 x20 x21 x22 false ((rd_T50 x20 x22).f0) ((rd_T50 x20 x22).f1) ((rd_T50 x20 x22).f2))) else (none)) else (none)) else ((impl_checkedWarnings.f k x8).bind fun bt594 => (some (bt594.1, bt594.2)))
def impl_FromTimeline.j2 : Nat → Int → Int → List (S50) → List (S31) → Int → List (S50) → Int → Int → Bool → Int → Int → Int → Option ((List (S31)) × Bool)
 | 0, _, _, _, _, _, _, _, _, _, _, _, _ => none
 | k + 1, x0, x1, x2, x8, x9, x20, x21, x22, x39, x600000, x600001, x600002 => if x39 = true then (some (([] : List (S31)), false)) else (if x8.length < 2932031007402 then (impl_FromTimeline.l0 k x0 x1 x2 (x8 ++ [(⟨wrap64 (x9 + 1), x0, x600002, x1, x600000, x600001⟩ : S31)]) x20 x21 (wrap64 (x22 + 1))) else (none))
end
def impl_FromTimeline.f (k : Nat) (a0 : Int) (a1 : Int) (l2 : List (S50)) : Option ((List (S31)) × Bool) := (impl_isTopicArea.f a0 a1).bind fun t593 => (if t593 = true then (impl_FromTimeline.j0 k a0 a1 l2 (decide ((l2.length : Int) > 12))) else (impl_FromTimeline.j0 k a0 a1 l2 true))
theorem impl_FromTimeline.mono_l : ∀ k, (∀ y0 y1 y2 y3, LeO (impl_FromTimeline.j0 k y0 y1 y2 y3) (impl_FromTimeline.j0 (k + 1) y0 y1 y2 y3)) ∧ (∀ y0 y1 y2 y3 y4 y5 y6, LeO (impl_FromTimeline.l0 k y0 y1 y2 y3 y4 y5 y6) (impl_FromTimeline.l0 (k + 1) y0 y1 y2 y3 y4 y5 y6)) ∧ (∀ y0 y1 y2 y3 y4 y5 y6 y7 y8 y9 y10 y11, LeO (impl_FromTimeline.j2 k y0 y1 y2 y3 y4 y5 y6 y7 y8 y9 y10 y11) (impl_FromTimeline.j2 (k + 1) y0 y1 y2 y3 y4 y5 y6 y7 y8 y9 y10 y11))
 | 0 => ⟨fun _ _ _ _ r h => by simp [impl_FromTimeline.j0] at h, fun _ _ _ _ _ _ _ r h => by simp [impl_FromTimeline.l0] at h, fun _ _ _ _ _ _ _ _ _ _ _ _ r h => by simp [impl_FromTimeline.j2] at h⟩
 | k + 1 => by
  obtain ⟨ih0, ih1, ih2⟩ := impl_FromTimeline.mono_l k
  refine ⟨?_, ?_, ?_⟩
  ·
   intro y0 y1 y2 y3
   unfold impl_FromTimeline.j0
   repeat' first
   | (with_reducible exact ih0 _ _ _ _)
   | (with_reducible exact ih1 _ _ _ _ _ _ _)
   | (with_reducible exact ih2 _ _ _ _ _ _ _ _ _ _ _ _)
   | (with_reducible exact impl_checkedWarnings.mono _ _)
   | (with_reducible exact LeO.refl _)
   | (with_reducible exact LeO.none _)
   | (with_reducible refine LeO.ite ?_ ?_)
   | (with_reducible refine LeO.bind ?_ (fun _ => ?_))
   | exact ih0 _ _ _ _
   | exact ih1 _ _ _ _ _ _ _
   | exact ih2 _ _ _ _ _ _ _ _ _ _ _ _
   | exact impl_checkedWarnings.mono _ _
   | exact LeO.none _
   | refine LeO.ite ?_ ?_
   | refine LeO.bind ?_ (fun _ => ?_)
  ·
   intro y0 y1 y2 y3 y4 y5 y6
   unfold impl_FromTimeline.l0
   repeat' first
   | (with_reducible exact ih0 _ _ _ _)
   | (with_reducible exact ih1 _ _ _ _ _ _ _)
   | (with_reducible exact ih2 _ _ _ _ _ _ _ _ _ _ _ _)
   | (with_reducible exact impl_checkedWarnings.mono _ _)
   | (with_reducible exact LeO.refl _)
   | (with_reducible exact LeO.none _)
   | (with_reducible refine LeO.ite ?_ ?_)
   | (with_reducible refine LeO.bind ?_ (fun _ => ?_))
   | exact ih0 _ _ _ _
   | exact ih1 _ _ _ _ _ _ _
   | exact ih2 _ _ _ _ _ _ _ _ _ _ _ _
   | exact impl_checkedWarnings.mono _ _
   | exact LeO.none _
   | refine LeO.ite ?_ ?_
   | refine LeO.bind ?_ (fun _ => ?_)
  ·
   intro y0 y1 y2 y3 y4 y5 y6 y7 y8 y9 y10 y11
   unfold impl_FromTimeline.j2
   repeat' first
   | (with_reducible exact ih0 _ _ _ _)
   | (with_reducible exact ih1 _ _ _ _ _ _ _)
   | (with_reducible exact ih2 _ _ _ _ _ _ _ _ _ _ _ _)
   | (with_reducible exact impl_checkedWarnings.mono _ _)
   | (with_reducible exact LeO.refl _)
   | (with_reducible exact LeO.none _)
   | (with_reducible refine LeO.ite ?_ ?_)
   | (with_reducible refine LeO.bind ?_ (fun _ => ?_))
   | exact ih0 _ _ _ _
   | exact ih1 _ _ _ _ _ _ _
   | exact ih2 _ _ _ _ _ _ _ _ _ _ _ _
   | exact impl_checkedWarnings.mono _ _
   | exact LeO.none _
   | refine LeO.ite ?_ ?_
   | refine LeO.bind ?_ (fun _ => ?_)
theorem impl_FromTimeline.mono : ∀ a0 a1 a2 k, LeO (impl_FromTimeline.f k a0 a1 a2) (impl_FromTimeline.f (k + 1) a0 a1 a2) := by
 intro a0 a1 a2 k
 obtain ⟨ih0, ih1, ih2⟩ := impl_FromTimeline.mono_l k
 unfold impl_FromTimeline.f
 repeat' first
   | (with_reducible exact ih0 _ _ _ _)
   | (with_reducible exact ih1 _ _ _ _ _ _ _)
   | (with_reducible exact ih2 _ _ _ _ _ _ _ _ _ _ _ _)
   | (with_reducible exact impl_checkedWarnings.mono _ _)
   | (with_reducible exact LeO.refl _)
   | (with_reducible exact LeO.none _)
   | (with_reducible refine LeO.ite ?_ ?_)
   | (with_reducible refine LeO.bind ?_ (fun _ => ?_))
   | exact ih0 _ _ _ _
   | exact ih1 _ _ _ _ _ _ _
   | exact ih2 _ _ _ _ _ _ _ _ _ _ _ _
   | exact impl_checkedWarnings.mono _ _
   | exact LeO.none _
   | refine LeO.ite ?_ ?_
   | refine LeO.bind ?_ (fun _ => ?_)
set_option maxHeartbeats 8000000 in
set_option maxRecDepth 100000 in
theorem impl_FromTimeline.calls (k : Nat) (a0 : Int) (a1 : Int) (A2 : Option Addr) (c2 : Nat) (l2 : List (S50)) (r1 : List (S31)) (r2 : Bool) (w : World) (hr2 : Kd.C k50 w A2 l2.length l2) (hc2 : l2.length ≤ c2) (h : impl_FromTimeline.f k a0 a1 l2 = some (r1, r2)) :
  Calls Try.prog 22 #[.int .i64 a0, .int .i64 a1, .slice A2 l2.length c2] w fun e w' => ∃ v0_ : Value, e = .returned (.tuple #[v0_, .bool r2]) ∧ Kd.R k31 31 w' w.heap.size (fun _ => True) v0_ r1 ∧ Below w.heap.size w w' := by
 have hu50 := Try.underlying50
 have hu31 := Try.underlying31
 have HR2 := Aside0.mk hr2
 have HC2 := Aside0.mk hc2
 clear hr2 hc2
 have HB := Aside0.mk (Below.refl w.heap.size w)
 have H : ((impl_isTopicArea.f a0 a1).bind fun t593 => (if t593 = true then (impl_FromTimeline.j0 k a0 a1 l2 (decide ((l2.length : Int) > 12))) else (impl_FromTimeline.j0 k a0 a1 l2 true))) = some (r1, r2) := h
 clear h
 have HC4 := Aside0.mk H
 clear H
 go_enter Try.func22, Try.ntmps22
 go_upto_region 1 with (fail)
 repeat (go_quiet (fail); go_upto_region 1 with (fail))
 go_cut [19] (fun v19 wc => ∃ (kq : Nat) (x19_3 : Bool), v19 = .bool x19_3 ∧ Aside0 (impl_FromTimeline.j0 kq a0 a1 l2 x19_3 = some (r1, r2)) ∧ Aside0 (kq ≤ k) ∧ Aside0 (Below w.heap.size w wc))
 case first =>
  have H := HC4.out
  clear HC4
  replace H := Option.bind_eq_some_iff.mp H
  obtain ⟨t593, A50, H⟩ := H
  replace H : (if t593 = true then (impl_FromTimeline.j0 k a0 a1 l2 (decide ((l2.length : Int) > 12))) else (impl_FromTimeline.j0 k a0 a1 l2 true)) = some (r1, r2) := H
  have A5 := Aside0.mk A50
  clear A50
  by_cases c6 : t593 = true
  ·
   subst c6
   have H1 : (impl_FromTimeline.j0 k a0 a1 l2 (decide ((l2.length : Int) > 12))) = some (r1, r2) := by rw [if_pos rfl] at H; exact H
   clear H
   have H := H1
   clear H1
   have H' := Aside0.mk H
   clear H
   go_wp2_with (first | (go_at_call 70; (with_reducible refine (impl_isTopicArea.calls a0 a1 true _ A5.out).mono ?_); rintro e w' ⟨rfl, ⟨nd, rfl⟩⟩; (try first | exact ⟨rfl, _, World.drewN_drewN _ _ _⟩ | exact ⟨rfl, _, Eq.trans (World.drewN_drewN _ _ _) (congrArg (World.drewN _) (Nat.add_assoc _ _ _))⟩)))
   repeat (go_quiet (first | (go_at_call 70; (with_reducible refine (impl_isTopicArea.calls a0 a1 true _ A5.out).mono ?_); rintro e w' ⟨rfl, ⟨nd, rfl⟩⟩; (try first | exact ⟨rfl, _, World.drewN_drewN _ _ _⟩ | exact ⟨rfl, _, Eq.trans (World.drewN_drewN _ _ _) (congrArg (World.drewN _) (Nat.add_assoc _ _ _))⟩))); try go_wp2_with (first | (go_at_call 70; (with_reducible refine (impl_isTopicArea.calls a0 a1 true _ A5.out).mono ?_); rintro e w' ⟨rfl, ⟨nd, rfl⟩⟩; (try first | exact ⟨rfl, _, World.drewN_drewN _ _ _⟩ | exact ⟨rfl, _, Eq.trans (World.drewN_drewN _ _ _) (congrArg (World.drewN _) (Nat.add_assoc _ _ _))⟩))))
   go_meet
   case rel => exact ⟨_, (decide ((l2.length : Int) > 12)), (by first | rfl | (simp; done) | (simp [*]; done)), H', ⟨by first | omega | exact Nat.le_refl _⟩, ⟨by repeat (first | (with_reducible first | exact HB.out | apply below_alloc | apply pw_below_drewN | apply below_drew1) | exact HB.out)⟩⟩
  ·
   replace c6 := Bool.eq_false_iff.mpr c6
   subst c6
   have H1 : (impl_FromTimeline.j0 k a0 a1 l2 true) = some (r1, r2) := by rw [if_neg (show ¬ (false = true) by decide)] at H; exact H
   clear H
   have H := H1
   clear H1
   have H' := Aside0.mk H
   clear H
   go_wp2_with (first | (go_at_call 70; (with_reducible refine (impl_isTopicArea.calls a0 a1 false _ A5.out).mono ?_); rintro e w' ⟨rfl, ⟨nd, rfl⟩⟩; (try first | exact ⟨rfl, _, World.drewN_drewN _ _ _⟩ | exact ⟨rfl, _, Eq.trans (World.drewN_drewN _ _ _) (congrArg (World.drewN _) (Nat.add_assoc _ _ _))⟩)))
   repeat (go_quiet (first | (go_at_call 70; (with_reducible refine (impl_isTopicArea.calls a0 a1 false _ A5.out).mono ?_); rintro e w' ⟨rfl, ⟨nd, rfl⟩⟩; (try first | exact ⟨rfl, _, World.drewN_drewN _ _ _⟩ | exact ⟨rfl, _, Eq.trans (World.drewN_drewN _ _ _) (congrArg (World.drewN _) (Nat.add_assoc _ _ _))⟩))); try go_wp2_with (first | (go_at_call 70; (with_reducible refine (impl_isTopicArea.calls a0 a1 false _ A5.out).mono ?_); rintro e w' ⟨rfl, ⟨nd, rfl⟩⟩; (try first | exact ⟨rfl, _, World.drewN_drewN _ _ _⟩ | exact ⟨rfl, _, Eq.trans (World.drewN_drewN _ _ _) (congrArg (World.drewN _) (Nat.add_assoc _ _ _))⟩))))
   go_meet
   case rel => exact ⟨_, (true), (by first | rfl | (simp; done) | (simp [*]; done)), H', ⟨by first | omega | exact Nat.le_refl _⟩, ⟨by repeat (first | (with_reducible first | exact HB.out | apply below_alloc | apply pw_below_drewN | apply below_drew1) | exact HB.out)⟩⟩
 case rest =>
  clear HC4
  try clear c2
  try clear p2
  try clear c6
  obtain ⟨kq, x19_3, rfl, HA, HJ3, HB⟩ := hcut
  cases kq with
  | zero => exact absurd HA.out (by simp [impl_FromTimeline.j0])
  | succ kj3 =>
   have H := HA.out
   clear HA
   simp only [impl_FromTimeline.j0] at H
   by_cases c7 : x19_3 = true
   ·
    subst c7
    have H1 : (some (([] : List (S31)), false)) = some (r1, r2) := by rw [if_pos rfl] at H; exact H
    clear H
    have H := H1
    clear H1
    simp only [Option.some.injEq, Prod.mk.injEq] at H
    obtain ⟨rfl, rfl⟩ := H
    go_wp2
    repeat (go_quiet (fail); try go_wp2)
    go_ret2
    exact ⟨_, by first | rfl | (simp [errW_none, errW_some] <;> rfl) | (simp [*, errW_none, errW_some] <;> rfl), by first | exact Kd.R_nil _ _ _ _ _ | exact Kd.N_nil _ _ _ _ _ | exact Kd.V_nil _ _ _ _ _ | exact Kd.Q_nil _ _ _ _ _ | exact Kd.S_nil _ _ _ _ _, by repeat (first | (with_reducible first | exact HB.out | apply below_alloc | apply pw_below_drewN | apply below_drew1) | exact HB.out)⟩
   ·
    replace c7 := Bool.eq_false_iff.mpr c7
    subst c7
    have H1 : (impl_FromTimeline.l0 kj3 a0 a1 l2 ([] : List (S31)) l2 (l2.length : Int) 0) = some (r1, r2) := by rw [if_neg (show ¬ (false = true) by decide)] at H; exact H
    clear H
    have H := H1
    clear H1
    have H' := Aside0.mk H
    clear H
    go_wp2
    repeat (go_quiet (fail); try go_wp2)
    go_loopg [8, 22] kj3 (fun kq v8 v22 w' => ∃ (x8_2 : List (S31)) (x22_2 : Int), v22 = .int .i64 x22_2 ∧ Aside0 (impl_FromTimeline.l0 kq a0 a1 l2 x8_2 l2 (l2.length : Int) x22_2 = some (r1, r2)) ∧ Aside0 (kq ≤ kj3) ∧ Aside0 (Kd.R k31 31 w' w.heap.size (fun _ => True) v8 x8_2) ∧ Aside0 (Below w.heap.size w w'))
    case atStart => exact ⟨(([] : List (S31))), (0), (by first | rfl | (simp; done) | (simp [*]; done)), H', ⟨Nat.le_refl _⟩, ⟨by first | exact Kd.R_nil _ _ _ _ _ | exact Kd.N_nil _ _ _ _ _ | exact Kd.V_nil _ _ _ _ _ | exact Kd.Q_nil _ _ _ _ _ | exact Kd.S_nil _ _ _ _ _⟩, ⟨by repeat (first | (with_reducible first | exact HB.out | apply below_alloc | apply pw_below_drewN | apply below_drew1) | exact HB.out)⟩⟩
    case round =>
     clear H'
     try clear c2
     try clear p2
     try clear c6
     try clear c7
     try clear p2
     obtain ⟨x8_2, x22_2, rfl, HA, HK2, HO_8, HB⟩ := hrel
     cases gk with
     | zero => exact absurd HA.out (by simp [impl_FromTimeline.l0])
     | succ k2 =>
      have H := HA.out
      clear HA
      simp only [impl_FromTimeline.l0] at H
      by_cases c8 : x22_2 < (l2.length : Int)
      ·
       rw [if_pos c8] at H
       have c8b0 : decide (x22_2 < (l2.length : Int)) = true := decide_eq_true c8
       clear c8
       by_cases c9 : 0 ≤ x22_2
       ·
        rw [if_pos c9] at H
        have c9b0 : decide (0 ≤ x22_2) = true := decide_eq_true c9
        clear c9
        by_cases c10 : x22_2 < (l2.length : Int)
        ·
         rw [if_pos c10] at H
         have c10b0 : decide (x22_2 < (l2.length : Int)) = true := decide_eq_true c10
         clear c10
         have HC11 := Aside0.mk H
         clear H
         have p598 : 0 ≤ (x22_2 : Int) := of_decide_eq_true zq3
         have q598 : x22_2 < (l2.length : Int) := of_decide_eq_true zq3
         obtain ⟨ad598, e598, hx598_0, hx598_1, hx598_2⟩ := at_T50 HR2.out x22_2 p598 q598
         cases e598
         replace hx598_0 := (HB.out.cell (World.block_lt_of_cell? w _ hx598_0)).trans hx598_0
         replace hx598_1 := (HB.out.cell (World.block_lt_of_cell? w _ hx598_1)).trans hx598_1
         replace hx598_2 := (HB.out.cell (World.block_lt_of_cell? w _ hx598_2)).trans hx598_2
         replace p598 := eq_true p598
         replace q598 := eq_true q598
         go_upto_region 7 with (first | ((with_reducible refine gate_dst (N := 10) rfl ?_); refine box_event ?hg (N := 10) ?hd (cs := #[.int .i64 0, .int .i64 0, .int .i64 0]) (t := 50) ?hr ?_; (case hd => rfl); (case hg => rfl); (case hr => first | (go_simp; done) | (go_simp; rfl)); intro gb599 hg w12 hbox hb; have n0_ := Aside0.mk (Kd.R_below (zqR HO_8.out) hb); have n1_ := Aside0.mk (below_step zq0 hb); have n2_ := Aside0.mk (hbox); have n3_ := Aside0.mk ((by rw [hg]; exact (below_size zq0) : w.heap.size ≤ gb599)); have n4_ := Aside0.mk ((by rw [hg]; exact (below_size zq0) : w.heap.size ≤ gb599)); clear HO_8; clear HB; have HO_8 := n0_; have HB := n1_; have BK599 := n2_; have GW599 := n3_; have GE599 := n4_; clear n0_ n1_ n2_ n3_ n4_; clear hb hbox hg; have hcz13_0 : w12.cell? ⟨gb599, 0, none⟩ = some (.int .i64 0) := (blk_cell BK599.out 0).trans rfl; have hcz13_1 : w12.cell? ⟨gb599, 1, none⟩ = some (.int .i64 0) := (blk_cell BK599.out 1).trans rfl; have hcz13_2 : w12.cell? ⟨gb599, 2, none⟩ = some (.int .i64 0) := (blk_cell BK599.out 2).trans rfl; have hfz13_0 := blk_frozen BK599.out 0; have hfz13_1 := blk_frozen BK599.out 1; have hfz13_2 := blk_frozen BK599.out 2))
         repeat (go_quiet (first | ((with_reducible refine gate_dst (N := 10) rfl ?_); refine box_event ?hg (N := 10) ?hd (cs := #[.int .i64 0, .int .i64 0, .int .i64 0]) (t := 50) ?hr ?_; (case hd => rfl); (case hg => rfl); (case hr => first | (go_simp; done) | (go_simp; rfl)); intro gb599 hg w12 hbox hb; have n0_ := Aside0.mk (Kd.R_below (zqR HO_8.out) hb); have n1_ := Aside0.mk (below_step zq0 hb); have n2_ := Aside0.mk (hbox); have n3_ := Aside0.mk ((by rw [hg]; exact (below_size zq0) : w.heap.size ≤ gb599)); have n4_ := Aside0.mk ((by rw [hg]; exact (below_size zq0) : w.heap.size ≤ gb599)); clear HO_8; clear HB; have HO_8 := n0_; have HB := n1_; have BK599 := n2_; have GW599 := n3_; have GE599 := n4_; clear n0_ n1_ n2_ n3_ n4_; clear hb hbox hg; have hcz13_0 : w12.cell? ⟨gb599, 0, none⟩ = some (.int .i64 0) := (blk_cell BK599.out 0).trans rfl; have hcz13_1 : w12.cell? ⟨gb599, 1, none⟩ = some (.int .i64 0) := (blk_cell BK599.out 1).trans rfl; have hcz13_2 : w12.cell? ⟨gb599, 2, none⟩ = some (.int .i64 0) := (blk_cell BK599.out 2).trans rfl; have hfz13_0 := blk_frozen BK599.out 0; have hfz13_1 := blk_frozen BK599.out 1; have hfz13_2 := blk_frozen BK599.out 2)); go_upto_region 7 with (first | ((with_reducible refine gate_dst (N := 10) rfl ?_); refine box_event ?hg (N := 10) ?hd (cs := #[.int .i64 0, .int .i64 0, .int .i64 0]) (t := 50) ?hr ?_; (case hd => rfl); (case hg => rfl); (case hr => first | (go_simp; done) | (go_simp; rfl)); intro gb599 hg w12 hbox hb; have n0_ := Aside0.mk (Kd.R_below (zqR HO_8.out) hb); have n1_ := Aside0.mk (below_step zq0 hb); have n2_ := Aside0.mk (hbox); have n3_ := Aside0.mk ((by rw [hg]; exact (below_size zq0) : w.heap.size ≤ gb599)); have n4_ := Aside0.mk ((by rw [hg]; exact (below_size zq0) : w.heap.size ≤ gb599)); clear HO_8; clear HB; have HO_8 := n0_; have HB := n1_; have BK599 := n2_; have GW599 := n3_; have GE599 := n4_; clear n0_ n1_ n2_ n3_ n4_; clear hb hbox hg; have hcz13_0 : w12.cell? ⟨gb599, 0, none⟩ = some (.int .i64 0) := (blk_cell BK599.out 0).trans rfl; have hcz13_1 : w12.cell? ⟨gb599, 1, none⟩ = some (.int .i64 0) := (blk_cell BK599.out 1).trans rfl; have hcz13_2 : w12.cell? ⟨gb599, 2, none⟩ = some (.int .i64 0) := (blk_cell BK599.out 2).trans rfl; have hfz13_0 := blk_frozen BK599.out 0; have hfz13_1 := blk_frozen BK599.out 1; have hfz13_2 := blk_frozen BK599.out 2)))
         (try simp only [Act.put, List.setIfInBounds_toArray, List.set_cons_zero, List.set_cons_succ])
         go_cut [39] (fun v39 wc => ∃ (kq : Nat) (x39_10 : Bool), v39 = .bool x39_10 ∧ Aside0 (impl_FromTimeline.j2 kq a0 a1 l2 x8_2 x22_2 l2 (l2.length : Int) x22_2 x39_10 ((rd_T50 l2 x22_2).f0) ((rd_T50 l2 x22_2).f1) ((rd_T50 l2 x22_2).f2) = some (r1, r2)) ∧ Aside0 (kq ≤ k2) ∧ Aside0 (Kd.R k31 31 wc w.heap.size (fun _ => True) u8 x8_2) ∧ Aside0 (wc.heap[gb599]? = some (.cells #[.int .i64 ((rd_T50 l2 x22_2).f0), .int .i64 ((rd_T50 l2 x22_2).f1), .int .i64 ((rd_T50 l2 x22_2).f2)] 50 (0, 0))) ∧ Aside0 (Below w.heap.size w wc))
         case first =>
          have H := HC11.out
          clear HC11
          by_cases c14 : x22_2 > 0
          ·
           rw [if_pos c14] at H
           have c14b0 : decide (0 < x22_2) = true := decide_eq_true c14
           clear c14
           (first | rw [c14b0] | (simp only [i64_w, i32_w]; rw [c14b0]) | skip)
           obtain ⟨ji15, hji15⟩ : ∃ j_ : Int, (wrap64 (x22_2 - 1)) = j_ := ⟨_, rfl⟩
           replace H : (if 0 ≤ (ji15) then (if (ji15) < (l2.length : Int) then (impl_FromTimeline.j2 k2 a0 a1 l2 x8_2 x22_2 l2 (l2.length : Int) x22_2 (decide (((rd_T50 l2 (ji15)).f1) > ((rd_T50 l2 x22_2).f0))) ((rd_T50 l2 x22_2).f0) ((rd_T50 l2 x22_2).f1) ((rd_T50 l2 x22_2).f2)) else (none)) else (none)) = some (r1, r2) := by first | (rw [hji15] at H; exact H) | (simp only [hji15] at H ⊢; exact H)
           have hji15w : (IntKind.i64.wrap (x22_2 - 1)) = ji15 := (i64_w _).trans hji15
           by_cases c16 : 0 ≤ (ji15)
           ·
            rw [if_pos c16] at H
            have c16b0 : decide (0 ≤ (ji15)) = true := decide_eq_true c16
            clear c16
            by_cases c17 : (ji15) < (l2.length : Int)
            ·
             rw [if_pos c17] at H
             have c17b0 : decide ((ji15) < (l2.length : Int)) = true := decide_eq_true c17
             clear c17
             have H' := Aside0.mk H
             clear H
             have p600 : 0 ≤ ((ji15) : Int) := of_decide_eq_true zq3
             have q600 : (ji15) < (l2.length : Int) := of_decide_eq_true zq3
             obtain ⟨ad600, e600, hx600_0, hx600_1, hx600_2⟩ := at_T50 HR2.out (ji15) p600 q600
             obtain rfl : ad598 = ad600 := (by injection e600)
             have hn600_0 : ad598.block ≠ gb599 := Nat.ne_of_lt (Nat.lt_of_lt_of_le (by have := World.block_lt_of_cell? _ _ hx600_0; first | rwa [add_block] at this | exact this) GW599.out)
             have hn600_1 : ad598.block ≠ gb599 := Nat.ne_of_lt (Nat.lt_of_lt_of_le (by have := World.block_lt_of_cell? _ _ hx600_0; first | rwa [add_block] at this | exact this) GW599.out)
             have hn600_2 : ad598.block ≠ gb599 := Nat.ne_of_lt (Nat.lt_of_lt_of_le (by have := World.block_lt_of_cell? _ _ hx600_0; first | rwa [add_block] at this | exact this) GW599.out)
             replace hx600_0 := (HB.out.cell (World.block_lt_of_cell? w _ hx600_0)).trans hx600_0
             replace hx600_1 := (HB.out.cell (World.block_lt_of_cell? w _ hx600_1)).trans hx600_1
             replace hx600_2 := (HB.out.cell (World.block_lt_of_cell? w _ hx600_2)).trans hx600_2
             replace hx600_0 := (cell_far (p := ⟨gb599, 0, none⟩) (by first | (rw [add_block]; exact hn600_0) | (show (Addr.add _ _).block ≠ _; rw [add_block]; exact hn600_0) | exact hn600_0) (.int .i64 ((rd_T50 l2 x22_2).f0))).trans hx600_0
             replace hx600_1 := (cell_far (p := ⟨gb599, 0, none⟩) (by first | (rw [add_block]; exact hn600_0) | (show (Addr.add _ _).block ≠ _; rw [add_block]; exact hn600_0) | exact hn600_0) (.int .i64 ((rd_T50 l2 x22_2).f0))).trans hx600_1
             replace hx600_2 := (cell_far (p := ⟨gb599, 0, none⟩) (by first | (rw [add_block]; exact hn600_0) | (show (Addr.add _ _).block ≠ _; rw [add_block]; exact hn600_0) | exact hn600_0) (.int .i64 ((rd_T50 l2 x22_2).f0))).trans hx600_2
             replace hx600_0 := (cell_far (p := ⟨gb599, 1, none⟩) (by first | (rw [add_block]; exact hn600_1) | (show (Addr.add _ _).block ≠ _; rw [add_block]; exact hn600_1) | exact hn600_1) (.int .i64 ((rd_T50 l2 x22_2).f1))).trans hx600_0
             replace hx600_1 := (cell_far (p := ⟨gb599, 1, none⟩) (by first | (rw [add_block]; exact hn600_1) | (show (Addr.add _ _).block ≠ _; rw [add_block]; exact hn600_1) | exact hn600_1) (.int .i64 ((rd_T50 l2 x22_2).f1))).trans hx600_1
             replace hx600_2 := (cell_far (p := ⟨gb599, 1, none⟩) (by first | (rw [add_block]; exact hn600_1) | (show (Addr.add _ _).block ≠ _; rw [add_block]; exact hn600_1) | exact hn600_1) (.int .i64 ((rd_T50 l2 x22_2).f1))).trans hx600_2
             replace hx600_0 := (cell_far (p := ⟨gb599, 2, none⟩) (by first | (rw [add_block]; exact hn600_2) | (show (Addr.add _ _).block ≠ _; rw [add_block]; exact hn600_2) | exact hn600_2) (.int .i64 ((rd_T50 l2 x22_2).f2))).trans hx600_0
             replace hx600_1 := (cell_far (p := ⟨gb599, 2, none⟩) (by first | (rw [add_block]; exact hn600_2) | (show (Addr.add _ _).block ≠ _; rw [add_block]; exact hn600_2) | exact hn600_2) (.int .i64 ((rd_T50 l2 x22_2).f2))).trans hx600_1
             replace hx600_2 := (cell_far (p := ⟨gb599, 2, none⟩) (by first | (rw [add_block]; exact hn600_2) | (show (Addr.add _ _).block ≠ _; rw [add_block]; exact hn600_2) | exact hn600_2) (.int .i64 ((rd_T50 l2 x22_2).f2))).trans hx600_2
             (try have hy600_0 := fun (n_ : Nat) => (show (((((w12.drewN n_).setCell ⟨gb599, 0, none⟩ (.int .i64 ((rd_T50 l2 x22_2).f0))).setCell ⟨gb599, 1, none⟩ (.int .i64 ((rd_T50 l2 x22_2).f1))).setCell ⟨gb599, 2, none⟩ (.int .i64 ((rd_T50 l2 x22_2).f2)))).cell? _ = some _ from hx600_0))
             (try have hy600_1 := fun (n_ : Nat) => (show (((((w12.drewN n_).setCell ⟨gb599, 0, none⟩ (.int .i64 ((rd_T50 l2 x22_2).f0))).setCell ⟨gb599, 1, none⟩ (.int .i64 ((rd_T50 l2 x22_2).f1))).setCell ⟨gb599, 2, none⟩ (.int .i64 ((rd_T50 l2 x22_2).f2)))).cell? _ = some _ from hx600_1))
             (try have hy600_2 := fun (n_ : Nat) => (show (((((w12.drewN n_).setCell ⟨gb599, 0, none⟩ (.int .i64 ((rd_T50 l2 x22_2).f0))).setCell ⟨gb599, 1, none⟩ (.int .i64 ((rd_T50 l2 x22_2).f1))).setCell ⟨gb599, 2, none⟩ (.int .i64 ((rd_T50 l2 x22_2).f2)))).cell? _ = some _ from hx600_2))
             clear hn600_0
             clear hn600_1
             clear hn600_2
             replace p600 := eq_true p600
             replace q600 := eq_true q600
             have hcz18_0 : w12.cell? ⟨gb599, 0, none⟩ = some (.int .i64 0) := (blk_cell BK599.out 0).trans rfl
             have hcz18_1 : w12.cell? ⟨gb599, 1, none⟩ = some (.int .i64 0) := (blk_cell BK599.out 1).trans rfl
             have hcz18_2 : w12.cell? ⟨gb599, 2, none⟩ = some (.int .i64 0) := (blk_cell BK599.out 2).trans rfl
             have hfz18_0 := blk_frozen BK599.out 0
             have hfz18_1 := blk_frozen BK599.out 1
             have hfz18_2 := blk_frozen BK599.out 2
             go_wp2
             repeat (go_quiet (fail); try go_wp2)
             go_meet
             case rel => exact ⟨_, (decide (((rd_T50 l2 (ji15)).f1) > ((rd_T50 l2 x22_2).f0))), (by first | rfl | (simp; done) | (simp only [← hji15] <;> (first | rfl | simp)) | (simp [*]; done)), H', ⟨by have := HJ3.out; have := HK2.out; first | omega | exact Nat.le_refl _⟩, ⟨by (with_reducible repeat (first | apply Kd.R_alloc | apply Kd.R_drewN | apply Kd.R_drew)); exact Kd.R_mono (Kd.R_far (p := ⟨gb599, 2, none⟩) (Kd.R_far (p := ⟨gb599, 1, none⟩) (Kd.R_far (p := ⟨gb599, 0, none⟩) (Kd.R_types HO_8.out BK599.out (by decide)) (fun _ hk => hk.2) (.int .i64 ((rd_T50 l2 x22_2).f0))) (fun _ hk => hk.2) (.int .i64 ((rd_T50 l2 x22_2).f1))) (fun _ hk => hk.2) (.int .i64 ((rd_T50 l2 x22_2).f2))) (fun _ hk => trivial)⟩, ⟨by (with_reducible repeat (first | refine blk_drewN ?_ _ | refine blk_drew ?_ | refine blk_alloc ?_ _)); refine blk_put (cs := #[.int .i64 ((rd_T50 l2 x22_2).f0), .int .i64 ((rd_T50 l2 x22_2).f1), .int .i64 0]) ?_ 2 _ rfl; (with_reducible repeat (first | refine blk_drewN ?_ _ | refine blk_drew ?_ | refine blk_alloc ?_ _)); refine blk_put (cs := #[.int .i64 ((rd_T50 l2 x22_2).f0), .int .i64 0, .int .i64 0]) ?_ 1 _ rfl; (with_reducible repeat (first | refine blk_drewN ?_ _ | refine blk_drew ?_ | refine blk_alloc ?_ _)); refine blk_put (cs := #[.int .i64 0, .int .i64 0, .int .i64 0]) ?_ 0 _ rfl; (with_reducible repeat (first | refine blk_drewN ?_ _ | refine blk_drew ?_ | refine blk_alloc ?_ _)); exact BK599.out⟩, ⟨by repeat (first | (with_reducible first | exact HB.out | apply below_alloc | apply pw_below_drewN | apply below_drew1 | refine below_set ?_ GE599.out) | exact HB.out)⟩⟩
            ·
             rw [if_neg c17] at H
             exact absurd H (by simp)
           ·
            rw [if_neg c16] at H
            exact absurd H (by simp)
          ·
           rw [if_neg c14] at H
           have c14b0 : decide (0 < x22_2) = false := decide_eq_false c14
           clear c14
           (first | rw [c14b0] | (simp only [i64_w, i32_w]; rw [c14b0]) | skip)
           have H' := Aside0.mk H
           clear H
           go_wp2
           repeat (go_quiet (fail); try go_wp2)
           go_meet
           case rel => exact ⟨_, (false), (by first | rfl | (simp; done) | (simp [*]; done)), H', ⟨by have := HJ3.out; have := HK2.out; first | omega | exact Nat.le_refl _⟩, ⟨by (with_reducible repeat (first | apply Kd.R_alloc | apply Kd.R_drewN | apply Kd.R_drew)); exact Kd.R_mono (Kd.R_far (p := ⟨gb599, 2, none⟩) (Kd.R_far (p := ⟨gb599, 1, none⟩) (Kd.R_far (p := ⟨gb599, 0, none⟩) (Kd.R_types HO_8.out BK599.out (by decide)) (fun _ hk => hk.2) (.int .i64 ((rd_T50 l2 x22_2).f0))) (fun _ hk => hk.2) (.int .i64 ((rd_T50 l2 x22_2).f1))) (fun _ hk => hk.2) (.int .i64 ((rd_T50 l2 x22_2).f2))) (fun _ hk => trivial)⟩, ⟨by (with_reducible repeat (first | refine blk_drewN ?_ _ | refine blk_drew ?_ | refine blk_alloc ?_ _)); refine blk_put (cs := #[.int .i64 ((rd_T50 l2 x22_2).f0), .int .i64 ((rd_T50 l2 x22_2).f1), .int .i64 0]) ?_ 2 _ rfl; (with_reducible repeat (first | refine blk_drewN ?_ _ | refine blk_drew ?_ | refine blk_alloc ?_ _)); refine blk_put (cs := #[.int .i64 ((rd_T50 l2 x22_2).f0), .int .i64 0, .int .i64 0]) ?_ 1 _ rfl; (with_reducible repeat (first | refine blk_drewN ?_ _ | refine blk_drew ?_ | refine blk_alloc ?_ _)); refine blk_put (cs := #[.int .i64 0, .int .i64 0, .int .i64 0]) ?_ 0 _ rfl; (with_reducible repeat (first | refine blk_drewN ?_ _ | refine blk_drew ?_ | refine blk_alloc ?_ _)); exact BK599.out⟩, ⟨by repeat (first | (with_reducible first | exact HB.out | apply below_alloc | apply pw_below_drewN | apply below_drew1 | refine below_set ?_ GE599.out) | exact HB.out)⟩⟩
         case rest =>
          clear HC11
          try clear c1
          try clear c2
          try clear p2
          try clear p5
          try clear q5
          try clear hx5
          try clear c6
          try clear p6
          try clear q6
          try clear hx6
          try clear c7
          try clear c8
          try clear c8b0
          try clear c9
          try clear c9b0
          try clear c10
          try clear c10b0
          try clear c14
          try clear c14b0
          try clear c16
          try clear c16b0
          try clear c17
          try clear c17b0
          try clear hcz13_0
          try clear hcz13_1
          try clear hcz13_2
          try clear hcz18_0
          try clear hcz18_1
          try clear hcz18_2
          try clear hfz13_0
          try clear hfz13_1
          try clear hfz13_2
          try clear hfz18_0
          try clear hfz18_1
          try clear hfz18_2
          try clear hx598_0
          try clear hx598_1
          try clear hx598_2
          try clear hx600_0
          try clear hx600_1
          try clear hx600_2
          try clear p2
          try clear p598
          try clear p600
          try clear q598
          try clear q600
          obtain ⟨kq, x39_10, rfl, HA, HJ10, HO_8, BK599, HB⟩ := hcut
          cases kq with
          | zero => exact absurd HA.out (by simp [impl_FromTimeline.j2])
          | succ kj10 =>
           have H := HA.out
           clear HA
           simp only [impl_FromTimeline.j2] at H
           by_cases c19 : x39_10 = true
           ·
            subst c19
            have H1 : (some (([] : List (S31)), false)) = some (r1, r2) := by rw [if_pos rfl] at H; exact H
            clear H
            have H := H1
            clear H1
            simp only [Option.some.injEq, Prod.mk.injEq] at H
            obtain ⟨rfl, rfl⟩ := H
            go_wp2
            repeat (go_quiet (fail); try go_wp2)
            go_ret2
            exact ⟨_, by first | rfl | (simp [errW_none, errW_some] <;> rfl) | (simp [*, errW_none, errW_some] <;> rfl), by first | exact Kd.R_nil _ _ _ _ _ | exact Kd.N_nil _ _ _ _ _ | exact Kd.V_nil _ _ _ _ _ | exact Kd.Q_nil _ _ _ _ _ | exact Kd.S_nil _ _ _ _ _, by repeat (first | (with_reducible first | exact HB.out | apply below_alloc | apply pw_below_drewN | apply below_drew1 | refine below_set ?_ GE599.out) | exact HB.out)⟩
           ·
            replace c19 := Bool.eq_false_iff.mpr c19
            subst c19
            have H1 : (if x8_2.length < 2932031007402 then (impl_FromTimeline.l0 kj10 a0 a1 l2 (x8_2 ++ [(⟨wrap64 (x22_2 + 1), a0, ((rd_T50 l2 x22_2).f2), a1, ((rd_T50 l2 x22_2).f0), ((rd_T50 l2 x22_2).f1)⟩ : S31)]) l2 (l2.length : Int) (wrap64 (x22_2 + 1))) else (none)) = some (r1, r2) := by rw [if_neg (show ¬ (false = true) by decide)] at H; exact H
            clear H
            have H := H1
            clear H1
            by_cases c20 : x8_2.length < 2932031007402
            ·
             rw [if_pos c20] at H
             have LMc20 := Aside0.mk c20
             clear c20
             obtain ⟨y601, hy601⟩ : ∃ y_ : List (S31), y_ = (x8_2 ++ [(⟨wrap64 (x22_2 + 1), a0, ((rd_T50 l2 x22_2).f2), a1, ((rd_T50 l2 x22_2).f0), ((rd_T50 l2 x22_2).f1)⟩ : S31)]) := ⟨_, rfl⟩
             replace H : (impl_FromTimeline.l0 kj10 a0 a1 l2 y601 l2 (l2.length : Int) (wrap64 (x22_2 + 1))) = some (r1, r2) := by first | (rw [hy601]; with_reducible exact H) | (have H2_ := (Option.bind_some _ _).symm.trans H; rw [hy601]; with_reducible exact H2_) | (have H2_ := (Option.bind_some _ _).symm.trans H; with_reducible exact H2_) | with_reducible exact H | (rw [hy601]; exact H) | exact H
             have Ny601 := Aside0.mk hy601
             clear hy601
             have H' := Aside0.mk H
             clear H
             have hcz21_0 : wc.cell? ⟨gb599, 0, none⟩ = some (.int .i64 ((rd_T50 l2 x22_2).f0)) := (blk_cell BK599.out 0).trans rfl
             have hcz21_1 : wc.cell? ⟨gb599, 1, none⟩ = some (.int .i64 ((rd_T50 l2 x22_2).f1)) := (blk_cell BK599.out 1).trans rfl
             have hcz21_2 : wc.cell? ⟨gb599, 2, none⟩ = some (.int .i64 ((rd_T50 l2 x22_2).f2)) := (blk_cell BK599.out 2).trans rfl
             have hfz21_0 := blk_frozen BK599.out 0
             have hfz21_1 := blk_frozen BK599.out 1
             have hfz21_2 := blk_frozen BK599.out 2
             go_wp2_with (first | ((with_reducible refine gate_builtin (b := .append) (xs := #[.tmp 40, .tmp 52]) rfl ?_); at_builtin; refine Kd.R_append k31 (w0 := w) w.heap.size rfl (.tmp 40) (.tmp 52) 24 31 (.agg #[(.int .i64 0), (.int .i64 0), (.int .i64 0), (.int .i64 0), (.int .i64 0), (.int .i64 0)]) 48 rfl Try.underlying24 info31 rfl (by decide) (by omega) u8 x8_2 (⟨wrap64 (x22_2 + 1), a0, ((rd_T50 l2 x22_2).f2), a1, ((rd_T50 l2 x22_2).f0), ((rd_T50 l2 x22_2).f1)⟩ : S31) [.int .i64 (wrap64 (x22_2 + 1)), .int .i64 a0, .int .i64 ((rd_T50 l2 x22_2).f2), .int .i64 a1, .int .i64 ((rd_T50 l2 x22_2).f0), .int .i64 ((rd_T50 l2 x22_2).f1)] (fun _ => True) (fun _ => False) rfl rfl ?aP (fun _ hk => hk.elim) ?aF ?aO ?aB ?aS ?aL ?_; (case aP => exact k31_mkM _ _ _ (⟨wrap64 (x22_2 + 1), a0, ((rd_T50 l2 x22_2).f2), a1, ((rd_T50 l2 x22_2).f0), ((rd_T50 l2 x22_2).f1)⟩ : S31)); (case aB => exact zq18); (case aF => exact (fun _ _ => trivial)); (case aO => exact (zqR HO_8.out)); (case aS => exact (below_size zq18)); (case aL => have := LMc20.out; omega); intro v602 w22 ho hb hg hat; rw [← Ny601.out] at ho; have n0_ := Aside0.mk (blk_grown (g := gb599) (o := .cells #[.int .i64 ((rd_T50 l2 x22_2).f0), .int .i64 ((rd_T50 l2 x22_2).f1), .int .i64 ((rd_T50 l2 x22_2).f2)] 50 (0, 0)) (zqK BK599.out) hg (Kd.R_ne HO_8.out BK599.out (by decide))); have n1_ := Aside0.mk (hb); have n2_ := Aside0.mk (ho); clear BK599; clear HB; clear HO_8; have BK599 := n0_; have HB := n1_; have HO603 := n2_; clear n0_ n1_ n2_; clear ho hb hg hat))
             repeat (go_quiet (first | ((with_reducible refine gate_builtin (b := .append) (xs := #[.tmp 40, .tmp 52]) rfl ?_); at_builtin; refine Kd.R_append k31 (w0 := w) w.heap.size rfl (.tmp 40) (.tmp 52) 24 31 (.agg #[(.int .i64 0), (.int .i64 0), (.int .i64 0), (.int .i64 0), (.int .i64 0), (.int .i64 0)]) 48 rfl Try.underlying24 info31 rfl (by decide) (by omega) u8 x8_2 (⟨wrap64 (x22_2 + 1), a0, ((rd_T50 l2 x22_2).f2), a1, ((rd_T50 l2 x22_2).f0), ((rd_T50 l2 x22_2).f1)⟩ : S31) [.int .i64 (wrap64 (x22_2 + 1)), .int .i64 a0, .int .i64 ((rd_T50 l2 x22_2).f2), .int .i64 a1, .int .i64 ((rd_T50 l2 x22_2).f0), .int .i64 ((rd_T50 l2 x22_2).f1)] (fun _ => True) (fun _ => False) rfl rfl ?aP (fun _ hk => hk.elim) ?aF ?aO ?aB ?aS ?aL ?_; (case aP => exact k31_mkM _ _ _ (⟨wrap64 (x22_2 + 1), a0, ((rd_T50 l2 x22_2).f2), a1, ((rd_T50 l2 x22_2).f0), ((rd_T50 l2 x22_2).f1)⟩ : S31)); (case aB => exact zq18); (case aF => exact (fun _ _ => trivial)); (case aO => exact (zqR HO_8.out)); (case aS => exact (below_size zq18)); (case aL => have := LMc20.out; omega); intro v602 w22 ho hb hg hat; rw [← Ny601.out] at ho; have n0_ := Aside0.mk (blk_grown (g := gb599) (o := .cells #[.int .i64 ((rd_T50 l2 x22_2).f0), .int .i64 ((rd_T50 l2 x22_2).f1), .int .i64 ((rd_T50 l2 x22_2).f2)] 50 (0, 0)) (zqK BK599.out) hg (Kd.R_ne HO_8.out BK599.out (by decide))); have n1_ := Aside0.mk (hb); have n2_ := Aside0.mk (ho); clear BK599; clear HB; clear HO_8; have BK599 := n0_; have HB := n1_; have HO603 := n2_; clear n0_ n1_ n2_; clear ho hb hg hat)); try go_wp2_with (first | ((with_reducible refine gate_builtin (b := .append) (xs := #[.tmp 40, .tmp 52]) rfl ?_); at_builtin; refine Kd.R_append k31 (w0 := w) w.heap.size rfl (.tmp 40) (.tmp 52) 24 31 (.agg #[(.int .i64 0), (.int .i64 0), (.int .i64 0), (.int .i64 0), (.int .i64 0), (.int .i64 0)]) 48 rfl Try.underlying24 info31 rfl (by decide) (by omega) u8 x8_2 (⟨wrap64 (x22_2 + 1), a0, ((rd_T50 l2 x22_2).f2), a1, ((rd_T50 l2 x22_2).f0), ((rd_T50 l2 x22_2).f1)⟩ : S31) [.int .i64 (wrap64 (x22_2 + 1)), .int .i64 a0, .int .i64 ((rd_T50 l2 x22_2).f2), .int .i64 a1, .int .i64 ((rd_T50 l2 x22_2).f0), .int .i64 ((rd_T50 l2 x22_2).f1)] (fun _ => True) (fun _ => False) rfl rfl ?aP (fun _ hk => hk.elim) ?aF ?aO ?aB ?aS ?aL ?_; (case aP => exact k31_mkM _ _ _ (⟨wrap64 (x22_2 + 1), a0, ((rd_T50 l2 x22_2).f2), a1, ((rd_T50 l2 x22_2).f0), ((rd_T50 l2 x22_2).f1)⟩ : S31)); (case aB => exact zq18); (case aF => exact (fun _ _ => trivial)); (case aO => exact (zqR HO_8.out)); (case aS => exact (below_size zq18)); (case aL => have := LMc20.out; omega); intro v602 w22 ho hb hg hat; rw [← Ny601.out] at ho; have n0_ := Aside0.mk (blk_grown (g := gb599) (o := .cells #[.int .i64 ((rd_T50 l2 x22_2).f0), .int .i64 ((rd_T50 l2 x22_2).f1), .int .i64 ((rd_T50 l2 x22_2).f2)] 50 (0, 0)) (zqK BK599.out) hg (Kd.R_ne HO_8.out BK599.out (by decide))); have n1_ := Aside0.mk (hb); have n2_ := Aside0.mk (ho); clear BK599; clear HB; clear HO_8; have BK599 := n0_; have HB := n1_; have HO603 := n2_; clear n0_ n1_ n2_; clear ho hb hg hat)))
             go_roundg kj10
             case measure => have := HJ3.out; have := HK2.out; have := HJ10.out; omega
             case rel => exact ⟨(y601), (wrap64 (x22_2 + 1)), (by first | rfl | (simp; done) | (simp [*]; done)), H', ⟨by have := HJ3.out; have := HK2.out; have := HJ10.out; omega⟩, ⟨by (with_reducible repeat (first | apply Kd.R_alloc | apply Kd.R_drewN | apply Kd.R_drew)); exact HO603.out⟩, ⟨by repeat (first | (with_reducible first | exact HB.out | apply below_alloc | apply pw_below_drewN | apply below_drew1 | refine below_set ?_ GE599.out) | exact HB.out)⟩⟩
            ·
             rw [if_neg c20] at H
             exact absurd H (by simp)
        ·
         rw [if_neg c10] at H
         exact absurd H (by simp)
       ·
        rw [if_neg c9] at H
        exact absurd H (by simp)
      ·
       rw [if_neg c8] at H
       have c8b0 : decide (x22_2 < (l2.length : Int)) = false := decide_eq_false c8
       clear c8
       replace H := Option.bind_eq_some_iff.mp H
       obtain ⟨⟨t594, t597⟩, A230, H⟩ := H
       replace H : (some (t594, t597)) = some (r1, r2) := H
       have A23 := Aside0.mk A230
       clear A230
       simp only [Option.some.injEq, Prod.mk.injEq] at H
       obtain ⟨rfl, rfl⟩ := H
       obtain ⟨Ao24, co24, eo24⟩ := Kd.R_slice HO_8.out
       subst eo24
       go_wp2_with (first | (go_at_call 85; (with_reducible refine (impl_checkedWarnings.calls k2 (fun k_ => some k_ = (.slice Ao24 x8_2.length co24 : Value).ownBlock) (.slice Ao24 x8_2.length co24) x8_2 t594 t597 w _ ?side1 ?side2 A23.out).mono ?_); (case side1 => repeat (first | (with_reducible first | exact HB.out | apply below_alloc | apply pw_below_drewN | apply below_drew1) | exact HB.out)); (case side2 => exact Kd.R_tight rfl HO_8.out); rintro e w25 ⟨v595, rfl, ho0, hb, hkp⟩; have n0_ := Aside0.mk (Kd.R_mono (ok' := fun k_ => True) ho0 (fun k_ hk_ => trivial)); have n1_ := Aside0.mk (hb); clear HB; clear HO_8; have HO596 := n0_; have HB := n1_; clear n0_ n1_; (try clear hb); (try clear hkp); (try clear ho0)))
       repeat (go_quiet (first | (go_at_call 85; (with_reducible refine (impl_checkedWarnings.calls k2 (fun k_ => some k_ = (.slice Ao24 x8_2.length co24 : Value).ownBlock) (.slice Ao24 x8_2.length co24) x8_2 t594 t597 w _ ?side1 ?side2 A23.out).mono ?_); (case side1 => repeat (first | (with_reducible first | exact HB.out | apply below_alloc | apply pw_below_drewN | apply below_drew1) | exact HB.out)); (case side2 => exact Kd.R_tight rfl HO_8.out); rintro e w25 ⟨v595, rfl, ho0, hb, hkp⟩; have n0_ := Aside0.mk (Kd.R_mono (ok' := fun k_ => True) ho0 (fun k_ hk_ => trivial)); have n1_ := Aside0.mk (hb); clear HB; clear HO_8; have HO596 := n0_; have HB := n1_; clear n0_ n1_; (try clear hb); (try clear hkp); (try clear ho0))); try go_wp2_with (first | (go_at_call 85; (with_reducible refine (impl_checkedWarnings.calls k2 (fun k_ => some k_ = (.slice Ao24 x8_2.length co24 : Value).ownBlock) (.slice Ao24 x8_2.length co24) x8_2 t594 t597 w _ ?side1 ?side2 A23.out).mono ?_); (case side1 => repeat (first | (with_reducible first | exact HB.out | apply below_alloc | apply pw_below_drewN | apply below_drew1) | exact HB.out)); (case side2 => exact Kd.R_tight rfl HO_8.out); rintro e w25 ⟨v595, rfl, ho0, hb, hkp⟩; have n0_ := Aside0.mk (Kd.R_mono (ok' := fun k_ => True) ho0 (fun k_ hk_ => trivial)); have n1_ := Aside0.mk (hb); clear HB; clear HO_8; have HO596 := n0_; have HB := n1_; clear n0_ n1_; (try clear hb); (try clear hkp); (try clear ho0))))
       go_ret2
       exact ⟨_, by first | rfl | (simp [errW_none, errW_some] <;> rfl) | (simp [*, errW_none, errW_some] <;> rfl), by (with_reducible repeat (first | apply Kd.R_alloc | apply Kd.R_drewN | apply Kd.R_drew)); exact HO596.out, by repeat (first | (with_reducible first | exact HB.out | apply below_alloc | apply pw_below_drewN | apply below_drew1) | exact HB.out)⟩

end Go.Proofs.Ytklepiechbnenaa.Q
namespace Go.Proofs.Ytklepiechbnenaa.Q
open Go.RowKit Go.Proofs.YtklepiechbnenaaW.PrintWords Go.Proofs.YtklepiechbnenaaW.PrintLast Go.Proofs.YtklepiechbnenaaW.PrintMore
attribute [local go_sem] max2_int min2_int max_two min_two max_three min_three max_four min_four   -- for this text's walks alone
set_option linter.unusedVariables false
set_option linter.unusedSimpArgs false

/-! ### spec_l1Cur_hour15: function 86 -/
def spec_l1Cur_hour15.f (s0_0 : List Int) (s0_1 : Int) (s0_2 : Int) : Option (Int × Int × Int) := (spec_l1Cur_one.f s0_0 s0_1 s0_2 16).bind fun bt604 => (if bt604.1 = true then ((spec_l1Cur_among.f s0_0 bt604.2.1 bt604.2.2 (([(-1), 240, 239] : List Int))).bind fun bt610 => (some (bt610.1, bt610.2.1, bt610.2.2))) else ((spec_l1Cur_pick.f s0_0 bt604.2.1 bt604.2.2 45).bind fun bt613 => (some (bt613.1, bt613.2.1, bt613.2.2))))
set_option maxHeartbeats 8000000 in
set_option maxRecDepth 100000 in
theorem spec_l1Cur_hour15.calls (g : Nat) (s0_0 : List Int) (s0_1 : Int) (s0_2 : Int) (r1 : Int) (r2 : Int) (r3 : Int) (w0 w : World) (hI : IsS72 w0 w g s0_0 s0_1 s0_2) (hB : Below w0.heap.size w0 w) (h : spec_l1Cur_hour15.f s0_0 s0_1 s0_2 = some (r1, r2, r3)) :
  Calls Try.prog 86 #[.pointer (some ⟨g, 0, none⟩)] w fun e w' => e = .returned (.int .i64 r1) ∧ IsS72 w0 w' g s0_0 r2 r3 ∧ Below w0.heap.size w0 w' ∧ KeepBut w w' g none := by
 have HI0 := Aside0.mk hI
 have HK := Aside0.mk (KeepBut.refl w g none)
 have HL := Aside0.mk hB.size
 clear hI
 have HW0 := Aside0.mk hB.size
 have HB := Aside0.mk hB
 clear hB
 have H : ((spec_l1Cur_one.f s0_0 s0_1 s0_2 16).bind fun bt604 => (if bt604.1 = true then ((spec_l1Cur_among.f s0_0 bt604.2.1 bt604.2.2 (([(-1), 240, 239] : List Int))).bind fun bt610 => (some (bt610.1, bt610.2.1, bt610.2.2))) else ((spec_l1Cur_pick.f s0_0 bt604.2.1 bt604.2.2 45).bind fun bt613 => (some (bt613.1, bt613.2.1, bt613.2.2))))) = some (r1, r2, r3) := h
 clear h
 replace H := Option.bind_eq_some_iff.mp H
 obtain ⟨⟨t604, t605, t606⟩, A20, H⟩ := H
 replace H : (if t604 = true then ((spec_l1Cur_among.f s0_0 t605 t606 (([(-1), 240, 239] : List Int))).bind fun bt610 => (some (bt610.1, bt610.2.1, bt610.2.2))) else ((spec_l1Cur_pick.f s0_0 t605 t606 45).bind fun bt613 => (some (bt613.1, bt613.2.1, bt613.2.2)))) = some (r1, r2, r3) := H
 have A2 := Aside0.mk A20
 clear A20
 by_cases c3 : t604 = true
 ·
  subst c3
  have H1 : ((spec_l1Cur_among.f s0_0 t605 t606 (([(-1), 240, 239] : List Int))).bind fun bt610 => (some (bt610.1, bt610.2.1, bt610.2.2))) = some (r1, r2, r3) := by rw [if_pos rfl] at H; exact H
  clear H
  have H := H1
  clear H1
  obtain ⟨y607, hy607⟩ : ∃ y_ : List Int, y_ = (([(-1), 240, 239] : List Int)) := ⟨_, rfl⟩
  replace H : ((spec_l1Cur_among.f s0_0 t605 t606 y607).bind fun bt610 => (some (bt610.1, bt610.2.1, bt610.2.2))) = some (r1, r2, r3) := by first | (rw [hy607]; with_reducible exact H) | (have H2_ := (Option.bind_some _ _).symm.trans H; rw [hy607]; with_reducible exact H2_) | (have H2_ := (Option.bind_some _ _).symm.trans H; with_reducible exact H2_) | with_reducible exact H | (rw [hy607]; exact H) | exact H
  have Ny607 := Aside0.mk hy607
  clear hy607
  replace H := Option.bind_eq_some_iff.mp H
  obtain ⟨⟨t610, t611, t612⟩, A40, H⟩ := H
  replace H : (some (t610, t611, t612)) = some (r1, r2, r3) := H
  have A4 := Aside0.mk A40
  clear A40
  simp only [Option.some.injEq, Prod.mk.injEq] at H
  obtain ⟨rfl, rfl, rfl⟩ := H
  go_enter Try.func86, Try.ntmps86
  go_wp2_with (first | ((with_reducible refine gate_callee (f := 99) rfl ?_); refine goesL_ (some 4) rfl rfl Try.func99 (by kernel_rfl) rfl #[.pointer (some ⟨g, 0, none⟩), .int .i64 16] rfl zq1 ?_; (with_reducible refine (spec_l1Cur_one.calls g s0_0 s0_1 s0_2 16 true t605 t606 w0 _ ?side1 ?side2 A2.out).mono ?_); (case side1 => repeat (first | (with_reducible first | exact HI0.out | apply IsS72.alloc | apply IsS72.drewN | apply IsS72.drew | apply IsS72.set_1 | apply IsS72.set_2) | exact HI0.out)); (case side2 => repeat (first | (with_reducible first | exact HB.out | apply below_alloc | apply pw_below_drewN | apply below_drew1 | refine below_set ?_ (IsS72.ge HI0.out)) | exact HB.out)); rintro e w5 ⟨rfl, hi, hb, hk⟩; refine ⟨_, rfl, ?_⟩; have n0_ := Aside0.mk (KeepBut.trans zq2 hk (.inl rfl)); have n1_ := Aside0.mk (hb); have n2_ := Aside0.mk (hi); clear HK; clear HB; clear HI0; have HK := n0_; have HB := n1_; have HI0 := n2_; clear n0_ n1_ n2_; (try clear hb); (try clear hb2); (try clear hk); (try clear hi)) | ((with_reducible refine gate_dst (N := 6) rfl ?_); refine Kd.R_lit (Kd.int .i64) _ 3 ?hg (N := 6) ?hd (xs := ([(-1), 240, 239] : List Int)) (inner := [.int .i64 (-1), .int .i64 240, .int .i64 239]) (ok := fun _ => True) (okp := fun _ => True) ?hr ?hp (fun _ hk => hk) trivial (Below.refl _ _) (Nat.le_refl _) (by simp) ?_; (case hd => rfl); (case hg => rfl); (case hr => first | (go_simp; done) | (go_simp; rfl)); (case hp => exact (Reps.one (show Kd.M (Kd.int .i64) _ _ _ (-1) [.int .i64 (-1)] from rfl) (Reps.one (show Kd.M (Kd.int .i64) _ _ _ 240 [.int .i64 240] from rfl) (Reps.one (show Kd.M (Kd.int .i64) _ _ _ 239 [.int .i64 239] from rfl) (Reps.none _ _))))); intro v608 w6 ho7 hb hg_ hnew_; clear hg_ hnew_; (first | rw [← Ny607.out] at ho7 | (simp only [Int.reduceToNat] at ho7; rw [← Ny607.out] at ho7)); have n0_ := Aside0.mk (Kd.R_lower ho7 (keep_size (w := w) (g := g) (row := none) zq2)); have n1_ := Aside0.mk (IsS72.below zq12 hb); have n2_ := Aside0.mk (KeepBut.trans zq2 (KeepBut.of_below hb g none) (.inl rfl)); have n3_ := Aside0.mk (below_step zq11 hb); clear HI0; clear HK; clear HB; have HO609 := n0_; have HI0 := n1_; have HK := n2_; have HB := n3_; clear n0_ n1_ n2_ n3_; clear hb ho7; obtain ⟨Ao8, co8, eo8⟩ := Kd.R_slice HO609.out; subst eo8) | ((with_reducible refine gate_callee (f := 58) rfl ?_); refine goesL_ (some 7) rfl rfl Try.func58 (by kernel_rfl) rfl #[.pointer (some ⟨g, 0, none⟩), .slice Ao8 y607.length co8] rfl zq1 ?_; (with_reducible refine (spec_l1Cur_among.calls g s0_0 t605 t606 _ _ y607 t610 t611 t612 w0 _ ?side1 ?side2 ?side3 ?side4 ?side5 A4.out).mono ?_); (case side1 => repeat (first | (with_reducible first | exact HI0.out | apply IsS72.alloc | apply IsS72.drewN | apply IsS72.drew | apply IsS72.set_1 | apply IsS72.set_2) | exact HI0.out)); (case side2 => repeat (first | (with_reducible first | exact HB.out | apply below_alloc | apply pw_below_drewN | apply below_drew1 | refine below_set ?_ (IsS72.ge HI0.out)) | exact HB.out)); (case side3 => repeat (first | exact (Kd.R_reads' HO609.out).2.2 | (with_reducible refine Kd.C_alloc ?_ _) | (with_reducible refine Kd.C_drewN ?_ _) | (with_reducible refine Kd.C_drew ?_))); (case side4 => exact (Kd.R_reads' HO609.out).2.1); (case side5 => exact far_slice (IsS72.own_ne HI0.out HO609.out (by decide))); rintro e w9 ⟨rfl, hi, hb, hk⟩; refine ⟨_, rfl, ?_⟩; have n0_ := Aside0.mk (Kd.R_mono (Kd.R_keep (IsS72.apart (show IsS72 w0 _ g s0_0 t605 t606 from by repeat (first | (with_reducible first | exact HI0.out | apply IsS72.alloc | apply IsS72.drewN | apply IsS72.drew | apply IsS72.set_1 | apply IsS72.set_2) | exact HI0.out)) (zqR HO609.out) (by decide)) hk (fun _ h => h.2)) (fun _ h => h.1)); have n1_ := Aside0.mk (KeepBut.trans zq2 hk (.inl rfl)); have n2_ := Aside0.mk (hb); have n3_ := Aside0.mk (hi); clear HO609; clear HK; clear HB; clear HI0; have HO609 := n0_; have HK := n1_; have HB := n2_; have HI0 := n3_; clear n0_ n1_ n2_ n3_; (try clear hb); (try clear hb2); (try clear hk); (try clear hi)))
  go_ret
  exact ⟨by first | rfl | (simp [errW_none, errW_some] <;> rfl) | (simp [*, errW_none, errW_some] <;> rfl), by repeat (first | (with_reducible first | exact HI0.out | apply IsS72.alloc | apply IsS72.drewN | apply IsS72.drew | apply IsS72.set_1 | apply IsS72.set_2) | exact HI0.out), by repeat (first | (with_reducible first | exact HB.out | apply below_alloc | apply pw_below_drewN | apply below_drew1 | refine below_set ?_ (IsS72.ge HI0.out)) | exact HB.out), by repeat (first | (with_reducible first | exact HK.out | apply KeepBut.set_ | apply keep_drewN | apply keep_drew | apply keep_alloc) | exact HK.out)⟩
 ·
  replace c3 := Bool.eq_false_iff.mpr c3
  subst c3
  have H1 : ((spec_l1Cur_pick.f s0_0 t605 t606 45).bind fun bt613 => (some (bt613.1, bt613.2.1, bt613.2.2))) = some (r1, r2, r3) := by rw [if_neg (show ¬ (false = true) by decide)] at H; exact H
  clear H
  have H := H1
  clear H1
  replace H := Option.bind_eq_some_iff.mp H
  obtain ⟨⟨t613, t614, t615⟩, A100, H⟩ := H
  replace H : (some (t613, t614, t615)) = some (r1, r2, r3) := H
  have A10 := Aside0.mk A100
  clear A100
  simp only [Option.some.injEq, Prod.mk.injEq] at H
  obtain ⟨rfl, rfl, rfl⟩ := H
  go_enter Try.func86, Try.ntmps86
  go_wp2_with (first | ((with_reducible refine gate_callee (f := 99) rfl ?_); refine goesL_ (some 4) rfl rfl Try.func99 (by kernel_rfl) rfl #[.pointer (some ⟨g, 0, none⟩), .int .i64 16] rfl zq1 ?_; (with_reducible refine (spec_l1Cur_one.calls g s0_0 s0_1 s0_2 16 false t605 t606 w0 _ ?side1 ?side2 A2.out).mono ?_); (case side1 => repeat (first | (with_reducible first | exact HI0.out | apply IsS72.alloc | apply IsS72.drewN | apply IsS72.drew | apply IsS72.set_1 | apply IsS72.set_2) | exact HI0.out)); (case side2 => repeat (first | (with_reducible first | exact HB.out | apply below_alloc | apply pw_below_drewN | apply below_drew1 | refine below_set ?_ (IsS72.ge HI0.out)) | exact HB.out)); rintro e w11 ⟨rfl, hi, hb, hk⟩; refine ⟨_, rfl, ?_⟩; have n0_ := Aside0.mk (KeepBut.trans zq2 hk (.inl rfl)); have n1_ := Aside0.mk (hb); have n2_ := Aside0.mk (hi); clear HK; clear HB; clear HI0; have HK := n0_; have HB := n1_; have HI0 := n2_; clear n0_ n1_ n2_; (try clear hb); (try clear hb2); (try clear hk); (try clear hi)) | ((with_reducible refine gate_callee (f := 56) rfl ?_); refine goesL_ (some 9) rfl rfl Try.func56 (by kernel_rfl) rfl #[.pointer (some ⟨g, 0, none⟩), .int .i64 45] rfl zq1 ?_; (with_reducible refine (spec_l1Cur_pick.calls g s0_0 t605 t606 45 t613 t614 t615 w0 _ ?side1 ?side2 A10.out).mono ?_); (case side1 => repeat (first | (with_reducible first | exact HI0.out | apply IsS72.alloc | apply IsS72.drewN | apply IsS72.drew | apply IsS72.set_1 | apply IsS72.set_2) | exact HI0.out)); (case side2 => repeat (first | (with_reducible first | exact HB.out | apply below_alloc | apply pw_below_drewN | apply below_drew1 | refine below_set ?_ (IsS72.ge HI0.out)) | exact HB.out)); rintro e w12 ⟨rfl, hi, hb, hk⟩; refine ⟨_, rfl, ?_⟩; have n0_ := Aside0.mk (KeepBut.trans zq2 hk (.inl rfl)); have n1_ := Aside0.mk (hb); have n2_ := Aside0.mk (hi); clear HK; clear HB; clear HI0; have HK := n0_; have HB := n1_; have HI0 := n2_; clear n0_ n1_ n2_; (try clear hb); (try clear hb2); (try clear hk); (try clear hi)))
  go_ret
  exact ⟨by first | rfl | (simp [errW_none, errW_some] <;> rfl) | (simp [*, errW_none, errW_some] <;> rfl), by repeat (first | (with_reducible first | exact HI0.out | apply IsS72.alloc | apply IsS72.drewN | apply IsS72.drew | apply IsS72.set_1 | apply IsS72.set_2) | exact HI0.out), by repeat (first | (with_reducible first | exact HB.out | apply below_alloc | apply pw_below_drewN | apply below_drew1 | refine below_set ?_ (IsS72.ge HI0.out)) | exact HB.out), by repeat (first | (with_reducible first | exact HK.out | apply KeepBut.set_ | apply keep_drewN | apply keep_drew | apply keep_alloc) | exact HK.out)⟩

end Go.Proofs.Ytklepiechbnenaa.Q
namespace Go.Proofs.Ytklepiechbnenaa.Q
open Go.RowKit Go.Proofs.YtklepiechbnenaaW.PrintWords Go.Proofs.YtklepiechbnenaaW.PrintLast Go.Proofs.YtklepiechbnenaaW.PrintMore
attribute [local go_sem] max2_int min2_int max_two min_two max_three min_three max_four min_four   -- for this text's walks alone
set_option linter.unusedVariables false
set_option linter.unusedSimpArgs false

/-! ### spec_DrawAreaLevel: function 23 -/
def spec_DrawAreaLevel.f (k : Nat) (l0 : List Int) : Option ((List (S31)) × Int × Int) := (spec_l1Cur_warnings.f k l0 0 0).bind fun bt617 => ((spec_l1Cur_area15.f l0 bt617.2.1 bt617.2.2).bind fun bt622 => ((spec_l1Cur_hour15.f l0 bt622.2.1 bt622.2.2).bind fun bt625 => (some (bt617.1, bt622.1, bt625.1))))
theorem spec_DrawAreaLevel.mono : ∀ a0 k, LeO (spec_DrawAreaLevel.f k a0) (spec_DrawAreaLevel.f (k + 1) a0) := by
 intro a0 k
 unfold spec_DrawAreaLevel.f
 repeat' first
   | (with_reducible exact spec_l1Cur_warnings.mono _ _ _ _)
   | (with_reducible exact LeO.refl _)
   | (with_reducible exact LeO.none _)
   | (with_reducible refine LeO.ite ?_ ?_)
   | (with_reducible refine LeO.bind ?_ (fun _ => ?_))
   | exact spec_l1Cur_warnings.mono _ _ _ _
   | exact LeO.none _
   | refine LeO.ite ?_ ?_
   | refine LeO.bind ?_ (fun _ => ?_)
set_option maxHeartbeats 8000000 in
set_option maxRecDepth 100000 in
theorem spec_DrawAreaLevel.calls (k : Nat) (A0 : Option Addr) (c0 : Nat) (l0 : List Int) (r1 : List (S31)) (r2 : Int) (r3 : Int) (w : World) (hr0 : Kd.C (Kd.int .u8) w A0 l0.length l0) (hc0 : l0.length ≤ c0) (h : spec_DrawAreaLevel.f k l0 = some (r1, r2, r3)) :
  Calls Try.prog 23 #[.slice A0 l0.length c0] w fun e w' => ∃ v0_ : Value, e = .returned (.tuple #[v0_, .int .i64 r2, .int .i64 r3]) ∧ Kd.R k31 31 w' w.heap.size (fun _ => True) v0_ r1 ∧ Below w.heap.size w w' := by
 have hu72 := Try.underlying72
 have HR0 := Aside0.mk hr0
 have HC0 := Aside0.mk hc0
 clear hr0 hc0
 have HB := Aside0.mk (Below.refl w.heap.size w)
 have H : ((spec_l1Cur_warnings.f k l0 0 0).bind fun bt617 => ((spec_l1Cur_area15.f l0 bt617.2.1 bt617.2.2).bind fun bt622 => ((spec_l1Cur_hour15.f l0 bt622.2.1 bt622.2.2).bind fun bt625 => (some (bt617.1, bt622.1, bt625.1))))) = some (r1, r2, r3) := h
 clear h
 replace H := Option.bind_eq_some_iff.mp H
 obtain ⟨⟨t617, t620, t621⟩, A20, H⟩ := H
 replace H : ((spec_l1Cur_area15.f l0 t620 t621).bind fun bt622 => ((spec_l1Cur_hour15.f l0 bt622.2.1 bt622.2.2).bind fun bt625 => (some (t617, bt622.1, bt625.1)))) = some (r1, r2, r3) := H
 have A2 := Aside0.mk A20
 clear A20
 replace H := Option.bind_eq_some_iff.mp H
 obtain ⟨⟨t622, t623, t624⟩, A30, H⟩ := H
 replace H : ((spec_l1Cur_hour15.f l0 t623 t624).bind fun bt625 => (some (t617, t622, bt625.1))) = some (r1, r2, r3) := H
 have A3 := Aside0.mk A30
 clear A30
 replace H := Option.bind_eq_some_iff.mp H
 obtain ⟨⟨t625, t626, t627⟩, A40, H⟩ := H
 replace H : (some (t617, t622, t625)) = some (r1, r2, r3) := H
 have A4 := Aside0.mk A40
 clear A40
 simp only [Option.some.injEq, Prod.mk.injEq] at H
 obtain ⟨rfl, rfl, rfl⟩ := H
 go_enter Try.func23, Try.ntmps23
 go_wp2_with (first | ((with_reducible refine gate_dst (N := 8) rfl ?_); refine box_event ?hg (N := 8) ?hd (cs := #[.slice A0 l0.length c0, .int .i64 0, .int .u64 0]) (t := 72) ?hr ?_; (case hd => rfl); (case hg => rfl); (case hr => first | (go_simp; done) | (go_simp; rfl)); intro gb616 hg w5 hbox hb; have n0_ := Aside0.mk (below_step zq0 hb); have n1_ := Aside0.mk ((show IsS72 w w5 gb616 l0 0 0 from ⟨_, _, hbox, (by rw [hg]; exact (below_size zq0) : w.heap.size ≤ gb616), HR0.out⟩)); have n2_ := Aside0.mk ((by rw [hg]; exact (below_size zq0) : w.heap.size ≤ gb616)); have n3_ := Aside0.mk ((by rw [hg]; exact (below_size zq0) : w.heap.size ≤ gb616)); clear HB; have HB := n0_; have HI616 := n1_; have GW616 := n2_; have GE616 := n3_; clear n0_ n1_ n2_ n3_; clear hb hbox hg) | ((with_reducible refine gate_callee (f := 54) rfl ?_); refine goesL_ (some 10) rfl rfl Try.func54 (by kernel_rfl) rfl #[.pointer (some ⟨gb616, 0, none⟩)] rfl zq1 ?_; (with_reducible refine (spec_l1Cur_warnings.calls k gb616 l0 0 0 t617 t620 t621 w _ ?side1 ?side2 A2.out).mono ?_); (case side1 => repeat (first | (with_reducible first | exact HI616.out | apply IsS72.alloc | apply IsS72.drewN | apply IsS72.drew | apply IsS72.set_1 | apply IsS72.set_2) | exact HI616.out)); (case side2 => repeat (first | (with_reducible first | exact HB.out | apply below_alloc | apply pw_below_drewN | apply below_drew1 | refine below_set ?_ (IsS72.ge HI616.out)) | exact HB.out)); rintro e w6 ⟨v618, rfl, ho0, hi, hb, hk⟩; refine ⟨_, rfl, ?_⟩; have n0_ := Aside0.mk (Kd.R_lower ho0 (below_size (by repeat (first | (with_reducible first | exact HB.out | apply below_alloc | apply pw_below_drewN | apply below_drew1 | refine below_set ?_ (IsS72.ge HI616.out)) | exact HB.out)))); have n1_ := Aside0.mk (hb); have n2_ := Aside0.mk (hi); clear HB; clear HI616; have HO619 := n0_; have HB := n1_; have HI616 := n2_; clear n0_ n1_ n2_; (try clear hb); (try clear hb2); (try clear hk); (try clear hi); (try clear ho0)) | ((with_reducible refine gate_callee (f := 78) rfl ?_); refine goesL_ (some 12) rfl rfl Try.func78 (by kernel_rfl) rfl #[.pointer (some ⟨gb616, 0, none⟩)] rfl zq1 ?_; (with_reducible refine (spec_l1Cur_area15.calls gb616 l0 t620 t621 t622 t623 t624 w _ ?side1 ?side2 A3.out).mono ?_); (case side1 => repeat (first | (with_reducible first | exact HI616.out | apply IsS72.alloc | apply IsS72.drewN | apply IsS72.drew | apply IsS72.set_1 | apply IsS72.set_2) | exact HI616.out)); (case side2 => repeat (first | (with_reducible first | exact HB.out | apply below_alloc | apply pw_below_drewN | apply below_drew1 | refine below_set ?_ (IsS72.ge HI616.out)) | exact HB.out)); rintro e w7 ⟨rfl, hi, hb, hk⟩; refine ⟨_, rfl, ?_⟩; have n0_ := Aside0.mk (Kd.R_mono (Kd.R_keep (IsS72.apart (show IsS72 w _ gb616 l0 t620 t621 from by repeat (first | (with_reducible first | exact HI616.out | apply IsS72.alloc | apply IsS72.drewN | apply IsS72.drew | apply IsS72.set_1 | apply IsS72.set_2) | exact HI616.out)) (zqR HO619.out) (by decide)) hk (fun _ h => h.2)) (fun _ h => h.1)); have n1_ := Aside0.mk (hb); have n2_ := Aside0.mk (hi); clear HO619; clear HB; clear HI616; have HO619 := n0_; have HB := n1_; have HI616 := n2_; clear n0_ n1_ n2_; (try clear hb); (try clear hb2); (try clear hk); (try clear hi)) | ((with_reducible refine gate_callee (f := 86) rfl ?_); refine goesL_ (some 14) rfl rfl Try.func86 (by kernel_rfl) rfl #[.pointer (some ⟨gb616, 0, none⟩)] rfl zq1 ?_; (with_reducible refine (spec_l1Cur_hour15.calls gb616 l0 t623 t624 t625 t626 t627 w _ ?side1 ?side2 A4.out).mono ?_); (case side1 => repeat (first | (with_reducible first | exact HI616.out | apply IsS72.alloc | apply IsS72.drewN | apply IsS72.drew | apply IsS72.set_1 | apply IsS72.set_2) | exact HI616.out)); (case side2 => repeat (first | (with_reducible first | exact HB.out | apply below_alloc | apply pw_below_drewN | apply below_drew1 | refine below_set ?_ (IsS72.ge HI616.out)) | exact HB.out)); rintro e w8 ⟨rfl, hi, hb, hk⟩; refine ⟨_, rfl, ?_⟩; have n0_ := Aside0.mk (Kd.R_mono (Kd.R_keep (IsS72.apart (show IsS72 w _ gb616 l0 t623 t624 from by repeat (first | (with_reducible first | exact HI616.out | apply IsS72.alloc | apply IsS72.drewN | apply IsS72.drew | apply IsS72.set_1 | apply IsS72.set_2) | exact HI616.out)) (zqR HO619.out) (by decide)) hk (fun _ h => h.2)) (fun _ h => h.1)); have n1_ := Aside0.mk (hb); have n2_ := Aside0.mk (hi); clear HO619; clear HB; clear HI616; have HO619 := n0_; have HB := n1_; have HI616 := n2_; clear n0_ n1_ n2_; (try clear hb); (try clear hb2); (try clear hk); (try clear hi)))
 go_ret3
 exact ⟨_, by first | rfl | (simp [errW_none, errW_some] <;> rfl) | (simp [*, errW_none, errW_some] <;> rfl), by (with_reducible repeat (first | apply Kd.R_alloc | apply Kd.R_drewN | apply Kd.R_drew)); exact HO619.out, by repeat (first | (with_reducible first | exact HB.out | apply below_alloc | apply pw_below_drewN | apply below_drew1 | refine below_set ?_ (IsS72.ge HI616.out)) | exact HB.out)⟩

end Go.Proofs.Ytklepiechbnenaa.Q
namespace Go.Proofs.Ytklepiechbnenaa.Q
open Go.RowKit Go.Proofs.YtklepiechbnenaaW.PrintWords Go.Proofs.YtklepiechbnenaaW.PrintLast Go.Proofs.YtklepiechbnenaaW.PrintMore
attribute [local go_sem] max2_int min2_int max_two min_two max_three min_three max_four min_four   -- for this text's walks alone
set_option linter.unusedVariables false
set_option linter.unusedSimpArgs false

/-! ### impl_AreaLevel: function 24 -/
def impl_AreaLevel.f (k : Nat) (l0 : List (S31)) (a1 : Int) (a2 : Int) : Option (Int × Bool) := (impl_IsConsistent.f k l0).bind fun t628 => (if t628 = true then ((impl_within.f a1 1 9).bind fun t629 => (if t629 = true then ((impl_isStateHour.f a2).bind fun t630 => (if t630 = true then ((impl_areaLevel.f k l0 a1 a2).bind fun t631 => (some (t631, true))) else (some (0, false)))) else (some (0, false)))) else (some (0, false)))
theorem impl_AreaLevel.mono : ∀ a0 a1 a2 k, LeO (impl_AreaLevel.f k a0 a1 a2) (impl_AreaLevel.f (k + 1) a0 a1 a2) := by
 intro a0 a1 a2 k
 unfold impl_AreaLevel.f
 repeat' first
   | (with_reducible exact impl_IsConsistent.mono _ _)
   | (with_reducible exact impl_areaLevel.mono _ _ _ _)
   | (with_reducible exact LeO.refl _)
   | (with_reducible exact LeO.none _)
   | (with_reducible refine LeO.ite ?_ ?_)
   | (with_reducible refine LeO.bind ?_ (fun _ => ?_))
   | exact impl_IsConsistent.mono _ _
   | exact impl_areaLevel.mono _ _ _ _
   | exact LeO.none _
   | refine LeO.ite ?_ ?_
   | refine LeO.bind ?_ (fun _ => ?_)
set_option maxHeartbeats 8000000 in
set_option maxRecDepth 100000 in
theorem impl_AreaLevel.calls (k : Nat) (A0 : Option Addr) (c0 : Nat) (l0 : List (S31)) (a1 : Int) (a2 : Int) (r1 : Int) (r2 : Bool) (w : World) (hr0 : Kd.C k31 w A0 l0.length l0) (hc0 : l0.length ≤ c0) (h : impl_AreaLevel.f k l0 a1 a2 = some (r1, r2)) :
  Calls Try.prog 24 #[.slice A0 l0.length c0, .int .i64 a1, .int .i64 a2] w fun e w' => e = .returned (.tuple #[.int .i64 r1, .bool r2]) ∧ Below w.heap.size w w' := by
 have HR0 := Aside0.mk hr0
 have HC0 := Aside0.mk hc0
 clear hr0 hc0
 have HB := Aside0.mk (Below.refl w.heap.size w)
 have H : ((impl_IsConsistent.f k l0).bind fun t628 => (if t628 = true then ((impl_within.f a1 1 9).bind fun t629 => (if t629 = true then ((impl_isStateHour.f a2).bind fun t630 => (if t630 = true then ((impl_areaLevel.f k l0 a1 a2).bind fun t631 => (some (t631, true))) else (some (0, false)))) else (some (0, false)))) else (some (0, false)))) = some (r1, r2) := h
 clear h
 replace H := Option.bind_eq_some_iff.mp H
 obtain ⟨t628, A40, H⟩ := H
 replace H : (if t628 = true then ((impl_within.f a1 1 9).bind fun t629 => (if t629 = true then ((impl_isStateHour.f a2).bind fun t630 => (if t630 = true then ((impl_areaLevel.f k l0 a1 a2).bind fun t631 => (some (t631, true))) else (some (0, false)))) else (some (0, false)))) else (some (0, false))) = some (r1, r2) := H
 have A4 := Aside0.mk A40
 clear A40
 by_cases c5 : t628 = true
 ·
  subst c5
  have H1 : ((impl_within.f a1 1 9).bind fun t629 => (if t629 = true then ((impl_isStateHour.f a2).bind fun t630 => (if t630 = true then ((impl_areaLevel.f k l0 a1 a2).bind fun t631 => (some (t631, true))) else (some (0, false)))) else (some (0, false)))) = some (r1, r2) := by rw [if_pos rfl] at H; exact H
  clear H
  have H := H1
  clear H1
  replace H := Option.bind_eq_some_iff.mp H
  obtain ⟨t629, A60, H⟩ := H
  replace H : (if t629 = true then ((impl_isStateHour.f a2).bind fun t630 => (if t630 = true then ((impl_areaLevel.f k l0 a1 a2).bind fun t631 => (some (t631, true))) else (some (0, false)))) else (some (0, false))) = some (r1, r2) := H
  have A6 := Aside0.mk A60
  clear A60
  by_cases c7 : t629 = true
  ·
   subst c7
   have H1 : ((impl_isStateHour.f a2).bind fun t630 => (if t630 = true then ((impl_areaLevel.f k l0 a1 a2).bind fun t631 => (some (t631, true))) else (some (0, false)))) = some (r1, r2) := by rw [if_pos rfl] at H; exact H
   clear H
   have H := H1
   clear H1
   replace H := Option.bind_eq_some_iff.mp H
   obtain ⟨t630, A80, H⟩ := H
   replace H : (if t630 = true then ((impl_areaLevel.f k l0 a1 a2).bind fun t631 => (some (t631, true))) else (some (0, false))) = some (r1, r2) := H
   have A8 := Aside0.mk A80
   clear A80
   by_cases c9 : t630 = true
   ·
    subst c9
    have H1 : ((impl_areaLevel.f k l0 a1 a2).bind fun t631 => (some (t631, true))) = some (r1, r2) := by rw [if_pos rfl] at H; exact H
    clear H
    have H := H1
    clear H1
    replace H := Option.bind_eq_some_iff.mp H
    obtain ⟨t631, A100, H⟩ := H
    replace H : (some (t631, true)) = some (r1, r2) := H
    have A10 := Aside0.mk A100
    clear A100
    simp only [Option.some.injEq, Prod.mk.injEq] at H
    obtain ⟨rfl, rfl⟩ := H
    go_enter Try.func24, Try.ntmps24
    go_wp2_with (first | ((with_reducible refine gate_callee (f := 12) rfl ?_); refine goesL_ (some 9) rfl rfl Try.func12 (by kernel_rfl) rfl #[.slice A0 l0.length c0] rfl zq1 ?_; (with_reducible refine (impl_IsConsistent.calls k _ _ l0 true _ ?side1 ?side2 A4.out).mono ?_); (case side1 => repeat (first | exact HR0.out | (with_reducible refine Kd.C_alloc ?_ _) | (with_reducible refine Kd.C_drewN ?_ _) | (with_reducible refine Kd.C_drew ?_))); (case side2 => exact HC0.out); rintro e w11 ⟨rfl, hb⟩; refine ⟨_, rfl, ?_⟩; have n0_ := Aside0.mk (below_step zq0 hb); clear HB; have HB := n0_; clear n0_; (try clear hb); (try clear hb2); (try clear hk); (try clear hi)) | (go_at_call 60; (with_reducible refine (impl_within.calls a1 1 9 true _ A6.out).mono ?_); rintro e w' ⟨rfl, ⟨nd, rfl⟩⟩) | (go_at_call 71; (with_reducible refine (impl_isStateHour.calls a2 true _ A8.out).mono ?_); rintro e w' ⟨rfl, ⟨nd, rfl⟩⟩) | ((with_reducible refine gate_callee (f := 73) rfl ?_); refine goesL_ (some 24) rfl rfl Try.func73 (by kernel_rfl) rfl #[.slice A0 l0.length c0, .int .i64 a1, .int .i64 a2] rfl zq1 ?_; (with_reducible refine (impl_areaLevel.calls k _ _ l0 a1 a2 t631 _ ?side1 ?side2 A10.out).mono ?_); (case side1 => repeat (first | exact (Kd.C_below HR0.out zq0) | (with_reducible refine Kd.C_alloc ?_ _) | (with_reducible refine Kd.C_drewN ?_ _) | (with_reducible refine Kd.C_drew ?_))); (case side2 => exact HC0.out); rintro e w12 ⟨rfl, hb⟩; refine ⟨_, rfl, ?_⟩; have n0_ := Aside0.mk (below_step zq0 hb); clear HB; have HB := n0_; clear n0_; (try clear hb); (try clear hb2); (try clear hk); (try clear hi)))
    go_ret2
    exact ⟨by first | rfl | (simp [errW_none, errW_some] <;> rfl) | (simp [*, errW_none, errW_some] <;> rfl), by repeat (first | (with_reducible first | exact HB.out | apply below_alloc | apply pw_below_drewN | apply below_drew1) | exact HB.out)⟩
   ·
    replace c9 := Bool.eq_false_iff.mpr c9
    subst c9
    have H1 : (some (0, false)) = some (r1, r2) := by rw [if_neg (show ¬ (false = true) by decide)] at H; exact H
    clear H
    have H := H1
    clear H1
    simp only [Option.some.injEq, Prod.mk.injEq] at H
    obtain ⟨rfl, rfl⟩ := H
    go_enter Try.func24, Try.ntmps24
    go_wp2_with (first | ((with_reducible refine gate_callee (f := 12) rfl ?_); refine goesL_ (some 9) rfl rfl Try.func12 (by kernel_rfl) rfl #[.slice A0 l0.length c0] rfl zq1 ?_; (with_reducible refine (impl_IsConsistent.calls k _ _ l0 true _ ?side1 ?side2 A4.out).mono ?_); (case side1 => repeat (first | exact HR0.out | (with_reducible refine Kd.C_alloc ?_ _) | (with_reducible refine Kd.C_drewN ?_ _) | (with_reducible refine Kd.C_drew ?_))); (case side2 => exact HC0.out); rintro e w13 ⟨rfl, hb⟩; refine ⟨_, rfl, ?_⟩; have n0_ := Aside0.mk (below_step zq0 hb); clear HB; have HB := n0_; clear n0_; (try clear hb); (try clear hb2); (try clear hk); (try clear hi)) | (go_at_call 60; (with_reducible refine (impl_within.calls a1 1 9 true _ A6.out).mono ?_); rintro e w' ⟨rfl, ⟨nd, rfl⟩⟩) | (go_at_call 71; (with_reducible refine (impl_isStateHour.calls a2 false _ A8.out).mono ?_); rintro e w' ⟨rfl, ⟨nd, rfl⟩⟩))
    go_ret2
    exact ⟨by first | rfl | (simp [errW_none, errW_some] <;> rfl) | (simp [*, errW_none, errW_some] <;> rfl), by repeat (first | (with_reducible first | exact HB.out | apply below_alloc | apply pw_below_drewN | apply below_drew1) | exact HB.out)⟩
  ·
   replace c7 := Bool.eq_false_iff.mpr c7
   subst c7
   have H1 : (some (0, false)) = some (r1, r2) := by rw [if_neg (show ¬ (false = true) by decide)] at H; exact H
   clear H
   have H := H1
   clear H1
   simp only [Option.some.injEq, Prod.mk.injEq] at H
   obtain ⟨rfl, rfl⟩ := H
   go_enter Try.func24, Try.ntmps24
   go_wp2_with (first | ((with_reducible refine gate_callee (f := 12) rfl ?_); refine goesL_ (some 9) rfl rfl Try.func12 (by kernel_rfl) rfl #[.slice A0 l0.length c0] rfl zq1 ?_; (with_reducible refine (impl_IsConsistent.calls k _ _ l0 true _ ?side1 ?side2 A4.out).mono ?_); (case side1 => repeat (first | exact HR0.out | (with_reducible refine Kd.C_alloc ?_ _) | (with_reducible refine Kd.C_drewN ?_ _) | (with_reducible refine Kd.C_drew ?_))); (case side2 => exact HC0.out); rintro e w14 ⟨rfl, hb⟩; refine ⟨_, rfl, ?_⟩; have n0_ := Aside0.mk (below_step zq0 hb); clear HB; have HB := n0_; clear n0_; (try clear hb); (try clear hb2); (try clear hk); (try clear hi)) | (go_at_call 60; (with_reducible refine (impl_within.calls a1 1 9 false _ A6.out).mono ?_); rintro e w' ⟨rfl, ⟨nd, rfl⟩⟩))
   go_ret2
   exact ⟨by first | rfl | (simp [errW_none, errW_some] <;> rfl) | (simp [*, errW_none, errW_some] <;> rfl), by repeat (first | (with_reducible first | exact HB.out | apply below_alloc | apply pw_below_drewN | apply below_drew1) | exact HB.out)⟩
 ·
  replace c5 := Bool.eq_false_iff.mpr c5
  subst c5
  have H1 : (some (0, false)) = some (r1, r2) := by rw [if_neg (show ¬ (false = true) by decide)] at H; exact H
  clear H
  have H := H1
  clear H1
  simp only [Option.some.injEq, Prod.mk.injEq] at H
  obtain ⟨rfl, rfl⟩ := H
  go_enter Try.func24, Try.ntmps24
  go_wp2_with (first | ((with_reducible refine gate_callee (f := 12) rfl ?_); refine goesL_ (some 9) rfl rfl Try.func12 (by kernel_rfl) rfl #[.slice A0 l0.length c0] rfl zq1 ?_; (with_reducible refine (impl_IsConsistent.calls k _ _ l0 false _ ?side1 ?side2 A4.out).mono ?_); (case side1 => repeat (first | exact HR0.out | (with_reducible refine Kd.C_alloc ?_ _) | (with_reducible refine Kd.C_drewN ?_ _) | (with_reducible refine Kd.C_drew ?_))); (case side2 => exact HC0.out); rintro e w15 ⟨rfl, hb⟩; refine ⟨_, rfl, ?_⟩; have n0_ := Aside0.mk (below_step zq0 hb); clear HB; have HB := n0_; clear n0_; (try clear hb); (try clear hb2); (try clear hk); (try clear hi)))
  go_ret2
  exact ⟨by first | rfl | (simp [errW_none, errW_some] <;> rfl) | (simp [*, errW_none, errW_some] <;> rfl), by repeat (first | (with_reducible first | exact HB.out | apply below_alloc | apply pw_below_drewN | apply below_drew1) | exact HB.out)⟩

end Go.Proofs.Ytklepiechbnenaa.Q
namespace Go.Proofs.Ytklepiechbnenaa.Q
open Go.RowKit Go.Proofs.YtklepiechbnenaaW.PrintWords Go.Proofs.YtklepiechbnenaaW.PrintLast Go.Proofs.YtklepiechbnenaaW.PrintMore
attribute [local go_sem] max2_int min2_int max_two min_two max_three min_three max_four min_four   -- for this text's walks alone
set_option linter.unusedVariables false
set_option linter.unusedSimpArgs false

/-! ### spec_l15Hour: function 87 -/
def spec_l15Hour.f (a0 : Int) : Option (Bool) := (spec_l1In.f a0 0 239).bind fun t632 => (some t632)
set_option maxHeartbeats 8000000 in
set_option maxRecDepth 100000 in
theorem spec_l15Hour.calls (a0 : Int) (r : Bool) (w : World) (h : spec_l15Hour.f a0 = some r) :
  Calls Try.prog 87 #[.int .i64 a0] w fun e w' => e = .returned (.bool r) ∧ Drawn0 w w' := by
 have H : ((spec_l1In.f a0 0 239).bind fun t632 => (some t632)) = some r := h
 clear h
 replace H := Option.bind_eq_some_iff.mp H
 obtain ⟨t632, A20, H⟩ := H
 replace H : (some t632) = some r := H
 have A2 := Aside0.mk A20
 clear A20
 obtain rfl := Option.some.inj H
 go_enter Try.func87, Try.ntmps87
 go_wp2_with (first | ((with_reducible refine gate_callee (f := 101) rfl ?_); refine goesL_ (some 4) rfl rfl Try.func101 (by kernel_rfl) rfl #[.int .i64 a0, .int .i64 0, .int .i64 239] rfl zq1 ?_; (with_reducible refine (spec_l1In.calls a0 0 239 t632 _ A2.out).mono ?_); rintro e w' ⟨rfl, ⟨nd, rfl⟩⟩; refine ⟨_, rfl, ?_⟩))
 go_ret
 exact ⟨by first | rfl | (simp; done) | (simp [*]; done), by repeat (first | exact Drawn0.refl _ | apply Drawn0.step)⟩

end Go.Proofs.Ytklepiechbnenaa.Q
namespace Go.Proofs.Ytklepiechbnenaa.Q
open Go.RowKit Go.Proofs.YtklepiechbnenaaW.PrintWords Go.Proofs.YtklepiechbnenaaW.PrintLast Go.Proofs.YtklepiechbnenaaW.PrintMore
attribute [local go_sem] max2_int min2_int max_two min_two max_three min_three max_four min_four   -- for this text's walks alone
set_option linter.unusedVariables false
set_option linter.unusedSimpArgs false

/-! ### spec_l1Most: function 96 -/
def spec_l1Most.f (a0 a1 : Int) : Option Int := if a0 > a1 then (some a0) else (some a1)
theorem spec_l1Most.calls (a0 a1 : Int) (r : Int) (w : World) (h : spec_l1Most.f a0 a1 = some r) :
  Calls Try.prog 96 #[.int .i64 a0, .int .i64 a1] w fun e w' => e = .returned (.int .i64 r) ∧ Below w.heap.size w w' := by
 unfold spec_l1Most.f at h
 by_cases hc : a0 > a1
 ·
  rw [if_pos hc] at h
  obtain rfl := Option.some.inj h
  have hc' : a1 < a0 := hc
  clear h hc
  go_enter Try.func96, Try.ntmps96
  go_wp2
  go_ret
  exact ⟨rfl, by first | exact Below.refl _ _ | exact pw_below_drewN (Below.refl _ _) _⟩
 ·
  rw [if_neg hc] at h
  obtain rfl := Option.some.inj h
  have hc' : ¬ a1 < a0 := hc
  clear h hc
  go_enter Try.func96, Try.ntmps96
  go_wp2
  go_ret
  exact ⟨rfl, by first | exact Below.refl _ _ | exact pw_below_drewN (Below.refl _ _) _⟩

end Go.Proofs.Ytklepiechbnenaa.Q
namespace Go.Proofs.Ytklepiechbnenaa.Q
open Go.RowKit Go.Proofs.YtklepiechbnenaaW.PrintWords Go.Proofs.YtklepiechbnenaaW.PrintLast Go.Proofs.YtklepiechbnenaaW.PrintMore
attribute [local go_sem] max2_int min2_int max_two min_two max_three min_three max_four min_four   -- for this text's walks alone
set_option linter.unusedVariables false
set_option linter.unusedSimpArgs false

/-! ### spec_l15Greatest: function 88 -/
def spec_l15Greatest.l0 : Nat → List (S31) → Int → Int → Int → Int → Option (Int)
 | 0, _, _, _, _, _ => none
 | k + 1, x0, x1, x2, x7, x8 => if x8 ≤ 5 then ((spec_l15Level.f k x0 x8 x1 x2).bind fun t633 => ((spec_l1Most.f x7 t633).bind fun t634 => (spec_l15Greatest.l0 k x0 x1 x2 t634 (wrap64 (x8 + 1))))) else (some x7)
def spec_l15Greatest.f (k : Nat) (l0 : List (S31)) (a1 : Int) (a2 : Int) : Option (Int) := spec_l15Greatest.l0 k l0 a1 a2 0 1
theorem spec_l15Greatest.mono_l : ∀ k, (∀ y0 y1 y2 y3 y4, LeO (spec_l15Greatest.l0 k y0 y1 y2 y3 y4) (spec_l15Greatest.l0 (k + 1) y0 y1 y2 y3 y4))
 | 0 => fun _ _ _ _ _ r h => by simp [spec_l15Greatest.l0] at h
 | k + 1 => by
  have ih0 := spec_l15Greatest.mono_l k
  ·
   intro y0 y1 y2 y3 y4
   unfold spec_l15Greatest.l0
   repeat' first
   | (with_reducible exact ih0 _ _ _ _ _)
   | (with_reducible exact spec_l15Level.mono _ _ _ _ _)
   | (with_reducible exact LeO.refl _)
   | (with_reducible exact LeO.none _)
   | (with_reducible refine LeO.ite ?_ ?_)
   | (with_reducible refine LeO.bind ?_ (fun _ => ?_))
   | exact ih0 _ _ _ _ _
   | exact spec_l15Level.mono _ _ _ _ _
   | exact LeO.none _
   | refine LeO.ite ?_ ?_
   | refine LeO.bind ?_ (fun _ => ?_)
theorem spec_l15Greatest.mono : ∀ a0 a1 a2 k, LeO (spec_l15Greatest.f k a0 a1 a2) (spec_l15Greatest.f (k + 1) a0 a1 a2) := by
 intro a0 a1 a2 k
 have ih0 := spec_l15Greatest.mono_l k
 unfold spec_l15Greatest.f
 repeat' first
   | (with_reducible exact ih0 _ _ _ _ _)
   | (with_reducible exact spec_l15Level.mono _ _ _ _ _)
   | (with_reducible exact LeO.refl _)
   | (with_reducible exact LeO.none _)
   | (with_reducible refine LeO.ite ?_ ?_)
   | (with_reducible refine LeO.bind ?_ (fun _ => ?_))
   | exact ih0 _ _ _ _ _
   | exact spec_l15Level.mono _ _ _ _ _
   | exact LeO.none _
   | refine LeO.ite ?_ ?_
   | refine LeO.bind ?_ (fun _ => ?_)
set_option maxHeartbeats 8000000 in
set_option maxRecDepth 100000 in
theorem spec_l15Greatest.calls (k : Nat) (A0 : Option Addr) (c0 : Nat) (l0 : List (S31)) (a1 : Int) (a2 : Int) (r : Int) (w : World) (hr0 : Kd.C k31 w A0 l0.length l0) (hc0 : l0.length ≤ c0) (h : spec_l15Greatest.f k l0 a1 a2 = some r) :
  Calls Try.prog 88 #[.slice A0 l0.length c0, .int .i64 a1, .int .i64 a2] w fun e w' => e = .returned (.int .i64 r) ∧ Below w.heap.size w w' := by
 have HR0 := Aside0.mk hr0
 have HC0 := Aside0.mk hc0
 clear hr0 hc0
 have HB := Aside0.mk (Below.refl w.heap.size w)
 have H : (spec_l15Greatest.l0 k l0 a1 a2 0 1) = some r := h
 clear h
 have H' := Aside0.mk H
 clear H
 go_enter Try.func88, Try.ntmps88
 go_wp2
 go_loopg [7, 8] k (fun kq v7 v8 w' => ∃ (x7_1 : Int) (x8_1 : Int), v7 = .int .i64 x7_1 ∧ v8 = .int .i64 x8_1 ∧ Aside0 (spec_l15Greatest.l0 kq l0 a1 a2 x7_1 x8_1 = some r) ∧ Aside0 (kq ≤ k) ∧ Aside0 (Below w.heap.size w w'))
 case atStart => exact ⟨(0), (1), (by first | rfl | (simp; done) | (simp [*]; done)), (by first | rfl | (simp; done) | (simp [*]; done)), H', ⟨Nat.le_refl _⟩, ⟨by repeat (first | (with_reducible first | exact HB.out | apply below_alloc | apply pw_below_drewN | apply below_drew1) | exact HB.out)⟩⟩
 case round =>
  clear H'
  try clear p2
  obtain ⟨x7_1, x8_1, rfl, rfl, HA, HK1, HB⟩ := hrel
  cases gk with
  | zero => exact absurd HA.out (by simp [spec_l15Greatest.l0])
  | succ k1 =>
   have H := HA.out
   clear HA
   simp only [spec_l15Greatest.l0] at H
   by_cases c4 : x8_1 ≤ 5
   ·
    rw [if_pos c4] at H
    have c4b0 : decide (x8_1 ≤ 5) = true := decide_eq_true c4
    clear c4
    replace H := Option.bind_eq_some_iff.mp H
    obtain ⟨t633, A50, H⟩ := H
    replace H : ((spec_l1Most.f x7_1 t633).bind fun t634 => (spec_l15Greatest.l0 k1 l0 a1 a2 t634 (wrap64 (x8_1 + 1)))) = some r := H
    have A5 := Aside0.mk A50
    clear A50
    replace H := Option.bind_eq_some_iff.mp H
    obtain ⟨t634, A60, H⟩ := H
    replace H : (spec_l15Greatest.l0 k1 l0 a1 a2 t634 (wrap64 (x8_1 + 1))) = some r := H
    have A6 := Aside0.mk A60
    clear A60
    have H' := Aside0.mk H
    clear H
    go_wp2_with (first | ((with_reducible refine gate_callee (f := 83) rfl ?_); refine goesL_ (some 18) rfl rfl Try.func83 (by kernel_rfl) rfl #[.slice A0 l0.length c0, .int .i64 x8_1, .int .i64 a1, .int .i64 a2] rfl zq1 ?_; (with_reducible refine (spec_l15Level.calls k1 _ _ l0 x8_1 a1 a2 t633 _ ?side1 ?side2 A5.out).mono ?_); (case side1 => repeat (first | exact (Kd.C_below HR0.out HB.out) | (with_reducible refine Kd.C_alloc ?_ _) | (with_reducible refine Kd.C_drewN ?_ _) | (with_reducible refine Kd.C_drew ?_))); (case side2 => exact HC0.out); rintro e w7 ⟨rfl, hb⟩; refine ⟨_, rfl, ?_⟩; have n0_ := Aside0.mk (below_step zq0 hb); clear HB; have HB := n0_; clear n0_; (try clear hb); (try clear hb2); (try clear hk); (try clear hi)) | ((with_reducible refine gate_callee (f := 96) rfl ?_); refine goesL_ (some 19) rfl rfl Try.func96 (by kernel_rfl) rfl #[.int .i64 x7_1, .int .i64 t633] rfl zq1 ?_; (with_reducible refine (spec_l1Most.calls x7_1 t633 t634 _ A6.out).mono ?_); rintro e w8 ⟨rfl, hb⟩; refine ⟨_, rfl, ?_⟩; have n0_ := Aside0.mk (below_step zq0 hb); clear HB; have HB := n0_; clear n0_; (try clear hb); (try clear hb2); (try clear hk); (try clear hi)))
    go_roundg k1
    case measure => have := HK1.out; omega
    case rel => exact ⟨(t634), (wrap64 (x8_1 + 1)), (by first | rfl | (simp; done) | (simp [*]; done)), (by first | rfl | (simp; done) | (simp [*]; done)), H', ⟨by have := HK1.out; omega⟩, ⟨by repeat (first | (with_reducible first | exact HB.out | apply below_alloc | apply pw_below_drewN | apply below_drew1) | exact HB.out)⟩⟩
   ·
    rw [if_neg c4] at H
    have c4b0 : decide (x8_1 ≤ 5) = false := decide_eq_false c4
    clear c4
    obtain rfl := Option.some.inj H
    go_wp2
    go_ret
    exact ⟨by first | rfl | (simp [errW_none, errW_some] <;> rfl) | (simp [*, errW_none, errW_some] <;> rfl), by repeat (first | (with_reducible first | exact HB.out | apply below_alloc | apply pw_below_drewN | apply below_drew1) | exact HB.out)⟩

end Go.Proofs.Ytklepiechbnenaa.Q
namespace Go.Proofs.Ytklepiechbnenaa.Q
open Go.RowKit Go.Proofs.YtklepiechbnenaaW.PrintWords Go.Proofs.YtklepiechbnenaaW.PrintLast Go.Proofs.YtklepiechbnenaaW.PrintMore
attribute [local go_sem] max2_int min2_int max_two min_two max_three min_three max_four min_four   -- for this text's walks alone
set_option linter.unusedVariables false
set_option linter.unusedSimpArgs false

/-! ### spec_AreaLevel: function 25 -/
def spec_AreaLevel.f (k : Nat) (l0 : List (S31)) (a1 : Int) (a2 : Int) : Option (Int × Bool) := (spec_l14List.f k l0).bind fun t635 => (if t635 = true then ((spec_l15Area.f a1).bind fun t636 => (if t636 = true then ((spec_l15Hour.f a2).bind fun t637 => (if t637 = true then ((spec_l15Greatest.f k l0 a1 a2).bind fun t638 => (some (t638, true))) else (some (0, false)))) else (some (0, false)))) else (some (0, false)))
theorem spec_AreaLevel.mono : ∀ a0 a1 a2 k, LeO (spec_AreaLevel.f k a0 a1 a2) (spec_AreaLevel.f (k + 1) a0 a1 a2) := by
 intro a0 a1 a2 k
 unfold spec_AreaLevel.f
 repeat' first
   | (with_reducible exact spec_l14List.mono _ _)
   | (with_reducible exact spec_l15Greatest.mono _ _ _ _)
   | (with_reducible exact LeO.refl _)
   | (with_reducible exact LeO.none _)
   | (with_reducible refine LeO.ite ?_ ?_)
   | (with_reducible refine LeO.bind ?_ (fun _ => ?_))
   | exact spec_l14List.mono _ _
   | exact spec_l15Greatest.mono _ _ _ _
   | exact LeO.none _
   | refine LeO.ite ?_ ?_
   | refine LeO.bind ?_ (fun _ => ?_)
set_option maxHeartbeats 8000000 in
set_option maxRecDepth 100000 in
theorem spec_AreaLevel.calls (k : Nat) (A0 : Option Addr) (c0 : Nat) (l0 : List (S31)) (a1 : Int) (a2 : Int) (r1 : Int) (r2 : Bool) (w : World) (hr0 : Kd.C k31 w A0 l0.length l0) (hc0 : l0.length ≤ c0) (h : spec_AreaLevel.f k l0 a1 a2 = some (r1, r2)) :
  Calls Try.prog 25 #[.slice A0 l0.length c0, .int .i64 a1, .int .i64 a2] w fun e w' => e = .returned (.tuple #[.int .i64 r1, .bool r2]) ∧ Below w.heap.size w w' := by
 have HR0 := Aside0.mk hr0
 have HC0 := Aside0.mk hc0
 clear hr0 hc0
 have HB := Aside0.mk (Below.refl w.heap.size w)
 have H : ((spec_l14List.f k l0).bind fun t635 => (if t635 = true then ((spec_l15Area.f a1).bind fun t636 => (if t636 = true then ((spec_l15Hour.f a2).bind fun t637 => (if t637 = true then ((spec_l15Greatest.f k l0 a1 a2).bind fun t638 => (some (t638, true))) else (some (0, false)))) else (some (0, false)))) else (some (0, false)))) = some (r1, r2) := h
 clear h
 replace H := Option.bind_eq_some_iff.mp H
 obtain ⟨t635, A40, H⟩ := H
 replace H : (if t635 = true then ((spec_l15Area.f a1).bind fun t636 => (if t636 = true then ((spec_l15Hour.f a2).bind fun t637 => (if t637 = true then ((spec_l15Greatest.f k l0 a1 a2).bind fun t638 => (some (t638, true))) else (some (0, false)))) else (some (0, false)))) else (some (0, false))) = some (r1, r2) := H
 have A4 := Aside0.mk A40
 clear A40
 by_cases c5 : t635 = true
 ·
  subst c5
  have H1 : ((spec_l15Area.f a1).bind fun t636 => (if t636 = true then ((spec_l15Hour.f a2).bind fun t637 => (if t637 = true then ((spec_l15Greatest.f k l0 a1 a2).bind fun t638 => (some (t638, true))) else (some (0, false)))) else (some (0, false)))) = some (r1, r2) := by rw [if_pos rfl] at H; exact H
  clear H
  have H := H1
  clear H1
  replace H := Option.bind_eq_some_iff.mp H
  obtain ⟨t636, A60, H⟩ := H
  replace H : (if t636 = true then ((spec_l15Hour.f a2).bind fun t637 => (if t637 = true then ((spec_l15Greatest.f k l0 a1 a2).bind fun t638 => (some (t638, true))) else (some (0, false)))) else (some (0, false))) = some (r1, r2) := H
  have A6 := Aside0.mk A60
  clear A60
  by_cases c7 : t636 = true
  ·
   subst c7
   have H1 : ((spec_l15Hour.f a2).bind fun t637 => (if t637 = true then ((spec_l15Greatest.f k l0 a1 a2).bind fun t638 => (some (t638, true))) else (some (0, false)))) = some (r1, r2) := by rw [if_pos rfl] at H; exact H
   clear H
   have H := H1
   clear H1
   replace H := Option.bind_eq_some_iff.mp H
   obtain ⟨t637, A80, H⟩ := H
   replace H : (if t637 = true then ((spec_l15Greatest.f k l0 a1 a2).bind fun t638 => (some (t638, true))) else (some (0, false))) = some (r1, r2) := H
   have A8 := Aside0.mk A80
   clear A80
   by_cases c9 : t637 = true
   ·
    subst c9
    have H1 : ((spec_l15Greatest.f k l0 a1 a2).bind fun t638 => (some (t638, true))) = some (r1, r2) := by rw [if_pos rfl] at H; exact H
    clear H
    have H := H1
    clear H1
    replace H := Option.bind_eq_some_iff.mp H
    obtain ⟨t638, A100, H⟩ := H
    replace H : (some (t638, true)) = some (r1, r2) := H
    have A10 := Aside0.mk A100
    clear A100
    simp only [Option.some.injEq, Prod.mk.injEq] at H
    obtain ⟨rfl, rfl⟩ := H
    go_enter Try.func25, Try.ntmps25
    go_wp2_with (first | ((with_reducible refine gate_callee (f := 63) rfl ?_); refine goesL_ (some 9) rfl rfl Try.func63 (by kernel_rfl) rfl #[.slice A0 l0.length c0] rfl zq1 ?_; (with_reducible refine (spec_l14List.calls k _ _ l0 true _ ?side1 ?side2 A4.out).mono ?_); (case side1 => repeat (first | exact HR0.out | (with_reducible refine Kd.C_alloc ?_ _) | (with_reducible refine Kd.C_drewN ?_ _) | (with_reducible refine Kd.C_drew ?_))); (case side2 => exact HC0.out); rintro e w11 ⟨rfl, hb⟩; refine ⟨_, rfl, ?_⟩; have n0_ := Aside0.mk (below_step zq0 hb); clear HB; have HB := n0_; clear n0_; (try clear hb); (try clear hb2); (try clear hk); (try clear hi)) | (go_at_call 82; (with_reducible refine (spec_l15Area.calls a1 true _ A6.out).mono ?_); rintro e w' ⟨rfl, ⟨nd, rfl⟩⟩) | (go_at_call 87; (with_reducible refine (spec_l15Hour.calls a2 true _ A8.out).mono ?_); rintro e w' ⟨rfl, ⟨nd, rfl⟩⟩) | ((with_reducible refine gate_callee (f := 88) rfl ?_); refine goesL_ (some 24) rfl rfl Try.func88 (by kernel_rfl) rfl #[.slice A0 l0.length c0, .int .i64 a1, .int .i64 a2] rfl zq1 ?_; (with_reducible refine (spec_l15Greatest.calls k _ _ l0 a1 a2 t638 _ ?side1 ?side2 A10.out).mono ?_); (case side1 => repeat (first | exact (Kd.C_below HR0.out zq0) | (with_reducible refine Kd.C_alloc ?_ _) | (with_reducible refine Kd.C_drewN ?_ _) | (with_reducible refine Kd.C_drew ?_))); (case side2 => exact HC0.out); rintro e w12 ⟨rfl, hb⟩; refine ⟨_, rfl, ?_⟩; have n0_ := Aside0.mk (below_step zq0 hb); clear HB; have HB := n0_; clear n0_; (try clear hb); (try clear hb2); (try clear hk); (try clear hi)))
    go_ret2
    exact ⟨by first | rfl | (simp [errW_none, errW_some] <;> rfl) | (simp [*, errW_none, errW_some] <;> rfl), by repeat (first | (with_reducible first | exact HB.out | apply below_alloc | apply pw_below_drewN | apply below_drew1) | exact HB.out)⟩
   ·
    replace c9 := Bool.eq_false_iff.mpr c9
    subst c9
    have H1 : (some (0, false)) = some (r1, r2) := by rw [if_neg (show ¬ (false = true) by decide)] at H; exact H
    clear H
    have H := H1
    clear H1
    simp only [Option.some.injEq, Prod.mk.injEq] at H
    obtain ⟨rfl, rfl⟩ := H
    go_enter Try.func25, Try.ntmps25
    go_wp2_with (first | ((with_reducible refine gate_callee (f := 63) rfl ?_); refine goesL_ (some 9) rfl rfl Try.func63 (by kernel_rfl) rfl #[.slice A0 l0.length c0] rfl zq1 ?_; (with_reducible refine (spec_l14List.calls k _ _ l0 true _ ?side1 ?side2 A4.out).mono ?_); (case side1 => repeat (first | exact HR0.out | (with_reducible refine Kd.C_alloc ?_ _) | (with_reducible refine Kd.C_drewN ?_ _) | (with_reducible refine Kd.C_drew ?_))); (case side2 => exact HC0.out); rintro e w13 ⟨rfl, hb⟩; refine ⟨_, rfl, ?_⟩; have n0_ := Aside0.mk (below_step zq0 hb); clear HB; have HB := n0_; clear n0_; (try clear hb); (try clear hb2); (try clear hk); (try clear hi)) | (go_at_call 82; (with_reducible refine (spec_l15Area.calls a1 true _ A6.out).mono ?_); rintro e w' ⟨rfl, ⟨nd, rfl⟩⟩) | (go_at_call 87; (with_reducible refine (spec_l15Hour.calls a2 false _ A8.out).mono ?_); rintro e w' ⟨rfl, ⟨nd, rfl⟩⟩))
    go_ret2
    exact ⟨by first | rfl | (simp [errW_none, errW_some] <;> rfl) | (simp [*, errW_none, errW_some] <;> rfl), by repeat (first | (with_reducible first | exact HB.out | apply below_alloc | apply pw_below_drewN | apply below_drew1) | exact HB.out)⟩
  ·
   replace c7 := Bool.eq_false_iff.mpr c7
   subst c7
   have H1 : (some (0, false)) = some (r1, r2) := by rw [if_neg (show ¬ (false = true) by decide)] at H; exact H
   clear H
   have H := H1
   clear H1
   simp only [Option.some.injEq, Prod.mk.injEq] at H
   obtain ⟨rfl, rfl⟩ := H
   go_enter Try.func25, Try.ntmps25
   go_wp2_with (first | ((with_reducible refine gate_callee (f := 63) rfl ?_); refine goesL_ (some 9) rfl rfl Try.func63 (by kernel_rfl) rfl #[.slice A0 l0.length c0] rfl zq1 ?_; (with_reducible refine (spec_l14List.calls k _ _ l0 true _ ?side1 ?side2 A4.out).mono ?_); (case side1 => repeat (first | exact HR0.out | (with_reducible refine Kd.C_alloc ?_ _) | (with_reducible refine Kd.C_drewN ?_ _) | (with_reducible refine Kd.C_drew ?_))); (case side2 => exact HC0.out); rintro e w14 ⟨rfl, hb⟩; refine ⟨_, rfl, ?_⟩; have n0_ := Aside0.mk (below_step zq0 hb); clear HB; have HB := n0_; clear n0_; (try clear hb); (try clear hb2); (try clear hk); (try clear hi)) | (go_at_call 82; (with_reducible refine (spec_l15Area.calls a1 false _ A6.out).mono ?_); rintro e w' ⟨rfl, ⟨nd, rfl⟩⟩))
   go_ret2
   exact ⟨by first | rfl | (simp [errW_none, errW_some] <;> rfl) | (simp [*, errW_none, errW_some] <;> rfl), by repeat (first | (with_reducible first | exact HB.out | apply below_alloc | apply pw_below_drewN | apply below_drew1) | exact HB.out)⟩
 ·
  replace c5 := Bool.eq_false_iff.mpr c5
  subst c5
  have H1 : (some (0, false)) = some (r1, r2) := by rw [if_neg (show ¬ (false = true) by decide)] at H; exact H
  clear H
  have H := H1
  clear H1
  simp only [Option.some.injEq, Prod.mk.injEq] at H
  obtain ⟨rfl, rfl⟩ := H
  go_enter Try.func25, Try.ntmps25
  go_wp2_with (first | ((with_reducible refine gate_callee (f := 63) rfl ?_); refine goesL_ (some 9) rfl rfl Try.func63 (by kernel_rfl) rfl #[.slice A0 l0.length c0] rfl zq1 ?_; (with_reducible refine (spec_l14List.calls k _ _ l0 false _ ?side1 ?side2 A4.out).mono ?_); (case side1 => repeat (first | exact HR0.out | (with_reducible refine Kd.C_alloc ?_ _) | (with_reducible refine Kd.C_drewN ?_ _) | (with_reducible refine Kd.C_drew ?_))); (case side2 => exact HC0.out); rintro e w15 ⟨rfl, hb⟩; refine ⟨_, rfl, ?_⟩; have n0_ := Aside0.mk (below_step zq0 hb); clear HB; have HB := n0_; clear n0_; (try clear hb); (try clear hb2); (try clear hk); (try clear hi)))
  go_ret2
  exact ⟨by first | rfl | (simp [errW_none, errW_some] <;> rfl) | (simp [*, errW_none, errW_some] <;> rfl), by repeat (first | (with_reducible first | exact HB.out | apply below_alloc | apply pw_below_drewN | apply below_drew1) | exact HB.out)⟩

end Go.Proofs.Ytklepiechbnenaa.Q
namespace Go.Proofs.Ytklepiechbnenaa.Q
open Go.RowKit Go.Proofs.YtklepiechbnenaaW.PrintWords Go.Proofs.YtklepiechbnenaaW.PrintLast Go.Proofs.YtklepiechbnenaaW.PrintMore
attribute [local go_sem] max2_int min2_int max_two min_two max_three min_three max_four min_four   -- for this text's walks alone
set_option linter.unusedVariables false
set_option linter.unusedSimpArgs false

/-! ### spec_DrawAreaTimeline: function 26 -/
def spec_DrawAreaTimeline.f (k : Nat) (l0 : List Int) : Option ((List (S31)) × Int) := (spec_l1Cur_touching.f k l0 0 0).bind fun bt640 => ((spec_l1Cur_area15.f l0 bt640.2.1 bt640.2.2).bind fun bt645 => (some (bt640.1, bt645.1)))
theorem spec_DrawAreaTimeline.mono : ∀ a0 k, LeO (spec_DrawAreaTimeline.f k a0) (spec_DrawAreaTimeline.f (k + 1) a0) := by
 intro a0 k
 unfold spec_DrawAreaTimeline.f
 repeat' first
   | (with_reducible exact spec_l1Cur_touching.mono _ _ _ _)
   | (with_reducible exact LeO.refl _)
   | (with_reducible exact LeO.none _)
   | (with_reducible refine LeO.ite ?_ ?_)
   | (with_reducible refine LeO.bind ?_ (fun _ => ?_))
   | exact spec_l1Cur_touching.mono _ _ _ _
   | exact LeO.none _
   | refine LeO.ite ?_ ?_
   | refine LeO.bind ?_ (fun _ => ?_)
set_option maxHeartbeats 8000000 in
set_option maxRecDepth 100000 in
theorem spec_DrawAreaTimeline.calls (k : Nat) (A0 : Option Addr) (c0 : Nat) (l0 : List Int) (r1 : List (S31)) (r2 : Int) (w : World) (hr0 : Kd.C (Kd.int .u8) w A0 l0.length l0) (hc0 : l0.length ≤ c0) (h : spec_DrawAreaTimeline.f k l0 = some (r1, r2)) :
  Calls Try.prog 26 #[.slice A0 l0.length c0] w fun e w' => ∃ v0_ : Value, e = .returned (.tuple #[v0_, .int .i64 r2]) ∧ Kd.R k31 31 w' w.heap.size (fun _ => True) v0_ r1 ∧ Below w.heap.size w w' := by
 have hu72 := Try.underlying72
 have HR0 := Aside0.mk hr0
 have HC0 := Aside0.mk hc0
 clear hr0 hc0
 have HB := Aside0.mk (Below.refl w.heap.size w)
 have H : ((spec_l1Cur_touching.f k l0 0 0).bind fun bt640 => ((spec_l1Cur_area15.f l0 bt640.2.1 bt640.2.2).bind fun bt645 => (some (bt640.1, bt645.1)))) = some (r1, r2) := h
 clear h
 replace H := Option.bind_eq_some_iff.mp H
 obtain ⟨⟨t640, t643, t644⟩, A20, H⟩ := H
 replace H : ((spec_l1Cur_area15.f l0 t643 t644).bind fun bt645 => (some (t640, bt645.1))) = some (r1, r2) := H
 have A2 := Aside0.mk A20
 clear A20
 replace H := Option.bind_eq_some_iff.mp H
 obtain ⟨⟨t645, t646, t647⟩, A30, H⟩ := H
 replace H : (some (t640, t645)) = some (r1, r2) := H
 have A3 := Aside0.mk A30
 clear A30
 simp only [Option.some.injEq, Prod.mk.injEq] at H
 obtain ⟨rfl, rfl⟩ := H
 go_enter Try.func26, Try.ntmps26
 go_wp2_with (first | ((with_reducible refine gate_dst (N := 7) rfl ?_); refine box_event ?hg (N := 7) ?hd (cs := #[.slice A0 l0.length c0, .int .i64 0, .int .u64 0]) (t := 72) ?hr ?_; (case hd => rfl); (case hg => rfl); (case hr => first | (go_simp; done) | (go_simp; rfl)); intro gb639 hg w4 hbox hb; have n0_ := Aside0.mk (below_step zq0 hb); have n1_ := Aside0.mk ((show IsS72 w w4 gb639 l0 0 0 from ⟨_, _, hbox, (by rw [hg]; exact (below_size zq0) : w.heap.size ≤ gb639), HR0.out⟩)); have n2_ := Aside0.mk ((by rw [hg]; exact (below_size zq0) : w.heap.size ≤ gb639)); have n3_ := Aside0.mk ((by rw [hg]; exact (below_size zq0) : w.heap.size ≤ gb639)); clear HB; have HB := n0_; have HI639 := n1_; have GW639 := n2_; have GE639 := n3_; clear n0_ n1_ n2_ n3_; clear hb hbox hg) | ((with_reducible refine gate_callee (f := 76) rfl ?_); refine goesL_ (some 9) rfl rfl Try.func76 (by kernel_rfl) rfl #[.pointer (some ⟨gb639, 0, none⟩)] rfl zq1 ?_; (with_reducible refine (spec_l1Cur_touching.calls k gb639 l0 0 0 t640 t643 t644 w _ ?side1 ?side2 A2.out).mono ?_); (case side1 => repeat (first | (with_reducible first | exact HI639.out | apply IsS72.alloc | apply IsS72.drewN | apply IsS72.drew | apply IsS72.set_1 | apply IsS72.set_2) | exact HI639.out)); (case side2 => repeat (first | (with_reducible first | exact HB.out | apply below_alloc | apply pw_below_drewN | apply below_drew1 | refine below_set ?_ (IsS72.ge HI639.out)) | exact HB.out)); rintro e w5 ⟨v641, rfl, ho0, hi, hb, hk⟩; refine ⟨_, rfl, ?_⟩; have n0_ := Aside0.mk (Kd.R_lower ho0 (below_size (by repeat (first | (with_reducible first | exact HB.out | apply below_alloc | apply pw_below_drewN | apply below_drew1 | refine below_set ?_ (IsS72.ge HI639.out)) | exact HB.out)))); have n1_ := Aside0.mk (hb); have n2_ := Aside0.mk (hi); clear HB; clear HI639; have HO642 := n0_; have HB := n1_; have HI639 := n2_; clear n0_ n1_ n2_; (try clear hb); (try clear hb2); (try clear hk); (try clear hi); (try clear ho0)) | ((with_reducible refine gate_callee (f := 78) rfl ?_); refine goesL_ (some 11) rfl rfl Try.func78 (by kernel_rfl) rfl #[.pointer (some ⟨gb639, 0, none⟩)] rfl zq1 ?_; (with_reducible refine (spec_l1Cur_area15.calls gb639 l0 t643 t644 t645 t646 t647 w _ ?side1 ?side2 A3.out).mono ?_); (case side1 => repeat (first | (with_reducible first | exact HI639.out | apply IsS72.alloc | apply IsS72.drewN | apply IsS72.drew | apply IsS72.set_1 | apply IsS72.set_2) | exact HI639.out)); (case side2 => repeat (first | (with_reducible first | exact HB.out | apply below_alloc | apply pw_below_drewN | apply below_drew1 | refine below_set ?_ (IsS72.ge HI639.out)) | exact HB.out)); rintro e w6 ⟨rfl, hi, hb, hk⟩; refine ⟨_, rfl, ?_⟩; have n0_ := Aside0.mk (Kd.R_mono (Kd.R_keep (IsS72.apart (show IsS72 w _ gb639 l0 t643 t644 from by repeat (first | (with_reducible first | exact HI639.out | apply IsS72.alloc | apply IsS72.drewN | apply IsS72.drew | apply IsS72.set_1 | apply IsS72.set_2) | exact HI639.out)) (zqR HO642.out) (by decide)) hk (fun _ h => h.2)) (fun _ h => h.1)); have n1_ := Aside0.mk (hb); have n2_ := Aside0.mk (hi); clear HO642; clear HB; clear HI639; have HO642 := n0_; have HB := n1_; have HI639 := n2_; clear n0_ n1_ n2_; (try clear hb); (try clear hb2); (try clear hk); (try clear hi)))
 go_ret2
 exact ⟨_, by first | rfl | (simp [errW_none, errW_some] <;> rfl) | (simp [*, errW_none, errW_some] <;> rfl), by (with_reducible repeat (first | apply Kd.R_alloc | apply Kd.R_drewN | apply Kd.R_drew)); exact HO642.out, by repeat (first | (with_reducible first | exact HB.out | apply below_alloc | apply pw_below_drewN | apply below_drew1 | refine below_set ?_ (IsS72.ge HI639.out)) | exact HB.out)⟩

end Go.Proofs.Ytklepiechbnenaa.Q
namespace Go.Proofs.Ytklepiechbnenaa.Q
open Go.RowKit Go.Proofs.YtklepiechbnenaaW.PrintWords Go.Proofs.YtklepiechbnenaaW.PrintLast Go.Proofs.YtklepiechbnenaaW.PrintMore
attribute [local go_sem] max2_int min2_int max_two min_two max_three min_three max_four min_four   -- for this text's walks alone
set_option linter.unusedVariables false
set_option linter.unusedSimpArgs false

/-! ### impl_AreaTimeline: function 27 -/
def impl_AreaTimeline.f (k : Nat) (l0 : List S31) (a1 : Int) : Option (List S50 × Bool) := if l0.length ≤ 4611686018427387904 then ((impl_IsConsistent.f k l0).bind fun t => (if t = true then ((impl_within.f a1 1 9).bind fun u => (if u = true then ((impl_timeline.f k (great l0 a1)).bind fun v => some (v, true)) else (some ([], false)))) else (some ([], false)))) else none
theorem impl_AreaTimeline.mono : ∀ a0 a1 k, LeO (impl_AreaTimeline.f k a0 a1) (impl_AreaTimeline.f (k + 1) a0 a1) := by
 intro a0 a1 k
 unfold impl_AreaTimeline.f
 refine LeO.ite (LeO.bind (impl_IsConsistent.mono a0 k) fun _ => LeO.ite (LeO.bind (LeO.refl _) fun _ => LeO.ite (LeO.bind (impl_timeline.mono _ k) fun _ => LeO.refl _) (LeO.refl _)) (LeO.refl _)) (LeO.refl _)
/-- The level that TopicTimeline hands on. -/
theorem impl_AreaTimeline.level (B1 B2 : Nat) (A0 : Option Addr) (c0 : Nat) (l0 : List S31) (a1 : Int) (w0 w : World) (hr0 : Kd.C k31 w0 A0 l0.length l0) (hc0 : l0.length ≤ c0) (hb0 : Below w0.heap.size w0 w) (hl : l0.length ≤ 4611686018427387904)
  (h1 : w.heap[B1]? = some (.cells #[.slice A0 l0.length c0] 24 (0, 0))) (h2 : w.heap[B2]? = some (.cells #[.int .i64 a1] 3 (0, 0))) :
  ∀ (W : World) (h r : Int), Below w.heap.size w W → some (great l0 a1 h) = some r → Calls Try.prog 89 (#[.int .i64 h] ++ #[.pointer (some ⟨B1, 0, none⟩), .pointer (some ⟨B2, 0, none⟩)]) W fun e w' => e = .returned (.int .i64 r) ∧ Below W.heap.size W w' := by
 intro W h r hb hr
 obtain rfl := Option.some.inj hr
 have g1 : W.cell? ⟨B1, 0, none⟩ = some (.slice A0 l0.length c0) := blk_cell (blk_below h1 hb) 0
 have g2 : W.cell? ⟨B2, 0, none⟩ = some (.int .i64 a1) := blk_cell (blk_below h2 hb) 0
 have HR := Aside0.mk (Kd.C_below (Kd.C_below hr0 hb0) hb)
 have HC := Aside0.mk hc0
 obtain ⟨k1, hf⟩ := (ev_areaLevel l0 hl a1 h).rounds
 have HF := Aside0.mk hf
 clear hf
 clear hr0 hc0 hb0 h1 h2 hb hr hl
 show Calls Try.prog 89 #[.int .i64 h, .pointer (some ⟨B1, 0, none⟩), .pointer (some ⟨B2, 0, none⟩)] W _
 go_enter Try.func89, Try.ntmps89
 go_wp2_with (go_at_call 73; refine (impl_areaLevel.calls k1 A0 c0 l0 a1 h (great l0 a1 h) _ HR.out HC.out HF.out).mono ?_; rintro e w' ⟨rfl, hb'⟩)
 go_ret
 exact ⟨rfl, hb'⟩
set_option maxHeartbeats 4000000 in
theorem impl_AreaTimeline.calls (k : Nat) (A0 : Option Addr) (c0 : Nat) (l0 : List S31) (a1 : Int) (r1 : List S50) (r2 : Bool) (w : World) (hr0 : Kd.C k31 w A0 l0.length l0) (hc0 : l0.length ≤ c0) (h : impl_AreaTimeline.f k l0 a1 = some (r1, r2)) :
  Calls Try.prog 27 #[.slice A0 l0.length c0, .int .i64 a1] w fun e w' => ∃ v0_ : Value, e = .returned (.tuple #[v0_, .bool r2]) ∧ Kd.R k50 50 w' w.heap.size (fun _ => True) v0_ r1 ∧ Below w.heap.size w w' := by
 have hu := Try.underlying31
 unfold impl_AreaTimeline.f at h
 by_cases hl : l0.length ≤ 4611686018427387904
 ·
  rw [if_pos hl] at h
  obtain ⟨t, ht, h⟩ := Option.bind_eq_some_iff.mp h
  have HR0 := Aside0.mk hr0
  have HC0 := Aside0.mk hc0
  have HT := Aside0.mk ht
  have HL := Aside0.mk hl
  clear hr0 hc0 ht hl
  -- the boxes
  obtain ⟨W1, hW1⟩ : ∃ W1, W1 = w.alloc (.cells #[.slice A0 l0.length c0] 24) := ⟨_, rfl⟩
  have a1B : Below w.heap.size w W1 := by rw [hW1]; exact (Below.refl _ w).alloc (Nat.le_refl _) _
  have a1N : W1.heap[w.heap.size]? = some (.cells #[.slice A0 l0.length c0] 24 (0, 0)) := by rw [hW1]; exact heap_alloc_new w _
  have a1S : W1.heap.size = w.heap.size + 1 := by rw [hW1]; show (w.heap.push _).size = _; rw [Array.size_push]
  obtain ⟨WL, hWL⟩ : ∃ WL, WL = W1.alloc (.cells #[.int .i64 a1] 3) := ⟨_, rfl⟩
  have a3B : Below W1.heap.size W1 WL := by rw [hWL]; exact (Below.refl _ W1).alloc (Nat.le_refl _) _
  have a3N : WL.heap[W1.heap.size]? = some (.cells #[.int .i64 a1] 3 (0, 0)) := by rw [hWL]; exact heap_alloc_new W1 _
  have bB : Below w.heap.size w WL := a1B.trans (a3B.mono (by omega))
  have g1 : WL.heap[w.heap.size]? = some (.cells #[.slice A0 l0.length c0] 24 (0, 0)) := blk_below a1N a3B
  have g2 : WL.heap[W1.heap.size]? = some (.cells #[.int .i64 a1] 3 (0, 0)) := a3N
  rw [a1S] at g2
  have g2c : WL.cell? ⟨w.heap.size + 1, 0, none⟩ = some (.int .i64 a1) := blk_cell g2 0
  have BB := Aside0.mk bB
  have GB1 := Aside0.mk g1
  have GB2 := Aside0.mk g2
  have HW := Aside0.mk (show (w.alloc (.cells #[.slice A0 l0.length c0] 24)).alloc (.cells #[.int .i64 a1] 3) = WL from by rw [hWL, hW1])
  have HCW := Aside0.mk (Kd.C_below HR0.out BB.out)
  have g1c : WL.cell? ⟨w.heap.size, 0, none⟩ = some (.slice A0 l0.length c0) := blk_cell g1 0
  clear a1B a1N a1S g1 a3B a3N g2 hW1 hWL bB
  cases t with
  | false =>
   rw [if_neg (by decide)] at h
   have hr : r1 = [] ∧ r2 = false := ⟨(congrArg Prod.fst (Option.some.inj h)).symm, (congrArg Prod.snd (Option.some.inj h)).symm⟩
   obtain ⟨rfl, rfl⟩ := hr
   clear h
   skip
   go_enter Try.func27, Try.ntmps27
   go_wp2_with (first | (go_at_call 12; rw [HW.out]; refine (impl_IsConsistent.calls k A0 c0 l0 false _ HCW.out HC0.out HT.out).mono ?_; rintro e w' ⟨rfl, hb'⟩))
   go_ret2
   exact ⟨_, rfl, Kd.R_nil _ _ _ _ _, BB.out.trans (hb'.mono BB.out.size)⟩
  | true =>
   rw [if_pos rfl] at h
   obtain ⟨u, hu2, h⟩ := Option.bind_eq_some_iff.mp h
   have HU := Aside0.mk hu2
   clear hu2
   cases u with
   | false =>
    rw [if_neg (by decide)] at h
    have hr : r1 = [] ∧ r2 = false := ⟨(congrArg Prod.fst (Option.some.inj h)).symm, (congrArg Prod.snd (Option.some.inj h)).symm⟩
    obtain ⟨rfl, rfl⟩ := hr
    clear h
    go_enter Try.func27, Try.ntmps27
    go_wp2_with (first | (go_at_call 12; rw [HW.out]; refine (impl_IsConsistent.calls k A0 c0 l0 true _ HCW.out HC0.out HT.out).mono ?_; rintro e w' ⟨rfl, hb'⟩; have HB1 := Aside0.mk hb'; have q2 := (hb'.cell (World.block_lt_of_cell? _ _ g2c)).trans g2c; clear hb') | (go_at_call 60; refine (impl_within.calls a1 1 9 false _ HU.out).mono ?_; rintro e w'' ⟨rfl, hb''⟩; replace hb'' := hb''.below))
    go_ret2
    exact ⟨_, rfl, Kd.R_nil _ _ _ _ _, (BB.out.trans (HB1.out.mono BB.out.size)).trans (hb''.mono (Nat.le_trans BB.out.size HB1.out.size))⟩
   | true =>
    rw [if_pos rfl] at h
    obtain ⟨v, hv, h⟩ := Option.bind_eq_some_iff.mp h
    have hr : r1 = v ∧ r2 = true := ⟨(congrArg Prod.fst (Option.some.inj h)).symm, (congrArg Prod.snd (Option.some.inj h)).symm⟩
    obtain ⟨rfl, rfl⟩ := hr
    have HV := Aside0.mk hv
    clear h hv
    have eg : ∀ args w, (callFunc 89 args).run Try.prog w = .ok (.enter 89 args) w := enters_of Try.func89 (by kernel_rfl) rfl
    go_enter Try.func27, Try.ntmps27
    go_wp2_with (first | (go_at_call 12; rw [HW.out]; refine (impl_IsConsistent.calls k A0 c0 l0 true _ HCW.out HC0.out HT.out).mono ?_; rintro e w' ⟨rfl, hb'⟩; have HB1 := Aside0.mk hb'; have q2 := (hb'.cell (World.block_lt_of_cell? _ _ g2c)).trans g2c; clear hb') | (go_at_call 60; refine (impl_within.calls a1 1 9 true _ HU.out).mono ?_; rintro e w'' ⟨rfl, hb''⟩; replace hb'' := hb''.below; have HB2 := Aside0.mk (HB1.out.trans (hb''.mono HB1.out.size)); clear hb'') | (go_at_call 79; refine (impl_timeline.calls k 89 #[.pointer (some ⟨w.heap.size, 0, none⟩), .pointer (some ⟨w.heap.size + 1, 0, none⟩)] eg _ r1 _ ?hpt HV.out).mono ?_; (case hpt => exact impl_AreaTimeline.level _ _ A0 c0 l0 a1 w _ HR0.out HC0.out (BB.out.trans (HB2.out.mono BB.out.size)) HL.out (blk_below GB1.out HB2.out) (blk_below GB2.out HB2.out)); rintro e w3 ⟨v3, rfl, ho3, hb3⟩))
    go_ret2
    exact ⟨_, rfl, Kd.R_lower ho3 (Nat.le_trans BB.out.size HB2.out.size), (BB.out.trans (HB2.out.mono BB.out.size)).trans (hb3.mono (Nat.le_trans BB.out.size HB2.out.size))⟩
 ·
  rw [if_neg hl] at h
  cases h

end Go.Proofs.Ytklepiechbnenaa.Q
namespace Go.Proofs.Ytklepiechbnenaa.Q
open Go.RowKit Go.Proofs.YtklepiechbnenaaW.PrintWords Go.Proofs.YtklepiechbnenaaW.PrintLast Go.Proofs.YtklepiechbnenaaW.PrintMore
attribute [local go_sem] max2_int min2_int max_two min_two max_three min_three max_four min_four   -- for this text's walks alone
set_option linter.unusedVariables false
set_option linter.unusedSimpArgs false

/-! ### spec_AreaTimeline: function 28 -/
mutual
def spec_AreaTimeline.j0 : Nat → List (S31) → Int → Bool → Option ((List (S50)) × Bool)
 | 0, _, _, _ => none
 | k + 1, x0, x1, x15 => if x15 = true then (some ((([] : List (S50))), false)) else (spec_AreaTimeline.l0 k x0 x1 (([] : List Int)) 0)
def spec_AreaTimeline.l0 : Nat → List (S31) → Int → List Int → Int → Option ((List (S50)) × Bool)
 | 0, _, _, _, _ => none
 | k + 1, x0, x1, x6, x7 => if x7 < 240 then ((spec_l15Greatest.f k x0 x1 x7).bind fun t656 => (if x6.length < 17592186044416 then (spec_AreaTimeline.l0 k x0 x1 (x6 ++ [t656]) (wrap64 (x7 + 1))) else (none))) else ((spec_l15Timeline.f k x6).bind fun t660 => (some (t660, true)))
end
def spec_AreaTimeline.f (k : Nat) (l0 : List (S31)) (a1 : Int) : Option ((List (S50)) × Bool) := (spec_l14List.f k l0).bind fun t648 => (if t648 = true then ((spec_l15Area.f a1).bind fun t649 => (spec_AreaTimeline.j0 k l0 a1 (!t649))) else (spec_AreaTimeline.j0 k l0 a1 true))
theorem spec_AreaTimeline.mono_l : ∀ k, (∀ y0 y1 y2, LeO (spec_AreaTimeline.j0 k y0 y1 y2) (spec_AreaTimeline.j0 (k + 1) y0 y1 y2)) ∧ (∀ y0 y1 y2 y3, LeO (spec_AreaTimeline.l0 k y0 y1 y2 y3) (spec_AreaTimeline.l0 (k + 1) y0 y1 y2 y3))
 | 0 => ⟨fun _ _ _ r h => by simp [spec_AreaTimeline.j0] at h, fun _ _ _ _ r h => by simp [spec_AreaTimeline.l0] at h⟩
 | k + 1 => by
  obtain ⟨ih0, ih1⟩ := spec_AreaTimeline.mono_l k
  refine ⟨?_, ?_⟩
  ·
   intro y0 y1 y2
   unfold spec_AreaTimeline.j0
   repeat' first
   | (with_reducible exact ih0 _ _ _)
   | (with_reducible exact ih1 _ _ _ _)
   | (with_reducible exact spec_l14List.mono _ _)
   | (with_reducible exact spec_l15Greatest.mono _ _ _ _)
   | (with_reducible exact spec_l15Timeline.mono _ _)
   | (with_reducible exact LeO.refl _)
   | (with_reducible exact LeO.none _)
   | (with_reducible refine LeO.ite ?_ ?_)
   | (with_reducible refine LeO.bind ?_ (fun _ => ?_))
   | exact ih0 _ _ _
   | exact ih1 _ _ _ _
   | exact spec_l14List.mono _ _
   | exact spec_l15Greatest.mono _ _ _ _
   | exact spec_l15Timeline.mono _ _
   | exact LeO.none _
   | refine LeO.ite ?_ ?_
   | refine LeO.bind ?_ (fun _ => ?_)
  ·
   intro y0 y1 y2 y3
   unfold spec_AreaTimeline.l0
   repeat' first
   | (with_reducible exact ih0 _ _ _)
   | (with_reducible exact ih1 _ _ _ _)
   | (with_reducible exact spec_l14List.mono _ _)
   | (with_reducible exact spec_l15Greatest.mono _ _ _ _)
   | (with_reducible exact spec_l15Timeline.mono _ _)
   | (with_reducible exact LeO.refl _)
   | (with_reducible exact LeO.none _)
   | (with_reducible refine LeO.ite ?_ ?_)
   | (with_reducible refine LeO.bind ?_ (fun _ => ?_))
   | exact ih0 _ _ _
   | exact ih1 _ _ _ _
   | exact spec_l14List.mono _ _
   | exact spec_l15Greatest.mono _ _ _ _
   | exact spec_l15Timeline.mono _ _
   | exact LeO.none _
   | refine LeO.ite ?_ ?_
   | refine LeO.bind ?_ (fun _ => ?_)
theorem spec_AreaTimeline.mono : ∀ a0 a1 k, LeO (spec_AreaTimeline.f k a0 a1) (spec_AreaTimeline.f (k + 1) a0 a1) := by
 intro a0 a1 k
 obtain ⟨ih0, ih1⟩ := spec_AreaTimeline.mono_l k
 unfold spec_AreaTimeline.f
 repeat' first
   | (with_reducible exact ih0 _ _ _)
   | (with_reducible exact ih1 _ _ _ _)
   | (with_reducible exact spec_l14List.mono _ _)
   | (with_reducible exact spec_l15Greatest.mono _ _ _ _)
   | (with_reducible exact spec_l15Timeline.mono _ _)
   | (with_reducible exact LeO.refl _)
   | (with_reducible exact LeO.none _)
   | (with_reducible refine LeO.ite ?_ ?_)
   | (with_reducible refine LeO.bind ?_ (fun _ => ?_))
   | exact ih0 _ _ _
   | exact ih1 _ _ _ _
   | exact spec_l14List.mono _ _
   | exact spec_l15Greatest.mono _ _ _ _
   | exact spec_l15Timeline.mono _ _
   | exact LeO.none _
   | refine LeO.ite ?_ ?_
   | refine LeO.bind ?_ (fun _ => ?_)
set_option maxHeartbeats 8000000 in
set_option maxRecDepth 100000 in
theorem spec_AreaTimeline.calls (k : Nat) (A0 : Option Addr) (c0 : Nat) (l0 : List (S31)) (a1 : Int) (r1 : List (S50)) (r2 : Bool) (w : World) (hr0 : Kd.C k31 w A0 l0.length l0) (hc0 : l0.length ≤ c0) (h : spec_AreaTimeline.f k l0 a1 = some (r1, r2)) :
  Calls Try.prog 28 #[.slice A0 l0.length c0, .int .i64 a1] w fun e w' => ∃ v0_ : Value, e = .returned (.tuple #[v0_, .bool r2]) ∧ Kd.R k50 50 w' w.heap.size (fun _ => True) v0_ r1 ∧ Below w.heap.size w w' := by
 have HR0 := Aside0.mk hr0
 have HC0 := Aside0.mk hc0
 clear hr0 hc0
 have HB := Aside0.mk (Below.refl w.heap.size w)
 have H : ((spec_l14List.f k l0).bind fun t648 => (if t648 = true then ((spec_l15Area.f a1).bind fun t649 => (spec_AreaTimeline.j0 k l0 a1 (!t649))) else (spec_AreaTimeline.j0 k l0 a1 true))) = some (r1, r2) := h
 clear h
 have HC3 := Aside0.mk H
 clear H
 go_enter Try.func28, Try.ntmps28
 go_upto_region 1 with (fail)
 go_cut [15] (fun v15 wc => ∃ (kq : Nat) (x15_2 : Bool), v15 = .bool x15_2 ∧ Aside0 (spec_AreaTimeline.j0 kq l0 a1 x15_2 = some (r1, r2)) ∧ Aside0 (kq ≤ k) ∧ Aside0 (Below w.heap.size w wc))
 case first =>
  have H := HC3.out
  clear HC3
  replace H := Option.bind_eq_some_iff.mp H
  obtain ⟨t648, A40, H⟩ := H
  replace H : (if t648 = true then ((spec_l15Area.f a1).bind fun t649 => (spec_AreaTimeline.j0 k l0 a1 (!t649))) else (spec_AreaTimeline.j0 k l0 a1 true)) = some (r1, r2) := H
  have A4 := Aside0.mk A40
  clear A40
  by_cases c5 : t648 = true
  ·
   subst c5
   have H1 : ((spec_l15Area.f a1).bind fun t649 => (spec_AreaTimeline.j0 k l0 a1 (!t649))) = some (r1, r2) := by rw [if_pos rfl] at H; exact H
   clear H
   have H := H1
   clear H1
   replace H := Option.bind_eq_some_iff.mp H
   obtain ⟨t649, A60, H⟩ := H
   replace H : (spec_AreaTimeline.j0 k l0 a1 (!t649)) = some (r1, r2) := H
   have A6 := Aside0.mk A60
   clear A60
   have H' := Aside0.mk H
   clear H
   go_wp2_with (first | ((with_reducible refine gate_callee (f := 63) rfl ?_); refine goesL_ (some 9) rfl rfl Try.func63 (by kernel_rfl) rfl #[.slice A0 l0.length c0] rfl zq1 ?_; (with_reducible refine (spec_l14List.calls k _ _ l0 true _ ?side1 ?side2 A4.out).mono ?_); (case side1 => repeat (first | exact (Kd.C_below HR0.out HB.out) | (with_reducible refine Kd.C_alloc ?_ _) | (with_reducible refine Kd.C_drewN ?_ _) | (with_reducible refine Kd.C_drew ?_))); (case side2 => exact HC0.out); rintro e w7 ⟨rfl, hb⟩; refine ⟨_, rfl, ?_⟩; have n0_ := Aside0.mk (below_step zq0 hb); clear HB; have HB := n0_; clear n0_; (try clear hb); (try clear hb2); (try clear hk); (try clear hi)) | (go_at_call 82; (with_reducible refine (spec_l15Area.calls a1 t649 _ A6.out).mono ?_); rintro e w' ⟨rfl, ⟨nd, rfl⟩⟩))
   go_meet
   case rel => exact ⟨_, (!t649), (by first | rfl | (simp; done) | (simp [*]; done)), H', ⟨by first | omega | exact Nat.le_refl _⟩, ⟨by repeat (first | (with_reducible first | exact HB.out | apply below_alloc | apply pw_below_drewN | apply below_drew1) | exact HB.out)⟩⟩
  ·
   replace c5 := Bool.eq_false_iff.mpr c5
   subst c5
   have H1 : (spec_AreaTimeline.j0 k l0 a1 true) = some (r1, r2) := by rw [if_neg (show ¬ (false = true) by decide)] at H; exact H
   clear H
   have H := H1
   clear H1
   have H' := Aside0.mk H
   clear H
   go_wp2_with (first | ((with_reducible refine gate_callee (f := 63) rfl ?_); refine goesL_ (some 9) rfl rfl Try.func63 (by kernel_rfl) rfl #[.slice A0 l0.length c0] rfl zq1 ?_; (with_reducible refine (spec_l14List.calls k _ _ l0 false _ ?side1 ?side2 A4.out).mono ?_); (case side1 => repeat (first | exact (Kd.C_below HR0.out HB.out) | (with_reducible refine Kd.C_alloc ?_ _) | (with_reducible refine Kd.C_drewN ?_ _) | (with_reducible refine Kd.C_drew ?_))); (case side2 => exact HC0.out); rintro e w8 ⟨rfl, hb⟩; refine ⟨_, rfl, ?_⟩; have n0_ := Aside0.mk (below_step zq0 hb); clear HB; have HB := n0_; clear n0_; (try clear hb); (try clear hb2); (try clear hk); (try clear hi)))
   go_meet
   case rel => exact ⟨_, (true), (by first | rfl | (simp; done) | (simp [*]; done)), H', ⟨by first | omega | exact Nat.le_refl _⟩, ⟨by repeat (first | (with_reducible first | exact HB.out | apply below_alloc | apply pw_below_drewN | apply below_drew1) | exact HB.out)⟩⟩
 case rest =>
  clear HC3
  try clear c2
  try clear p2
  try clear c5
  try clear c6
  obtain ⟨kq, x15_2, rfl, HA, HJ2, HB⟩ := hcut
  cases kq with
  | zero => exact absurd HA.out (by simp [spec_AreaTimeline.j0])
  | succ kj2 =>
   have H := HA.out
   clear HA
   simp only [spec_AreaTimeline.j0] at H
   by_cases c9 : x15_2 = true
   ·
    subst c9
    have H1 : (some ((([] : List (S50))), false)) = some (r1, r2) := by rw [if_pos rfl] at H; exact H
    clear H
    have H := H1
    clear H1
    obtain ⟨y650, hy650⟩ : ∃ y_ : List (S50), y_ = (([] : List (S50))) := ⟨_, rfl⟩
    replace H : (some (y650, false)) = some (r1, r2) := by first | (rw [hy650]; with_reducible exact H) | (have H2_ := (Option.bind_some _ _).symm.trans H; rw [hy650]; with_reducible exact H2_) | (have H2_ := (Option.bind_some _ _).symm.trans H; with_reducible exact H2_) | with_reducible exact H | (rw [hy650]; exact H) | exact H
    have Ny650 := Aside0.mk hy650
    clear hy650
    simp only [Option.some.injEq, Prod.mk.injEq] at H
    obtain ⟨rfl, rfl⟩ := H
    go_wp2_with (first | ((with_reducible refine gate_dst (N := 16) rfl ?_); refine Kd.R_lit k50 _ 50 ?hg (N := 16) ?hd (xs := ([] : List (S50))) (inner := []) (ok := fun _ => True) (okp := fun _ => True) ?hr ?hp (fun _ hk => hk) trivial (Below.refl _ _) (Nat.le_refl _) (by simp) ?_; (case hd => rfl); (case hg => rfl); (case hr => first | (go_simp; done) | (go_simp; rfl)); (case hp => exact (Reps.none _ _)); intro v651 w10 ho11 hb hg_ hnew_; clear hg_ hnew_; (first | rw [← Ny650.out] at ho11 | (simp only [Int.reduceToNat] at ho11; rw [← Ny650.out] at ho11)); have n0_ := Aside0.mk (Kd.R_lower ho11 (below_size zq0)); have n1_ := Aside0.mk (below_step zq0 hb); clear HB; have HO652 := n0_; have HB := n1_; clear n0_ n1_; clear hb ho11))
    go_ret2
    exact ⟨_, by first | rfl | (simp [errW_none, errW_some] <;> rfl) | (simp [*, errW_none, errW_some] <;> rfl), by (with_reducible repeat (first | apply Kd.R_alloc | apply Kd.R_drewN | apply Kd.R_drew)); exact HO652.out, by repeat (first | (with_reducible first | exact HB.out | apply below_alloc | apply pw_below_drewN | apply below_drew1) | exact HB.out)⟩
   ·
    replace c9 := Bool.eq_false_iff.mpr c9
    subst c9
    have H1 : (spec_AreaTimeline.l0 kj2 l0 a1 (([] : List Int)) 0) = some (r1, r2) := by rw [if_neg (show ¬ (false = true) by decide)] at H; exact H
    clear H
    have H := H1
    clear H1
    obtain ⟨y653, hy653⟩ : ∃ y_ : List Int, y_ = (([] : List Int)) := ⟨_, rfl⟩
    replace H : (spec_AreaTimeline.l0 kj2 l0 a1 y653 0) = some (r1, r2) := by first | (rw [hy653]; with_reducible exact H) | (have H2_ := (Option.bind_some _ _).symm.trans H; rw [hy653]; with_reducible exact H2_) | (have H2_ := (Option.bind_some _ _).symm.trans H; with_reducible exact H2_) | with_reducible exact H | (rw [hy653]; exact H) | exact H
    have Ny653 := Aside0.mk hy653
    clear hy653
    have H' := Aside0.mk H
    clear H
    go_wp2_with (first | ((with_reducible refine gate_dst (N := 17) rfl ?_); refine Kd.R_lit (Kd.int .i64) _ 3 ?hg (N := 17) ?hd (xs := ([] : List Int)) (inner := []) (ok := fun _ => True) (okp := fun _ => True) ?hr ?hp (fun _ hk => hk) trivial (Below.refl _ _) (Nat.le_refl _) (by simp) ?_; (case hd => rfl); (case hg => rfl); (case hr => first | (go_simp; done) | (go_simp; rfl)); (case hp => exact (Reps.none _ _)); intro v654 w12 ho13 hb hg_ hnew_; clear hg_ hnew_; (first | rw [← Ny653.out] at ho13 | (simp only [Int.reduceToNat] at ho13; rw [← Ny653.out] at ho13)); have n0_ := Aside0.mk (Kd.R_lower ho13 (below_size zq0)); have n1_ := Aside0.mk (below_step zq0 hb); clear HB; have HO655 := n0_; have HB := n1_; clear n0_ n1_; clear hb ho13))
    go_loopg [6, 7] kj2 (fun kq v6 v7 w' => ∃ (x6_2 : List Int) (x7_2 : Int), v7 = .int .i64 x7_2 ∧ Aside0 (spec_AreaTimeline.l0 kq l0 a1 x6_2 x7_2 = some (r1, r2)) ∧ Aside0 (kq ≤ kj2) ∧ Aside0 (Kd.R (Kd.int .i64) 3 w' w.heap.size (fun _ => True) v6 x6_2) ∧ Aside0 (Below w.heap.size w w'))
    case atStart => exact ⟨(y653), (0), (by first | rfl | (simp; done) | (simp [*]; done)), H', ⟨Nat.le_refl _⟩, ⟨by (with_reducible repeat (first | apply Kd.R_alloc | apply Kd.R_drewN | apply Kd.R_drew)); exact HO655.out⟩, ⟨by repeat (first | (with_reducible first | exact HB.out | apply below_alloc | apply pw_below_drewN | apply below_drew1) | exact HB.out)⟩⟩
    case round =>
     clear H'
     try clear c2
     try clear p2
     try clear c5
     try clear c6
     try clear c9
     try clear p2
     obtain ⟨x6_2, x7_2, rfl, HA, HK2, HO_6, HB⟩ := hrel
     cases gk with
     | zero => exact absurd HA.out (by simp [spec_AreaTimeline.l0])
     | succ k2 =>
      have H := HA.out
      clear HA
      simp only [spec_AreaTimeline.l0] at H
      by_cases c14 : x7_2 < 240
      ·
       rw [if_pos c14] at H
       have c14b0 : decide (x7_2 < 240) = true := decide_eq_true c14
       clear c14
       replace H := Option.bind_eq_some_iff.mp H
       obtain ⟨t656, A150, H⟩ := H
       replace H : (if x6_2.length < 17592186044416 then (spec_AreaTimeline.l0 k2 l0 a1 (x6_2 ++ [t656]) (wrap64 (x7_2 + 1))) else (none)) = some (r1, r2) := H
       have A15 := Aside0.mk A150
       clear A150
       by_cases c16 : x6_2.length < 17592186044416
       ·
        rw [if_pos c16] at H
        have LMc16 := Aside0.mk c16
        clear c16
        obtain ⟨y657, hy657⟩ : ∃ y_ : List Int, y_ = (x6_2 ++ [t656]) := ⟨_, rfl⟩
        replace H : (spec_AreaTimeline.l0 k2 l0 a1 y657 (wrap64 (x7_2 + 1))) = some (r1, r2) := by first | (rw [hy657]; with_reducible exact H) | (have H2_ := (Option.bind_some _ _).symm.trans H; rw [hy657]; with_reducible exact H2_) | (have H2_ := (Option.bind_some _ _).symm.trans H; with_reducible exact H2_) | with_reducible exact H | (rw [hy657]; exact H) | exact H
        have Ny657 := Aside0.mk hy657
        clear hy657
        have H' := Aside0.mk H
        clear H
        go_wp2_with (first | ((with_reducible refine gate_callee (f := 88) rfl ?_); refine goesL_ (some 26) rfl rfl Try.func88 (by kernel_rfl) rfl #[.slice A0 l0.length c0, .int .i64 a1, .int .i64 x7_2] rfl zq1 ?_; (with_reducible refine (spec_l15Greatest.calls k2 _ _ l0 a1 x7_2 t656 _ ?side1 ?side2 A15.out).mono ?_); (case side1 => repeat (first | exact (Kd.C_below HR0.out HB.out) | (with_reducible refine Kd.C_alloc ?_ _) | (with_reducible refine Kd.C_drewN ?_ _) | (with_reducible refine Kd.C_drew ?_))); (case side2 => exact HC0.out); rintro e w17 ⟨rfl, hb⟩; refine ⟨_, rfl, ?_⟩; have n0_ := Aside0.mk (Kd.R_below (zqR HO_6.out) hb); have n1_ := Aside0.mk (below_step zq0 hb); clear HO_6; clear HB; have HO_6 := n0_; have HB := n1_; clear n0_ n1_; (try clear hb); (try clear hb2); (try clear hk); (try clear hi)) | ((with_reducible refine gate_builtin (b := .append) (xs := #[.tmp 22, .tmp 27]) rfl ?_); at_builtin; refine Kd.R_append (Kd.int .i64) (w0 := w) w.heap.size rfl (.tmp 22) (.tmp 27) 54 3 (.int .i64 0) 8 rfl Try.underlying54 info3 rfl (by decide) (by omega) u6 x6_2 t656 [.int .i64 t656] (fun _ => True) (fun _ => False) rfl rfl ?aP (fun _ hk => hk.elim) ?aF ?aO ?aB ?aS ?aL ?_; (case aP => exact rfl); (case aB => exact zq0); (case aF => exact (fun _ _ => trivial)); (case aO => exact (zqR HO_6.out)); (case aS => exact (below_size zq0)); (case aL => have := LMc16.out; omega); intro v658 w18 ho hb hg hat; rw [← Ny657.out] at ho; have n0_ := Aside0.mk (hb); have n1_ := Aside0.mk (ho); clear HB; clear HO_6; have HB := n0_; have HO659 := n1_; clear n0_ n1_; clear ho hb hg hat))
        go_roundg k2
        case measure => have := HJ2.out; have := HK2.out; omega
        case rel => exact ⟨(y657), (wrap64 (x7_2 + 1)), (by first | rfl | (simp; done) | (simp [*]; done)), H', ⟨by have := HJ2.out; have := HK2.out; omega⟩, ⟨by (with_reducible repeat (first | apply Kd.R_alloc | apply Kd.R_drewN | apply Kd.R_drew)); exact HO659.out⟩, ⟨by repeat (first | (with_reducible first | exact HB.out | apply below_alloc | apply pw_below_drewN | apply below_drew1) | exact HB.out)⟩⟩
       ·
        rw [if_neg c16] at H
        exact absurd H (by simp)
      ·
       rw [if_neg c14] at H
       have c14b0 : decide (x7_2 < 240) = false := decide_eq_false c14
       clear c14
       replace H := Option.bind_eq_some_iff.mp H
       obtain ⟨t660, A190, H⟩ := H
       replace H : (some (t660, true)) = some (r1, r2) := H
       have A19 := Aside0.mk A190
       clear A190
       simp only [Option.some.injEq, Prod.mk.injEq] at H
       obtain ⟨rfl, rfl⟩ := H
       obtain ⟨Ao20, co20, eo20⟩ := Kd.R_slice HO_6.out
       subst eo20
       go_wp2_with (first | ((with_reducible refine gate_callee (f := 84) rfl ?_); refine goesL_ (some 30) rfl rfl Try.func84 (by kernel_rfl) rfl #[.slice Ao20 x6_2.length co20] rfl zq1 ?_; (with_reducible refine (spec_l15Timeline.calls k2 _ _ x6_2 t660 _ ?side1 ?side2 A19.out).mono ?_); (case side1 => repeat (first | exact (Kd.R_reads' HO_6.out).2.2 | (with_reducible refine Kd.C_alloc ?_ _) | (with_reducible refine Kd.C_drewN ?_ _) | (with_reducible refine Kd.C_drew ?_))); (case side2 => exact (Kd.R_reads' HO_6.out).2.1); rintro e w21 ⟨v661, rfl, ho0, hb⟩; refine ⟨_, rfl, ?_⟩; have n0_ := Aside0.mk (Kd.R_below (zqR HO_6.out) hb); have n1_ := Aside0.mk (Kd.R_lower ho0 (below_size zq0)); have n2_ := Aside0.mk (below_step zq0 hb); clear HO_6; clear HB; have HO_6 := n0_; have HO662 := n1_; have HB := n2_; clear n0_ n1_ n2_; (try clear hb); (try clear hb2); (try clear hk); (try clear hi); (try clear ho0)))
       go_ret2
       exact ⟨_, by first | rfl | (simp [errW_none, errW_some] <;> rfl) | (simp [*, errW_none, errW_some] <;> rfl), by (with_reducible repeat (first | apply Kd.R_alloc | apply Kd.R_drewN | apply Kd.R_drew)); exact HO662.out, by repeat (first | (with_reducible first | exact HB.out | apply below_alloc | apply pw_below_drewN | apply below_drew1) | exact HB.out)⟩

end Go.Proofs.Ytklepiechbnenaa.Q
