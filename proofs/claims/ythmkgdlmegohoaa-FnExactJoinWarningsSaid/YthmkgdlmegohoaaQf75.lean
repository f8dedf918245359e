-- Printed by a program of this session (wip/tools/seatprint.py) that runs over the kit's print.
import Derived.Test.YthmkgdlmegohoaaQ0
namespace Go.Proofs.Ythmkgdlmegohoaa.Q
open Go.RowKit Go.Proofs.YthmkgdlmegohoaaW.PrintWords Go.Proofs.YthmkgdlmegohoaaW.PrintLast Go.Proofs.YthmkgdlmegohoaaW.PrintMore
attribute [local go_sem] max2_int min2_int max_two min_two max_three min_three max_four min_four   -- for this text's walks alone
set_option linter.unusedVariables false
set_option linter.unusedSimpArgs false

/-! ### impl_firstJoint: function 75 -/
mutual
def impl_firstJoint.l0 : Nat → List (S30) → List (S30) → Int → Int → Option (Int × Int × Bool)
 | 0, _, _, _, _ => none
 | k + 1, x0, x9, x10, x11 => if x11 < x10 then (if 0 ≤ x11 then (if x11 < (x9.length : Int) then (impl_firstJoint.l1 k x0 x11 (wrap64 (x11 + 1)) x9 x10 x11 ((rd_T30 x9 x11).f0) ((rd_T30 x9 x11).f1) ((rd_T30 x9 x11).f2) ((rd_T30 x9 x11).f3) ((rd_T30 x9 x11).f4) ((rd_T30 x9 x11).f5)) else (none)) else (none)) else (some (0, 0, false))
def impl_firstJoint.l1 : Nat → List (S30) → Int → Int → List (S30) → Int → Int → Int → Int → Int → Int → Int → Int → Option (Int × Int × Bool)
 | 0, _, _, _, _, _, _, _, _, _, _, _, _ => none
 | k + 1, x0, x5, x7, x9, x10, x11, x569000, x569001, x569002, x569003, x569004, x569005 => if x7 < (x0.length : Int) then (if 0 ≤ x7 then (if x569001 = ((rd_T30 x0 x7).f1) then (if x569003 = ((rd_T30 x0 x7).f3) then (if x569002 = ((rd_T30 x0 x7).f2) then (if x569005 = ((rd_T30 x0 x7).f4) then (some (x5, x7, true)) else (if ((rd_T30 x0 x7).f5) = x569004 then (some (x5, x7, true)) else (impl_firstJoint.l1 k x0 x5 (wrap64 (x7 + 1)) x9 x10 x11 x569000 x569001 x569002 x569003 x569004 x569005))) else (impl_firstJoint.l1 k x0 x5 (wrap64 (x7 + 1)) x9 x10 x11 x569000 x569001 x569002 x569003 x569004 x569005)) else (impl_firstJoint.l1 k x0 x5 (wrap64 (x7 + 1)) x9 x10 x11 x569000 x569001 x569002 x569003 x569004 x569005)) else (impl_firstJoint.l1 k x0 x5 (wrap64 (x7 + 1)) x9 x10 x11 x569000 x569001 x569002 x569003 x569004 x569005)) else (none)) else (impl_firstJoint.l0 k x0 x9 x10 (wrap64 (x11 + 1)))
end
def impl_firstJoint.f (k : Nat) (l0 : List (S30)) : Option (Int × Int × Bool) := impl_firstJoint.l0 k l0 l0 (l0.length : Int) 0
theorem impl_firstJoint.mono_l : ∀ k, (∀ y0 y1 y2 y3, LeO (impl_firstJoint.l0 k y0 y1 y2 y3) (impl_firstJoint.l0 (k + 1) y0 y1 y2 y3)) ∧ (∀ y0 y1 y2 y3 y4 y5 y6 y7 y8 y9 y10 y11, LeO (impl_firstJoint.l1 k y0 y1 y2 y3 y4 y5 y6 y7 y8 y9 y10 y11) (impl_firstJoint.l1 (k + 1) y0 y1 y2 y3 y4 y5 y6 y7 y8 y9 y10 y11))
 | 0 => ⟨fun _ _ _ _ r h => by simp [impl_firstJoint.l0] at h, fun _ _ _ _ _ _ _ _ _ _ _ _ r h => by simp [impl_firstJoint.l1] at h⟩
 | k + 1 => by
  obtain ⟨ih0, ih1⟩ := impl_firstJoint.mono_l k
  refine ⟨?_, ?_⟩
  ·
   intro y0 y1 y2 y3
   unfold impl_firstJoint.l0
   repeat' first
   | (with_reducible exact ih0 _ _ _ _)
   | (with_reducible exact ih1 _ _ _ _ _ _ _ _ _ _ _ _)
   | (with_reducible exact LeO.refl _)
   | (with_reducible exact LeO.none _)
   | (with_reducible refine LeO.ite ?_ ?_)
   | (with_reducible refine LeO.bind ?_ (fun _ => ?_))
   | exact ih0 _ _ _ _
   | exact ih1 _ _ _ _ _ _ _ _ _ _ _ _
   | exact LeO.none _
   | refine LeO.ite ?_ ?_
   | refine LeO.bind ?_ (fun _ => ?_)
  ·
   intro y0 y1 y2 y3 y4 y5 y6 y7 y8 y9 y10 y11
   unfold impl_firstJoint.l1
   repeat' first
   | (with_reducible exact ih0 _ _ _ _)
   | (with_reducible exact ih1 _ _ _ _ _ _ _ _ _ _ _ _)
   | (with_reducible exact LeO.refl _)
   | (with_reducible exact LeO.none _)
   | (with_reducible refine LeO.ite ?_ ?_)
   | (with_reducible refine LeO.bind ?_ (fun _ => ?_))
   | exact ih0 _ _ _ _
   | exact ih1 _ _ _ _ _ _ _ _ _ _ _ _
   | exact LeO.none _
   | refine LeO.ite ?_ ?_
   | refine LeO.bind ?_ (fun _ => ?_)
theorem impl_firstJoint.mono : ∀ a0 k, LeO (impl_firstJoint.f k a0) (impl_firstJoint.f (k + 1) a0) := by
 intro a0 k
 obtain ⟨ih0, ih1⟩ := impl_firstJoint.mono_l k
 unfold impl_firstJoint.f
 repeat' first
   | (with_reducible exact ih0 _ _ _ _)
   | (with_reducible exact ih1 _ _ _ _ _ _ _ _ _ _ _ _)
   | (with_reducible exact LeO.refl _)
   | (with_reducible exact LeO.none _)
   | (with_reducible refine LeO.ite ?_ ?_)
   | (with_reducible refine LeO.bind ?_ (fun _ => ?_))
   | exact ih0 _ _ _ _
   | exact ih1 _ _ _ _ _ _ _ _ _ _ _ _
   | exact LeO.none _
   | refine LeO.ite ?_ ?_
   | refine LeO.bind ?_ (fun _ => ?_)
set_option maxHeartbeats 8000000 in
set_option maxRecDepth 100000 in
theorem impl_firstJoint.calls (k : Nat) (A0 : Option Addr) (c0 : Nat) (l0 : List (S30)) (r1 : Int) (r2 : Int) (r3 : Bool) (w : World) (hr0 : Kd.C k30 w A0 l0.length l0) (hc0 : l0.length ≤ c0) (h : impl_firstJoint.f k l0 = some (r1, r2, r3)) :
  Calls Try.prog 75 #[.slice A0 l0.length c0] w fun e w' => e = .returned (.tuple #[.int .i64 r1, .int .i64 r2, .bool r3]) ∧ Below w.heap.size w w' := by
 have hu30 := Try.underlying30
 have HR0 := Aside0.mk hr0
 have HC0 := Aside0.mk hc0
 clear hr0 hc0
 have HB := Aside0.mk (Below.refl w.heap.size w)
 have H : (impl_firstJoint.l0 k l0 l0 (l0.length : Int) 0) = some (r1, r2, r3) := h
 clear h
 have H' := Aside0.mk H
 clear H
 go_enter Try.func75, Try.ntmps75
 go_wp2
 go_loopg [11] k (fun kq v11 w' => ∃ (x11_1 : Int), v11 = .int .i64 x11_1 ∧ Aside0 (impl_firstJoint.l0 kq l0 l0 (l0.length : Int) x11_1 = some (r1, r2, r3)) ∧ Aside0 (kq ≤ k) ∧ Aside0 (Below w.heap.size w w'))
 case atStart => exact ⟨(0), (by first | rfl | (simp; done) | (simp [*]; done)), H', ⟨Nat.le_refl _⟩, ⟨by repeat (first | (with_reducible first | exact HB.out | apply below_alloc | apply pw_below_drewN | apply below_drew1) | exact HB.out)⟩⟩
 case round =>
  clear H'
  obtain ⟨x11_1, rfl, HA, HK1, HB⟩ := hrel
  cases gk with
  | zero => exact absurd HA.out (by simp [impl_firstJoint.l0])
  | succ k1 =>
   have H := HA.out
   clear HA
   simp only [impl_firstJoint.l0] at H
   by_cases c2 : x11_1 < (l0.length : Int)
   ·
    rw [if_pos c2] at H
    have c2b0 : decide (x11_1 < (l0.length : Int)) = true := decide_eq_true c2
    clear c2
    by_cases c3 : 0 ≤ x11_1
    ·
     rw [if_pos c3] at H
     have c3b0 : decide (0 ≤ x11_1) = true := decide_eq_true c3
     clear c3
     by_cases c4 : x11_1 < (l0.length : Int)
     ·
      rw [if_pos c4] at H
      have c4b0 : decide (x11_1 < (l0.length : Int)) = true := decide_eq_true c4
      clear c4
      have H' := Aside0.mk H
      clear H
      have p567 : 0 ≤ (x11_1 : Int) := of_decide_eq_true (by first | (with_reducible assumption) | assumption)
      have q567 : x11_1 < (l0.length : Int) := of_decide_eq_true (by first | (with_reducible assumption) | assumption)
      obtain ⟨ad567, e567, hx567_0, hx567_1, hx567_2, hx567_3, hx567_4, hx567_5⟩ := at_T30 HR0.out x11_1 p567 q567
      cases e567
      replace hx567_0 := (HB.out.cell (World.block_lt_of_cell? w _ hx567_0)).trans hx567_0
      replace hx567_1 := (HB.out.cell (World.block_lt_of_cell? w _ hx567_1)).trans hx567_1
      replace hx567_2 := (HB.out.cell (World.block_lt_of_cell? w _ hx567_2)).trans hx567_2
      replace hx567_3 := (HB.out.cell (World.block_lt_of_cell? w _ hx567_3)).trans hx567_3
      replace hx567_4 := (HB.out.cell (World.block_lt_of_cell? w _ hx567_4)).trans hx567_4
      replace hx567_5 := (HB.out.cell (World.block_lt_of_cell? w _ hx567_5)).trans hx567_5
      replace p567 := eq_true p567
      replace q567 := eq_true q567
      go_wp2_with (first | ((with_reducible refine gate_dst (N := 6) rfl ?_); refine box_event ?hg (N := 6) ?hd (cs := #[.int .i64 0, .int .i64 0, .int .i64 0, .int .i64 0, .int .i64 0, .int .i64 0]) (t := 30) ?hr ?_; (case hd => rfl); (case hg => rfl); (case hr => first | (go_simp; done) | (go_simp; rfl)); intro gb568 hg w5 hbox hb; have n0_ := Aside0.mk (below_step (by repeat (first | (with_reducible first | exact HB.out | apply below_alloc | apply pw_below_drewN | apply below_drew1) | exact HB.out)) hb); have n1_ := Aside0.mk (hbox); have n2_ := Aside0.mk ((by rw [hg]; exact (below_size (by repeat (first | (with_reducible first | exact HB.out | apply below_alloc | apply pw_below_drewN | apply below_drew1) | exact HB.out))) : w.heap.size ≤ gb568)); have n3_ := Aside0.mk ((by rw [hg]; exact (below_size (by repeat (first | (with_reducible first | exact HB.out | apply below_alloc | apply pw_below_drewN | apply below_drew1) | exact HB.out))) : w.heap.size ≤ gb568)); clear HB; have HB := n0_; have BK568 := n1_; have GW568 := n2_; have GE568 := n3_; clear n0_ n1_ n2_ n3_; clear hb hbox hg; have hcz6_0 : w5.cell? ⟨gb568, 0, none⟩ = some (.int .i64 0) := (blk_cell BK568.out 0).trans rfl; have hcz6_1 : w5.cell? ⟨gb568, 1, none⟩ = some (.int .i64 0) := (blk_cell BK568.out 1).trans rfl; have hcz6_2 : w5.cell? ⟨gb568, 2, none⟩ = some (.int .i64 0) := (blk_cell BK568.out 2).trans rfl; have hcz6_3 : w5.cell? ⟨gb568, 3, none⟩ = some (.int .i64 0) := (blk_cell BK568.out 3).trans rfl; have hcz6_4 : w5.cell? ⟨gb568, 4, none⟩ = some (.int .i64 0) := (blk_cell BK568.out 4).trans rfl; have hcz6_5 : w5.cell? ⟨gb568, 5, none⟩ = some (.int .i64 0) := (blk_cell BK568.out 5).trans rfl; have hfz6_0 := blk_frozen BK568.out 0; have hfz6_1 := blk_frozen BK568.out 1; have hfz6_2 := blk_frozen BK568.out 2; have hfz6_3 := blk_frozen BK568.out 3; have hfz6_4 := blk_frozen BK568.out 4; have hfz6_5 := blk_frozen BK568.out 5))
      go_loopg [7] k1 (fun kq v7 w' => ∃ (x7_2 : Int), v7 = .int .i64 x7_2 ∧ Aside0 (impl_firstJoint.l1 kq l0 x11_1 x7_2 l0 (l0.length : Int) x11_1 ((rd_T30 l0 x11_1).f0) ((rd_T30 l0 x11_1).f1) ((rd_T30 l0 x11_1).f2) ((rd_T30 l0 x11_1).f3) ((rd_T30 l0 x11_1).f4) ((rd_T30 l0 x11_1).f5) = some (r1, r2, r3)) ∧ Aside0 (kq ≤ k1) ∧ Aside0 (w'.heap[gb568]? = some (.cells #[.int .i64 ((rd_T30 l0 x11_1).f0), .int .i64 ((rd_T30 l0 x11_1).f1), .int .i64 ((rd_T30 l0 x11_1).f2), .int .i64 ((rd_T30 l0 x11_1).f3), .int .i64 ((rd_T30 l0 x11_1).f4), .int .i64 ((rd_T30 l0 x11_1).f5)] 30 (0, 0))) ∧ Aside0 (Below w.heap.size w w'))
      case atStart => exact ⟨(wrap64 (x11_1 + 1)), (by first | rfl | (simp; done) | (simp [*]; done)), H', ⟨Nat.le_refl _⟩, ⟨by (with_reducible repeat (first | refine blk_drewN ?_ _ | refine blk_drew ?_ | refine blk_alloc ?_ _)); refine blk_put (cs := #[.int .i64 ((rd_T30 l0 x11_1).f0), .int .i64 ((rd_T30 l0 x11_1).f1), .int .i64 ((rd_T30 l0 x11_1).f2), .int .i64 ((rd_T30 l0 x11_1).f3), .int .i64 ((rd_T30 l0 x11_1).f4), .int .i64 0]) ?_ 5 _ rfl; (with_reducible repeat (first | refine blk_drewN ?_ _ | refine blk_drew ?_ | refine blk_alloc ?_ _)); refine blk_put (cs := #[.int .i64 ((rd_T30 l0 x11_1).f0), .int .i64 ((rd_T30 l0 x11_1).f1), .int .i64 ((rd_T30 l0 x11_1).f2), .int .i64 ((rd_T30 l0 x11_1).f3), .int .i64 0, .int .i64 0]) ?_ 4 _ rfl; (with_reducible repeat (first | refine blk_drewN ?_ _ | refine blk_drew ?_ | refine blk_alloc ?_ _)); refine blk_put (cs := #[.int .i64 ((rd_T30 l0 x11_1).f0), .int .i64 ((rd_T30 l0 x11_1).f1), .int .i64 ((rd_T30 l0 x11_1).f2), .int .i64 0, .int .i64 0, .int .i64 0]) ?_ 3 _ rfl; (with_reducible repeat (first | refine blk_drewN ?_ _ | refine blk_drew ?_ | refine blk_alloc ?_ _)); refine blk_put (cs := #[.int .i64 ((rd_T30 l0 x11_1).f0), .int .i64 ((rd_T30 l0 x11_1).f1), .int .i64 0, .int .i64 0, .int .i64 0, .int .i64 0]) ?_ 2 _ rfl; (with_reducible repeat (first | refine blk_drewN ?_ _ | refine blk_drew ?_ | refine blk_alloc ?_ _)); refine blk_put (cs := #[.int .i64 ((rd_T30 l0 x11_1).f0), .int .i64 0, .int .i64 0, .int .i64 0, .int .i64 0, .int .i64 0]) ?_ 1 _ rfl; (with_reducible repeat (first | refine blk_drewN ?_ _ | refine blk_drew ?_ | refine blk_alloc ?_ _)); refine blk_put (cs := #[.int .i64 0, .int .i64 0, .int .i64 0, .int .i64 0, .int .i64 0, .int .i64 0]) ?_ 0 _ rfl; (with_reducible repeat (first | refine blk_drewN ?_ _ | refine blk_drew ?_ | refine blk_alloc ?_ _)); exact BK568.out⟩, ⟨by repeat (first | (with_reducible first | exact HB.out | apply below_alloc | apply pw_below_drewN | apply below_drew1 | refine below_set ?_ GE568.out) | exact HB.out)⟩⟩
      case round =>
       clear H'
       try clear c2
       try clear c2b0
       try clear p2
       try clear c3
       try clear c3b0
       try clear c4
       try clear c4b0
       try clear p5
       try clear q5
       try clear hx5
       try clear p6
       try clear hcz6_0
       try clear hcz6_1
       try clear hcz6_2
       try clear hcz6_3
       try clear hcz6_4
       try clear hcz6_5
       try clear hfz6_0
       try clear hfz6_1
       try clear hfz6_2
       try clear hfz6_3
       try clear hfz6_4
       try clear hfz6_5
       try clear hx567_0
       try clear hx567_1
       try clear hx567_2
       try clear hx567_3
       try clear hx567_4
       try clear hx567_5
       try clear p567
       try clear q567
       obtain ⟨x7_2, rfl, HA, HK2, BK568, HB⟩ := hrel
       cases gk with
       | zero => exact absurd HA.out (by simp [impl_firstJoint.l1])
       | succ k2 =>
        have H := HA.out
        clear HA
        simp only [impl_firstJoint.l1] at H
        by_cases c7 : x7_2 < (l0.length : Int)
        ·
         rw [if_pos c7] at H
         have c7b0 : decide (x7_2 < (l0.length : Int)) = true := decide_eq_true c7
         clear c7
         by_cases c8 : 0 ≤ x7_2
         ·
          rw [if_pos c8] at H
          have c8b0 : decide (0 ≤ x7_2) = true := decide_eq_true c8
          clear c8
          by_cases c9 : ((rd_T30 l0 x11_1).f1) = ((rd_T30 l0 x7_2).f1)
          ·
           rw [if_pos c9] at H
           have c9b0 : (((rd_T30 l0 x11_1).f1) == ((rd_T30 l0 x7_2).f1)) = true := beq_iff_eq.mpr c9
           have c9b1 : (((rd_T30 l0 x11_1).f1) != ((rd_T30 l0 x7_2).f1)) = false := bne_eq_false_iff_eq.mpr c9
           clear c9
           by_cases c10 : ((rd_T30 l0 x11_1).f3) = ((rd_T30 l0 x7_2).f3)
           ·
            rw [if_pos c10] at H
            have c10b0 : (((rd_T30 l0 x11_1).f3) == ((rd_T30 l0 x7_2).f3)) = true := beq_iff_eq.mpr c10
            have c10b1 : (((rd_T30 l0 x11_1).f3) != ((rd_T30 l0 x7_2).f3)) = false := bne_eq_false_iff_eq.mpr c10
            clear c10
            by_cases c11 : ((rd_T30 l0 x11_1).f2) = ((rd_T30 l0 x7_2).f2)
            ·
             rw [if_pos c11] at H
             have c11b0 : (((rd_T30 l0 x11_1).f2) == ((rd_T30 l0 x7_2).f2)) = true := beq_iff_eq.mpr c11
             have c11b1 : (((rd_T30 l0 x11_1).f2) != ((rd_T30 l0 x7_2).f2)) = false := bne_eq_false_iff_eq.mpr c11
             clear c11
             by_cases c12 : ((rd_T30 l0 x11_1).f5) = ((rd_T30 l0 x7_2).f4)
             ·
              rw [if_pos c12] at H
              have c12b0 : (((rd_T30 l0 x11_1).f5) == ((rd_T30 l0 x7_2).f4)) = true := beq_iff_eq.mpr c12
              have c12b1 : (((rd_T30 l0 x11_1).f5) != ((rd_T30 l0 x7_2).f4)) = false := bne_eq_false_iff_eq.mpr c12
              clear c12
              simp only [Option.some.injEq, Prod.mk.injEq] at H
              obtain ⟨rfl, rfl, rfl⟩ := H
              have p569 : 0 ≤ (x7_2 : Int) := of_decide_eq_true (by first | (with_reducible assumption) | assumption)
              have q569 : x7_2 < (l0.length : Int) := of_decide_eq_true (by first | (with_reducible assumption) | assumption)
              obtain ⟨ad569, e569, hx569_0, hx569_1, hx569_2, hx569_3, hx569_4, hx569_5⟩ := at_T30 HR0.out x7_2 p569 q569
              obtain rfl : ad567 = ad569 := (by injection e569)
              replace hx569_0 := (HB.out.cell (World.block_lt_of_cell? w _ hx569_0)).trans hx569_0
              replace hx569_1 := (HB.out.cell (World.block_lt_of_cell? w _ hx569_1)).trans hx569_1
              replace hx569_2 := (HB.out.cell (World.block_lt_of_cell? w _ hx569_2)).trans hx569_2
              replace hx569_3 := (HB.out.cell (World.block_lt_of_cell? w _ hx569_3)).trans hx569_3
              replace hx569_4 := (HB.out.cell (World.block_lt_of_cell? w _ hx569_4)).trans hx569_4
              replace hx569_5 := (HB.out.cell (World.block_lt_of_cell? w _ hx569_5)).trans hx569_5
              replace p569 := eq_true p569
              replace q569 := eq_true q569
              go_wp2_with (first | ((with_reducible refine gate_dst (N := 8) rfl ?_); refine box_event ?hg (N := 8) ?hd (cs := #[.int .i64 0, .int .i64 0, .int .i64 0, .int .i64 0, .int .i64 0, .int .i64 0]) (t := 30) ?hr ?_; (case hd => rfl); (case hg => rfl); (case hr => first | (go_simp; done) | (go_simp; rfl)); intro gb570 hg w13 hbox hb; have n0_ := Aside0.mk (blk_below (g := gb568) (o := .cells #[.int .i64 ((rd_T30 l0 x11_1).f0), .int .i64 ((rd_T30 l0 x11_1).f1), .int .i64 ((rd_T30 l0 x11_1).f2), .int .i64 ((rd_T30 l0 x11_1).f3), .int .i64 ((rd_T30 l0 x11_1).f4), .int .i64 ((rd_T30 l0 x11_1).f5)] 30 (0, 0)) (by (with_reducible repeat (first | refine blk_drewN ?_ _ | refine blk_drew ?_ | refine blk_alloc ?_ _)); exact BK568.out) hb); have n1_ := Aside0.mk (below_step (by repeat (first | (with_reducible first | exact HB.out | apply below_alloc | apply pw_below_drewN | apply below_drew1 | refine below_set ?_ GE568.out) | exact HB.out)) hb); have n2_ := Aside0.mk (hbox); have n3_ := Aside0.mk ((by rw [hg]; exact (below_size (by repeat (first | (with_reducible first | exact HB.out | apply below_alloc | apply pw_below_drewN | apply below_drew1 | refine below_set ?_ GE568.out) | exact HB.out))) : w.heap.size ≤ gb570)); have n4_ := Aside0.mk ((by rw [hg]; exact (below_size (by repeat (first | (with_reducible first | exact HB.out | apply below_alloc | apply pw_below_drewN | apply below_drew1 | refine below_set ?_ GE568.out) | exact HB.out))) : w.heap.size ≤ gb570)); have n5_ := Aside0.mk ((by rw [hg]; exact Nat.ne_of_lt (blk_lt (g := gb568) (o := .cells #[.int .i64 ((rd_T30 l0 x11_1).f0), .int .i64 ((rd_T30 l0 x11_1).f1), .int .i64 ((rd_T30 l0 x11_1).f2), .int .i64 ((rd_T30 l0 x11_1).f3), .int .i64 ((rd_T30 l0 x11_1).f4), .int .i64 ((rd_T30 l0 x11_1).f5)] 30 (0, 0)) (by (with_reducible repeat (first | refine blk_drewN ?_ _ | refine blk_drew ?_ | refine blk_alloc ?_ _)); exact BK568.out)) : gb568 ≠ gb570)); have n6_ := Aside0.mk ((by rw [hg]; exact Nat.ne_of_gt (blk_lt (g := gb568) (o := .cells #[.int .i64 ((rd_T30 l0 x11_1).f0), .int .i64 ((rd_T30 l0 x11_1).f1), .int .i64 ((rd_T30 l0 x11_1).f2), .int .i64 ((rd_T30 l0 x11_1).f3), .int .i64 ((rd_T30 l0 x11_1).f4), .int .i64 ((rd_T30 l0 x11_1).f5)] 30 (0, 0)) (by (with_reducible repeat (first | refine blk_drewN ?_ _ | refine blk_drew ?_ | refine blk_alloc ?_ _)); exact BK568.out)) : gb570 ≠ gb568)); clear BK568; clear HB; have BK568 := n0_; have HB := n1_; have BK570 := n2_; have GW570 := n3_; have GE570 := n4_; have NB568_570 := n5_; have NB570_568 := n6_; clear n0_ n1_ n2_ n3_ n4_ n5_ n6_; clear hb hbox hg; have hnb14 := NB570_568.out; have hnc14 := NB568_570.out; have hcz15_0 : w13.cell? ⟨gb570, 0, none⟩ = some (.int .i64 0) := (blk_cell BK570.out 0).trans rfl; have hcz15_1 : w13.cell? ⟨gb570, 1, none⟩ = some (.int .i64 0) := (blk_cell BK570.out 1).trans rfl; have hcz15_2 : w13.cell? ⟨gb570, 2, none⟩ = some (.int .i64 0) := (blk_cell BK570.out 2).trans rfl; have hcz15_3 : w13.cell? ⟨gb570, 3, none⟩ = some (.int .i64 0) := (blk_cell BK570.out 3).trans rfl; have hcz15_4 : w13.cell? ⟨gb570, 4, none⟩ = some (.int .i64 0) := (blk_cell BK570.out 4).trans rfl; have hcz15_5 : w13.cell? ⟨gb570, 5, none⟩ = some (.int .i64 0) := (blk_cell BK570.out 5).trans rfl; have hfz15_0 := blk_frozen BK570.out 0; have hfz15_1 := blk_frozen BK570.out 1; have hfz15_2 := blk_frozen BK570.out 2; have hfz15_3 := blk_frozen BK570.out 3; have hfz15_4 := blk_frozen BK570.out 4; have hfz15_5 := blk_frozen BK570.out 5; have hcz16_0 : w13.cell? ⟨gb568, 0, none⟩ = some (.int .i64 ((rd_T30 l0 x11_1).f0)) := (blk_cell BK568.out 0).trans rfl; have hcz16_1 : w13.cell? ⟨gb568, 1, none⟩ = some (.int .i64 ((rd_T30 l0 x11_1).f1)) := (blk_cell BK568.out 1).trans rfl; have hcz16_2 : w13.cell? ⟨gb568, 2, none⟩ = some (.int .i64 ((rd_T30 l0 x11_1).f2)) := (blk_cell BK568.out 2).trans rfl; have hcz16_3 : w13.cell? ⟨gb568, 3, none⟩ = some (.int .i64 ((rd_T30 l0 x11_1).f3)) := (blk_cell BK568.out 3).trans rfl; have hcz16_4 : w13.cell? ⟨gb568, 4, none⟩ = some (.int .i64 ((rd_T30 l0 x11_1).f4)) := (blk_cell BK568.out 4).trans rfl; have hcz16_5 : w13.cell? ⟨gb568, 5, none⟩ = some (.int .i64 ((rd_T30 l0 x11_1).f5)) := (blk_cell BK568.out 5).trans rfl; have hfz16_0 := blk_frozen BK568.out 0; have hfz16_1 := blk_frozen BK568.out 1; have hfz16_2 := blk_frozen BK568.out 2; have hfz16_3 := blk_frozen BK568.out 3; have hfz16_4 := blk_frozen BK568.out 4; have hfz16_5 := blk_frozen BK568.out 5))
              go_ret3
              exact ⟨by first | rfl | (simp [errW_none, errW_some] <;> rfl) | (simp [*, errW_none, errW_some] <;> rfl), by repeat (first | (with_reducible first | exact HB.out | apply below_alloc | apply pw_below_drewN | apply below_drew1 | refine below_set ?_ GE568.out | refine below_set ?_ GE570.out) | exact HB.out)⟩
             ·
              rw [if_neg c12] at H
              have c12b0 : (((rd_T30 l0 x11_1).f5) == ((rd_T30 l0 x7_2).f4)) = false := beq_eq_false_iff_ne.mpr c12
              have c12b1 : (((rd_T30 l0 x11_1).f5) != ((rd_T30 l0 x7_2).f4)) = true := bne_iff_ne.mpr c12
              by_cases c17 : ((rd_T30 l0 x7_2).f5) = ((rd_T30 l0 x11_1).f4)
              ·
               rw [if_pos c17] at H
               have c17b0 : (((rd_T30 l0 x7_2).f5) == ((rd_T30 l0 x11_1).f4)) = true := beq_iff_eq.mpr c17
               have c17b1 : (((rd_T30 l0 x7_2).f5) != ((rd_T30 l0 x11_1).f4)) = false := bne_eq_false_iff_eq.mpr c17
               clear c17
               simp only [Option.some.injEq, Prod.mk.injEq] at H
               obtain ⟨rfl, rfl, rfl⟩ := H
               have p569 : 0 ≤ (x7_2 : Int) := of_decide_eq_true (by first | (with_reducible assumption) | assumption)
               have q569 : x7_2 < (l0.length : Int) := of_decide_eq_true (by first | (with_reducible assumption) | assumption)
               obtain ⟨ad569, e569, hx569_0, hx569_1, hx569_2, hx569_3, hx569_4, hx569_5⟩ := at_T30 HR0.out x7_2 p569 q569
               obtain rfl : ad567 = ad569 := (by injection e569)
               replace hx569_0 := (HB.out.cell (World.block_lt_of_cell? w _ hx569_0)).trans hx569_0
               replace hx569_1 := (HB.out.cell (World.block_lt_of_cell? w _ hx569_1)).trans hx569_1
               replace hx569_2 := (HB.out.cell (World.block_lt_of_cell? w _ hx569_2)).trans hx569_2
               replace hx569_3 := (HB.out.cell (World.block_lt_of_cell? w _ hx569_3)).trans hx569_3
               replace hx569_4 := (HB.out.cell (World.block_lt_of_cell? w _ hx569_4)).trans hx569_4
               replace hx569_5 := (HB.out.cell (World.block_lt_of_cell? w _ hx569_5)).trans hx569_5
               replace p569 := eq_true p569
               replace q569 := eq_true q569
               go_wp2_with (first | ((with_reducible refine gate_dst (N := 8) rfl ?_); refine box_event ?hg (N := 8) ?hd (cs := #[.int .i64 0, .int .i64 0, .int .i64 0, .int .i64 0, .int .i64 0, .int .i64 0]) (t := 30) ?hr ?_; (case hd => rfl); (case hg => rfl); (case hr => first | (go_simp; done) | (go_simp; rfl)); intro gb570 hg w18 hbox hb; have n0_ := Aside0.mk (blk_below (g := gb568) (o := .cells #[.int .i64 ((rd_T30 l0 x11_1).f0), .int .i64 ((rd_T30 l0 x11_1).f1), .int .i64 ((rd_T30 l0 x11_1).f2), .int .i64 ((rd_T30 l0 x11_1).f3), .int .i64 ((rd_T30 l0 x11_1).f4), .int .i64 ((rd_T30 l0 x11_1).f5)] 30 (0, 0)) (by (with_reducible repeat (first | refine blk_drewN ?_ _ | refine blk_drew ?_ | refine blk_alloc ?_ _)); exact BK568.out) hb); have n1_ := Aside0.mk (below_step (by repeat (first | (with_reducible first | exact HB.out | apply below_alloc | apply pw_below_drewN | apply below_drew1 | refine below_set ?_ GE568.out) | exact HB.out)) hb); have n2_ := Aside0.mk (hbox); have n3_ := Aside0.mk ((by rw [hg]; exact (below_size (by repeat (first | (with_reducible first | exact HB.out | apply below_alloc | apply pw_below_drewN | apply below_drew1 | refine below_set ?_ GE568.out) | exact HB.out))) : w.heap.size ≤ gb570)); have n4_ := Aside0.mk ((by rw [hg]; exact (below_size (by repeat (first | (with_reducible first | exact HB.out | apply below_alloc | apply pw_below_drewN | apply below_drew1 | refine below_set ?_ GE568.out) | exact HB.out))) : w.heap.size ≤ gb570)); have n5_ := Aside0.mk ((by rw [hg]; exact Nat.ne_of_lt (blk_lt (g := gb568) (o := .cells #[.int .i64 ((rd_T30 l0 x11_1).f0), .int .i64 ((rd_T30 l0 x11_1).f1), .int .i64 ((rd_T30 l0 x11_1).f2), .int .i64 ((rd_T30 l0 x11_1).f3), .int .i64 ((rd_T30 l0 x11_1).f4), .int .i64 ((rd_T30 l0 x11_1).f5)] 30 (0, 0)) (by (with_reducible repeat (first | refine blk_drewN ?_ _ | refine blk_drew ?_ | refine blk_alloc ?_ _)); exact BK568.out)) : gb568 ≠ gb570)); have n6_ := Aside0.mk ((by rw [hg]; exact Nat.ne_of_gt (blk_lt (g := gb568) (o := .cells #[.int .i64 ((rd_T30 l0 x11_1).f0), .int .i64 ((rd_T30 l0 x11_1).f1), .int .i64 ((rd_T30 l0 x11_1).f2), .int .i64 ((rd_T30 l0 x11_1).f3), .int .i64 ((rd_T30 l0 x11_1).f4), .int .i64 ((rd_T30 l0 x11_1).f5)] 30 (0, 0)) (by (with_reducible repeat (first | refine blk_drewN ?_ _ | refine blk_drew ?_ | refine blk_alloc ?_ _)); exact BK568.out)) : gb570 ≠ gb568)); clear BK568; clear HB; have BK568 := n0_; have HB := n1_; have BK570 := n2_; have GW570 := n3_; have GE570 := n4_; have NB568_570 := n5_; have NB570_568 := n6_; clear n0_ n1_ n2_ n3_ n4_ n5_ n6_; clear hb hbox hg; have hnb19 := NB570_568.out; have hnc19 := NB568_570.out; have hcz20_0 : w18.cell? ⟨gb570, 0, none⟩ = some (.int .i64 0) := (blk_cell BK570.out 0).trans rfl; have hcz20_1 : w18.cell? ⟨gb570, 1, none⟩ = some (.int .i64 0) := (blk_cell BK570.out 1).trans rfl; have hcz20_2 : w18.cell? ⟨gb570, 2, none⟩ = some (.int .i64 0) := (blk_cell BK570.out 2).trans rfl; have hcz20_3 : w18.cell? ⟨gb570, 3, none⟩ = some (.int .i64 0) := (blk_cell BK570.out 3).trans rfl; have hcz20_4 : w18.cell? ⟨gb570, 4, none⟩ = some (.int .i64 0) := (blk_cell BK570.out 4).trans rfl; have hcz20_5 : w18.cell? ⟨gb570, 5, none⟩ = some (.int .i64 0) := (blk_cell BK570.out 5).trans rfl; have hfz20_0 := blk_frozen BK570.out 0; have hfz20_1 := blk_frozen BK570.out 1; have hfz20_2 := blk_frozen BK570.out 2; have hfz20_3 := blk_frozen BK570.out 3; have hfz20_4 := blk_frozen BK570.out 4; have hfz20_5 := blk_frozen BK570.out 5; have hcz21_0 : w18.cell? ⟨gb568, 0, none⟩ = some (.int .i64 ((rd_T30 l0 x11_1).f0)) := (blk_cell BK568.out 0).trans rfl; have hcz21_1 : w18.cell? ⟨gb568, 1, none⟩ = some (.int .i64 ((rd_T30 l0 x11_1).f1)) := (blk_cell BK568.out 1).trans rfl; have hcz21_2 : w18.cell? ⟨gb568, 2, none⟩ = some (.int .i64 ((rd_T30 l0 x11_1).f2)) := (blk_cell BK568.out 2).trans rfl; have hcz21_3 : w18.cell? ⟨gb568, 3, none⟩ = some (.int .i64 ((rd_T30 l0 x11_1).f3)) := (blk_cell BK568.out 3).trans rfl; have hcz21_4 : w18.cell? ⟨gb568, 4, none⟩ = some (.int .i64 ((rd_T30 l0 x11_1).f4)) := (blk_cell BK568.out 4).trans rfl; have hcz21_5 : w18.cell? ⟨gb568, 5, none⟩ = some (.int .i64 ((rd_T30 l0 x11_1).f5)) := (blk_cell BK568.out 5).trans rfl; have hfz21_0 := blk_frozen BK568.out 0; have hfz21_1 := blk_frozen BK568.out 1; have hfz21_2 := blk_frozen BK568.out 2; have hfz21_3 := blk_frozen BK568.out 3; have hfz21_4 := blk_frozen BK568.out 4; have hfz21_5 := blk_frozen BK568.out 5))
               go_ret3
               exact ⟨by first | rfl | (simp [errW_none, errW_some] <;> rfl) | (simp [*, errW_none, errW_some] <;> rfl), by repeat (first | (with_reducible first | exact HB.out | apply below_alloc | apply pw_below_drewN | apply below_drew1 | refine below_set ?_ GE568.out | refine below_set ?_ GE570.out) | exact HB.out)⟩
              ·
               rw [if_neg c17] at H
               have c17b0 : (((rd_T30 l0 x7_2).f5) == ((rd_T30 l0 x11_1).f4)) = false := beq_eq_false_iff_ne.mpr c17
               have c17b1 : (((rd_T30 l0 x7_2).f5) != ((rd_T30 l0 x11_1).f4)) = true := bne_iff_ne.mpr c17
               have H' := Aside0.mk H
               clear H
               have p569 : 0 ≤ (x7_2 : Int) := of_decide_eq_true (by first | (with_reducible assumption) | assumption)
               have q569 : x7_2 < (l0.length : Int) := of_decide_eq_true (by first | (with_reducible assumption) | assumption)
               obtain ⟨ad569, e569, hx569_0, hx569_1, hx569_2, hx569_3, hx569_4, hx569_5⟩ := at_T30 HR0.out x7_2 p569 q569
               obtain rfl : ad567 = ad569 := (by injection e569)
               replace hx569_0 := (HB.out.cell (World.block_lt_of_cell? w _ hx569_0)).trans hx569_0
               replace hx569_1 := (HB.out.cell (World.block_lt_of_cell? w _ hx569_1)).trans hx569_1
               replace hx569_2 := (HB.out.cell (World.block_lt_of_cell? w _ hx569_2)).trans hx569_2
               replace hx569_3 := (HB.out.cell (World.block_lt_of_cell? w _ hx569_3)).trans hx569_3
               replace hx569_4 := (HB.out.cell (World.block_lt_of_cell? w _ hx569_4)).trans hx569_4
               replace hx569_5 := (HB.out.cell (World.block_lt_of_cell? w _ hx569_5)).trans hx569_5
               replace p569 := eq_true p569
               replace q569 := eq_true q569
               go_wp2_with (first | ((with_reducible refine gate_dst (N := 8) rfl ?_); refine box_event ?hg (N := 8) ?hd (cs := #[.int .i64 0, .int .i64 0, .int .i64 0, .int .i64 0, .int .i64 0, .int .i64 0]) (t := 30) ?hr ?_; (case hd => rfl); (case hg => rfl); (case hr => first | (go_simp; done) | (go_simp; rfl)); intro gb570 hg w22 hbox hb; have n0_ := Aside0.mk (blk_below (g := gb568) (o := .cells #[.int .i64 ((rd_T30 l0 x11_1).f0), .int .i64 ((rd_T30 l0 x11_1).f1), .int .i64 ((rd_T30 l0 x11_1).f2), .int .i64 ((rd_T30 l0 x11_1).f3), .int .i64 ((rd_T30 l0 x11_1).f4), .int .i64 ((rd_T30 l0 x11_1).f5)] 30 (0, 0)) (by (with_reducible repeat (first | refine blk_drewN ?_ _ | refine blk_drew ?_ | refine blk_alloc ?_ _)); exact BK568.out) hb); have n1_ := Aside0.mk (below_step (by repeat (first | (with_reducible first | exact HB.out | apply below_alloc | apply pw_below_drewN | apply below_drew1 | refine below_set ?_ GE568.out) | exact HB.out)) hb); have n2_ := Aside0.mk (hbox); have n3_ := Aside0.mk ((by rw [hg]; exact (below_size (by repeat (first | (with_reducible first | exact HB.out | apply below_alloc | apply pw_below_drewN | apply below_drew1 | refine below_set ?_ GE568.out) | exact HB.out))) : w.heap.size ≤ gb570)); have n4_ := Aside0.mk ((by rw [hg]; exact (below_size (by repeat (first | (with_reducible first | exact HB.out | apply below_alloc | apply pw_below_drewN | apply below_drew1 | refine below_set ?_ GE568.out) | exact HB.out))) : w.heap.size ≤ gb570)); have n5_ := Aside0.mk ((by rw [hg]; exact Nat.ne_of_lt (blk_lt (g := gb568) (o := .cells #[.int .i64 ((rd_T30 l0 x11_1).f0), .int .i64 ((rd_T30 l0 x11_1).f1), .int .i64 ((rd_T30 l0 x11_1).f2), .int .i64 ((rd_T30 l0 x11_1).f3), .int .i64 ((rd_T30 l0 x11_1).f4), .int .i64 ((rd_T30 l0 x11_1).f5)] 30 (0, 0)) (by (with_reducible repeat (first | refine blk_drewN ?_ _ | refine blk_drew ?_ | refine blk_alloc ?_ _)); exact BK568.out)) : gb568 ≠ gb570)); have n6_ := Aside0.mk ((by rw [hg]; exact Nat.ne_of_gt (blk_lt (g := gb568) (o := .cells #[.int .i64 ((rd_T30 l0 x11_1).f0), .int .i64 ((rd_T30 l0 x11_1).f1), .int .i64 ((rd_T30 l0 x11_1).f2), .int .i64 ((rd_T30 l0 x11_1).f3), .int .i64 ((rd_T30 l0 x11_1).f4), .int .i64 ((rd_T30 l0 x11_1).f5)] 30 (0, 0)) (by (with_reducible repeat (first | refine blk_drewN ?_ _ | refine blk_drew ?_ | refine blk_alloc ?_ _)); exact BK568.out)) : gb570 ≠ gb568)); clear BK568; clear HB; have BK568 := n0_; have HB := n1_; have BK570 := n2_; have GW570 := n3_; have GE570 := n4_; have NB568_570 := n5_; have NB570_568 := n6_; clear n0_ n1_ n2_ n3_ n4_ n5_ n6_; clear hb hbox hg; have hnb23 := NB570_568.out; have hnc23 := NB568_570.out; have hcz24_0 : w22.cell? ⟨gb570, 0, none⟩ = some (.int .i64 0) := (blk_cell BK570.out 0).trans rfl; have hcz24_1 : w22.cell? ⟨gb570, 1, none⟩ = some (.int .i64 0) := (blk_cell BK570.out 1).trans rfl; have hcz24_2 : w22.cell? ⟨gb570, 2, none⟩ = some (.int .i64 0) := (blk_cell BK570.out 2).trans rfl; have hcz24_3 : w22.cell? ⟨gb570, 3, none⟩ = some (.int .i64 0) := (blk_cell BK570.out 3).trans rfl; have hcz24_4 : w22.cell? ⟨gb570, 4, none⟩ = some (.int .i64 0) := (blk_cell BK570.out 4).trans rfl; have hcz24_5 : w22.cell? ⟨gb570, 5, none⟩ = some (.int .i64 0) := (blk_cell BK570.out 5).trans rfl; have hfz24_0 := blk_frozen BK570.out 0; have hfz24_1 := blk_frozen BK570.out 1; have hfz24_2 := blk_frozen BK570.out 2; have hfz24_3 := blk_frozen BK570.out 3; have hfz24_4 := blk_frozen BK570.out 4; have hfz24_5 := blk_frozen BK570.out 5; have hcz25_0 : w22.cell? ⟨gb568, 0, none⟩ = some (.int .i64 ((rd_T30 l0 x11_1).f0)) := (blk_cell BK568.out 0).trans rfl; have hcz25_1 : w22.cell? ⟨gb568, 1, none⟩ = some (.int .i64 ((rd_T30 l0 x11_1).f1)) := (blk_cell BK568.out 1).trans rfl; have hcz25_2 : w22.cell? ⟨gb568, 2, none⟩ = some (.int .i64 ((rd_T30 l0 x11_1).f2)) := (blk_cell BK568.out 2).trans rfl; have hcz25_3 : w22.cell? ⟨gb568, 3, none⟩ = some (.int .i64 ((rd_T30 l0 x11_1).f3)) := (blk_cell BK568.out 3).trans rfl; have hcz25_4 : w22.cell? ⟨gb568, 4, none⟩ = some (.int .i64 ((rd_T30 l0 x11_1).f4)) := (blk_cell BK568.out 4).trans rfl; have hcz25_5 : w22.cell? ⟨gb568, 5, none⟩ = some (.int .i64 ((rd_T30 l0 x11_1).f5)) := (blk_cell BK568.out 5).trans rfl; have hfz25_0 := blk_frozen BK568.out 0; have hfz25_1 := blk_frozen BK568.out 1; have hfz25_2 := blk_frozen BK568.out 2; have hfz25_3 := blk_frozen BK568.out 3; have hfz25_4 := blk_frozen BK568.out 4; have hfz25_5 := blk_frozen BK568.out 5))
               go_roundg k2
               case measure => have := HK1.out; have := HK2.out; omega
               case rel => exact ⟨(wrap64 (x7_2 + 1)), (by first | rfl | (simp; done) | (simp [*]; done)), H', ⟨by have := HK1.out; have := HK2.out; omega⟩, ⟨by (with_reducible repeat (first | refine blk_drewN ?_ _ | refine blk_drew ?_ | refine blk_alloc ?_ _)); refine blk_far ?_ NB568_570.out _; (with_reducible repeat (first | refine blk_drewN ?_ _ | refine blk_drew ?_ | refine blk_alloc ?_ _)); refine blk_far ?_ NB568_570.out _; (with_reducible repeat (first | refine blk_drewN ?_ _ | refine blk_drew ?_ | refine blk_alloc ?_ _)); refine blk_far ?_ NB568_570.out _; (with_reducible repeat (first | refine blk_drewN ?_ _ | refine blk_drew ?_ | refine blk_alloc ?_ _)); refine blk_far ?_ NB568_570.out _; (with_reducible repeat (first | refine blk_drewN ?_ _ | refine blk_drew ?_ | refine blk_alloc ?_ _)); refine blk_far ?_ NB568_570.out _; (with_reducible repeat (first | refine blk_drewN ?_ _ | refine blk_drew ?_ | refine blk_alloc ?_ _)); refine blk_far ?_ NB568_570.out _; (with_reducible repeat (first | refine blk_drewN ?_ _ | refine blk_drew ?_ | refine blk_alloc ?_ _)); exact BK568.out⟩, ⟨by repeat (first | (with_reducible first | exact HB.out | apply below_alloc | apply pw_below_drewN | apply below_drew1 | refine below_set ?_ GE568.out | refine below_set ?_ GE570.out) | exact HB.out)⟩⟩
            ·
             rw [if_neg c11] at H
             have c11b0 : (((rd_T30 l0 x11_1).f2) == ((rd_T30 l0 x7_2).f2)) = false := beq_eq_false_iff_ne.mpr c11
             have c11b1 : (((rd_T30 l0 x11_1).f2) != ((rd_T30 l0 x7_2).f2)) = true := bne_iff_ne.mpr c11
             have H' := Aside0.mk H
             clear H
             have p569 : 0 ≤ (x7_2 : Int) := of_decide_eq_true (by first | (with_reducible assumption) | assumption)
             have q569 : x7_2 < (l0.length : Int) := of_decide_eq_true (by first | (with_reducible assumption) | assumption)
             obtain ⟨ad569, e569, hx569_0, hx569_1, hx569_2, hx569_3, hx569_4, hx569_5⟩ := at_T30 HR0.out x7_2 p569 q569
             obtain rfl : ad567 = ad569 := (by injection e569)
             replace hx569_0 := (HB.out.cell (World.block_lt_of_cell? w _ hx569_0)).trans hx569_0
             replace hx569_1 := (HB.out.cell (World.block_lt_of_cell? w _ hx569_1)).trans hx569_1
             replace hx569_2 := (HB.out.cell (World.block_lt_of_cell? w _ hx569_2)).trans hx569_2
             replace hx569_3 := (HB.out.cell (World.block_lt_of_cell? w _ hx569_3)).trans hx569_3
             replace hx569_4 := (HB.out.cell (World.block_lt_of_cell? w _ hx569_4)).trans hx569_4
             replace hx569_5 := (HB.out.cell (World.block_lt_of_cell? w _ hx569_5)).trans hx569_5
             replace p569 := eq_true p569
             replace q569 := eq_true q569
             go_wp2_with (first | ((with_reducible refine gate_dst (N := 8) rfl ?_); refine box_event ?hg (N := 8) ?hd (cs := #[.int .i64 0, .int .i64 0, .int .i64 0, .int .i64 0, .int .i64 0, .int .i64 0]) (t := 30) ?hr ?_; (case hd => rfl); (case hg => rfl); (case hr => first | (go_simp; done) | (go_simp; rfl)); intro gb570 hg w26 hbox hb; have n0_ := Aside0.mk (blk_below (g := gb568) (o := .cells #[.int .i64 ((rd_T30 l0 x11_1).f0), .int .i64 ((rd_T30 l0 x11_1).f1), .int .i64 ((rd_T30 l0 x11_1).f2), .int .i64 ((rd_T30 l0 x11_1).f3), .int .i64 ((rd_T30 l0 x11_1).f4), .int .i64 ((rd_T30 l0 x11_1).f5)] 30 (0, 0)) (by (with_reducible repeat (first | refine blk_drewN ?_ _ | refine blk_drew ?_ | refine blk_alloc ?_ _)); exact BK568.out) hb); have n1_ := Aside0.mk (below_step (by repeat (first | (with_reducible first | exact HB.out | apply below_alloc | apply pw_below_drewN | apply below_drew1 | refine below_set ?_ GE568.out) | exact HB.out)) hb); have n2_ := Aside0.mk (hbox); have n3_ := Aside0.mk ((by rw [hg]; exact (below_size (by repeat (first | (with_reducible first | exact HB.out | apply below_alloc | apply pw_below_drewN | apply below_drew1 | refine below_set ?_ GE568.out) | exact HB.out))) : w.heap.size ≤ gb570)); have n4_ := Aside0.mk ((by rw [hg]; exact (below_size (by repeat (first | (with_reducible first | exact HB.out | apply below_alloc | apply pw_below_drewN | apply below_drew1 | refine below_set ?_ GE568.out) | exact HB.out))) : w.heap.size ≤ gb570)); have n5_ := Aside0.mk ((by rw [hg]; exact Nat.ne_of_lt (blk_lt (g := gb568) (o := .cells #[.int .i64 ((rd_T30 l0 x11_1).f0), .int .i64 ((rd_T30 l0 x11_1).f1), .int .i64 ((rd_T30 l0 x11_1).f2), .int .i64 ((rd_T30 l0 x11_1).f3), .int .i64 ((rd_T30 l0 x11_1).f4), .int .i64 ((rd_T30 l0 x11_1).f5)] 30 (0, 0)) (by (with_reducible repeat (first | refine blk_drewN ?_ _ | refine blk_drew ?_ | refine blk_alloc ?_ _)); exact BK568.out)) : gb568 ≠ gb570)); have n6_ := Aside0.mk ((by rw [hg]; exact Nat.ne_of_gt (blk_lt (g := gb568) (o := .cells #[.int .i64 ((rd_T30 l0 x11_1).f0), .int .i64 ((rd_T30 l0 x11_1).f1), .int .i64 ((rd_T30 l0 x11_1).f2), .int .i64 ((rd_T30 l0 x11_1).f3), .int .i64 ((rd_T30 l0 x11_1).f4), .int .i64 ((rd_T30 l0 x11_1).f5)] 30 (0, 0)) (by (with_reducible repeat (first | refine blk_drewN ?_ _ | refine blk_drew ?_ | refine blk_alloc ?_ _)); exact BK568.out)) : gb570 ≠ gb568)); clear BK568; clear HB; have BK568 := n0_; have HB := n1_; have BK570 := n2_; have GW570 := n3_; have GE570 := n4_; have NB568_570 := n5_; have NB570_568 := n6_; clear n0_ n1_ n2_ n3_ n4_ n5_ n6_; clear hb hbox hg; have hnb27 := NB570_568.out; have hnc27 := NB568_570.out; have hcz28_0 : w26.cell? ⟨gb570, 0, none⟩ = some (.int .i64 0) := (blk_cell BK570.out 0).trans rfl; have hcz28_1 : w26.cell? ⟨gb570, 1, none⟩ = some (.int .i64 0) := (blk_cell BK570.out 1).trans rfl; have hcz28_2 : w26.cell? ⟨gb570, 2, none⟩ = some (.int .i64 0) := (blk_cell BK570.out 2).trans rfl; have hcz28_3 : w26.cell? ⟨gb570, 3, none⟩ = some (.int .i64 0) := (blk_cell BK570.out 3).trans rfl; have hcz28_4 : w26.cell? ⟨gb570, 4, none⟩ = some (.int .i64 0) := (blk_cell BK570.out 4).trans rfl; have hcz28_5 : w26.cell? ⟨gb570, 5, none⟩ = some (.int .i64 0) := (blk_cell BK570.out 5).trans rfl; have hfz28_0 := blk_frozen BK570.out 0; have hfz28_1 := blk_frozen BK570.out 1; have hfz28_2 := blk_frozen BK570.out 2; have hfz28_3 := blk_frozen BK570.out 3; have hfz28_4 := blk_frozen BK570.out 4; have hfz28_5 := blk_frozen BK570.out 5; have hcz29_0 : w26.cell? ⟨gb568, 0, none⟩ = some (.int .i64 ((rd_T30 l0 x11_1).f0)) := (blk_cell BK568.out 0).trans rfl; have hcz29_1 : w26.cell? ⟨gb568, 1, none⟩ = some (.int .i64 ((rd_T30 l0 x11_1).f1)) := (blk_cell BK568.out 1).trans rfl; have hcz29_2 : w26.cell? ⟨gb568, 2, none⟩ = some (.int .i64 ((rd_T30 l0 x11_1).f2)) := (blk_cell BK568.out 2).trans rfl; have hcz29_3 : w26.cell? ⟨gb568, 3, none⟩ = some (.int .i64 ((rd_T30 l0 x11_1).f3)) := (blk_cell BK568.out 3).trans rfl; have hcz29_4 : w26.cell? ⟨gb568, 4, none⟩ = some (.int .i64 ((rd_T30 l0 x11_1).f4)) := (blk_cell BK568.out 4).trans rfl; have hcz29_5 : w26.cell? ⟨gb568, 5, none⟩ = some (.int .i64 ((rd_T30 l0 x11_1).f5)) := (blk_cell BK568.out 5).trans rfl; have hfz29_0 := blk_frozen BK568.out 0; have hfz29_1 := blk_frozen BK568.out 1; have hfz29_2 := blk_frozen BK568.out 2; have hfz29_3 := blk_frozen BK568.out 3; have hfz29_4 := blk_frozen BK568.out 4; have hfz29_5 := blk_frozen BK568.out 5))
             go_roundg k2
             case measure => have := HK1.out; have := HK2.out; omega
             case rel => exact ⟨(wrap64 (x7_2 + 1)), (by first | rfl | (simp; done) | (simp [*]; done)), H', ⟨by have := HK1.out; have := HK2.out; omega⟩, ⟨by (with_reducible repeat (first | refine blk_drewN ?_ _ | refine blk_drew ?_ | refine blk_alloc ?_ _)); refine blk_far ?_ NB568_570.out _; (with_reducible repeat (first | refine blk_drewN ?_ _ | refine blk_drew ?_ | refine blk_alloc ?_ _)); refine blk_far ?_ NB568_570.out _; (with_reducible repeat (first | refine blk_drewN ?_ _ | refine blk_drew ?_ | refine blk_alloc ?_ _)); refine blk_far ?_ NB568_570.out _; (with_reducible repeat (first | refine blk_drewN ?_ _ | refine blk_drew ?_ | refine blk_alloc ?_ _)); refine blk_far ?_ NB568_570.out _; (with_reducible repeat (first | refine blk_drewN ?_ _ | refine blk_drew ?_ | refine blk_alloc ?_ _)); refine blk_far ?_ NB568_570.out _; (with_reducible repeat (first | refine blk_drewN ?_ _ | refine blk_drew ?_ | refine blk_alloc ?_ _)); refine blk_far ?_ NB568_570.out _; (with_reducible repeat (first | refine blk_drewN ?_ _ | refine blk_drew ?_ | refine blk_alloc ?_ _)); exact BK568.out⟩, ⟨by repeat (first | (with_reducible first | exact HB.out | apply below_alloc | apply pw_below_drewN | apply below_drew1 | refine below_set ?_ GE568.out | refine below_set ?_ GE570.out) | exact HB.out)⟩⟩
           ·
            rw [if_neg c10] at H
            have c10b0 : (((rd_T30 l0 x11_1).f3) == ((rd_T30 l0 x7_2).f3)) = false := beq_eq_false_iff_ne.mpr c10
            have c10b1 : (((rd_T30 l0 x11_1).f3) != ((rd_T30 l0 x7_2).f3)) = true := bne_iff_ne.mpr c10
            have H' := Aside0.mk H
            clear H
            have p569 : 0 ≤ (x7_2 : Int) := of_decide_eq_true (by first | (with_reducible assumption) | assumption)
            have q569 : x7_2 < (l0.length : Int) := of_decide_eq_true (by first | (with_reducible assumption) | assumption)
            obtain ⟨ad569, e569, hx569_0, hx569_1, hx569_2, hx569_3, hx569_4, hx569_5⟩ := at_T30 HR0.out x7_2 p569 q569
            obtain rfl : ad567 = ad569 := (by injection e569)
            replace hx569_0 := (HB.out.cell (World.block_lt_of_cell? w _ hx569_0)).trans hx569_0
            replace hx569_1 := (HB.out.cell (World.block_lt_of_cell? w _ hx569_1)).trans hx569_1
            replace hx569_2 := (HB.out.cell (World.block_lt_of_cell? w _ hx569_2)).trans hx569_2
            replace hx569_3 := (HB.out.cell (World.block_lt_of_cell? w _ hx569_3)).trans hx569_3
            replace hx569_4 := (HB.out.cell (World.block_lt_of_cell? w _ hx569_4)).trans hx569_4
            replace hx569_5 := (HB.out.cell (World.block_lt_of_cell? w _ hx569_5)).trans hx569_5
            replace p569 := eq_true p569
            replace q569 := eq_true q569
            go_wp2_with (first | ((with_reducible refine gate_dst (N := 8) rfl ?_); refine box_event ?hg (N := 8) ?hd (cs := #[.int .i64 0, .int .i64 0, .int .i64 0, .int .i64 0, .int .i64 0, .int .i64 0]) (t := 30) ?hr ?_; (case hd => rfl); (case hg => rfl); (case hr => first | (go_simp; done) | (go_simp; rfl)); intro gb570 hg w30 hbox hb; have n0_ := Aside0.mk (blk_below (g := gb568) (o := .cells #[.int .i64 ((rd_T30 l0 x11_1).f0), .int .i64 ((rd_T30 l0 x11_1).f1), .int .i64 ((rd_T30 l0 x11_1).f2), .int .i64 ((rd_T30 l0 x11_1).f3), .int .i64 ((rd_T30 l0 x11_1).f4), .int .i64 ((rd_T30 l0 x11_1).f5)] 30 (0, 0)) (by (with_reducible repeat (first | refine blk_drewN ?_ _ | refine blk_drew ?_ | refine blk_alloc ?_ _)); exact BK568.out) hb); have n1_ := Aside0.mk (below_step (by repeat (first | (with_reducible first | exact HB.out | apply below_alloc | apply pw_below_drewN | apply below_drew1 | refine below_set ?_ GE568.out) | exact HB.out)) hb); have n2_ := Aside0.mk (hbox); have n3_ := Aside0.mk ((by rw [hg]; exact (below_size (by repeat (first | (with_reducible first | exact HB.out | apply below_alloc | apply pw_below_drewN | apply below_drew1 | refine below_set ?_ GE568.out) | exact HB.out))) : w.heap.size ≤ gb570)); have n4_ := Aside0.mk ((by rw [hg]; exact (below_size (by repeat (first | (with_reducible first | exact HB.out | apply below_alloc | apply pw_below_drewN | apply below_drew1 | refine below_set ?_ GE568.out) | exact HB.out))) : w.heap.size ≤ gb570)); have n5_ := Aside0.mk ((by rw [hg]; exact Nat.ne_of_lt (blk_lt (g := gb568) (o := .cells #[.int .i64 ((rd_T30 l0 x11_1).f0), .int .i64 ((rd_T30 l0 x11_1).f1), .int .i64 ((rd_T30 l0 x11_1).f2), .int .i64 ((rd_T30 l0 x11_1).f3), .int .i64 ((rd_T30 l0 x11_1).f4), .int .i64 ((rd_T30 l0 x11_1).f5)] 30 (0, 0)) (by (with_reducible repeat (first | refine blk_drewN ?_ _ | refine blk_drew ?_ | refine blk_alloc ?_ _)); exact BK568.out)) : gb568 ≠ gb570)); have n6_ := Aside0.mk ((by rw [hg]; exact Nat.ne_of_gt (blk_lt (g := gb568) (o := .cells #[.int .i64 ((rd_T30 l0 x11_1).f0), .int .i64 ((rd_T30 l0 x11_1).f1), .int .i64 ((rd_T30 l0 x11_1).f2), .int .i64 ((rd_T30 l0 x11_1).f3), .int .i64 ((rd_T30 l0 x11_1).f4), .int .i64 ((rd_T30 l0 x11_1).f5)] 30 (0, 0)) (by (with_reducible repeat (first | refine blk_drewN ?_ _ | refine blk_drew ?_ | refine blk_alloc ?_ _)); exact BK568.out)) : gb570 ≠ gb568)); clear BK568; clear HB; have BK568 := n0_; have HB := n1_; have BK570 := n2_; have GW570 := n3_; have GE570 := n4_; have NB568_570 := n5_; have NB570_568 := n6_; clear n0_ n1_ n2_ n3_ n4_ n5_ n6_; clear hb hbox hg; have hnb31 := NB570_568.out; have hnc31 := NB568_570.out; have hcz32_0 : w30.cell? ⟨gb570, 0, none⟩ = some (.int .i64 0) := (blk_cell BK570.out 0).trans rfl; have hcz32_1 : w30.cell? ⟨gb570, 1, none⟩ = some (.int .i64 0) := (blk_cell BK570.out 1).trans rfl; have hcz32_2 : w30.cell? ⟨gb570, 2, none⟩ = some (.int .i64 0) := (blk_cell BK570.out 2).trans rfl; have hcz32_3 : w30.cell? ⟨gb570, 3, none⟩ = some (.int .i64 0) := (blk_cell BK570.out 3).trans rfl; have hcz32_4 : w30.cell? ⟨gb570, 4, none⟩ = some (.int .i64 0) := (blk_cell BK570.out 4).trans rfl; have hcz32_5 : w30.cell? ⟨gb570, 5, none⟩ = some (.int .i64 0) := (blk_cell BK570.out 5).trans rfl; have hfz32_0 := blk_frozen BK570.out 0; have hfz32_1 := blk_frozen BK570.out 1; have hfz32_2 := blk_frozen BK570.out 2; have hfz32_3 := blk_frozen BK570.out 3; have hfz32_4 := blk_frozen BK570.out 4; have hfz32_5 := blk_frozen BK570.out 5; have hcz33_0 : w30.cell? ⟨gb568, 0, none⟩ = some (.int .i64 ((rd_T30 l0 x11_1).f0)) := (blk_cell BK568.out 0).trans rfl; have hcz33_1 : w30.cell? ⟨gb568, 1, none⟩ = some (.int .i64 ((rd_T30 l0 x11_1).f1)) := (blk_cell BK568.out 1).trans rfl; have hcz33_2 : w30.cell? ⟨gb568, 2, none⟩ = some (.int .i64 ((rd_T30 l0 x11_1).f2)) := (blk_cell BK568.out 2).trans rfl; have hcz33_3 : w30.cell? ⟨gb568, 3, none⟩ = some (.int .i64 ((rd_T30 l0 x11_1).f3)) := (blk_cell BK568.out 3).trans rfl; have hcz33_4 : w30.cell? ⟨gb568, 4, none⟩ = some (.int .i64 ((rd_T30 l0 x11_1).f4)) := (blk_cell BK568.out 4).trans rfl; have hcz33_5 : w30.cell? ⟨gb568, 5, none⟩ = some (.int .i64 ((rd_T30 l0 x11_1).f5)) := (blk_cell BK568.out 5).trans rfl; have hfz33_0 := blk_frozen BK568.out 0; have hfz33_1 := blk_frozen BK568.out 1; have hfz33_2 := blk_frozen BK568.out 2; have hfz33_3 := blk_frozen BK568.out 3; have hfz33_4 := blk_frozen BK568.out 4; have hfz33_5 := blk_frozen BK568.out 5))
            go_roundg k2
            case measure => have := HK1.out; have := HK2.out; omega
            case rel => exact ⟨(wrap64 (x7_2 + 1)), (by first | rfl | (simp; done) | (simp [*]; done)), H', ⟨by have := HK1.out; have := HK2.out; omega⟩, ⟨by (with_reducible repeat (first | refine blk_drewN ?_ _ | refine blk_drew ?_ | refine blk_alloc ?_ _)); refine blk_far ?_ NB568_570.out _; (with_reducible repeat (first | refine blk_drewN ?_ _ | refine blk_drew ?_ | refine blk_alloc ?_ _)); refine blk_far ?_ NB568_570.out _; (with_reducible repeat (first | refine blk_drewN ?_ _ | refine blk_drew ?_ | refine blk_alloc ?_ _)); refine blk_far ?_ NB568_570.out _; (with_reducible repeat (first | refine blk_drewN ?_ _ | refine blk_drew ?_ | refine blk_alloc ?_ _)); refine blk_far ?_ NB568_570.out _; (with_reducible repeat (first | refine blk_drewN ?_ _ | refine blk_drew ?_ | refine blk_alloc ?_ _)); refine blk_far ?_ NB568_570.out _; (with_reducible repeat (first | refine blk_drewN ?_ _ | refine blk_drew ?_ | refine blk_alloc ?_ _)); refine blk_far ?_ NB568_570.out _; (with_reducible repeat (first | refine blk_drewN ?_ _ | refine blk_drew ?_ | refine blk_alloc ?_ _)); exact BK568.out⟩, ⟨by repeat (first | (with_reducible first | exact HB.out | apply below_alloc | apply pw_below_drewN | apply below_drew1 | refine below_set ?_ GE568.out | refine below_set ?_ GE570.out) | exact HB.out)⟩⟩
          ·
           rw [if_neg c9] at H
           have c9b0 : (((rd_T30 l0 x11_1).f1) == ((rd_T30 l0 x7_2).f1)) = false := beq_eq_false_iff_ne.mpr c9
           have c9b1 : (((rd_T30 l0 x11_1).f1) != ((rd_T30 l0 x7_2).f1)) = true := bne_iff_ne.mpr c9
           have H' := Aside0.mk H
           clear H
           have p569 : 0 ≤ (x7_2 : Int) := of_decide_eq_true (by first | (with_reducible assumption) | assumption)
           have q569 : x7_2 < (l0.length : Int) := of_decide_eq_true (by first | (with_reducible assumption) | assumption)
           obtain ⟨ad569, e569, hx569_0, hx569_1, hx569_2, hx569_3, hx569_4, hx569_5⟩ := at_T30 HR0.out x7_2 p569 q569
           obtain rfl : ad567 = ad569 := (by injection e569)
           replace hx569_0 := (HB.out.cell (World.block_lt_of_cell? w _ hx569_0)).trans hx569_0
           replace hx569_1 := (HB.out.cell (World.block_lt_of_cell? w _ hx569_1)).trans hx569_1
           replace hx569_2 := (HB.out.cell (World.block_lt_of_cell? w _ hx569_2)).trans hx569_2
           replace hx569_3 := (HB.out.cell (World.block_lt_of_cell? w _ hx569_3)).trans hx569_3
           replace hx569_4 := (HB.out.cell (World.block_lt_of_cell? w _ hx569_4)).trans hx569_4
           replace hx569_5 := (HB.out.cell (World.block_lt_of_cell? w _ hx569_5)).trans hx569_5
           replace p569 := eq_true p569
           replace q569 := eq_true q569
           go_wp2_with (first | ((with_reducible refine gate_dst (N := 8) rfl ?_); refine box_event ?hg (N := 8) ?hd (cs := #[.int .i64 0, .int .i64 0, .int .i64 0, .int .i64 0, .int .i64 0, .int .i64 0]) (t := 30) ?hr ?_; (case hd => rfl); (case hg => rfl); (case hr => first | (go_simp; done) | (go_simp; rfl)); intro gb570 hg w34 hbox hb; have n0_ := Aside0.mk (blk_below (g := gb568) (o := .cells #[.int .i64 ((rd_T30 l0 x11_1).f0), .int .i64 ((rd_T30 l0 x11_1).f1), .int .i64 ((rd_T30 l0 x11_1).f2), .int .i64 ((rd_T30 l0 x11_1).f3), .int .i64 ((rd_T30 l0 x11_1).f4), .int .i64 ((rd_T30 l0 x11_1).f5)] 30 (0, 0)) (by (with_reducible repeat (first | refine blk_drewN ?_ _ | refine blk_drew ?_ | refine blk_alloc ?_ _)); exact BK568.out) hb); have n1_ := Aside0.mk (below_step (by repeat (first | (with_reducible first | exact HB.out | apply below_alloc | apply pw_below_drewN | apply below_drew1 | refine below_set ?_ GE568.out) | exact HB.out)) hb); have n2_ := Aside0.mk (hbox); have n3_ := Aside0.mk ((by rw [hg]; exact (below_size (by repeat (first | (with_reducible first | exact HB.out | apply below_alloc | apply pw_below_drewN | apply below_drew1 | refine below_set ?_ GE568.out) | exact HB.out))) : w.heap.size ≤ gb570)); have n4_ := Aside0.mk ((by rw [hg]; exact (below_size (by repeat (first | (with_reducible first | exact HB.out | apply below_alloc | apply pw_below_drewN | apply below_drew1 | refine below_set ?_ GE568.out) | exact HB.out))) : w.heap.size ≤ gb570)); have n5_ := Aside0.mk ((by rw [hg]; exact Nat.ne_of_lt (blk_lt (g := gb568) (o := .cells #[.int .i64 ((rd_T30 l0 x11_1).f0), .int .i64 ((rd_T30 l0 x11_1).f1), .int .i64 ((rd_T30 l0 x11_1).f2), .int .i64 ((rd_T30 l0 x11_1).f3), .int .i64 ((rd_T30 l0 x11_1).f4), .int .i64 ((rd_T30 l0 x11_1).f5)] 30 (0, 0)) (by (with_reducible repeat (first | refine blk_drewN ?_ _ | refine blk_drew ?_ | refine blk_alloc ?_ _)); exact BK568.out)) : gb568 ≠ gb570)); have n6_ := Aside0.mk ((by rw [hg]; exact Nat.ne_of_gt (blk_lt (g := gb568) (o := .cells #[.int .i64 ((rd_T30 l0 x11_1).f0), .int .i64 ((rd_T30 l0 x11_1).f1), .int .i64 ((rd_T30 l0 x11_1).f2), .int .i64 ((rd_T30 l0 x11_1).f3), .int .i64 ((rd_T30 l0 x11_1).f4), .int .i64 ((rd_T30 l0 x11_1).f5)] 30 (0, 0)) (by (with_reducible repeat (first | refine blk_drewN ?_ _ | refine blk_drew ?_ | refine blk_alloc ?_ _)); exact BK568.out)) : gb570 ≠ gb568)); clear BK568; clear HB; have BK568 := n0_; have HB := n1_; have BK570 := n2_; have GW570 := n3_; have GE570 := n4_; have NB568_570 := n5_; have NB570_568 := n6_; clear n0_ n1_ n2_ n3_ n4_ n5_ n6_; clear hb hbox hg; have hnb35 := NB570_568.out; have hnc35 := NB568_570.out; have hcz36_0 : w34.cell? ⟨gb570, 0, none⟩ = some (.int .i64 0) := (blk_cell BK570.out 0).trans rfl; have hcz36_1 : w34.cell? ⟨gb570, 1, none⟩ = some (.int .i64 0) := (blk_cell BK570.out 1).trans rfl; have hcz36_2 : w34.cell? ⟨gb570, 2, none⟩ = some (.int .i64 0) := (blk_cell BK570.out 2).trans rfl; have hcz36_3 : w34.cell? ⟨gb570, 3, none⟩ = some (.int .i64 0) := (blk_cell BK570.out 3).trans rfl; have hcz36_4 : w34.cell? ⟨gb570, 4, none⟩ = some (.int .i64 0) := (blk_cell BK570.out 4).trans rfl; have hcz36_5 : w34.cell? ⟨gb570, 5, none⟩ = some (.int .i64 0) := (blk_cell BK570.out 5).trans rfl; have hfz36_0 := blk_frozen BK570.out 0; have hfz36_1 := blk_frozen BK570.out 1; have hfz36_2 := blk_frozen BK570.out 2; have hfz36_3 := blk_frozen BK570.out 3; have hfz36_4 := blk_frozen BK570.out 4; have hfz36_5 := blk_frozen BK570.out 5; have hcz37_0 : w34.cell? ⟨gb568, 0, none⟩ = some (.int .i64 ((rd_T30 l0 x11_1).f0)) := (blk_cell BK568.out 0).trans rfl; have hcz37_1 : w34.cell? ⟨gb568, 1, none⟩ = some (.int .i64 ((rd_T30 l0 x11_1).f1)) := (blk_cell BK568.out 1).trans rfl; have hcz37_2 : w34.cell? ⟨gb568, 2, none⟩ = some (.int .i64 ((rd_T30 l0 x11_1).f2)) := (blk_cell BK568.out 2).trans rfl; have hcz37_3 : w34.cell? ⟨gb568, 3, none⟩ = some (.int .i64 ((rd_T30 l0 x11_1).f3)) := (blk_cell BK568.out 3).trans rfl; have hcz37_4 : w34.cell? ⟨gb568, 4, none⟩ = some (.int .i64 ((rd_T30 l0 x11_1).f4)) := (blk_cell BK568.out 4).trans rfl; have hcz37_5 : w34.cell? ⟨gb568, 5, none⟩ = some (.int .i64 ((rd_T30 l0 x11_1).f5)) := (blk_cell BK568.out 5).trans rfl; have hfz37_0 := blk_frozen BK568.out 0; have hfz37_1 := blk_frozen BK568.out 1; have hfz37_2 := blk_frozen BK568.out 2; have hfz37_3 := blk_frozen BK568.out 3; have hfz37_4 := blk_frozen BK568.out 4; have hfz37_5 := blk_frozen BK568.out 5))
           go_roundg k2
           case measure => have := HK1.out; have := HK2.out; omega
           case rel => exact ⟨(wrap64 (x7_2 + 1)), (by first | rfl | (simp; done) | (simp [*]; done)), H', ⟨by have := HK1.out; have := HK2.out; omega⟩, ⟨by (with_reducible repeat (first | refine blk_drewN ?_ _ | refine blk_drew ?_ | refine blk_alloc ?_ _)); refine blk_far ?_ NB568_570.out _; (with_reducible repeat (first | refine blk_drewN ?_ _ | refine blk_drew ?_ | refine blk_alloc ?_ _)); refine blk_far ?_ NB568_570.out _; (with_reducible repeat (first | refine blk_drewN ?_ _ | refine blk_drew ?_ | refine blk_alloc ?_ _)); refine blk_far ?_ NB568_570.out _; (with_reducible repeat (first | refine blk_drewN ?_ _ | refine blk_drew ?_ | refine blk_alloc ?_ _)); refine blk_far ?_ NB568_570.out _; (with_reducible repeat (first | refine blk_drewN ?_ _ | refine blk_drew ?_ | refine blk_alloc ?_ _)); refine blk_far ?_ NB568_570.out _; (with_reducible repeat (first | refine blk_drewN ?_ _ | refine blk_drew ?_ | refine blk_alloc ?_ _)); refine blk_far ?_ NB568_570.out _; (with_reducible repeat (first | refine blk_drewN ?_ _ | refine blk_drew ?_ | refine blk_alloc ?_ _)); exact BK568.out⟩, ⟨by repeat (first | (with_reducible first | exact HB.out | apply below_alloc | apply pw_below_drewN | apply below_drew1 | refine below_set ?_ GE568.out | refine below_set ?_ GE570.out) | exact HB.out)⟩⟩
         ·
          rw [if_neg c8] at H
          exact absurd H (by simp)
        ·
         rw [if_neg c7] at H
         have c7b0 : decide (x7_2 < (l0.length : Int)) = false := decide_eq_false c7
         clear c7
         have H' := Aside0.mk H
         clear H
         go_wp2
         go_roundg k2
         case measure => have := HK1.out; have := HK2.out; omega
         case rel => exact ⟨(wrap64 (x11_1 + 1)), (by first | rfl | (simp; done) | (simp [*]; done)), H', ⟨by have := HK1.out; have := HK2.out; omega⟩, ⟨by repeat (first | (with_reducible first | exact HB.out | apply below_alloc | apply pw_below_drewN | apply below_drew1 | refine below_set ?_ GE568.out) | exact HB.out)⟩⟩
     ·
      rw [if_neg c4] at H
      exact absurd H (by simp)
    ·
     rw [if_neg c3] at H
     exact absurd H (by simp)
   ·
    rw [if_neg c2] at H
    have c2b0 : decide (x11_1 < (l0.length : Int)) = false := decide_eq_false c2
    clear c2
    simp only [Option.some.injEq, Prod.mk.injEq] at H
    obtain ⟨rfl, rfl, rfl⟩ := H
    go_wp2
    go_ret3
    exact ⟨by first | rfl | (simp [errW_none, errW_some] <;> rfl) | (simp [*, errW_none, errW_some] <;> rfl), by repeat (first | (with_reducible first | exact HB.out | apply below_alloc | apply pw_below_drewN | apply below_drew1) | exact HB.out)⟩

end Go.Proofs.Ythmkgdlmegohoaa.Q
